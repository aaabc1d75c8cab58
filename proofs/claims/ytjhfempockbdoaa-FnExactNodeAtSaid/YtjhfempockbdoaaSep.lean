/- Kinds whose inner rows lie apart at every depth (trees of one's own): two in line whose blocks are apart, a row of elements that lie apart; such a kind nested in itself. No conditions. -/
import Derived.Test.YtjhfempockbdoaaWApart
import Derived.Test.YtjhfempockbdoaaWKept
namespace Go.Proofs.Ytjhfempockbdoaa.Sep
open Go.RowKit Go.Proofs.YtjhfempockbdoaaW.PrintWords
/-- Two in line, the blocks of the one (p) none of the other's. -/
def apart {α β : Type} (a:Kd α) (b:Kd β):Kd (α × β) where
 sz:=a.sz+b.sz
 E:=a.E++b.E
 K:=fun w x cs=>∃ c0 c1,cs=c0++c1∧a.K w x.1 c0∧b.K w x.2 c1
 M:=fun w base ok x cs=>∃ c0 c1,∃ p:Nat→Prop,cs=c0++c1∧a.M w base (fun k=>ok k∧p k) x.1 c0∧b.M w base (fun k=>ok k∧¬ p k) x.2 c1
 K_len:=by
  rintro w x cs ⟨c0,c1,rfl,h0,h1⟩
  rw [List.length_append,a.K_len h0,b.K_len h1]
 K_one:=by
  rintro w x cs ⟨c0,c1,rfl,h0,h1⟩ u hu
  rcases List.mem_append.1 hu with hu|hu
  ·exact a.K_one h0 u hu
  ·exact b.K_one h1 u hu
 K_below:=by
  rintro w w1 x cs hb ⟨c0,c1,rfl,h0,h1⟩
  exact ⟨c0,c1,rfl,a.K_below hb h0,b.K_below hb h1⟩
 K_of_M:=by
  rintro w base ok x cs ⟨c0,c1,p,rfl,h0,h1⟩
  exact ⟨c0,c1,rfl,a.K_of_M h0,b.K_of_M h1⟩
 M_mono:=by
  rintro w base ok ok' x cs hok ⟨c0,c1,p,rfl,h0,h1⟩
  exact ⟨c0,c1,p,rfl,a.M_mono (fun k hk=>⟨hok k hk.1,hk.2⟩) h0,b.M_mono (fun k hk=>⟨hok k hk.1,hk.2⟩) h1⟩
 M_bound:=by
  rintro w base ok x cs ⟨c0,c1,p,rfl,h0,h1⟩
  refine ⟨c0,c1,p,rfl,a.M_mono ?_ (a.M_bound h0),b.M_mono ?_ (b.M_bound h1)⟩
  ·rintro k ⟨⟨h2,h5⟩,h3,h4,q,hq,hc⟩
   exact ⟨⟨h2,h3,h4,q,List.mem_append_left _ hq,hc⟩,h5⟩
  ·rintro k ⟨⟨h2,h5⟩,h3,h4,q,hq,hc⟩
   exact ⟨⟨h2,h3,h4,q,List.mem_append_right _ hq,hc⟩,h5⟩
 M_move:=by
  rintro w w1 base ok x cs hm ⟨c0,c1,p,rfl,h0,h1⟩
  exact ⟨c0,c1,p,rfl,a.M_move (fun k hk=>hm k hk.1) h0,b.M_move (fun k hk=>hm k hk.1) h1⟩
 M_lower:=by
  rintro w base base' ok x cs hb ⟨c0,c1,p,rfl,h0,h1⟩
  exact ⟨c0,c1,p,rfl,a.M_lower hb h0,b.M_lower hb h1⟩
/-- A row whose elements lie apart. -/
def sliceS {α : Type} (e:Nat) (d:Kd α):Kd (List α) where
 sz:=1
 E:=e :: d.E
 K:=(Kd.slice e d).K
 M:=fun w base ok xs cs=>∃ v,cs=[v]∧Kd.S d e w base ok v xs
 K_len:=(Kd.slice e d).K_len
 K_one:=(Kd.slice e d).K_one
 K_below:=(Kd.slice e d).K_below
 K_of_M:=by
  rintro w base ok x cs ⟨v,rfl,h⟩
  obtain ⟨A,c,rfl,hl,hr⟩:=Kd.S_reads h
  exact ⟨A,c,rfl,hl,hr⟩
 M_mono:=by
  rintro w base ok ok' x cs hok ⟨v,rfl,h⟩
  exact ⟨v,rfl,Kd.S_mono h hok⟩
 M_bound:=by
  rintro w base ok x cs ⟨v,rfl,h⟩
  exact ⟨v,rfl,Kd.S_bound h⟩
 M_move:=by
  rintro w w1 base ok x cs hm ⟨v,rfl,h⟩
  exact ⟨v,rfl,Kd.S_move h hm⟩
 M_lower:=by
  rintro w base base' ok x cs hb ⟨v,rfl,h⟩
  exact ⟨v,rfl,Kd.S_lower h hb⟩
theorem S_imp {α : Type} {d d':Kd α} (hs:d.sz=d'.sz) (h:∀ w base ok x cs,d.M w base ok x cs→d'.M w base ok x cs) {e:Nat} {w:World} {base:Nat} {ok:Nat→Prop} {v:Value} {xs:List α} (hr:Kd.S d e w base ok v xs):Kd.S d' e w base ok v xs:=by
 obtain ⟨f,hr⟩:=hr
 exact ⟨f,Kd.R_imp (d:=Kd.tag f d) (d':=Kd.tag f d') hs (fun w base ok x cs hp=>h w base _ x.1 cs hp) hr⟩
theorem mono_sliceS {α β : Type} (e:Nat) {G:Kd α → Kd β} (hG:Kd.Mono G):Kd.Mono (fun d=>sliceS e (G d)):=by
 refine ⟨fun _ _ _=>rfl,?_,?_⟩
 ·rintro d d' hs h w x cs ⟨A,c,rfl,hl,hr⟩
  exact ⟨A,c,rfl,hl,Kd.C_imp (hG.sz d d' hs) (hG.K d d' hs h) hr⟩
 ·rintro d d' hs h w base ok x cs ⟨v,rfl,hr⟩
  exact ⟨v,rfl,S_imp (hG.sz d d' hs) (hG.M d d' hs h) hr⟩
theorem mono_apart {α β γ : Type} {G:Kd α → Kd β} {H:Kd α → Kd γ} (hG:Kd.Mono G) (hH:Kd.Mono H):Kd.Mono (fun d=>apart (G d) (H d)):=by
 refine ⟨fun d d' hs=>?_,?_,?_⟩
 ·show (G d).sz+(H d).sz=(G d').sz+(H d').sz
  rw [hG.sz d d' hs,hH.sz d d' hs]
 ·rintro d d' hs h w x cs ⟨c0,c1,rfl,h0,h1⟩
  exact ⟨c0,c1,rfl,hG.K d d' hs h _ _ _ h0,hH.K d d' hs h _ _ _ h1⟩
 ·rintro d d' hs h w base ok x cs ⟨c0,c1,p,rfl,h0,h1⟩
  exact ⟨c0,c1,p,rfl,hG.M d d' hs h _ _ _ _ _ h0,hH.M d d' hs h _ _ _ _ _ h1⟩
theorem sub_sliceS {α β : Type} {E:List Nat} (e:Nat) {G:Kd α → Kd β} (he:e∈E) (hG:Kd.Sub G E):Kd.Sub (fun d=>sliceS e (G d)) E:=fun d h q hq=>by
 rcases List.mem_cons.1 hq with rfl|hq
 ·exact he
 ·exact hG d h q hq
theorem sub_apart {α β γ : Type} {E:List Nat} {G:Kd α → Kd β} {H:Kd α → Kd γ} (hG:Kd.Sub G E) (hH:Kd.Sub H E):Kd.Sub (fun d=>apart (G d) (H d)) E:=fun d h q hq=>by
 rcases List.mem_append.1 hq with hq|hq
 ·exact hG d h q hq
 ·exact hH d h q hq
section
variable {α : Type} {F:Kd α → Kd α} {sz:Nat} {E:List Nat} {hs:∀ n,(Kd.upto F sz E n).sz=sz} {hE:∀ n q,q∈(Kd.upto F sz E n).E→q∈E}
theorem fix_S {n:Nat} {e:Nat} {w:World} {base:Nat} {ok:Nat→Prop} {v:Value} {xs:List α} (h:Kd.S (Kd.upto F sz E n) e w base ok v xs):Kd.S (Kd.fix F sz E hs hE) e w base ok v xs :=
 S_imp (d':=Kd.fix F sz E hs hE) (hs n) (fun w base ok x cs hp=>(⟨n,hp⟩:∃ n,(Kd.upto F sz E n).M w base ok x cs)) h
theorem fix_S_back (hm:Kd.Mono F) {e:Nat} {w:World} {base:Nat} {ok:Nat→Prop} {v:Value} {xs:List α} (h:Kd.S (Kd.fix F sz E hs hE) e w base ok v xs):∃ n,Kd.S (Kd.upto F sz E n) e w base ok v xs:=by
 obtain ⟨f,h0,inner,ho,hr⟩:=h
 obtain ⟨N,hN⟩:=Kd.reps_bounded (R:=fun (n:Nat) (p : α × Nat) (c:List Value)=>(Kd.upto F sz E n).M w base (fun k=>(ok k∧some k≠v.ownBlock)∧f k=p.2) p.1 c) (fun n m p c hnm hp=>Kd.upto_M_le hm hs hnm hp) hr
 refine ⟨N,f,h0,inner,?_,?_⟩
 ·show w.ownsRow base e (Kd.upto F sz E N).sz v xs.zipIdx.length inner
  rw [hs N];exact ho
 ·show Reps _ (Kd.upto F sz E N).sz xs.zipIdx inner
  rw [hs N];exact hN
end
section
variable {P:Program} {ops:Array Oper} {rest:List Oper} {o:Oper} {a:Act} {Q:Exit→Act→World→Prop} {α : Type}
theorem S_of_tag {d:Kd α} {f:Nat→Nat} {e:Nat} {w:World} {base:Nat} {ok:Nat→Prop} {v:Value} (h:(Kd.tag f d).R e w base ok v ([]:List (α × Nat))):Kd.S d e w base ok v ([]:List α):=⟨f,h⟩
open Classical in
/-- append of one element whose blocks are none of the row's. -/
theorem S_append (d:Kd α) {w0 W:World} (base:Nat) (hgd:o.guard=none) (s x:Operand) (t e:TypeId) (z:Value) (bytes:Nat)
 (ho:o.op=.call { callee:=.builtin .append,args:=#[s,x],argTypes:=#[t,t] })
 (ht:P.underlying t=some (.slice e)) (hinfo:(P.info? e).map (fun i=>(i.zero,i.size,i.bytes))=some (some z,d.sz,bytes)) (hz:z.cells.size=d.sz) (hs0:0<d.sz) (hb0:0<bytes)
 (v:Value) (xs:List α) (p : α) (cs:List Value) (ok okp:Nat→Prop) (hs:a.eval s=v) (hx:a.eval x=.slice (some ⟨W.heap.size,0,none⟩) 1 1) (hp:d.M W base okp p cs) (hokp:∀ k,okp k→ok k) (hfresh:∀ k,W.heap.size≤k→ok k)
 (HO:Kd.S d e W base (fun k=>ok k∧¬ okp k) v xs) (HB:Below base w0 W) (hbase:base≤W.heap.size) (hl:(xs.length+1) * bytes≤140737488355328)
 (h:∀ v1 w1,Kd.S d e w1 base ok v1 (xs++[p])→Below base w0 w1→W.grownBy w1 v.ownBlock→(v1.ownBlock=v.ownBlock∨∃ b,v1.ownBlock=some b∧W.heap.size≤b)→wpList P ops Q rest (a.put o.dst v1) w1) :
 wpList P ops Q (o :: rest) a (W.alloc (.cells cs.toArray e)):=by
 obtain ⟨f,hR⟩:=HO
 have h0:∀ k,some k=v.ownBlock→¬ okp k:=fun k hk=>(hR.1 k hk.symm).2
 refine Kd.R_append (Kd.tag (fun k=>if okp k then xs.length else f k) d) (w0:=w0) base hgd s x t e z bytes ho ht hinfo hz hs0 hb0 v xs.zipIdx (p,xs.length) cs ok okp hs hx (d.M_mono (fun k hk=>⟨hk,if_pos hk⟩) hp) (fun k hk=>⟨hokp k hk,fun he=>h0 k he hk⟩) hfresh ?_ HB hbase (by rw [List.length_zipIdx];exact hl) ?_
 ·obtain ⟨h1,inner,hown,hr⟩:=hR
  exact ⟨fun k hk=>(h1 k hk).1,inner,hown,hr.imp_ (fun p c hp=>d.M_mono (fun k hk=>⟨⟨hk.1.1.1,hk.1.2⟩,(if_neg hk.1.1.2).trans hk.2⟩) hp)⟩
 ·intro v1 w1 hr hb hg hat
  refine h v1 w1 ⟨fun k=>if okp k then xs.length else f k,?_⟩ hb hg hat
  rw [List.zipIdx_append,List.zipIdx_singleton,Nat.zero_add]
  exact hr
end
end Go.Proofs.Ytjhfempockbdoaa.Sep
