/- By a program of this session, out of the kit's print and contracts made by hand: the machine side of a law; Lean checks it. No conditions. -/
import Derived.Test.YtjlikemmhjclpaaPFnExactCleanx0
import Derived.Test.YtjlikemmhjclpaaPFnExactCleanx23
namespace Go.Proofs.Ytjlikemmhjclpaa.PFnExactClean
open Go.RowKit Go.Proofs.YtjlikemmhjclpaaW.PrintWords Go.Proofs.YtjlikemmhjclpaaW.PrintLast Go.Proofs.YtjlikemmhjclpaaW.PrintMore
attribute [local go_sem] max2_int min2_int max_two min_two max_three min_three max_four min_four
set_option linter.unusedVariables false
set_option linter.unusedSimpArgs false
/-! ### impl_TreeOK: function 25, by hand -/
def treeB (l:List S44):Bool:=(kidsI (nodeI 10) l 0).1
def impl_TreeOK.f (l0:List S44):Option Bool:=if ∀ y∈l0,fitB 10 y=true then some (treeB l0) else none
theorem impl_TreeOK.fit {l0:List S44} (h:∀ y∈l0,fitB 10 y=true):impl_TreeOK.f l0=some (treeB l0):=by
 unfold impl_TreeOK.f
 rw [if_pos h]
set_option maxHeartbeats 1000000 in
theorem impl_TreeOK.calls (A0:Option Addr) (c0:Nat) (l0:List S44) (r:Bool) (w:World) (hr0:Kd.C k44 w A0 l0.length l0) (hc0:l0.length≤c0) (h:impl_TreeOK.f l0=some r) :
 Calls Try.prog 25 #[.slice A0 l0.length c0] w fun e w'=>e=.returned (.bool r)∧Below w.heap.size w w':=by
 by_cases hfit:∀ y∈l0,fitB 10 y=true
 case neg =>
  unfold impl_TreeOK.f at h
  rw [if_neg hfit] at h
  cases h
 case pos =>
  rw [impl_TreeOK.fit hfit] at h
  obtain rfl:=oi_ h
  unfold treeB
  obtain ⟨R,hR⟩:∃ R,kidsI (nodeI 10) l0 0=R:=⟨_,rfl⟩
  rw [hR]
  have HR:=A_ hR
  have hL:l0.length≤9223372036854775807:=hr0.2.1
  have HFIT:=A_ hfit
  have HR0:=A_ hr0
  clear hR h hfit hr0 hc0
  have HG0:Aside0 ((w.alloc (.cells #[.int .i64 0] 3)).heap[w.heap.size]? = some (.cells #[.int .i64 0] 3 (0,0))):=⟨blk_new w _⟩
  have HB0:Aside0 (Below w.heap.size w (w.alloc (.cells #[.int .i64 0] 3))):=⟨ba_ (Below.refl _ _) _⟩
  go_enter Try.func25,Try.ntmps25
  go_wp2
  go_loopg [5,8] l0.length (fun gg _ s8 wr=>∃ (kk:Nat) (cc:Int),kk≤l0.length∧l0.length - kk≤gg∧s8=.int .i64 kk∧0≤cc∧cc≤60∧Aside0 (kidsI (nodeI 10) (l0.drop kk) cc=R)∧Aside0 (wr.heap[w.heap.size]? = some (.cells #[.int .i64 cc] 3 (0,0)))∧Aside0 (Below w.heap.size w wr))
  case atStart=>exact ⟨0,0,Nat.zero_le _,by omega,rfl,by omega,by omega,HR,HG0,HB0⟩
  case round =>
   obtain ⟨kk,cc,hkk,hgg,rfl,z0,z1,KI,HG,BW⟩:=hrel
   by_cases hlt:kk<l0.length
   case pos =>
    have hltz:(kk:Int)<(l0.length:Int):=by omega
    obtain ⟨ad,cs,e,hcl,hK,hc⟩:=Kd.C_get HR0.out z44 (kk:Int) (by omega) (by omega)
    rw [Int.toNat_natCast] at hK hc
    have hdr:l0.drop kk=l0.getD kk z44 :: l0.drop (kk+1):=by rw [List.getD_eq_getElem?_getD,List.getElem?_eq_getElem hlt];exact List.drop_eq_getElem_cons hlt
    have hmem:l0.getD kk z44∈l0:=by rw [List.getD_eq_getElem?_getD,List.getElem?_eq_getElem hlt];exact List.getElem_mem hlt
    have KI2:=KI.out
    rw [hdr,kidsI] at KI2
    have hky:=HFIT.out _ hmem
    clear KI hdr hmem
    generalize l0.getD kk z44=y at *
    obtain ⟨yA4,yc4,yA5,yc5,rfl,m4,q4,m5,q5⟩:=k44_open hK
    subst e
    have r0:wr.cell? (ad.add (kk * 6))=some (.int .i64 y.f0):=pc_ BW.out (hc 0 _ rfl)
    have r1:wr.cell? ⟨(ad.add (kk * 6)).block,(ad.add (kk * 6)).off+1,none⟩=some (.int .i64 y.f1):=pc_ BW.out (by rw [←add_field _ _ 1 (by omega)];exact hc 1 _ rfl)
    have r2:wr.cell? ⟨(ad.add (kk * 6)).block,(ad.add (kk * 6)).off+2,none⟩=some (.string y.f2):=pc_ BW.out (by rw [←add_field _ _ 2 (by omega)];exact hc 2 _ rfl)
    have r3:wr.cell? ⟨(ad.add (kk * 6)).block,(ad.add (kk * 6)).off+3,none⟩=some (.string y.f3):=pc_ BW.out (by rw [←add_field _ _ 3 (by omega)];exact hc 3 _ rfl)
    have r4:wr.cell? ⟨(ad.add (kk * 6)).block,(ad.add (kk * 6)).off+4,none⟩=some (.slice yA4 y.f4.length yc4):=pc_ BW.out (by rw [←add_field _ _ 4 (by omega)];exact hc 4 _ rfl)
    have r5:wr.cell? ⟨(ad.add (kk * 6)).block,(ad.add (kk * 6)).off+5,none⟩=some (.slice yA5 y.f5.length yc5):=pc_ BW.out (by rw [←add_field _ _ 5 (by omega)];exact hc 5 _ rfl)
    have QN:=A_ (impl_Node_isNode.holds 10 y yA4 yc4 yA5 yc5 1 cc w (wr.alloc (.cells #[.int .i64 y.f0,.int .i64 y.f1,.string y.f2,.string y.f3,.slice yA4 y.f4.length yc4,.slice yA5 y.f5.length yc5] 44)) w.heap.size (by omega) (by omega) hky z0 z1 (ba_ BW.out _) (Nat.le_refl _) (ka_ HG.out _) q4 m4 q5 m5)
    have hbd:=nodeI_bd 10 y cc z0 z1
    clear hc hK hcl hky q4 q5 m4 m5
    obtain ⟨b,hb⟩:∃ b,(nodeI 10 y cc).1=b:=⟨_,rfl⟩
    rw [hb] at QN hbd KI2
    generalize (nodeI 10 y cc).2=c2 at *
    have KI3:=A_ KI2
    clear KI2 hb
    have HBD:=A_ hbd
    clear hbd
    cases b with
    | false =>
     have KI4:Aside0 ((false,c2)=R):=⟨by have h:=KI3.out;rwa [if_neg Bool.false_ne_true] at h⟩
     clear KI3 HBD
     go_wp2_with (go_at_call 46;(with_reducible refine QN.out.mono ?_);rintro e v9 ⟨rfl,hg9,hv9⟩;have HG9:=A_ hg9;have HV9:=A_ hv9;clear hg9 hv9)
     go_ret
     obtain rfl:=KI4.out
     exact ⟨rfl,HV9.out⟩
    | true =>
     have KI4:Aside0 (kidsI (nodeI 10) (l0.drop (kk+1)) c2=R):=⟨by have h:=KI3.out;rwa [if_pos rfl] at h⟩
     have B0:=(HBD.out rfl).1
     have B1:=(HBD.out rfl).2
     clear KI3 HBD
     go_wp2_with (go_at_call 46;(with_reducible refine QN.out.mono ?_);rintro e v9 ⟨rfl,hg9,hv9⟩;have HG9:=A_ hg9;have HV9:=A_ hv9;clear hg9 hv9)
     go_roundg (l0.length - (kk+1))
     case measure=>omega
     case rel=>exact ⟨kk+1,c2,by omega,by omega,by go_num,B0,B1,KI4,HG9,HV9⟩
   case neg =>
    have hltz:¬ (kk:Int)<(l0.length:Int):=by omega
    have KI2:=KI.out
    rw [List.drop_eq_nil_of_le (by omega),kidsI] at KI2
    have KI3:=A_ KI2
    clear KI2
    go_wp2
    go_ret
    obtain rfl:=KI3.out
    exact ⟨rfl,BW.out⟩
/-! ### impl_eachP: function 35, by hand -/
theorem infoInt:(Try.prog.info? 3).map (fun i=>(i.zero,i.size,i.bytes))=some (some (.int .i64 0),1,8):=by kernel_rfl
def depE:Nat→S44→Bool
 | 0,_=>false
 | n+1,x=>x.f5.all (depE n)
/-- P holds of each node, at any depth below b. -/
def goodE (P:S44→Prop):Nat→S44→Prop
 | 0,_=>False
 | n+1,x=>P x∧∀ y∈x.f5,goodE P n y
def foldIx {σ : Type} (f : σ → S44→Nat → σ):List S44→Nat → σ → σ
 | [],_,s=>s
 | x :: l,i,s=>foldIx f l (i+1) (f s x i)
/-- What each tells, with each node's path, over a state. -/
def eachP {σ : Type} (step:S44→List Int → σ → σ):Nat→List S44→List Int → σ → σ
 | 0,_,_,s=>s
 | b+1,l,ps,s=>foldIx (fun s x i=>eachP step b x.f5 (ps++[(i:Int)]) (step x (ps++[(i:Int)]) s)) l 0 s
theorem eachP_back {σ : Type} (Ok : σ → Prop) (step:S44→List Int → σ → σ) (hback:∀ x p s,Ok (step x p s)→Ok s) (b:Nat):(∀ l ps s,Ok (eachP step b l ps s)→Ok s)∧∀ ps l i s,Ok (foldIx (fun s x i=>eachP step b x.f5 (ps++[(i:Int)]) (step x (ps++[(i:Int)]) s)) l i s)→Ok s:=by
 have main:∀ l ps s,Ok (eachP step b l ps s)→Ok s:=by
  induction b with
  | zero=>intro l ps s h;exact h
  | succ b ih =>
   intro l ps s h
   rw [eachP] at h
   have h3:∀ l i s,Ok (foldIx (fun s x i=>eachP step b x.f5 (ps++[(i:Int)]) (step x (ps++[(i:Int)]) s)) l i s)→Ok s:=by
    intro l
    induction l with
    | nil=>intro i s h2;exact h2
    | cons x l ihl=>intro i s h2;exact hback _ _ _ (ih _ _ _ (ihl _ _ h2))
   exact h3 _ _ _ h
 have key:∀ ps l i s,Ok (foldIx (fun s x i=>eachP step b x.f5 (ps++[(i:Int)]) (step x (ps++[(i:Int)]) s)) l i s)→Ok s:=by
  intro ps l
  induction l with
  | nil=>intro i s h2;exact h2
  | cons x l ih=>intro i s h2;exact hback _ _ _ (main _ _ _ (ih _ _ h2))
 exact ⟨main,key⟩
/-- A path: none, or a row of one's own. -/
def PathIs (g:Nat) (W:World) (ps:List Int) (v:Value):Prop:=(v=.slice none 0 0∧ps=[])∨∃ base,Kd.R (Kd.int .i64) 3 W base (fun k=>k≠g) v ps∧0<ps.length∧g≤base
theorem PathIs.keepO {te g:Nat} {W W':World} {ps:List Int} {v:Value} (he:te≠3) (h:PathIs g W ps v) (hk:Lib.OthersKept te (some g) W W'):PathIs g W' ps v:=by
 rcases h with h|⟨base,hR,hp⟩
 case inl=>exact .inl h
 case inr =>
  refine .inr ⟨base,Kd.R_mono (Kd.R_move (Kd.R_bound hR) (fun k hk2=>?_)) (fun _ h=>h.1),hp⟩
  obtain ⟨h1,_,_,q,hq,cells,hc⟩:=hk2
  have hq':q=3:=by simpa [Kd.int,Kd.scalar] using hq
  subst hq'
  rw [hc]
  exact hk k _ hc (fun e=>h1 (oi_ e)) (fun _ _ e=>by injection e with _ h;exact he h.symm)
theorem PathIs.form {g:Nat} {W:World} {ps:List Int} {v:Value} (h:PathIs g W ps v):∃ A c,v=.slice A ps.length c:=by
 rcases h with ⟨rfl,rfl⟩|⟨base,hR,hp⟩
 case inl=>exact ⟨_,_,rfl⟩
 case inr =>
  obtain ⟨a,cap,rfl,_⟩:=Kd.R_form hR hp.1
  exact ⟨_,_,rfl⟩
theorem PathIs.formS {g n:Nat} {W:World} {ps:List Int} {v:Value} (h:PathIs g W ps v) (he:ps.length=n) (hn:0<n):∃ a c,v=.slice (some a) n c:=by
 subst he
 rcases h with ⟨rfl,rfl⟩|⟨base,hR,hp⟩
 case inl=>exact absurd hn (Nat.lt_irrefl 0)
 case inr =>
  obtain ⟨a,cap,rfl,_⟩:=Kd.R_form hR hp.1
  exact ⟨_,_,rfl⟩
theorem clone_pathP (g:Nat) (W:World) (ps:List Int) (v:Value) (hn:ps.length≤100) (h:PathIs g W ps v) (hg:g<W.heap.size):Calls Try.prog 54 #[v] W fun e w'=>∃ v',e=.returned v'∧Kd.R (Kd.int .i64) 3 w' W.heap.size (fun k=>k≠g) v' ps∧Below W.heap.size W w':=by
 rcases h with ⟨rfl,rfl⟩|⟨base,hR,hp⟩
 case inl =>
  refine (Try.slices_Clone_int_nil 0 0 W).mono ?_
  rintro e w' ⟨rfl,rfl⟩
  exact ⟨_,rfl,Kd.R_nil _ _ _ _ _,Below.refl _ _⟩
 case inr =>
  obtain ⟨b,cap,rfl,_,_,_⟩:=Kd.R_form hR hp.1
  have hc:∀ j,j<ps.length→W.cell? ⟨b,0+j,none⟩=some (.int .i64 (ps.getD j 0)):=fun j hj=>by
   have h:=(Kd.R_cell (0:Int) hR (j:Int) (by omega) (by omega)).1
   rw [Int.toNat_natCast,Kit.rdOf_nat] at h
   rw [Nat.zero_add]
   exact h
  refine (Try.slices_Clone_int b 0 ps.length cap ps W (Nat.le_refl _) (by omega) hc).mono ?_
  rintro e w' ⟨v',rfl,ho,_,hb⟩
  rw [List.take_length] at ho
  have hR1:Kd.R (Kd.int .i64) 3 w' W.heap.size (fun _=>True) v' ps:=Kd.R_of_own (enc:=Value.int .i64) ho (fun _ _=>trivial)
  have hR2:Kd.R (Kd.int .i64) 3 w' W.heap.size (fun k=>k≠g) v' ps:=Kd.R_of_own (enc:=Value.int .i64) ho (fun k hk=>by have:=Kd.R_base hR1 k hk;omega)
  exact ⟨v',rfl,hR2,hb⟩
theorem ok_below {te g:Nat} {W W':World} (h:Below W.heap.size W W'):Lib.OthersKept te (some g) W W':=fun k o hk _ _=>(h.block k (blk_lt hk)).trans hk
set_option maxHeartbeats 4000000 in
set_option maxRecDepth 100000 in
theorem each_holdsP {σ : Type} (te:Nat) (he1:te≠3) (he2:te≠44) (St : σ → World→Prop) (Ok : σ → Prop) (P:S44→Prop) (step:S44→List Int → σ → σ) (w0:World) (g gf:Nat) (lb:Array Value) (eg:∀ args w,(callFunc gf args).run Try.prog w=.ok (.enter gf args) w)
 (hstay:∀ s (W W':World),Below W.heap.size W W'→St s W→St s W') (hin:∀ s W,St s W→g<W.heap.size) (hback:∀ x p s,Ok (step x p s)→Ok s)
 (hcall:∀ (x:S44) (ps:List Int) (s : σ) (A4:Option Addr) (c4:Nat) (A5:Option Addr) (c5:Nat) (ap:Addr) (n c:Nat) (W:World),n=ps.length→P x→x.f4.length≤c4→Kd.C k75 w0 A4 x.f4.length x.f4→x.f5.length≤c5→Kd.C k44 w0 A5 x.f5.length x.f5→PathIs g W ps (.slice (some ap) n c)→Below w0.heap.size w0 W→St s W→Ok (step x ps s)→Calls Try.prog gf (#[.agg #[.int .i64 x.f0,.int .i64 x.f1,.string x.f2,.string x.f3,.slice A4 x.f4.length c4,.slice A5 x.f5.length c5],.slice (some ap) n c]++lb) W fun e w'=>e=.returned (.tuple #[])∧St (step x ps s) w'∧Lib.OthersKept te (some g) W w'∧Below w0.heap.size w0 w') (b:Nat) :
 ∀ (A0:Option Addr) (c0:Nat) (l0:List S44) (ps:List Int) (v:Value) (s : σ) (w:World),ps.length+b≤50→(∀ y∈l0,goodE P b y)→Kd.C k44 w0 A0 l0.length l0→PathIs g w ps v→Below w0.heap.size w0 w→St s w→Ok (eachP step b l0 ps s) →
  Calls Try.prog 35 #[.slice A0 l0.length c0,v,.func (.func gf) #[] lb] w fun e w'=>e=.returned (.tuple #[])∧St (eachP step b l0 ps s) w'∧Lib.OthersKept te (some g) w w'∧Below w0.heap.size w0 w':=by
 have HCALL:=A_ hcall
 have HST:=A_ hstay
 have HIN:=A_ hin
 have HBK:=A_ hback
 have HE1:=A_ he1
 have HE2:=A_ he2
 clear hcall hstay hin hback he1 he2
 induction b with
 | zero =>
  intro A0 c0 l0 ps v s w hn hd hr hp hB hs hq
  cases l0 with
  | cons x l=>exact (hd x (List.mem_cons_self)).elim
  | nil =>
   obtain ⟨Av,cv,rfl⟩:=hp.form
   rw [List.length_nil]
   have HB:=A_ hB
   have HS:=A_ hs
   clear hB hs hp hr hd hq
   go_enter Try.func35,Try.ntmps35
   go_wp2
   go_loopg [6,7,8,11] 0 (fun gg _ _ _ s11 wr=>s11=.int .i64 0∧wr=w)
   case atStart=>exact ⟨rfl,rfl⟩
   case round =>
    obtain ⟨rfl,rfl⟩:=hrel
    go_wp2
    go_end0
    exact ⟨rfl,HS.out,Lib.OthersKept.refl _ _ _,HB.out⟩
 | succ b ih =>
  intro A0 c0 l0 ps v s w hn hd hr hp hB hs hq
  rw [eachP] at hq ⊢
  obtain ⟨R,hR⟩:∃ R,foldIx (fun s x i=>eachP step b x.f5 (ps++[(i:Int)]) (step x (ps++[(i:Int)]) s)) l0 0 s=R:=⟨_,rfl⟩
  rw [hR] at hq ⊢
  have HR:=A_ hR
  have hL:l0.length≤9223372036854775807:=hr.2.1
  have hgw:g<w.heap.size:=HIN.out _ _ hs
  obtain ⟨Av,cv,rfl⟩:=hp.form
  have HP:=A_ hp
  have HB:=A_ hB
  have HS:=A_ hs
  have HQ:=A_ hq
  have HD:=A_ hd
  have HC:=A_ hr
  have IH:=A_ ih
  clear hR hp hB hs hd hr ih hq
  go_enter Try.func35,Try.ntmps35
  go_wp2
  go_loopg [6,7,8,11] l0.length (fun gg _ _ _ s11 wr=>∃ (kk:Nat) (cc : σ),kk≤l0.length∧l0.length - kk≤gg∧s11=.int .i64 kk∧Aside0 (foldIx (fun s x i=>eachP step b x.f5 (ps++[(i:Int)]) (step x (ps++[(i:Int)]) s)) (l0.drop kk) kk cc=R)∧Aside0 (St cc wr)∧Aside0 (Below w0.heap.size w0 wr)∧Aside0 (Lib.OthersKept te (some g) w wr))
  case atStart=>exact ⟨0,s,Nat.zero_le _,by omega,rfl,HR,HS,HB,⟨Lib.OthersKept.refl _ _ _⟩⟩
  case round =>
   obtain ⟨kk,cc,hkk,hgg,rfl,KI,HG,BW,KB⟩:=hrel
   by_cases hlt:kk<l0.length
   case pos =>
    have hltz:(kk:Int)<(l0.length:Int):=by omega
    obtain ⟨ad,cs,e,hcl,hK,hc⟩:=Kd.C_get HC.out z44 (kk:Int) (by omega) (by omega)
    rw [Int.toNat_natCast] at hK hc
    have hdr:l0.drop kk=l0.getD kk z44 :: l0.drop (kk+1):=by rw [List.getD_eq_getElem?_getD,List.getElem?_eq_getElem hlt];exact List.drop_eq_getElem_cons hlt
    have KI2:=KI.out
    rw [hdr,foldIx] at KI2
    have hky:=HD.out _ (Kit.getD_mem z44 hlt)
    obtain ⟨hpx,hky⟩:=hky
    clear KI hdr
    generalize l0.getD kk z44=x at *
    obtain ⟨A4,c4,A5,c5,rfl,m4,q4,m5,q5⟩:=k44_open hK
    subst e
    have r0:wr.cell? (ad.add (kk * 6))=some (.int .i64 x.f0):=pc_ BW.out (hc 0 _ rfl)
    have r1:wr.cell? ⟨(ad.add (kk * 6)).block,(ad.add (kk * 6)).off+1,none⟩=some (.int .i64 x.f1):=pc_ BW.out (by rw [←add_field _ _ 1 (by omega)];exact hc 1 _ rfl)
    have r2:wr.cell? ⟨(ad.add (kk * 6)).block,(ad.add (kk * 6)).off+2,none⟩=some (.string x.f2):=pc_ BW.out (by rw [←add_field _ _ 2 (by omega)];exact hc 2 _ rfl)
    have r3:wr.cell? ⟨(ad.add (kk * 6)).block,(ad.add (kk * 6)).off+3,none⟩=some (.string x.f3):=pc_ BW.out (by rw [←add_field _ _ 3 (by omega)];exact hc 3 _ rfl)
    have r4:wr.cell? ⟨(ad.add (kk * 6)).block,(ad.add (kk * 6)).off+4,none⟩=some (.slice A4 x.f4.length c4):=pc_ BW.out (by rw [←add_field _ _ 4 (by omega)];exact hc 4 _ rfl)
    have r5:wr.cell? ⟨(ad.add (kk * 6)).block,(ad.add (kk * 6)).off+5,none⟩=some (.slice A5 x.f5.length c5):=pc_ BW.out (by rw [←add_field _ _ 5 (by omega)];exact hc 5 _ rfl)
    have KI3:=A_ KI2
    have HKY:=A_ hky
    have HQ5:=A_ q5
    have HPX:=A_ hpx
    have HM4:=A_ m4
    have HQ4:=A_ q4
    have HM5:=A_ m5
    clear hc hK hcl KI2 hky m4 q4 m5 q5 hpx
    have hgr:g<wr.heap.size:=HIN.out _ _ HG.out
    have hne:wr.heap.size≠g:=by omega
    have HLN:Aside0 (ps.length+1=(ps++[(kk:Int)]).length):=⟨by rw [List.length_append];rfl⟩
    have HOKE:=A_ (show Ok (eachP step b x.f5 (ps++[(kk:Int)]) (step x (ps++[(kk:Int)]) cc)) from by have h:=HQ.out;rw [←KI3.out] at h;exact (eachP_back Ok step HBK.out b).2 _ _ _ _ h)
    have HOKX:Aside0 (Ok (step x (ps++[(kk:Int)]) cc)):=⟨(eachP_back Ok step HBK.out b).1 _ _ _ HOKE.out⟩
    have KW:Aside0 (Lib.OthersKept te (some g) wr (wr.alloc (.cells #[.int .i64 x.f0,.int .i64 x.f1,.string x.f2,.string x.f3,.slice A4 x.f4.length c4,.slice A5 x.f5.length c5] 44 (0,0)))):=⟨ok_below (ba_ (Below.refl _ _) _)⟩
    have HP1:Aside0 (PathIs g (wr.alloc (.cells #[.int .i64 x.f0,.int .i64 x.f1,.string x.f2,.string x.f3,.slice A4 x.f4.length c4,.slice A5 x.f5.length c5] 44 (0,0))) ps (.slice Av ps.length cv)):=⟨(HP.out.keepO HE1.out KB.out).keepO HE1.out KW.out⟩
    have QC:=A_ (clone_pathP g (wr.alloc (.cells #[.int .i64 x.f0,.int .i64 x.f1,.string x.f2,.string x.f3,.slice A4 x.f4.length c4,.slice A5 x.f5.length c5] 44 (0,0))) ps (.slice Av ps.length cv) (by omega) HP1.out (by rw [World.size_alloc];omega))
    have b0:Aside0 ((wr.alloc (.cells #[.int .i64 x.f0,.int .i64 x.f1,.string x.f2,.string x.f3,.slice A4 x.f4.length c4,.slice A5 x.f5.length c5] 44 (0,0))).cell? ⟨wr.heap.size,0,none⟩=some (.int .i64 x.f0)):=⟨Mach.new_cell wr _ _ 0 _ rfl⟩
    have b1:Aside0 ((wr.alloc (.cells #[.int .i64 x.f0,.int .i64 x.f1,.string x.f2,.string x.f3,.slice A4 x.f4.length c4,.slice A5 x.f5.length c5] 44 (0,0))).cell? ⟨wr.heap.size,1,none⟩=some (.int .i64 x.f1)):=⟨Mach.new_cell wr _ _ 1 _ rfl⟩
    have b2:Aside0 ((wr.alloc (.cells #[.int .i64 x.f0,.int .i64 x.f1,.string x.f2,.string x.f3,.slice A4 x.f4.length c4,.slice A5 x.f5.length c5] 44 (0,0))).cell? ⟨wr.heap.size,2,none⟩=some (.string x.f2)):=⟨Mach.new_cell wr _ _ 2 _ rfl⟩
    have b3:Aside0 ((wr.alloc (.cells #[.int .i64 x.f0,.int .i64 x.f1,.string x.f2,.string x.f3,.slice A4 x.f4.length c4,.slice A5 x.f5.length c5] 44 (0,0))).cell? ⟨wr.heap.size,3,none⟩=some (.string x.f3)):=⟨Mach.new_cell wr _ _ 3 _ rfl⟩
    have b4:Aside0 ((wr.alloc (.cells #[.int .i64 x.f0,.int .i64 x.f1,.string x.f2,.string x.f3,.slice A4 x.f4.length c4,.slice A5 x.f5.length c5] 44 (0,0))).cell? ⟨wr.heap.size,4,none⟩=some (.slice A4 x.f4.length c4)):=⟨Mach.new_cell wr _ _ 4 _ rfl⟩
    have b5:Aside0 ((wr.alloc (.cells #[.int .i64 x.f0,.int .i64 x.f1,.string x.f2,.string x.f3,.slice A4 x.f4.length c4,.slice A5 x.f5.length c5] 44 (0,0))).cell? ⟨wr.heap.size,5,none⟩=some (.slice A5 x.f5.length c5)):=⟨Mach.new_cell wr _ _ 5 _ rfl⟩
    have HG1:Aside0 (St cc (wr.alloc (.cells #[.int .i64 x.f0,.int .i64 x.f1,.string x.f2,.string x.f3,.slice A4 x.f4.length c4,.slice A5 x.f5.length c5] 44 (0,0)))):=⟨HST.out _ _ _ (ba_ (Below.refl _ _) _) HG.out⟩
    have BN:Aside0 ((wr.alloc (.cells #[.int .i64 x.f0,.int .i64 x.f1,.string x.f2,.string x.f3,.slice A4 x.f4.length c4,.slice A5 x.f5.length c5] 44 (0,0))).heap[wr.heap.size]? = some (.cells #[.int .i64 x.f0,.int .i64 x.f1,.string x.f2,.string x.f3,.slice A4 x.f4.length c4,.slice A5 x.f5.length c5] 44 (0,0))):=⟨blk_new wr _⟩
    have BW1:Aside0 (Below w0.heap.size w0 (wr.alloc (.cells #[.int .i64 x.f0,.int .i64 x.f1,.string x.f2,.string x.f3,.slice A4 x.f4.length c4,.slice A5 x.f5.length c5] 44 (0,0)))):=⟨ba_ BW.out _⟩
    go_wp2_with (first|(go_at_call 54;(with_reducible refine QC.out.mono ?_);rintro e w2 ⟨v2,rfl,hR2,hb2⟩;have HR2:=A_ hR2;have HB2:=A_ hb2;clear hR2 hb2)|((with_reducible refine gate_builtin (b:=.append) (xs:=#[.tmp 17,.tmp 19]) rfl ?_);at_builtin;refine Kd.R_append (Kd.int .i64) (w0:=(wr.alloc (.cells #[.int .i64 x.f0,.int .i64 x.f1,.string x.f2,.string x.f3,.slice A4 x.f4.length c4,.slice A5 x.f5.length c5] 44 (0,0)))) (wr.alloc (.cells #[.int .i64 x.f0,.int .i64 x.f1,.string x.f2,.string x.f3,.slice A4 x.f4.length c4,.slice A5 x.f5.length c5] 44 (0,0))).heap.size rfl (.tmp 17) (.tmp 19) 23 3 (.int .i64 0) 8 rfl Try.underlying23 infoInt rfl (by decide) (by omega) v2 ps (kk:Int) [.int .i64 kk] (fun k=>k≠g) (fun _=>False) rfl rfl ?aP (fun _ hk=>hk.elim) ?aF ?aO ?aB ?aS ?aL ?_;(case aP=>exact rfl);(case aB=>exact HB2.out);(case aF=>exact (fun k hk=>by have:=HB2.out.size;rw [World.size_alloc] at this;omega));(case aO=>exact HR2.out);(case aS=>exact HB2.out.size);(case aL=>omega);intro v3 w3 ho3 hb3 hg3 hat3;have HR3:=A_ ho3;have HB3:=A_ hb3;have HP3:Aside0 (PathIs g w3 (ps++[(kk:Int)]) v3):=⟨.inr ⟨_,ho3,by rw [List.length_append];exact Nat.succ_pos _,by rw [World.size_alloc];omega⟩⟩;clear ho3 hb3 hg3 hat3;obtain ⟨ap3,c3,rfl⟩:=HP3.out.formS (n:=ps.length+1) (by rw [List.length_append];rfl) (Nat.succ_pos _);have d0:=pc_ HB3.out b0.out;have d1:=pc_ HB3.out b1.out;have d2:=pc_ HB3.out b2.out;have d3:=pc_ HB3.out b3.out;have d4:=pc_ HB3.out b4.out;have d5:=pc_ HB3.out b5.out;have HG3:=A_ (HST.out _ _ _ HB3.out HG1.out);have BN3:=A_ (kb_ BN.out HB3.out);have BW3:=A_ (BW1.out.trans (HB3.out.mono BW1.out.size)))|(go_at_call 35;(with_reducible refine (IH.out A5 c5 x.f5 (ps++[(kk:Int)]) _ _ _ (by rw [List.length_append,List.length_singleton];omega) HKY.out HQ5.out HP4.out BW4.out HG4.out HOKE.out).mono ?_);rintro e w5 ⟨rfl,hg5,hk5,hb5⟩;have HG5:=A_ hg5;have HK5:=A_ hk5;have BW5:=A_ hb5;clear hg5 hk5 hb5)|((with_reducible refine (HCALL.out x (ps++[(kk:Int)]) cc A4 c4 A5 c5 ap3 (ps.length+1) c3 _ HLN.out HPX.out HM4.out HQ4.out HM5.out HQ5.out HP3.out BW3.out HG3.out HOKX.out).mono ?_);rintro e w4 ⟨rfl,hg4,hk4,hb4⟩;have HG4:=A_ hg4;have HK4:=A_ hk4;have BW4:=A_ hb4;have f5:w4.cell? ⟨wr.heap.size,5,none⟩=some (.slice A5 x.f5.length c5):=(bc_ (hk4 _ _ BN3.out (fun e=>hne (oi_ e)) (fun _ _ e=>by injection e with _ h;exact HE2.out h.symm)) 5).trans rfl;have HP4:=A_ (HP3.out.keepO HE1.out hk4);clear hg4 hk4 hb4))
    go_roundg (l0.length - (kk+1))
    case measure=>omega
    case rel=>exact ⟨kk+1,_,by omega,by omega,by go_num,KI3,HG5,BW5,⟨(((KB.out.trans KW.out).trans (ok_below HB3.out)).trans HK4.out).trans HK5.out⟩⟩
   case neg =>
    have hltz:¬ (kk:Int)<(l0.length:Int):=by omega
    have KI2:=KI.out
    rw [List.drop_eq_nil_of_le (by omega),foldIx] at KI2
    have KI3:=A_ KI2
    clear KI2 KI
    go_wp2
    go_end0
    obtain rfl:=KI3.out
    exact ⟨rfl,HG.out,KB.out,BW.out⟩
/-! ### IndexFunc_string: function 103, by hand -/
set_option maxHeartbeats 1000000 in
/-- slices.IndexFunc at this type, whatever the predicate: the first place at which it holds. -/
theorem IndexFunc_string.holds (A:Option Addr) (n c:Nat) (v:Nat→Value) (p:Nat→Bool) (g:Nat) (lb:Array Value) (eg:∀ args w,(callFunc g args).run Try.prog w=.ok (.enter g args) w) (w:World)
 (hp:∀ j,j<n→∀ W,Below w.heap.size w W→Calls Try.prog g (#[v j]++lb) W fun e w'=>e=.returned (.bool (p j))∧Below w.heap.size w w')
 (hbig:n≤9223372036854775807) (hc:∀ j,j<n→∃ ad,A=some ad∧w.cell? (ad.add j)=some (v j)) :
 Calls Try.prog 103 #[.slice A n c,.func (.func g) #[] lb] w fun e w'=>e=.returned (.int .i64 (Mach.idxP p n))∧Below w.heap.size w w':=by
 have HC:=A_ hc
 have HP:=A_ hp
 clear hc hp
 go_enter Try.func103,Try.ntmps103
 go_wp2
 go_loopg [5,8] n (fun gg _ s8 wr=>∃ kk:Nat,kk≤n∧n - kk≤gg∧s8=.int .i64 kk∧Aside0 (Below w.heap.size w wr)∧Aside0 (∀ j,j<kk→p j=false))
 case atStart=>exact ⟨0,Nat.zero_le _,by omega,rfl,⟨Below.refl _ w⟩,⟨fun j hj=>absurd hj (Nat.not_lt_zero _)⟩⟩
 case round =>
  obtain ⟨kk,hkk,hg,rfl,BW,AA⟩:=hrel
  by_cases hlt:kk<n
  ·have hltz:(kk:Int)<(n:Int):=by omega
   obtain ⟨ad,e,l1⟩:=HC.out kk hlt
   cases e
   have l2:wr.cell? (ad.add kk)=some (v kk):=pc_ BW.out l1
   clear l1
   have hcall:=HP.out kk hlt wr BW.out
   cases hq:p kk with
   | true =>
    rw [hq] at hcall
    go_wp2_with ((with_reducible refine hcall.mono ?_);rintro e w' ⟨rfl,hb'⟩)
    go_ret
    refine ⟨?_,hb'⟩
    rw [Mach.idxP_hit p n kk hlt hq AA.out]
    rfl
   | false =>
    rw [hq] at hcall
    go_wp2_with ((with_reducible refine hcall.mono ?_);rintro e w' ⟨rfl,hb'⟩)
    go_roundg (n - (kk+1))
    case measure=>omega
    case rel =>
     refine ⟨kk+1,by omega,by omega,by go_num,⟨hb'⟩,⟨fun j hj=>?_⟩⟩
     by_cases e:j=kk
     ·subst e;exact hq
     ·exact AA.out j (by omega)
  ·have hltz:¬ (kk:Int)<(n:Int):=by omega
   have:kk=n:=by omega
   subst this
   go_wp2
   go_ret
   refine ⟨?_,BW.out⟩
   rw [Mach.idxP_miss p kk AA.out]
   rfl
/-! ### ContainsFunc_string: function 84, by hand -/
/-- slices.ContainsFunc at this type, whatever the predicate. -/
theorem ContainsFunc_string.holds (A:Option Addr) (n c:Nat) (v:Nat→Value) (p:Nat→Bool) (g:Nat) (lb:Array Value) (eg:∀ args w,(callFunc g args).run Try.prog w=.ok (.enter g args) w) (w:World)
 (hp:∀ j,j<n→∀ W,Below w.heap.size w W→Calls Try.prog g (#[v j]++lb) W fun e w'=>e=.returned (.bool (p j))∧Below w.heap.size w w')
 (hbig:n≤9223372036854775807) (hc:∀ j,j<n→∃ ad,A=some ad∧w.cell? (ad.add j)=some (v j)) :
 Calls Try.prog 84 #[.slice A n c,.func (.func g) #[] lb] w fun e w'=>e=.returned (.bool (Mach.anyP p n))∧Below w.heap.size w w':=by
 rw [←Mach.idxP_any]
 have hcall:=IndexFunc_string.holds A n c v p g lb eg w hp hbig hc
 clear hc hp
 go_enter Try.func84,Try.ntmps84
 go_wp2_with (go_at_call 103;refine hcall.mono ?_;rintro e w' ⟨rfl,hb'⟩)
 go_ret
 exact ⟨rfl,hb'⟩
/-! ### impl_isLong: function 55, by hand -/
def impl_isLong.f (l0:List ByteArray):Option Bool:=if l0.length≤9223372036854775807 then some (l0.any fun t=>decide (65536<(t.size:Int))) else none
theorem impl_isLong.lit (t:ByteArray) (w:World):Calls Try.prog 85 #[.string t] w fun e w'=>e=.returned (.bool (decide (65536<(t.size:Int))))∧Below w.heap.size w w':=by
 go_enter Try.func85,Try.ntmps85
 go_wp2
 go_ret
 exact ⟨rfl,Below.refl _ _⟩
theorem impl_isLong.calls (A0:Option Addr) (c0:Nat) (l0:List ByteArray) (r:Bool) (w:World) (hr0:Kd.C Kd.string w A0 l0.length l0) (hc0:l0.length≤c0) (h:impl_isLong.f l0=some r) :
 Calls Try.prog 55 #[.slice A0 l0.length c0] w fun e w'=>e=.returned (.bool r)∧Below w.heap.size w w':=by
 unfold impl_isLong.f at h
 obtain ⟨hn,h⟩:=Option.ite_none_right_eq_some.mp h
 obtain rfl:=oi_ h
 have hcall:=ContainsFunc_string.holds A0 l0.length c0 (fun j=>.string (l0.getD j ByteArray.empty)) (fun j=>decide (65536<((l0.getD j ByteArray.empty).size:Int))) 85 #[] (Mach.enters_of Try.func85 (by kernel_rfl) rfl) w
  (fun j _ W hb=>(impl_isLong.lit _ W).mono fun e w' ⟨he,hb'⟩=>⟨he,hb.trans (hb'.mono hb.size)⟩) hn
  (fun j hj=>by
   obtain ⟨ad,e,hx⟩:=Kd.at_string hr0 (j:Int) (by omega) (by omega)
   exact ⟨ad,e,by simpa [rdOf] using hx⟩)
 rw [Mach.anyP_list (fun t:ByteArray=>decide (65536<(t.size:Int)))] at hcall
 clear hr0
 go_enter Try.func55,Try.ntmps55
 go_wp2_with (go_at_call 84;refine hcall.mono ?_;rintro e w' ⟨rfl,hb'⟩)
 go_ret
 exact ⟨rfl,hb'⟩
/-- One text, in the slice that its caller has just built. -/
theorem impl_isLong.one (a1:ByteArray) (W:World):Calls Try.prog 55 #[.slice (some ⟨W.heap.size,0,none⟩) 1 1] (W.alloc (.cells #[.string a1] 9)) fun e w'=>e=.returned (.bool (decide (65536<(a1.size:Int))))∧Below (W.alloc (.cells #[.string a1] 9)).heap.size (W.alloc (.cells #[.string a1] 9)) w' :=
 impl_isLong.calls (some ⟨W.heap.size,0,none⟩) 1 [a1] (decide (65536<(a1.size:Int))) (W.alloc (.cells #[.string a1] 9)) ⟨rfl,by simp,fun _=>⟨_,rfl,fun j p hj=>by
  cases j with
  | succ j=>simp at hj
  | zero =>
   obtain rfl:a1=p:=by simpa using hj
   exact ⟨[.string a1],rfl,rfl,fun i u hi=>by
    cases i with
    | succ i=>simp at hi
    | zero =>
     simp at hi
     rw [←hi,add_plain]
     simp⟩⟩⟩ (Nat.le_refl _) (by unfold impl_isLong.f;rw [if_pos (by simp)];simp)
end Go.Proofs.Ytjlikemmhjclpaa.PFnExactClean
