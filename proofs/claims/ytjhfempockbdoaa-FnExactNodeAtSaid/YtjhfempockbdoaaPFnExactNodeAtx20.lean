/- By a program of this session, out of the kit's print and contracts made by hand: the machine side of a law; Lean checks it. No conditions. -/
import Derived.Test.YtjhfempockbdoaaPFnExactNodeAtx0
import Derived.Test.YtjhfempockbdoaaPFnExactNodeAtx12
import Derived.Test.YtjhfempockbdoaaPFnExactNodeAtx15
import Derived.Test.YtjhfempockbdoaaPFnExactNodeAtx19
namespace Go.Proofs.Ytjhfempockbdoaa.PFnExactNodeAt
open Go.RowKit Go.Proofs.YtjhfempockbdoaaW.PrintWords Go.Proofs.YtjhfempockbdoaaW.PrintLast Go.Proofs.YtjhfempockbdoaaW.PrintMore
attribute [local go_sem] max2_int min2_int max_two min_two max_three min_three max_four min_four
set_option linter.unusedVariables false
set_option linter.unusedSimpArgs false
/-! ### laws_markNodeS: function 12, by hand -/
theorem rd_setT (xs:List S28) (i:Int) (a:S28) (h0:0≤i) (h1:i<xs.length):rd_T28 (xs.set i.toNat a) i=a:=by
 unfold rd_T28
 rw [List.getD_eq_getElem?_getD,List.getElem?_set_self (by omega)]
 rfl
/-- Element i of a tree of one's own: its cells; one of them written; one of its two rows lent. -/
theorem nodeCells {base g n cap:Nat} {ok:Nat→Prop} {W:World} {xs xs0:List S28} (h:Kd.S kTN 28 W base ok (.slice (some ⟨g,0,none⟩) n cap) xs) (i:Int) (h0:0≤i) (h1:i<n) (hxs:∀ x',xs.set i.toNat x'=xs0.set i.toNat x') (x:S28) (hx:rd_T28 xs i=x) :
 ∃ (A4:Option Addr) (c4:Nat) (A5:Option Addr) (c5:Nat),(W.cell? ⟨g,i.toNat * 6,none⟩=some (.int .i64 x.f0)∧W.cell? ⟨g,i.toNat * 6+1,none⟩=some (.int .i64 x.f1)∧W.cell? ⟨g,i.toNat * 6+2,none⟩=some (.string x.f2)∧W.cell? ⟨g,i.toNat * 6+3,none⟩=some (.string x.f3)∧W.cell? ⟨g,i.toNat * 6+4,none⟩=some (.slice A4 x.f4.length c4)∧W.cell? ⟨g,i.toNat * 6+5,none⟩=some (.slice A5 x.f5.length c5))∧(W.frozen? ⟨g,i.toNat * 6,none⟩=false∧W.frozen? ⟨g,i.toNat * 6+1,none⟩=false∧W.frozen? ⟨g,i.toNat * 6+2,none⟩=false∧W.frozen? ⟨g,i.toNat * 6+3,none⟩=false∧W.frozen? ⟨g,i.toNat * 6+4,none⟩=false∧W.frozen? ⟨g,i.toNat * 6+5,none⟩=false) ∧
  ((∀ m:Int,Kd.S kTN 28 (W.setCell ⟨g,i.toNat * 6,none⟩ (.int .i64 m)) base ok (.slice (some ⟨g,0,none⟩) n cap) (xs0.set i.toNat ⟨m,x.f1,x.f2,x.f3,x.f4,x.f5⟩)∧W.grownBy (W.setCell ⟨g,i.toNat * 6,none⟩ (.int .i64 m)) (some g))∧(∀ m:Int,Kd.S kTN 28 (W.setCell ⟨g,i.toNat * 6+1,none⟩ (.int .i64 m)) base ok (.slice (some ⟨g,0,none⟩) n cap) (xs0.set i.toNat ⟨x.f0,m,x.f2,x.f3,x.f4,x.f5⟩)∧W.grownBy (W.setCell ⟨g,i.toNat * 6+1,none⟩ (.int .i64 m)) (some g))∧(∀ m:ByteArray,Kd.S kTN 28 (W.setCell ⟨g,i.toNat * 6+2,none⟩ (.string m)) base ok (.slice (some ⟨g,0,none⟩) n cap) (xs0.set i.toNat ⟨x.f0,x.f1,m,x.f3,x.f4,x.f5⟩)∧W.grownBy (W.setCell ⟨g,i.toNat * 6+2,none⟩ (.string m)) (some g))∧(∀ m:ByteArray,Kd.S kTN 28 (W.setCell ⟨g,i.toNat * 6+3,none⟩ (.string m)) base ok (.slice (some ⟨g,0,none⟩) n cap) (xs0.set i.toNat ⟨x.f0,x.f1,x.f2,m,x.f4,x.f5⟩)∧W.grownBy (W.setCell ⟨g,i.toNat * 6+3,none⟩ (.string m)) (some g))) ∧
  (∃ p:Nat→Prop,Kd.R k63 63 W base p (.slice A4 x.f4.length c4) x.f4∧(∀ k,p k→ok k∧k≠g)∧∀ (W1:World) (ys:List S63),Kept W W1 p→Kd.R k63 63 W1 base p (.slice A4 x.f4.length c4) ys→Kd.S kTN 28 W1 base ok (.slice (some ⟨g,0,none⟩) n cap) (xs0.set i.toNat ⟨x.f0,x.f1,x.f2,x.f3,ys,x.f5⟩)) ∧
  (∃ q:Nat→Prop,Kd.S kTN 28 W base q (.slice A5 x.f5.length c5) x.f5∧(∀ k,q k→ok k∧k≠g)∧∀ (W1:World) (ys:List S28),Kept W W1 q→Kd.S kTN 28 W1 base q (.slice A5 x.f5.length c5) ys→Kd.S kTN 28 W1 base ok (.slice (some ⟨g,0,none⟩) n cap) (xs0.set i.toNat ⟨x.f0,x.f1,x.f2,x.f3,x.f4,ys⟩)):=by
 obtain ⟨oki,c,hcl,hM,hcc,hfr,hoki,hH⟩:=Kd.S_elem h z28 i h0 h1
 have hx':xs.getD i.toNat z28=x:=hx
 rw [hx'] at hM
 obtain ⟨v4,v5,pp,rfl,g4,g5⟩:=kTN_openM hM
 obtain ⟨A4,c4,rfl⟩:=Kd.R_slice g4
 obtain ⟨A5,c5,rfl⟩:=Kd.S_slice g5
 refine ⟨A4,c4,A5,c5,⟨hcc 0 _ rfl,hcc 1 _ rfl,hcc 2 _ rfl,hcc 3 _ rfl,hcc 4 _ rfl,hcc 5 _ rfl⟩,⟨hfr 0,hfr 1,hfr 2,hfr 3,hfr 4,hfr 5⟩,⟨?_,?_,?_,?_⟩,⟨_,g4,fun k hk=>hoki k hk.1,fun W1 ys hk hr=>?_⟩,⟨_,g5,fun k hk=>hoki k hk.1,fun W1 ys hk hr=>?_⟩⟩
 ·exact fun m=>by
   rw [←hxs]
   exact Kd.S_seg (okg:=fun _=>False) (okp:=oki) (Kd.H_mono hH (fun k hk=>⟨hk,fun h=>h⟩)) h0 h1 (seg:=[.int .i64 m]) (j:=0) (show 0+1≤6 by decide) (x':=(⟨m,x.f1,x.f2,x.f3,x.f4,x.f5⟩:S28)) (kTN_mkM _ _ _ pp (⟨m,x.f1,x.f2,x.f3,x.f4,x.f5⟩:S28) g4 g5) (fun k hk=>.inl hk) (fun k hk=>hk.elim)
 ·exact fun m=>by
   rw [←hxs]
   exact Kd.S_seg (okg:=fun _=>False) (okp:=oki) (Kd.H_mono hH (fun k hk=>⟨hk,fun h=>h⟩)) h0 h1 (seg:=[.int .i64 m]) (j:=1) (show 1+1≤6 by decide) (x':=(⟨x.f0,m,x.f2,x.f3,x.f4,x.f5⟩:S28)) (kTN_mkM _ _ _ pp (⟨x.f0,m,x.f2,x.f3,x.f4,x.f5⟩:S28) g4 g5) (fun k hk=>.inl hk) (fun k hk=>hk.elim)
 ·exact fun m=>by
   rw [←hxs]
   exact Kd.S_seg (okg:=fun _=>False) (okp:=oki) (Kd.H_mono hH (fun k hk=>⟨hk,fun h=>h⟩)) h0 h1 (seg:=[.string m]) (j:=2) (show 2+1≤6 by decide) (x':=(⟨x.f0,x.f1,m,x.f3,x.f4,x.f5⟩:S28)) (kTN_mkM _ _ _ pp (⟨x.f0,x.f1,m,x.f3,x.f4,x.f5⟩:S28) g4 g5) (fun k hk=>.inl hk) (fun k hk=>hk.elim)
 ·exact fun m=>by
   rw [←hxs]
   exact Kd.S_seg (okg:=fun _=>False) (okp:=oki) (Kd.H_mono hH (fun k hk=>⟨hk,fun h=>h⟩)) h0 h1 (seg:=[.string m]) (j:=3) (show 3+1≤6 by decide) (x':=(⟨x.f0,x.f1,x.f2,m,x.f4,x.f5⟩:S28)) (kTN_mkM _ _ _ pp (⟨x.f0,x.f1,x.f2,m,x.f4,x.f5⟩:S28) g4 g5) (fun k hk=>.inl hk) (fun k hk=>hk.elim)
 ·rw [←hxs]
  refine Kd.H_back (Kd.H_step hH (fun k _ hn hlt=>hk.2 k hlt (fun h2=>hn h2.1))) (x':=(⟨x.f0,x.f1,x.f2,x.f3,ys,x.f5⟩:S28)) (okp:=oki) (kTN_mkM _ _ _ pp (⟨x.f0,x.f1,x.f2,x.f3,ys,x.f5⟩:S28) hr (Kd.S_kept g5 hk (fun k h2 h3=>h2.2 h3.2))) (fun k hk=>hk)
 ·rw [←hxs]
  refine Kd.H_back (Kd.H_step hH (fun k _ hn hlt=>hk.2 k hlt (fun h2=>hn h2.1))) (x':=(⟨x.f0,x.f1,x.f2,x.f3,x.f4,ys⟩:S28)) (okp:=oki) (kTN_mkM _ _ _ pp (⟨x.f0,x.f1,x.f2,x.f3,x.f4,ys⟩:S28) (Kd.R_kept g4 hk (fun k h2 h3=>h3.2 h2.2)) hr) (fun k hk=>hk)
mutual
def laws_markNodeS.l0:Nat→List S28→Int→Int→Option (Int × List S28)
 | 0,_,_,_=>none
 | k+1,x0,x1,x5=>if x5<(x0.length:Int) then (if 0≤x5 then (laws_markText.f k (wrap64 (wrap64 (x1+1)+1))).bind fun t=>(laws_markText.f k (wrap64 (wrap64 (wrap64 (x1+1)+1)+1))).bind fun t'=>(laws_markAttrS.f k (rd_T28 x0 x5).f4 (wrap64 (wrap64 (wrap64 (wrap64 (x1+1)+1)+1)+1))).bind fun p=>(laws_markNodeS.f k (rd_T28 x0 x5).f5 p.1).bind fun q=>laws_markNodeS.l0 k (x0.set x5.toNat ⟨x1,wrap64 (x1+1),t,t',p.2,q.2⟩) q.1 (wrap64 (x5+1)) else none) else some (x1,x0)
def laws_markNodeS.f:Nat→List S28→Int→Option (Int × List S28)
 | 0,_,_=>none
 | k+1,x0,x1=>laws_markNodeS.l0 k x0 x1 0
end
abbrev markNodeC (k:Nat):Prop:=∀ (P:Nat→Prop) (A:Option Addr) (n c:Nat) (xs ys:List S28) (m r:Int) (w0 w:World),Below w0.heap.size w0 w→Kd.S kTN 28 w w0.heap.size P (.slice A n c) xs→laws_markNodeS.f k xs m=some (r,ys) →
 Calls Try.prog 12 #[.slice A n c,.int .i64 m] w fun e w'=>e=.returned (.int .i64 r)∧Kd.S kTN 28 w' w0.heap.size P (.slice A n c) ys∧Below w0.heap.size w0 w'∧Kept w w' P
set_option maxHeartbeats 16000000 in
set_option maxRecDepth 1000000 in
theorem markNode_step (k:Nat) (ih:∀ j,j<k→markNodeC j):markNodeC k:=by
 intro P A n c xs ys m r w0 w hB ho h
 cases k with
 | zero=>exact absurd h (by simp [laws_markNodeS.f])
 | succ k =>
 simp only [laws_markNodeS.f] at h
 have HO:=A_ ho
 have HK:=A_ (Kept.refl w P)
 have HB:=A_ hB
 have IH:=A_ ih
 have H':=A_ h
 have hlen:=(Kd.S_reads' ho).1
 have HN:=A_ hlen
 clear h hB ho ih hlen
 go_enter Try.func12,Try.ntmps12
 go_wp2
 go_loopg [1,5] k (fun kq v1 v5 w'=>∃ (x0:List S28) (x1 x5:Int),v1=.int .i64 x1∧v5=.int .i64 x5∧Aside0 (laws_markNodeS.l0 kq x0 x1 x5=some (r,ys))∧Aside0 (kq≤k)∧Aside0 (n=x0.length)∧Aside0 (Kd.S kTN 28 w' w0.heap.size P (.slice A n c) x0)∧Aside0 (Kept w w' P)∧Aside0 (Below w0.heap.size w0 w'))
 case atStart=>exact ⟨xs,m,0,rfl,rfl,H',⟨Nat.le_refl _⟩,HN,HO,HK,HB⟩
 case round =>
  clear H' HO HK HB HN
  obtain ⟨x0,x1,x5,rfl,rfl,HA,HK1,HL,HO,HK,HB⟩:=hrel
  cases gk with
  | zero=>exact absurd HA.out (by simp [laws_markNodeS.l0])
  | succ k1 =>
   have H:=HA.out
   clear HA
   simp only [laws_markNodeS.l0] at H
   by_cases c3:x5<(x0.length:Int)
   ·rw [if_pos c3] at H
    obtain ⟨c5,H⟩:=Option.ite_none_right_eq_some.mp H
    obtain ⟨t,ht,H⟩:=ob_ H
    obtain ⟨t',ht',H⟩:=ob_ H
    obtain ⟨⟨m4,as1⟩,ha,H⟩:=ob_ H
    obtain ⟨⟨m5,ks1⟩,hk,H⟩:=ob_ H
    obtain ⟨x,hx⟩:∃ x,rd_T28 x0 x5=x:=⟨_,rfl⟩
    rw [hx] at ha hk
    obtain ⟨y,hy⟩:∃ y,y=x0.set x5.toNat ⟨x1,wrap64 (x1+1),t,t',as1,ks1⟩:=⟨_,rfl⟩
    replace H:laws_markNodeS.l0 k1 y m5 (wrap64 (x5+1))=some (r,ys):=by rw [hy];exact H
    have H':=A_ H
    have HT:=A_ ht
    have HT':=A_ ht'
    have HAT:=A_ ha
    have HKD:=A_ hk
    have HY:=A_ hy
    have hly:y.length=x0.length:=by rw [hy,List.length_set]
    have HLY:=A_ hly
    have HC5:=A_ c5
    have HL5:=A_ c3
    have hn3:x5<(n:Int):=by rw [HL.out];exact c3
    have HC3:=A_ hn3
    clear H ht ht' ha hk hy hly
    obtain ⟨g,cap,ev,hg0,hgl,_⟩:=Kd.S_form HO.out (by omega)
    injection ev with e1 e2 e3
    subst e1 e3
    have HG:=A_ hg0
    have HP:Aside0 (P g):=⟨by obtain ⟨_,hR⟩:=HO.out;exact hR.1 g (by simp [Value.ownBlock])⟩
    obtain ⟨_,_,_,_,⟨q0,q1,_⟩,⟨r0,r1,_⟩,⟨s0,_⟩,_,_⟩:=nodeCells HO.out x5 c5 hn3 (fun x'=>rfl) x hx
    obtain ⟨hs0,hh0⟩:=s0 x1
    obtain ⟨_,_,_,_,_,_,⟨_,s1,_⟩,_,_⟩:=nodeCells hs0 x5 c5 hn3 (fun x'=>List.set_set ..) _ (rd_setT x0 x5 _ c5 c3)
    obtain ⟨hs1,hh1⟩:=s1 (wrap64 (x1+1))
    have HO1:=A_ hs1
    have HK1':=A_ (Kept.of_grown hh1 (Kept.of_grown hh0 HK.out (fun k hk=>.inl (by injection hk with hk;exact hk ▸ HP.out))) (fun k hk=>.inl (by injection hk with hk;exact hk ▸ HP.out)))
    have HB1:=A_ (bs_ (j:=x5.toNat * 6+1) (v:=.int .i64 (wrap64 (x1+1))) (bs_ (j:=x5.toNat * 6) (v:=.int .i64 x1) HB.out hg0) hg0)
    have z3:decide (x5<(n:Int))=true:=dt_ hn3
    have z5:decide (0≤x5)=true:=dt_ c5
    have p3:=eq_true hn3
    have p5:=eq_true c5
    clear c3 c5 hn3 hg0 hgl s0 s1 hs0 hh0 hs1 hh1 e2 hx HO HK HB
    go_wp2_with (first|(go_at_call 25;(with_reducible refine (laws_markText.calls k1 _ t _ HT.out).mono ?_);rintro e w3 ⟨rfl,hb⟩;(have HOa3:=A_ (Kd.S_below HO1.out hb));(have HKa3:=A_ (Kept.below HK1'.out hb));(have HBa3:=A_ (bp_ HB1.out hb));clear hb HO1 HK1' HB1;(obtain ⟨_,_,_,_,⟨d0,d1,d2,d3,d4,d5⟩,⟨f0,f1,f2,f3,f4,f5⟩,⟨_,_,s2,s3⟩,_,_⟩:=nodeCells HOa3.out x5 HC5.out HC3.out (fun x'=>List.set_set ..) _ (rd_setT x0 x5 _ HC5.out HL5.out));(obtain ⟨hs,hg⟩:=s2 t);(have HO3:=A_ hs);(have HK3:=A_ (Kept.of_grown hg HKa3.out (fun k hk=>.inl (by injection hk with hk;exact hk ▸ HP.out))));(have HB3:=A_ (bs_ (j:=x5.toNat * 6+2) (v:=.string t) HBa3.out HG.out));clear hs hg s2 s3 d0 d1 d4 d5 f0 f1 f4 f5 HOa3 HKa3 HBa3)|(go_at_call 25;(with_reducible refine (laws_markText.calls k1 _ t' _ HT'.out).mono ?_);rintro e w4 ⟨rfl,hb⟩;(have HOa4:=A_ (Kd.S_below HO3.out hb));(have HKa4:=A_ (Kept.below HK3.out hb));(have HBa4:=A_ (bp_ HB3.out hb));clear hb HO3 HK3 HB3;(obtain ⟨_,_,_,_,⟨d0,d1,d2,d3,d4,d5⟩,⟨f0,f1,f2,f3,f4,f5⟩,⟨_,_,s2,s3⟩,_,_⟩:=nodeCells HOa4.out x5 HC5.out HC3.out (fun x'=>List.set_set ..) _ (rd_setT x0 x5 _ HC5.out HL5.out));(obtain ⟨hs,hg⟩:=s3 t');(have HO4:=A_ hs);(have HK4:=A_ (Kept.of_grown hg HKa4.out (fun k hk=>.inl (by injection hk with hk;exact hk ▸ HP.out))));(have HB4:=A_ (bs_ (j:=x5.toNat * 6+3) (v:=.string t') HBa4.out HG.out));clear hs hg s2 s3 d0 d1 d4 d5 f0 f1 f4 f5 HOa4 HKa4 HBa4;(obtain ⟨A4,c4,A5,c5,⟨_,_,_,_,d4,_⟩,_,_,⟨p,hr4,hp4,hw4⟩,_⟩:=nodeCells HO4.out x5 HC5.out HC3.out (fun x'=>List.set_set ..) _ (rd_setT x0 x5 _ HC5.out HL5.out));(have HR4:=A_ hr4);(have HW4:=A_ hw4);(have HP4:=A_ hp4);clear hr4 hw4 hp4)|(go_at_call 26;(with_reducible refine (laws_markAttrS.calls k1 p _ x.f4 _ m4 as1 w0 _ HB4.out HR4.out HAT.out).mono ?_);rintro e w6 ⟨rfl,hr,hb,hk⟩;(have HO6:=A_ (HW4.out w6 as1 hk (Kd.R_mono (Kd.R_tight rfl hr) (fun k hk=>HR4.out.1 k hk.symm))));(have HK6:=A_ (HK4.out.then_ hk (fun k hk=>.inl (HP4.out k hk).1)));(have HB6:=A_ hb);clear hr hb hk HO4 HK4 HB4 HW4 HP4 d4;(obtain ⟨A4',c4',A5',c5',⟨_,_,_,_,_,d5⟩,_,_,_,⟨q,hr5,hp5,hw5⟩⟩:=nodeCells HO6.out x5 HC5.out HC3.out (fun x'=>List.set_set ..) _ (rd_setT x0 x5 _ HC5.out HL5.out));(have HR5:=A_ hr5);(have HW5:=A_ hw5);(have HP5:=A_ hp5);clear hr5 hw5 hp5)|(go_at_call 12;(with_reducible refine (IH.out k1 (by have:=HK1.out;omega) q _ _ _ x.f5 ks1 _ m5 w0 _ HB6.out HR5.out HKD.out).mono ?_);rintro e w7 ⟨rfl,hs,hb,hk⟩;(have HO7:=A_ (HW5.out w7 ks1 hk hs));(have HK7:=A_ (HK6.out.then_ hk (fun k hk=>.inl (HP5.out k hk).1)));(have HB7:=A_ hb);clear hs hb hk HO6 HK6 HB6 HW5 HP5 d5))
    go_roundg k1
    case measure=>have:=HK1.out;omega
    case rel=>exact ⟨y,m5,wrap64 (x5+1),rfl,rfl,H',⟨by have:=HK1.out;omega⟩,⟨by rw [HLY.out,HL.out]⟩,⟨HY.out ▸ HO7.out⟩,HK7,HB7⟩
   ·rw [if_neg c3] at H
    have hn3:¬ x5<(n:Int):=by rw [HL.out];exact c3
    have z3:decide (x5<(n:Int))=false:=df_ hn3
    clear c3 hn3
    simp only [Option.some.injEq,Prod.mk.injEq] at H
    obtain ⟨rfl,rfl⟩:=H
    go_wp2
    go_ret
    exact ⟨rfl,HO.out,HB.out,HK.out⟩
theorem laws_markNodeS.callsT (k:Nat):markNodeC k:=by
 induction k using Nat.strongRecOn with
 | _ k ih=>exact markNode_step k ih
/-! ### impl_find: function 22, by hand -/
/-- The node at a path; the row in which it lies; the tree with that row changed. -/
def atPath:List S28→List Int→Option S28
 | _,[]=>none
 | xs,[i]=>if 0≤i∧i<(xs.length:Int) then some (xs.getD i.toNat z28) else none
 | xs,i :: j :: ps=>if 0≤i∧i<(xs.length:Int) then atPath (xs.getD i.toNat z28).f5 (j :: ps) else none
def rowAt:List S28→List Int→List S28
 | xs,[]=>xs
 | xs,[_]=>xs
 | xs,i :: j :: ps=>rowAt (xs.getD i.toNat z28).f5 (j :: ps)
def updAt:List S28→List Int→List S28→List S28
 | _,[],ys=>ys
 | _,[_],ys=>ys
 | xs,i :: j :: ps,ys=>xs.set i.toNat ⟨(xs.getD i.toNat z28).f0,(xs.getD i.toNat z28).f1,(xs.getD i.toNat z28).f2,(xs.getD i.toNat z28).f3,(xs.getD i.toNat z28).f4,updAt (xs.getD i.toNat z28).f5 (j :: ps) ys⟩
/-- The kids of element i lent, and put back changed, with new blocks (fr) of their own. -/
theorem nodeKids {base g n cap:Nat} {ok:Nat→Prop} {W:World} {xs:List S28} (h:Kd.S kTN 28 W base ok (.slice (some ⟨g,0,none⟩) n cap) xs) (i:Int) (h0:0≤i) (h1:i<n) (x:S28) (hx:rd_T28 xs i=x) :
 ∃ (A5:Option Addr) (c5:Nat) (q:Nat→Prop),W.cell? ⟨g,i.toNat * 6+5,none⟩=some (.slice A5 x.f5.length c5)∧Kd.S kTN 28 W base q (.slice A5 x.f5.length c5) x.f5∧(∀ k,q k→ok k∧k≠g) ∧
  ∀ (W1:World) (ys:List S28) (fr:Nat→Prop),(∀ k,fr k→W.heap.size≤k)→Kept W W1 q→Kd.S kTN 28 W1 base (fun k=>q k∨fr k) (.slice A5 x.f5.length c5) ys→Kd.S kTN 28 W1 base (fun k=>ok k∨fr k) (.slice (some ⟨g,0,none⟩) n cap) (xs.set i.toNat ⟨x.f0,x.f1,x.f2,x.f3,x.f4,ys⟩):=by
 have hB:=Kd.S_mono (Kd.S_bound h) (ok':=fun k=>ok k∧k<W.heap.size) (fun k hk=>⟨hk.1,hk.2.2.1⟩)
 obtain ⟨oki,c,hcl,hM,hcc,hfr,hoki,hH⟩:=Kd.S_elem hB z28 i h0 h1
 have hx':xs.getD i.toNat z28=x:=hx
 rw [hx'] at hM
 obtain ⟨v4,v5,pp,rfl,g4,g5⟩:=kTN_openM hM
 obtain ⟨A4,c4,rfl⟩:=Kd.R_slice g4
 obtain ⟨A5,c5,rfl⟩:=Kd.S_slice g5
 refine ⟨A5,c5,_,hcc 5 _ rfl,g5,fun k hk=>⟨(hoki k hk.1).1.1,(hoki k hk.1).2⟩,fun W1 ys fr hf hk hr=>?_⟩
 have nf:∀ k,oki k→¬ fr k:=fun k hk h2=>by have h3:=(hoki k hk).1.2;have h4:=hf k h2;omega
 have hH2:Kd.H kTN 28 W base (fun k=>ok k∨fr k) (.slice (some ⟨g,0,none⟩) n cap) xs i (fun k=>oki k∨fr k) [.int .i64 x.f0,.int .i64 x.f1,.string x.f2,.string x.f3,.slice A4 x.f4.length c4,.slice A5 x.f5.length c5] :=
  Kd.H_more (okg:=fr) (Kd.H_mono hH (fun k hk=>⟨.inl hk.1,fun h2=>by have h3:=hk.2;have h4:=hf k h2;omega⟩)) (fun k hk=>.inr hk)
 refine Kd.H_back (Kd.H_step hH2 (fun k _ hn hlt=>hk.2 k hlt (fun h2=>hn (.inl h2.1)))) (x':=(⟨x.f0,x.f1,x.f2,x.f3,x.f4,ys⟩:S28)) (okp:=fun k=>oki k∨fr k) (kTN_mkM _ _ _ (fun k=>pp k∧¬ fr k) (⟨x.f0,x.f1,x.f2,x.f3,x.f4,ys⟩:S28) ?_ ?_) (fun k hk=>hk)
 ·exact Kd.R_mono (Kd.R_kept g4 hk (fun k h2 h3=>h3.2 h2.2)) (fun k h2=>⟨.inl h2.1,h2.2,nf k h2.1⟩)
 ·exact Kd.S_mono hr (fun k h2=>h2.elim (fun h3=>⟨.inl h3.1,fun h4=>h3.2 h4.1⟩) (fun h3=>⟨.inr h3,fun h4=>h4.2 h3⟩))
theorem atPath_none (xs:List S28) (i:Int) (ps:List Int) (h:¬ (0≤i∧i<(xs.length:Int))):atPath xs (i :: ps)=none:=by
 cases ps with
 | nil=>rw [atPath,if_neg h]
 | cons j ps=>rw [atPath,if_neg h]
/-- The node's row is one of the tree's own; the node's place in it; a changed row put back. -/
def Foc (W:World) (base:Nat) (ok:Nat→Prop) (v:Value) (xs:List S28) (path:List Int) (p:Addr) (x:S28):Prop :=
 ∃ (g n cap:Nat) (okq:Nat→Prop) (i:Nat),p=⟨g,i * 6,none⟩∧i<n∧okq g∧(∀ k,okq k→ok k)∧Kd.S kTN 28 W base okq (.slice (some ⟨g,0,none⟩) n cap) (rowAt xs path)∧path.getLast? = some (i:Int)∧(rowAt xs path).getD i z28=x∧∀ (W1:World) (ys:List S28) (fr:Nat→Prop),(∀ k,fr k→W.heap.size≤k)→Kept W W1 okq→Kd.S kTN 28 W1 base (fun k=>okq k∨fr k) (.slice (some ⟨g,0,none⟩) n cap) ys→Kd.S kTN 28 W1 base (fun k=>ok k∨fr k) v (updAt xs path ys)
def findRes (W:World) (base:Nat) (ok:Nat→Prop) (v:Value) (xs:List S28) (path:List Int) (r:Value):Option S28→Prop
 | none=>r=.pointer none
 | some x=>∃ p,r=.pointer (some p)∧Foc W base ok v xs path p x
/-- Where the walk stands: the row at hand, what puts it back, what is left of the path. -/
def findInv (w:World) (base:Nat) (ok:Nat→Prop) (v:Value) (xs:List S28) (path:List Int) (cur:List S28) (A:Option Addr) (c:Nat) (rest:List Int) (pv:Value):Prop :=
 ∃ (okq:Nat→Prop) (plug:List S28→List S28),Kd.S kTN 28 w base okq (.slice A cur.length c) cur∧(∀ k,okq k→ok k)∧(∀ (W1:World) (ys:List S28) (fr:Nat→Prop),(∀ k,fr k→w.heap.size≤k)→Kept w W1 okq→Kd.S kTN 28 W1 base (fun k=>okq k∨fr k) (.slice A cur.length c) ys→Kd.S kTN 28 W1 base (fun k=>ok k∨fr k) v (plug ys)) ∧
  (rest≠[]→atPath xs path=atPath cur rest∧rowAt xs path=rowAt cur rest∧path.getLast? = rest.getLast? ∧ ∀ ys,updAt xs path ys=plug (updAt cur rest ys)) ∧
  (rest=[]→findRes w base ok v xs path pv (atPath xs path))
theorem findInv_end {w:World} {base:Nat} {ok:Nat→Prop} {v:Value} {xs:List S28} {path:List Int} {cur:List S28} {A:Option Addr} {c:Nat} {rest:List Int} {pv:Value} (h:findInv w base ok v xs path cur A c rest pv) (hr:rest=[]):findRes w base ok v xs path pv (atPath xs path):=by
 obtain ⟨_,_,_,_,_,_,h⟩:=h
 exact h hr
set_option maxHeartbeats 4000000 in
theorem find_step (w:World) (base:Nat) (ok:Nat→Prop) (v:Value) (xs:List S28) (path:List Int) (cur:List S28) (A:Option Addr) (c:Nat) (i:Int) (ps:List Int) (pv:Value) (h:findInv w base ok v xs path cur A c (i :: ps) pv) (h0:0≤i) (h1:i<(cur.length:Int)) :
 ∃ (g:Nat) (A5:Option Addr) (c5:Nat),A=some ⟨g,0,none⟩∧w.cell? ⟨g,i.toNat * 6+5,none⟩=some (.slice A5 (rd_T28 cur i).f5.length c5)∧findInv w base ok v xs path (rd_T28 cur i).f5 A5 c5 ps (.pointer (some ⟨g,i.toNat * 6,none⟩)):=by
 obtain ⟨okq,plug,hS,hok,hwand,hrest,_⟩:=h
 obtain ⟨e1,e2,e3,e4⟩:=hrest (by simp)
 obtain ⟨g,cap,ev,_,_,_⟩:=Kd.S_form hS (by omega)
 injection ev with ev1 _ ev2
 subst ev1
 have hgq:okq g:=(Kd.S_R hS).1 g (by simp [Value.ownBlock])
 obtain ⟨x,hx⟩:∃ x,rd_T28 cur i=x:=⟨_,rfl⟩
 obtain ⟨A5,c5,q,u5,hq,hqk,hqw⟩:=nodeKids hS i h0 h1 x hx
 have hxd:cur.getD i.toNat z28=x:=hx
 rw [hx]
 refine ⟨g,A5,c5,rfl,u5,q,fun ys=>plug (cur.set i.toNat ⟨x.f0,x.f1,x.f2,x.f3,x.f4,ys⟩),hq,fun k hk=>hok k (hqk k hk).1,fun W1 ys fr hf hk hs=>hwand W1 _ fr hf (hk.mono (fun k hk2=>(hqk k hk2).1)) (hqw W1 ys fr hf hk hs),?_,?_⟩
 ·intro hne
  cases ps with
  | nil=>exact absurd rfl hne
  | cons j ps =>
   rw [e1,e2,e3,atPath,if_pos ⟨h0,h1⟩,rowAt,hxd]
   refine ⟨rfl,rfl,List.getLast?_cons_cons,fun ys=>?_⟩
   rw [e4,updAt,hxd]
 ·intro hps
  subst hps
  rw [e1,atPath,if_pos ⟨h0,h1⟩,hxd]
  refine ⟨_,rfl,g,cur.length,c,okq,i.toNat,rfl,by omega,hgq,hok,?_,?_,?_,?_⟩
  ·rw [e2];exact hS
  ·rw [e3];simp;omega
  ·rw [e2];exact hxd
  ·intro W1 ys fr hf hk hs
   rw [e4]
   exact hwand W1 ys fr hf hk hs
set_option maxHeartbeats 8000000 in
set_option maxRecDepth 100000 in
theorem find_calls (A0:Option Addr) (c0:Nat) (xs:List S28) (A1:Option Addr) (c1:Nat) (path:List Int) (base:Nat) (ok:Nat→Prop) (w:World) (hS:Kd.S kTN 28 w base ok (.slice A0 xs.length c0) xs) (hp:Kd.C (Kd.int .i64) w A1 path.length path) :
 Calls Try.prog 22 #[.slice A0 xs.length c0,.slice A1 path.length c1] w fun e w'=>∃ r,e=.returned r∧findRes w base ok (.slice A0 xs.length c0) xs path r (atPath xs path)∧Below w.heap.size w w':=by
 obtain ⟨R,hR⟩:∃ R,atPath xs path=R:=⟨_,rfl⟩
 have HI:Aside0 (findInv w base ok (.slice A0 xs.length c0) xs path xs A0 c0 path (.pointer none)):=⟨ok,fun ys=>ys,hS,fun _ h=>h,fun W1 ys _ _ _ hs=>hs,fun _=>⟨rfl,rfl,rfl,fun _=>rfl⟩,fun he=>by rw [he,atPath];rfl⟩
 have HP:=A_ hp
 have HB0:=A_ (Below.refl w.heap.size w)
 have hL:path.length≤9223372036854775807:=hp.2.1
 have HLX:Aside0 (xs.length≤9223372036854775807):=⟨(S_readsT hS).2.2.2.1⟩
 clear hS hp hR
 go_enter Try.func22,Try.ntmps22
 go_wp2
 go_loopg [0,5,7,10] path.length (fun gg s0 s5 _ s10 wr=>∃ (kk:Nat) (cur:List S28) (A:Option Addr) (c:Nat) (pv:Value),kk≤path.length∧path.length - kk≤gg∧s0=.slice A cur.length c∧s5=pv∧s10=.int .i64 kk∧Aside0 (findInv w base ok (.slice A0 xs.length c0) xs path cur A c (path.drop kk) pv)∧Aside0 (Below w.heap.size w wr))
 case atStart=>exact ⟨0,xs,A0,c0,_,Nat.zero_le _,by omega,rfl,rfl,rfl,⟨by rw [List.drop_zero];exact HI.out⟩,HB0⟩
 case round =>
  obtain ⟨kk,cur,A,c,pv,hkk,hgg,rfl,rfl,rfl,HJ,BW⟩:=hrel
  by_cases hlt:kk<path.length
  case neg =>
   have hltz:¬ (kk:Int)<(path.length:Int):=by omega
   have HR:=A_ (findInv_end HJ.out (List.drop_eq_nil_of_le (by omega)))
   go_wp2
   go_ret
   exact ⟨_,rfl,HR.out,BW.out⟩
  case pos =>
   have hltz:(kk:Int)<(path.length:Int):=by omega
   obtain ⟨ad,e,hx⟩:=Kd.at_int HP.out (kk:Int) (by omega) (by omega)
   rw [Int.toNat_natCast] at hx
   subst e
   have r0:=pc_ BW.out hx
   obtain ⟨i,hi⟩:∃ i,rd path (kk:Int)=i:=⟨_,rfl⟩
   rw [hi] at r0 hx
   have hdr:path.drop kk=i :: path.drop (kk+1):=by
    rw [Kit.drop_getD 0 path kk hlt,←hi]
    simp [rd]
   have HJ2:=HJ.out
   rw [hdr] at HJ2
   have HLT:=A_ hlt
   have hcl:cur.length≤9223372036854775807:=by obtain ⟨_,_,h,_⟩:=HJ2;exact (S_readsT h).2.2.2.1
   have hw:wrap64 ((cur.length:Int) - 1)=(cur.length:Int) - 1:=Kit.wrap_of (by omega) (by omega)
   have QW:=A_ (fun W=>impl_within.calls i 0 ((cur.length:Int) - 1) _ W (within_now i 0 ((cur.length:Int) - 1)))
   by_cases hin:0≤i∧i<(cur.length:Int)
   case neg =>
    have hd:decide (0≤i∧i≤(cur.length:Int) - 1)=false:=df_ (by omega)
    rw [hd] at QW
    have HN:Aside0 (atPath xs path=none):=⟨by obtain ⟨_,_,_,_,_,h,_⟩:=HJ2;rw [(h (by simp)).1];exact atPath_none _ _ _ hin⟩
    clear HJ HJ2 hdr hx hd hlt hcl hin
    go_wp2_with (first|(go_at_call 34;(with_reducible refine (QW.out _).mono ?_);rintro e w2 ⟨rfl,⟨nd,rfl⟩⟩))
    go_ret
    exact ⟨_,rfl,by rw [HN.out];rfl,by first|exact BW.out|exact pd_ BW.out _⟩
   case pos =>
    have hd:decide (0≤i∧i≤(cur.length:Int) - 1)=true:=dt_ (by omega)
    rw [hd] at QW
    obtain ⟨g,A5,c5,rfl,hc5,hinv⟩:=find_step w base ok _ xs path cur A c i _ _ HJ2 hin.1 hin.2
    have HINV:=A_ hinv
    have h5:=pc_ BW.out hc5
    have p0:=eq_true hin.1
    have p1:=eq_true hin.2
    have p2:decide (0≤i)=true:=dt_ hin.1
    have p3:decide (i<(cur.length:Int))=true:=dt_ hin.2
    clear HJ HJ2 hdr hx hd hinv hc5 hlt hcl hin
    go_wp2_with (first|(go_at_call 34;(with_reducible refine (QW.out _).mono ?_);rintro e w2 ⟨rfl,⟨nd,rfl⟩⟩))
    go_roundg (path.length - (kk+1))
    case measure=>have:=HLT.out;omega
    case rel=>exact ⟨kk+1,(rd_T28 cur i).f5,A5,c5,_,by have:=HLT.out;omega,by omega,rfl,rfl,by go_num,HINV,by first|exact BW|exact ⟨pd_ BW.out _⟩⟩
/-- The tree with another node at a path. -/
def putAt (xs:List S28) (path:List Int) (x':S28):List S28:=updAt xs path ((rowAt xs path).set (path.getLast?.getD 0).toNat x')
theorem focCells {W W1:World} {base:Nat} {ok:Nat→Prop} {v:Value} {xs:List S28} {path:List Int} {p:Addr} {x:S28} (h:Foc W base ok v xs path p x) (hb:Below W.heap.size W W1) :
 ∃ (g i:Nat) (A4:Option Addr) (c4:Nat) (A5:Option Addr) (c5:Nat),p=⟨g,i * 6,none⟩∧W1.cell? ⟨g,i * 6,none⟩=some (.int .i64 x.f0)∧W1.cell? ⟨g,i * 6+1,none⟩=some (.int .i64 x.f1)∧W1.cell? ⟨g,i * 6+2,none⟩=some (.string x.f2)∧W1.cell? ⟨g,i * 6+3,none⟩=some (.string x.f3)∧W1.cell? ⟨g,i * 6+4,none⟩=some (.slice A4 x.f4.length c4)∧W1.cell? ⟨g,i * 6+5,none⟩=some (.slice A5 x.f5.length c5)∧W1.frozen? ⟨g,i * 6+3,none⟩=false∧W1.frozen? ⟨g,i * 6+5,none⟩=false∧(g<W.heap.size∧ok g) ∧
  Kd.C k63 W1 A4 x.f4.length x.f4∧x.f4.length≤c4∧Kd.C k28 W1 A5 x.f5.length x.f5∧x.f5.length≤c5 ∧
  (∀ m:ByteArray,Kd.S kTN 28 (W1.setCell ⟨g,i * 6+3,none⟩ (.string m)) base ok v (putAt xs path ⟨x.f0,x.f1,x.f2,m,x.f4,x.f5⟩)) ∧
  (∀ (A:Option Addr) (n c:Nat) (ks:List S28) (fr:Nat→Prop),(∀ k,fr k→W.heap.size≤k)→Kd.S kTN 28 W1 base fr (.slice A n c) ks→Kd.S kTN 28 (W1.setCell ⟨g,i * 6+5,none⟩ (.slice A n c)) base (fun k=>ok k∨fr k) v (putAt xs path ⟨x.f0,x.f1,x.f2,x.f3,x.f4,ks⟩)):=by
 obtain ⟨g,n,cap,okq,i,rfl,hin,hgq,hokq,hS,hlast,hx,hwand⟩:=h
 have hS1:=Kd.S_below hS hb
 have hgl:g<W.heap.size:=by
  obtain ⟨g',c',ev,_,h3,_⟩:=Kd.S_form hS (by have:=(Kd.S_reads' hS).1;omega)
  injection ev with ev _ _
  injection ev with ev
  injection ev with ev _ _
  rw [ev];exact h3
 have hrd:rd_T28 (rowAt xs path) (i:Int)=x:=by rw [←hx];simp [rd_T28]
 have hput:∀ x',putAt xs path x'=updAt xs path ((rowAt xs path).set i x'):=fun x'=>by unfold putAt;rw [hlast];simp
 obtain ⟨A4,c4,A5,c5,⟨u0,u1,u2,u3,u4,u5⟩,⟨f0,f1,f2,f3,f4,f5⟩,⟨_,_,_,hw3⟩,⟨pA,hA,_⟩,⟨qA,hK,_⟩⟩:=nodeCells (xs0:=rowAt xs path) hS1 (i:Int) (by omega) (by omega) (fun _=>rfl) x hrd
 rw [Int.toNat_natCast] at u0 u1 u2 u3 u4 u5 f3 f5
 refine ⟨g,i,A4,c4,A5,c5,rfl,u0,u1,u2,u3,u4,u5,f3,f5,⟨hgl,hokq g hgq⟩,(Kd.R_reads' hA).2.2,(Kd.R_reads' hA).2.1,(S_readsT hK).2.2,(S_readsT hK).2.1,fun m=>?_,fun A m c ks fr hfr hs=>?_⟩
 ·have h1:=(hw3 m).1
  rw [Int.toNat_natCast] at h1
  rw [hput]
  exact Kd.S_mono (hwand _ _ (fun _=>False) (fun _ hf=>hf.elim) ((Kept.of_below hb okq).setCell (p:=⟨g,i * 6+3,none⟩) (.inl hgq) _) (Kd.S_mono h1 (fun _ hk=>.inl hk))) (fun _ hk=>hk.elim (fun h=>h) (fun h=>h.elim))
 ·have hS2:=Kd.S_mono (Kd.S_bound (Kd.S_below (Kd.S_bound hS) hb)) (ok':=fun k=>(okq k∨fr k)∧¬ fr k) (fun k hk=>⟨.inl hk.1.1,fun hf=>by have h1:=hk.1.2.2.1;have h2:=hfr k hf;omega⟩)
  obtain ⟨oki,c',hcl,hM,hcc,hfz,hoki,hH⟩:=Kd.S_elem hS2 z28 (i:Int) (by omega) (by omega)
  have hx':(rowAt xs path).getD (i:Int).toNat z28=x:=by rw [Int.toNat_natCast];exact hx
  rw [hx'] at hM
  obtain ⟨v4,v5,pp,rfl,g4,_⟩:=kTN_openM hM
  have hM2:kTN.M W1 base (fun k=>oki k∨fr k) (⟨x.f0,x.f1,x.f2,x.f3,x.f4,ks⟩:S28) [.int .i64 x.f0,.int .i64 x.f1,.string x.f2,.string x.f3,v4,.slice A m c] :=
   kTN_mkM _ _ _ (fun k=>pp k∧¬ fr k) (⟨x.f0,x.f1,x.f2,x.f3,x.f4,ks⟩:S28) (Kd.R_mono g4 (fun k hk=>⟨.inl hk.1,hk.2,(hoki k hk.1).1.2⟩)) (Kd.S_mono hs (fun k hk=>⟨.inr hk,fun h=>h.2 hk⟩))
  have hseg:=(Kd.S_seg (okg:=fr) (okp:=fun k=>oki k∨fr k) hH (by omega) (by omega) (seg:=[.slice A m c]) (j:=5) (show 5+1≤6 from Nat.le_refl 6) (x':=(⟨x.f0,x.f1,x.f2,x.f3,x.f4,ks⟩:S28)) hM2 (fun k hk=>hk) (fun k hk=>⟨.inr hk,fun e=>by have h2:=hfr k hk;omega⟩)).1
  rw [hput]
  rw [Int.toNat_natCast] at hseg
  exact hwand _ _ fr hfr ((Kept.of_below hb okq).setCell (p:=⟨g,i * 6+5,none⟩) (.inl hgq) _) hseg
/-! ### slices_Clone_Attr: function 35, by hand -/
theorem infoAt:(Try.prog.info? 63).map (fun i=>(i.zero,i.size,i.bytes))=some (some (.agg #[(.string ⟨#[]⟩),(.string ⟨#[]⟩)]),2,32):=by kernel_rfl
theorem nilA_none (w:World) (c:Nat):(binOp .eql 25 (.slice none 0 c) (.slice none 0 0)).run Try.prog w=.ok (.bool true) w:=Lib.run_eql_slice_nil w 25 63 none 0 c 0 0 Try.underlying25
theorem nilA_some (w:World) (A:Addr) (n c:Nat):(binOp .eql 25 (.slice (some A) n c) (.slice none 0 0)).run Try.prog w=.ok (.bool false) w:=Lib.run_eql_slice_nil w 25 63 (some A) n c 0 0 Try.underlying25
set_option maxHeartbeats 4000000 in
set_option maxRecDepth 100000 in
theorem clone_attrs (l:List S63) (A:Option Addr) (c:Nat) (W:World) (hr:Kd.C k63 W A l.length l) (hn:l.length≤1048576):Calls Try.prog 35 #[.slice A l.length c] W fun e w'=>∃ v,e=.returned v∧Kd.R k63 63 w' W.heap.size (fun _=>True) v l∧Below W.heap.size W w':=by
 have HB:=A_ (Below.refl W.heap.size W)
 have HC:=A_ hr
 have HN:=A_ hn
 have hz:A=none→l=[]:=fun h=>by
  subst h
  apply List.eq_nil_of_length_eq_zero
  rcases Nat.eq_zero_or_pos l.length with h0|h0
  ·exact h0
  ·obtain ⟨ad,h,_⟩:=hr.2.2 h0
   cases h
 cases A with
 | none =>
  obtain rfl:=hz rfl
  have hnil:=fun w:World=>nilA_none w c
  clear hr hn hz
  go_enter Try.func35,Try.ntmps35
  go_wp2
  go_ret
  exact ⟨_,rfl,Kd.R_nil _ _ _ _ _,HB.out⟩
 | some ad =>
  have hnil:=fun w:World=>nilA_some w ad l.length c
  clear hr hn hz
  go_enter Try.func35,Try.ntmps35
  go_wp2_with (first|((with_reducible refine gate_dst (N:=5) rfl ?_);refine Kd.R_lit k63 (w0:=W) W.heap.size 63 ?hg (N:=5) ?hd (xs:=([]:List S63)) (inner:=[]) (ok:=fun _=>True) (okp:=fun _=>True) ?hr ?hp (fun _ hk=>hk) trivial (Below.refl _ _) (Nat.le_refl _) (by simp) ?_;(case hd=>rfl);(case hg=>rfl);(case hr=>first|(go_simp;done)|(go_simp;rfl));(case hp=>exact (Reps.none _ _));intro v2 w2 ho hb _ _;(have HR2:=A_ ho);(have HB2:=A_ hb);(have HC2:=A_ (cb_ HC.out hb));clear ho hb)|((with_reducible refine gate_builtin (b:=.append) (xs:=#[.tmp 5,.tmp 6]) rfl ?_);at_builtin;refine Kd.R_append_rows k63 (w0:=W) W.heap.size rfl (.tmp 5) (.tmp 6) 25 63 (.agg #[(.string ⟨#[]⟩),(.string ⟨#[]⟩)]) 32 rfl Try.underlying25 infoAt rfl (by decide) (by omega) v2 ([]:List S63) l _ _ _ (fun _=>True) (fun _=>False) rfl rfl ?aO ?aR (fun _ _ h=>h) (fun _ h=>h.elim) (fun _ _=>trivial) ?aB ?aS ?aL ?_;(case aR=>exact HC2.out);(case aO=>exact HR2.out);(case aB=>exact HB2.out);(case aS=>exact HB2.out.size);(case aL=>have:=HN.out;simp only [List.length_nil];omega);intro v3 w3 ho hb _ _;rw [List.nil_append] at ho;(have HR3:=A_ ho);(have HB3:=A_ hb);clear ho hb))
  go_ret
  exact ⟨_,rfl,HR3.out,HB3.out⟩
end Go.Proofs.Ytjhfempockbdoaa.PFnExactNodeAt
