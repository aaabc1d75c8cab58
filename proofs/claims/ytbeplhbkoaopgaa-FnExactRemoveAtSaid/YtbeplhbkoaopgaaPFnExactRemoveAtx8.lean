/- By a program of this session, out of the kit's print and contracts made by hand: the machine side of a law; Lean checks it. No conditions. -/
import Derived.Test.YtbeplhbkoaopgaaPFnExactRemoveAtx0
import Derived.Test.YtbeplhbkoaopgaaPFnExactRemoveAtx7
namespace Go.Proofs.Ytbeplhbkoaopgaa.PFnExactRemoveAt
open Go.RowKit Go.Proofs.YtbeplhbkoaopgaaW.PrintWords Go.Proofs.YtbeplhbkoaopgaaW.PrintLast Go.Proofs.YtbeplhbkoaopgaaW.PrintMore
attribute [local go_sem] max2_int min2_int max_two min_two max_three min_three max_four min_four
set_option linter.unusedVariables false
set_option linter.unusedSimpArgs false
/-! ### laws_markNodeS: function 14, by hand -/
theorem rd_setT (xs:List S28) (i:Int) (a:S28) (h0:0≤i) (h1:i<xs.length):rd_T28 (xs.set i.toNat a) i=a:=by
 unfold rd_T28
 rw [List.getD_eq_getElem?_getD,List.getElem?_set_self (by omega)]
 rfl
/-- Element i of a tree of one's own: its cells; one of them written; one of its two rows lent. -/
theorem nodeCells {base g n cap:Nat} {ok:Nat→Prop} {W:World} {xs xs0:List S28} (h:Kd.S kTN 28 W base ok (.slice (some ⟨g,0,none⟩) n cap) xs) (i:Int) (h0:0≤i) (h1:i<n) (hxs:∀ x',xs.set i.toNat x'=xs0.set i.toNat x') (x:S28) (hx:rd_T28 xs i=x) :
 ∃ (A4:Option Addr) (c4:Nat) (A5:Option Addr) (c5:Nat),(W.cell? ⟨g,i.toNat * 6,none⟩=some (.int .i64 x.f0)∧W.cell? ⟨g,i.toNat * 6+1,none⟩=some (.int .i64 x.f1)∧W.cell? ⟨g,i.toNat * 6+2,none⟩=some (.string x.f2)∧W.cell? ⟨g,i.toNat * 6+3,none⟩=some (.string x.f3)∧W.cell? ⟨g,i.toNat * 6+4,none⟩=some (.slice A4 x.f4.length c4)∧W.cell? ⟨g,i.toNat * 6+5,none⟩=some (.slice A5 x.f5.length c5))∧(W.frozen? ⟨g,i.toNat * 6,none⟩=false∧W.frozen? ⟨g,i.toNat * 6+1,none⟩=false∧W.frozen? ⟨g,i.toNat * 6+2,none⟩=false∧W.frozen? ⟨g,i.toNat * 6+3,none⟩=false∧W.frozen? ⟨g,i.toNat * 6+4,none⟩=false∧W.frozen? ⟨g,i.toNat * 6+5,none⟩=false) ∧
  ((∀ m:Int,Kd.S kTN 28 (W.setCell ⟨g,i.toNat * 6,none⟩ (.int .i64 m)) base ok (.slice (some ⟨g,0,none⟩) n cap) (xs0.set i.toNat ⟨m,x.f1,x.f2,x.f3,x.f4,x.f5⟩)∧W.grownBy (W.setCell ⟨g,i.toNat * 6,none⟩ (.int .i64 m)) (some g))∧(∀ m:Int,Kd.S kTN 28 (W.setCell ⟨g,i.toNat * 6+1,none⟩ (.int .i64 m)) base ok (.slice (some ⟨g,0,none⟩) n cap) (xs0.set i.toNat ⟨x.f0,m,x.f2,x.f3,x.f4,x.f5⟩)∧W.grownBy (W.setCell ⟨g,i.toNat * 6+1,none⟩ (.int .i64 m)) (some g))∧(∀ m:ByteArray,Kd.S kTN 28 (W.setCell ⟨g,i.toNat * 6+2,none⟩ (.string m)) base ok (.slice (some ⟨g,0,none⟩) n cap) (xs0.set i.toNat ⟨x.f0,x.f1,m,x.f3,x.f4,x.f5⟩)∧W.grownBy (W.setCell ⟨g,i.toNat * 6+2,none⟩ (.string m)) (some g))∧(∀ m:ByteArray,Kd.S kTN 28 (W.setCell ⟨g,i.toNat * 6+3,none⟩ (.string m)) base ok (.slice (some ⟨g,0,none⟩) n cap) (xs0.set i.toNat ⟨x.f0,x.f1,x.f2,m,x.f4,x.f5⟩)∧W.grownBy (W.setCell ⟨g,i.toNat * 6+3,none⟩ (.string m)) (some g))) ∧
  (∃ p:Nat→Prop,Kd.R k71 71 W base p (.slice A4 x.f4.length c4) x.f4∧(∀ k,p k→ok k∧k≠g)∧∀ (W1:World) (ys:List S71),Kept W W1 p→Kd.R k71 71 W1 base p (.slice A4 x.f4.length c4) ys→Kd.S kTN 28 W1 base ok (.slice (some ⟨g,0,none⟩) n cap) (xs0.set i.toNat ⟨x.f0,x.f1,x.f2,x.f3,ys,x.f5⟩)) ∧
  (∃ q:Nat→Prop,Kd.S kTN 28 W base q (.slice A5 x.f5.length c5) x.f5∧(∀ k,q k→ok k∧k≠g)∧∀ (W1:World) (ys:List S28),Kept W W1 q→Kd.S kTN 28 W1 base q (.slice A5 x.f5.length c5) ys→Kd.S kTN 28 W1 base ok (.slice (some ⟨g,0,none⟩) n cap) (xs0.set i.toNat ⟨x.f0,x.f1,x.f2,x.f3,x.f4,ys⟩)):=by
 obtain ⟨oki,c,hcl,hM,hcc,hfr,hoki,hH⟩:=Kd.S_elem h z28 i h0 h1
 have hx':xs.getD i.toNat z28=x:=hx
 rw [hx'] at hM
 obtain ⟨v4,v5,pp,rfl,g4,g5⟩:=kTN_openM hM
 obtain ⟨A4,c4,rfl⟩:=Kd.R_slice g4
 obtain ⟨A5,c5,rfl⟩:=Kd.S_slice g5
 refine ⟨A4,c4,A5,c5,⟨hcc 0 _ rfl,hcc 1 _ rfl,hcc 2 _ rfl,hcc 3 _ rfl,hcc 4 _ rfl,hcc 5 _ rfl⟩,⟨hfr 0,hfr 1,hfr 2,hfr 3,hfr 4,hfr 5⟩,⟨?_,?_,?_,?_⟩,⟨_,g4,fun k hk=>hoki k hk.1,fun W1 ys hk hr=>?_⟩,⟨_,g5,fun k hk=>hoki k hk.1,fun W1 ys hk hr=>?_⟩⟩
 ·exact fun m=>by
   rw [←hxs]
   exact Kd.S_seg (okg:=fun _=>False) (okp:=oki) (Kd.H_mono hH (fun k hk=>⟨hk,fun h=>h⟩)) h0 h1 (seg:=[.int .i64 m]) (j:=0) (show 0+1≤6 by decide) (x':=(⟨m,x.f1,x.f2,x.f3,x.f4,x.f5⟩:S28)) (kTN_mkM _ _ _ pp (⟨m,x.f1,x.f2,x.f3,x.f4,x.f5⟩:S28) g4 g5) (fun k hk=>.inl hk) (fun k hk=>hk.elim)
 ·exact fun m=>by
   rw [←hxs]
   exact Kd.S_seg (okg:=fun _=>False) (okp:=oki) (Kd.H_mono hH (fun k hk=>⟨hk,fun h=>h⟩)) h0 h1 (seg:=[.int .i64 m]) (j:=1) (show 1+1≤6 by decide) (x':=(⟨x.f0,m,x.f2,x.f3,x.f4,x.f5⟩:S28)) (kTN_mkM _ _ _ pp (⟨x.f0,m,x.f2,x.f3,x.f4,x.f5⟩:S28) g4 g5) (fun k hk=>.inl hk) (fun k hk=>hk.elim)
 ·exact fun m=>by
   rw [←hxs]
   exact Kd.S_seg (okg:=fun _=>False) (okp:=oki) (Kd.H_mono hH (fun k hk=>⟨hk,fun h=>h⟩)) h0 h1 (seg:=[.string m]) (j:=2) (show 2+1≤6 by decide) (x':=(⟨x.f0,x.f1,m,x.f3,x.f4,x.f5⟩:S28)) (kTN_mkM _ _ _ pp (⟨x.f0,x.f1,m,x.f3,x.f4,x.f5⟩:S28) g4 g5) (fun k hk=>.inl hk) (fun k hk=>hk.elim)
 ·exact fun m=>by
   rw [←hxs]
   exact Kd.S_seg (okg:=fun _=>False) (okp:=oki) (Kd.H_mono hH (fun k hk=>⟨hk,fun h=>h⟩)) h0 h1 (seg:=[.string m]) (j:=3) (show 3+1≤6 by decide) (x':=(⟨x.f0,x.f1,x.f2,m,x.f4,x.f5⟩:S28)) (kTN_mkM _ _ _ pp (⟨x.f0,x.f1,x.f2,m,x.f4,x.f5⟩:S28) g4 g5) (fun k hk=>.inl hk) (fun k hk=>hk.elim)
 ·rw [←hxs]
  refine Kd.H_back (Kd.H_step hH (fun k _ hn hlt=>hk.2 k hlt (fun h2=>hn h2.1))) (x':=(⟨x.f0,x.f1,x.f2,x.f3,ys,x.f5⟩:S28)) (okp:=oki) (kTN_mkM _ _ _ pp (⟨x.f0,x.f1,x.f2,x.f3,ys,x.f5⟩:S28) hr (Kd.S_kept g5 hk (fun k h2 h3=>h2.2 h3.2))) (fun k hk=>hk)
 ·rw [←hxs]
  refine Kd.H_back (Kd.H_step hH (fun k _ hn hlt=>hk.2 k hlt (fun h2=>hn h2.1))) (x':=(⟨x.f0,x.f1,x.f2,x.f3,x.f4,ys⟩:S28)) (okp:=oki) (kTN_mkM _ _ _ pp (⟨x.f0,x.f1,x.f2,x.f3,x.f4,ys⟩:S28) (Kd.R_kept g4 hk (fun k h2 h3=>h3.2 h2.2)) hr) (fun k hk=>hk)
mutual
def laws_markNodeS.l0:Nat→List S28→Int→Int→Option (Int × List S28)
 | 0,_,_,_=>none
 | k+1,x0,x1,x5=>if x5<(x0.length:Int) then (if 0≤x5 then (laws_markText.f k (wrap64 (wrap64 (x1+1)+1))).bind fun t=>(laws_markText.f k (wrap64 (wrap64 (wrap64 (x1+1)+1)+1))).bind fun t'=>(laws_markAttrS.f k (rd_T28 x0 x5).f4 (wrap64 (wrap64 (wrap64 (wrap64 (x1+1)+1)+1)+1))).bind fun p=>(laws_markNodeS.f k (rd_T28 x0 x5).f5 p.1).bind fun q=>laws_markNodeS.l0 k (x0.set x5.toNat ⟨x1,wrap64 (x1+1),t,t',p.2,q.2⟩) q.1 (wrap64 (x5+1)) else none) else some (x1,x0)
def laws_markNodeS.f:Nat→List S28→Int→Option (Int × List S28)
 | 0,_,_=>none
 | k+1,x0,x1=>laws_markNodeS.l0 k x0 x1 0
end
abbrev markNodeC (k:Nat):Prop:=∀ (P:Nat→Prop) (A:Option Addr) (n c:Nat) (xs ys:List S28) (m r:Int) (w0 w:World),Below w0.heap.size w0 w→Kd.S kTN 28 w w0.heap.size P (.slice A n c) xs→laws_markNodeS.f k xs m=some (r,ys) →
 Calls Try.prog 14 #[.slice A n c,.int .i64 m] w fun e w'=>e=.returned (.int .i64 r)∧Kd.S kTN 28 w' w0.heap.size P (.slice A n c) ys∧Below w0.heap.size w0 w'∧Kept w w' P
set_option maxHeartbeats 16000000 in
set_option maxRecDepth 1000000 in
theorem markNode_step (k:Nat) (ih:∀ j,j<k→markNodeC j):markNodeC k:=by
 intro P A n c xs ys m r w0 w hB ho h
 cases k with
 | zero=>exact absurd h (by simp [laws_markNodeS.f])
 | succ k =>
 simp only [laws_markNodeS.f] at h
 have HO:=A_ ho
 have HK:=A_ (Kept.refl w P)
 have HB:=A_ hB
 have IH:=A_ ih
 have H':=A_ h
 have hlen:=(Kd.S_reads' ho).1
 have HN:=A_ hlen
 clear h hB ho ih hlen
 go_enter Try.func14,Try.ntmps14
 go_wp2
 go_loopg [1,5] k (fun kq v1 v5 w'=>∃ (x0:List S28) (x1 x5:Int),v1=.int .i64 x1∧v5=.int .i64 x5∧Aside0 (laws_markNodeS.l0 kq x0 x1 x5=some (r,ys))∧Aside0 (kq≤k)∧Aside0 (n=x0.length)∧Aside0 (Kd.S kTN 28 w' w0.heap.size P (.slice A n c) x0)∧Aside0 (Kept w w' P)∧Aside0 (Below w0.heap.size w0 w'))
 case atStart=>exact ⟨xs,m,0,rfl,rfl,H',⟨Nat.le_refl _⟩,HN,HO,HK,HB⟩
 case round =>
  clear H' HO HK HB HN
  obtain ⟨x0,x1,x5,rfl,rfl,HA,HK1,HL,HO,HK,HB⟩:=hrel
  cases gk with
  | zero=>exact absurd HA.out (by simp [laws_markNodeS.l0])
  | succ k1 =>
   have H:=HA.out
   clear HA
   simp only [laws_markNodeS.l0] at H
   by_cases c3:x5<(x0.length:Int)
   ·rw [if_pos c3] at H
    obtain ⟨c5,H⟩:=Option.ite_none_right_eq_some.mp H
    obtain ⟨t,ht,H⟩:=ob_ H
    obtain ⟨t',ht',H⟩:=ob_ H
    obtain ⟨⟨m4,as1⟩,ha,H⟩:=ob_ H
    obtain ⟨⟨m5,ks1⟩,hk,H⟩:=ob_ H
    obtain ⟨x,hx⟩:∃ x,rd_T28 x0 x5=x:=⟨_,rfl⟩
    rw [hx] at ha hk
    obtain ⟨y,hy⟩:∃ y,y=x0.set x5.toNat ⟨x1,wrap64 (x1+1),t,t',as1,ks1⟩:=⟨_,rfl⟩
    replace H:laws_markNodeS.l0 k1 y m5 (wrap64 (x5+1))=some (r,ys):=by rw [hy];exact H
    have H':=A_ H
    have HT:=A_ ht
    have HT':=A_ ht'
    have HAT:=A_ ha
    have HKD:=A_ hk
    have HY:=A_ hy
    have hly:y.length=x0.length:=by rw [hy,List.length_set]
    have HLY:=A_ hly
    have HC5:=A_ c5
    have HL5:=A_ c3
    have hn3:x5<(n:Int):=by rw [HL.out];exact c3
    have HC3:=A_ hn3
    clear H ht ht' ha hk hy hly
    obtain ⟨g,cap,ev,hg0,hgl,_⟩:=Kd.S_form HO.out (by omega)
    injection ev with e1 e2 e3
    subst e1 e3
    have HG:=A_ hg0
    have HP:Aside0 (P g):=⟨by obtain ⟨_,hR⟩:=HO.out;exact hR.1 g (by simp [Value.ownBlock])⟩
    obtain ⟨_,_,_,_,⟨q0,q1,_⟩,⟨r0,r1,_⟩,⟨s0,_⟩,_,_⟩:=nodeCells HO.out x5 c5 hn3 (fun x'=>rfl) x hx
    obtain ⟨hs0,hh0⟩:=s0 x1
    obtain ⟨_,_,_,_,_,_,⟨_,s1,_⟩,_,_⟩:=nodeCells hs0 x5 c5 hn3 (fun x'=>List.set_set ..) _ (rd_setT x0 x5 _ c5 c3)
    obtain ⟨hs1,hh1⟩:=s1 (wrap64 (x1+1))
    have HO1:=A_ hs1
    have HK1':=A_ (Kept.of_grown hh1 (Kept.of_grown hh0 HK.out (fun k hk=>.inl (by injection hk with hk;exact hk ▸ HP.out))) (fun k hk=>.inl (by injection hk with hk;exact hk ▸ HP.out)))
    have HB1:=A_ (bs_ (j:=x5.toNat * 6+1) (v:=.int .i64 (wrap64 (x1+1))) (bs_ (j:=x5.toNat * 6) (v:=.int .i64 x1) HB.out hg0) hg0)
    have z3:decide (x5<(n:Int))=true:=dt_ hn3
    have z5:decide (0≤x5)=true:=dt_ c5
    have p3:=eq_true hn3
    have p5:=eq_true c5
    clear c3 c5 hn3 hg0 hgl s0 s1 hs0 hh0 hs1 hh1 e2 hx HO HK HB
    go_wp2_with (first|(go_at_call 32;(with_reducible refine (laws_markText.calls k1 _ t _ HT.out).mono ?_);rintro e w3 ⟨rfl,hb⟩;(have HOa3:=A_ (Kd.S_below HO1.out hb));(have HKa3:=A_ (Kept.below HK1'.out hb));(have HBa3:=A_ (bp_ HB1.out hb));clear hb HO1 HK1' HB1;(obtain ⟨_,_,_,_,⟨d0,d1,d2,d3,d4,d5⟩,⟨f0,f1,f2,f3,f4,f5⟩,⟨_,_,s2,s3⟩,_,_⟩:=nodeCells HOa3.out x5 HC5.out HC3.out (fun x'=>List.set_set ..) _ (rd_setT x0 x5 _ HC5.out HL5.out));(obtain ⟨hs,hg⟩:=s2 t);(have HO3:=A_ hs);(have HK3:=A_ (Kept.of_grown hg HKa3.out (fun k hk=>.inl (by injection hk with hk;exact hk ▸ HP.out))));(have HB3:=A_ (bs_ (j:=x5.toNat * 6+2) (v:=.string t) HBa3.out HG.out));clear hs hg s2 s3 d0 d1 d4 d5 f0 f1 f4 f5 HOa3 HKa3 HBa3)|(go_at_call 32;(with_reducible refine (laws_markText.calls k1 _ t' _ HT'.out).mono ?_);rintro e w4 ⟨rfl,hb⟩;(have HOa4:=A_ (Kd.S_below HO3.out hb));(have HKa4:=A_ (Kept.below HK3.out hb));(have HBa4:=A_ (bp_ HB3.out hb));clear hb HO3 HK3 HB3;(obtain ⟨_,_,_,_,⟨d0,d1,d2,d3,d4,d5⟩,⟨f0,f1,f2,f3,f4,f5⟩,⟨_,_,s2,s3⟩,_,_⟩:=nodeCells HOa4.out x5 HC5.out HC3.out (fun x'=>List.set_set ..) _ (rd_setT x0 x5 _ HC5.out HL5.out));(obtain ⟨hs,hg⟩:=s3 t');(have HO4:=A_ hs);(have HK4:=A_ (Kept.of_grown hg HKa4.out (fun k hk=>.inl (by injection hk with hk;exact hk ▸ HP.out))));(have HB4:=A_ (bs_ (j:=x5.toNat * 6+3) (v:=.string t') HBa4.out HG.out));clear hs hg s2 s3 d0 d1 d4 d5 f0 f1 f4 f5 HOa4 HKa4 HBa4;(obtain ⟨A4,c4,A5,c5,⟨_,_,_,_,d4,_⟩,_,_,⟨p,hr4,hp4,hw4⟩,_⟩:=nodeCells HO4.out x5 HC5.out HC3.out (fun x'=>List.set_set ..) _ (rd_setT x0 x5 _ HC5.out HL5.out));(have HR4:=A_ hr4);(have HW4:=A_ hw4);(have HP4:=A_ hp4);clear hr4 hw4 hp4)|(go_at_call 33;(with_reducible refine (laws_markAttrS.calls k1 p _ x.f4 _ m4 as1 w0 _ HB4.out HR4.out HAT.out).mono ?_);rintro e w6 ⟨rfl,hr,hb,hk⟩;(have HO6:=A_ (HW4.out w6 as1 hk (Kd.R_mono (Kd.R_tight rfl hr) (fun k hk=>HR4.out.1 k hk.symm))));(have HK6:=A_ (HK4.out.then_ hk (fun k hk=>.inl (HP4.out k hk).1)));(have HB6:=A_ hb);clear hr hb hk HO4 HK4 HB4 HW4 HP4 d4;(obtain ⟨A4',c4',A5',c5',⟨_,_,_,_,_,d5⟩,_,_,_,⟨q,hr5,hp5,hw5⟩⟩:=nodeCells HO6.out x5 HC5.out HC3.out (fun x'=>List.set_set ..) _ (rd_setT x0 x5 _ HC5.out HL5.out));(have HR5:=A_ hr5);(have HW5:=A_ hw5);(have HP5:=A_ hp5);clear hr5 hw5 hp5)|(go_at_call 14;(with_reducible refine (IH.out k1 (by have:=HK1.out;omega) q _ _ _ x.f5 ks1 _ m5 w0 _ HB6.out HR5.out HKD.out).mono ?_);rintro e w7 ⟨rfl,hs,hb,hk⟩;(have HO7:=A_ (HW5.out w7 ks1 hk hs));(have HK7:=A_ (HK6.out.then_ hk (fun k hk=>.inl (HP5.out k hk).1)));(have HB7:=A_ hb);clear hs hb hk HO6 HK6 HB6 HW5 HP5 d5))
    go_roundg k1
    case measure=>have:=HK1.out;omega
    case rel=>exact ⟨y,m5,wrap64 (x5+1),rfl,rfl,H',⟨by have:=HK1.out;omega⟩,⟨by rw [HLY.out,HL.out]⟩,⟨HY.out ▸ HO7.out⟩,HK7,HB7⟩
   ·rw [if_neg c3] at H
    have hn3:¬ x5<(n:Int):=by rw [HL.out];exact c3
    have z3:decide (x5<(n:Int))=false:=df_ hn3
    clear c3 hn3
    simp only [Option.some.injEq,Prod.mk.injEq] at H
    obtain ⟨rfl,rfl⟩:=H
    go_wp2
    go_ret
    exact ⟨rfl,HO.out,HB.out,HK.out⟩
theorem laws_markNodeS.callsT (k:Nat):markNodeC k:=by
 induction k using Nat.strongRecOn with
 | _ k ih=>exact markNode_step k ih
/-! ### laws_markIntS: function 15 -/
def laws_markIntS.l0:Nat→List Int→Int→Int→Option (Int × List Int)
 | 0,_,_,_=>none
 | k+1,x0,x1,x5=>if x5<(x0.length:Int) then (if 0≤x5 then (laws_markIntS.l0 k (x0.set (x5:Int).toNat x1) (wrap64 (x1+1)) (wrap64 (x5+1))) else (none)) else (some (x1,x0))
def laws_markIntS.f (k:Nat) (l0:List Int) (a1:Int):Option (Int × List Int):=laws_markIntS.l0 k l0 a1 0
theorem laws_markIntS.mono_l:∀ k,(∀ y0 y1 y2,LeO (laws_markIntS.l0 k y0 y1 y2) (laws_markIntS.l0 (k+1) y0 y1 y2))
 | 0=>fun _ _ _ r h=>by simp [laws_markIntS.l0] at h
 | k+1=>by
  have ih0:=laws_markIntS.mono_l k
  ·intro y0 y1 y2
   unfold laws_markIntS.l0
   repeat' first
   | (with_reducible exact ih0 _ _ _)
   | (with_reducible exact LeO.refl _)
   | (with_reducible exact LeO.none _)
   | (with_reducible refine LeO.ite ?_ ?_)
   | (with_reducible refine LeO.bind ?_ (fun _=>?_))
   | exact ih0 _ _ _
   | exact LeO.none _
   | refine LeO.ite ?_ ?_
   | refine LeO.bind ?_ (fun _=>?_)
theorem laws_markIntS.mono:∀ a0 a1 k,LeO (laws_markIntS.f k a0 a1) (laws_markIntS.f (k+1) a0 a1):=by
 intro a0 a1 k
 have ih0:=laws_markIntS.mono_l k
 unfold laws_markIntS.f
 repeat' first
  | (with_reducible exact ih0 _ _ _)
  | (with_reducible exact LeO.refl _)
  | (with_reducible exact LeO.none _)
  | (with_reducible refine LeO.ite ?_ ?_)
  | (with_reducible refine LeO.bind ?_ (fun _=>?_))
  | exact ih0 _ _ _
  | exact LeO.none _
  | refine LeO.ite ?_ ?_
  | refine LeO.bind ?_ (fun _=>?_)
set_option maxHeartbeats 8000000 in
set_option maxRecDepth 100000 in
theorem laws_markIntS.calls (k:Nat) (P0_:Nat→Prop) (u9000_:Value) (l0:List Int) (a1:Int) (r1:Int) (r2:List Int) (w0 w:World) (hB:Below w0.heap.size w0 w) (ho0:Kd.R (Kd.int .i64) 3 w w0.heap.size P0_ u9000_ l0) (h:laws_markIntS.f k l0 a1=some (r1,r2)) :
 Calls Try.prog 15 #[u9000_,.int .i64 a1] w fun e w'=>e=.returned (.int .i64 r1)∧Kd.R (Kd.int .i64) 3 w' w0.heap.size (fun k_=>(P0_ k_∨w.heap.size≤k_)) u9000_ r2∧Below w0.heap.size w0 w'∧Kept w w' (fun k_=>P0_ k_):=by
 have HO0:=A_ (show Kd.R (Kd.int .i64) 3 w w0.heap.size (fun k_=>(P0_ k_∨w.heap.size≤k_)) u9000_ l0 from Kd.R_mono ho0 (fun k_ hk=>(.inl hk)))
 have HK:=A_ (Kept.refl w (fun k_=>P0_ k_))
 have HW0:=A_ hB.size
 have HB:=A_ hB
 clear hB
 have H:(laws_markIntS.l0 k l0 a1 0)=some (r1,r2):=h
 clear h
 have H':=A_ H
 clear H
 go_enter Try.func15,Try.ntmps15
 go_wp2
 go_loopg [1,5] k (fun kq v1 v5 w'=>∃ (x0_1:List Int) (x1_1:Int) (x5_1:Int),v1=.int .i64 x1_1∧v5=.int .i64 x5_1∧Aside0 (laws_markIntS.l0 kq x0_1 x1_1 x5_1=some (r1,r2))∧Aside0 (kq≤k)∧Aside0 (Kd.R (Kd.int .i64) 3 w' w0.heap.size (fun k_=>(P0_ k_∨w.heap.size≤k_)) u9000_ x0_1)∧Aside0 (Kept w w' (fun k_=>P0_ k_))∧Aside0 (Below w0.heap.size w0 w'))
 case atStart=>exact ⟨(l0),(a1),(0),(by first|rfl|(simp;done)|(simp [*];done)),(by first|rfl|(simp;done)|(simp [*];done)),H',⟨Nat.le_refl _⟩,⟨by (with_reducible repeat (first|apply Kd.R_alloc|apply Kd.R_drewN|apply Kd.R_drew));exact HO0.out⟩,⟨by repeat (first|(with_reducible first|exact HK.out|apply Kept.alloc|apply Kept.drewN|apply Kept.drew)|exact HK.out)⟩,⟨by repeat (first|(with_reducible first|exact HB.out|apply ba_|apply pd_|apply b1_)|exact HB.out)⟩⟩
 case round =>
  clear H'
  try clear c1
  try clear p2
  obtain ⟨x0_1,x1_1,x5_1,rfl,rfl,HA,HK1,HO_0,HK,HB⟩:=hrel
  cases gk with
  | zero=>exact absurd HA.out (by simp [laws_markIntS.l0])
  | succ k1 =>
   have H:=HA.out
   clear HA
   simp only [laws_markIntS.l0] at H
   by_cases c3:x5_1<(x0_1.length:Int)
   ·rw [if_pos c3] at H
    have c3b0:decide (x5_1<(x0_1.length:Int))=true:=dt_ c3
    clear c3
    by_cases c4:0≤x5_1
    ·rw [if_pos c4] at H
     have c4b0:decide (0≤x5_1)=true:=dt_ c4
     clear c4
     obtain ⟨y151,hy151⟩:∃ y_:List Int,y_=(x0_1.set (x5_1:Int).toNat x1_1):=⟨_,rfl⟩
     replace H:(laws_markIntS.l0 k1 y151 (wrap64 (x1_1+1)) (wrap64 (x5_1+1)))=some (r1,r2):=by first|(rw [hy151];with_reducible exact H)|(have H2_:=(Option.bind_some _ _).symm.trans H;rw [hy151];with_reducible exact H2_)|(have H2_:=(Option.bind_some _ _).symm.trans H;with_reducible exact H2_)|with_reducible exact H|(rw [hy151];exact H)|exact H
     have Ny151:=A_ hy151
     clear hy151
     have H':=A_ H
     clear H
     obtain ⟨Ao6,co6,eo6⟩:=Kd.R_slice HO_0.out
     subst eo6
     have p5:0≤(x5_1:Int):=od_ (by first|(with_reducible assumption)|assumption)
     have q5:(x5_1:Int)<((x0_1.length:Int):Int):=od_ (by first|(with_reducible assumption)|assumption)
     obtain ⟨go5,co5,eo5,gb5,gl5,cl5,HG5⟩:=Kd.R_form HO_0.out (by omega)
     (first|cases eo5|(injection eo5 with ea_ en_ ec_;(first|subst ea_|(injection ea_ with ea_;subst ea_));subst ec_;clear en_))
     have GB5:=A_ gb5
     have GG5:=A_ HG5
     clear gb5 gl5 HG5
     have HMgo5:=A_ (show (P0_ go5∨w.heap.size≤go5) from (HO_0.out.1 _ rfl))
     obtain ⟨hx5_0,hf5_0⟩:=Kd.R_celln 0 HO_0.out (x5_1:Int) p5 q5
     replace p5:=eq_true p5
     replace q5:=eq_true q5
     have HP7:=Kd.R_putg HO_0.out (x5_1:Int) x1_1
     go_wp2_with (first|((with_reducible refine gate_store (t:=3) (p:=15) rfl ?_);refine store_event (t:=3) (p:=15) (v:=?vo_w8) (w1:=(wr.setCell ⟨go5,(x5_1:Int).toNat,none⟩ (.int .i64 x1_1))) ?hg ?ho ?hn ?hr ?_;(case ho=>rfl);(case hg=>rfl);(case hn=>rfl);(case hr=>first|(go_simp;done)|(go_simp;rfl));intro w8 hw;have hg:wr.grownBy w8 (some go5):=(by rw [hw];exact HP7.2);have hp_:Kd.R (Kd.int .i64) 3 w8 w0.heap.size (fun k_=>(P0_ k_∨w.heap.size≤k_)) (.slice (some ⟨go5,0,none⟩) x0_1.length co6) y151:=(by rw [hw,Ny151.out];exact HP7.1);clear HP7;have n0_:=A_ (hp_);have n1_:=A_ ((by rw [hw];exact bs_ (HB.out) GB5.out:Below w0.heap.size w0 w8));have n2_:=A_ (Kept.of_grown (S:=(fun k_=>P0_ k_)) hg (by repeat (first|(with_reducible first|exact HK.out|apply Kept.alloc|apply Kept.drewN|apply Kept.drew)|exact HK.out)) (fun k_ e_=>(HO_0.out.1 k_ e_)));clear HO_0;clear HB;clear HK;have HO_0:=n0_;have HB:=n1_;have HK:=n2_;clear n0_ n1_ n2_;clear hg hw hp_))
     go_roundg k1
     case measure=>have:=HK1.out;omega
     case rel=>exact ⟨(y151),(wrap64 (x1_1+1)),(wrap64 (x5_1+1)),(by first|rfl|(simp;done)|(simp [*];done)),(by first|rfl|(simp;done)|(simp [*];done)),H',⟨by have:=HK1.out;omega⟩,⟨by (with_reducible repeat (first|apply Kd.R_alloc|apply Kd.R_drewN|apply Kd.R_drew));exact HO_0.out⟩,⟨by repeat (first|(with_reducible first|exact HK.out|apply Kept.alloc|apply Kept.drewN|apply Kept.drew)|exact HK.out)⟩,⟨by repeat (first|(with_reducible first|exact HB.out|apply ba_|apply pd_|apply b1_)|exact HB.out)⟩⟩
    ·rw [if_neg c4] at H
     exact absurd H (by simp)
   ·rw [if_neg c3] at H
    have c3b0:decide (x5_1<(x0_1.length:Int))=false:=df_ c3
    clear c3
    simp only [Option.some.injEq,Prod.mk.injEq] at H
    obtain ⟨rfl,rfl⟩:=H
    obtain ⟨Ao9,co9,eo9⟩:=Kd.R_slice HO_0.out
    subst eo9
    go_wp2
    go_ret
    exact ⟨by first|rfl|(simp [errW_none,errW_some] <;> rfl)|(simp [*,errW_none,errW_some] <;> rfl),by (with_reducible repeat (first|apply Kd.R_alloc|apply Kd.R_drewN|apply Kd.R_drew));exact HO_0.out,by repeat (first|(with_reducible first|exact HB.out|apply ba_|apply pd_|apply b1_)|exact HB.out),by repeat (first|(with_reducible first|exact HK.out|apply Kept.alloc|apply Kept.drewN|apply Kept.drew)|exact HK.out)⟩
end Go.Proofs.Ytbeplhbkoaopgaa.PFnExactRemoveAt
