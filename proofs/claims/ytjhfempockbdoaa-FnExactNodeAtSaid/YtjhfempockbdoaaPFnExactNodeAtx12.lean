/- By a program of this session, out of the kit's print and contracts made by hand: the machine side of a law; Lean checks it. No conditions. -/
import Derived.Test.YtjhfempockbdoaaPFnExactNodeAtx0
import Derived.Test.YtjhfempockbdoaaPFnExactNodeAtx11
namespace Go.Proofs.Ytjhfempockbdoaa.PFnExactNodeAt
open Go.RowKit Go.Proofs.YtjhfempockbdoaaW.PrintWords Go.Proofs.YtjhfempockbdoaaW.PrintLast Go.Proofs.YtjhfempockbdoaaW.PrintMore
attribute [local go_sem] max2_int min2_int max_two min_two max_three min_three max_four min_four
set_option linter.unusedVariables false
set_option linter.unusedSimpArgs false
/-! ### laws_toNodeS: function 6, by hand -/
mutual
def laws_toNodeS.l0:Nat→List S43→List S28→Int→Option (List S28)
 | 0,_,_,_=>none
 | k+1,x0,x3,x4=>if x4<(x0.length:Int) then (if 0≤x4 then ((laws_toNode.f k (rd_T43 x0 x4).f0 (rd_T43 x0 x4).f1 (rd_T43 x0 x4).f2 (rd_T43 x0 x4).f3 (rd_T43 x0 x4).f4 (rd_T43 x0 x4).f5).bind fun b=>(if x4<(x3.length:Int) then (laws_toNodeS.l0 k x0 (x3.set (x4:Int).toNat (⟨b.1,b.2.1,b.2.2.1,b.2.2.2.1,b.2.2.2.2.1,b.2.2.2.2.2⟩:S28)) (wrap64 (x4+1))) else none)) else none) else (some x3)
def laws_toNodeS.f:Nat→List S43→Option (List S28)
 | 0,_=>none
 | k+1,l0=>if 0≤(l0.length:Int) then (if ((l0.length:Int):Int).toNat≤2932031007402 then (laws_toNodeS.l0 k l0 (List.replicate ((l0.length:Int):Int).toNat z28) 0) else none) else none
def laws_toNode.f:Nat→Int→Int→ByteArray→ByteArray→List S67→List S43→Option (Int × Int × ByteArray × ByteArray × (List S63) × (List S28))
 | 0,_,_,_,_,_,_=>none
 | k+1,a0,a1,a2,a3,l4,l5=>(laws_toAttrS.f k l4).bind fun t=>((laws_toNodeS.f k l5).bind fun u=>(some (a0,a1,a2,a3,t,u)))
end
/-- What toNode promises: a node all of whose rows are new and lie apart. -/
def toNodeC (j:Nat):Prop:=∀ (x:S43) (A4:Option Addr) (c4:Nat) (A5:Option Addr) (c5:Nat) (r1 r2:Int) (r3 r4:ByteArray) (r5:List S63) (r6:List S28) (w:World),Kd.C k67 w A4 x.f4.length x.f4→x.f4.length≤c4→Kd.C k43 w A5 x.f5.length x.f5→x.f5.length≤c5→laws_toNode.f j x.f0 x.f1 x.f2 x.f3 x.f4 x.f5=some (r1,r2,r3,r4,r5,r6) →
 Calls Try.prog 20 #[.agg #[.int .i64 x.f0,.int .i64 x.f1,.string x.f2,.string x.f3,.slice A4 x.f4.length c4,.slice A5 x.f5.length c5]] w fun e w'=>∃ A4' c4' A5' c5',e=.returned (.agg #[.int .i64 r1,.int .i64 r2,.string r3,.string r4,.slice A4' r5.length c4',.slice A5' r6.length c5'])∧kTN.M w' w.heap.size (fun k=>w.heap.size≤k) ⟨r1,r2,r3,r4,r5,r6⟩ [.int .i64 r1,.int .i64 r2,.string r3,.string r4,.slice A4' r5.length c4',.slice A5' r6.length c5']∧Below w.heap.size w w'
def toNodeSC (j:Nat):Prop:=∀ (A0:Option Addr) (c0:Nat) (l0:List S43) (r:List S28) (w:World),Kd.C k43 w A0 l0.length l0→l0.length≤c0→laws_toNodeS.f j l0=some r →
 Calls Try.prog 6 #[.slice A0 l0.length c0] w fun e w'=>∃ A c,e=.returned (.slice A r.length c)∧Kd.S kTN 28 w' w.heap.size (fun k=>w.heap.size≤k) (.slice A r.length c) r∧Below w.heap.size w w'
set_option maxHeartbeats 8000000 in
set_option maxRecDepth 1000000 in
theorem toNode_step (k:Nat) (ih:∀ j,j<k→toNodeSC j):toNodeC k:=by
 intro x A4 c4 A5 c5 r1 r2 r3 r4 r5 r6 w h4 m4 h5 m5 h
 cases k with
 | zero=>exact absurd h (by simp [laws_toNode.f])
 | succ k =>
 simp only [laws_toNode.f] at h
 obtain ⟨ats,ha,h⟩:=ob_ h
 obtain ⟨ks,hk,h⟩:=ob_ h
 simp only [Option.some.injEq,Prod.mk.injEq] at h
 obtain ⟨rfl,rfl,rfl,rfl,rfl,rfl⟩:=h
 have HA:Aside0 (Calls Try.prog 32 #[.slice A4 x.f4.length c4] (((w.alloc (.cells #[.int .i64 x.f0,.int .i64 x.f1,.string x.f2,.string x.f3,.slice A4 x.f4.length c4,.slice A5 x.f5.length c5] 43 (0,0))).alloc (.cells #[.int .i64 0,.int .i64 0,.string ⟨#[]⟩,.string ⟨#[]⟩,.slice none 0 0,.slice none 0 0] 28 (0,0))).alloc (.cells #[.int .i64 x.f0,.int .i64 x.f1,.string x.f2,.string x.f3,.slice none 0 0,.slice none 0 0] 28 (0,0))) fun e w'=>∃ A c,e=.returned (.slice A ats.length c)∧Kd.R k63 63 w' w.heap.size (fun k=>some k=(Value.slice A ats.length c).ownBlock) (.slice A ats.length c) ats∧(∀ k,some k=(Value.slice A ats.length c).ownBlock→w.heap.size+1+1<k∧k<w'.heap.size) ∧
  w'.heap[w.heap.size]? = some (.cells #[.int .i64 x.f0,.int .i64 x.f1,.string x.f2,.string x.f3,.slice A4 x.f4.length c4,.slice A5 x.f5.length c5] 43 (0,0))∧w'.heap[w.heap.size+1]? = some (.cells #[.int .i64 0,.int .i64 0,.string ⟨#[]⟩,.string ⟨#[]⟩,.slice none 0 0,.slice none 0 0] 28 (0,0))∧w'.heap[w.heap.size+1+1]? = some (.cells #[.int .i64 x.f0,.int .i64 x.f1,.string x.f2,.string x.f3,.slice none 0 0,.slice none 0 0] 28 (0,0))∧Below w.heap.size w w'):=by
  have b3:=ba_ (ba_ (ba_ (Below.refl w.heap.size w) (.cells #[.int .i64 x.f0,.int .i64 x.f1,.string x.f2,.string x.f3,.slice A4 x.f4.length c4,.slice A5 x.f5.length c5] 43 (0,0))) (.cells #[.int .i64 0,.int .i64 0,.string ⟨#[]⟩,.string ⟨#[]⟩,.slice none 0 0,.slice none 0 0] 28 (0,0))) (.cells #[.int .i64 x.f0,.int .i64 x.f1,.string x.f2,.string x.f3,.slice none 0 0,.slice none 0 0] 28 (0,0))
  have x1:=ka_ (ka_ (blk_new w (.cells #[.int .i64 x.f0,.int .i64 x.f1,.string x.f2,.string x.f3,.slice A4 x.f4.length c4,.slice A5 x.f5.length c5] 43 (0,0))) (.cells #[.int .i64 0,.int .i64 0,.string ⟨#[]⟩,.string ⟨#[]⟩,.slice none 0 0,.slice none 0 0] 28 (0,0))) (.cells #[.int .i64 x.f0,.int .i64 x.f1,.string x.f2,.string x.f3,.slice none 0 0,.slice none 0 0] 28 (0,0))
  have x2:=ka_ (blk_new (w.alloc (.cells #[.int .i64 x.f0,.int .i64 x.f1,.string x.f2,.string x.f3,.slice A4 x.f4.length c4,.slice A5 x.f5.length c5] 43 (0,0))) (.cells #[.int .i64 0,.int .i64 0,.string ⟨#[]⟩,.string ⟨#[]⟩,.slice none 0 0,.slice none 0 0] 28 (0,0))) (.cells #[.int .i64 x.f0,.int .i64 x.f1,.string x.f2,.string x.f3,.slice none 0 0,.slice none 0 0] 28 (0,0))
  have x3:=blk_new ((w.alloc (.cells #[.int .i64 x.f0,.int .i64 x.f1,.string x.f2,.string x.f3,.slice A4 x.f4.length c4,.slice A5 x.f5.length c5] 43 (0,0))).alloc (.cells #[.int .i64 0,.int .i64 0,.string ⟨#[]⟩,.string ⟨#[]⟩,.slice none 0 0,.slice none 0 0] 28 (0,0))) (.cells #[.int .i64 x.f0,.int .i64 x.f1,.string x.f2,.string x.f3,.slice none 0 0,.slice none 0 0] 28 (0,0))
  rw [World.size_alloc] at x2
  rw [World.size_alloc,World.size_alloc] at x3
  refine ⟨(laws_toAttrS.calls k A4 c4 x.f4 ats _ (cb_ h4 b3) m4 ha).mono ?_⟩
  rintro e w' ⟨v,rfl,hr,hb⟩
  obtain ⟨A,c,rfl⟩:=Kd.R_slice hr
  have hs:=Kd.R_base hr
  rw [World.size_alloc,World.size_alloc,World.size_alloc] at hs
  exact ⟨A,c,rfl,Kd.R_lower (Kd.R_tight rfl hr) b3.size,fun k hk=>⟨by have:=hs k hk.symm;omega,Kd.R_lt hr k hk.symm⟩,kb_ x1 hb,kb_ x2 hb,kb_ x3 hb,b3.trans (hb.mono b3.size)⟩
 have QS:Aside0 (∀ V,Below w.heap.size w V→Calls Try.prog 6 #[.slice A5 x.f5.length c5] V fun e w'=>∃ A c,e=.returned (.slice A ks.length c)∧Kd.S kTN 28 w' V.heap.size (fun k=>V.heap.size≤k) (.slice A ks.length c) ks∧Below V.heap.size V w'):=⟨fun V hV=>ih k (Nat.lt_succ_self k) A5 c5 x.f5 ks V (cb_ h5 hV) m5 hk⟩
 clear h4 m4 h5 m5 ha hk ih
 have hn1:w.heap.size≠w.heap.size+1+1:=by omega
 have hn2:w.heap.size+1≠w.heap.size+1+1:=by omega
 have hn3:w.heap.size+1+1≠w.heap.size+1:=by omega
 go_enter Try.func20,Try.ntmps20
 go_wp2_with (first|(go_at_call 32;(with_reducible refine HA.out.mono ?_);rintro e w2 ⟨Av,cv,rfl,hr,hk,y1,y2,y3,hb⟩;(have HR:=A_ hr);(have HK:=A_ hk);(have HB2:=A_ hb);(have Y1:=A_ y1);(have Y2:=A_ y2);(have Y3:=A_ y3);(have q5:w2.cell? ⟨w.heap.size,5,none⟩=some (.slice A5 x.f5.length c5):=(bc_ y1 5).trans rfl);(have q4:w2.cell? ⟨w.heap.size+1+1,4,none⟩=some (.slice none 0 0):=(bc_ y3 4).trans rfl);(have f4:w2.frozen? ⟨w.heap.size+1+1,4,none⟩=false:=bf_ y3 4);clear hr hb y1 y2 y3 hk HA)|(go_at_call 6;(with_reducible refine (QS.out _ (bs_ HB2.out (by omega))).mono ?_);rintro e w3 ⟨Aw,cw,rfl,hs,hb⟩;(have HT:=A_ hs);(have HB3:=A_ hb);(have Z2:=A_ (kb_ (blk_far (p:=⟨w.heap.size+1+1,4,none⟩) Y2.out hn2 (.slice Av ats.length cv)) hb));(have z3:=kb_ (blk_put Y3.out 4 (.slice Av ats.length cv) (cs':=#[.int .i64 x.f0,.int .i64 x.f1,.string x.f2,.string x.f3,.slice Av ats.length cv,.slice none 0 0]) rfl) hb);(have Z3:=A_ z3);(have p0:w3.cell? ⟨w.heap.size+1+1,0,none⟩=some (.int .i64 x.f0):=(bc_ z3 0).trans rfl);(have p1:w3.cell? ⟨w.heap.size+1+1,1,none⟩=some (.int .i64 x.f1):=(bc_ z3 1).trans rfl);(have p2:w3.cell? ⟨w.heap.size+1+1,2,none⟩=some (.string x.f2):=(bc_ z3 2).trans rfl);(have p3:w3.cell? ⟨w.heap.size+1+1,3,none⟩=some (.string x.f3):=(bc_ z3 3).trans rfl);(have p4:w3.cell? ⟨w.heap.size+1+1,4,none⟩=some (.slice Av ats.length cv):=(bc_ z3 4).trans rfl);(have p5:w3.cell? ⟨w.heap.size+1+1,5,none⟩=some (.slice none 0 0):=(bc_ z3 5).trans rfl);(have f5:w3.frozen? ⟨w.heap.size+1+1,5,none⟩=false:=bf_ z3 5);(have g0:w3.cell? ⟨w.heap.size+1,0,none⟩=some (.int .i64 0):=(bc_ Z2.out 0).trans rfl);(have g1:w3.cell? ⟨w.heap.size+1,1,none⟩=some (.int .i64 0):=(bc_ Z2.out 1).trans rfl);(have g2:w3.cell? ⟨w.heap.size+1,2,none⟩=some (.string ⟨#[]⟩):=(bc_ Z2.out 2).trans rfl);(have g3:w3.cell? ⟨w.heap.size+1,3,none⟩=some (.string ⟨#[]⟩):=(bc_ Z2.out 3).trans rfl);(have g4:w3.cell? ⟨w.heap.size+1,4,none⟩=some (.slice none 0 0):=(bc_ Z2.out 4).trans rfl);(have g5:w3.cell? ⟨w.heap.size+1,5,none⟩=some (.slice none 0 0):=(bc_ Z2.out 5).trans rfl);(have k0:=bf_ Z2.out 0);(have k1:=bf_ Z2.out 1);(have k2:=bf_ Z2.out 2);(have k3:=bf_ Z2.out 3);(have k4:=bf_ Z2.out 4);(have k5:=bf_ Z2.out 5);clear hs hb z3))
 have HKW:Kept w3 (((((((w3.setCell ⟨w.heap.size+1+1,5,none⟩ (.slice Aw ks.length cw)).setCell ⟨w.heap.size+1,0,none⟩ (.int .i64 x.f0)).setCell ⟨w.heap.size+1,1,none⟩ (.int .i64 x.f1)).setCell ⟨w.heap.size+1,2,none⟩ (.string x.f2)).setCell ⟨w.heap.size+1,3,none⟩ (.string x.f3)).setCell ⟨w.heap.size+1,4,none⟩ (.slice Av ats.length cv)).setCell ⟨w.heap.size+1,5,none⟩ (.slice Aw ks.length cw)) (fun k=>k=w.heap.size+1∨k=w.heap.size+1+1):=Kept.setCell (Kept.setCell (Kept.setCell (Kept.setCell (Kept.setCell (Kept.setCell (Kept.setCell (Kept.refl w3 _) (p:=⟨w.heap.size+1+1,5,none⟩) (.inl (.inr rfl)) (.slice Aw ks.length cw)) (p:=⟨w.heap.size+1,0,none⟩) (.inl (.inl rfl)) (.int .i64 x.f0)) (p:=⟨w.heap.size+1,1,none⟩) (.inl (.inl rfl)) (.int .i64 x.f1)) (p:=⟨w.heap.size+1,2,none⟩) (.inl (.inl rfl)) (.string x.f2)) (p:=⟨w.heap.size+1,3,none⟩) (.inl (.inl rfl)) (.string x.f3)) (p:=⟨w.heap.size+1,4,none⟩) (.inl (.inl rfl)) (.slice Av ats.length cv)) (p:=⟨w.heap.size+1,5,none⟩) (.inl (.inl rfl)) (.slice Aw ks.length cw)
 have hsz:=blk_lt Y3.out
 have hsz2:=(bs_ (j:=4) (v:=.slice Av ats.length cv) HB2.out (show w.heap.size≤w.heap.size+1+1 by omega)).size
 have hsz3:(w2.setCell ⟨w.heap.size+1+1,4,none⟩ (.slice Av ats.length cv)).heap.size=w2.heap.size:=by simp [World.setCell]
 have hB3:=HB3.out.size
 refine bodyPost_ret (results_cell_row rfl _ _ (w.heap.size+1) 28 #[.int .i64 x.f0,.int .i64 x.f1,.string x.f2,.string x.f3,.slice Av ats.length cv,.slice Aw ks.length cw] (0,0) _ rfl (blk_put (cs:=#[.int .i64 x.f0,.int .i64 x.f1,.string x.f2,.string x.f3,.slice Av ats.length cv,.slice none 0 0]) (cs':=#[.int .i64 x.f0,.int .i64 x.f1,.string x.f2,.string x.f3,.slice Av ats.length cv,.slice Aw ks.length cw]) (blk_put (cs:=#[.int .i64 x.f0,.int .i64 x.f1,.string x.f2,.string x.f3,.slice none 0 0,.slice none 0 0]) (cs':=#[.int .i64 x.f0,.int .i64 x.f1,.string x.f2,.string x.f3,.slice Av ats.length cv,.slice none 0 0]) (blk_put (cs:=#[.int .i64 x.f0,.int .i64 x.f1,.string x.f2,.string ⟨#[]⟩,.slice none 0 0,.slice none 0 0]) (cs':=#[.int .i64 x.f0,.int .i64 x.f1,.string x.f2,.string x.f3,.slice none 0 0,.slice none 0 0]) (blk_put (cs:=#[.int .i64 x.f0,.int .i64 x.f1,.string ⟨#[]⟩,.string ⟨#[]⟩,.slice none 0 0,.slice none 0 0]) (cs':=#[.int .i64 x.f0,.int .i64 x.f1,.string x.f2,.string ⟨#[]⟩,.slice none 0 0,.slice none 0 0]) (blk_put (cs:=#[.int .i64 x.f0,.int .i64 0,.string ⟨#[]⟩,.string ⟨#[]⟩,.slice none 0 0,.slice none 0 0]) (cs':=#[.int .i64 x.f0,.int .i64 x.f1,.string ⟨#[]⟩,.string ⟨#[]⟩,.slice none 0 0,.slice none 0 0]) (blk_put (cs:=#[.int .i64 0,.int .i64 0,.string ⟨#[]⟩,.string ⟨#[]⟩,.slice none 0 0,.slice none 0 0]) (cs':=#[.int .i64 x.f0,.int .i64 0,.string ⟨#[]⟩,.string ⟨#[]⟩,.slice none 0 0,.slice none 0 0]) (blk_far (p:=⟨w.heap.size+1+1,5,none⟩) Z2.out hn2 (.slice Aw ks.length cw)) 0 (.int .i64 x.f0) rfl) 1 (.int .i64 x.f1) rfl) 2 (.string x.f2) rfl) 3 (.string x.f3) rfl) 4 (.slice Av ats.length cv) rfl) 5 (.slice Aw ks.length cw) rfl) Try.underlying28 rfl (by kernel_rfl)) rfl ?_
 refine ⟨Av,cv,Aw,cw,rfl,kTN_mkM _ _ _ (fun k=>some k=(Value.slice Av ats.length cv).ownBlock) _ ?_ ?_,?_⟩
 ·refine Kd.R_kept (S:=fun k=>k=w.heap.size+1∨k=w.heap.size+1+1) (Kd.R_mono (Kd.R_bound (Kd.R_below (Kd.R_far HR.out (fun k hk=>?_) _) HB3.out)) (fun k hk=>⟨hk.2.1,hk.1⟩)) HKW (fun k hk=>?_)
  ·have:=(HK.out k hk).1
   show k≠w.heap.size+1+1
   omega
  ·have:=(HK.out k hk.2).1
   omega
 ·refine Kd.S_lower (Kd.S_mono (Kd.S_kept (S:=fun k=>k=w.heap.size+1∨k=w.heap.size+1+1) HT.out HKW (fun k hk=>?_)) (fun k hk=>⟨?_,fun he=>?_⟩)) hsz2
  ·omega
  ·omega
  ·have:=(HK.out k he).2
   omega
 ·exact bs_ (bs_ (bs_ (bs_ (bs_ (bs_ (bs_ ((bs_ HB2.out (by omega)).trans (HB3.out.mono hsz2)) (by omega)) (by omega)) (by omega)) (by omega)) (by omega)) (by omega)) (by omega)
theorem infoN:(Try.prog.info? 28).map (fun i=>(i.zero,i.size,i.bytes))=some (some (.agg #[(.int .i64 0),(.int .i64 0),(.string ⟨#[]⟩),(.string ⟨#[]⟩),(.slice none 0 0),(.slice none 0 0)]),6,96):=by kernel_rfl
set_option maxHeartbeats 8000000 in
set_option maxRecDepth 1000000 in
theorem toNodeS_step (k:Nat) (ih:∀ j,j<k→toNodeC j):toNodeSC k:=by
 intro A0 c0 l0 r w h0 m0 h
 cases k with
 | zero=>exact absurd h (by simp [laws_toNodeS.f])
 | succ k =>
 simp only [laws_toNodeS.f] at h
 rw [if_pos (Int.natCast_nonneg _)] at h
 obtain ⟨hlen,h⟩:=Option.ite_none_right_eq_some.mp h
 rw [Int.toNat_natCast] at h hlen
 obtain ⟨y0,hy0⟩:∃ y,y=List.replicate l0.length z28:=⟨_,rfl⟩
 rw [←hy0] at h
 have hl0:y0.length=l0.length:=by rw [hy0,List.length_replicate]
 have HY:=A_ hy0
 have H':=A_ h
 have HC:=A_ h0
 have HM:=A_ m0
 have HL:=A_ hlen
 have IH:=A_ ih
 have hmax:l0.length≤9223372036854775807:=h0.2.1
 have HX:=A_ hmax
 clear hy0 h h0 m0 ih
 go_enter Try.func6,Try.ntmps6
 go_wp2_with (first|((with_reducible refine gate_dst (N:=7) rfl ?_);refine Kd.S_make kTN (w0:=w) w.heap.size 28 rfl (N:=7) rfl 26 _ _ rfl (l0.length:Int) rfl rfl Try.underlying26 (.agg #[(.int .i64 0),(.int .i64 0),(.string ⟨#[]⟩),(.string ⟨#[]⟩),(.slice none 0 0),(.slice none 0 0)]) 96 infoN rfl (by decide) (by omega) z28 (ok:=fun k_=>w.heap.size≤k_) (okp:=fun _=>False) (kTN_mkM _ _ _ (fun _=>True) z28 (Kd.R_nil _ _ _ _ _) (Kd.S_nil _ _ _ _ _)) (fun _ hk=>hk.elim) (Nat.le_refl _) (Int.natCast_nonneg _) (by rw [Int.toNat_natCast];have:=HL.out;omega) (Below.refl _ _) (Nat.le_refl _) ?_;intro v7 w4 ho hb _ _;rw [Int.toNat_natCast,←HY.out] at ho;obtain ⟨A7,c7,rfl⟩:=Kd.S_slice ho;have HO:=A_ ho;have HB:=A_ hb;clear ho hb))
 rw [hl0] at HO
 go_loopg [4] k (fun kq v4 w'=>∃ (x3:List S28) (x4:Int),v4=.int .i64 x4∧Aside0 (laws_toNodeS.l0 kq l0 x3 x4=some r)∧Aside0 (kq≤k)∧Aside0 (Kd.S kTN 28 w' w.heap.size (fun k_=>w.heap.size≤k_) (.slice A7 l0.length c7) x3)∧Aside0 (x3.length=l0.length)∧Aside0 (Below w.heap.size w w'))
 case atStart=>exact ⟨y0,0,rfl,H',⟨Nat.le_refl _⟩,HO,⟨hl0⟩,HB⟩
 case round =>
  clear H' HO HB HY
  obtain ⟨x3,x4,rfl,HA,HK1,HO,HL3,HB⟩:=hrel
  cases gk with
  | zero=>exact absurd HA.out (by simp [laws_toNodeS.l0])
  | succ k1 =>
   have H:=HA.out
   clear HA
   simp only [laws_toNodeS.l0] at H
   by_cases c3:x4<(l0.length:Int)
   ·rw [if_pos c3] at H
    have z3:decide (x4<(l0.length:Int))=true:=dt_ c3
    obtain ⟨c5,H⟩:=Option.ite_none_right_eq_some.mp H
    obtain ⟨⟨b1,b2,b3,b4,b5,b6⟩,hb0,H⟩:=ob_ H
    obtain ⟨c6,H⟩:=Option.ite_none_right_eq_some.mp H
    have z5:decide (0≤x4)=true:=dt_ c5
    obtain ⟨y1,hy1⟩:∃ y,y=x3.set x4.toNat ⟨b1,b2,b3,b4,b5,b6⟩:=⟨_,rfl⟩
    replace H:laws_toNodeS.l0 k1 l0 y1 (wrap64 (x4+1))=some r:=by rw [hy1];exact H
    have H':=A_ H
    have hl1:y1.length=l0.length:=by rw [hy1,List.length_set,HL3.out]
    have HY:=A_ hy1
    clear H hy1
    obtain ⟨ad,Ar,cr,As,cs,e0,q0,q1,q2,q3,q4,q5,m4,g4,m5,g5⟩:=at_T43 HC.out x4 c5 c3
    subst e0
    replace q0:=pc_ HB.out q0
    replace q1:=pc_ HB.out q1
    replace q2:=pc_ HB.out q2
    replace q3:=pc_ HB.out q3
    replace q4:=pc_ HB.out q4
    replace q5:=pc_ HB.out q5
    have QN:=A_ (IH.out k1 (by have:=HK1.out;omega) (rd_T43 l0 x4) Ar cr As cs b1 b2 b3 b4 b5 b6 wr (cb_ g4 HB.out) m4 (cb_ g5 HB.out) m5 hb0)
    clear m4 g4 m5 g5 hb0
    generalize rd_T43 l0 x4=x at *
    obtain ⟨g,cap,ev,hg0,hgl,_⟩:=Kd.S_form HO.out (by have:=HL3.out;omega)
    injection ev with e1 e2 e3
    subst e1 e3
    have p3:=eq_true c3
    have p5:=eq_true c5
    have HC3:=A_ c3
    have HC5:=A_ c5
    have HG0:=A_ hg0
    have HGL:=A_ hgl
    clear c3 c5 hg0 hgl e2 c6
    go_wp2_with (first|(go_at_call 20;(with_reducible refine QN.out.mono ?_);rintro e w5 ⟨Av,cv,Aw,cw,rfl,hm,hb⟩;(have HB5:=A_ (bp_ HB.out hb));(have hS:Kd.S kTN 28 w5 w.heap.size (fun k_=>w.heap.size≤k_∧¬ (wr.heap.size≤k_)) (.slice (some ⟨g,0,none⟩) l0.length c7) x3:=Kd.S_below (Kd.S_mono (Kd.S_bound HO.out) (fun k_ hk=>⟨hk.1,by have:=hk.2.2.1;omega⟩)) hb);(obtain ⟨oki,cc,hcl,hM,hcc,hfr,hoki,hH⟩:=Kd.S_elem hS z28 x4 HC5.out HC3.out);(obtain ⟨t4,t5,pp,rfl,_,_⟩:=kTN_openM hM);(have HSG:=A_ (Kd.S_seg (okg:=fun k_=>wr.heap.size≤k_) (okp:=fun k_=>wr.heap.size≤k_) hH HC5.out HC3.out (seg:=[.int .i64 b1,.int .i64 b2,.string b3,.string b4,.slice Av b5.length cv,.slice Aw b6.length cw]) (j:=0) (show 6≤6 from Nat.le_refl 6) (x':=(⟨b1,b2,b3,b4,b5,b6⟩:S28)) (kTN.M_lower HB.out.size hm) (fun k_ hk=>.inr hk) (fun k_ hk=>⟨Nat.le_trans HB.out.size hk,fun e=>by have:=HGL.out;omega⟩)));(obtain ⟨u0,d0⟩:∃ u,w5.cell? ⟨g,x4.toNat * 6,none⟩=some u:=⟨_,hcc 0 _ rfl⟩);(have f0:w5.frozen? ⟨g,x4.toNat * 6,none⟩=false:=hfr 0);(obtain ⟨u1,d1⟩:∃ u,w5.cell? ⟨g,x4.toNat * 6+1,none⟩=some u:=⟨_,hcc 1 _ rfl⟩);(have f1:w5.frozen? ⟨g,x4.toNat * 6+1,none⟩=false:=hfr 1);(obtain ⟨u2,d2⟩:∃ u,w5.cell? ⟨g,x4.toNat * 6+2,none⟩=some u:=⟨_,hcc 2 _ rfl⟩);(have f2:w5.frozen? ⟨g,x4.toNat * 6+2,none⟩=false:=hfr 2);(obtain ⟨u3,d3⟩:∃ u,w5.cell? ⟨g,x4.toNat * 6+3,none⟩=some u:=⟨_,hcc 3 _ rfl⟩);(have f3:w5.frozen? ⟨g,x4.toNat * 6+3,none⟩=false:=hfr 3);(obtain ⟨u4,d4⟩:∃ u,w5.cell? ⟨g,x4.toNat * 6+4,none⟩=some u:=⟨_,hcc 4 _ rfl⟩);(have f4:w5.frozen? ⟨g,x4.toNat * 6+4,none⟩=false:=hfr 4);(obtain ⟨u5,d5⟩:∃ u,w5.cell? ⟨g,x4.toNat * 6+5,none⟩=some u:=⟨_,hcc 5 _ rfl⟩);(have f5:w5.frozen? ⟨g,x4.toNat * 6+5,none⟩=false:=hfr 5);clear hcl hM hcc hfr hoki hH hS hm hb))
    go_roundg k1
    case measure=>have:=HK1.out;omega
    case rel =>
     obtain ⟨hs,hg⟩:=HSG.out
     rw [←HY.out] at hs
     exact ⟨y1,wrap64 (x4+1),rfl,H',⟨by have:=HK1.out;omega⟩,⟨hs⟩,⟨hl1⟩,⟨pw_below_grown HB5.out (some g) HB5.out.size hg (fun k_ e=>by injection e with e;have:=HG0.out;omega)⟩⟩
   ·rw [if_neg c3] at H
    have z3:decide (x4<(l0.length:Int))=false:=df_ c3
    obtain rfl:=oi_ H
    go_wp2
    go_ret
    exact ⟨A7,c7,by rw [HL3.out];rfl,by rw [HL3.out];exact HO.out,HB.out⟩
theorem laws_toNode.callsT (k:Nat):toNodeC k:=by
 induction k using Nat.strongRecOn with
 | _ k ih=>exact toNode_step k (fun j hj=>toNodeS_step j (fun i hi=>ih i (Nat.lt_trans hi hj)))
theorem laws_toNodeS.callsT (k:Nat):toNodeSC k:=toNodeS_step k (fun j _=>laws_toNode.callsT j)
/-! ### laws_toIntS: function 7 -/
def laws_toIntS.l0:Nat→List Int→List Int→Int→Option (List Int)
 | 0,_,_,_=>none
 | k+1,x0,x3,x4=>if x4<(x0.length:Int) then (if 0≤x4 then (if x4<(x3.length:Int) then (laws_toIntS.l0 k x0 (x3.set (x4:Int).toNat (rd x0 x4)) (wrap64 (x4+1))) else (none)) else (none)) else (some x3)
def laws_toIntS.f (k:Nat) (l0:List Int):Option (List Int):=if 0≤(l0.length:Int) then (if ((l0.length:Int):Int).toNat≤35184372088832 then (laws_toIntS.l0 k l0 (List.replicate ((l0.length:Int):Int).toNat 0) 0) else (none)) else (none)
theorem laws_toIntS.mono_l:∀ k,(∀ y0 y1 y2,LeO (laws_toIntS.l0 k y0 y1 y2) (laws_toIntS.l0 (k+1) y0 y1 y2))
 | 0=>fun _ _ _ r h=>by simp [laws_toIntS.l0] at h
 | k+1=>by
  have ih0:=laws_toIntS.mono_l k
  ·intro y0 y1 y2
   unfold laws_toIntS.l0
   repeat' first
   | (with_reducible exact ih0 _ _ _)
   | (with_reducible exact LeO.refl _)
   | (with_reducible exact LeO.none _)
   | (with_reducible refine LeO.ite ?_ ?_)
   | (with_reducible refine LeO.bind ?_ (fun _=>?_))
   | exact ih0 _ _ _
   | exact LeO.none _
   | refine LeO.ite ?_ ?_
   | refine LeO.bind ?_ (fun _=>?_)
theorem laws_toIntS.mono:∀ a0 k,LeO (laws_toIntS.f k a0) (laws_toIntS.f (k+1) a0):=by
 intro a0 k
 have ih0:=laws_toIntS.mono_l k
 unfold laws_toIntS.f
 repeat' first
  | (with_reducible exact ih0 _ _ _)
  | (with_reducible exact LeO.refl _)
  | (with_reducible exact LeO.none _)
  | (with_reducible refine LeO.ite ?_ ?_)
  | (with_reducible refine LeO.bind ?_ (fun _=>?_))
  | exact ih0 _ _ _
  | exact LeO.none _
  | refine LeO.ite ?_ ?_
  | refine LeO.bind ?_ (fun _=>?_)
set_option maxHeartbeats 8000000 in
set_option maxRecDepth 100000 in
theorem laws_toIntS.calls (k:Nat) (A0:Option Addr) (c0:Nat) (l0:List Int) (r:List Int) (w:World) (hr0:Kd.C (Kd.int .i64) w A0 l0.length l0) (hc0:l0.length≤c0) (h:laws_toIntS.f k l0=some r) :
 Calls Try.prog 7 #[.slice A0 l0.length c0] w fun e w'=>∃ v0_:Value,e=.returned (v0_)∧Kd.R (Kd.int .i64) 3 w' w.heap.size (fun _=>True) v0_ r∧Below w.heap.size w w':=by
 have HR0:=A_ hr0
 have HC0:=A_ hc0
 clear hr0 hc0
 have HB:=A_ (Below.refl w.heap.size w)
 have H:(if 0≤(l0.length:Int) then (if ((l0.length:Int):Int).toNat≤35184372088832 then (laws_toIntS.l0 k l0 (List.replicate ((l0.length:Int):Int).toNat 0) 0) else (none)) else (none))=some r:=h
 clear h
 by_cases c2:0≤(l0.length:Int)
 ·rw [if_pos c2] at H
  have c2b0:=eq_true c2
  have c2b1:decide (0≤(l0.length:Int))=true:=dt_ c2
  clear c2
  by_cases c3:((l0.length:Int):Int).toNat≤35184372088832
  ·rw [if_pos c3] at H
   have c3b0:=eq_true c3
   have c3b1:decide (((l0.length:Int):Int).toNat≤35184372088832)=true:=dt_ c3
   clear c3
   obtain ⟨y183,hy183⟩:∃ y_:List Int,y_=(List.replicate ((l0.length:Int):Int).toNat 0):=⟨_,rfl⟩
   replace H:(laws_toIntS.l0 k l0 y183 0)=some r:=by first|(rw [hy183];with_reducible exact H)|(have H2_:=(Option.bind_some _ _).symm.trans H;rw [hy183];with_reducible exact H2_)|(have H2_:=(Option.bind_some _ _).symm.trans H;with_reducible exact H2_)|with_reducible exact H|(rw [hy183];exact H)|exact H
   have Ny183:=A_ hy183
   clear hy183
   have H':=A_ H
   clear H
   go_enter Try.func7,Try.ntmps7
   go_wp2_with (first|((with_reducible refine gate_dst (N:=7) rfl ?_);refine Kd.R_make (Kd.int .i64) _ 3 rfl (N:=7) rfl 23 _ _ rfl (l0.length:Int) rfl rfl Try.underlying23 (.int .i64 0) 8 info3 rfl (by decide) (by omega) 0 (ok:=fun _=>True) (okp:=fun _=>True) rfl (fun _ hk=>hk) trivial (od_ (by first|(with_reducible assumption)|assumption)) (Nat.le_trans (Nat.mul_le_mul_right _ (od_ (by first|(with_reducible assumption)|assumption):(l0.length:Int).toNat≤35184372088832)) (by omega)) (Below.refl _ _) (Nat.le_refl _) ?_;intro v184 w4 ho5 hb hg_ hnew_;clear hg_ hnew_;(first|rw [←Ny183.out] at ho5|(simp only [Int.reduceToNat] at ho5;rw [←Ny183.out] at ho5));have n0_:=A_ (Kd.R_lower ho5 (bz_ (by repeat (first|(with_reducible first|exact HB.out|apply ba_|apply pd_|apply b1_)|exact HB.out))));have n1_:=A_ (bp_ (by repeat (first|(with_reducible first|exact HB.out|apply ba_|apply pd_|apply b1_)|exact HB.out)) hb);clear HB;have HO185:=n0_;have HB:=n1_;clear n0_ n1_;clear hb ho5))
   go_loopg [4] k (fun kq v4 w'=>∃ (x3_1:List Int) (x4_1:Int),v4=.int .i64 x4_1∧Aside0 (laws_toIntS.l0 kq l0 x3_1 x4_1=some r)∧Aside0 (kq≤k)∧Aside0 (Kd.R (Kd.int .i64) 3 w' w.heap.size (fun _=>True) v184 x3_1)∧Aside0 (Below w.heap.size w w'))
   case atStart=>exact ⟨(y183),(0),(by first|rfl|(simp;done)|(simp [*];done)),H',⟨Nat.le_refl _⟩,⟨by (with_reducible repeat (first|apply Kd.R_alloc|apply Kd.R_drewN|apply Kd.R_drew));exact HO185.out⟩,⟨by repeat (first|(with_reducible first|exact HB.out|apply ba_|apply pd_|apply b1_)|exact HB.out)⟩⟩
   case round =>
    clear H'
    try clear c2
    try clear c2b0
    try clear c2b1
    try clear p2
    try clear c3
    try clear c3b0
    try clear c3b1
    obtain ⟨x3_1,x4_1,rfl,HA,HK1,HO_3,HB⟩:=hrel
    cases gk with
    | zero=>exact absurd HA.out (by simp [laws_toIntS.l0])
    | succ k1 =>
     have H:=HA.out
     clear HA
     simp only [laws_toIntS.l0] at H
     by_cases c6:x4_1<(l0.length:Int)
     ·rw [if_pos c6] at H
      have c6b0:decide (x4_1<(l0.length:Int))=true:=dt_ c6
      clear c6
      by_cases c7:0≤x4_1
      ·rw [if_pos c7] at H
       have c7b0:decide (0≤x4_1)=true:=dt_ c7
       clear c7
       by_cases c8:x4_1<(x3_1.length:Int)
       ·rw [if_pos c8] at H
        have c8b0:decide (x4_1<(x3_1.length:Int))=true:=dt_ c8
        clear c8
        obtain ⟨y187,hy187⟩:∃ y_:List Int,y_=(x3_1.set (x4_1:Int).toNat (rd l0 x4_1)):=⟨_,rfl⟩
        replace H:(laws_toIntS.l0 k1 l0 y187 (wrap64 (x4_1+1)))=some r:=by first|(rw [hy187];with_reducible exact H)|(have H2_:=(Option.bind_some _ _).symm.trans H;rw [hy187];with_reducible exact H2_)|(have H2_:=(Option.bind_some _ _).symm.trans H;with_reducible exact H2_)|with_reducible exact H|(rw [hy187];exact H)|exact H
        have Ny187:=A_ hy187
        clear hy187
        have H':=A_ H
        clear H
        have p186:0≤(x4_1:Int):=od_ (by first|(with_reducible assumption)|assumption)
        have q186:x4_1<(l0.length:Int):=od_ (by first|(with_reducible assumption)|assumption)
        obtain ⟨ad186,e186,hx186_0⟩:=Kd.at_int HR0.out x4_1 p186 q186
        cases e186
        replace hx186_0:=(HB.out.cell (bl_ w _ hx186_0)).trans hx186_0
        replace p186:=eq_true p186
        replace q186:=eq_true q186
        have p9:0≤(x4_1:Int):=od_ (by first|(with_reducible assumption)|assumption)
        have q9:(x4_1:Int)<((x3_1.length:Int):Int):=od_ (by first|(with_reducible assumption)|assumption)
        obtain ⟨go9,co9,eo9,gb9,gl9,cl9,HG9⟩:=Kd.R_form HO_3.out (by omega)
        (first|cases eo9|(injection eo9 with ea_ en_ ec_;(first|subst ea_|(injection ea_ with ea_;subst ea_));subst ec_;clear en_))
        have GB9:=A_ gb9
        have GG9:=A_ HG9
        clear gb9 gl9 HG9
        obtain ⟨hx9_0,hf9_0⟩:=Kd.R_celln 0 HO_3.out (x4_1:Int) p9 q9
        replace p9:=eq_true p9
        replace q9:=eq_true q9
        have HP10:=Kd.R_putg HO_3.out (x4_1:Int) (rd l0 x4_1)
        go_wp2_with (first|((with_reducible refine gate_store (t:=3) (p:=20) rfl ?_);refine store_event (t:=3) (p:=20) (v:=?vo_w11) (w1:=(wr.setCell ⟨go9,(x4_1:Int).toNat,none⟩ (.int .i64 (rd l0 x4_1)))) ?hg ?ho ?hn ?hr ?_;(case ho=>rfl);(case hg=>rfl);(case hn=>rfl);(case hr=>first|(go_simp;done)|(go_simp;rfl)|((first|(obtain ⟨_,_,rfl⟩:=Kd.R_slice HO185.out)|(obtain ⟨_,_,rfl⟩:=Kd.S_slice HO185.out)|skip);first|(go_simp;done)|(go_simp;rfl)));intro w11 hw;have hg:wr.grownBy w11 (some go9):=(by rw [hw];exact HP10.2);have hp_:Kd.R (Kd.int .i64) 3 w11 w.heap.size (fun _=>True) (.slice (some ⟨go9,0,none⟩) x3_1.length co9) y187:=(by rw [hw,Ny187.out];exact HP10.1);clear HP10;have n0_:=A_ (hp_);have n1_:=A_ ((by rw [hw];exact bs_ (HB.out) GB9.out:Below w.heap.size w w11));clear HO_3;clear HB;have HO_3:=n0_;have HB:=n1_;clear n0_ n1_;clear hg hw hp_))
        go_roundg k1
        case measure=>have:=HK1.out;omega
        case rel=>exact ⟨(y187),(wrap64 (x4_1+1)),(by first|rfl|(simp;done)|(simp [*];done)),H',⟨by have:=HK1.out;omega⟩,⟨by (with_reducible repeat (first|apply Kd.R_alloc|apply Kd.R_drewN|apply Kd.R_drew));exact HO_3.out⟩,⟨by repeat (first|(with_reducible first|exact HB.out|apply ba_|apply pd_|apply b1_)|exact HB.out)⟩⟩
       ·rw [if_neg c8] at H
        exact absurd H (by simp)
      ·rw [if_neg c7] at H
       exact absurd H (by simp)
     ·rw [if_neg c6] at H
      have c6b0:decide (x4_1<(l0.length:Int))=false:=df_ c6
      clear c6
      obtain rfl:=oi_ H
      go_wp2
      go_ret
      exact ⟨_,by first|rfl|(simp [errW_none,errW_some] <;> rfl)|(simp [*,errW_none,errW_some] <;> rfl),by (with_reducible repeat (first|apply Kd.R_alloc|apply Kd.R_drewN|apply Kd.R_drew));exact HO_3.out,by repeat (first|(with_reducible first|exact HB.out|apply ba_|apply pd_|apply b1_)|exact HB.out)⟩
  ·rw [if_neg c3] at H
   exact absurd H (by simp)
 ·rw [if_neg c2] at H
  exact absurd H (by simp)
/-! ### impl_within: function 34 -/
def impl_within.f (a0:Int) (a1:Int) (a2:Int):Option (Bool):=if a0≥a1 then (some (decide (a0≤a2))) else (some false)
set_option maxHeartbeats 8000000 in
set_option maxRecDepth 100000 in
theorem impl_within.calls (a0:Int) (a1:Int) (a2:Int) (r:Bool) (w:World) (h:impl_within.f a0 a1 a2=some r) :
 Calls Try.prog 34 #[.int .i64 a0,.int .i64 a1,.int .i64 a2] w fun e w'=>e=.returned (.bool r)∧Drawn0 w w':=by
 have H:(if a0≥a1 then (some (decide (a0≤a2))) else (some false))=some r:=h
 clear h
 by_cases c4:a0≥a1
 ·rw [if_pos c4] at H
  have c4b0:decide (a1≤a0)=true:=dt_ c4
  clear c4
  obtain rfl:=oi_ H
  go_enter Try.func34,Try.ntmps34
  go_wp2
  go_ret
  exact ⟨by first|rfl|(simp;done)|(simp [*];done),by repeat (first|exact dr_ _|apply dp_)⟩
 ·rw [if_neg c4] at H
  have c4b0:decide (a1≤a0)=false:=df_ c4
  clear c4
  obtain rfl:=oi_ H
  go_enter Try.func34,Try.ntmps34
  go_wp2
  go_ret
  exact ⟨by first|rfl|(simp;done)|(simp [*];done),by repeat (first|exact dr_ _|apply dp_)⟩
theorem impl_within.pure (n a b:Int) (W:World):Calls Try.prog 34 #[.int .i64 n,.int .i64 a,.int .i64 b] W fun e w'=>e=.returned (.bool (decide (a≤n∧n≤b)))∧Drawn0 W w':=by
 refine impl_within.calls n a b _ W ?_
 unfold impl_within.f
 by_cases h:n≥a
 ·rw [if_pos h];simp [h]
 ·rw [if_neg h];simp;omega
/-! ### impl_isSmall: function 59 -/
def impl_isSmall.f (a0:Int):Option (Bool):=if a0≥97 then (some (decide (a0≤122))) else (some false)
set_option maxHeartbeats 8000000 in
set_option maxRecDepth 100000 in
theorem impl_isSmall.calls (a0:Int) (r:Bool) (w:World) (h:impl_isSmall.f a0=some r) :
 Calls Try.prog 59 #[.int .u8 a0] w fun e w'=>e=.returned (.bool r)∧Drawn0 w w':=by
 have H:(if a0≥97 then (some (decide (a0≤122))) else (some false))=some r:=h
 clear h
 by_cases c2:a0≥97
 ·rw [if_pos c2] at H
  have c2b0:decide (97≤a0)=true:=dt_ c2
  clear c2
  obtain rfl:=oi_ H
  go_enter Try.func59,Try.ntmps59
  go_wp2
  go_ret
  exact ⟨by first|rfl|(simp;done)|(simp [*];done),by repeat (first|exact dr_ _|apply dp_)⟩
 ·rw [if_neg c2] at H
  have c2b0:decide (97≤a0)=false:=df_ c2
  clear c2
  obtain rfl:=oi_ H
  go_enter Try.func59,Try.ntmps59
  go_wp2
  go_ret
  exact ⟨by first|rfl|(simp;done)|(simp [*];done),by repeat (first|exact dr_ _|apply dp_)⟩
/-! ### impl_isDigit: function 60 -/
def impl_isDigit.f (a0:Int):Option (Bool):=if a0≥48 then (some (decide (a0≤57))) else (some false)
set_option maxHeartbeats 8000000 in
set_option maxRecDepth 100000 in
theorem impl_isDigit.calls (a0:Int) (r:Bool) (w:World) (h:impl_isDigit.f a0=some r) :
 Calls Try.prog 60 #[.int .u8 a0] w fun e w'=>e=.returned (.bool r)∧Drawn0 w w':=by
 have H:(if a0≥48 then (some (decide (a0≤57))) else (some false))=some r:=h
 clear h
 by_cases c2:a0≥48
 ·rw [if_pos c2] at H
  have c2b0:decide (48≤a0)=true:=dt_ c2
  clear c2
  obtain rfl:=oi_ H
  go_enter Try.func60,Try.ntmps60
  go_wp2
  go_ret
  exact ⟨by first|rfl|(simp;done)|(simp [*];done),by repeat (first|exact dr_ _|apply dp_)⟩
 ·rw [if_neg c2] at H
  have c2b0:decide (48≤a0)=false:=df_ c2
  clear c2
  obtain rfl:=oi_ H
  go_enter Try.func60,Try.ntmps60
  go_wp2
  go_ret
  exact ⟨by first|rfl|(simp;done)|(simp [*];done),by repeat (first|exact dr_ _|apply dp_)⟩
end Go.Proofs.Ytjhfempockbdoaa.PFnExactNodeAt
