/- By a program of this session, out of the kit's print and contracts made by hand: the machine side of a law; Lean checks it. No conditions. -/
import Derived.Test.YtbeplhbkoaopgaaPFnExactRemoveAtx0
import Derived.Test.YtbeplhbkoaopgaaPFnExactRemoveAtx27
namespace Go.Proofs.Ytbeplhbkoaopgaa.PFnExactRemoveAt
open Go.RowKit Go.Proofs.YtbeplhbkoaopgaaW.PrintWords Go.Proofs.YtbeplhbkoaopgaaW.PrintLast Go.Proofs.YtbeplhbkoaopgaaW.PrintMore
attribute [local go_sem] max2_int min2_int max_two min_two max_three min_three max_four min_four
set_option linter.unusedVariables false
set_option linter.unusedSimpArgs false
/-! ### impl_clonedTree: function 40, by hand -/
/-- Few attributes and kids, none deeper than n. -/
def fewB:Nat→S28→Bool
 | 0,_=>false
 | n+1,x=>decide (x.f3.size≤1048576) && decide (x.f4.length≤1048576) && decide (x.f5.length≤1048576) && x.f5.all (fewB n)
theorem infoCl:(Try.prog.info? 28).map (fun i=>(i.zero,i.size,i.bytes))=some (some (.agg #[(.int .i64 0),(.int .i64 0),(.string ⟨#[]⟩),(.string ⟨#[]⟩),(.slice none 0 0),(.slice none 0 0)]),6,96):=by kernel_rfl
abbrev clonedC (n:Nat):Prop:=∀ (x:S28) (A4:Option Addr) (c4:Nat) (A5:Option Addr) (c5:Nat) (w:World),fewB n x=true→Kd.C k71 w A4 x.f4.length x.f4→Kd.C k28 w A5 x.f5.length x.f5 →
 Calls Try.prog 30 #[.agg #[.int .i64 x.f0,.int .i64 x.f1,.string x.f2,.string x.f3,.slice A4 x.f4.length c4,.slice A5 x.f5.length c5]] w fun e w'=>∃ A6 c6 A7 c7,e=.returned (.agg #[.int .i64 x.f0,.int .i64 x.f1,.string x.f2,.string x.f3,.slice A6 x.f4.length c6,.slice A7 x.f5.length c7])∧kTN.M w' w.heap.size (fun k=>w.heap.size≤k) x [.int .i64 x.f0,.int .i64 x.f1,.string x.f2,.string x.f3,.slice A6 x.f4.length c6,.slice A7 x.f5.length c7]∧Below w.heap.size w w'
abbrev clonedTreeC (n:Nat):Prop:=∀ (A0:Option Addr) (c0:Nat) (l0:List S28) (w:World),l0.all (fewB n)=true→l0.length≤1048576→Kd.C k28 w A0 l0.length l0 →
 Calls Try.prog 40 #[.slice A0 l0.length c0] w fun e w'=>∃ v,e=.returned v∧Kd.S kTN 28 w' w.heap.size (fun k=>w.heap.size≤k) v l0∧Below w.heap.size w w'
set_option maxHeartbeats 16000000 in
set_option maxRecDepth 1000000 in
theorem cloned_step (n:Nat) (ih:clonedTreeC n):clonedC (n+1):=by
 intro x A4 c4 A5 c5 w hf h4 h5
 rw [fewB,Bool.and_eq_true,Bool.and_eq_true,Bool.and_eq_true] at hf
 obtain ⟨⟨⟨n3,n4⟩,n5⟩,hall⟩:=hf
 clear n3
 have n4:=od_ n4
 have n5:=od_ n5
 have QA:Aside0 (∀ V,Below w.heap.size w V→Calls Try.prog 49 #[.slice A4 x.f4.length c4] V fun e w'=>∃ v,e=.returned v∧Kd.R k71 71 w' V.heap.size (fun _=>True) v x.f4∧Below V.heap.size V w'):=⟨fun V hV=>clone_attrs x.f4 A4 c4 V (cb_ h4 hV) n4⟩
 have QT:Aside0 (∀ V,Below w.heap.size w V→Calls Try.prog 40 #[.slice A5 x.f5.length c5] V fun e w'=>∃ v,e=.returned v∧Kd.S kTN 28 w' V.heap.size (fun k=>V.heap.size≤k) v x.f5∧Below V.heap.size V w'):=⟨fun V hV=>ih A5 c5 x.f5 V hall n5 (cb_ h5 hV)⟩
 have HB0:=A_ (ba_ (ba_ (Below.refl w.heap.size w) (.cells #[.int .i64 x.f0,.int .i64 x.f1,.string x.f2,.string x.f3,.slice A4 x.f4.length c4,.slice A5 x.f5.length c5] 28 (0,0))) (.cells #[.int .i64 0,.int .i64 0,.string ⟨#[]⟩,.string ⟨#[]⟩,.slice none 0 0,.slice none 0 0] 28 (0,0)))
 have hs2:((w.alloc (.cells #[.int .i64 x.f0,.int .i64 x.f1,.string x.f2,.string x.f3,.slice A4 x.f4.length c4,.slice A5 x.f5.length c5] 28 (0,0))).alloc (.cells #[.int .i64 0,.int .i64 0,.string ⟨#[]⟩,.string ⟨#[]⟩,.slice none 0 0,.slice none 0 0] 28 (0,0))).heap.size=w.heap.size+2:=by rw [World.size_alloc,World.size_alloc]
 have HX1:=A_ (ka_ (blk_new w (.cells #[.int .i64 x.f0,.int .i64 x.f1,.string x.f2,.string x.f3,.slice A4 x.f4.length c4,.slice A5 x.f5.length c5] 28 (0,0))) (.cells #[.int .i64 0,.int .i64 0,.string ⟨#[]⟩,.string ⟨#[]⟩,.slice none 0 0,.slice none 0 0] 28 (0,0)))
 have HX2:Aside0 (((w.alloc (.cells #[.int .i64 x.f0,.int .i64 x.f1,.string x.f2,.string x.f3,.slice A4 x.f4.length c4,.slice A5 x.f5.length c5] 28 (0,0))).alloc (.cells #[.int .i64 0,.int .i64 0,.string ⟨#[]⟩,.string ⟨#[]⟩,.slice none 0 0,.slice none 0 0] 28 (0,0))).heap[w.heap.size+1]? = some (.cells #[.int .i64 0,.int .i64 0,.string ⟨#[]⟩,.string ⟨#[]⟩,.slice none 0 0,.slice none 0 0] 28 (0,0))):=⟨by have h:=blk_new (w.alloc (.cells #[.int .i64 x.f0,.int .i64 x.f1,.string x.f2,.string x.f3,.slice A4 x.f4.length c4,.slice A5 x.f5.length c5] 28 (0,0))) (.cells #[.int .i64 0,.int .i64 0,.string ⟨#[]⟩,.string ⟨#[]⟩,.slice none 0 0,.slice none 0 0] 28 (0,0));rw [World.size_alloc] at h;exact h⟩
 have b0:((w.alloc (.cells #[.int .i64 x.f0,.int .i64 x.f1,.string x.f2,.string x.f3,.slice A4 x.f4.length c4,.slice A5 x.f5.length c5] 28 (0,0))).alloc (.cells #[.int .i64 0,.int .i64 0,.string ⟨#[]⟩,.string ⟨#[]⟩,.slice none 0 0,.slice none 0 0] 28 (0,0))).cell? ⟨w.heap.size,0,none⟩=some (.int .i64 x.f0):=(bc_ HX1.out 0).trans rfl
 have b1:((w.alloc (.cells #[.int .i64 x.f0,.int .i64 x.f1,.string x.f2,.string x.f3,.slice A4 x.f4.length c4,.slice A5 x.f5.length c5] 28 (0,0))).alloc (.cells #[.int .i64 0,.int .i64 0,.string ⟨#[]⟩,.string ⟨#[]⟩,.slice none 0 0,.slice none 0 0] 28 (0,0))).cell? ⟨w.heap.size,1,none⟩=some (.int .i64 x.f1):=(bc_ HX1.out 1).trans rfl
 have b2:((w.alloc (.cells #[.int .i64 x.f0,.int .i64 x.f1,.string x.f2,.string x.f3,.slice A4 x.f4.length c4,.slice A5 x.f5.length c5] 28 (0,0))).alloc (.cells #[.int .i64 0,.int .i64 0,.string ⟨#[]⟩,.string ⟨#[]⟩,.slice none 0 0,.slice none 0 0] 28 (0,0))).cell? ⟨w.heap.size,2,none⟩=some (.string x.f2):=(bc_ HX1.out 2).trans rfl
 have b3:((w.alloc (.cells #[.int .i64 x.f0,.int .i64 x.f1,.string x.f2,.string x.f3,.slice A4 x.f4.length c4,.slice A5 x.f5.length c5] 28 (0,0))).alloc (.cells #[.int .i64 0,.int .i64 0,.string ⟨#[]⟩,.string ⟨#[]⟩,.slice none 0 0,.slice none 0 0] 28 (0,0))).cell? ⟨w.heap.size,3,none⟩=some (.string x.f3):=(bc_ HX1.out 3).trans rfl
 have b4:((w.alloc (.cells #[.int .i64 x.f0,.int .i64 x.f1,.string x.f2,.string x.f3,.slice A4 x.f4.length c4,.slice A5 x.f5.length c5] 28 (0,0))).alloc (.cells #[.int .i64 0,.int .i64 0,.string ⟨#[]⟩,.string ⟨#[]⟩,.slice none 0 0,.slice none 0 0] 28 (0,0))).cell? ⟨w.heap.size,4,none⟩=some (.slice A4 x.f4.length c4):=(bc_ HX1.out 4).trans rfl
 have b5:((w.alloc (.cells #[.int .i64 x.f0,.int .i64 x.f1,.string x.f2,.string x.f3,.slice A4 x.f4.length c4,.slice A5 x.f5.length c5] 28 (0,0))).alloc (.cells #[.int .i64 0,.int .i64 0,.string ⟨#[]⟩,.string ⟨#[]⟩,.slice none 0 0,.slice none 0 0] 28 (0,0))).cell? ⟨w.heap.size,5,none⟩=some (.slice A5 x.f5.length c5):=(bc_ HX1.out 5).trans rfl
 clear h4 h5 n4 n5 hall ih
 go_enter Try.func30,Try.ntmps30
 go_wp2_with fail
 go_region_held3 (fun w'=>w'.cell? ⟨w.heap.size,0,none⟩=some (.int .i64 x.f0)∧w'.cell? ⟨w.heap.size,1,none⟩=some (.int .i64 x.f1)∧w'.cell? ⟨w.heap.size,2,none⟩=some (.string x.f2)∧w'.cell? ⟨w.heap.size,3,none⟩=some (.string x.f3)∧w'.cell? ⟨w.heap.size,4,none⟩=some (.slice A4 x.f4.length c4)∧w'.cell? ⟨w.heap.size,5,none⟩=some (.slice A5 x.f5.length c5)) (go_keep) (first|(go_at_call 49;(with_reducible refine (QA.out _ (b1_ HB0.out)).mono ?_);rintro e w2 ⟨v4,rfl,hr,hb0⟩;(have hb:Below ((w.alloc (.cells #[.int .i64 x.f0,.int .i64 x.f1,.string x.f2,.string x.f3,.slice A4 x.f4.length c4,.slice A5 x.f5.length c5] 28 (0,0))).alloc (.cells #[.int .i64 0,.int .i64 0,.string ⟨#[]⟩,.string ⟨#[]⟩,.slice none 0 0,.slice none 0 0] 28 (0,0))).heap.size ((w.alloc (.cells #[.int .i64 x.f0,.int .i64 x.f1,.string x.f2,.string x.f3,.slice A4 x.f4.length c4,.slice A5 x.f5.length c5] 28 (0,0))).alloc (.cells #[.int .i64 0,.int .i64 0,.string ⟨#[]⟩,.string ⟨#[]⟩,.slice none 0 0,.slice none 0 0] 28 (0,0))) w2:=(b1_ (Below.refl ((w.alloc (.cells #[.int .i64 x.f0,.int .i64 x.f1,.string x.f2,.string x.f3,.slice A4 x.f4.length c4,.slice A5 x.f5.length c5] 28 (0,0))).alloc (.cells #[.int .i64 0,.int .i64 0,.string ⟨#[]⟩,.string ⟨#[]⟩,.slice none 0 0,.slice none 0 0] 28 (0,0))).heap.size ((w.alloc (.cells #[.int .i64 x.f0,.int .i64 x.f1,.string x.f2,.string x.f3,.slice A4 x.f4.length c4,.slice A5 x.f5.length c5] 28 (0,0))).alloc (.cells #[.int .i64 0,.int .i64 0,.string ⟨#[]⟩,.string ⟨#[]⟩,.slice none 0 0,.slice none 0 0] 28 (0,0))))).trans hb0);obtain ⟨A6,c6,rfl⟩:=Kd.R_slice hr;(have HB2:=A_ (bp_ HB0.out hb));(have HR:=A_ hr);(have HSY:=A_ hb0.size);(have d0:=pc_ hb b0);(have d1:=pc_ hb b1);(have d2:=pc_ hb b2);(have d3:=pc_ hb b3);(have d4:=pc_ hb b4);(have d5:=pc_ hb b5);(have HY2:=A_ (kb_ HX2.out hb));clear hb hr)|(go_at_call 40;(with_reducible refine (QT.out _ HB2.out).mono ?_);rintro e w3 ⟨v5,rfl,hs,hb⟩;obtain ⟨A7,c7,rfl⟩:=Kd.S_slice hs;(have HB3:=A_ (bp_ HB2.out hb));(have HSZ:=A_ HB2.out.size);(have HS:=A_ hs);(have e0:=pc_ hb d0);(have e1:=pc_ hb d1);(have e2:=pc_ hb d2);(have e3:=pc_ hb d3);(have e4:=pc_ hb d4);(have e5:=pc_ hb d5);(have HR3:=A_ (Kd.R_below (Kd.R_bound HR.out) hb));(have z:=kb_ HY2.out hb);(have HZ:=A_ z);(have p0:w3.cell? ⟨w.heap.size+1,0,none⟩=some (.int .i64 0):=(bc_ z 0).trans rfl);(have f0:w3.frozen? ⟨w.heap.size+1,0,none⟩=false:=bf_ z 0);(have p1:w3.cell? ⟨w.heap.size+1,1,none⟩=some (.int .i64 0):=(bc_ z 1).trans rfl);(have f1:w3.frozen? ⟨w.heap.size+1,1,none⟩=false:=bf_ z 1);(have p2:w3.cell? ⟨w.heap.size+1,2,none⟩=some (.string ⟨#[]⟩):=(bc_ z 2).trans rfl);(have f2:w3.frozen? ⟨w.heap.size+1,2,none⟩=false:=bf_ z 2);(have p3:w3.cell? ⟨w.heap.size+1,3,none⟩=some (.string ⟨#[]⟩):=(bc_ z 3).trans rfl);(have f3:w3.frozen? ⟨w.heap.size+1,3,none⟩=false:=bf_ z 3);(have p4:w3.cell? ⟨w.heap.size+1,4,none⟩=some (.slice none 0 0):=(bc_ z 4).trans rfl);(have f4:w3.frozen? ⟨w.heap.size+1,4,none⟩=false:=bf_ z 4);(have p5:w3.cell? ⟨w.heap.size+1,5,none⟩=some (.slice none 0 0):=(bc_ z 5).trans rfl);(have f5:w3.frozen? ⟨w.heap.size+1,5,none⟩=false:=bf_ z 5);clear hb hs z))
 go_wp2
 have hsd:((w.alloc (.cells #[.int .i64 x.f0,.int .i64 x.f1,.string x.f2,.string x.f3,.slice A4 x.f4.length c4,.slice A5 x.f5.length c5] 28 (0,0))).alloc (.cells #[.int .i64 0,.int .i64 0,.string ⟨#[]⟩,.string ⟨#[]⟩,.slice none 0 0,.slice none 0 0] 28 (0,0))).drew.heap.size=w.heap.size+2:=hs2
 have hKW:Kept w3 ((((((w3.setCell ⟨w.heap.size+1,0,none⟩ (.int .i64 x.f0)).setCell ⟨w.heap.size+1,1,none⟩ (.int .i64 x.f1)).setCell ⟨w.heap.size+1,2,none⟩ (.string x.f2)).setCell ⟨w.heap.size+1,3,none⟩ (.string x.f3)).setCell ⟨w.heap.size+1,4,none⟩ (.slice A6 x.f4.length c6)).setCell ⟨w.heap.size+1,5,none⟩ (.slice A7 x.f5.length c7)) (fun k=>k=w.heap.size+1):=(Kept.setCell ((Kept.setCell ((Kept.setCell ((Kept.setCell ((Kept.setCell ((Kept.setCell (Kept.refl w3 (fun k=>k=w.heap.size+1)) (p:=⟨w.heap.size+1,0,none⟩) (.inl rfl) (.int .i64 x.f0))) (p:=⟨w.heap.size+1,1,none⟩) (.inl rfl) (.int .i64 x.f1))) (p:=⟨w.heap.size+1,2,none⟩) (.inl rfl) (.string x.f2))) (p:=⟨w.heap.size+1,3,none⟩) (.inl rfl) (.string x.f3))) (p:=⟨w.heap.size+1,4,none⟩) (.inl rfl) (.slice A6 x.f4.length c6))) (p:=⟨w.heap.size+1,5,none⟩) (.inl rfl) (.slice A7 x.f5.length c7))
 refine bodyPost_ret (results_cell_row rfl _ _ (w.heap.size+1) 28 #[.int .i64 x.f0,.int .i64 x.f1,.string x.f2,.string x.f3,.slice A6 x.f4.length c6,.slice A7 x.f5.length c7] (0,0) _ rfl (blk_put (cs:=#[.int .i64 x.f0,.int .i64 x.f1,.string x.f2,.string x.f3,.slice A6 x.f4.length c6,.slice none 0 0]) (cs':=#[.int .i64 x.f0,.int .i64 x.f1,.string x.f2,.string x.f3,.slice A6 x.f4.length c6,.slice A7 x.f5.length c7]) (blk_put (cs:=#[.int .i64 x.f0,.int .i64 x.f1,.string x.f2,.string x.f3,.slice none 0 0,.slice none 0 0]) (cs':=#[.int .i64 x.f0,.int .i64 x.f1,.string x.f2,.string x.f3,.slice A6 x.f4.length c6,.slice none 0 0]) (blk_put (cs:=#[.int .i64 x.f0,.int .i64 x.f1,.string x.f2,.string ⟨#[]⟩,.slice none 0 0,.slice none 0 0]) (cs':=#[.int .i64 x.f0,.int .i64 x.f1,.string x.f2,.string x.f3,.slice none 0 0,.slice none 0 0]) (blk_put (cs:=#[.int .i64 x.f0,.int .i64 x.f1,.string ⟨#[]⟩,.string ⟨#[]⟩,.slice none 0 0,.slice none 0 0]) (cs':=#[.int .i64 x.f0,.int .i64 x.f1,.string x.f2,.string ⟨#[]⟩,.slice none 0 0,.slice none 0 0]) (blk_put (cs:=#[.int .i64 x.f0,.int .i64 0,.string ⟨#[]⟩,.string ⟨#[]⟩,.slice none 0 0,.slice none 0 0]) (cs':=#[.int .i64 x.f0,.int .i64 x.f1,.string ⟨#[]⟩,.string ⟨#[]⟩,.slice none 0 0,.slice none 0 0]) (blk_put (cs:=#[.int .i64 0,.int .i64 0,.string ⟨#[]⟩,.string ⟨#[]⟩,.slice none 0 0,.slice none 0 0]) (cs':=#[.int .i64 x.f0,.int .i64 0,.string ⟨#[]⟩,.string ⟨#[]⟩,.slice none 0 0,.slice none 0 0]) HZ.out 0 (.int .i64 x.f0) rfl) 1 (.int .i64 x.f1) rfl) 2 (.string x.f2) rfl) 3 (.string x.f3) rfl) 4 (.slice A6 x.f4.length c6) rfl) 5 (.slice A7 x.f5.length c7) rfl) Try.underlying28 rfl (by kernel_rfl)) rfl ?_
 have h23:=HB3.out.size
 have hsz2:=HSZ.out
 refine ⟨A6,c6,A7,c7,rfl,kTN_mkM _ _ _ (fun k=>k<w2.heap.size) _ ?_ ?_,?_⟩
 ·exact Kd.R_mono (Kd.R_kept (S:=fun k=>k=w.heap.size+1) (Kd.R_lower HR3.out (by rw [hsd];omega)) hKW (fun k hk (h:k=w.heap.size+1)=>by have:=hk.2.1;rw [hsd] at this;omega)) (fun k hk=>⟨by have:=hk.2.1;rw [hsd] at this;omega,hk.2.2.1⟩)
 ·have hw2:w.heap.size+2≤w2.heap.size:=by have:=HSY.out;rw [hsd] at this;exact this
  exact Kd.S_lower (Kd.S_mono (Kd.S_kept (S:=fun k=>k=w.heap.size+1) HS.out hKW (fun k hk (h:k=w.heap.size+1)=>by omega)) (fun k hk=>⟨by omega,fun he=>by omega⟩)) HSZ.out
 ·exact (bs_ (bs_ (bs_ (bs_ (bs_ (bs_ HB3.out (by omega)) (by omega)) (by omega)) (by omega)) (by omega)) (by omega))
set_option maxHeartbeats 8000000 in
set_option maxRecDepth 1000000 in
theorem clonedTree_step (n:Nat) (ih:clonedC n):clonedTreeC n:=by
 intro A0 c0 l0 w hf hn h0
 rw [List.all_eq_true] at hf
 have HALL:=A_ hf
 have HC:=A_ h0
 have HN:=A_ hn
 have IH:=A_ ih
 have hL:l0.length≤9223372036854775807:=h0.2.1
 have HB00:=A_ (Below.refl w.heap.size w)
 clear hf h0 hn ih
 go_enter Try.func40,Try.ntmps40
 go_wp2_with ((with_reducible refine gate_dst (N:=6) rfl ?_);refine Kd.R_lit (Kd.tag (fun _=>0) kTN) (w0:=w) w.heap.size 28 ?hg (N:=6) ?hd (xs:=([]:List (S28 × Nat))) (inner:=[]) (ok:=fun k=>w.heap.size≤k) (okp:=fun _=>False) ?hr ?hp (fun _ hk=>hk.elim) (Nat.le_refl _) (Below.refl _ _) (Nat.le_refl _) (by simp) ?_;(case hd=>rfl);(case hg=>rfl);(case hr=>first|(go_simp;done)|(go_simp;rfl));(case hp=>exact (Reps.none _ _));intro v6 w1 ho hb _ _;(have HO:=A_ (Sep.S_of_tag (d:=kTN) ho));(have HB:=A_ hb);clear ho hb)
 go_loopg [3,5,9] l0.length (fun gg s3 _ s9 wr=>∃ (kk:Nat),kk≤l0.length∧l0.length - kk≤gg∧s9=.int .i64 kk∧Aside0 (Kd.S kTN 28 wr w.heap.size (fun k=>w.heap.size≤k) s3 (l0.take kk))∧Aside0 (Below w.heap.size w wr))
 case atStart=>exact ⟨0,Nat.zero_le _,by omega,rfl,HO,HB⟩
 case round =>
  obtain ⟨kk,hkk,hgg,rfl,HG,BW⟩:=hrel
  obtain ⟨A3,c3,hv3⟩:=Kd.S_slice HG.out
  rw [lt_,Nat.min_eq_left hkk] at hv3
  subst hv3
  by_cases hlt:kk<l0.length
  case pos =>
   have hltz:(kk:Int)<(l0.length:Int):=by omega
   obtain ⟨ad,cs,e,hcl,hK,hc⟩:=Kd.C_get HC.out z28 (kk:Int) (by omega) (by omega)
   rw [Int.toNat_natCast] at hK hc
   have hfy:=HALL.out _ (Kit.getD_mem z28 hlt)
   have htk:l0.take (kk+1)=l0.take kk++[l0.getD kk z28]:=by
    rw [List.getD_eq_getElem?_getD,List.getElem?_eq_getElem hlt,List.take_add_one,List.getElem?_eq_getElem hlt]
    rfl
   have HTK:=A_ htk
   clear htk
   generalize l0.getD kk z28=x at *
   obtain ⟨A4,c4,A5,c5,rfl,m4,q4,m5,q5⟩:=k28_open hK
   subst e
   have r0:wr.cell? (ad.add (kk * 6))=some (.int .i64 x.f0):=pc_ BW.out (hc 0 _ rfl)
   have r1:wr.cell? ⟨(ad.add (kk * 6)).block,(ad.add (kk * 6)).off+1,none⟩=some (.int .i64 x.f1):=pc_ BW.out ((by rw [←add_field _ _ 1 (by omega)];exact hc 1 _ rfl))
   have r2:wr.cell? ⟨(ad.add (kk * 6)).block,(ad.add (kk * 6)).off+2,none⟩=some (.string x.f2):=pc_ BW.out ((by rw [←add_field _ _ 2 (by omega)];exact hc 2 _ rfl))
   have r3:wr.cell? ⟨(ad.add (kk * 6)).block,(ad.add (kk * 6)).off+3,none⟩=some (.string x.f3):=pc_ BW.out ((by rw [←add_field _ _ 3 (by omega)];exact hc 3 _ rfl))
   have r4:wr.cell? ⟨(ad.add (kk * 6)).block,(ad.add (kk * 6)).off+4,none⟩=some (.slice A4 x.f4.length c4):=pc_ BW.out ((by rw [←add_field _ _ 4 (by omega)];exact hc 4 _ rfl))
   have r5:wr.cell? ⟨(ad.add (kk * 6)).block,(ad.add (kk * 6)).off+5,none⟩=some (.slice A5 x.f5.length c5):=pc_ BW.out ((by rw [←add_field _ _ 5 (by omega)];exact hc 5 _ rfl))
   have QN:=A_ (IH.out x A4 c4 A5 c5 (wr.alloc (.cells #[.int .i64 x.f0,.int .i64 x.f1,.string x.f2,.string x.f3,.slice A4 x.f4.length c4,.slice A5 x.f5.length c5] 28 (0,0))) hfy (cb_ (cb_ q4 BW.out) (ba_ (Below.refl _ _) _)) (cb_ (cb_ q5 BW.out) (ba_ (Below.refl _ _) _)))
   have hszr:(wr.alloc (.cells #[.int .i64 x.f0,.int .i64 x.f1,.string x.f2,.string x.f3,.slice A4 x.f4.length c4,.slice A5 x.f5.length c5] 28 (0,0))).heap.size=wr.heap.size+1:=by rw [World.size_alloc]
   have HSR:=A_ hszr
   have BW1:=A_ (ba_ BW.out (.cells #[.int .i64 x.f0,.int .i64 x.f1,.string x.f2,.string x.f3,.slice A4 x.f4.length c4,.slice A5 x.f5.length c5] 28 (0,0)))
   have BR1:=A_ (ba_ (Below.refl wr.heap.size wr) (.cells #[.int .i64 x.f0,.int .i64 x.f1,.string x.f2,.string x.f3,.slice A4 x.f4.length c4,.slice A5 x.f5.length c5] 28 (0,0)))
   have HLT:=A_ hlt
   clear hc hK hcl m4 q4 m5 q5 hfy hszr hlt
   go_wp2_with (first|(go_at_call 30;(with_reducible refine QN.out.mono ?_);rintro e w2 ⟨A6,c6,A7,c7,rfl,hm,hb⟩;(have HM:=A_ hm);(have HB2:=A_ (bp_ BW1.out hb));(have HR2:=A_ (bp_ BR1.out hb));clear hm hb)|((with_reducible refine gate_builtin (b:=.append) (xs:=#[.tmp 13,.tmp 16]) rfl ?_);at_builtin;refine Sep.S_append kTN (w0:=w) w.heap.size rfl (.tmp 13) (.tmp 16) 26 28 (.agg #[(.int .i64 0),(.int .i64 0),(.string ⟨#[]⟩),(.string ⟨#[]⟩),(.slice none 0 0),(.slice none 0 0)]) 96 rfl Try.underlying26 infoCl rfl (by decide) (by omega) (.slice A3 kk c3) (l0.take kk) x [.int .i64 x.f0,.int .i64 x.f1,.string x.f2,.string x.f3,.slice A6 x.f4.length c6,.slice A7 x.f5.length c7] (fun k=>w.heap.size≤k) (fun k=>wr.heap.size+1≤k) rfl ?hx ?aP ?aK ?aF ?aO ?aB ?aS ?aL ?_;(case hx=>first|rfl|(go_simp;done)|(simp;done)|(go_simp;rfl));(case aP=>exact kTN.M_mono (fun k hk=>by (have:=HSR.out);omega) (kTN.M_lower BW1.out.size HM.out));(case aK=>exact (fun k hk=>by (have:=BW.out.size);omega));(case aF=>exact (fun k hk=>Nat.le_trans HB2.out.size hk));(case aO=>exact Kd.S_below (Kd.S_mono (Kd.S_bound HG.out) (fun k hk=>⟨hk.1,by (have:=hk.2.2.1);omega⟩)) HR2.out);(case aB=>exact HB2.out);(case aS=>exact HB2.out.size);(case aL=>rw [lt_];(have:=HN.out);omega);intro v9 w9 ho hb _ _;rw [←HTK.out] at ho;(have HO9:=A_ ho);(have HB9:=A_ hb);clear ho hb))
   go_roundg (l0.length - (kk+1))
   case measure=>have:=HLT.out;omega
   case rel=>exact ⟨kk+1,by have:=HLT.out;omega,by omega,by go_num,HO9,HB9⟩
  case neg =>
   have hltz:¬ (kk:Int)<(l0.length:Int):=by omega
   have HE:Aside0 (l0.take kk=l0):=⟨List.take_of_length_le (by omega)⟩
   go_wp2
   go_ret
   exact ⟨_,rfl,by rw [HE.out] at HG;exact HG.out,BW.out⟩
theorem cloned_both:∀ n,clonedC n∧clonedTreeC n
 | 0=>⟨fun x A4 c4 A5 c5 w hf=>(by cases hf),clonedTree_step 0 (fun x A4 c4 A5 c5 w hf=>(by cases hf))⟩
 | n+1=>⟨cloned_step n (cloned_both n).2,clonedTree_step (n+1) (cloned_step n (cloned_both n).2)⟩
/-! ### impl_holder: function 53, by hand -/
theorem holder_short (A1:Option Addr) (c1:Nat) (path:List Int) (b:Nat) (w:World) (h:path.length<2) :
 Calls Try.prog 53 #[.pointer (some ⟨b,0,none⟩),.slice A1 path.length c1] w fun e w'=>e=.returned (.pointer (some ⟨b,0,none⟩))∧Below w.heap.size w w':=by
 have z1:decide ((path.length:Int)<2)=true:=dt_ (by omega)
 clear h
 generalize path.length=n1 at *
 go_enter Try.func53,Try.ntmps53
 go_wp2
 go_ret
 exact ⟨rfl,Below.refl _ _⟩
set_option maxHeartbeats 16000000 in
set_option maxRecDepth 1000000 in
theorem holder_long (A0:Option Addr) (c0:Nat) (xs:List S28) (A1:Option Addr) (c1:Nat) (path:List Int) (b base:Nat) (ok:Nat→Prop) (w:World) (hb:w.cell? ⟨b,0,none⟩=some (.slice A0 xs.length c0)) (hS:Kd.S kTN 28 w base ok (.slice A0 xs.length c0) xs) (hp:Kd.C (Kd.int .i64) w A1 path.length path) (hc:path.length≤c1) (h:2≤path.length) (x:S28) (hx:atPath xs (path.take (path.length - 1))=some x) :
 Calls Try.prog 53 #[.pointer (some ⟨b,0,none⟩),.slice A1 path.length c1] w fun e w'=>∃ (V:World) (g i:Nat),e=.returned (.pointer (some ⟨g,i * 6+5,none⟩))∧Foc V base ok (.slice A0 xs.length c0) xs (path.take (path.length - 1)) ⟨g,i * 6,none⟩ x∧Below w.heap.size w V∧Below V.heap.size V w':=by
 have z1:decide ((path.length:Int)<2)=false:=df_ (by omega)
 have hlen:(path.take (path.length - 1)).length=path.length - 1:=by rw [lt_];omega
 have hmax:(path.length:Int)≤9223372036854775807:=by have:=hp.2.1;omega
 have QE:Aside0 (∀ V,Below w.heap.size w V→Calls Try.prog 29 #[.slice A0 xs.length c0,.slice A1 (path.length - 1) c1] V fun e w'=>∃ g i,e=.returned (.pointer (some ⟨g,i * 6,none⟩))∧Foc V base ok (.slice A0 xs.length c0) xs (path.take (path.length - 1)) ⟨g,i * 6,none⟩ x∧Below V.heap.size V w'):=⟨fun V hV=>by
  have h1:=find_calls A0 c0 xs A1 c1 (path.take (path.length - 1)) base ok V (Kd.S_below hS hV) (Kd.C_take (cb_ hp hV) (by omega))
  rw [hlen,hx] at h1
  refine h1.mono fun e w' ⟨r,he,hr,hbl⟩=>?_
  obtain ⟨p,rfl,hf⟩:=hr
  obtain ⟨g,n,cap,okq,i,rfl,hrest⟩:=hf
  exact ⟨g,i,he,⟨g,n,cap,okq,i,rfl,hrest⟩,hbl⟩⟩
 have hbd:w.drew.cell? ⟨b,0,none⟩=some (.slice A0 xs.length c0):=hb
 have hbc:=hb
 clear hS hp hx hlen
 generalize xs.length=n0 at *
 generalize path.take (path.length - 1)=pt at *
 generalize hn1:path.length=n1 at *
 have hw1:IntKind.i64.wrap ((n1:Int) - 1)=((n1 - 1:Nat):Int):=by rw [IntKind.wrap_i64];omega
 have k0:0≤((n1 - 1:Nat):Int):=by omega
 have k1:((n1 - 1:Nat):Int)≤(n1:Int):=by omega
 have k2:((n1 - 1:Nat):Int)≤(c1:Int):=by omega
 have k3:n1 - 1≤c1:=by omega
 go_enter Try.func53,Try.ntmps53
 go_wp2_with fail
 go_region_held3 (fun w'=>w'.cell? ⟨b,0,none⟩=some (.slice A0 n0 c0)) (go_keep) (first|(go_at_call 29;(with_reducible refine (QE.out _ (b1_ (Below.refl w.heap.size w))).mono ?_);rintro e w2 ⟨g,i,rfl,hf,hb0⟩;(have hb:Below w.heap.size w w2:=(b1_ (Below.refl w.heap.size w)).trans hb0);(have hb2c:=pc_ hb hbc);(have HF:=A_ hf);(have HB:=A_ hb0);clear hb hf hb0))
 go_wp2
 go_ret
 exact ⟨_,g,i,rfl,HF.out,b1_ (Below.refl _ _),HB.out⟩
/-! ### slices_Delete_Node: function 54, by hand -/
theorem puts_list {α : Type} (l:List α) (o:Nat) (v : α) (vs:List α) (h:o<l.length):(l.set o v).take (o+1)++vs++(l.set o v).drop (o+1+vs.length)=l.take o++(v :: vs)++l.drop (o+(v :: vs).length):=by
 have h1:(l.set o v).take (o+1)=l.take o++[v]:=by
  apply List.ext_getElem?
  intro j
  rw [List.getElem?_take,List.getElem?_set]
  by_cases h1:j<o
  ·rw [if_pos (by omega),if_neg (by omega),List.getElem?_append_left (by rw [lt_];omega),List.getElem?_take,if_pos h1]
  ·by_cases h2:j=o
   ·subst h2
    rw [if_pos (by omega),if_pos rfl,if_pos h,List.getElem?_append_right (by rw [lt_];omega),lt_,Nat.min_eq_left (by omega),Nat.sub_self]
    rfl
   ·rw [if_neg (by omega),List.getElem?_eq_none]
    rw [List.length_append,lt_,List.length_singleton]
    omega
 have h2:(l.set o v).drop (o+1+vs.length)=l.drop (o+(v :: vs).length):=by
  apply List.ext_getElem?
  intro j
  rw [List.getElem?_drop,List.getElem?_drop,List.getElem?_set,if_neg (by omega),List.length_cons,show o+1+vs.length+j=o+(vs.length+1)+j by omega]
 rw [h1,h2,List.append_assoc (l.take o) [v] vs]
 rfl
/-- A run of cells stored into one block: what the block holds behind it; all other blocks stay. -/
theorem blk_puts {b:Nat} {t:TypeId} : ∀ (vs:List Value) (o:Nat) (w:World) (cs:Array Value),w.heap[b]? = some (.cells cs t (0,0))→o+vs.length≤cs.size→∃ cs':Array Value,(w.setCells b o vs).heap[b]? = some (.cells cs' t (0,0))∧cs'.toList=cs.toList.take o++vs++cs.toList.drop (o+vs.length)∧(∀ k,k≠b→(w.setCells b o vs).heap[k]? = w.heap[k]?)
 | [],o,w,cs,h,_=>⟨cs,h,by rw [List.append_nil,List.length_nil,Nat.add_zero,List.take_append_drop],fun _ _=>rfl⟩
 | v :: vs,o,w,cs,h,hl=>by
  rw [List.length_cons] at hl
  obtain ⟨cs',h1,h2,h3⟩:=blk_puts vs (o+1) (w.setCell ⟨b,o,none⟩ v) (cs.setIfInBounds o v) (blk_put h o v rfl) (by rw [Array.size_setIfInBounds];omega)
  refine ⟨cs',h1,?_,fun k hk=>(h3 k hk).trans (Below.heap_setCell w ⟨b,o,none⟩ v k hk)⟩
  rw [h2,Array.toList_setIfInBounds]
  exact puts_list cs.toList o v vs (by rw [Array.length_toList];omega)
theorem below_puts {B b:Nat} {W0:World} (hg:B≤b):∀ (vs:List Value) (o:Nat) (w:World),Below B W0 w→Below B W0 (w.setCells b o vs)
 | [],_,_,h=>h
 | v :: vs,o,w,h=>below_puts hg vs (o+1) (w.setCell ⟨b,o,none⟩ v) (h.setCell hg _)
theorem clear_one (W:World) (ty:TypeId) (b o c:Nat) (cs:Array Value) (hb:W.heap[b]? = some (.cells cs 28 (0,0))) (ho:o+6≤cs.size):(Builtin.clear_ #[26] ty #[.slice (some ⟨b,o,none⟩) 1 c]).run Try.prog W=.ok (.tuple #[]) (W.setCells b o [.int .i64 0,.int .i64 0,.string ⟨#[]⟩,.string ⟨#[]⟩,.slice none 0 0,.slice none 0 0]):=by
 have hst:=run_storeCells_cells (P:=Try.prog) b o [.int .i64 0,.int .i64 0,.string ⟨#[]⟩,.string ⟨#[]⟩,.slice none 0 0,.slice none 0 0] 0 W (fun j hj=>by rw [bc_ hb];simp at hj;rw [Array.getElem?_eq_getElem (by omega)];rfl) (fun j hj=>bf_ hb _) (by intro v hv;simp at hv;rcases hv with rfl|rfl|rfl|rfl|rfl <;> rfl)
 have hz:∀ w,(zeroValue 28).run Try.prog w=.ok (.agg #[.int .i64 0,.int .i64 0,.string ⟨#[]⟩,.string ⟨#[]⟩,.slice none 0 0,.slice none 0 0]) w:=fun _=>by kernel_rfl
 have hzc:(Builtin.zeroCells (Value.agg #[.int .i64 0,.int .i64 0,.string ⟨#[]⟩,.string ⟨#[]⟩,.slice none 0 0,.slice none 0 0]).cells 1).toList=[.int .i64 0,.int .i64 0,.string ⟨#[]⟩,.string ⟨#[]⟩,.slice none 0 0,.slice none 0 0]:=by kernel_rfl
 simp only [Nat.add_zero] at hst
 simp [Builtin.clear_,run_underlying Try.underlying26,hz,hzc,hst]
set_option maxHeartbeats 16000000 in
set_option maxRecDepth 1000000 in
theorem delete_calls (g n cap i j:Nat) (cur:Array Value) (w:World) (hb:w.heap[g]? = some (.cells cur 28 (0,0))) (hcs:cur.size=cap * 6) (hcap:n≤cap) (hm:cap≤9223372036854775807) (hj:j=i+1) (hi:i<n) (h1:∀ u∈cur.toList.take (n * 6),u.oneCell'=true) :
 Calls Try.prog 54 #[.slice (some ⟨g,0,none⟩) n cap,.int .i64 i,.int .i64 j] w fun e w'=>e=.returned (.slice (some ⟨g,0,none⟩) (n - 1) cap)∧∃ cur':Array Value,w'.heap[g]? = some (.cells cur' 28 (0,0))∧cur'.size=cur.size∧cur'.toList.take ((n - 1) * 6)=cur.toList.take (i * 6)++(cur.toList.drop (j * 6)).take ((n - j) * 6)∧(∀ k,k≠g→w'.heap[k]? = w.heap[k]?)∧∀ (B:Nat) (W0:World),B≤g→Below B W0 w→Below B W0 w':=by
 obtain ⟨i0,hi0,hz0,hz1,hz2⟩:=info_parts info28
 obtain ⟨news,hnews⟩:∃ news,news=(cur.toList.drop (j * 6)).take ((n - j) * 6):=⟨_,rfl⟩
 have hlen:news.length=(n - j) * 6:=by rw [hnews,lt_,ld_,Array.length_toList];omega
 have hget:∀ t,t<(n - j) * 6→news[t]? = cur[j * 6+t]?:=by
  intro t ht
  rw [hnews,List.getElem?_take,if_pos ht,List.getElem?_drop,Array.getElem?_toList]
 obtain ⟨A,hA,hsrc⟩:∃ A:Addr,(if cap=j then some (⟨g,0,none⟩:Addr) else some ⟨g,j * 6,none⟩)=some A∧Hid (∀ t u,news[t]? = some u→w.drew.cell? (A.add t)=some u):=by
  by_cases h:cap=j
  ·refine ⟨⟨g,0,none⟩,by simp [h],fun t u hu=>?_⟩
   have h0:news.length=0:=by rw [hlen];omega
   rw [List.length_eq_zero_iff.1 h0] at hu
   simp at hu
  ·refine ⟨⟨g,j * 6,none⟩,by simp [h],fun t u hu=>?_⟩
   have ht:t<(n - j) * 6:=by
    have:=(List.getElem?_eq_some_iff.1 hu).1
    rwa [hlen] at this
   rw [hget t ht] at hu
   rw [Addr.add_lit]
   exact (bc_ (kd_ hb) _).trans hu
 have s1:Hid (news.length=(n - j) * 6):=hlen
 have s2:Hid (∀ u∈news,u.oneCell'=true):=by
  intro u hu
  refine h1 u ?_
  rw [hnews] at hu
  obtain ⟨t,ht,rfl⟩:=List.mem_iff_getElem.1 hu
  have hu:=List.getElem?_eq_getElem ht
  have ht2:t<(n - j) * 6:=by have:=ht;rw [←hnews,hlen] at this;exact this
  rw [List.getElem?_take,if_pos ht2,List.getElem?_drop] at hu
  exact List.mem_of_getElem? (i:=j * 6+t) (by rw [List.getElem?_take,if_pos (by omega)];exact hu)
 have s3:Hid (∀ t,t<news.length→(w.drew.cell? ⟨g,0+i * 6+t,none⟩).isSome=true∧w.drew.frozen? ⟨g,0+i * 6+t,none⟩=false):=by
  intro t ht
  rw [hlen] at ht
  exact ⟨by rw [bc_ (kd_ hb),Array.getElem?_eq_getElem (by omega)];rfl,bf_ (kd_ hb) _⟩
 obtain ⟨W1,hW1⟩:∃ W1,W1=w.drew.setCells g (0+i * 6) news:=⟨_,rfl⟩
 obtain ⟨c1,b1,b2,b3⟩:=blk_puts news (0+i * 6) w.drew cur (kd_ hb) (by rw [hlen];omega)
 rw [←hW1] at b1 b3
 have hc1:c1.size=cur.size:=by
  rw [←Array.length_toList,b2,List.length_append,List.length_append,lt_,ld_,Array.length_toList,hlen]
  omega
 have hcl:=fun ty=>clear_one W1 ty g ((n - 1) * 6) (cap - (n - 1)) c1 b1 (by omega)
 obtain ⟨c2,d1,d2,d3⟩:=blk_puts [.int .i64 0,.int .i64 0,.string ⟨#[]⟩,.string ⟨#[]⟩,.slice none 0 0,.slice none 0 0] ((n - 1) * 6) W1 c1 b1 (by show _+6≤_;omega)
 have hW:Hid (W1=w.drew.setCells g (0+i * 6) news):=hW1
 have HEND:Aside0 (∃ cur':Array Value,(W1.setCells g ((n - 1) * 6) [.int .i64 0,.int .i64 0,.string ⟨#[]⟩,.string ⟨#[]⟩,.slice none 0 0,.slice none 0 0]).heap[g]? = some (.cells cur' 28 (0,0))∧cur'.size=cur.size∧cur'.toList.take ((n - 1) * 6)=cur.toList.take (i * 6)++(cur.toList.drop (j * 6)).take ((n - j) * 6)∧(∀ k,k≠g→(W1.setCells g ((n - 1) * 6) [.int .i64 0,.int .i64 0,.string ⟨#[]⟩,.string ⟨#[]⟩,.slice none 0 0,.slice none 0 0]).heap[k]? = w.heap[k]?)∧∀ (B:Nat) (W0:World),B≤g→Below B W0 w→Below B W0 (W1.setCells g ((n - 1) * 6) [.int .i64 0,.int .i64 0,.string ⟨#[]⟩,.string ⟨#[]⟩,.slice none 0 0,.slice none 0 0])):=⟨c2,d1,by
  rw [←Array.length_toList,d2,List.length_append,List.length_append,lt_,ld_,Array.length_toList,hc1]
  show min ((n - 1) * 6) cur.size+6+(cur.size - ((n - 1) * 6+6))=cur.size
  omega,by
  rw [d2,List.append_assoc,List.take_append_of_le_length (by rw [lt_,Array.length_toList];omega),List.take_take,Nat.min_self,b2,Nat.zero_add,List.take_append_of_le_length (by rw [List.length_append,lt_,Array.length_toList,hlen];omega),List.take_of_length_le (by rw [List.length_append,lt_,Array.length_toList,hlen];omega),hnews],fun k hk=>(d3 k hk).trans (b3 k hk),fun B W0 hg hb=>below_puts hg _ _ _ (by rw [hW1];exact below_puts hg _ _ _ (b1_ hb))⟩
 have hjn2:n - j+i+1=n:=by omega
 have hmix:Try.prog.follows .mixedOrders=true:=by kernel_rfl
 have hic:i≤cap:=by omega
 have hjc:j≤cap:=by omega
 have hjn:j≤n:=by omega
 have hij:i≤j:=by omega
 have hne:¬ i=j:=by omega
 have hsum:i+(n - j)=n - 1:=by omega
 have hone:n - (n - 1)=1:=by omega
 clear hj hW1 hget hnews hlen b1 b2 b3 d1 d2 d3 hc1 hb hcs h1
 go_enter Try.func54,Try.ntmps54
 go_wp2_with fail
 go_region_law_o (refine step_append_room rfl (.tmp 22) (.tmp 25) 26 rfl 28 i0 6 Try.underlying26 hi0 hz1 g 0 i cap (by simp [Act.eval,Act.put]) A (n - j) (cap - j) news (by simp [Act.eval,Act.put]) s1.out hsrc.out s2.out (by omega) s3.out ?_;rw [←hW.out,hsum])
 go_wp2
 go_ret
 exact ⟨rfl,HEND.out⟩
/-- An element of a row of trees of one's own taken out: what the cells are to be, and what is then said of the row. -/
theorem S_del {w:World} {base g n cap i:Nat} {ok:Nat→Prop} {xs:List S28} (hS:Kd.S kTN 28 w base ok (.slice (some ⟨g,0,none⟩) n cap) xs) (hi:i<n) :
 ∃ cur:Array Value,w.heap[g]? = some (.cells cur 28 (0,0))∧cur.size=cap * 6∧n≤cap∧cap≤9223372036854775807∧(∀ u∈cur.toList.take (n * 6),u.oneCell'=true)∧∀ (w':World) (cur':Array Value),w'.heap[g]? = some (.cells cur' 28 (0,0))→cur'.size=cur.size→cur'.toList.take ((n - 1) * 6)=cur.toList.take (i * 6)++(cur.toList.drop ((i+1) * 6)).take ((n - (i+1)) * 6)→(∀ k,k≠g→w'.heap[k]? = w.heap[k]?)→Kd.S kTN 28 w' base ok (.slice (some ⟨g,0,none⟩) (n - 1) cap) (xs.eraseIdx i):=by
 obtain ⟨f,h0,inner,⟨hil,hv⟩,hrl,hrp⟩:=hS
 rcases hv with ⟨hv,_⟩|⟨g',cap',cur,hv,hbase,hcell,hnc,hcm,hcs,htake⟩
 ·cases hv
 injection hv with ha hn hc
 injection ha with ha
 injection ha with ha _ _
 subst ha hc
 have hsz:(Kd.tag f kTN).sz=6:=rfl
 rw [hsz] at hil hcs htake hrl hrp
 rw [←hn] at hil hnc htake
 have hnx:n=xs.length:=by rw [hn,List.length_zipIdx]
 subst htake
 have hmax:maxLen=9223372036854775807:=rfl
 have hseg:∀ j,j<n→((cur.toList.take (n * 6)).drop (j * 6)).take 6=(cur.toList.drop (j * 6)).take 6:=by
  intro j hj
  rw [List.drop_take,List.take_take,Nat.min_eq_left (by omega)]
 refine ⟨cur,hcell,hcs,hnc,by omega,fun u hu=>?_,fun w' cur' k1 k2 k3 k4=>?_⟩
 ·obtain ⟨t,ht,rfl⟩:=List.mem_iff_getElem.1 hu
  have ht6:t<n * 6:=by have:=ht;rw [hil] at this;exact this
  have hq:t / 6<xs.length:=by omega
  have hM:=hrp (t / 6) (xs[t / 6],t / 6) (Kd.zip_at (List.getElem?_eq_getElem hq))
  refine (Kd.tag f kTN).K_one ((Kd.tag f kTN).K_of_M hM) _ ?_
  refine List.mem_of_getElem? (i:=t % 6) ?_
  rw [List.getElem?_take,if_pos (Nat.mod_lt _ (by decide)),List.getElem?_drop,show t / 6 * 6+t % 6=t by omega]
  exact List.getElem?_eq_getElem ht
 ·have hlen':(xs.eraseIdx i).length=n - 1:=by rw [List.length_eraseIdx,if_pos (by omega)];omega
  have hl3:(cur'.toList.take ((n - 1) * 6)).length=(n - 1) * 6:=by rw [lt_,Array.length_toList];omega
  refine ⟨fun k=>if f k≤i then f k else f k - 1,h0,cur'.toList.take ((n - 1) * 6),⟨?_,.inr ⟨g,cap,cur',?_,hbase,k1,?_,hcm,?_,?_⟩⟩,?_,fun j p hj=>?_⟩
  ·rw [List.length_zipIdx,hlen'];exact hl3
  ·rw [List.length_zipIdx,hlen']
  ·rw [List.length_zipIdx,hlen'];omega
  ·exact k2.trans hcs
  ·rw [List.length_zipIdx,hlen'];rfl
  ·rw [List.length_zipIdx,hlen'];exact hl3
  ·rw [List.getElem?_zipIdx] at hj
   cases hx:(xs.eraseIdx i)[j]? with
   | none=>rw [hx] at hj;cases hj
   | some x =>
    rw [hx,Nat.zero_add] at hj
    obtain rfl:=oi_ hj
    have hjn:j<n - 1:=by have:=(List.getElem?_eq_some_iff.1 hx).1;omega
    have hsrc:((cur'.toList.take ((n - 1) * 6)).drop (j * 6)).take 6=((cur.toList.take (n * 6)).drop ((if j<i then j else j+1) * 6)).take 6:=by
     rw [hseg _ (by split <;> omega),k3]
     apply List.ext_getElem?
     intro t
     rw [List.getElem?_take,List.getElem?_take]
     by_cases ht:t<6
     ·rw [if_pos ht,if_pos ht,List.getElem?_drop,List.getElem?_drop]
      by_cases hji:j<i
      ·rw [if_pos hji,List.getElem?_append_left (by rw [lt_,Array.length_toList];omega),List.getElem?_take,if_pos (by omega)]
      ·rw [if_neg hji,List.getElem?_append_right (by rw [lt_,Array.length_toList];omega),lt_,Array.length_toList,Nat.min_eq_left (by omega),List.getElem?_take,if_pos (by omega),List.getElem?_drop]
       congr 1
       omega
     ·rw [if_neg ht,if_neg ht]
    rw [show (Kd.tag (fun k=>if f k≤i then f k else f k - 1) kTN).sz=6 from rfl,hsrc]
    have hx2:xs[if j<i then j else j+1]? = some x:=by
     rw [List.getElem?_eraseIdx] at hx
     split
     ·rename_i hji;rwa [if_pos hji] at hx
     ·rename_i hji;rwa [if_neg hji] at hx
    have hM:=hrp (if j<i then j else j+1) (x,if j<i then j else j+1) (Kd.zip_at hx2)
    have hM2:kTN.M w base (fun k=>(ok k∧some k≠some g)∧f k=(if j<i then j else j+1)) x (((cur.toList.take (n * 6)).drop ((if j<i then j else j+1) * 6)).take 6):=hM
    show kTN.M w' base (fun k=>(ok k∧some k≠some g)∧(if f k≤i then f k else f k - 1)=j) x _
    refine kTN.M_move (w:=w) (fun k hk=>k4 k (fun e=>hk.1.2 (by rw [e]))) (kTN.M_mono (fun k hk=>⟨hk.1,?_⟩) hM2)
    have hk2:=hk.2
    by_cases hji:j<i
    ·rw [if_pos hji] at hk2;rw [if_pos (by omega)];exact hk2
    ·rw [if_neg hji] at hk2;rw [if_neg (by omega)];omega
/-- slices.Delete of element i of a row of trees of one's own. -/
theorem delete_tree {w:World} {base g n cap i:Nat} {ok:Nat→Prop} {xs:List S28} (hS:Kd.S kTN 28 w base ok (.slice (some ⟨g,0,none⟩) n cap) xs) (hi:i<n) :
 Calls Try.prog 54 #[.slice (some ⟨g,0,none⟩) n cap,.int .i64 i,.int .i64 ((i+1:Nat):Int)] w fun e w'=>e=.returned (.slice (some ⟨g,0,none⟩) (n - 1) cap)∧Kd.S kTN 28 w' base ok (.slice (some ⟨g,0,none⟩) (n - 1) cap) (xs.eraseIdx i)∧(∀ k,k≠g→w'.heap[k]? = w.heap[k]?)∧∀ (B:Nat) (W0:World),B≤g→Below B W0 w→Below B W0 w':=by
 obtain ⟨cur,h1,h2,h3,h4,h5,h6⟩:=S_del hS hi
 refine (delete_calls g n cap i (i+1) cur w h1 h2 h3 h4 rfl hi h5).mono fun e w' ⟨he,cur',k1,k2,k3,k4,k5⟩=>⟨he,h6 w' cur' k1 k2 k3 k4,k4,k5⟩
end Go.Proofs.Ytbeplhbkoaopgaa.PFnExactRemoveAt
