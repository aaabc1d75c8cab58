/- By a program of this session, out of the kit's print and contracts made by hand: the machine side of a law; Lean checks it. No conditions. -/
import Derived.Test.YtjhfempockbdoaaPFnExactNodeAtx0
import Derived.Test.YtjhfempockbdoaaPFnExactNodeAtx19
import Derived.Test.YtjhfempockbdoaaPFnExactNodeAtx20
namespace Go.Proofs.Ytjhfempockbdoaa.PFnExactNodeAt
open Go.RowKit Go.Proofs.YtjhfempockbdoaaW.PrintWords Go.Proofs.YtjhfempockbdoaaW.PrintLast Go.Proofs.YtjhfempockbdoaaW.PrintMore
attribute [local go_sem] max2_int min2_int max_two min_two max_three min_three max_four min_four
set_option linter.unusedVariables false
set_option linter.unusedSimpArgs false
/-! ### impl_clonedTree: function 36, by hand -/
/-- Few attributes and kids, none deeper than n. -/
def fewB:Nat→S28→Bool
 | 0,_=>false
 | n+1,x=>decide (x.f3.size≤1048576) && decide (x.f4.length≤1048576) && decide (x.f5.length≤1048576) && x.f5.all (fewB n)
theorem infoCl:(Try.prog.info? 28).map (fun i=>(i.zero,i.size,i.bytes))=some (some (.agg #[(.int .i64 0),(.int .i64 0),(.string ⟨#[]⟩),(.string ⟨#[]⟩),(.slice none 0 0),(.slice none 0 0)]),6,96):=by kernel_rfl
abbrev clonedC (n:Nat):Prop:=∀ (x:S28) (A4:Option Addr) (c4:Nat) (A5:Option Addr) (c5:Nat) (w:World),fewB n x=true→Kd.C k63 w A4 x.f4.length x.f4→Kd.C k28 w A5 x.f5.length x.f5 →
 Calls Try.prog 23 #[.agg #[.int .i64 x.f0,.int .i64 x.f1,.string x.f2,.string x.f3,.slice A4 x.f4.length c4,.slice A5 x.f5.length c5]] w fun e w'=>∃ A6 c6 A7 c7,e=.returned (.agg #[.int .i64 x.f0,.int .i64 x.f1,.string x.f2,.string x.f3,.slice A6 x.f4.length c6,.slice A7 x.f5.length c7])∧kTN.M w' w.heap.size (fun k=>w.heap.size≤k) x [.int .i64 x.f0,.int .i64 x.f1,.string x.f2,.string x.f3,.slice A6 x.f4.length c6,.slice A7 x.f5.length c7]∧Below w.heap.size w w'
abbrev clonedTreeC (n:Nat):Prop:=∀ (A0:Option Addr) (c0:Nat) (l0:List S28) (w:World),l0.all (fewB n)=true→l0.length≤1048576→Kd.C k28 w A0 l0.length l0 →
 Calls Try.prog 36 #[.slice A0 l0.length c0] w fun e w'=>∃ v,e=.returned v∧Kd.S kTN 28 w' w.heap.size (fun k=>w.heap.size≤k) v l0∧Below w.heap.size w w'
set_option maxHeartbeats 16000000 in
set_option maxRecDepth 1000000 in
theorem cloned_step (n:Nat) (ih:clonedTreeC n):clonedC (n+1):=by
 intro x A4 c4 A5 c5 w hf h4 h5
 rw [fewB,Bool.and_eq_true,Bool.and_eq_true,Bool.and_eq_true] at hf
 obtain ⟨⟨⟨n3,n4⟩,n5⟩,hall⟩:=hf
 clear n3
 have n4:=od_ n4
 have n5:=od_ n5
 have QA:Aside0 (∀ V,Below w.heap.size w V→Calls Try.prog 35 #[.slice A4 x.f4.length c4] V fun e w'=>∃ v,e=.returned v∧Kd.R k63 63 w' V.heap.size (fun _=>True) v x.f4∧Below V.heap.size V w'):=⟨fun V hV=>clone_attrs x.f4 A4 c4 V (cb_ h4 hV) n4⟩
 have QT:Aside0 (∀ V,Below w.heap.size w V→Calls Try.prog 36 #[.slice A5 x.f5.length c5] V fun e w'=>∃ v,e=.returned v∧Kd.S kTN 28 w' V.heap.size (fun k=>V.heap.size≤k) v x.f5∧Below V.heap.size V w'):=⟨fun V hV=>ih A5 c5 x.f5 V hall n5 (cb_ h5 hV)⟩
 have HB0:=A_ (ba_ (ba_ (Below.refl w.heap.size w) (.cells #[.int .i64 x.f0,.int .i64 x.f1,.string x.f2,.string x.f3,.slice A4 x.f4.length c4,.slice A5 x.f5.length c5] 28 (0,0))) (.cells #[.int .i64 0,.int .i64 0,.string ⟨#[]⟩,.string ⟨#[]⟩,.slice none 0 0,.slice none 0 0] 28 (0,0)))
 have hs2:((w.alloc (.cells #[.int .i64 x.f0,.int .i64 x.f1,.string x.f2,.string x.f3,.slice A4 x.f4.length c4,.slice A5 x.f5.length c5] 28 (0,0))).alloc (.cells #[.int .i64 0,.int .i64 0,.string ⟨#[]⟩,.string ⟨#[]⟩,.slice none 0 0,.slice none 0 0] 28 (0,0))).heap.size=w.heap.size+2:=by rw [World.size_alloc,World.size_alloc]
 have HX1:=A_ (ka_ (blk_new w (.cells #[.int .i64 x.f0,.int .i64 x.f1,.string x.f2,.string x.f3,.slice A4 x.f4.length c4,.slice A5 x.f5.length c5] 28 (0,0))) (.cells #[.int .i64 0,.int .i64 0,.string ⟨#[]⟩,.string ⟨#[]⟩,.slice none 0 0,.slice none 0 0] 28 (0,0)))
 have HX2:Aside0 (((w.alloc (.cells #[.int .i64 x.f0,.int .i64 x.f1,.string x.f2,.string x.f3,.slice A4 x.f4.length c4,.slice A5 x.f5.length c5] 28 (0,0))).alloc (.cells #[.int .i64 0,.int .i64 0,.string ⟨#[]⟩,.string ⟨#[]⟩,.slice none 0 0,.slice none 0 0] 28 (0,0))).heap[w.heap.size+1]? = some (.cells #[.int .i64 0,.int .i64 0,.string ⟨#[]⟩,.string ⟨#[]⟩,.slice none 0 0,.slice none 0 0] 28 (0,0))):=⟨by have h:=blk_new (w.alloc (.cells #[.int .i64 x.f0,.int .i64 x.f1,.string x.f2,.string x.f3,.slice A4 x.f4.length c4,.slice A5 x.f5.length c5] 28 (0,0))) (.cells #[.int .i64 0,.int .i64 0,.string ⟨#[]⟩,.string ⟨#[]⟩,.slice none 0 0,.slice none 0 0] 28 (0,0));rw [World.size_alloc] at h;exact h⟩
 have b0:((w.alloc (.cells #[.int .i64 x.f0,.int .i64 x.f1,.string x.f2,.string x.f3,.slice A4 x.f4.length c4,.slice A5 x.f5.length c5] 28 (0,0))).alloc (.cells #[.int .i64 0,.int .i64 0,.string ⟨#[]⟩,.string ⟨#[]⟩,.slice none 0 0,.slice none 0 0] 28 (0,0))).cell? ⟨w.heap.size,0,none⟩=some (.int .i64 x.f0):=(bc_ HX1.out 0).trans rfl
 have b1:((w.alloc (.cells #[.int .i64 x.f0,.int .i64 x.f1,.string x.f2,.string x.f3,.slice A4 x.f4.length c4,.slice A5 x.f5.length c5] 28 (0,0))).alloc (.cells #[.int .i64 0,.int .i64 0,.string ⟨#[]⟩,.string ⟨#[]⟩,.slice none 0 0,.slice none 0 0] 28 (0,0))).cell? ⟨w.heap.size,1,none⟩=some (.int .i64 x.f1):=(bc_ HX1.out 1).trans rfl
 have b2:((w.alloc (.cells #[.int .i64 x.f0,.int .i64 x.f1,.string x.f2,.string x.f3,.slice A4 x.f4.length c4,.slice A5 x.f5.length c5] 28 (0,0))).alloc (.cells #[.int .i64 0,.int .i64 0,.string ⟨#[]⟩,.string ⟨#[]⟩,.slice none 0 0,.slice none 0 0] 28 (0,0))).cell? ⟨w.heap.size,2,none⟩=some (.string x.f2):=(bc_ HX1.out 2).trans rfl
 have b3:((w.alloc (.cells #[.int .i64 x.f0,.int .i64 x.f1,.string x.f2,.string x.f3,.slice A4 x.f4.length c4,.slice A5 x.f5.length c5] 28 (0,0))).alloc (.cells #[.int .i64 0,.int .i64 0,.string ⟨#[]⟩,.string ⟨#[]⟩,.slice none 0 0,.slice none 0 0] 28 (0,0))).cell? ⟨w.heap.size,3,none⟩=some (.string x.f3):=(bc_ HX1.out 3).trans rfl
 have b4:((w.alloc (.cells #[.int .i64 x.f0,.int .i64 x.f1,.string x.f2,.string x.f3,.slice A4 x.f4.length c4,.slice A5 x.f5.length c5] 28 (0,0))).alloc (.cells #[.int .i64 0,.int .i64 0,.string ⟨#[]⟩,.string ⟨#[]⟩,.slice none 0 0,.slice none 0 0] 28 (0,0))).cell? ⟨w.heap.size,4,none⟩=some (.slice A4 x.f4.length c4):=(bc_ HX1.out 4).trans rfl
 have b5:((w.alloc (.cells #[.int .i64 x.f0,.int .i64 x.f1,.string x.f2,.string x.f3,.slice A4 x.f4.length c4,.slice A5 x.f5.length c5] 28 (0,0))).alloc (.cells #[.int .i64 0,.int .i64 0,.string ⟨#[]⟩,.string ⟨#[]⟩,.slice none 0 0,.slice none 0 0] 28 (0,0))).cell? ⟨w.heap.size,5,none⟩=some (.slice A5 x.f5.length c5):=(bc_ HX1.out 5).trans rfl
 clear h4 h5 n4 n5 hall ih
 go_enter Try.func23,Try.ntmps23
 go_wp2_with fail
 go_region_held3 (fun w'=>w'.cell? ⟨w.heap.size,0,none⟩=some (.int .i64 x.f0)∧w'.cell? ⟨w.heap.size,1,none⟩=some (.int .i64 x.f1)∧w'.cell? ⟨w.heap.size,2,none⟩=some (.string x.f2)∧w'.cell? ⟨w.heap.size,3,none⟩=some (.string x.f3)∧w'.cell? ⟨w.heap.size,4,none⟩=some (.slice A4 x.f4.length c4)∧w'.cell? ⟨w.heap.size,5,none⟩=some (.slice A5 x.f5.length c5)) (go_keep) (first|(go_at_call 35;(with_reducible refine (QA.out _ (b1_ HB0.out)).mono ?_);rintro e w2 ⟨v4,rfl,hr,hb0⟩;(have hb:Below ((w.alloc (.cells #[.int .i64 x.f0,.int .i64 x.f1,.string x.f2,.string x.f3,.slice A4 x.f4.length c4,.slice A5 x.f5.length c5] 28 (0,0))).alloc (.cells #[.int .i64 0,.int .i64 0,.string ⟨#[]⟩,.string ⟨#[]⟩,.slice none 0 0,.slice none 0 0] 28 (0,0))).heap.size ((w.alloc (.cells #[.int .i64 x.f0,.int .i64 x.f1,.string x.f2,.string x.f3,.slice A4 x.f4.length c4,.slice A5 x.f5.length c5] 28 (0,0))).alloc (.cells #[.int .i64 0,.int .i64 0,.string ⟨#[]⟩,.string ⟨#[]⟩,.slice none 0 0,.slice none 0 0] 28 (0,0))) w2:=(b1_ (Below.refl ((w.alloc (.cells #[.int .i64 x.f0,.int .i64 x.f1,.string x.f2,.string x.f3,.slice A4 x.f4.length c4,.slice A5 x.f5.length c5] 28 (0,0))).alloc (.cells #[.int .i64 0,.int .i64 0,.string ⟨#[]⟩,.string ⟨#[]⟩,.slice none 0 0,.slice none 0 0] 28 (0,0))).heap.size ((w.alloc (.cells #[.int .i64 x.f0,.int .i64 x.f1,.string x.f2,.string x.f3,.slice A4 x.f4.length c4,.slice A5 x.f5.length c5] 28 (0,0))).alloc (.cells #[.int .i64 0,.int .i64 0,.string ⟨#[]⟩,.string ⟨#[]⟩,.slice none 0 0,.slice none 0 0] 28 (0,0))))).trans hb0);obtain ⟨A6,c6,rfl⟩:=Kd.R_slice hr;(have HB2:=A_ (bp_ HB0.out hb));(have HR:=A_ hr);(have HSY:=A_ hb0.size);(have d0:=pc_ hb b0);(have d1:=pc_ hb b1);(have d2:=pc_ hb b2);(have d3:=pc_ hb b3);(have d4:=pc_ hb b4);(have d5:=pc_ hb b5);(have HY2:=A_ (kb_ HX2.out hb));clear hb hr)|(go_at_call 36;(with_reducible refine (QT.out _ HB2.out).mono ?_);rintro e w3 ⟨v5,rfl,hs,hb⟩;obtain ⟨A7,c7,rfl⟩:=Kd.S_slice hs;(have HB3:=A_ (bp_ HB2.out hb));(have HSZ:=A_ HB2.out.size);(have HS:=A_ hs);(have e0:=pc_ hb d0);(have e1:=pc_ hb d1);(have e2:=pc_ hb d2);(have e3:=pc_ hb d3);(have e4:=pc_ hb d4);(have e5:=pc_ hb d5);(have HR3:=A_ (Kd.R_below (Kd.R_bound HR.out) hb));(have z:=kb_ HY2.out hb);(have HZ:=A_ z);(have p0:w3.cell? ⟨w.heap.size+1,0,none⟩=some (.int .i64 0):=(bc_ z 0).trans rfl);(have f0:w3.frozen? ⟨w.heap.size+1,0,none⟩=false:=bf_ z 0);(have p1:w3.cell? ⟨w.heap.size+1,1,none⟩=some (.int .i64 0):=(bc_ z 1).trans rfl);(have f1:w3.frozen? ⟨w.heap.size+1,1,none⟩=false:=bf_ z 1);(have p2:w3.cell? ⟨w.heap.size+1,2,none⟩=some (.string ⟨#[]⟩):=(bc_ z 2).trans rfl);(have f2:w3.frozen? ⟨w.heap.size+1,2,none⟩=false:=bf_ z 2);(have p3:w3.cell? ⟨w.heap.size+1,3,none⟩=some (.string ⟨#[]⟩):=(bc_ z 3).trans rfl);(have f3:w3.frozen? ⟨w.heap.size+1,3,none⟩=false:=bf_ z 3);(have p4:w3.cell? ⟨w.heap.size+1,4,none⟩=some (.slice none 0 0):=(bc_ z 4).trans rfl);(have f4:w3.frozen? ⟨w.heap.size+1,4,none⟩=false:=bf_ z 4);(have p5:w3.cell? ⟨w.heap.size+1,5,none⟩=some (.slice none 0 0):=(bc_ z 5).trans rfl);(have f5:w3.frozen? ⟨w.heap.size+1,5,none⟩=false:=bf_ z 5);clear hb hs z))
 go_wp2
 have hsd:((w.alloc (.cells #[.int .i64 x.f0,.int .i64 x.f1,.string x.f2,.string x.f3,.slice A4 x.f4.length c4,.slice A5 x.f5.length c5] 28 (0,0))).alloc (.cells #[.int .i64 0,.int .i64 0,.string ⟨#[]⟩,.string ⟨#[]⟩,.slice none 0 0,.slice none 0 0] 28 (0,0))).drew.heap.size=w.heap.size+2:=hs2
 have hKW:Kept w3 ((((((w3.setCell ⟨w.heap.size+1,0,none⟩ (.int .i64 x.f0)).setCell ⟨w.heap.size+1,1,none⟩ (.int .i64 x.f1)).setCell ⟨w.heap.size+1,2,none⟩ (.string x.f2)).setCell ⟨w.heap.size+1,3,none⟩ (.string x.f3)).setCell ⟨w.heap.size+1,4,none⟩ (.slice A6 x.f4.length c6)).setCell ⟨w.heap.size+1,5,none⟩ (.slice A7 x.f5.length c7)) (fun k=>k=w.heap.size+1):=(Kept.setCell ((Kept.setCell ((Kept.setCell ((Kept.setCell ((Kept.setCell ((Kept.setCell (Kept.refl w3 (fun k=>k=w.heap.size+1)) (p:=⟨w.heap.size+1,0,none⟩) (.inl rfl) (.int .i64 x.f0))) (p:=⟨w.heap.size+1,1,none⟩) (.inl rfl) (.int .i64 x.f1))) (p:=⟨w.heap.size+1,2,none⟩) (.inl rfl) (.string x.f2))) (p:=⟨w.heap.size+1,3,none⟩) (.inl rfl) (.string x.f3))) (p:=⟨w.heap.size+1,4,none⟩) (.inl rfl) (.slice A6 x.f4.length c6))) (p:=⟨w.heap.size+1,5,none⟩) (.inl rfl) (.slice A7 x.f5.length c7))
 refine bodyPost_ret (results_cell_row rfl _ _ (w.heap.size+1) 28 #[.int .i64 x.f0,.int .i64 x.f1,.string x.f2,.string x.f3,.slice A6 x.f4.length c6,.slice A7 x.f5.length c7] (0,0) _ rfl (blk_put (cs:=#[.int .i64 x.f0,.int .i64 x.f1,.string x.f2,.string x.f3,.slice A6 x.f4.length c6,.slice none 0 0]) (cs':=#[.int .i64 x.f0,.int .i64 x.f1,.string x.f2,.string x.f3,.slice A6 x.f4.length c6,.slice A7 x.f5.length c7]) (blk_put (cs:=#[.int .i64 x.f0,.int .i64 x.f1,.string x.f2,.string x.f3,.slice none 0 0,.slice none 0 0]) (cs':=#[.int .i64 x.f0,.int .i64 x.f1,.string x.f2,.string x.f3,.slice A6 x.f4.length c6,.slice none 0 0]) (blk_put (cs:=#[.int .i64 x.f0,.int .i64 x.f1,.string x.f2,.string ⟨#[]⟩,.slice none 0 0,.slice none 0 0]) (cs':=#[.int .i64 x.f0,.int .i64 x.f1,.string x.f2,.string x.f3,.slice none 0 0,.slice none 0 0]) (blk_put (cs:=#[.int .i64 x.f0,.int .i64 x.f1,.string ⟨#[]⟩,.string ⟨#[]⟩,.slice none 0 0,.slice none 0 0]) (cs':=#[.int .i64 x.f0,.int .i64 x.f1,.string x.f2,.string ⟨#[]⟩,.slice none 0 0,.slice none 0 0]) (blk_put (cs:=#[.int .i64 x.f0,.int .i64 0,.string ⟨#[]⟩,.string ⟨#[]⟩,.slice none 0 0,.slice none 0 0]) (cs':=#[.int .i64 x.f0,.int .i64 x.f1,.string ⟨#[]⟩,.string ⟨#[]⟩,.slice none 0 0,.slice none 0 0]) (blk_put (cs:=#[.int .i64 0,.int .i64 0,.string ⟨#[]⟩,.string ⟨#[]⟩,.slice none 0 0,.slice none 0 0]) (cs':=#[.int .i64 x.f0,.int .i64 0,.string ⟨#[]⟩,.string ⟨#[]⟩,.slice none 0 0,.slice none 0 0]) HZ.out 0 (.int .i64 x.f0) rfl) 1 (.int .i64 x.f1) rfl) 2 (.string x.f2) rfl) 3 (.string x.f3) rfl) 4 (.slice A6 x.f4.length c6) rfl) 5 (.slice A7 x.f5.length c7) rfl) Try.underlying28 rfl (by kernel_rfl)) rfl ?_
 have h23:=HB3.out.size
 have hsz2:=HSZ.out
 refine ⟨A6,c6,A7,c7,rfl,kTN_mkM _ _ _ (fun k=>k<w2.heap.size) _ ?_ ?_,?_⟩
 ·exact Kd.R_mono (Kd.R_kept (S:=fun k=>k=w.heap.size+1) (Kd.R_lower HR3.out (by rw [hsd];omega)) hKW (fun k hk (h:k=w.heap.size+1)=>by have:=hk.2.1;rw [hsd] at this;omega)) (fun k hk=>⟨by have:=hk.2.1;rw [hsd] at this;omega,hk.2.2.1⟩)
 ·have hw2:w.heap.size+2≤w2.heap.size:=by have:=HSY.out;rw [hsd] at this;exact this
  exact Kd.S_lower (Kd.S_mono (Kd.S_kept (S:=fun k=>k=w.heap.size+1) HS.out hKW (fun k hk (h:k=w.heap.size+1)=>by omega)) (fun k hk=>⟨by omega,fun he=>by omega⟩)) HSZ.out
 ·exact (bs_ (bs_ (bs_ (bs_ (bs_ (bs_ HB3.out (by omega)) (by omega)) (by omega)) (by omega)) (by omega)) (by omega))
set_option maxHeartbeats 8000000 in
set_option maxRecDepth 1000000 in
theorem clonedTree_step (n:Nat) (ih:clonedC n):clonedTreeC n:=by
 intro A0 c0 l0 w hf hn h0
 rw [List.all_eq_true] at hf
 have HALL:=A_ hf
 have HC:=A_ h0
 have HN:=A_ hn
 have IH:=A_ ih
 have hL:l0.length≤9223372036854775807:=h0.2.1
 have HB00:=A_ (Below.refl w.heap.size w)
 clear hf h0 hn ih
 go_enter Try.func36,Try.ntmps36
 go_wp2_with ((with_reducible refine gate_dst (N:=6) rfl ?_);refine Kd.R_lit (Kd.tag (fun _=>0) kTN) (w0:=w) w.heap.size 28 ?hg (N:=6) ?hd (xs:=([]:List (S28 × Nat))) (inner:=[]) (ok:=fun k=>w.heap.size≤k) (okp:=fun _=>False) ?hr ?hp (fun _ hk=>hk.elim) (Nat.le_refl _) (Below.refl _ _) (Nat.le_refl _) (by simp) ?_;(case hd=>rfl);(case hg=>rfl);(case hr=>first|(go_simp;done)|(go_simp;rfl));(case hp=>exact (Reps.none _ _));intro v6 w1 ho hb _ _;(have HO:=A_ (Sep.S_of_tag (d:=kTN) ho));(have HB:=A_ hb);clear ho hb)
 go_loopg [3,5,9] l0.length (fun gg s3 _ s9 wr=>∃ (kk:Nat),kk≤l0.length∧l0.length - kk≤gg∧s9=.int .i64 kk∧Aside0 (Kd.S kTN 28 wr w.heap.size (fun k=>w.heap.size≤k) s3 (l0.take kk))∧Aside0 (Below w.heap.size w wr))
 case atStart=>exact ⟨0,Nat.zero_le _,by omega,rfl,HO,HB⟩
 case round =>
  obtain ⟨kk,hkk,hgg,rfl,HG,BW⟩:=hrel
  obtain ⟨A3,c3,hv3⟩:=Kd.S_slice HG.out
  rw [lt_,Nat.min_eq_left hkk] at hv3
  subst hv3
  by_cases hlt:kk<l0.length
  case pos =>
   have hltz:(kk:Int)<(l0.length:Int):=by omega
   obtain ⟨ad,cs,e,hcl,hK,hc⟩:=Kd.C_get HC.out z28 (kk:Int) (by omega) (by omega)
   rw [Int.toNat_natCast] at hK hc
   have hfy:=HALL.out _ (Kit.getD_mem z28 hlt)
   have htk:l0.take (kk+1)=l0.take kk++[l0.getD kk z28]:=by
    rw [List.getD_eq_getElem?_getD,List.getElem?_eq_getElem hlt,List.take_add_one,List.getElem?_eq_getElem hlt]
    rfl
   have HTK:=A_ htk
   clear htk
   generalize l0.getD kk z28=x at *
   obtain ⟨A4,c4,A5,c5,rfl,m4,q4,m5,q5⟩:=k28_open hK
   subst e
   have r0:wr.cell? (ad.add (kk * 6))=some (.int .i64 x.f0):=pc_ BW.out (hc 0 _ rfl)
   have r1:wr.cell? ⟨(ad.add (kk * 6)).block,(ad.add (kk * 6)).off+1,none⟩=some (.int .i64 x.f1):=pc_ BW.out ((by rw [←add_field _ _ 1 (by omega)];exact hc 1 _ rfl))
   have r2:wr.cell? ⟨(ad.add (kk * 6)).block,(ad.add (kk * 6)).off+2,none⟩=some (.string x.f2):=pc_ BW.out ((by rw [←add_field _ _ 2 (by omega)];exact hc 2 _ rfl))
   have r3:wr.cell? ⟨(ad.add (kk * 6)).block,(ad.add (kk * 6)).off+3,none⟩=some (.string x.f3):=pc_ BW.out ((by rw [←add_field _ _ 3 (by omega)];exact hc 3 _ rfl))
   have r4:wr.cell? ⟨(ad.add (kk * 6)).block,(ad.add (kk * 6)).off+4,none⟩=some (.slice A4 x.f4.length c4):=pc_ BW.out ((by rw [←add_field _ _ 4 (by omega)];exact hc 4 _ rfl))
   have r5:wr.cell? ⟨(ad.add (kk * 6)).block,(ad.add (kk * 6)).off+5,none⟩=some (.slice A5 x.f5.length c5):=pc_ BW.out ((by rw [←add_field _ _ 5 (by omega)];exact hc 5 _ rfl))
   have QN:=A_ (IH.out x A4 c4 A5 c5 (wr.alloc (.cells #[.int .i64 x.f0,.int .i64 x.f1,.string x.f2,.string x.f3,.slice A4 x.f4.length c4,.slice A5 x.f5.length c5] 28 (0,0))) hfy (cb_ (cb_ q4 BW.out) (ba_ (Below.refl _ _) _)) (cb_ (cb_ q5 BW.out) (ba_ (Below.refl _ _) _)))
   have hszr:(wr.alloc (.cells #[.int .i64 x.f0,.int .i64 x.f1,.string x.f2,.string x.f3,.slice A4 x.f4.length c4,.slice A5 x.f5.length c5] 28 (0,0))).heap.size=wr.heap.size+1:=by rw [World.size_alloc]
   have HSR:=A_ hszr
   have BW1:=A_ (ba_ BW.out (.cells #[.int .i64 x.f0,.int .i64 x.f1,.string x.f2,.string x.f3,.slice A4 x.f4.length c4,.slice A5 x.f5.length c5] 28 (0,0)))
   have BR1:=A_ (ba_ (Below.refl wr.heap.size wr) (.cells #[.int .i64 x.f0,.int .i64 x.f1,.string x.f2,.string x.f3,.slice A4 x.f4.length c4,.slice A5 x.f5.length c5] 28 (0,0)))
   have HLT:=A_ hlt
   clear hc hK hcl m4 q4 m5 q5 hfy hszr hlt
   go_wp2_with (first|(go_at_call 23;(with_reducible refine QN.out.mono ?_);rintro e w2 ⟨A6,c6,A7,c7,rfl,hm,hb⟩;(have HM:=A_ hm);(have HB2:=A_ (bp_ BW1.out hb));(have HR2:=A_ (bp_ BR1.out hb));clear hm hb)|((with_reducible refine gate_builtin (b:=.append) (xs:=#[.tmp 13,.tmp 16]) rfl ?_);at_builtin;refine Sep.S_append kTN (w0:=w) w.heap.size rfl (.tmp 13) (.tmp 16) 26 28 (.agg #[(.int .i64 0),(.int .i64 0),(.string ⟨#[]⟩),(.string ⟨#[]⟩),(.slice none 0 0),(.slice none 0 0)]) 96 rfl Try.underlying26 infoCl rfl (by decide) (by omega) (.slice A3 kk c3) (l0.take kk) x [.int .i64 x.f0,.int .i64 x.f1,.string x.f2,.string x.f3,.slice A6 x.f4.length c6,.slice A7 x.f5.length c7] (fun k=>w.heap.size≤k) (fun k=>wr.heap.size+1≤k) rfl ?hx ?aP ?aK ?aF ?aO ?aB ?aS ?aL ?_;(case hx=>first|rfl|(go_simp;done)|(simp;done)|(go_simp;rfl));(case aP=>exact kTN.M_mono (fun k hk=>by (have:=HSR.out);omega) (kTN.M_lower BW1.out.size HM.out));(case aK=>exact (fun k hk=>by (have:=BW.out.size);omega));(case aF=>exact (fun k hk=>Nat.le_trans HB2.out.size hk));(case aO=>exact Kd.S_below (Kd.S_mono (Kd.S_bound HG.out) (fun k hk=>⟨hk.1,by (have:=hk.2.2.1);omega⟩)) HR2.out);(case aB=>exact HB2.out);(case aS=>exact HB2.out.size);(case aL=>rw [lt_];(have:=HN.out);omega);intro v9 w9 ho hb _ _;rw [←HTK.out] at ho;(have HO9:=A_ ho);(have HB9:=A_ hb);clear ho hb))
   go_roundg (l0.length - (kk+1))
   case measure=>have:=HLT.out;omega
   case rel=>exact ⟨kk+1,by have:=HLT.out;omega,by omega,by go_num,HO9,HB9⟩
  case neg =>
   have hltz:¬ (kk:Int)<(l0.length:Int):=by omega
   have HE:Aside0 (l0.take kk=l0):=⟨List.take_of_length_le (by omega)⟩
   go_wp2
   go_ret
   exact ⟨_,rfl,by rw [HE.out] at HG;exact HG.out,BW.out⟩
theorem cloned_both:∀ n,clonedC n∧clonedTreeC n
 | 0=>⟨fun x A4 c4 A5 c5 w hf=>(by cases hf),clonedTree_step 0 (fun x A4 c4 A5 c5 w hf=>(by cases hf))⟩
 | n+1=>⟨cloned_step n (cloned_both n).2,clonedTree_step (n+1) (cloned_step n (cloned_both n).2)⟩
/-! ### impl_NodeAt: function 8, by hand -/
def impl_NodeAt.f (x0:List S28) (path:List Int):Option (S28 × Int) :=
 if 4096<path.length then some (z28,2) else (impl_fault.f x0).bind fun c=>if c=0 then (if x0.all (fewB 10)=true then (match atPath x0 path with
  | none=>some (z28,16)
  | some x=>some (x,0)) else none) else some (z28,c)
theorem few_at (path:List Int):∀ (n:Nat) (xs:List S28) (x:S28),xs.all (fewB n)=true→atPath xs path=some x→∃ m,fewB m x=true:=by
 induction path with
 | nil=>intro n xs x _ h;rw [atPath] at h;cases h
 | cons i ps ih =>
  intro n xs x hd h
  cases ps with
  | nil =>
   rw [atPath] at h
   obtain ⟨hb,h⟩:=Option.ite_none_right_eq_some.mp h
   obtain rfl:=oi_ h
   exact ⟨n,(List.all_eq_true.1 hd) _ (by rw [List.getD_eq_getElem?_getD,List.getElem?_eq_getElem (show i.toNat<xs.length by omega)];exact List.getElem_mem _)⟩
  | cons j ps =>
   rw [atPath] at h
   obtain ⟨hb,h⟩:=Option.ite_none_right_eq_some.mp h
   have hx:=(List.all_eq_true.1 hd) (xs.getD i.toNat z28) (by rw [List.getD_eq_getElem?_getD,List.getElem?_eq_getElem (show i.toNat<xs.length by omega)];exact List.getElem_mem _)
   cases n with
   | zero=>cases hx
   | succ m =>
    rw [fewB,Bool.and_eq_true] at hx
    exact ih m _ x hx.2 h
set_option maxHeartbeats 16000000 in
set_option maxRecDepth 1000000 in
theorem impl_NodeAt.calls (A0:Option Addr) (c0:Nat) (x0:List S28) (A1:Option Addr) (c1:Nat) (path:List Int) (r1:S28) (r2:Int) (base:Nat) (ok:Nat→Prop) (w:World) (hS:Kd.S kTN 28 w base ok (.slice A0 x0.length c0) x0) (hr1:Kd.C (Kd.int .i64) w A1 path.length path) (hc1:path.length≤c1) (h:impl_NodeAt.f x0 path=some (r1,r2)) :
 Calls Try.prog 8 #[.slice A0 x0.length c0,.slice A1 path.length c1] w fun e w'=>∃ A4 c4 A5 c5,e=.returned (.tuple #[.agg #[.int .i64 r1.f0,.int .i64 r1.f1,.string r1.f2,.string r1.f3,.slice A4 r1.f4.length c4,.slice A5 r1.f5.length c5],.int .i64 r2])∧kTN.M w' w.heap.size (fun _=>True) r1 [.int .i64 r1.f0,.int .i64 r1.f1,.string r1.f2,.string r1.f3,.slice A4 r1.f4.length c4,.slice A5 r1.f5.length c5]∧Below w.heap.size w w':=by
 unfold impl_NodeAt.f at h
 have HBA:=A_ (ba_ (Below.refl w.heap.size w) (.cells #[.int .i64 0,.int .i64 0,.string ⟨#[]⟩,.string ⟨#[]⟩,.slice none 0 0,.slice none 0 0] 28 (0,0)))
 have hS0:=Kd.S_mono (Kd.S_bound hS) (ok':=fun k=>k<w.heap.size) (fun k hk=>hk.2.2.1)
 by_cases h4:4096<path.length
 ·rw [if_pos h4] at h
  obtain ⟨rfl,rfl⟩:=Prod.mk.inj (oi_ h)
  have z1:decide ((path.length:Int)>4096)=true:=dt_ (by omega)
  clear h h4 hS hS0 hr1 hc1
  generalize x0.length=n0 at *
  generalize path.length=n1 at *
  go_enter Try.func8,Try.ntmps8
  go_wp2
  refine bodyPost_ret (results_ct rfl _ _ w.heap.size 28 #[.int .i64 0,.int .i64 0,.string ⟨#[]⟩,.string ⟨#[]⟩,.slice none 0 0,.slice none 0 0] (0,0) _ rfl (blk_new w (.cells #[.int .i64 0,.int .i64 0,.string ⟨#[]⟩,.string ⟨#[]⟩,.slice none 0 0,.slice none 0 0] 28 (0,0))) Try.underlying28 rfl (by kernel_rfl)) rfl ?_
  exact ⟨none,0,none,0,rfl,kTN_mkM _ _ _ (fun _=>True) z28 (Kd.R_nil _ _ _ _ _) (Kd.S_nil _ _ _ _ _),HBA.out⟩
 rw [if_neg h4] at h
 have z1:decide ((path.length:Int)>4096)=false:=df_ (by omega)
 obtain ⟨cd,hcd,h⟩:=ob_ h
 have QF:Aside0 (∀ V,Below w.heap.size w V→Calls Try.prog 21 #[.slice A0 x0.length c0] V fun e w'=>e=.returned (.int .i64 cd)∧Below V.heap.size V w'):=⟨fun V hV=>impl_fault.calls A0 c0 x0 cd V (cb_ (S_readsT hS).2.2 hV) (S_readsT hS).2.1 hcd⟩
 have QE:Aside0 (∀ V,Below w.heap.size w V→Calls Try.prog 22 #[.slice A0 x0.length c0,.slice A1 path.length c1] V fun e w'=>∃ r,e=.returned r∧findRes V base (fun k=>k<w.heap.size) (.slice A0 x0.length c0) x0 path r (atPath x0 path)∧Below V.heap.size V w'):=⟨fun V hV=>find_calls A0 c0 x0 A1 c1 path base _ V (Kd.S_below hS0 hV) (cb_ hr1 hV)⟩
 clear hS hS0 hr1 hc1 hcd
 by_cases hz:cd=0
 case neg =>
  rw [if_neg hz] at h
  obtain ⟨rfl,rfl⟩:=Prod.mk.inj (oi_ h)
  have hz1:(cd == 0)=false:=by simpa using hz
  have hz2:(cd != 0)=true:=by simpa using hz
  clear h h4
  generalize x0.length=n0 at *
  generalize path.length=n1 at *
  go_enter Try.func8,Try.ntmps8
  go_wp2_with (first|(go_at_call 21;(with_reducible refine (QF.out _ HBA.out).mono ?_);rintro e w1 ⟨rfl,hb⟩;(have HB1:=A_ (bp_ HBA.out hb));(have HX1:=A_ (kb_ (blk_new w (.cells #[.int .i64 0,.int .i64 0,.string ⟨#[]⟩,.string ⟨#[]⟩,.slice none 0 0,.slice none 0 0] 28 (0,0))) hb));(have b0:w1.cell? ⟨w.heap.size,0,none⟩=some (.int .i64 0):=(bc_ HX1.out 0).trans rfl);(have bf0:w1.frozen? ⟨w.heap.size,0,none⟩=false:=bf_ HX1.out 0);(have b1:w1.cell? ⟨w.heap.size,1,none⟩=some (.int .i64 0):=(bc_ HX1.out 1).trans rfl);(have bf1:w1.frozen? ⟨w.heap.size,1,none⟩=false:=bf_ HX1.out 1);(have b2:w1.cell? ⟨w.heap.size,2,none⟩=some (.string ⟨#[]⟩):=(bc_ HX1.out 2).trans rfl);(have bf2:w1.frozen? ⟨w.heap.size,2,none⟩=false:=bf_ HX1.out 2);(have b3:w1.cell? ⟨w.heap.size,3,none⟩=some (.string ⟨#[]⟩):=(bc_ HX1.out 3).trans rfl);(have bf3:w1.frozen? ⟨w.heap.size,3,none⟩=false:=bf_ HX1.out 3);(have b4:w1.cell? ⟨w.heap.size,4,none⟩=some (.slice none 0 0):=(bc_ HX1.out 4).trans rfl);(have bf4:w1.frozen? ⟨w.heap.size,4,none⟩=false:=bf_ HX1.out 4);(have b5:w1.cell? ⟨w.heap.size,5,none⟩=some (.slice none 0 0):=(bc_ HX1.out 5).trans rfl);(have bf5:w1.frozen? ⟨w.heap.size,5,none⟩=false:=bf_ HX1.out 5);clear hb))
  refine bodyPost_ret (results_ct rfl _ _ w.heap.size 28 #[.int .i64 0,.int .i64 0,.string ⟨#[]⟩,.string ⟨#[]⟩,.slice none 0 0,.slice none 0 0] (0,0) _ rfl (blk_put (cs:=#[.int .i64 0,.int .i64 0,.string ⟨#[]⟩,.string ⟨#[]⟩,.slice none 0 0,.slice none 0 0]) (cs':=#[.int .i64 0,.int .i64 0,.string ⟨#[]⟩,.string ⟨#[]⟩,.slice none 0 0,.slice none 0 0]) (blk_put (cs:=#[.int .i64 0,.int .i64 0,.string ⟨#[]⟩,.string ⟨#[]⟩,.slice none 0 0,.slice none 0 0]) (cs':=#[.int .i64 0,.int .i64 0,.string ⟨#[]⟩,.string ⟨#[]⟩,.slice none 0 0,.slice none 0 0]) (blk_put (cs:=#[.int .i64 0,.int .i64 0,.string ⟨#[]⟩,.string ⟨#[]⟩,.slice none 0 0,.slice none 0 0]) (cs':=#[.int .i64 0,.int .i64 0,.string ⟨#[]⟩,.string ⟨#[]⟩,.slice none 0 0,.slice none 0 0]) (blk_put (cs:=#[.int .i64 0,.int .i64 0,.string ⟨#[]⟩,.string ⟨#[]⟩,.slice none 0 0,.slice none 0 0]) (cs':=#[.int .i64 0,.int .i64 0,.string ⟨#[]⟩,.string ⟨#[]⟩,.slice none 0 0,.slice none 0 0]) (blk_put (cs:=#[.int .i64 0,.int .i64 0,.string ⟨#[]⟩,.string ⟨#[]⟩,.slice none 0 0,.slice none 0 0]) (cs':=#[.int .i64 0,.int .i64 0,.string ⟨#[]⟩,.string ⟨#[]⟩,.slice none 0 0,.slice none 0 0]) (blk_put (cs:=#[.int .i64 0,.int .i64 0,.string ⟨#[]⟩,.string ⟨#[]⟩,.slice none 0 0,.slice none 0 0]) (cs':=#[.int .i64 0,.int .i64 0,.string ⟨#[]⟩,.string ⟨#[]⟩,.slice none 0 0,.slice none 0 0]) HX1.out 0 (.int .i64 0) rfl) 1 (.int .i64 0) rfl) 2 (.string ⟨#[]⟩) rfl) 3 (.string ⟨#[]⟩) rfl) 4 (.slice none 0 0) rfl) 5 (.slice none 0 0) rfl) Try.underlying28 rfl (by kernel_rfl)) rfl ?_
  exact ⟨none,0,none,0,rfl,kTN_mkM _ _ _ (fun _=>True) z28 (Kd.R_nil _ _ _ _ _) (Kd.S_nil _ _ _ _ _),(bs_ (bs_ (bs_ (bs_ (bs_ (bs_ HB1.out (Nat.le_refl _)) (Nat.le_refl _)) (Nat.le_refl _)) (Nat.le_refl _)) (Nat.le_refl _)) (Nat.le_refl _))⟩
 subst hz
 rw [if_pos rfl] at h
 obtain ⟨hd,h⟩:=Option.ite_none_right_eq_some.mp h
 generalize hR:atPath x0 path=R at *
 cases R with
 | none =>
  obtain ⟨rfl,rfl⟩:=Prod.mk.inj (oi_ h)
  clear h h4 hd
  generalize x0.length=n0 at *
  generalize path.length=n1 at *
  go_enter Try.func8,Try.ntmps8
  go_wp2_with (first|(go_at_call 21;(with_reducible refine (QF.out _ HBA.out).mono ?_);rintro e w1 ⟨rfl,hb⟩;(have HB1:=A_ (bp_ HBA.out hb));(have HX1:=A_ (kb_ (blk_new w (.cells #[.int .i64 0,.int .i64 0,.string ⟨#[]⟩,.string ⟨#[]⟩,.slice none 0 0,.slice none 0 0] 28 (0,0))) hb));(have b0:w1.cell? ⟨w.heap.size,0,none⟩=some (.int .i64 0):=(bc_ HX1.out 0).trans rfl);(have bf0:w1.frozen? ⟨w.heap.size,0,none⟩=false:=bf_ HX1.out 0);(have b1:w1.cell? ⟨w.heap.size,1,none⟩=some (.int .i64 0):=(bc_ HX1.out 1).trans rfl);(have bf1:w1.frozen? ⟨w.heap.size,1,none⟩=false:=bf_ HX1.out 1);(have b2:w1.cell? ⟨w.heap.size,2,none⟩=some (.string ⟨#[]⟩):=(bc_ HX1.out 2).trans rfl);(have bf2:w1.frozen? ⟨w.heap.size,2,none⟩=false:=bf_ HX1.out 2);(have b3:w1.cell? ⟨w.heap.size,3,none⟩=some (.string ⟨#[]⟩):=(bc_ HX1.out 3).trans rfl);(have bf3:w1.frozen? ⟨w.heap.size,3,none⟩=false:=bf_ HX1.out 3);(have b4:w1.cell? ⟨w.heap.size,4,none⟩=some (.slice none 0 0):=(bc_ HX1.out 4).trans rfl);(have bf4:w1.frozen? ⟨w.heap.size,4,none⟩=false:=bf_ HX1.out 4);(have b5:w1.cell? ⟨w.heap.size,5,none⟩=some (.slice none 0 0):=(bc_ HX1.out 5).trans rfl);(have bf5:w1.frozen? ⟨w.heap.size,5,none⟩=false:=bf_ HX1.out 5);clear hb)|(go_at_call 22;(with_reducible refine (QE.out _ HB1.out).mono ?_);rintro e w2 ⟨r,rfl,rfl,hb⟩;(have HB2:=A_ (bp_ HB1.out hb));(have HX2:=A_ (kb_ HX1.out hb));(have d0:w2.cell? ⟨w.heap.size,0,none⟩=some (.int .i64 0):=(bc_ HX2.out 0).trans rfl);(have df0:w2.frozen? ⟨w.heap.size,0,none⟩=false:=bf_ HX2.out 0);(have d1:w2.cell? ⟨w.heap.size,1,none⟩=some (.int .i64 0):=(bc_ HX2.out 1).trans rfl);(have df1:w2.frozen? ⟨w.heap.size,1,none⟩=false:=bf_ HX2.out 1);(have d2:w2.cell? ⟨w.heap.size,2,none⟩=some (.string ⟨#[]⟩):=(bc_ HX2.out 2).trans rfl);(have df2:w2.frozen? ⟨w.heap.size,2,none⟩=false:=bf_ HX2.out 2);(have d3:w2.cell? ⟨w.heap.size,3,none⟩=some (.string ⟨#[]⟩):=(bc_ HX2.out 3).trans rfl);(have df3:w2.frozen? ⟨w.heap.size,3,none⟩=false:=bf_ HX2.out 3);(have d4:w2.cell? ⟨w.heap.size,4,none⟩=some (.slice none 0 0):=(bc_ HX2.out 4).trans rfl);(have df4:w2.frozen? ⟨w.heap.size,4,none⟩=false:=bf_ HX2.out 4);(have d5:w2.cell? ⟨w.heap.size,5,none⟩=some (.slice none 0 0):=(bc_ HX2.out 5).trans rfl);(have df5:w2.frozen? ⟨w.heap.size,5,none⟩=false:=bf_ HX2.out 5);clear hb b0 bf0 b1 bf1 b2 bf2 b3 bf3 b4 bf4 b5 bf5))
  refine bodyPost_ret (results_ct rfl _ _ w.heap.size 28 #[.int .i64 0,.int .i64 0,.string ⟨#[]⟩,.string ⟨#[]⟩,.slice none 0 0,.slice none 0 0] (0,0) _ rfl (blk_put (cs:=#[.int .i64 0,.int .i64 0,.string ⟨#[]⟩,.string ⟨#[]⟩,.slice none 0 0,.slice none 0 0]) (cs':=#[.int .i64 0,.int .i64 0,.string ⟨#[]⟩,.string ⟨#[]⟩,.slice none 0 0,.slice none 0 0]) (blk_put (cs:=#[.int .i64 0,.int .i64 0,.string ⟨#[]⟩,.string ⟨#[]⟩,.slice none 0 0,.slice none 0 0]) (cs':=#[.int .i64 0,.int .i64 0,.string ⟨#[]⟩,.string ⟨#[]⟩,.slice none 0 0,.slice none 0 0]) (blk_put (cs:=#[.int .i64 0,.int .i64 0,.string ⟨#[]⟩,.string ⟨#[]⟩,.slice none 0 0,.slice none 0 0]) (cs':=#[.int .i64 0,.int .i64 0,.string ⟨#[]⟩,.string ⟨#[]⟩,.slice none 0 0,.slice none 0 0]) (blk_put (cs:=#[.int .i64 0,.int .i64 0,.string ⟨#[]⟩,.string ⟨#[]⟩,.slice none 0 0,.slice none 0 0]) (cs':=#[.int .i64 0,.int .i64 0,.string ⟨#[]⟩,.string ⟨#[]⟩,.slice none 0 0,.slice none 0 0]) (blk_put (cs:=#[.int .i64 0,.int .i64 0,.string ⟨#[]⟩,.string ⟨#[]⟩,.slice none 0 0,.slice none 0 0]) (cs':=#[.int .i64 0,.int .i64 0,.string ⟨#[]⟩,.string ⟨#[]⟩,.slice none 0 0,.slice none 0 0]) (blk_put (cs:=#[.int .i64 0,.int .i64 0,.string ⟨#[]⟩,.string ⟨#[]⟩,.slice none 0 0,.slice none 0 0]) (cs':=#[.int .i64 0,.int .i64 0,.string ⟨#[]⟩,.string ⟨#[]⟩,.slice none 0 0,.slice none 0 0]) HX2.out 0 (.int .i64 0) rfl) 1 (.int .i64 0) rfl) 2 (.string ⟨#[]⟩) rfl) 3 (.string ⟨#[]⟩) rfl) 4 (.slice none 0 0) rfl) 5 (.slice none 0 0) rfl) Try.underlying28 rfl (by kernel_rfl)) rfl ?_
  exact ⟨none,0,none,0,rfl,kTN_mkM _ _ _ (fun _=>True) z28 (Kd.R_nil _ _ _ _ _) (Kd.S_nil _ _ _ _ _),(bs_ (bs_ (bs_ (bs_ (bs_ (bs_ HB2.out (Nat.le_refl _)) (Nat.le_refl _)) (Nat.le_refl _)) (Nat.le_refl _)) (Nat.le_refl _)) (Nat.le_refl _))⟩
 | some x =>
  obtain ⟨rfl,rfl⟩:=Prod.mk.inj (oi_ h)
  obtain ⟨m,hfew⟩:=few_at path 10 x0 x hd hR
  have QC:Aside0 (∀ V A4 c4 A5 c5,Kd.C k63 V A4 x.f4.length x.f4→Kd.C k28 V A5 x.f5.length x.f5→Calls Try.prog 23 #[.agg #[.int .i64 x.f0,.int .i64 x.f1,.string x.f2,.string x.f3,.slice A4 x.f4.length c4,.slice A5 x.f5.length c5]] V fun e w'=>∃ A6 c6 A7 c7,e=.returned (.agg #[.int .i64 x.f0,.int .i64 x.f1,.string x.f2,.string x.f3,.slice A6 x.f4.length c6,.slice A7 x.f5.length c7])∧kTN.M w' V.heap.size (fun k=>V.heap.size≤k) x [.int .i64 x.f0,.int .i64 x.f1,.string x.f2,.string x.f3,.slice A6 x.f4.length c6,.slice A7 x.f5.length c7]∧Below V.heap.size V w'):=⟨fun V A4 c4 A5 c5 g4 g5=>(cloned_both m).1 x A4 c4 A5 c5 V hfew g4 g5⟩
  clear h h4 hd hR hfew
  generalize path.length=n1 at *
  go_enter Try.func8,Try.ntmps8
  go_wp2_with (first|(go_at_call 21;(with_reducible refine (QF.out _ HBA.out).mono ?_);rintro e w1 ⟨rfl,hb⟩;(have HB1:=A_ (bp_ HBA.out hb));(have HX1:=A_ (kb_ (blk_new w (.cells #[.int .i64 0,.int .i64 0,.string ⟨#[]⟩,.string ⟨#[]⟩,.slice none 0 0,.slice none 0 0] 28 (0,0))) hb));(have b0:w1.cell? ⟨w.heap.size,0,none⟩=some (.int .i64 0):=(bc_ HX1.out 0).trans rfl);(have bf0:w1.frozen? ⟨w.heap.size,0,none⟩=false:=bf_ HX1.out 0);(have b1:w1.cell? ⟨w.heap.size,1,none⟩=some (.int .i64 0):=(bc_ HX1.out 1).trans rfl);(have bf1:w1.frozen? ⟨w.heap.size,1,none⟩=false:=bf_ HX1.out 1);(have b2:w1.cell? ⟨w.heap.size,2,none⟩=some (.string ⟨#[]⟩):=(bc_ HX1.out 2).trans rfl);(have bf2:w1.frozen? ⟨w.heap.size,2,none⟩=false:=bf_ HX1.out 2);(have b3:w1.cell? ⟨w.heap.size,3,none⟩=some (.string ⟨#[]⟩):=(bc_ HX1.out 3).trans rfl);(have bf3:w1.frozen? ⟨w.heap.size,3,none⟩=false:=bf_ HX1.out 3);(have b4:w1.cell? ⟨w.heap.size,4,none⟩=some (.slice none 0 0):=(bc_ HX1.out 4).trans rfl);(have bf4:w1.frozen? ⟨w.heap.size,4,none⟩=false:=bf_ HX1.out 4);(have b5:w1.cell? ⟨w.heap.size,5,none⟩=some (.slice none 0 0):=(bc_ HX1.out 5).trans rfl);(have bf5:w1.frozen? ⟨w.heap.size,5,none⟩=false:=bf_ HX1.out 5);clear hb)|(go_at_call 22;(with_reducible refine (QE.out _ HB1.out).mono ?_);rintro e w2 ⟨r,rfl,hel,hb⟩;obtain ⟨p,rfl,hf⟩:=hel;obtain ⟨g,i,B4,d4,B5,d5,rfl,u0,u1,u2,u3,u4,u5,_,_,hgl,k4,n4,k5,n5,_,_⟩:=focCells hf hb;(have HK4:=A_ k4);(have HK5:=A_ k5);clear hf k4 k5 n4 n5;(have HB2:=A_ (bp_ HB1.out hb));(have HX2:=A_ (kb_ HX1.out hb));(have d0:w2.cell? ⟨w.heap.size,0,none⟩=some (.int .i64 0):=(bc_ HX2.out 0).trans rfl);(have df0:w2.frozen? ⟨w.heap.size,0,none⟩=false:=bf_ HX2.out 0);(have d1:w2.cell? ⟨w.heap.size,1,none⟩=some (.int .i64 0):=(bc_ HX2.out 1).trans rfl);(have df1:w2.frozen? ⟨w.heap.size,1,none⟩=false:=bf_ HX2.out 1);(have d2:w2.cell? ⟨w.heap.size,2,none⟩=some (.string ⟨#[]⟩):=(bc_ HX2.out 2).trans rfl);(have df2:w2.frozen? ⟨w.heap.size,2,none⟩=false:=bf_ HX2.out 2);(have d3:w2.cell? ⟨w.heap.size,3,none⟩=some (.string ⟨#[]⟩):=(bc_ HX2.out 3).trans rfl);(have df3:w2.frozen? ⟨w.heap.size,3,none⟩=false:=bf_ HX2.out 3);(have d4:w2.cell? ⟨w.heap.size,4,none⟩=some (.slice none 0 0):=(bc_ HX2.out 4).trans rfl);(have df4:w2.frozen? ⟨w.heap.size,4,none⟩=false:=bf_ HX2.out 4);(have d5:w2.cell? ⟨w.heap.size,5,none⟩=some (.slice none 0 0):=(bc_ HX2.out 5).trans rfl);(have df5:w2.frozen? ⟨w.heap.size,5,none⟩=false:=bf_ HX2.out 5);clear hb b0 bf0 b1 bf1 b2 bf2 b3 bf3 b4 bf4 b5 bf5)|(go_at_call 23;(with_reducible refine (QC.out _ _ _ _ _ HK4.out HK5.out).mono ?_);rintro e w3 ⟨A6,c6,A7,c7,rfl,hM,hb⟩;(have HB3:=A_ (bp_ HB2.out hb));(have HX3:=A_ (kb_ HX2.out hb));(have HM3:=A_ hM);(have HZ:=A_ HX2.out);(have g0:w3.cell? ⟨w.heap.size,0,none⟩=some (.int .i64 0):=(bc_ HX3.out 0).trans rfl);(have gf0:w3.frozen? ⟨w.heap.size,0,none⟩=false:=bf_ HX3.out 0);(have g1:w3.cell? ⟨w.heap.size,1,none⟩=some (.int .i64 0):=(bc_ HX3.out 1).trans rfl);(have gf1:w3.frozen? ⟨w.heap.size,1,none⟩=false:=bf_ HX3.out 1);(have g2:w3.cell? ⟨w.heap.size,2,none⟩=some (.string ⟨#[]⟩):=(bc_ HX3.out 2).trans rfl);(have gf2:w3.frozen? ⟨w.heap.size,2,none⟩=false:=bf_ HX3.out 2);(have g3:w3.cell? ⟨w.heap.size,3,none⟩=some (.string ⟨#[]⟩):=(bc_ HX3.out 3).trans rfl);(have gf3:w3.frozen? ⟨w.heap.size,3,none⟩=false:=bf_ HX3.out 3);(have g4:w3.cell? ⟨w.heap.size,4,none⟩=some (.slice none 0 0):=(bc_ HX3.out 4).trans rfl);(have gf4:w3.frozen? ⟨w.heap.size,4,none⟩=false:=bf_ HX3.out 4);(have g5:w3.cell? ⟨w.heap.size,5,none⟩=some (.slice none 0 0):=(bc_ HX3.out 5).trans rfl);(have gf5:w3.frozen? ⟨w.heap.size,5,none⟩=false:=bf_ HX3.out 5);clear hb hM d0 df0 d1 df1 d2 df2 d3 df3 d4 df4 d5 df5))
  refine bodyPost_ret (results_ct rfl _ _ w.heap.size 28 #[.int .i64 x.f0,.int .i64 x.f1,.string x.f2,.string x.f3,.slice A6 x.f4.length c6,.slice A7 x.f5.length c7] (0,0) _ rfl (blk_put (cs:=#[.int .i64 x.f0,.int .i64 x.f1,.string x.f2,.string x.f3,.slice A6 x.f4.length c6,.slice none 0 0]) (cs':=#[.int .i64 x.f0,.int .i64 x.f1,.string x.f2,.string x.f3,.slice A6 x.f4.length c6,.slice A7 x.f5.length c7]) (blk_put (cs:=#[.int .i64 x.f0,.int .i64 x.f1,.string x.f2,.string x.f3,.slice none 0 0,.slice none 0 0]) (cs':=#[.int .i64 x.f0,.int .i64 x.f1,.string x.f2,.string x.f3,.slice A6 x.f4.length c6,.slice none 0 0]) (blk_put (cs:=#[.int .i64 x.f0,.int .i64 x.f1,.string x.f2,.string ⟨#[]⟩,.slice none 0 0,.slice none 0 0]) (cs':=#[.int .i64 x.f0,.int .i64 x.f1,.string x.f2,.string x.f3,.slice none 0 0,.slice none 0 0]) (blk_put (cs:=#[.int .i64 x.f0,.int .i64 x.f1,.string ⟨#[]⟩,.string ⟨#[]⟩,.slice none 0 0,.slice none 0 0]) (cs':=#[.int .i64 x.f0,.int .i64 x.f1,.string x.f2,.string ⟨#[]⟩,.slice none 0 0,.slice none 0 0]) (blk_put (cs:=#[.int .i64 x.f0,.int .i64 0,.string ⟨#[]⟩,.string ⟨#[]⟩,.slice none 0 0,.slice none 0 0]) (cs':=#[.int .i64 x.f0,.int .i64 x.f1,.string ⟨#[]⟩,.string ⟨#[]⟩,.slice none 0 0,.slice none 0 0]) (blk_put (cs:=#[.int .i64 0,.int .i64 0,.string ⟨#[]⟩,.string ⟨#[]⟩,.slice none 0 0,.slice none 0 0]) (cs':=#[.int .i64 x.f0,.int .i64 0,.string ⟨#[]⟩,.string ⟨#[]⟩,.slice none 0 0,.slice none 0 0]) HX3.out 0 (.int .i64 x.f0) rfl) 1 (.int .i64 x.f1) rfl) 2 (.string x.f2) rfl) 3 (.string x.f3) rfl) 4 (.slice A6 x.f4.length c6) rfl) 5 (.slice A7 x.f5.length c7) rfl) Try.underlying28 rfl (by kernel_rfl)) rfl ?_
  have hlt:=blk_lt HZ.out
  refine ⟨A6,c6,A7,c7,rfl,?_,(bs_ (bs_ (bs_ (bs_ (bs_ (bs_ HB3.out (Nat.le_refl _)) (Nat.le_refl _)) (Nat.le_refl _)) (Nat.le_refl _)) (Nat.le_refl _)) (Nat.le_refl _))⟩
  exact kTN.M_lower HB2.out.size (kTN.M_mono (fun _ _=>trivial) (kTN.M_move (w:=w3) (fun k hk=>(Kept.setCell (Kept.setCell (Kept.setCell (Kept.setCell (Kept.setCell (Kept.setCell (Kept.refl w3 (fun k=>k=w.heap.size)) (p:=⟨w.heap.size,0,none⟩) (.inl rfl) (.int .i64 x.f0)) (p:=⟨w.heap.size,1,none⟩) (.inl rfl) (.int .i64 x.f1)) (p:=⟨w.heap.size,2,none⟩) (.inl rfl) (.string x.f2)) (p:=⟨w.heap.size,3,none⟩) (.inl rfl) (.string x.f3)) (p:=⟨w.heap.size,4,none⟩) (.inl rfl) (.slice A6 x.f4.length c6)) (p:=⟨w.heap.size,5,none⟩) (.inl rfl) (.slice A7 x.f5.length c7)).2 k hk.2.2.1 (fun e=>by have:=hk.1;omega)) (kTN.M_bound HM3.out)))
/-! ### laws_eqAttr: function 37 -/
def laws_eqAttr.f (a0_0:ByteArray) (a0_1:ByteArray) (a1_0:ByteArray) (a1_1:ByteArray):Option (Bool):=if a0_0.toList=a1_0.toList then (if a0_1.toList=a1_1.toList then (some true) else (some false)) else (some false)
set_option maxHeartbeats 8000000 in
set_option maxRecDepth 100000 in
theorem laws_eqAttr.calls (a0_0:ByteArray) (a0_1:ByteArray) (a1_0:ByteArray) (a1_1:ByteArray) (r:Bool) (w:World) (h:laws_eqAttr.f a0_0 a0_1 a1_0 a1_1=some r) :
 Calls Try.prog 37 #[.agg #[.string a0_0,.string a0_1],.agg #[.string a1_0,.string a1_1]] w fun e w'=>e=.returned (.bool r)∧Below w.heap.size w w':=by
 have hu63:=Try.underlying63
 have HB:=A_ (Below.refl w.heap.size w)
 have H:(if a0_0.toList=a1_0.toList then (if a0_1.toList=a1_1.toList then (some true) else (some false)) else (some false))=some r:=h
 clear h
 by_cases c3:a0_0.toList=a1_0.toList
 ·rw [if_pos c3] at H
  have c3b0:(a0_0.toList == a1_0.toList)=true:=beq_iff_eq.mpr c3
  have c3b1:(a0_0.toList != a1_0.toList)=false:=bne_eq_false_iff_eq.mpr c3
  clear c3
  by_cases c4:a0_1.toList=a1_1.toList
  ·rw [if_pos c4] at H
   have c4b0:(a0_1.toList == a1_1.toList)=true:=beq_iff_eq.mpr c4
   have c4b1:(a0_1.toList != a1_1.toList)=false:=bne_eq_false_iff_eq.mpr c4
   clear c4
   obtain rfl:=oi_ H
   go_enter Try.func37,Try.ntmps37
   go_wp2_with (first|((with_reducible refine gate_dst (N:=2) rfl ?_);refine box_event ?hg (N:=2) ?hd (cs:=#[.string a0_0,.string a0_1]) (t:=63) ?hr ?_;(case hd=>rfl);(case hg=>rfl);(case hr=>first|(go_simp;done)|(go_simp;rfl));intro gb230 hg w5 hbox hb;have n0_:=A_ (bp_ (by repeat (first|(with_reducible first|exact HB.out|apply ba_|apply pd_|apply b1_)|exact HB.out)) hb);have n1_:=A_ (hbox);have n2_:=A_ ((by rw [hg];exact (bz_ (by repeat (first|(with_reducible first|exact HB.out|apply ba_|apply pd_|apply b1_)|exact HB.out))):w.heap.size≤gb230));have n3_:=A_ ((by rw [hg];exact (bz_ (by repeat (first|(with_reducible first|exact HB.out|apply ba_|apply pd_|apply b1_)|exact HB.out))):w.heap.size≤gb230));clear HB;have HB:=n0_;have BK230:=n1_;have GW230:=n2_;have GE230:=n3_;clear n0_ n1_ n2_ n3_;clear hb hbox hg)|((with_reducible refine gate_dst (N:=3) rfl ?_);refine box_event ?hg (N:=3) ?hd (cs:=#[.string a1_0,.string a1_1]) (t:=63) ?hr ?_;(case hd=>rfl);(case hg=>rfl);(case hr=>first|(go_simp;done)|(go_simp;rfl));intro gb231 hg w6 hbox hb;have n0_:=A_ (kb_ (g:=gb230) (o:=.cells #[.string a0_0,.string a0_1] 63 (0,0)) (by (with_reducible repeat (first|refine kn_ ?_ _|refine kd_ ?_|refine ka_ ?_ _));exact BK230.out) hb);have n1_:=A_ (bp_ (by repeat (first|(with_reducible first|exact HB.out|apply ba_|apply pd_|apply b1_|refine bs_ ?_ GE230.out)|exact HB.out)) hb);have n2_:=A_ (hbox);have n3_:=A_ ((by rw [hg];exact (bz_ (by repeat (first|(with_reducible first|exact HB.out|apply ba_|apply pd_|apply b1_|refine bs_ ?_ GE230.out)|exact HB.out))):w.heap.size≤gb231));have n4_:=A_ ((by rw [hg];exact (bz_ (by repeat (first|(with_reducible first|exact HB.out|apply ba_|apply pd_|apply b1_|refine bs_ ?_ GE230.out)|exact HB.out))):w.heap.size≤gb231));have n5_:=A_ ((by rw [hg];exact Nat.ne_of_lt (blk_lt (g:=gb230) (o:=.cells #[.string a0_0,.string a0_1] 63 (0,0)) (by (with_reducible repeat (first|refine kn_ ?_ _|refine kd_ ?_|refine ka_ ?_ _));exact BK230.out)):gb230≠gb231));have n6_:=A_ ((by rw [hg];exact Nat.ne_of_gt (blk_lt (g:=gb230) (o:=.cells #[.string a0_0,.string a0_1] 63 (0,0)) (by (with_reducible repeat (first|refine kn_ ?_ _|refine kd_ ?_|refine ka_ ?_ _));exact BK230.out)):gb231≠gb230));clear BK230;clear HB;have BK230:=n0_;have HB:=n1_;have BK231:=n2_;have GW231:=n3_;have GE231:=n4_;have NB230_231:=n5_;have NB231_230:=n6_;clear n0_ n1_ n2_ n3_ n4_ n5_ n6_;clear hb hbox hg;have hnb7:=NB230_231.out;have hnc7:=NB231_230.out;have hcz8_0:w6.cell? ⟨gb230,0,none⟩=some (.string a0_0):=(bc_ BK230.out 0).trans rfl;have hcz8_1:w6.cell? ⟨gb230,1,none⟩=some (.string a0_1):=(bc_ BK230.out 1).trans rfl;have hfz8_0:=bf_ BK230.out 0;have hfz8_1:=bf_ BK230.out 1;have hcz9_0:w6.cell? ⟨gb231,0,none⟩=some (.string a1_0):=(bc_ BK231.out 0).trans rfl;have hcz9_1:w6.cell? ⟨gb231,1,none⟩=some (.string a1_1):=(bc_ BK231.out 1).trans rfl;have hfz9_0:=bf_ BK231.out 0;have hfz9_1:=bf_ BK231.out 1))
   go_ret
   exact ⟨by first|rfl|(simp [errW_none,errW_some] <;> rfl)|(simp [*,errW_none,errW_some] <;> rfl),by repeat (first|(with_reducible first|exact HB.out|apply ba_|apply pd_|apply b1_|refine bs_ ?_ GE230.out|refine bs_ ?_ GE231.out)|exact HB.out)⟩
  ·rw [if_neg c4] at H
   have c4b0:(a0_1.toList == a1_1.toList)=false:=beq_eq_false_iff_ne.mpr c4
   have c4b1:(a0_1.toList != a1_1.toList)=true:=bne_iff_ne.mpr c4
   obtain rfl:=oi_ H
   go_enter Try.func37,Try.ntmps37
   go_wp2_with (first|((with_reducible refine gate_dst (N:=2) rfl ?_);refine box_event ?hg (N:=2) ?hd (cs:=#[.string a0_0,.string a0_1]) (t:=63) ?hr ?_;(case hd=>rfl);(case hg=>rfl);(case hr=>first|(go_simp;done)|(go_simp;rfl));intro gb230 hg w10 hbox hb;have n0_:=A_ (bp_ (by repeat (first|(with_reducible first|exact HB.out|apply ba_|apply pd_|apply b1_)|exact HB.out)) hb);have n1_:=A_ (hbox);have n2_:=A_ ((by rw [hg];exact (bz_ (by repeat (first|(with_reducible first|exact HB.out|apply ba_|apply pd_|apply b1_)|exact HB.out))):w.heap.size≤gb230));have n3_:=A_ ((by rw [hg];exact (bz_ (by repeat (first|(with_reducible first|exact HB.out|apply ba_|apply pd_|apply b1_)|exact HB.out))):w.heap.size≤gb230));clear HB;have HB:=n0_;have BK230:=n1_;have GW230:=n2_;have GE230:=n3_;clear n0_ n1_ n2_ n3_;clear hb hbox hg)|((with_reducible refine gate_dst (N:=3) rfl ?_);refine box_event ?hg (N:=3) ?hd (cs:=#[.string a1_0,.string a1_1]) (t:=63) ?hr ?_;(case hd=>rfl);(case hg=>rfl);(case hr=>first|(go_simp;done)|(go_simp;rfl));intro gb231 hg w11 hbox hb;have n0_:=A_ (kb_ (g:=gb230) (o:=.cells #[.string a0_0,.string a0_1] 63 (0,0)) (by (with_reducible repeat (first|refine kn_ ?_ _|refine kd_ ?_|refine ka_ ?_ _));exact BK230.out) hb);have n1_:=A_ (bp_ (by repeat (first|(with_reducible first|exact HB.out|apply ba_|apply pd_|apply b1_|refine bs_ ?_ GE230.out)|exact HB.out)) hb);have n2_:=A_ (hbox);have n3_:=A_ ((by rw [hg];exact (bz_ (by repeat (first|(with_reducible first|exact HB.out|apply ba_|apply pd_|apply b1_|refine bs_ ?_ GE230.out)|exact HB.out))):w.heap.size≤gb231));have n4_:=A_ ((by rw [hg];exact (bz_ (by repeat (first|(with_reducible first|exact HB.out|apply ba_|apply pd_|apply b1_|refine bs_ ?_ GE230.out)|exact HB.out))):w.heap.size≤gb231));have n5_:=A_ ((by rw [hg];exact Nat.ne_of_lt (blk_lt (g:=gb230) (o:=.cells #[.string a0_0,.string a0_1] 63 (0,0)) (by (with_reducible repeat (first|refine kn_ ?_ _|refine kd_ ?_|refine ka_ ?_ _));exact BK230.out)):gb230≠gb231));have n6_:=A_ ((by rw [hg];exact Nat.ne_of_gt (blk_lt (g:=gb230) (o:=.cells #[.string a0_0,.string a0_1] 63 (0,0)) (by (with_reducible repeat (first|refine kn_ ?_ _|refine kd_ ?_|refine ka_ ?_ _));exact BK230.out)):gb231≠gb230));clear BK230;clear HB;have BK230:=n0_;have HB:=n1_;have BK231:=n2_;have GW231:=n3_;have GE231:=n4_;have NB230_231:=n5_;have NB231_230:=n6_;clear n0_ n1_ n2_ n3_ n4_ n5_ n6_;clear hb hbox hg;have hnb12:=NB230_231.out;have hnc12:=NB231_230.out;have hcz13_0:w11.cell? ⟨gb230,0,none⟩=some (.string a0_0):=(bc_ BK230.out 0).trans rfl;have hcz13_1:w11.cell? ⟨gb230,1,none⟩=some (.string a0_1):=(bc_ BK230.out 1).trans rfl;have hfz13_0:=bf_ BK230.out 0;have hfz13_1:=bf_ BK230.out 1;have hcz14_0:w11.cell? ⟨gb231,0,none⟩=some (.string a1_0):=(bc_ BK231.out 0).trans rfl;have hcz14_1:w11.cell? ⟨gb231,1,none⟩=some (.string a1_1):=(bc_ BK231.out 1).trans rfl;have hfz14_0:=bf_ BK231.out 0;have hfz14_1:=bf_ BK231.out 1))
   go_ret
   exact ⟨by first|rfl|(simp [errW_none,errW_some] <;> rfl)|(simp [*,errW_none,errW_some] <;> rfl),by repeat (first|(with_reducible first|exact HB.out|apply ba_|apply pd_|apply b1_|refine bs_ ?_ GE230.out|refine bs_ ?_ GE231.out)|exact HB.out)⟩
 ·rw [if_neg c3] at H
  have c3b0:(a0_0.toList == a1_0.toList)=false:=beq_eq_false_iff_ne.mpr c3
  have c3b1:(a0_0.toList != a1_0.toList)=true:=bne_iff_ne.mpr c3
  obtain rfl:=oi_ H
  go_enter Try.func37,Try.ntmps37
  go_wp2_with (first|((with_reducible refine gate_dst (N:=2) rfl ?_);refine box_event ?hg (N:=2) ?hd (cs:=#[.string a0_0,.string a0_1]) (t:=63) ?hr ?_;(case hd=>rfl);(case hg=>rfl);(case hr=>first|(go_simp;done)|(go_simp;rfl));intro gb230 hg w15 hbox hb;have n0_:=A_ (bp_ (by repeat (first|(with_reducible first|exact HB.out|apply ba_|apply pd_|apply b1_)|exact HB.out)) hb);have n1_:=A_ (hbox);have n2_:=A_ ((by rw [hg];exact (bz_ (by repeat (first|(with_reducible first|exact HB.out|apply ba_|apply pd_|apply b1_)|exact HB.out))):w.heap.size≤gb230));have n3_:=A_ ((by rw [hg];exact (bz_ (by repeat (first|(with_reducible first|exact HB.out|apply ba_|apply pd_|apply b1_)|exact HB.out))):w.heap.size≤gb230));clear HB;have HB:=n0_;have BK230:=n1_;have GW230:=n2_;have GE230:=n3_;clear n0_ n1_ n2_ n3_;clear hb hbox hg)|((with_reducible refine gate_dst (N:=3) rfl ?_);refine box_event ?hg (N:=3) ?hd (cs:=#[.string a1_0,.string a1_1]) (t:=63) ?hr ?_;(case hd=>rfl);(case hg=>rfl);(case hr=>first|(go_simp;done)|(go_simp;rfl));intro gb231 hg w16 hbox hb;have n0_:=A_ (kb_ (g:=gb230) (o:=.cells #[.string a0_0,.string a0_1] 63 (0,0)) (by (with_reducible repeat (first|refine kn_ ?_ _|refine kd_ ?_|refine ka_ ?_ _));exact BK230.out) hb);have n1_:=A_ (bp_ (by repeat (first|(with_reducible first|exact HB.out|apply ba_|apply pd_|apply b1_|refine bs_ ?_ GE230.out)|exact HB.out)) hb);have n2_:=A_ (hbox);have n3_:=A_ ((by rw [hg];exact (bz_ (by repeat (first|(with_reducible first|exact HB.out|apply ba_|apply pd_|apply b1_|refine bs_ ?_ GE230.out)|exact HB.out))):w.heap.size≤gb231));have n4_:=A_ ((by rw [hg];exact (bz_ (by repeat (first|(with_reducible first|exact HB.out|apply ba_|apply pd_|apply b1_|refine bs_ ?_ GE230.out)|exact HB.out))):w.heap.size≤gb231));have n5_:=A_ ((by rw [hg];exact Nat.ne_of_lt (blk_lt (g:=gb230) (o:=.cells #[.string a0_0,.string a0_1] 63 (0,0)) (by (with_reducible repeat (first|refine kn_ ?_ _|refine kd_ ?_|refine ka_ ?_ _));exact BK230.out)):gb230≠gb231));have n6_:=A_ ((by rw [hg];exact Nat.ne_of_gt (blk_lt (g:=gb230) (o:=.cells #[.string a0_0,.string a0_1] 63 (0,0)) (by (with_reducible repeat (first|refine kn_ ?_ _|refine kd_ ?_|refine ka_ ?_ _));exact BK230.out)):gb231≠gb230));clear BK230;clear HB;have BK230:=n0_;have HB:=n1_;have BK231:=n2_;have GW231:=n3_;have GE231:=n4_;have NB230_231:=n5_;have NB231_230:=n6_;clear n0_ n1_ n2_ n3_ n4_ n5_ n6_;clear hb hbox hg;have hnb17:=NB230_231.out;have hnc17:=NB231_230.out;have hcz18_0:w16.cell? ⟨gb230,0,none⟩=some (.string a0_0):=(bc_ BK230.out 0).trans rfl;have hcz18_1:w16.cell? ⟨gb230,1,none⟩=some (.string a0_1):=(bc_ BK230.out 1).trans rfl;have hfz18_0:=bf_ BK230.out 0;have hfz18_1:=bf_ BK230.out 1;have hcz19_0:w16.cell? ⟨gb231,0,none⟩=some (.string a1_0):=(bc_ BK231.out 0).trans rfl;have hcz19_1:w16.cell? ⟨gb231,1,none⟩=some (.string a1_1):=(bc_ BK231.out 1).trans rfl;have hfz19_0:=bf_ BK231.out 0;have hfz19_1:=bf_ BK231.out 1))
  go_ret
  exact ⟨by first|rfl|(simp [errW_none,errW_some] <;> rfl)|(simp [*,errW_none,errW_some] <;> rfl),by repeat (first|(with_reducible first|exact HB.out|apply ba_|apply pd_|apply b1_|refine bs_ ?_ GE230.out|refine bs_ ?_ GE231.out)|exact HB.out)⟩
end Go.Proofs.Ytjhfempockbdoaa.PFnExactNodeAt
