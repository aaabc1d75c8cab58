/- By a program of this session, out of the kit's print and contracts made by hand: the machine side of a law; Lean checks it. No conditions. -/
import Derived.Test.YtfkanlbmgbkniaaGreatDoorPFnExactNextTokenx0
import Derived.Test.YtfkanlbmgbkniaaGreatDoorPFnExactNextTokenx26
namespace Go.Proofs.YtfkanlbmgbkniaaGreatDoor.PFnExactNextToken
open Go.RowKit Go.Proofs.YtfkanlbmgbkniaaGreatDoorW.PrintWords Go.Proofs.YtfkanlbmgbkniaaGreatDoorW.PrintLast Go.Proofs.YtfkanlbmgbkniaaGreatDoorW.PrintMore
attribute [local go_sem] max2_int min2_int max_two min_two max_three min_three max_four min_four
set_option linter.unusedVariables false
set_option linter.unusedSimpArgs false
/-! ### laws_eqToken: function 7 -/
def laws_eqToken.f (k:Nat) (a0_0:Int) (a0_1:Int) (a0_2:Int) (a0_3:ByteArray) (a0_4:ByteArray) (l0_5:List (S52)) (a0_6:Bool) (a1_0:Int) (a1_1:Int) (a1_2:Int) (a1_3:ByteArray) (a1_4:ByteArray) (l1_5:List (S52)) (a1_6:Bool):Option (Bool):=if a0_0=a1_0 then (if a0_1=a1_1 then (if a0_2=a1_2 then (if a0_3.toList=a1_3.toList then (if a0_4.toList=a1_4.toList then ((laws_eqAttrS.f k l0_5 l1_5).bind fun t464=>(if t464=true then (if (a0_6 != a1_6)=true then (some false) else (some true)) else (some false))) else (some false)) else (some false)) else (some false)) else (some false)) else (some false)
theorem laws_eqToken.mono:∀ a0 a1 a2 a3 a4 a5 a6 a7 a8 a9 a10 a11 a12 a13 k,LeO (laws_eqToken.f k a0 a1 a2 a3 a4 a5 a6 a7 a8 a9 a10 a11 a12 a13) (laws_eqToken.f (k+1) a0 a1 a2 a3 a4 a5 a6 a7 a8 a9 a10 a11 a12 a13):=by
 intro a0 a1 a2 a3 a4 a5 a6 a7 a8 a9 a10 a11 a12 a13 k
 unfold laws_eqToken.f
 repeat' first
  | (with_reducible exact laws_eqAttrS.mono _ _ _)
  | (with_reducible exact LeO.refl _)
  | (with_reducible exact LeO.none _)
  | (with_reducible refine LeO.ite ?_ ?_)
  | (with_reducible refine LeO.bind ?_ (fun _=>?_))
  | exact laws_eqAttrS.mono _ _ _
  | exact LeO.none _
  | refine LeO.ite ?_ ?_
  | refine LeO.bind ?_ (fun _=>?_)
set_option maxHeartbeats 8000000 in
set_option maxRecDepth 100000 in
theorem laws_eqToken.calls (k:Nat) (a0_0:Int) (a0_1:Int) (a0_2:Int) (a0_3:ByteArray) (a0_4:ByteArray) (A0_5:Option Addr) (c0_5:Nat) (l0_5:List (S52)) (a0_6:Bool) (a1_0:Int) (a1_1:Int) (a1_2:Int) (a1_3:ByteArray) (a1_4:ByteArray) (A1_5:Option Addr) (c1_5:Nat) (l1_5:List (S52)) (a1_6:Bool) (r:Bool) (w:World) (hr0_5:Kd.C k52 w A0_5 l0_5.length l0_5) (hc0_5:l0_5.length≤c0_5) (hr1_5:Kd.C k52 w A1_5 l1_5.length l1_5) (hc1_5:l1_5.length≤c1_5) (h:laws_eqToken.f k a0_0 a0_1 a0_2 a0_3 a0_4 l0_5 a0_6 a1_0 a1_1 a1_2 a1_3 a1_4 l1_5 a1_6=some r) :
 Calls Tryz.prog 7 #[.agg #[.int .i64 a0_0,.int .i64 a0_1,.int .i64 a0_2,.string a0_3,.string a0_4,.slice A0_5 l0_5.length c0_5,.bool a0_6],.agg #[.int .i64 a1_0,.int .i64 a1_1,.int .i64 a1_2,.string a1_3,.string a1_4,.slice A1_5 l1_5.length c1_5,.bool a1_6]] w fun e w'=>e=.returned (.bool r)∧Below w.heap.size w w':=by
 have hu24:=Tryz.underlying24
 have HR0_5:=A_ hr0_5
 have HC0_5:=A_ hc0_5
 clear hr0_5 hc0_5
 have HR1_5:=A_ hr1_5
 have HC1_5:=A_ hc1_5
 clear hr1_5 hc1_5
 have HB:=A_ (Below.refl w.heap.size w)
 have H:(if a0_0=a1_0 then (if a0_1=a1_1 then (if a0_2=a1_2 then (if a0_3.toList=a1_3.toList then (if a0_4.toList=a1_4.toList then ((laws_eqAttrS.f k l0_5 l1_5).bind fun t464=>(if t464=true then (if (a0_6 != a1_6)=true then (some false) else (some true)) else (some false))) else (some false)) else (some false)) else (some false)) else (some false)) else (some false))=some r:=h
 clear h
 by_cases c3:a0_0=a1_0
 ·rw [if_pos c3] at H
  have c3b0:(a0_0 == a1_0)=true:=beq_iff_eq.mpr c3
  have c3b1:(a0_0 != a1_0)=false:=bne_eq_false_iff_eq.mpr c3
  clear c3
  by_cases c4:a0_1=a1_1
  ·rw [if_pos c4] at H
   have c4b0:(a0_1 == a1_1)=true:=beq_iff_eq.mpr c4
   have c4b1:(a0_1 != a1_1)=false:=bne_eq_false_iff_eq.mpr c4
   clear c4
   by_cases c5:a0_2=a1_2
   ·rw [if_pos c5] at H
    have c5b0:(a0_2 == a1_2)=true:=beq_iff_eq.mpr c5
    have c5b1:(a0_2 != a1_2)=false:=bne_eq_false_iff_eq.mpr c5
    clear c5
    by_cases c6:a0_3.toList=a1_3.toList
    ·rw [if_pos c6] at H
     have c6b0:(a0_3.toList == a1_3.toList)=true:=beq_iff_eq.mpr c6
     have c6b1:(a0_3.toList != a1_3.toList)=false:=bne_eq_false_iff_eq.mpr c6
     clear c6
     by_cases c7:a0_4.toList=a1_4.toList
     ·rw [if_pos c7] at H
      have c7b0:(a0_4.toList == a1_4.toList)=true:=beq_iff_eq.mpr c7
      have c7b1:(a0_4.toList != a1_4.toList)=false:=bne_eq_false_iff_eq.mpr c7
      clear c7
      replace H:=ob_ H
      obtain ⟨t464,A80,H⟩:=H
      replace H:(if t464=true then (if (a0_6 != a1_6)=true then (some false) else (some true)) else (some false))=some r:=H
      have A8:=A_ A80
      clear A80
      by_cases c9:t464=true
      ·subst c9
       have H1:(if (a0_6 != a1_6)=true then (some false) else (some true))=some r:=by rw [if_pos rfl] at H;exact H
       clear H
       have H:=H1
       clear H1
       by_cases c10:(a0_6 != a1_6)=true
       ·rw [if_pos c10] at H
        have c10b0:(a0_6 != a1_6)=true:=c10
        (try (have c10b1:decide (a0_6=a1_6)=false:=by simpa using c10))
        (try (have c10b2:(a0_6 == a1_6)=false:=by simpa using c10))
        (try (have c10b3:¬ (a0_6=a1_6):=by simpa using c10))
        clear c10
        obtain rfl:=oi_ H
        go_enter Tryz.func7,Tryz.ntmps7
        go_wp2_with (first|((with_reducible refine gate_dst (N:=2) rfl ?_);refine box_event ?hg (N:=2) ?hd (cs:=#[.int .i64 a0_0,.int .i64 a0_1,.int .i64 a0_2,.string a0_3,.string a0_4,.slice A0_5 l0_5.length c0_5,.bool a0_6]) (t:=24) ?hr ?_;(case hd=>rfl);(case hg=>rfl);(case hr=>first|(go_simp;done)|(go_simp;rfl));intro gb462 hg w11 hbox hb;have n0_:=A_ (bp_ (bq0_ HB.out) hb);have n1_:=A_ (hbox);have n2_:=A_ ((by rw [hg];exact (bz_ (bq0_ HB.out)):w.heap.size≤gb462));have n3_:=A_ ((by rw [hg];exact (bz_ (bq0_ HB.out)):w.heap.size≤gb462));clear HB;have HB:=n0_;have BK462:=n1_;have GW462:=n2_;have GE462:=n3_;clear n0_ n1_ n2_ n3_;clear hb hbox hg)|((with_reducible refine gate_dst (N:=3) rfl ?_);refine box_event ?hg (N:=3) ?hd (cs:=#[.int .i64 a1_0,.int .i64 a1_1,.int .i64 a1_2,.string a1_3,.string a1_4,.slice A1_5 l1_5.length c1_5,.bool a1_6]) (t:=24) ?hr ?_;(case hd=>rfl);(case hg=>rfl);(case hr=>first|(go_simp;done)|(go_simp;rfl));intro gb463 hg w12 hbox hb;have n0_:=A_ (kb_ (g:=gb462) (o:=.cells #[.int .i64 a0_0,.int .i64 a0_1,.int .i64 a0_2,.string a0_3,.string a0_4,.slice A0_5 l0_5.length c0_5,.bool a0_6] 24 (0,0)) (kq_ BK462.out) hb);have n1_:=A_ (bp_ (bq1_ HB.out GE462.out) hb);have n2_:=A_ (hbox);have n3_:=A_ ((by rw [hg];exact (bz_ (bq1_ HB.out GE462.out)):w.heap.size≤gb463));have n4_:=A_ ((by rw [hg];exact (bz_ (bq1_ HB.out GE462.out)):w.heap.size≤gb463));have n5_:=A_ ((by rw [hg];exact Nat.ne_of_lt (blk_lt (g:=gb462) (o:=.cells #[.int .i64 a0_0,.int .i64 a0_1,.int .i64 a0_2,.string a0_3,.string a0_4,.slice A0_5 l0_5.length c0_5,.bool a0_6] 24 (0,0)) (kq_ BK462.out)):gb462≠gb463));have n6_:=A_ ((by rw [hg];exact Nat.ne_of_gt (blk_lt (g:=gb462) (o:=.cells #[.int .i64 a0_0,.int .i64 a0_1,.int .i64 a0_2,.string a0_3,.string a0_4,.slice A0_5 l0_5.length c0_5,.bool a0_6] 24 (0,0)) (kq_ BK462.out)):gb463≠gb462));clear BK462;clear HB;have BK462:=n0_;have HB:=n1_;have BK463:=n2_;have GW463:=n3_;have GE463:=n4_;have NB462_463:=n5_;have NB463_462:=n6_;clear n0_ n1_ n2_ n3_ n4_ n5_ n6_;clear hb hbox hg;have hnb13:=NB462_463.out;have hnc13:=NB463_462.out;obtain ⟨_,_,_,_,_,_,_,_,_,_,_,_,_,_⟩:=g7_ BK462.out;obtain ⟨_,_,_,_,_,_,_,_,_,_,_,_,_,_⟩:=g7_ BK463.out)|((with_reducible refine gate_callee (f:=22) rfl ?_);refine gl_ (some 34) rfl rfl Tryz.func22 (by kernel_rfl) rfl #[.slice A0_5 l0_5.length c0_5,.slice A1_5 l1_5.length c1_5] rfl  ?_;(with_reducible refine (laws_eqAttrS.calls k _ _ l0_5 _ _ l1_5 true _ ?side1 ?side2 ?side3 ?side4 A8.out).mono ?_);(case side1=>repeat (first|exact (Kd.C_below HR0_5.out HB.out)|(with_reducible refine ca_ ?_ _)|(with_reducible refine cn_ ?_ _)|(with_reducible refine cd_ ?_)));(case side2=>exact HC0_5.out);(case side3=>repeat (first|exact (Kd.C_below HR1_5.out HB.out)|(with_reducible refine ca_ ?_ _)|(with_reducible refine cn_ ?_ _)|(with_reducible refine cd_ ?_)));(case side4=>exact HC1_5.out);rintro e w16 ⟨rfl,hb⟩;refine ⟨_,rfl,?_⟩;have n0_:=A_ (kb_ (g:=gb462) (o:=.cells #[.int .i64 a0_0,.int .i64 a0_1,.int .i64 a0_2,.string a0_3,.string a0_4,.slice A0_5 l0_5.length c0_5,.bool a0_6] 24 (0,0)) (kq_ BK462.out) hb);have n1_:=A_ (kb_ (g:=gb463) (o:=.cells #[.int .i64 a1_0,.int .i64 a1_1,.int .i64 a1_2,.string a1_3,.string a1_4,.slice A1_5 l1_5.length c1_5,.bool a1_6] 24 (0,0)) (kq_ BK463.out) hb);have n2_:=A_ (bp_ (bq2_ HB.out GE462.out GE463.out) hb);clear BK462;clear BK463;clear HB;have BK462:=n0_;have BK463:=n1_;have HB:=n2_;clear n0_ n1_ n2_;(try clear hb);(try clear hb2);(try clear hk);(try clear hi);obtain ⟨_,_,_,_,_,_,_,_,_,_,_,_,_,_⟩:=g7_ BK462.out;obtain ⟨_,_,_,_,_,_,_,_,_,_,_,_,_,_⟩:=g7_ BK463.out))
        go_ret
        exact ⟨by first|rfl|(simp [errW_none,errW_some] <;> rfl)|(simp [*,errW_none,errW_some] <;> rfl),bq2_ HB.out GE462.out GE463.out⟩
       ·rw [if_neg c10] at H
        have c10b0:(a0_6 != a1_6)=false:=by simpa using c10
        (try (have c10b1:decide (a0_6=a1_6)=true:=by simpa using c10))
        (try (have c10b2:(a0_6 == a1_6)=true:=by simpa using c10))
        clear c10
        obtain rfl:=oi_ H
        go_enter Tryz.func7,Tryz.ntmps7
        go_wp2_with (first|((with_reducible refine gate_dst (N:=2) rfl ?_);refine box_event ?hg (N:=2) ?hd (cs:=#[.int .i64 a0_0,.int .i64 a0_1,.int .i64 a0_2,.string a0_3,.string a0_4,.slice A0_5 l0_5.length c0_5,.bool a0_6]) (t:=24) ?hr ?_;(case hd=>rfl);(case hg=>rfl);(case hr=>first|(go_simp;done)|(go_simp;rfl));intro gb462 hg w19 hbox hb;have n0_:=A_ (bp_ (bq0_ HB.out) hb);have n1_:=A_ (hbox);have n2_:=A_ ((by rw [hg];exact (bz_ (bq0_ HB.out)):w.heap.size≤gb462));have n3_:=A_ ((by rw [hg];exact (bz_ (bq0_ HB.out)):w.heap.size≤gb462));clear HB;have HB:=n0_;have BK462:=n1_;have GW462:=n2_;have GE462:=n3_;clear n0_ n1_ n2_ n3_;clear hb hbox hg)|((with_reducible refine gate_dst (N:=3) rfl ?_);refine box_event ?hg (N:=3) ?hd (cs:=#[.int .i64 a1_0,.int .i64 a1_1,.int .i64 a1_2,.string a1_3,.string a1_4,.slice A1_5 l1_5.length c1_5,.bool a1_6]) (t:=24) ?hr ?_;(case hd=>rfl);(case hg=>rfl);(case hr=>first|(go_simp;done)|(go_simp;rfl));intro gb463 hg w20 hbox hb;have n0_:=A_ (kb_ (g:=gb462) (o:=.cells #[.int .i64 a0_0,.int .i64 a0_1,.int .i64 a0_2,.string a0_3,.string a0_4,.slice A0_5 l0_5.length c0_5,.bool a0_6] 24 (0,0)) (kq_ BK462.out) hb);have n1_:=A_ (bp_ (bq1_ HB.out GE462.out) hb);have n2_:=A_ (hbox);have n3_:=A_ ((by rw [hg];exact (bz_ (bq1_ HB.out GE462.out)):w.heap.size≤gb463));have n4_:=A_ ((by rw [hg];exact (bz_ (bq1_ HB.out GE462.out)):w.heap.size≤gb463));have n5_:=A_ ((by rw [hg];exact Nat.ne_of_lt (blk_lt (g:=gb462) (o:=.cells #[.int .i64 a0_0,.int .i64 a0_1,.int .i64 a0_2,.string a0_3,.string a0_4,.slice A0_5 l0_5.length c0_5,.bool a0_6] 24 (0,0)) (kq_ BK462.out)):gb462≠gb463));have n6_:=A_ ((by rw [hg];exact Nat.ne_of_gt (blk_lt (g:=gb462) (o:=.cells #[.int .i64 a0_0,.int .i64 a0_1,.int .i64 a0_2,.string a0_3,.string a0_4,.slice A0_5 l0_5.length c0_5,.bool a0_6] 24 (0,0)) (kq_ BK462.out)):gb463≠gb462));clear BK462;clear HB;have BK462:=n0_;have HB:=n1_;have BK463:=n2_;have GW463:=n3_;have GE463:=n4_;have NB462_463:=n5_;have NB463_462:=n6_;clear n0_ n1_ n2_ n3_ n4_ n5_ n6_;clear hb hbox hg;have hnb21:=NB462_463.out;have hnc21:=NB463_462.out;obtain ⟨_,_,_,_,_,_,_,_,_,_,_,_,_,_⟩:=g7_ BK462.out;obtain ⟨_,_,_,_,_,_,_,_,_,_,_,_,_,_⟩:=g7_ BK463.out)|((with_reducible refine gate_callee (f:=22) rfl ?_);refine gl_ (some 34) rfl rfl Tryz.func22 (by kernel_rfl) rfl #[.slice A0_5 l0_5.length c0_5,.slice A1_5 l1_5.length c1_5] rfl  ?_;(with_reducible refine (laws_eqAttrS.calls k _ _ l0_5 _ _ l1_5 true _ ?side1 ?side2 ?side3 ?side4 A8.out).mono ?_);(case side1=>repeat (first|exact (Kd.C_below HR0_5.out HB.out)|(with_reducible refine ca_ ?_ _)|(with_reducible refine cn_ ?_ _)|(with_reducible refine cd_ ?_)));(case side2=>exact HC0_5.out);(case side3=>repeat (first|exact (Kd.C_below HR1_5.out HB.out)|(with_reducible refine ca_ ?_ _)|(with_reducible refine cn_ ?_ _)|(with_reducible refine cd_ ?_)));(case side4=>exact HC1_5.out);rintro e w24 ⟨rfl,hb⟩;refine ⟨_,rfl,?_⟩;have n0_:=A_ (kb_ (g:=gb462) (o:=.cells #[.int .i64 a0_0,.int .i64 a0_1,.int .i64 a0_2,.string a0_3,.string a0_4,.slice A0_5 l0_5.length c0_5,.bool a0_6] 24 (0,0)) (kq_ BK462.out) hb);have n1_:=A_ (kb_ (g:=gb463) (o:=.cells #[.int .i64 a1_0,.int .i64 a1_1,.int .i64 a1_2,.string a1_3,.string a1_4,.slice A1_5 l1_5.length c1_5,.bool a1_6] 24 (0,0)) (kq_ BK463.out) hb);have n2_:=A_ (bp_ (bq2_ HB.out GE462.out GE463.out) hb);clear BK462;clear BK463;clear HB;have BK462:=n0_;have BK463:=n1_;have HB:=n2_;clear n0_ n1_ n2_;(try clear hb);(try clear hb2);(try clear hk);(try clear hi);obtain ⟨_,_,_,_,_,_,_,_,_,_,_,_,_,_⟩:=g7_ BK462.out;obtain ⟨_,_,_,_,_,_,_,_,_,_,_,_,_,_⟩:=g7_ BK463.out))
        go_ret
        exact ⟨by first|rfl|(simp [errW_none,errW_some] <;> rfl)|(simp [*,errW_none,errW_some] <;> rfl),bq2_ HB.out GE462.out GE463.out⟩
      ·replace c9:=bm_ c9
       subst c9
       have H1:(some false)=some r:=by rw [if_neg (show ¬ (false=true) by decide)] at H;exact H
       clear H
       have H:=H1
       clear H1
       obtain rfl:=oi_ H
       go_enter Tryz.func7,Tryz.ntmps7
       go_wp2_with (first|((with_reducible refine gate_dst (N:=2) rfl ?_);refine box_event ?hg (N:=2) ?hd (cs:=#[.int .i64 a0_0,.int .i64 a0_1,.int .i64 a0_2,.string a0_3,.string a0_4,.slice A0_5 l0_5.length c0_5,.bool a0_6]) (t:=24) ?hr ?_;(case hd=>rfl);(case hg=>rfl);(case hr=>first|(go_simp;done)|(go_simp;rfl));intro gb462 hg w27 hbox hb;have n0_:=A_ (bp_ (bq0_ HB.out) hb);have n1_:=A_ (hbox);have n2_:=A_ ((by rw [hg];exact (bz_ (bq0_ HB.out)):w.heap.size≤gb462));have n3_:=A_ ((by rw [hg];exact (bz_ (bq0_ HB.out)):w.heap.size≤gb462));clear HB;have HB:=n0_;have BK462:=n1_;have GW462:=n2_;have GE462:=n3_;clear n0_ n1_ n2_ n3_;clear hb hbox hg)|((with_reducible refine gate_dst (N:=3) rfl ?_);refine box_event ?hg (N:=3) ?hd (cs:=#[.int .i64 a1_0,.int .i64 a1_1,.int .i64 a1_2,.string a1_3,.string a1_4,.slice A1_5 l1_5.length c1_5,.bool a1_6]) (t:=24) ?hr ?_;(case hd=>rfl);(case hg=>rfl);(case hr=>first|(go_simp;done)|(go_simp;rfl));intro gb463 hg w28 hbox hb;have n0_:=A_ (kb_ (g:=gb462) (o:=.cells #[.int .i64 a0_0,.int .i64 a0_1,.int .i64 a0_2,.string a0_3,.string a0_4,.slice A0_5 l0_5.length c0_5,.bool a0_6] 24 (0,0)) (kq_ BK462.out) hb);have n1_:=A_ (bp_ (bq1_ HB.out GE462.out) hb);have n2_:=A_ (hbox);have n3_:=A_ ((by rw [hg];exact (bz_ (bq1_ HB.out GE462.out)):w.heap.size≤gb463));have n4_:=A_ ((by rw [hg];exact (bz_ (bq1_ HB.out GE462.out)):w.heap.size≤gb463));have n5_:=A_ ((by rw [hg];exact Nat.ne_of_lt (blk_lt (g:=gb462) (o:=.cells #[.int .i64 a0_0,.int .i64 a0_1,.int .i64 a0_2,.string a0_3,.string a0_4,.slice A0_5 l0_5.length c0_5,.bool a0_6] 24 (0,0)) (kq_ BK462.out)):gb462≠gb463));have n6_:=A_ ((by rw [hg];exact Nat.ne_of_gt (blk_lt (g:=gb462) (o:=.cells #[.int .i64 a0_0,.int .i64 a0_1,.int .i64 a0_2,.string a0_3,.string a0_4,.slice A0_5 l0_5.length c0_5,.bool a0_6] 24 (0,0)) (kq_ BK462.out)):gb463≠gb462));clear BK462;clear HB;have BK462:=n0_;have HB:=n1_;have BK463:=n2_;have GW463:=n3_;have GE463:=n4_;have NB462_463:=n5_;have NB463_462:=n6_;clear n0_ n1_ n2_ n3_ n4_ n5_ n6_;clear hb hbox hg;have hnb29:=NB462_463.out;have hnc29:=NB463_462.out;obtain ⟨_,_,_,_,_,_,_,_,_,_,_,_,_,_⟩:=g7_ BK462.out;obtain ⟨_,_,_,_,_,_,_,_,_,_,_,_,_,_⟩:=g7_ BK463.out)|((with_reducible refine gate_callee (f:=22) rfl ?_);refine gl_ (some 34) rfl rfl Tryz.func22 (by kernel_rfl) rfl #[.slice A0_5 l0_5.length c0_5,.slice A1_5 l1_5.length c1_5] rfl  ?_;(with_reducible refine (laws_eqAttrS.calls k _ _ l0_5 _ _ l1_5 false _ ?side1 ?side2 ?side3 ?side4 A8.out).mono ?_);(case side1=>repeat (first|exact (Kd.C_below HR0_5.out HB.out)|(with_reducible refine ca_ ?_ _)|(with_reducible refine cn_ ?_ _)|(with_reducible refine cd_ ?_)));(case side2=>exact HC0_5.out);(case side3=>repeat (first|exact (Kd.C_below HR1_5.out HB.out)|(with_reducible refine ca_ ?_ _)|(with_reducible refine cn_ ?_ _)|(with_reducible refine cd_ ?_)));(case side4=>exact HC1_5.out);rintro e w32 ⟨rfl,hb⟩;refine ⟨_,rfl,?_⟩;have n0_:=A_ (kb_ (g:=gb462) (o:=.cells #[.int .i64 a0_0,.int .i64 a0_1,.int .i64 a0_2,.string a0_3,.string a0_4,.slice A0_5 l0_5.length c0_5,.bool a0_6] 24 (0,0)) (kq_ BK462.out) hb);have n1_:=A_ (kb_ (g:=gb463) (o:=.cells #[.int .i64 a1_0,.int .i64 a1_1,.int .i64 a1_2,.string a1_3,.string a1_4,.slice A1_5 l1_5.length c1_5,.bool a1_6] 24 (0,0)) (kq_ BK463.out) hb);have n2_:=A_ (bp_ (bq2_ HB.out GE462.out GE463.out) hb);clear BK462;clear BK463;clear HB;have BK462:=n0_;have BK463:=n1_;have HB:=n2_;clear n0_ n1_ n2_;(try clear hb);(try clear hb2);(try clear hk);(try clear hi)))
       go_ret
       exact ⟨by first|rfl|(simp [errW_none,errW_some] <;> rfl)|(simp [*,errW_none,errW_some] <;> rfl),bq2_ HB.out GE462.out GE463.out⟩
     ·rw [if_neg c7] at H
      have c7b0:(a0_4.toList == a1_4.toList)=false:=beq_eq_false_iff_ne.mpr c7
      have c7b1:(a0_4.toList != a1_4.toList)=true:=bne_iff_ne.mpr c7
      obtain rfl:=oi_ H
      go_enter Tryz.func7,Tryz.ntmps7
      go_wp2_with (first|((with_reducible refine gate_dst (N:=2) rfl ?_);refine box_event ?hg (N:=2) ?hd (cs:=#[.int .i64 a0_0,.int .i64 a0_1,.int .i64 a0_2,.string a0_3,.string a0_4,.slice A0_5 l0_5.length c0_5,.bool a0_6]) (t:=24) ?hr ?_;(case hd=>rfl);(case hg=>rfl);(case hr=>first|(go_simp;done)|(go_simp;rfl));intro gb462 hg w33 hbox hb;have n0_:=A_ (bp_ (bq0_ HB.out) hb);have n1_:=A_ (hbox);have n2_:=A_ ((by rw [hg];exact (bz_ (bq0_ HB.out)):w.heap.size≤gb462));have n3_:=A_ ((by rw [hg];exact (bz_ (bq0_ HB.out)):w.heap.size≤gb462));clear HB;have HB:=n0_;have BK462:=n1_;have GW462:=n2_;have GE462:=n3_;clear n0_ n1_ n2_ n3_;clear hb hbox hg)|((with_reducible refine gate_dst (N:=3) rfl ?_);refine box_event ?hg (N:=3) ?hd (cs:=#[.int .i64 a1_0,.int .i64 a1_1,.int .i64 a1_2,.string a1_3,.string a1_4,.slice A1_5 l1_5.length c1_5,.bool a1_6]) (t:=24) ?hr ?_;(case hd=>rfl);(case hg=>rfl);(case hr=>first|(go_simp;done)|(go_simp;rfl));intro gb463 hg w34 hbox hb;have n0_:=A_ (kb_ (g:=gb462) (o:=.cells #[.int .i64 a0_0,.int .i64 a0_1,.int .i64 a0_2,.string a0_3,.string a0_4,.slice A0_5 l0_5.length c0_5,.bool a0_6] 24 (0,0)) (kq_ BK462.out) hb);have n1_:=A_ (bp_ (bq1_ HB.out GE462.out) hb);have n2_:=A_ (hbox);have n3_:=A_ ((by rw [hg];exact (bz_ (bq1_ HB.out GE462.out)):w.heap.size≤gb463));have n4_:=A_ ((by rw [hg];exact (bz_ (bq1_ HB.out GE462.out)):w.heap.size≤gb463));have n5_:=A_ ((by rw [hg];exact Nat.ne_of_lt (blk_lt (g:=gb462) (o:=.cells #[.int .i64 a0_0,.int .i64 a0_1,.int .i64 a0_2,.string a0_3,.string a0_4,.slice A0_5 l0_5.length c0_5,.bool a0_6] 24 (0,0)) (kq_ BK462.out)):gb462≠gb463));have n6_:=A_ ((by rw [hg];exact Nat.ne_of_gt (blk_lt (g:=gb462) (o:=.cells #[.int .i64 a0_0,.int .i64 a0_1,.int .i64 a0_2,.string a0_3,.string a0_4,.slice A0_5 l0_5.length c0_5,.bool a0_6] 24 (0,0)) (kq_ BK462.out)):gb463≠gb462));clear BK462;clear HB;have BK462:=n0_;have HB:=n1_;have BK463:=n2_;have GW463:=n3_;have GE463:=n4_;have NB462_463:=n5_;have NB463_462:=n6_;clear n0_ n1_ n2_ n3_ n4_ n5_ n6_;clear hb hbox hg;have hnb35:=NB462_463.out;have hnc35:=NB463_462.out;obtain ⟨_,_,_,_,_,_,_,_,_,_,_,_,_,_⟩:=g7_ BK462.out;obtain ⟨_,_,_,_,_,_,_,_,_,_,_,_,_,_⟩:=g7_ BK463.out))
      go_ret
      exact ⟨by first|rfl|(simp [errW_none,errW_some] <;> rfl)|(simp [*,errW_none,errW_some] <;> rfl),bq2_ HB.out GE462.out GE463.out⟩
    ·rw [if_neg c6] at H
     have c6b0:(a0_3.toList == a1_3.toList)=false:=beq_eq_false_iff_ne.mpr c6
     have c6b1:(a0_3.toList != a1_3.toList)=true:=bne_iff_ne.mpr c6
     obtain rfl:=oi_ H
     go_enter Tryz.func7,Tryz.ntmps7
     go_wp2_with (first|((with_reducible refine gate_dst (N:=2) rfl ?_);refine box_event ?hg (N:=2) ?hd (cs:=#[.int .i64 a0_0,.int .i64 a0_1,.int .i64 a0_2,.string a0_3,.string a0_4,.slice A0_5 l0_5.length c0_5,.bool a0_6]) (t:=24) ?hr ?_;(case hd=>rfl);(case hg=>rfl);(case hr=>first|(go_simp;done)|(go_simp;rfl));intro gb462 hg w38 hbox hb;have n0_:=A_ (bp_ (bq0_ HB.out) hb);have n1_:=A_ (hbox);have n2_:=A_ ((by rw [hg];exact (bz_ (bq0_ HB.out)):w.heap.size≤gb462));have n3_:=A_ ((by rw [hg];exact (bz_ (bq0_ HB.out)):w.heap.size≤gb462));clear HB;have HB:=n0_;have BK462:=n1_;have GW462:=n2_;have GE462:=n3_;clear n0_ n1_ n2_ n3_;clear hb hbox hg)|((with_reducible refine gate_dst (N:=3) rfl ?_);refine box_event ?hg (N:=3) ?hd (cs:=#[.int .i64 a1_0,.int .i64 a1_1,.int .i64 a1_2,.string a1_3,.string a1_4,.slice A1_5 l1_5.length c1_5,.bool a1_6]) (t:=24) ?hr ?_;(case hd=>rfl);(case hg=>rfl);(case hr=>first|(go_simp;done)|(go_simp;rfl));intro gb463 hg w39 hbox hb;have n0_:=A_ (kb_ (g:=gb462) (o:=.cells #[.int .i64 a0_0,.int .i64 a0_1,.int .i64 a0_2,.string a0_3,.string a0_4,.slice A0_5 l0_5.length c0_5,.bool a0_6] 24 (0,0)) (kq_ BK462.out) hb);have n1_:=A_ (bp_ (bq1_ HB.out GE462.out) hb);have n2_:=A_ (hbox);have n3_:=A_ ((by rw [hg];exact (bz_ (bq1_ HB.out GE462.out)):w.heap.size≤gb463));have n4_:=A_ ((by rw [hg];exact (bz_ (bq1_ HB.out GE462.out)):w.heap.size≤gb463));have n5_:=A_ ((by rw [hg];exact Nat.ne_of_lt (blk_lt (g:=gb462) (o:=.cells #[.int .i64 a0_0,.int .i64 a0_1,.int .i64 a0_2,.string a0_3,.string a0_4,.slice A0_5 l0_5.length c0_5,.bool a0_6] 24 (0,0)) (kq_ BK462.out)):gb462≠gb463));have n6_:=A_ ((by rw [hg];exact Nat.ne_of_gt (blk_lt (g:=gb462) (o:=.cells #[.int .i64 a0_0,.int .i64 a0_1,.int .i64 a0_2,.string a0_3,.string a0_4,.slice A0_5 l0_5.length c0_5,.bool a0_6] 24 (0,0)) (kq_ BK462.out)):gb463≠gb462));clear BK462;clear HB;have BK462:=n0_;have HB:=n1_;have BK463:=n2_;have GW463:=n3_;have GE463:=n4_;have NB462_463:=n5_;have NB463_462:=n6_;clear n0_ n1_ n2_ n3_ n4_ n5_ n6_;clear hb hbox hg;have hnb40:=NB462_463.out;have hnc40:=NB463_462.out;obtain ⟨_,_,_,_,_,_,_,_,_,_,_,_,_,_⟩:=g7_ BK462.out;obtain ⟨_,_,_,_,_,_,_,_,_,_,_,_,_,_⟩:=g7_ BK463.out))
     go_ret
     exact ⟨by first|rfl|(simp [errW_none,errW_some] <;> rfl)|(simp [*,errW_none,errW_some] <;> rfl),bq2_ HB.out GE462.out GE463.out⟩
   ·rw [if_neg c5] at H
    have c5b0:(a0_2 == a1_2)=false:=beq_eq_false_iff_ne.mpr c5
    have c5b1:(a0_2 != a1_2)=true:=bne_iff_ne.mpr c5
    obtain rfl:=oi_ H
    go_enter Tryz.func7,Tryz.ntmps7
    go_wp2_with (first|((with_reducible refine gate_dst (N:=2) rfl ?_);refine box_event ?hg (N:=2) ?hd (cs:=#[.int .i64 a0_0,.int .i64 a0_1,.int .i64 a0_2,.string a0_3,.string a0_4,.slice A0_5 l0_5.length c0_5,.bool a0_6]) (t:=24) ?hr ?_;(case hd=>rfl);(case hg=>rfl);(case hr=>first|(go_simp;done)|(go_simp;rfl));intro gb462 hg w43 hbox hb;have n0_:=A_ (bp_ (bq0_ HB.out) hb);have n1_:=A_ (hbox);have n2_:=A_ ((by rw [hg];exact (bz_ (bq0_ HB.out)):w.heap.size≤gb462));have n3_:=A_ ((by rw [hg];exact (bz_ (bq0_ HB.out)):w.heap.size≤gb462));clear HB;have HB:=n0_;have BK462:=n1_;have GW462:=n2_;have GE462:=n3_;clear n0_ n1_ n2_ n3_;clear hb hbox hg)|((with_reducible refine gate_dst (N:=3) rfl ?_);refine box_event ?hg (N:=3) ?hd (cs:=#[.int .i64 a1_0,.int .i64 a1_1,.int .i64 a1_2,.string a1_3,.string a1_4,.slice A1_5 l1_5.length c1_5,.bool a1_6]) (t:=24) ?hr ?_;(case hd=>rfl);(case hg=>rfl);(case hr=>first|(go_simp;done)|(go_simp;rfl));intro gb463 hg w44 hbox hb;have n0_:=A_ (kb_ (g:=gb462) (o:=.cells #[.int .i64 a0_0,.int .i64 a0_1,.int .i64 a0_2,.string a0_3,.string a0_4,.slice A0_5 l0_5.length c0_5,.bool a0_6] 24 (0,0)) (kq_ BK462.out) hb);have n1_:=A_ (bp_ (bq1_ HB.out GE462.out) hb);have n2_:=A_ (hbox);have n3_:=A_ ((by rw [hg];exact (bz_ (bq1_ HB.out GE462.out)):w.heap.size≤gb463));have n4_:=A_ ((by rw [hg];exact (bz_ (bq1_ HB.out GE462.out)):w.heap.size≤gb463));have n5_:=A_ ((by rw [hg];exact Nat.ne_of_lt (blk_lt (g:=gb462) (o:=.cells #[.int .i64 a0_0,.int .i64 a0_1,.int .i64 a0_2,.string a0_3,.string a0_4,.slice A0_5 l0_5.length c0_5,.bool a0_6] 24 (0,0)) (kq_ BK462.out)):gb462≠gb463));have n6_:=A_ ((by rw [hg];exact Nat.ne_of_gt (blk_lt (g:=gb462) (o:=.cells #[.int .i64 a0_0,.int .i64 a0_1,.int .i64 a0_2,.string a0_3,.string a0_4,.slice A0_5 l0_5.length c0_5,.bool a0_6] 24 (0,0)) (kq_ BK462.out)):gb463≠gb462));clear BK462;clear HB;have BK462:=n0_;have HB:=n1_;have BK463:=n2_;have GW463:=n3_;have GE463:=n4_;have NB462_463:=n5_;have NB463_462:=n6_;clear n0_ n1_ n2_ n3_ n4_ n5_ n6_;clear hb hbox hg;have hnb45:=NB462_463.out;have hnc45:=NB463_462.out;obtain ⟨_,_,_,_,_,_,_,_,_,_,_,_,_,_⟩:=g7_ BK462.out;obtain ⟨_,_,_,_,_,_,_,_,_,_,_,_,_,_⟩:=g7_ BK463.out))
    go_ret
    exact ⟨by first|rfl|(simp [errW_none,errW_some] <;> rfl)|(simp [*,errW_none,errW_some] <;> rfl),bq2_ HB.out GE462.out GE463.out⟩
  ·rw [if_neg c4] at H
   have c4b0:(a0_1 == a1_1)=false:=beq_eq_false_iff_ne.mpr c4
   have c4b1:(a0_1 != a1_1)=true:=bne_iff_ne.mpr c4
   obtain rfl:=oi_ H
   go_enter Tryz.func7,Tryz.ntmps7
   go_wp2_with (first|((with_reducible refine gate_dst (N:=2) rfl ?_);refine box_event ?hg (N:=2) ?hd (cs:=#[.int .i64 a0_0,.int .i64 a0_1,.int .i64 a0_2,.string a0_3,.string a0_4,.slice A0_5 l0_5.length c0_5,.bool a0_6]) (t:=24) ?hr ?_;(case hd=>rfl);(case hg=>rfl);(case hr=>first|(go_simp;done)|(go_simp;rfl));intro gb462 hg w48 hbox hb;have n0_:=A_ (bp_ (bq0_ HB.out) hb);have n1_:=A_ (hbox);have n2_:=A_ ((by rw [hg];exact (bz_ (bq0_ HB.out)):w.heap.size≤gb462));have n3_:=A_ ((by rw [hg];exact (bz_ (bq0_ HB.out)):w.heap.size≤gb462));clear HB;have HB:=n0_;have BK462:=n1_;have GW462:=n2_;have GE462:=n3_;clear n0_ n1_ n2_ n3_;clear hb hbox hg)|((with_reducible refine gate_dst (N:=3) rfl ?_);refine box_event ?hg (N:=3) ?hd (cs:=#[.int .i64 a1_0,.int .i64 a1_1,.int .i64 a1_2,.string a1_3,.string a1_4,.slice A1_5 l1_5.length c1_5,.bool a1_6]) (t:=24) ?hr ?_;(case hd=>rfl);(case hg=>rfl);(case hr=>first|(go_simp;done)|(go_simp;rfl));intro gb463 hg w49 hbox hb;have n0_:=A_ (kb_ (g:=gb462) (o:=.cells #[.int .i64 a0_0,.int .i64 a0_1,.int .i64 a0_2,.string a0_3,.string a0_4,.slice A0_5 l0_5.length c0_5,.bool a0_6] 24 (0,0)) (kq_ BK462.out) hb);have n1_:=A_ (bp_ (bq1_ HB.out GE462.out) hb);have n2_:=A_ (hbox);have n3_:=A_ ((by rw [hg];exact (bz_ (bq1_ HB.out GE462.out)):w.heap.size≤gb463));have n4_:=A_ ((by rw [hg];exact (bz_ (bq1_ HB.out GE462.out)):w.heap.size≤gb463));have n5_:=A_ ((by rw [hg];exact Nat.ne_of_lt (blk_lt (g:=gb462) (o:=.cells #[.int .i64 a0_0,.int .i64 a0_1,.int .i64 a0_2,.string a0_3,.string a0_4,.slice A0_5 l0_5.length c0_5,.bool a0_6] 24 (0,0)) (kq_ BK462.out)):gb462≠gb463));have n6_:=A_ ((by rw [hg];exact Nat.ne_of_gt (blk_lt (g:=gb462) (o:=.cells #[.int .i64 a0_0,.int .i64 a0_1,.int .i64 a0_2,.string a0_3,.string a0_4,.slice A0_5 l0_5.length c0_5,.bool a0_6] 24 (0,0)) (kq_ BK462.out)):gb463≠gb462));clear BK462;clear HB;have BK462:=n0_;have HB:=n1_;have BK463:=n2_;have GW463:=n3_;have GE463:=n4_;have NB462_463:=n5_;have NB463_462:=n6_;clear n0_ n1_ n2_ n3_ n4_ n5_ n6_;clear hb hbox hg;have hnb50:=NB462_463.out;have hnc50:=NB463_462.out;obtain ⟨_,_,_,_,_,_,_,_,_,_,_,_,_,_⟩:=g7_ BK462.out;obtain ⟨_,_,_,_,_,_,_,_,_,_,_,_,_,_⟩:=g7_ BK463.out))
   go_ret
   exact ⟨by first|rfl|(simp [errW_none,errW_some] <;> rfl)|(simp [*,errW_none,errW_some] <;> rfl),bq2_ HB.out GE462.out GE463.out⟩
 ·rw [if_neg c3] at H
  have c3b0:(a0_0 == a1_0)=false:=beq_eq_false_iff_ne.mpr c3
  have c3b1:(a0_0 != a1_0)=true:=bne_iff_ne.mpr c3
  obtain rfl:=oi_ H
  go_enter Tryz.func7,Tryz.ntmps7
  go_wp2_with (first|((with_reducible refine gate_dst (N:=2) rfl ?_);refine box_event ?hg (N:=2) ?hd (cs:=#[.int .i64 a0_0,.int .i64 a0_1,.int .i64 a0_2,.string a0_3,.string a0_4,.slice A0_5 l0_5.length c0_5,.bool a0_6]) (t:=24) ?hr ?_;(case hd=>rfl);(case hg=>rfl);(case hr=>first|(go_simp;done)|(go_simp;rfl));intro gb462 hg w53 hbox hb;have n0_:=A_ (bp_ (bq0_ HB.out) hb);have n1_:=A_ (hbox);have n2_:=A_ ((by rw [hg];exact (bz_ (bq0_ HB.out)):w.heap.size≤gb462));have n3_:=A_ ((by rw [hg];exact (bz_ (bq0_ HB.out)):w.heap.size≤gb462));clear HB;have HB:=n0_;have BK462:=n1_;have GW462:=n2_;have GE462:=n3_;clear n0_ n1_ n2_ n3_;clear hb hbox hg)|((with_reducible refine gate_dst (N:=3) rfl ?_);refine box_event ?hg (N:=3) ?hd (cs:=#[.int .i64 a1_0,.int .i64 a1_1,.int .i64 a1_2,.string a1_3,.string a1_4,.slice A1_5 l1_5.length c1_5,.bool a1_6]) (t:=24) ?hr ?_;(case hd=>rfl);(case hg=>rfl);(case hr=>first|(go_simp;done)|(go_simp;rfl));intro gb463 hg w54 hbox hb;have n0_:=A_ (kb_ (g:=gb462) (o:=.cells #[.int .i64 a0_0,.int .i64 a0_1,.int .i64 a0_2,.string a0_3,.string a0_4,.slice A0_5 l0_5.length c0_5,.bool a0_6] 24 (0,0)) (kq_ BK462.out) hb);have n1_:=A_ (bp_ (bq1_ HB.out GE462.out) hb);have n2_:=A_ (hbox);have n3_:=A_ ((by rw [hg];exact (bz_ (bq1_ HB.out GE462.out)):w.heap.size≤gb463));have n4_:=A_ ((by rw [hg];exact (bz_ (bq1_ HB.out GE462.out)):w.heap.size≤gb463));have n5_:=A_ ((by rw [hg];exact Nat.ne_of_lt (blk_lt (g:=gb462) (o:=.cells #[.int .i64 a0_0,.int .i64 a0_1,.int .i64 a0_2,.string a0_3,.string a0_4,.slice A0_5 l0_5.length c0_5,.bool a0_6] 24 (0,0)) (kq_ BK462.out)):gb462≠gb463));have n6_:=A_ ((by rw [hg];exact Nat.ne_of_gt (blk_lt (g:=gb462) (o:=.cells #[.int .i64 a0_0,.int .i64 a0_1,.int .i64 a0_2,.string a0_3,.string a0_4,.slice A0_5 l0_5.length c0_5,.bool a0_6] 24 (0,0)) (kq_ BK462.out)):gb463≠gb462));clear BK462;clear HB;have BK462:=n0_;have HB:=n1_;have BK463:=n2_;have GW463:=n3_;have GE463:=n4_;have NB462_463:=n5_;have NB463_462:=n6_;clear n0_ n1_ n2_ n3_ n4_ n5_ n6_;clear hb hbox hg;have hnb55:=NB462_463.out;have hnc55:=NB463_462.out;obtain ⟨_,_,_,_,_,_,_,_,_,_,_,_,_,_⟩:=g7_ BK462.out;obtain ⟨_,_,_,_,_,_,_,_,_,_,_,_,_,_⟩:=g7_ BK463.out))
  go_ret
  exact ⟨by first|rfl|(simp [errW_none,errW_some] <;> rfl)|(simp [*,errW_none,errW_some] <;> rfl),bq2_ HB.out GE462.out GE463.out⟩
/-! ### laws_markText: function 27 -/
def laws_markText.l0:Nat→Int→ByteArray→Option (ByteArray)
 | 0,_,_=>none
 | k+1,x0,x3=>if x0>0 then ((some (([(wrap64 (48+(Int.tmod x0 10))) % 256]:List Int):List Int)).bind fun y465=>(if (strOfNums y465).size+x3.size≤9223372036854775807 then (laws_markText.l0 k (wrap64 (Int.tdiv x0 10)) ((strOfNums y465)++x3)) else (none))) else (if 1+x3.size≤9223372036854775807 then (some ((⟨#[109]⟩:ByteArray)++x3)) else (none))
def laws_markText.f (k:Nat) (a0:Int):Option (ByteArray):=if a0≤0 then (some (⟨#[109,48]⟩:ByteArray)) else (laws_markText.l0 k a0 (⟨#[]⟩:ByteArray))
theorem laws_markText.mono_l:∀ k,(∀ y0 y1,LeO (laws_markText.l0 k y0 y1) (laws_markText.l0 (k+1) y0 y1))
 | 0=>fun _ _ r h=>by simp [laws_markText.l0] at h
 | k+1=>by
  have ih0:=laws_markText.mono_l k
  ·intro y0 y1
   unfold laws_markText.l0
   repeat' first
   | (with_reducible exact ih0 _ _)
   | (with_reducible exact LeO.refl _)
   | (with_reducible exact LeO.none _)
   | (with_reducible refine LeO.ite ?_ ?_)
   | (with_reducible refine LeO.bind ?_ (fun _=>?_))
   | exact ih0 _ _
   | exact LeO.none _
   | refine LeO.ite ?_ ?_
   | refine LeO.bind ?_ (fun _=>?_)
theorem laws_markText.mono:∀ a0 k,LeO (laws_markText.f k a0) (laws_markText.f (k+1) a0):=by
 intro a0 k
 have ih0:=laws_markText.mono_l k
 unfold laws_markText.f
 repeat' first
  | (with_reducible exact ih0 _ _)
  | (with_reducible exact LeO.refl _)
  | (with_reducible exact LeO.none _)
  | (with_reducible refine LeO.ite ?_ ?_)
  | (with_reducible refine LeO.bind ?_ (fun _=>?_))
  | exact ih0 _ _
  | exact LeO.none _
  | refine LeO.ite ?_ ?_
  | refine LeO.bind ?_ (fun _=>?_)
set_option maxHeartbeats 8000000 in
set_option maxRecDepth 100000 in
theorem laws_markText.calls (k:Nat) (a0:Int) (r:ByteArray) (w:World) (h:laws_markText.f k a0=some r) :
 Calls Tryz.prog 27 #[.int .i64 a0] w fun e w'=>e=.returned (.string r)∧Below w.heap.size w w':=by
 have HB:=A_ (Below.refl w.heap.size w)
 have H:(if a0≤0 then (some (⟨#[109,48]⟩:ByteArray)) else (laws_markText.l0 k a0 (⟨#[]⟩:ByteArray)))=some r:=h
 clear h
 by_cases c2:a0≤0
 ·rw [if_pos c2] at H
  have c2b0:decide (a0≤0)=true:=dt_ c2
  clear c2
  obtain rfl:=oi_ H
  go_enter Tryz.func27,Tryz.ntmps27
  go_wp2
  go_ret
  exact ⟨by first|rfl|(simp [errW_none,errW_some] <;> rfl)|(simp [*,errW_none,errW_some] <;> rfl),bq0_ HB.out⟩
 ·rw [if_neg c2] at H
  have c2b0:decide (a0≤0)=false:=df_ c2
  clear c2
  have H':=A_ H
  clear H
  go_enter Tryz.func27,Tryz.ntmps27
  go_wp2
  go_loopg [0,3] k (fun kq v0 v3 w'=>∃ (x0_1:Int) (x3_1:ByteArray),v0=.int .i64 x0_1∧v3=.string x3_1∧Aside0 (laws_markText.l0 kq x0_1 x3_1=some r)∧Aside0 (kq≤k)∧Aside0 (Below w.heap.size w w'))
  case atStart=>exact ⟨(a0),((⟨#[]⟩:ByteArray)),(by first|rfl|(simp;done)|(simp [*];done)),(by first|rfl|(simp;done)|(simp [*];done)),H',⟨Nat.le_refl _⟩,⟨bq0_ HB.out⟩⟩
  case round =>
   clear H'
   try clear c2
   try clear c2b0
   try clear p2
   obtain ⟨x0_1,x3_1,rfl,rfl,HA,HK1,HB⟩:=hrel
   cases gk with
   | zero=>exact absurd HA.out (by simp [laws_markText.l0])
   | succ k1 =>
    have H:=HA.out
    clear HA
    simp only [laws_markText.l0] at H
    by_cases c3:x0_1>0
    ·rw [if_pos c3] at H
     have c3b0:decide (0<x0_1)=true:=dt_ c3
     clear c3
     obtain ⟨y465,hy465⟩:∃ y_:List Int,y_=(([(wrap64 (48+(Int.tmod x0_1 10))) % 256]:List Int)):=⟨_,rfl⟩
     replace H:(if (strOfNums y465).size+x3_1.size≤9223372036854775807 then (laws_markText.l0 k1 (wrap64 (Int.tdiv x0_1 10)) ((strOfNums y465)++x3_1)) else (none))=some r:=by first|(rw [hy465];with_reducible exact H)|(have H2_:=(Option.bind_some _ _).symm.trans H;rw [hy465];with_reducible exact H2_)|(have H2_:=(Option.bind_some _ _).symm.trans H;with_reducible exact H2_)|with_reducible exact H|(rw [hy465];exact H)|exact H
     have Ny465:=A_ hy465
     clear hy465
     by_cases c4:(strOfNums y465).size+x3_1.size≤9223372036854775807
     ·rw [if_pos c4] at H
      have c4b0:=eq_true c4
      have c4b1:decide ((strOfNums y465).size+x3_1.size≤9223372036854775807)=true:=dt_ c4
      try have c4b2:(9223372036854775807<(strOfNums y465).size+x3_1.size)=False:=eq_false (Nat.not_lt.2 c4)
      have H':=A_ H
      clear H
      go_wp2_with (first|((with_reducible refine gate_dst (N:=12) rfl ?_);refine Kd.R_lit (Kd.int .u8) _ 5 ?hg (N:=12) ?hd (xs:=([(wrap64 (48+(Int.tmod x0_1 10))) % 256]:List Int)) (inner:=[.int .u8 ((wrap64 (48+(Int.tmod x0_1 10))) % 256)]) (ok:=fun _=>True) (okp:=fun _=>True) ?hr ?hp (fun _ hk=>hk) trivial (Below.refl _ _) (Nat.le_refl _) (by simp) ?_;(case hd=>rfl);(case hg=>rfl);(case hr=>first|(go_simp;done)|(go_simp;rfl)|(first|(go_simp;done)|(go_simp;rfl)));(case hp=>exact (Reps.one (show Kd.M (Kd.int .u8) _ _ _ ((wrap64 (48+(Int.tmod x0_1 10))) % 256) [.int .u8 ((wrap64 (48+(Int.tmod x0_1 10))) % 256)] from rfl) (Reps.none _ _)));intro v466 w5 ho6 hb hg_ hnew_;clear hg_ hnew_;(first|rw [←Ny465.out] at ho6|(simp only [Int.reduceToNat] at ho6;rw [←Ny465.out] at ho6));have n0_:=A_ (Kd.R_lower ho6 (bz_ (bq0_ HB.out)));have n1_:=A_ (bp_ (bq0_ HB.out) hb);clear HB;have HO467:=n0_;have HB:=n1_;clear n0_ n1_;clear hb ho6;have hcv7:=own_string (P:=Tryz.prog) Tryz.underlying54 Tryz.underlying5 Tryz.underlying9 (Kd.own_of_R HO467.out)))
      go_roundg k1
      case measure=>have:=HK1.out;omega
      case rel=>exact ⟨(wrap64 (Int.tdiv x0_1 10)),((strOfNums y465)++x3_1),(by first|rfl|(simp;done)|(simp [*];done)),(by first|rfl|(simp;done)|(simp [*];done)),H',⟨by have:=HK1.out;omega⟩,⟨bq0_ HB.out⟩⟩
     ·rw [if_neg c4] at H
      exact absurd H (by simp)
    ·rw [if_neg c3] at H
     have c3b0:decide (0<x0_1)=false:=df_ c3
     clear c3
     by_cases c8:1+x3_1.size≤9223372036854775807
     ·rw [if_pos c8] at H
      have c8b0:=eq_true c8
      have c8b1:decide (1+x3_1.size≤9223372036854775807)=true:=dt_ c8
      try have c8b2:(9223372036854775807<1+x3_1.size)=False:=eq_false (Nat.not_lt.2 c8)
      obtain rfl:=oi_ H
      go_wp2
      go_ret
      exact ⟨by first|rfl|(simp [errW_none,errW_some] <;> rfl)|(simp [*,errW_none,errW_some] <;> rfl),bq0_ HB.out⟩
     ·rw [if_neg c8] at H
      exact absurd H (by simp)
/-! ### laws_markAttrS: function 23 -/
def laws_markAttrS.l0:Nat→List (S52)→Int→Int→Option (Int × (List (S52)))
 | 0,_,_,_=>none
 | k+1,x0,x1,x5=>if x5<(x0.length:Int) then ((laws_markText.f k x1).bind fun t468=>(if 0≤x5 then ((some (x0.set (x5:Int).toNat (⟨t468,(rd_T52 x0 x5).f1⟩:S52):List (S52))).bind fun y469=>((laws_markText.f k (wrap64 (x1+1))).bind fun t470=>(laws_markAttrS.l0 k (y469.set (x5:Int).toNat (⟨(rd_T52 y469 x5).f0,t470⟩:S52)) (wrap64 ((wrap64 (x1+1))+1)) (wrap64 (x5+1))))) else (none))) else (some (x1,x0))
def laws_markAttrS.f (k:Nat) (l0:List (S52)) (a1:Int):Option (Int × (List (S52))):=laws_markAttrS.l0 k l0 a1 0
theorem laws_markAttrS.mono_l:∀ k,(∀ y0 y1 y2,LeO (laws_markAttrS.l0 k y0 y1 y2) (laws_markAttrS.l0 (k+1) y0 y1 y2))
 | 0=>fun _ _ _ r h=>by simp [laws_markAttrS.l0] at h
 | k+1=>by
  have ih0:=laws_markAttrS.mono_l k
  ·intro y0 y1 y2
   unfold laws_markAttrS.l0
   repeat' first
   | (with_reducible exact ih0 _ _ _)
   | (with_reducible exact laws_markText.mono _ _)
   | (with_reducible exact LeO.refl _)
   | (with_reducible exact LeO.none _)
   | (with_reducible refine LeO.ite ?_ ?_)
   | (with_reducible refine LeO.bind ?_ (fun _=>?_))
   | exact ih0 _ _ _
   | exact laws_markText.mono _ _
   | exact LeO.none _
   | refine LeO.ite ?_ ?_
   | refine LeO.bind ?_ (fun _=>?_)
theorem laws_markAttrS.mono:∀ a0 a1 k,LeO (laws_markAttrS.f k a0 a1) (laws_markAttrS.f (k+1) a0 a1):=by
 intro a0 a1 k
 have ih0:=laws_markAttrS.mono_l k
 unfold laws_markAttrS.f
 repeat' first
  | (with_reducible exact ih0 _ _ _)
  | (with_reducible exact laws_markText.mono _ _)
  | (with_reducible exact LeO.refl _)
  | (with_reducible exact LeO.none _)
  | (with_reducible refine LeO.ite ?_ ?_)
  | (with_reducible refine LeO.bind ?_ (fun _=>?_))
  | exact ih0 _ _ _
  | exact laws_markText.mono _ _
  | exact LeO.none _
  | refine LeO.ite ?_ ?_
  | refine LeO.bind ?_ (fun _=>?_)
set_option maxHeartbeats 8000000 in
set_option maxRecDepth 100000 in
theorem laws_markAttrS.calls (k:Nat) (P0_:Nat→Prop) (u9000_:Value) (l0:List (S52)) (a1:Int) (r1:Int) (r2:List (S52)) (w0 w:World) (hB:Below w0.heap.size w0 w) (ho0:Kd.R k52 52 w w0.heap.size P0_ u9000_ l0) (h:laws_markAttrS.f k l0 a1=some (r1,r2)) :
 Calls Tryz.prog 23 #[u9000_,.int .i64 a1] w fun e w'=>e=.returned (.int .i64 r1)∧Kd.R k52 52 w' w0.heap.size (fun k_=>(P0_ k_∨w.heap.size≤k_)) u9000_ r2∧Below w0.heap.size w0 w'∧Kept w w' (fun k_=>P0_ k_):=by
 have HO0:=A_ (show Kd.R k52 52 w w0.heap.size (fun k_=>(P0_ k_∨w.heap.size≤k_)) u9000_ l0 from Kd.R_mono ho0 (fun k_ hk=>(.inl hk)))
 have HK:=A_ (Kept.refl w (fun k_=>P0_ k_))
 have HW0:=A_ hB.size
 have HB:=A_ hB
 clear hB
 have H:(laws_markAttrS.l0 k l0 a1 0)=some (r1,r2):=h
 clear h
 have H':=A_ H
 clear H
 go_enter Tryz.func23,Tryz.ntmps23
 go_wp2
 go_loopg [1,5] k (fun kq v1 v5 w'=>∃ (x0_1:List (S52)) (x1_1:Int) (x5_1:Int),v1=.int .i64 x1_1∧v5=.int .i64 x5_1∧Aside0 (laws_markAttrS.l0 kq x0_1 x1_1 x5_1=some (r1,r2))∧Aside0 (kq≤k)∧Aside0 (Kd.R k52 52 w' w0.heap.size (fun k_=>(P0_ k_∨w.heap.size≤k_)) u9000_ x0_1)∧Aside0 (Kept w w' (fun k_=>P0_ k_))∧Aside0 (Below w0.heap.size w0 w'))
 case atStart=>exact ⟨(l0),(a1),(0),(by first|rfl|(simp;done)|(simp [*];done)),(by first|rfl|(simp;done)|(simp [*];done)),H',⟨Nat.le_refl _⟩,⟨by (with_reducible repeat (first|apply Kd.R_alloc|apply Kd.R_drewN|apply Kd.R_drew));exact HO0.out⟩,⟨by repeat (first|(with_reducible first|exact HK.out|apply Kept.alloc|apply Kept.drewN|apply Kept.drew)|exact HK.out)⟩,⟨bq0_ HB.out⟩⟩
 case round =>
  clear H'
  try clear c2
  try clear p2
  obtain ⟨x0_1,x1_1,x5_1,rfl,rfl,HA,HK1,HO_0,HK,HB⟩:=hrel
  cases gk with
  | zero=>exact absurd HA.out (by simp [laws_markAttrS.l0])
  | succ k1 =>
   have H:=HA.out
   clear HA
   simp only [laws_markAttrS.l0] at H
   by_cases c3:x5_1<(x0_1.length:Int)
   ·rw [if_pos c3] at H
    have c3b0:decide (x5_1<(x0_1.length:Int))=true:=dt_ c3
    clear c3
    replace H:=ob_ H
    obtain ⟨t468,A40,H⟩:=H
    replace H:(if 0≤x5_1 then ((some (x0_1.set (x5_1:Int).toNat (⟨t468,(rd_T52 x0_1 x5_1).f1⟩:S52):List (S52))).bind fun y469=>((laws_markText.f k1 (wrap64 (x1_1+1))).bind fun t470=>(laws_markAttrS.l0 k1 (y469.set (x5_1:Int).toNat (⟨(rd_T52 y469 x5_1).f0,t470⟩:S52)) (wrap64 ((wrap64 (x1_1+1))+1)) (wrap64 (x5_1+1))))) else (none))=some (r1,r2):=H
    have A4:=A_ A40
    clear A40
    by_cases c5:0≤x5_1
    ·rw [if_pos c5] at H
     have c5b0:decide (0≤x5_1)=true:=dt_ c5
     clear c5
     obtain ⟨y469,hy469⟩:∃ y_:List (S52),y_=(x0_1.set (x5_1:Int).toNat (⟨t468,(rd_T52 x0_1 x5_1).f1⟩:S52)):=⟨_,rfl⟩
     replace H:((laws_markText.f k1 (wrap64 (x1_1+1))).bind fun t470=>(laws_markAttrS.l0 k1 (y469.set (x5_1:Int).toNat (⟨(rd_T52 y469 x5_1).f0,t470⟩:S52)) (wrap64 ((wrap64 (x1_1+1))+1)) (wrap64 (x5_1+1))))=some (r1,r2):=by first|(rw [hy469];with_reducible exact H)|(have H2_:=(Option.bind_some _ _).symm.trans H;rw [hy469];with_reducible exact H2_)|(have H2_:=(Option.bind_some _ _).symm.trans H;with_reducible exact H2_)|with_reducible exact H|(rw [hy469];exact H)|exact H
     have Ny469:=A_ hy469
     clear hy469
     replace H:=ob_ H
     obtain ⟨t470,A70,H⟩:=H
     replace H:(laws_markAttrS.l0 k1 (y469.set (x5_1:Int).toNat (⟨(rd_T52 y469 x5_1).f0,t470⟩:S52)) (wrap64 ((wrap64 (x1_1+1))+1)) (wrap64 (x5_1+1)))=some (r1,r2):=H
     have A7:=A_ A70
     clear A70
     obtain ⟨y471,hy471⟩:∃ y_:List (S52),y_=(y469.set (x5_1:Int).toNat (⟨(rd_T52 y469 x5_1).f0,t470⟩:S52)):=⟨_,rfl⟩
     replace H:(laws_markAttrS.l0 k1 y471 (wrap64 ((wrap64 (x1_1+1))+1)) (wrap64 (x5_1+1)))=some (r1,r2):=by first|(rw [hy471];with_reducible exact H)|(have H2_:=(Option.bind_some _ _).symm.trans H;rw [hy471];with_reducible exact H2_)|(have H2_:=(Option.bind_some _ _).symm.trans H;with_reducible exact H2_)|with_reducible exact H|(rw [hy471];exact H)|exact H
     have Ny471:=A_ hy471
     clear hy471
     have H':=A_ H
     clear H
     obtain ⟨Ao9,co9,eo9⟩:=Kd.R_slice HO_0.out
     subst eo9
     go_wp2_with (first|((with_reducible refine gate_callee (f:=27) rfl ?_);refine gl_ (some 15) rfl rfl Tryz.func27 (by kernel_rfl) rfl #[.int .i64 x1_1] rfl  ?_;(with_reducible refine (laws_markText.calls k1 x1_1 t468 _ A4.out).mono ?_);rintro e w10 ⟨rfl,hb⟩;refine ⟨_,rfl,?_⟩;have n0_:=A_ (Kd.R_below (rq_ HO_0.out) hb);have n1_:=A_ (Kept.below (S:=(fun k_=>P0_ k_)) (by repeat (first|(with_reducible first|exact HK.out|apply Kept.alloc|apply Kept.drewN|apply Kept.drew)|exact HK.out)) hb);have n2_:=A_ (bp_ (bq0_ HB.out) hb);clear HO_0;clear HK;clear HB;have HO_0:=n0_;have HK:=n1_;have HB:=n2_;clear n0_ n1_ n2_;(try clear hb);(try clear hb2);(try clear hk);(try clear hi);have p6:0≤(x5_1:Int):=oa_;have q6:(x5_1:Int)<((x0_1.length:Int):Int):=oa_;obtain ⟨go6,co6,eo6,gb6,gl6,cl6,HG6⟩:=Kd.R_form HO_0.out (by omega);(first|cases eo6|(injection eo6 with ea_ en_ ec_;(first|subst ea_|(injection ea_ with ea_;subst ea_));subst ec_;clear en_));have GB6:=A_ gb6;have GG6:=A_ HG6;clear gb6 gl6 HG6;have HMgo6:=A_ (show (P0_ go6∨w.heap.size≤go6) from (HO_0.out.1 _ rfl));obtain ⟨ce6,hcl6,hM6,hcc6,hfr6⟩:=Kd.R_elem HO_0.out z52 (x5_1:Int) p6 q6;obtain rfl:=k52_openM hM6;have hx6_0:w10.cell? ⟨go6,(x5_1:Int).toNat * 2,none⟩=some (.string ((rd_T52 x0_1 x5_1).f0)):=hcc6 0 _ rfl;have hx6_1:w10.cell? ⟨go6,(x5_1:Int).toNat * 2+1,none⟩=some (.string ((rd_T52 x0_1 x5_1).f1)):=hcc6 1 _ rfl;have hf6_0:w10.frozen? ⟨go6,(x5_1:Int).toNat * 2,none⟩=false:=hfr6 0;have hf6_1:w10.frozen? ⟨go6,(x5_1:Int).toNat * 2+1,none⟩=false:=hfr6 1;clear hcl6 hcc6 hfr6 hM6;replace p6:=eq_true p6;replace q6:=eq_true q6;have HX11:=A_ (show Kd.R k52 52 w10 w0.heap.size (fun k_=>(P0_ k_∨w.heap.size≤k_)) (.slice (some ⟨go6,0,none⟩) x0_1.length co9) x0_1 from (rq_ HO_0.out));obtain ⟨ce11,hcl11,hM11,hcc11,hfr11⟩:=Kd.R_elem HX11.out z52 (x5_1:Int) (oa_) (by have h_:(x5_1:Int)<((x0_1.length:Int):Int):=oa_;first|exact h_|(have e_:=(Kd.R_reads' HO_0.out).1;omega)|simpa using h_);obtain rfl:=k52_openM hM11;have HP11:=Kd.R_seg HX11.out (x5_1:Int) (oa_) (by have h_:(x5_1:Int)<((x0_1.length:Int):Int):=oa_;first|exact h_|(have e_:=(Kd.R_reads' HO_0.out).1;omega)|simpa using h_) (seg:=[.string t468]) (j:=0) hcl11 hcc11 (show 1≤2 from by decide) (x':=(⟨t468,(rd_T52 x0_1 x5_1).f1⟩:S52)) (k52_mkM _ _ _ (⟨t468,(rd_T52 x0_1 x5_1).f1⟩:S52) ) (fun _ hk=>hk);have hx11_0:=hcc11 0 _ rfl;(try simp only [show (k52).sz=2 from rfl,Nat.mul_one,Nat.add_zero] at hx11_0);have hf11_0:=hfr11 0;(try simp only [show (k52).sz=2 from rfl,Nat.mul_one,Nat.add_zero] at hf11_0);clear hcl11 hcc11 hfr11 hM11)|((with_reducible refine gate_store (t:=9) (p:=17) rfl ?_);refine store_event (t:=9) (p:=17) (v:=?vo_w12) (w1:=(w10.setCell ⟨go6,(x5_1:Int).toNat * 2,none⟩ (.string t468))) ?hg ?ho ?hn ?hr ?_;(case ho=>rfl);(case hg=>rfl);(case hn=>rfl);(case hr=>first|(go_simp;done)|(go_simp;rfl));intro w12 hw;have hg:w10.grownBy w12 (some go6):=(by rw [hw];exact HP11.2);have hp_:Kd.R k52 52 w12 w0.heap.size (fun k_=>(P0_ k_∨w.heap.size≤k_)) (.slice (some ⟨go6,0,none⟩) x0_1.length co9) y469:=(by rw [hw,Ny469.out];exact HP11.1);clear HP11;have n0_:=A_ (hp_);have n1_:=A_ ((by rw [hw];exact bs_ (HB.out) GB6.out:Below w0.heap.size w0 w12));have n2_:=A_ (Kept.of_grown (S:=(fun k_=>P0_ k_)) hg (by repeat (first|(with_reducible first|exact HK.out|apply Kept.alloc|apply Kept.drewN|apply Kept.drew)|exact HK.out)) (fun k_ e_=>(HO_0.out.1 k_ e_)));clear HO_0;clear HB;clear HK;have HO_0:=n0_;have HB:=n1_;have HK:=n2_;clear n0_ n1_ n2_;clear hg hw hp_)|((with_reducible refine gate_callee (f:=27) rfl ?_);refine gl_ (some 23) rfl rfl Tryz.func27 (by kernel_rfl) rfl #[.int .i64 (wrap64 (x1_1+1))] rfl  ?_;(with_reducible refine (laws_markText.calls k1 (wrap64 (x1_1+1)) t470 _ A7.out).mono ?_);rintro e w13 ⟨rfl,hb⟩;refine ⟨_,rfl,?_⟩;have n0_:=A_ (Kd.R_below (rq_ HO_0.out) hb);have n1_:=A_ (Kept.below (S:=(fun k_=>P0_ k_)) (by repeat (first|(with_reducible first|exact HK.out|apply Kept.alloc|apply Kept.drewN|apply Kept.drew)|exact HK.out)) hb);have n2_:=A_ (bp_ (bq0_ HB.out) hb);clear HO_0;clear HK;clear HB;have HO_0:=n0_;have HK:=n1_;have HB:=n2_;clear n0_ n1_ n2_;(try clear hb);(try clear hb2);(try clear hk);(try clear hi);have p8:0≤(x5_1:Int):=oa_;have q8:(x5_1:Int)<((x0_1.length:Int):Int):=oa_;obtain ⟨ce8,hcl8,hM8,hcc8,hfr8⟩:=Kd.R_elem HO_0.out z52 (x5_1:Int) p8 q8;obtain rfl:=k52_openM hM8;have hx8_0:w13.cell? ⟨go6,(x5_1:Int).toNat * 2,none⟩=some (.string ((rd_T52 y469 x5_1).f0)):=hcc8 0 _ rfl;have hx8_1:w13.cell? ⟨go6,(x5_1:Int).toNat * 2+1,none⟩=some (.string ((rd_T52 y469 x5_1).f1)):=hcc8 1 _ rfl;have hf8_0:w13.frozen? ⟨go6,(x5_1:Int).toNat * 2,none⟩=false:=hfr8 0;have hf8_1:w13.frozen? ⟨go6,(x5_1:Int).toNat * 2+1,none⟩=false:=hfr8 1;clear hcl8 hcc8 hfr8 hM8;replace p8:=eq_true p8;replace q8:=eq_true q8;have HX14:=A_ (show Kd.R k52 52 w13 w0.heap.size (fun k_=>(P0_ k_∨w.heap.size≤k_)) (.slice (some ⟨go6,0,none⟩) x0_1.length co9) y469 from (rq_ HO_0.out));obtain ⟨ce14,hcl14,hM14,hcc14,hfr14⟩:=Kd.R_elem HX14.out z52 (x5_1:Int) (oa_) (by have h_:(x5_1:Int)<((x0_1.length:Int):Int):=oa_;first|exact h_|(have e_:=(Kd.R_reads' HO_0.out).1;omega)|simpa using h_);obtain rfl:=k52_openM hM14;have HP14:=Kd.R_seg HX14.out (x5_1:Int) (oa_) (by have h_:(x5_1:Int)<((x0_1.length:Int):Int):=oa_;first|exact h_|(have e_:=(Kd.R_reads' HO_0.out).1;omega)|simpa using h_) (seg:=[.string t470]) (j:=1) hcl14 hcc14 (show 2≤2 from by decide) (x':=(⟨(rd_T52 y469 x5_1).f0,t470⟩:S52)) (k52_mkM _ _ _ (⟨(rd_T52 y469 x5_1).f0,t470⟩:S52) ) (fun _ hk=>hk);have hx14_1:=hcc14 1 _ rfl;(try simp only [show (k52).sz=2 from rfl,Nat.mul_one,Nat.add_zero] at hx14_1);have hf14_1:=hfr14 1;(try simp only [show (k52).sz=2 from rfl,Nat.mul_one,Nat.add_zero] at hf14_1);clear hcl14 hcc14 hfr14 hM14)|((with_reducible refine gate_store (t:=9) (p:=25) rfl ?_);refine store_event (t:=9) (p:=25) (v:=?vo_w15) (w1:=(w13.setCell ⟨go6,(x5_1:Int).toNat * 2+1,none⟩ (.string t470))) ?hg ?ho ?hn ?hr ?_;(case ho=>rfl);(case hg=>rfl);(case hn=>rfl);(case hr=>first|(go_simp;done)|(go_simp;rfl));intro w15 hw;have hg:w13.grownBy w15 (some go6):=(by rw [hw];exact HP14.2);have hp_:Kd.R k52 52 w15 w0.heap.size (fun k_=>(P0_ k_∨w.heap.size≤k_)) (.slice (some ⟨go6,0,none⟩) x0_1.length co9) y471:=(by rw [hw,Ny471.out];exact HP14.1);clear HP14;have n0_:=A_ (hp_);have n1_:=A_ ((by rw [hw];exact bs_ (HB.out) GB6.out:Below w0.heap.size w0 w15));have n2_:=A_ (Kept.of_grown (S:=(fun k_=>P0_ k_)) hg (by repeat (first|(with_reducible first|exact HK.out|apply Kept.alloc|apply Kept.drewN|apply Kept.drew)|exact HK.out)) (fun k_ e_=>(HO_0.out.1 k_ e_)));clear HO_0;clear HB;clear HK;have HO_0:=n0_;have HB:=n1_;have HK:=n2_;clear n0_ n1_ n2_;clear hg hw hp_))
     go_roundg k1
     case measure=>have:=HK1.out;omega
     case rel=>exact ⟨(y471),(wrap64 ((wrap64 (x1_1+1))+1)),(wrap64 (x5_1+1)),(by first|rfl|(simp;done)|(simp [*];done)),(by first|rfl|(simp;done)|(simp [*];done)),H',⟨by have:=HK1.out;omega⟩,⟨by (with_reducible repeat (first|apply Kd.R_alloc|apply Kd.R_drewN|apply Kd.R_drew));exact HO_0.out⟩,⟨by repeat (first|(with_reducible first|exact HK.out|apply Kept.alloc|apply Kept.drewN|apply Kept.drew)|exact HK.out)⟩,⟨bq0_ HB.out⟩⟩
    ·rw [if_neg c5] at H
     exact absurd H (by simp)
   ·rw [if_neg c3] at H
    have c3b0:decide (x5_1<(x0_1.length:Int))=false:=df_ c3
    clear c3
    simp only [Option.some.injEq,Prod.mk.injEq] at H
    obtain ⟨rfl,rfl⟩:=H
    obtain ⟨Ao16,co16,eo16⟩:=Kd.R_slice HO_0.out
    subst eo16
    go_wp2
    go_ret
    exact ⟨by first|rfl|(simp [errW_none,errW_some] <;> rfl)|(simp [*,errW_none,errW_some] <;> rfl),by (with_reducible repeat (first|apply Kd.R_alloc|apply Kd.R_drewN|apply Kd.R_drew));exact HO_0.out,bq0_ HB.out,by repeat (first|(with_reducible first|exact HK.out|apply Kept.alloc|apply Kept.drewN|apply Kept.drew)|exact HK.out)⟩
/-! ### laws_markToken: function 8 -/
def laws_markToken.f (k:Nat) (a0_0:Int) (a0_1:Int) (a0_2:Int) (a0_3:ByteArray) (a0_4:ByteArray) (l0_5:List (S52)) (a0_6:Bool) (a1:Int):Option (Int × (List (S52))):=(laws_markAttrS.f k l0_5 a1).bind fun bt473=>(some (bt473.1,bt473.2))
theorem laws_markToken.mono:∀ a0 a1 a2 a3 a4 a5 a6 a7 k,LeO (laws_markToken.f k a0 a1 a2 a3 a4 a5 a6 a7) (laws_markToken.f (k+1) a0 a1 a2 a3 a4 a5 a6 a7):=by
 intro a0 a1 a2 a3 a4 a5 a6 a7 k
 unfold laws_markToken.f
 repeat' first
  | (with_reducible exact laws_markAttrS.mono _ _ _)
  | (with_reducible exact LeO.refl _)
  | (with_reducible exact LeO.none _)
  | (with_reducible refine LeO.ite ?_ ?_)
  | (with_reducible refine LeO.bind ?_ (fun _=>?_))
  | exact laws_markAttrS.mono _ _ _
  | exact LeO.none _
  | refine LeO.ite ?_ ?_
  | refine LeO.bind ?_ (fun _=>?_)
set_option maxHeartbeats 8000000 in
set_option maxRecDepth 100000 in
theorem laws_markToken.calls (k:Nat) (a0_0:Int) (a0_1:Int) (a0_2:Int) (a0_3:ByteArray) (a0_4:ByteArray) (P0_5_:Nat→Prop) (u9000_:Value) (l0_5:List (S52)) (a0_6:Bool) (a1:Int) (r1:Int) (r2:List (S52)) (w0 w:World) (hB:Below w0.heap.size w0 w) (ho0_5:Kd.R k52 52 w w0.heap.size P0_5_ u9000_ l0_5) (h:laws_markToken.f k a0_0 a0_1 a0_2 a0_3 a0_4 l0_5 a0_6 a1=some (r1,r2)) :
 Calls Tryz.prog 8 #[.agg #[.int .i64 a0_0,.int .i64 a0_1,.int .i64 a0_2,.string a0_3,.string a0_4,u9000_,.bool a0_6],.int .i64 a1] w fun e w'=>e=.returned (.int .i64 r1)∧Kd.R k52 52 w' w0.heap.size (fun k_=>(P0_5_ k_∨w.heap.size≤k_)) u9000_ r2∧Below w0.heap.size w0 w'∧Kept w w' (fun k_=>P0_5_ k_):=by
 have hu24:=Tryz.underlying24
 have HO0_5:=A_ (show Kd.R k52 52 w w0.heap.size (fun k_=>(P0_5_ k_∨w.heap.size≤k_)) u9000_ l0_5 from Kd.R_mono ho0_5 (fun k_ hk=>(.inl hk)))
 have HK:=A_ (Kept.refl w (fun k_=>P0_5_ k_))
 have HW0:=A_ hB.size
 have HB:=A_ hB
 clear hB
 have H:((laws_markAttrS.f k l0_5 a1).bind fun bt473=>(some (bt473.1,bt473.2)))=some (r1,r2):=h
 clear h
 replace H:=ob_ H
 obtain ⟨⟨t473,t474⟩,A30,H⟩:=H
 replace H:(some (t473,t474))=some (r1,r2):=H
 have A3:=A_ A30
 clear A30
 simp only [Option.some.injEq,Prod.mk.injEq] at H
 obtain ⟨rfl,rfl⟩:=H
 obtain ⟨Ao4,co4,eo4⟩:=Kd.R_slice HO0_5.out
 subst eo4
 go_enter Tryz.func8,Tryz.ntmps8
 go_wp2_with (first|((with_reducible refine gate_dst (N:=2) rfl ?_);refine box_event ?hg (N:=2) ?hd (cs:=#[.int .i64 a0_0,.int .i64 a0_1,.int .i64 a0_2,.string a0_3,.string a0_4,.slice Ao4 l0_5.length co4,.bool a0_6]) (t:=24) ?hr ?_;(case hd=>rfl);(case hg=>rfl);(case hr=>first|(go_simp;done)|(go_simp;rfl));intro gb472 hg w5 hbox hb;have n0_:=A_ (Kd.R_below (rq_ HO0_5.out) hb);have n1_:=A_ (Kept.below (S:=(fun k_=>P0_5_ k_)) (by repeat (first|(with_reducible first|exact HK.out|apply Kept.alloc|apply Kept.drewN|apply Kept.drew)|exact HK.out)) hb);have n2_:=A_ (bp_ (bq0_ HB.out) hb);have n3_:=A_ (hbox);have n4_:=A_ ((by rw [hg];exact (by first|exact HK.out.1|exact (show Kept w _ (fun k_=>P0_5_ k_) from by repeat (first|(with_reducible first|exact HK.out|apply Kept.alloc|apply Kept.drewN|apply Kept.drew)|exact HK.out)).1):w.heap.size≤gb472));have n5_:=A_ ((by rw [hg];exact (bz_ (bq0_ HB.out)):w0.heap.size≤gb472));clear HO0_5;clear HK;clear HB;have HO0_5:=n0_;have HK:=n1_;have HB:=n2_;have BK472:=n3_;have GW472:=n4_;have GE472:=n5_;clear n0_ n1_ n2_ n3_ n4_ n5_;clear hb hbox hg;obtain ⟨_,_,_,_,_,_,_,_,_,_,_,_,_,_⟩:=g7_ BK472.out)|((with_reducible refine gate_callee (f:=23) rfl ?_);refine gl_ (some 8) rfl rfl Tryz.func23 (by kernel_rfl) rfl #[.slice Ao4 l0_5.length co4,.int .i64 a1] rfl  ?_;(with_reducible refine (laws_markAttrS.calls k (fun k_=>some k_=(.slice Ao4 l0_5.length co4:Value).ownBlock) (.slice Ao4 l0_5.length co4) l0_5 a1 t473 t474 w0 _ ?side1 ?side2 A3.out).mono ?_);(case side1=>repeat (first|(with_reducible first|exact HB.out|apply ba_|apply pd_|apply b1_|refine bs_ ?_ GE472.out)|exact HB.out));(case side2=>exact Kd.R_tight rfl HO0_5.out);rintro e w7 ⟨rfl,hy0,hb,hkp⟩;refine ⟨_,rfl,?_⟩;have n0_:=A_ (Kd.R_reok rfl hy0 (fun k_ e_=>HO0_5.out.1 k_ e_));have n1_:=A_ (blk_kept (kq_ BK472.out) hkp (fun hs_=>(fun e_=>(Kd.R_ne HO0_5.out BK472.out (by decide)) e_) hs_));have n2_:=A_ (Kept.then_ (S:=(fun k_=>P0_5_ k_)) (by repeat (first|(with_reducible first|exact HK.out|apply Kept.alloc|apply Kept.drewN|apply Kept.drew|refine Kept.setCell ?_ (.inr GW472.out) _)|exact HK.out)) hkp (fun k_ hs_=>(fun e_=>(HO0_5.out.1 k_ e_.symm)) hs_));have n3_:=A_ (hb);clear HO0_5;clear BK472;clear HK;clear HB;have HO0_5:=n0_;have BK472:=n1_;have HK:=n2_;have HB:=n3_;clear n0_ n1_ n2_ n3_;(try clear hb);(try clear hkp);(try clear hy0)))
 go_ret
 exact ⟨by first|rfl|(simp [errW_none,errW_some] <;> rfl)|(simp [*,errW_none,errW_some] <;> rfl),by (with_reducible repeat (first|apply Kd.R_alloc|apply Kd.R_drewN|apply Kd.R_drew));exact HO0_5.out,bq1_ HB.out GE472.out,by repeat (first|(with_reducible first|exact HK.out|apply Kept.alloc|apply Kept.drewN|apply Kept.drew|refine Kept.setCell ?_ (.inr GW472.out) _)|exact HK.out)⟩
end Go.Proofs.YtfkanlbmgbkniaaGreatDoor.PFnExactNextToken
