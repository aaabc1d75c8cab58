/- By a program of this session, out of the kit's print and contracts made by hand: the machine side of a law; Lean checks it. No conditions. -/
import Derived.Test.YtpoaaomcpleebaaGreatDoorPFnExactStartTagx0
import Derived.Test.YtpoaaomcpleebaaGreatDoorPFnExactStartTagx5
import Derived.Test.YtpoaaomcpleebaaGreatDoorPFnExactStartTagx6
namespace Go.Proofs.YtpoaaomcpleebaaGreatDoor.PFnExactStartTag
open Go.RowKit Go.Proofs.YtpoaaomcpleebaaGreatDoorW.PrintWords Go.Proofs.YtpoaaomcpleebaaGreatDoorW.PrintLast Go.Proofs.YtpoaaomcpleebaaGreatDoorW.PrintMore
attribute [local go_sem] max2_int min2_int max_two min_two max_three min_three max_four min_four
set_option linter.unusedVariables false
set_option linter.unusedSimpArgs false
/-! ### spec_l06Start: function 12 -/
def spec_l06Start.l0:Nat→ByteArray→Int→Int→Int→ByteArray→ByteArray→List (S51)→List (S32)→Option (ByteArray)
 | 0,_,_,_,_,_,_,_,_=>none
 | k+1,x3,x4,x124000,x124001,x124002,x124003,x124004,x124005=>if x4<(x124004.length:Int) then (if 0≤x4 then (if 1+((rd_T51 x124004 x4).f0).size≤9223372036854775807 then (if ((⟨#[32]⟩:ByteArray)++((rd_T51 x124004 x4).f0)).size+2≤9223372036854775807 then ((spec_l02Value.f k ((rd_T51 x124004 x4).f1)).bind fun t126=>(if (((⟨#[32]⟩:ByteArray)++((rd_T51 x124004 x4).f0))++(⟨#[61,34]⟩:ByteArray)).size+t126.size≤9223372036854775807 then (if ((((⟨#[32]⟩:ByteArray)++((rd_T51 x124004 x4).f0))++(⟨#[61,34]⟩:ByteArray))++t126).size+1≤9223372036854775807 then (if x3.size+(((((⟨#[32]⟩:ByteArray)++((rd_T51 x124004 x4).f0))++(⟨#[61,34]⟩:ByteArray))++t126)++(⟨#[34]⟩:ByteArray)).size≤9223372036854775807 then (spec_l06Start.l0 k (x3++(((((⟨#[32]⟩:ByteArray)++((rd_T51 x124004 x4).f0))++(⟨#[61,34]⟩:ByteArray))++t126)++(⟨#[34]⟩:ByteArray))) (wrap64 (x4+1)) x124000 x124001 x124002 x124003 x124004 x124005) else (none)) else (none)) else (none))) else (none)) else (none)) else (none)) else (if x3.size+1≤9223372036854775807 then (some (x3++(⟨#[62]⟩:ByteArray))) else (none))
def spec_l06Start.f (k:Nat) (a0_0:Int) (a0_1:Int) (a0_2:ByteArray) (a0_3:ByteArray) (l0_4:List (S51)) (l0_5:List (S32)):Option (ByteArray):=if 1+a0_2.size≤9223372036854775807 then (spec_l06Start.l0 k ((⟨#[60]⟩:ByteArray)++a0_2) 0 a0_0 a0_1 a0_2 a0_3 l0_4 l0_5) else (none)
theorem spec_l06Start.mono_l:∀ k,(∀ y0 y1 y2 y3 y4 y5 y6 y7,LeO (spec_l06Start.l0 k y0 y1 y2 y3 y4 y5 y6 y7) (spec_l06Start.l0 (k+1) y0 y1 y2 y3 y4 y5 y6 y7))
 | 0=>fun _ _ _ _ _ _ _ _ r h=>by simp [spec_l06Start.l0] at h
 | k+1=>by
  have ih0:=spec_l06Start.mono_l k
  ·intro y0 y1 y2 y3 y4 y5 y6 y7
   unfold spec_l06Start.l0
   repeat' first
   | (with_reducible exact ih0 _ _ _ _ _ _ _ _)
   | (with_reducible exact spec_l02Value.mono _ _)
   | (with_reducible exact LeO.refl _)
   | (with_reducible exact LeO.none _)
   | (with_reducible refine LeO.ite ?_ ?_)
   | (with_reducible refine LeO.bind ?_ (fun _=>?_))
   | exact ih0 _ _ _ _ _ _ _ _
   | exact spec_l02Value.mono _ _
   | exact LeO.none _
   | refine LeO.ite ?_ ?_
   | refine LeO.bind ?_ (fun _=>?_)
theorem spec_l06Start.mono:∀ a0 a1 a2 a3 a4 a5 k,LeO (spec_l06Start.f k a0 a1 a2 a3 a4 a5) (spec_l06Start.f (k+1) a0 a1 a2 a3 a4 a5):=by
 intro a0 a1 a2 a3 a4 a5 k
 have ih0:=spec_l06Start.mono_l k
 unfold spec_l06Start.f
 repeat' first
  | (with_reducible exact ih0 _ _ _ _ _ _ _ _)
  | (with_reducible exact spec_l02Value.mono _ _)
  | (with_reducible exact LeO.refl _)
  | (with_reducible exact LeO.none _)
  | (with_reducible refine LeO.ite ?_ ?_)
  | (with_reducible refine LeO.bind ?_ (fun _=>?_))
  | exact ih0 _ _ _ _ _ _ _ _
  | exact spec_l02Value.mono _ _
  | exact LeO.none _
  | refine LeO.ite ?_ ?_
  | refine LeO.bind ?_ (fun _=>?_)
set_option maxHeartbeats 8000000 in
set_option maxRecDepth 100000 in
theorem spec_l06Start.calls (k:Nat) (a0_0:Int) (a0_1:Int) (a0_2:ByteArray) (a0_3:ByteArray) (A0_4:Option Addr) (c0_4:Nat) (l0_4:List (S51)) (A0_5:Option Addr) (c0_5:Nat) (l0_5:List (S32)) (r:ByteArray) (w:World) (hr0_4:Kd.C k51 w A0_4 l0_4.length l0_4) (hc0_4:l0_4.length≤c0_4) (hr0_5:Kd.C k32 w A0_5 l0_5.length l0_5) (hc0_5:l0_5.length≤c0_5) (h:spec_l06Start.f k a0_0 a0_1 a0_2 a0_3 l0_4 l0_5=some r) :
 Calls Tryz.prog 12 #[.agg #[.int .i64 a0_0,.int .i64 a0_1,.string a0_2,.string a0_3,.slice A0_4 l0_4.length c0_4,.slice A0_5 l0_5.length c0_5]] w fun e w'=>e=.returned (.string r)∧Below w.heap.size w w':=by
 have hu32:=Tryz.underlying32
 have HR0_4:=A_ hr0_4
 have HC0_4:=A_ hc0_4
 clear hr0_4 hc0_4
 have HR0_5:=A_ hr0_5
 have HC0_5:=A_ hc0_5
 clear hr0_5 hc0_5
 have HB:=A_ (Below.refl w.heap.size w)
 have H:(if 1+a0_2.size≤9223372036854775807 then (spec_l06Start.l0 k ((⟨#[60]⟩:ByteArray)++a0_2) 0 a0_0 a0_1 a0_2 a0_3 l0_4 l0_5) else (none))=some r:=h
 clear h
 by_cases c2:1+a0_2.size≤9223372036854775807
 ·rw [if_pos c2] at H
  have c2b0:=eq_true c2
  have c2b1:decide (1+a0_2.size≤9223372036854775807)=true:=dt_ c2
  try have c2b2:(9223372036854775807<1+a0_2.size)=False:=eq_false (Nat.not_lt.2 c2)
  have H':=A_ H
  clear H
  go_enter Tryz.func12,Tryz.ntmps12
  go_wp2_with (first|((with_reducible refine gate_dst (N:=1) rfl ?_);refine box_event ?hg (N:=1) ?hd (cs:=#[.int .i64 a0_0,.int .i64 a0_1,.string a0_2,.string a0_3,.slice A0_4 l0_4.length c0_4,.slice A0_5 l0_5.length c0_5]) (t:=32) ?hr ?_;(case hd=>rfl);(case hg=>rfl);(case hr=>first|(go_simp;done)|(go_simp;rfl));intro gb123 hg w3 hbox hb;have n0_:=A_ (bp_ (by repeat (first|(with_reducible first|exact HB.out|apply ba_|apply pd_|apply b1_)|exact HB.out)) hb);have n1_:=A_ (hbox);have n2_:=A_ ((by rw [hg];exact (bz_ (by repeat (first|(with_reducible first|exact HB.out|apply ba_|apply pd_|apply b1_)|exact HB.out))):w.heap.size≤gb123));have n3_:=A_ ((by rw [hg];exact (bz_ (by repeat (first|(with_reducible first|exact HB.out|apply ba_|apply pd_|apply b1_)|exact HB.out))):w.heap.size≤gb123));clear HB;have HB:=n0_;have BK123:=n1_;have GW123:=n2_;have GE123:=n3_;clear n0_ n1_ n2_ n3_;clear hb hbox hg;have hcz4_0:w3.cell? ⟨gb123,0,none⟩=some (.int .i64 a0_0):=(bc_ BK123.out 0).trans rfl;have hcz4_1:w3.cell? ⟨gb123,1,none⟩=some (.int .i64 a0_1):=(bc_ BK123.out 1).trans rfl;have hcz4_2:w3.cell? ⟨gb123,2,none⟩=some (.string a0_2):=(bc_ BK123.out 2).trans rfl;have hcz4_3:w3.cell? ⟨gb123,3,none⟩=some (.string a0_3):=(bc_ BK123.out 3).trans rfl;have hcz4_4:w3.cell? ⟨gb123,4,none⟩=some (.slice A0_4 l0_4.length c0_4):=(bc_ BK123.out 4).trans rfl;have hcz4_5:w3.cell? ⟨gb123,5,none⟩=some (.slice A0_5 l0_5.length c0_5):=(bc_ BK123.out 5).trans rfl;have hfz4_0:=bf_ BK123.out 0;have hfz4_1:=bf_ BK123.out 1;have hfz4_2:=bf_ BK123.out 2;have hfz4_3:=bf_ BK123.out 3;have hfz4_4:=bf_ BK123.out 4;have hfz4_5:=bf_ BK123.out 5))
  repeat (go_quiet (first|((with_reducible refine gate_dst (N:=1) rfl ?_);refine box_event ?hg (N:=1) ?hd (cs:=#[.int .i64 a0_0,.int .i64 a0_1,.string a0_2,.string a0_3,.slice A0_4 l0_4.length c0_4,.slice A0_5 l0_5.length c0_5]) (t:=32) ?hr ?_;(case hd=>rfl);(case hg=>rfl);(case hr=>first|(go_simp;done)|(go_simp;rfl));intro gb123 hg w3 hbox hb;have n0_:=A_ (bp_ (by repeat (first|(with_reducible first|exact HB.out|apply ba_|apply pd_|apply b1_)|exact HB.out)) hb);have n1_:=A_ (hbox);have n2_:=A_ ((by rw [hg];exact (bz_ (by repeat (first|(with_reducible first|exact HB.out|apply ba_|apply pd_|apply b1_)|exact HB.out))):w.heap.size≤gb123));have n3_:=A_ ((by rw [hg];exact (bz_ (by repeat (first|(with_reducible first|exact HB.out|apply ba_|apply pd_|apply b1_)|exact HB.out))):w.heap.size≤gb123));clear HB;have HB:=n0_;have BK123:=n1_;have GW123:=n2_;have GE123:=n3_;clear n0_ n1_ n2_ n3_;clear hb hbox hg;have hcz4_0:w3.cell? ⟨gb123,0,none⟩=some (.int .i64 a0_0):=(bc_ BK123.out 0).trans rfl;have hcz4_1:w3.cell? ⟨gb123,1,none⟩=some (.int .i64 a0_1):=(bc_ BK123.out 1).trans rfl;have hcz4_2:w3.cell? ⟨gb123,2,none⟩=some (.string a0_2):=(bc_ BK123.out 2).trans rfl;have hcz4_3:w3.cell? ⟨gb123,3,none⟩=some (.string a0_3):=(bc_ BK123.out 3).trans rfl;have hcz4_4:w3.cell? ⟨gb123,4,none⟩=some (.slice A0_4 l0_4.length c0_4):=(bc_ BK123.out 4).trans rfl;have hcz4_5:w3.cell? ⟨gb123,5,none⟩=some (.slice A0_5 l0_5.length c0_5):=(bc_ BK123.out 5).trans rfl;have hfz4_0:=bf_ BK123.out 0;have hfz4_1:=bf_ BK123.out 1;have hfz4_2:=bf_ BK123.out 2;have hfz4_3:=bf_ BK123.out 3;have hfz4_4:=bf_ BK123.out 4;have hfz4_5:=bf_ BK123.out 5));try go_wp2_with (first|((with_reducible refine gate_dst (N:=1) rfl ?_);refine box_event ?hg (N:=1) ?hd (cs:=#[.int .i64 a0_0,.int .i64 a0_1,.string a0_2,.string a0_3,.slice A0_4 l0_4.length c0_4,.slice A0_5 l0_5.length c0_5]) (t:=32) ?hr ?_;(case hd=>rfl);(case hg=>rfl);(case hr=>first|(go_simp;done)|(go_simp;rfl));intro gb123 hg w3 hbox hb;have n0_:=A_ (bp_ (by repeat (first|(with_reducible first|exact HB.out|apply ba_|apply pd_|apply b1_)|exact HB.out)) hb);have n1_:=A_ (hbox);have n2_:=A_ ((by rw [hg];exact (bz_ (by repeat (first|(with_reducible first|exact HB.out|apply ba_|apply pd_|apply b1_)|exact HB.out))):w.heap.size≤gb123));have n3_:=A_ ((by rw [hg];exact (bz_ (by repeat (first|(with_reducible first|exact HB.out|apply ba_|apply pd_|apply b1_)|exact HB.out))):w.heap.size≤gb123));clear HB;have HB:=n0_;have BK123:=n1_;have GW123:=n2_;have GE123:=n3_;clear n0_ n1_ n2_ n3_;clear hb hbox hg;have hcz4_0:w3.cell? ⟨gb123,0,none⟩=some (.int .i64 a0_0):=(bc_ BK123.out 0).trans rfl;have hcz4_1:w3.cell? ⟨gb123,1,none⟩=some (.int .i64 a0_1):=(bc_ BK123.out 1).trans rfl;have hcz4_2:w3.cell? ⟨gb123,2,none⟩=some (.string a0_2):=(bc_ BK123.out 2).trans rfl;have hcz4_3:w3.cell? ⟨gb123,3,none⟩=some (.string a0_3):=(bc_ BK123.out 3).trans rfl;have hcz4_4:w3.cell? ⟨gb123,4,none⟩=some (.slice A0_4 l0_4.length c0_4):=(bc_ BK123.out 4).trans rfl;have hcz4_5:w3.cell? ⟨gb123,5,none⟩=some (.slice A0_5 l0_5.length c0_5):=(bc_ BK123.out 5).trans rfl;have hfz4_0:=bf_ BK123.out 0;have hfz4_1:=bf_ BK123.out 1;have hfz4_2:=bf_ BK123.out 2;have hfz4_3:=bf_ BK123.out 3;have hfz4_4:=bf_ BK123.out 4;have hfz4_5:=bf_ BK123.out 5)))
  go_loopg [3,4] k (fun kq v3 v4 w'=>∃ (x3_1:ByteArray) (x4_1:Int),v3=.string x3_1∧v4=.int .i64 x4_1∧Aside0 (spec_l06Start.l0 kq x3_1 x4_1 a0_0 a0_1 a0_2 a0_3 l0_4 l0_5=some r)∧Aside0 (kq≤k)∧Aside0 (w'.heap[gb123]? = some (.cells #[.int .i64 a0_0,.int .i64 a0_1,.string a0_2,.string a0_3,(.slice A0_4 l0_4.length c0_4),(.slice A0_5 l0_5.length c0_5)] 32 (0,0)))∧Aside0 (Below w.heap.size w w'))
  case atStart=>exact ⟨((⟨#[60]⟩:ByteArray)++a0_2),(0),(by first|rfl|(simp;done)|(simp [*];done)),(by first|rfl|(simp;done)|(simp [*];done)),H',⟨Nat.le_refl _⟩,⟨by (with_reducible repeat (first|refine kn_ ?_ _|refine kd_ ?_|refine ka_ ?_ _));exact BK123.out⟩,⟨by repeat (first|(with_reducible first|exact HB.out|apply ba_|apply pd_|apply b1_|refine bs_ ?_ GE123.out)|exact HB.out)⟩⟩
  case round =>
   clear H'
   try clear c1
   try clear c2
   try clear c2b0
   try clear c2b1
   try clear c2b2
   try clear p2
   try clear hcz4_0
   try clear hcz4_1
   try clear hcz4_2
   try clear hcz4_3
   try clear hcz4_4
   try clear hcz4_5
   try clear hfz4_0
   try clear hfz4_1
   try clear hfz4_2
   try clear hfz4_3
   try clear hfz4_4
   try clear hfz4_5
   obtain ⟨x3_1,x4_1,rfl,rfl,HA,HK1,BK123,HB⟩:=hrel
   cases gk with
   | zero=>exact absurd HA.out (by simp [spec_l06Start.l0])
   | succ k1 =>
    have H:=HA.out
    clear HA
    simp only [spec_l06Start.l0] at H
    by_cases c5:x4_1<(l0_4.length:Int)
    ·rw [if_pos c5] at H
     have c5b0:decide (x4_1<(l0_4.length:Int))=true:=dt_ c5
     clear c5
     by_cases c6:0≤x4_1
     ·rw [if_pos c6] at H
      have c6b0:decide (0≤x4_1)=true:=dt_ c6
      clear c6
      by_cases c7:1+((rd_T51 l0_4 x4_1).f0).size≤9223372036854775807
      ·rw [if_pos c7] at H
       have c7b0:=eq_true c7
       have c7b1:decide (1+((rd_T51 l0_4 x4_1).f0).size≤9223372036854775807)=true:=dt_ c7
       try have c7b2:(9223372036854775807<1+((rd_T51 l0_4 x4_1).f0).size)=False:=eq_false (Nat.not_lt.2 c7)
       by_cases c8:((⟨#[32]⟩:ByteArray)++((rd_T51 l0_4 x4_1).f0)).size+2≤9223372036854775807
       ·rw [if_pos c8] at H
        have c8b0:=eq_true c8
        have c8b1:decide (((⟨#[32]⟩:ByteArray)++((rd_T51 l0_4 x4_1).f0)).size+2≤9223372036854775807)=true:=dt_ c8
        try have c8b2:(9223372036854775807<((⟨#[32]⟩:ByteArray)++((rd_T51 l0_4 x4_1).f0)).size+2)=False:=eq_false (Nat.not_lt.2 c8)
        have c8b8:=c8b1
        have c8b9:=c8b2
        have l0_:(⟨#[32]⟩:ByteArray).size=1:=rfl
        try simp only [ByteArray.size_append,l0_] at c8b8 c8b9
        clear l0_
        replace H:=ob_ H
        obtain ⟨t126,A90,H⟩:=H
        replace H:(if (((⟨#[32]⟩:ByteArray)++((rd_T51 l0_4 x4_1).f0))++(⟨#[61,34]⟩:ByteArray)).size+t126.size≤9223372036854775807 then (if ((((⟨#[32]⟩:ByteArray)++((rd_T51 l0_4 x4_1).f0))++(⟨#[61,34]⟩:ByteArray))++t126).size+1≤9223372036854775807 then (if x3_1.size+(((((⟨#[32]⟩:ByteArray)++((rd_T51 l0_4 x4_1).f0))++(⟨#[61,34]⟩:ByteArray))++t126)++(⟨#[34]⟩:ByteArray)).size≤9223372036854775807 then (spec_l06Start.l0 k1 (x3_1++(((((⟨#[32]⟩:ByteArray)++((rd_T51 l0_4 x4_1).f0))++(⟨#[61,34]⟩:ByteArray))++t126)++(⟨#[34]⟩:ByteArray))) (wrap64 (x4_1+1)) a0_0 a0_1 a0_2 a0_3 l0_4 l0_5) else (none)) else (none)) else (none))=some r:=H
        have A9:=A_ A90
        clear A90
        by_cases c10:(((⟨#[32]⟩:ByteArray)++((rd_T51 l0_4 x4_1).f0))++(⟨#[61,34]⟩:ByteArray)).size+t126.size≤9223372036854775807
        ·rw [if_pos c10] at H
         have c10b0:=eq_true c10
         have c10b1:decide ((((⟨#[32]⟩:ByteArray)++((rd_T51 l0_4 x4_1).f0))++(⟨#[61,34]⟩:ByteArray)).size+t126.size≤9223372036854775807)=true:=dt_ c10
         try have c10b2:(9223372036854775807<(((⟨#[32]⟩:ByteArray)++((rd_T51 l0_4 x4_1).f0))++(⟨#[61,34]⟩:ByteArray)).size+t126.size)=False:=eq_false (Nat.not_lt.2 c10)
         have c10b8:=c10b1
         have c10b9:=c10b2
         have l0_:(⟨#[32]⟩:ByteArray).size=1:=rfl
         have l1_:(⟨#[61,34]⟩:ByteArray).size=2:=rfl
         try simp only [ByteArray.size_append,l0_,l1_] at c10b8 c10b9
         clear l0_ l1_
         by_cases c11:((((⟨#[32]⟩:ByteArray)++((rd_T51 l0_4 x4_1).f0))++(⟨#[61,34]⟩:ByteArray))++t126).size+1≤9223372036854775807
         ·rw [if_pos c11] at H
          have c11b0:=eq_true c11
          have c11b1:decide (((((⟨#[32]⟩:ByteArray)++((rd_T51 l0_4 x4_1).f0))++(⟨#[61,34]⟩:ByteArray))++t126).size+1≤9223372036854775807)=true:=dt_ c11
          try have c11b2:(9223372036854775807<((((⟨#[32]⟩:ByteArray)++((rd_T51 l0_4 x4_1).f0))++(⟨#[61,34]⟩:ByteArray))++t126).size+1)=False:=eq_false (Nat.not_lt.2 c11)
          have c11b8:=c11b1
          have c11b9:=c11b2
          have l0_:(⟨#[32]⟩:ByteArray).size=1:=rfl
          have l1_:(⟨#[61,34]⟩:ByteArray).size=2:=rfl
          try simp only [ByteArray.size_append,l0_,l1_] at c11b8 c11b9
          clear l0_ l1_
          by_cases c12:x3_1.size+(((((⟨#[32]⟩:ByteArray)++((rd_T51 l0_4 x4_1).f0))++(⟨#[61,34]⟩:ByteArray))++t126)++(⟨#[34]⟩:ByteArray)).size≤9223372036854775807
          ·rw [if_pos c12] at H
           have c12b0:=eq_true c12
           have c12b1:decide (x3_1.size+(((((⟨#[32]⟩:ByteArray)++((rd_T51 l0_4 x4_1).f0))++(⟨#[61,34]⟩:ByteArray))++t126)++(⟨#[34]⟩:ByteArray)).size≤9223372036854775807)=true:=dt_ c12
           try have c12b2:(9223372036854775807<x3_1.size+(((((⟨#[32]⟩:ByteArray)++((rd_T51 l0_4 x4_1).f0))++(⟨#[61,34]⟩:ByteArray))++t126)++(⟨#[34]⟩:ByteArray)).size)=False:=eq_false (Nat.not_lt.2 c12)
           have c12b8:=c12b1
           have c12b9:=c12b2
           have l0_:(⟨#[32]⟩:ByteArray).size=1:=rfl
           have l1_:(⟨#[34]⟩:ByteArray).size=1:=rfl
           have l2_:(⟨#[61,34]⟩:ByteArray).size=2:=rfl
           try simp only [ByteArray.size_append,l0_,l1_,l2_] at c12b8 c12b9
           clear l0_ l1_ l2_
           have H':=A_ H
           clear H
           have hcz13_0:wr.cell? ⟨gb123,0,none⟩=some (.int .i64 a0_0):=(bc_ BK123.out 0).trans rfl
           have hcz13_1:wr.cell? ⟨gb123,1,none⟩=some (.int .i64 a0_1):=(bc_ BK123.out 1).trans rfl
           have hcz13_2:wr.cell? ⟨gb123,2,none⟩=some (.string a0_2):=(bc_ BK123.out 2).trans rfl
           have hcz13_3:wr.cell? ⟨gb123,3,none⟩=some (.string a0_3):=(bc_ BK123.out 3).trans rfl
           have hcz13_4:wr.cell? ⟨gb123,4,none⟩=some (.slice A0_4 l0_4.length c0_4):=(bc_ BK123.out 4).trans rfl
           have hcz13_5:wr.cell? ⟨gb123,5,none⟩=some (.slice A0_5 l0_5.length c0_5):=(bc_ BK123.out 5).trans rfl
           have hfz13_0:=bf_ BK123.out 0
           have hfz13_1:=bf_ BK123.out 1
           have hfz13_2:=bf_ BK123.out 2
           have hfz13_3:=bf_ BK123.out 3
           have hfz13_4:=bf_ BK123.out 4
           have hfz13_5:=bf_ BK123.out 5
           have p124:0≤(x4_1:Int):=od_ (by first|(with_reducible assumption)|assumption)
           have q124:x4_1<(l0_4.length:Int):=od_ (by first|(with_reducible assumption)|assumption)
           obtain ⟨ad124,e124,hx124_0,hx124_1⟩:=at_T51 HR0_4.out x4_1 p124 q124
           cases e124
           replace hx124_0:=(HB.out.cell (bl_ w _ hx124_0)).trans hx124_0
           replace hx124_1:=(HB.out.cell (bl_ w _ hx124_1)).trans hx124_1
           replace p124:=eq_true p124
           replace q124:=eq_true q124
           have p125:0≤(x4_1:Int):=od_ (by first|(with_reducible assumption)|assumption)
           have q125:x4_1<(l0_4.length:Int):=od_ (by first|(with_reducible assumption)|assumption)
           obtain ⟨ad125,e125,hx125_0,hx125_1⟩:=at_T51 HR0_4.out x4_1 p125 q125
           obtain rfl:ad124=ad125:=(by injection e125)
           replace hx125_0:=(HB.out.cell (bl_ w _ hx125_0)).trans hx125_0
           replace hx125_1:=(HB.out.cell (bl_ w _ hx125_1)).trans hx125_1
           replace p125:=eq_true p125
           replace q125:=eq_true q125
           go_wp2_with (first|(go_at_call 23;(with_reducible refine (spec_l02Value.calls k1 ((rd_T51 l0_4 x4_1).f1) t126 _ A9.out).mono ?_);rintro e w' ⟨rfl,⟨nd,rfl⟩⟩;(try first|exact ⟨rfl,_,ww_ _ _ _⟩|exact ⟨rfl,_,Eq.trans (ww_ _ _ _) (congrArg (World.drewN _) (Nat.add_assoc _ _ _))⟩)))
           repeat (go_quiet (first|(go_at_call 23;(with_reducible refine (spec_l02Value.calls k1 ((rd_T51 l0_4 x4_1).f1) t126 _ A9.out).mono ?_);rintro e w' ⟨rfl,⟨nd,rfl⟩⟩;(try first|exact ⟨rfl,_,ww_ _ _ _⟩|exact ⟨rfl,_,Eq.trans (ww_ _ _ _) (congrArg (World.drewN _) (Nat.add_assoc _ _ _))⟩)));try go_wp2_with (first|(go_at_call 23;(with_reducible refine (spec_l02Value.calls k1 ((rd_T51 l0_4 x4_1).f1) t126 _ A9.out).mono ?_);rintro e w' ⟨rfl,⟨nd,rfl⟩⟩;(try first|exact ⟨rfl,_,ww_ _ _ _⟩|exact ⟨rfl,_,Eq.trans (ww_ _ _ _) (congrArg (World.drewN _) (Nat.add_assoc _ _ _))⟩))))
           go_roundg k1
           case measure=>have:=HK1.out;omega
           case rel=>exact ⟨(x3_1++(((((⟨#[32]⟩:ByteArray)++((rd_T51 l0_4 x4_1).f0))++(⟨#[61,34]⟩:ByteArray))++t126)++(⟨#[34]⟩:ByteArray))),(wrap64 (x4_1+1)),(by first|rfl|(simp;done)|(simp [*];done)),(by first|rfl|(simp;done)|(simp [*];done)),H',⟨by have:=HK1.out;omega⟩,⟨by (with_reducible repeat (first|refine kn_ ?_ _|refine kd_ ?_|refine ka_ ?_ _));exact BK123.out⟩,⟨by repeat (first|(with_reducible first|exact HB.out|apply ba_|apply pd_|apply b1_|refine bs_ ?_ GE123.out)|exact HB.out)⟩⟩
          ·rw [if_neg c12] at H
           exact absurd H (by simp)
         ·rw [if_neg c11] at H
          exact absurd H (by simp)
        ·rw [if_neg c10] at H
         exact absurd H (by simp)
       ·rw [if_neg c8] at H
        exact absurd H (by simp)
      ·rw [if_neg c7] at H
       exact absurd H (by simp)
     ·rw [if_neg c6] at H
      exact absurd H (by simp)
    ·rw [if_neg c5] at H
     have c5b0:decide (x4_1<(l0_4.length:Int))=false:=df_ c5
     clear c5
     by_cases c14:x3_1.size+1≤9223372036854775807
     ·rw [if_pos c14] at H
      have c14b0:=eq_true c14
      have c14b1:decide (x3_1.size+1≤9223372036854775807)=true:=dt_ c14
      try have c14b2:(9223372036854775807<x3_1.size+1)=False:=eq_false (Nat.not_lt.2 c14)
      obtain rfl:=oi_ H
      have hcz15_0:wr.cell? ⟨gb123,0,none⟩=some (.int .i64 a0_0):=(bc_ BK123.out 0).trans rfl
      have hcz15_1:wr.cell? ⟨gb123,1,none⟩=some (.int .i64 a0_1):=(bc_ BK123.out 1).trans rfl
      have hcz15_2:wr.cell? ⟨gb123,2,none⟩=some (.string a0_2):=(bc_ BK123.out 2).trans rfl
      have hcz15_3:wr.cell? ⟨gb123,3,none⟩=some (.string a0_3):=(bc_ BK123.out 3).trans rfl
      have hcz15_4:wr.cell? ⟨gb123,4,none⟩=some (.slice A0_4 l0_4.length c0_4):=(bc_ BK123.out 4).trans rfl
      have hcz15_5:wr.cell? ⟨gb123,5,none⟩=some (.slice A0_5 l0_5.length c0_5):=(bc_ BK123.out 5).trans rfl
      have hfz15_0:=bf_ BK123.out 0
      have hfz15_1:=bf_ BK123.out 1
      have hfz15_2:=bf_ BK123.out 2
      have hfz15_3:=bf_ BK123.out 3
      have hfz15_4:=bf_ BK123.out 4
      have hfz15_5:=bf_ BK123.out 5
      go_wp2
      repeat (go_quiet (fail);try go_wp2)
      go_ret
      exact ⟨by first|rfl|(simp [errW_none,errW_some] <;> rfl)|(simp [*,errW_none,errW_some] <;> rfl),by repeat (first|(with_reducible first|exact HB.out|apply ba_|apply pd_|apply b1_|refine bs_ ?_ GE123.out)|exact HB.out)⟩
     ·rw [if_neg c14] at H
      exact absurd H (by simp)
 ·rw [if_neg c2] at H
  exact absurd H (by simp)
/-! ### spec_StartTag: function 5 -/
def spec_StartTag.f (k:Nat) (a0_0:Int) (a0_1:Int) (a0_2:ByteArray) (a0_3:ByteArray) (l0_4:List (S51)) (l0_5:List (S32)):Option (ByteArray × Int):=(spec_l03Plain.f k a0_0 a0_1 a0_2 a0_3 l0_4 l0_5).bind fun t128=>(if t128=true then (if a0_0=1 then ((spec_l06Start.f k a0_0 a0_1 a0_2 a0_3 l0_4 l0_5).bind fun t129=>(some (t129,0))) else (some ((⟨#[]⟩:ByteArray),9))) else (some ((⟨#[]⟩:ByteArray),1)))
theorem spec_StartTag.mono:∀ a0 a1 a2 a3 a4 a5 k,LeO (spec_StartTag.f k a0 a1 a2 a3 a4 a5) (spec_StartTag.f (k+1) a0 a1 a2 a3 a4 a5):=by
 intro a0 a1 a2 a3 a4 a5 k
 unfold spec_StartTag.f
 repeat' first
  | (with_reducible exact spec_l03Plain.mono _ _ _ _ _ _ _)
  | (with_reducible exact spec_l06Start.mono _ _ _ _ _ _ _)
  | (with_reducible exact LeO.refl _)
  | (with_reducible exact LeO.none _)
  | (with_reducible refine LeO.ite ?_ ?_)
  | (with_reducible refine LeO.bind ?_ (fun _=>?_))
  | exact spec_l03Plain.mono _ _ _ _ _ _ _
  | exact spec_l06Start.mono _ _ _ _ _ _ _
  | exact LeO.none _
  | refine LeO.ite ?_ ?_
  | refine LeO.bind ?_ (fun _=>?_)
set_option maxHeartbeats 8000000 in
set_option maxRecDepth 100000 in
theorem spec_StartTag.calls (k:Nat) (a0_0:Int) (a0_1:Int) (a0_2:ByteArray) (a0_3:ByteArray) (A0_4:Option Addr) (c0_4:Nat) (l0_4:List (S51)) (A0_5:Option Addr) (c0_5:Nat) (l0_5:List (S32)) (r1:ByteArray) (r2:Int) (w:World) (hr0_4:Kd.C k51 w A0_4 l0_4.length l0_4) (hc0_4:l0_4.length≤c0_4) (hr0_5:Kd.C k32 w A0_5 l0_5.length l0_5) (hc0_5:l0_5.length≤c0_5) (h:spec_StartTag.f k a0_0 a0_1 a0_2 a0_3 l0_4 l0_5=some (r1,r2)) :
 Calls Tryz.prog 5 #[.agg #[.int .i64 a0_0,.int .i64 a0_1,.string a0_2,.string a0_3,.slice A0_4 l0_4.length c0_4,.slice A0_5 l0_5.length c0_5]] w fun e w'=>e=.returned (.tuple #[.string r1,.int .i64 r2])∧Below w.heap.size w w':=by
 have hu32:=Tryz.underlying32
 have HR0_4:=A_ hr0_4
 have HC0_4:=A_ hc0_4
 clear hr0_4 hc0_4
 have HR0_5:=A_ hr0_5
 have HC0_5:=A_ hc0_5
 clear hr0_5 hc0_5
 have HB:=A_ (Below.refl w.heap.size w)
 have H:((spec_l03Plain.f k a0_0 a0_1 a0_2 a0_3 l0_4 l0_5).bind fun t128=>(if t128=true then (if a0_0=1 then ((spec_l06Start.f k a0_0 a0_1 a0_2 a0_3 l0_4 l0_5).bind fun t129=>(some (t129,0))) else (some ((⟨#[]⟩:ByteArray),9))) else (some ((⟨#[]⟩:ByteArray),1))))=some (r1,r2):=h
 clear h
 replace H:=ob_ H
 obtain ⟨t128,A20,H⟩:=H
 replace H:(if t128=true then (if a0_0=1 then ((spec_l06Start.f k a0_0 a0_1 a0_2 a0_3 l0_4 l0_5).bind fun t129=>(some (t129,0))) else (some ((⟨#[]⟩:ByteArray),9))) else (some ((⟨#[]⟩:ByteArray),1)))=some (r1,r2):=H
 have A2:=A_ A20
 clear A20
 by_cases c3:t128=true
 ·subst c3
  have H1:(if a0_0=1 then ((spec_l06Start.f k a0_0 a0_1 a0_2 a0_3 l0_4 l0_5).bind fun t129=>(some (t129,0))) else (some ((⟨#[]⟩:ByteArray),9)))=some (r1,r2):=by rw [if_pos rfl] at H;exact H
  clear H
  have H:=H1
  clear H1
  by_cases c4:a0_0=1
  ·rw [if_pos c4] at H
   have c4b0:(a0_0 == 1)=true:=beq_iff_eq.mpr c4
   have c4b1:(a0_0 != 1)=false:=bne_eq_false_iff_eq.mpr c4
   clear c4
   replace H:=ob_ H
   obtain ⟨t129,A50,H⟩:=H
   replace H:(some (t129,0))=some (r1,r2):=H
   have A5:=A_ A50
   clear A50
   simp only [Option.some.injEq,Prod.mk.injEq] at H
   obtain ⟨rfl,rfl⟩:=H
   go_enter Tryz.func5,Tryz.ntmps5
   go_wp2_with (first|((with_reducible refine gate_dst (N:=1) rfl ?_);refine box_event ?hg (N:=1) ?hd (cs:=#[.int .i64 a0_0,.int .i64 a0_1,.string a0_2,.string a0_3,.slice A0_4 l0_4.length c0_4,.slice A0_5 l0_5.length c0_5]) (t:=32) ?hr ?_;(case hd=>rfl);(case hg=>rfl);(case hr=>first|(go_simp;done)|(go_simp;rfl));intro gb127 hg w6 hbox hb;have n0_:=A_ (bp_ (by repeat (first|(with_reducible first|exact HB.out|apply ba_|apply pd_|apply b1_)|exact HB.out)) hb);have n1_:=A_ (hbox);have n2_:=A_ ((by rw [hg];exact (bz_ (by repeat (first|(with_reducible first|exact HB.out|apply ba_|apply pd_|apply b1_)|exact HB.out))):w.heap.size≤gb127));have n3_:=A_ ((by rw [hg];exact (bz_ (by repeat (first|(with_reducible first|exact HB.out|apply ba_|apply pd_|apply b1_)|exact HB.out))):w.heap.size≤gb127));clear HB;have HB:=n0_;have BK127:=n1_;have GW127:=n2_;have GE127:=n3_;clear n0_ n1_ n2_ n3_;clear hb hbox hg;have hcz7_0:w6.cell? ⟨gb127,0,none⟩=some (.int .i64 a0_0):=(bc_ BK127.out 0).trans rfl;have hcz7_1:w6.cell? ⟨gb127,1,none⟩=some (.int .i64 a0_1):=(bc_ BK127.out 1).trans rfl;have hcz7_2:w6.cell? ⟨gb127,2,none⟩=some (.string a0_2):=(bc_ BK127.out 2).trans rfl;have hcz7_3:w6.cell? ⟨gb127,3,none⟩=some (.string a0_3):=(bc_ BK127.out 3).trans rfl;have hcz7_4:w6.cell? ⟨gb127,4,none⟩=some (.slice A0_4 l0_4.length c0_4):=(bc_ BK127.out 4).trans rfl;have hcz7_5:w6.cell? ⟨gb127,5,none⟩=some (.slice A0_5 l0_5.length c0_5):=(bc_ BK127.out 5).trans rfl;have hfz7_0:=bf_ BK127.out 0;have hfz7_1:=bf_ BK127.out 1;have hfz7_2:=bf_ BK127.out 2;have hfz7_3:=bf_ BK127.out 3;have hfz7_4:=bf_ BK127.out 4;have hfz7_5:=bf_ BK127.out 5)|((with_reducible refine gate_callee (f:=11) rfl ?_);refine goesL_ (some 5) rfl rfl Tryz.func11 (by kernel_rfl) rfl #[.agg #[.int .i64 a0_0,.int .i64 a0_1,.string a0_2,.string a0_3,.slice A0_4 l0_4.length c0_4,.slice A0_5 l0_5.length c0_5]] rfl (by (try simp only [List.map_toArray,List.map_cons,List.map_nil]);first|done|rfl|(simp only [ld_,lt_];rfl)) ?_;(with_reducible refine (spec_l03Plain.calls k a0_0 a0_1 a0_2 a0_3 _ _ l0_4 _ _ l0_5 true _ ?side1 ?side2 ?side3 ?side4 A2.out).mono ?_);(case side1=>repeat (first|exact (cb_ HR0_4.out HB.out)|(with_reducible refine ca_ ?_ _)|(with_reducible refine cn_ ?_ _)|(with_reducible refine cd_ ?_)));(case side2=>exact HC0_4.out);(case side3=>repeat (first|exact (cb_ HR0_5.out HB.out)|(with_reducible refine ca_ ?_ _)|(with_reducible refine cn_ ?_ _)|(with_reducible refine cd_ ?_)));(case side4=>exact HC0_5.out);rintro e w8 ⟨rfl,hb⟩;refine ⟨_,rfl,?_⟩;have n0_:=A_ (kb_ (g:=gb127) (o:=.cells #[.int .i64 a0_0,.int .i64 a0_1,.string a0_2,.string a0_3,.slice A0_4 l0_4.length c0_4,.slice A0_5 l0_5.length c0_5] 32 (0,0)) (by (with_reducible repeat (first|refine kn_ ?_ _|refine kd_ ?_|refine ka_ ?_ _));exact BK127.out) hb);have n1_:=A_ (bp_ (by repeat (first|(with_reducible first|exact HB.out|apply ba_|apply pd_|apply b1_|refine bs_ ?_ GE127.out)|exact HB.out)) hb);clear BK127;clear HB;have BK127:=n0_;have HB:=n1_;clear n0_ n1_;(try clear hb);(try clear hb2);(try clear hk);(try clear hi);have hcz9_0:w8.cell? ⟨gb127,0,none⟩=some (.int .i64 a0_0):=(bc_ BK127.out 0).trans rfl;have hcz9_1:w8.cell? ⟨gb127,1,none⟩=some (.int .i64 a0_1):=(bc_ BK127.out 1).trans rfl;have hcz9_2:w8.cell? ⟨gb127,2,none⟩=some (.string a0_2):=(bc_ BK127.out 2).trans rfl;have hcz9_3:w8.cell? ⟨gb127,3,none⟩=some (.string a0_3):=(bc_ BK127.out 3).trans rfl;have hcz9_4:w8.cell? ⟨gb127,4,none⟩=some (.slice A0_4 l0_4.length c0_4):=(bc_ BK127.out 4).trans rfl;have hcz9_5:w8.cell? ⟨gb127,5,none⟩=some (.slice A0_5 l0_5.length c0_5):=(bc_ BK127.out 5).trans rfl;have hfz9_0:=bf_ BK127.out 0;have hfz9_1:=bf_ BK127.out 1;have hfz9_2:=bf_ BK127.out 2;have hfz9_3:=bf_ BK127.out 3;have hfz9_4:=bf_ BK127.out 4;have hfz9_5:=bf_ BK127.out 5)|((with_reducible refine gate_callee (f:=12) rfl ?_);refine goesL_ (some 11) rfl rfl Tryz.func12 (by kernel_rfl) rfl #[.agg #[.int .i64 a0_0,.int .i64 a0_1,.string a0_2,.string a0_3,.slice A0_4 l0_4.length c0_4,.slice A0_5 l0_5.length c0_5]] rfl (by (try simp only [List.map_toArray,List.map_cons,List.map_nil]);first|done|rfl|(simp only [ld_,lt_];rfl)) ?_;(with_reducible refine (spec_l06Start.calls k a0_0 a0_1 a0_2 a0_3 _ _ l0_4 _ _ l0_5 t129 _ ?side1 ?side2 ?side3 ?side4 A5.out).mono ?_);(case side1=>repeat (first|exact (cb_ HR0_4.out HB.out)|(with_reducible refine ca_ ?_ _)|(with_reducible refine cn_ ?_ _)|(with_reducible refine cd_ ?_)));(case side2=>exact HC0_4.out);(case side3=>repeat (first|exact (cb_ HR0_5.out HB.out)|(with_reducible refine ca_ ?_ _)|(with_reducible refine cn_ ?_ _)|(with_reducible refine cd_ ?_)));(case side4=>exact HC0_5.out);rintro e w10 ⟨rfl,hb⟩;refine ⟨_,rfl,?_⟩;have n0_:=A_ (kb_ (g:=gb127) (o:=.cells #[.int .i64 a0_0,.int .i64 a0_1,.string a0_2,.string a0_3,.slice A0_4 l0_4.length c0_4,.slice A0_5 l0_5.length c0_5] 32 (0,0)) (by (with_reducible repeat (first|refine kn_ ?_ _|refine kd_ ?_|refine ka_ ?_ _));exact BK127.out) hb);have n1_:=A_ (bp_ (by repeat (first|(with_reducible first|exact HB.out|apply ba_|apply pd_|apply b1_|refine bs_ ?_ GE127.out)|exact HB.out)) hb);clear BK127;clear HB;have BK127:=n0_;have HB:=n1_;clear n0_ n1_;(try clear hb);(try clear hb2);(try clear hk);(try clear hi)))
   go_ret2
   exact ⟨by first|rfl|(simp [errW_none,errW_some] <;> rfl)|(simp [*,errW_none,errW_some] <;> rfl),by repeat (first|(with_reducible first|exact HB.out|apply ba_|apply pd_|apply b1_|refine bs_ ?_ GE127.out)|exact HB.out)⟩
  ·rw [if_neg c4] at H
   have c4b0:(a0_0 == 1)=false:=beq_eq_false_iff_ne.mpr c4
   have c4b1:(a0_0 != 1)=true:=bne_iff_ne.mpr c4
   simp only [Option.some.injEq,Prod.mk.injEq] at H
   obtain ⟨rfl,rfl⟩:=H
   go_enter Tryz.func5,Tryz.ntmps5
   go_wp2_with (first|((with_reducible refine gate_dst (N:=1) rfl ?_);refine box_event ?hg (N:=1) ?hd (cs:=#[.int .i64 a0_0,.int .i64 a0_1,.string a0_2,.string a0_3,.slice A0_4 l0_4.length c0_4,.slice A0_5 l0_5.length c0_5]) (t:=32) ?hr ?_;(case hd=>rfl);(case hg=>rfl);(case hr=>first|(go_simp;done)|(go_simp;rfl));intro gb127 hg w11 hbox hb;have n0_:=A_ (bp_ (by repeat (first|(with_reducible first|exact HB.out|apply ba_|apply pd_|apply b1_)|exact HB.out)) hb);have n1_:=A_ (hbox);have n2_:=A_ ((by rw [hg];exact (bz_ (by repeat (first|(with_reducible first|exact HB.out|apply ba_|apply pd_|apply b1_)|exact HB.out))):w.heap.size≤gb127));have n3_:=A_ ((by rw [hg];exact (bz_ (by repeat (first|(with_reducible first|exact HB.out|apply ba_|apply pd_|apply b1_)|exact HB.out))):w.heap.size≤gb127));clear HB;have HB:=n0_;have BK127:=n1_;have GW127:=n2_;have GE127:=n3_;clear n0_ n1_ n2_ n3_;clear hb hbox hg;have hcz12_0:w11.cell? ⟨gb127,0,none⟩=some (.int .i64 a0_0):=(bc_ BK127.out 0).trans rfl;have hcz12_1:w11.cell? ⟨gb127,1,none⟩=some (.int .i64 a0_1):=(bc_ BK127.out 1).trans rfl;have hcz12_2:w11.cell? ⟨gb127,2,none⟩=some (.string a0_2):=(bc_ BK127.out 2).trans rfl;have hcz12_3:w11.cell? ⟨gb127,3,none⟩=some (.string a0_3):=(bc_ BK127.out 3).trans rfl;have hcz12_4:w11.cell? ⟨gb127,4,none⟩=some (.slice A0_4 l0_4.length c0_4):=(bc_ BK127.out 4).trans rfl;have hcz12_5:w11.cell? ⟨gb127,5,none⟩=some (.slice A0_5 l0_5.length c0_5):=(bc_ BK127.out 5).trans rfl;have hfz12_0:=bf_ BK127.out 0;have hfz12_1:=bf_ BK127.out 1;have hfz12_2:=bf_ BK127.out 2;have hfz12_3:=bf_ BK127.out 3;have hfz12_4:=bf_ BK127.out 4;have hfz12_5:=bf_ BK127.out 5)|((with_reducible refine gate_callee (f:=11) rfl ?_);refine goesL_ (some 5) rfl rfl Tryz.func11 (by kernel_rfl) rfl #[.agg #[.int .i64 a0_0,.int .i64 a0_1,.string a0_2,.string a0_3,.slice A0_4 l0_4.length c0_4,.slice A0_5 l0_5.length c0_5]] rfl (by (try simp only [List.map_toArray,List.map_cons,List.map_nil]);first|done|rfl|(simp only [ld_,lt_];rfl)) ?_;(with_reducible refine (spec_l03Plain.calls k a0_0 a0_1 a0_2 a0_3 _ _ l0_4 _ _ l0_5 true _ ?side1 ?side2 ?side3 ?side4 A2.out).mono ?_);(case side1=>repeat (first|exact (cb_ HR0_4.out HB.out)|(with_reducible refine ca_ ?_ _)|(with_reducible refine cn_ ?_ _)|(with_reducible refine cd_ ?_)));(case side2=>exact HC0_4.out);(case side3=>repeat (first|exact (cb_ HR0_5.out HB.out)|(with_reducible refine ca_ ?_ _)|(with_reducible refine cn_ ?_ _)|(with_reducible refine cd_ ?_)));(case side4=>exact HC0_5.out);rintro e w13 ⟨rfl,hb⟩;refine ⟨_,rfl,?_⟩;have n0_:=A_ (kb_ (g:=gb127) (o:=.cells #[.int .i64 a0_0,.int .i64 a0_1,.string a0_2,.string a0_3,.slice A0_4 l0_4.length c0_4,.slice A0_5 l0_5.length c0_5] 32 (0,0)) (by (with_reducible repeat (first|refine kn_ ?_ _|refine kd_ ?_|refine ka_ ?_ _));exact BK127.out) hb);have n1_:=A_ (bp_ (by repeat (first|(with_reducible first|exact HB.out|apply ba_|apply pd_|apply b1_|refine bs_ ?_ GE127.out)|exact HB.out)) hb);clear BK127;clear HB;have BK127:=n0_;have HB:=n1_;clear n0_ n1_;(try clear hb);(try clear hb2);(try clear hk);(try clear hi);have hcz14_0:w13.cell? ⟨gb127,0,none⟩=some (.int .i64 a0_0):=(bc_ BK127.out 0).trans rfl;have hcz14_1:w13.cell? ⟨gb127,1,none⟩=some (.int .i64 a0_1):=(bc_ BK127.out 1).trans rfl;have hcz14_2:w13.cell? ⟨gb127,2,none⟩=some (.string a0_2):=(bc_ BK127.out 2).trans rfl;have hcz14_3:w13.cell? ⟨gb127,3,none⟩=some (.string a0_3):=(bc_ BK127.out 3).trans rfl;have hcz14_4:w13.cell? ⟨gb127,4,none⟩=some (.slice A0_4 l0_4.length c0_4):=(bc_ BK127.out 4).trans rfl;have hcz14_5:w13.cell? ⟨gb127,5,none⟩=some (.slice A0_5 l0_5.length c0_5):=(bc_ BK127.out 5).trans rfl;have hfz14_0:=bf_ BK127.out 0;have hfz14_1:=bf_ BK127.out 1;have hfz14_2:=bf_ BK127.out 2;have hfz14_3:=bf_ BK127.out 3;have hfz14_4:=bf_ BK127.out 4;have hfz14_5:=bf_ BK127.out 5))
   go_ret2
   exact ⟨by first|rfl|(simp [errW_none,errW_some] <;> rfl)|(simp [*,errW_none,errW_some] <;> rfl),by repeat (first|(with_reducible first|exact HB.out|apply ba_|apply pd_|apply b1_|refine bs_ ?_ GE127.out)|exact HB.out)⟩
 ·replace c3:=bm_ c3
  subst c3
  have H1:(some ((⟨#[]⟩:ByteArray),1))=some (r1,r2):=by rw [if_neg (show ¬ (false=true) by decide)] at H;exact H
  clear H
  have H:=H1
  clear H1
  simp only [Option.some.injEq,Prod.mk.injEq] at H
  obtain ⟨rfl,rfl⟩:=H
  go_enter Tryz.func5,Tryz.ntmps5
  go_wp2_with (first|((with_reducible refine gate_dst (N:=1) rfl ?_);refine box_event ?hg (N:=1) ?hd (cs:=#[.int .i64 a0_0,.int .i64 a0_1,.string a0_2,.string a0_3,.slice A0_4 l0_4.length c0_4,.slice A0_5 l0_5.length c0_5]) (t:=32) ?hr ?_;(case hd=>rfl);(case hg=>rfl);(case hr=>first|(go_simp;done)|(go_simp;rfl));intro gb127 hg w15 hbox hb;have n0_:=A_ (bp_ (by repeat (first|(with_reducible first|exact HB.out|apply ba_|apply pd_|apply b1_)|exact HB.out)) hb);have n1_:=A_ (hbox);have n2_:=A_ ((by rw [hg];exact (bz_ (by repeat (first|(with_reducible first|exact HB.out|apply ba_|apply pd_|apply b1_)|exact HB.out))):w.heap.size≤gb127));have n3_:=A_ ((by rw [hg];exact (bz_ (by repeat (first|(with_reducible first|exact HB.out|apply ba_|apply pd_|apply b1_)|exact HB.out))):w.heap.size≤gb127));clear HB;have HB:=n0_;have BK127:=n1_;have GW127:=n2_;have GE127:=n3_;clear n0_ n1_ n2_ n3_;clear hb hbox hg;have hcz16_0:w15.cell? ⟨gb127,0,none⟩=some (.int .i64 a0_0):=(bc_ BK127.out 0).trans rfl;have hcz16_1:w15.cell? ⟨gb127,1,none⟩=some (.int .i64 a0_1):=(bc_ BK127.out 1).trans rfl;have hcz16_2:w15.cell? ⟨gb127,2,none⟩=some (.string a0_2):=(bc_ BK127.out 2).trans rfl;have hcz16_3:w15.cell? ⟨gb127,3,none⟩=some (.string a0_3):=(bc_ BK127.out 3).trans rfl;have hcz16_4:w15.cell? ⟨gb127,4,none⟩=some (.slice A0_4 l0_4.length c0_4):=(bc_ BK127.out 4).trans rfl;have hcz16_5:w15.cell? ⟨gb127,5,none⟩=some (.slice A0_5 l0_5.length c0_5):=(bc_ BK127.out 5).trans rfl;have hfz16_0:=bf_ BK127.out 0;have hfz16_1:=bf_ BK127.out 1;have hfz16_2:=bf_ BK127.out 2;have hfz16_3:=bf_ BK127.out 3;have hfz16_4:=bf_ BK127.out 4;have hfz16_5:=bf_ BK127.out 5)|((with_reducible refine gate_callee (f:=11) rfl ?_);refine goesL_ (some 5) rfl rfl Tryz.func11 (by kernel_rfl) rfl #[.agg #[.int .i64 a0_0,.int .i64 a0_1,.string a0_2,.string a0_3,.slice A0_4 l0_4.length c0_4,.slice A0_5 l0_5.length c0_5]] rfl (by (try simp only [List.map_toArray,List.map_cons,List.map_nil]);first|done|rfl|(simp only [ld_,lt_];rfl)) ?_;(with_reducible refine (spec_l03Plain.calls k a0_0 a0_1 a0_2 a0_3 _ _ l0_4 _ _ l0_5 false _ ?side1 ?side2 ?side3 ?side4 A2.out).mono ?_);(case side1=>repeat (first|exact (cb_ HR0_4.out HB.out)|(with_reducible refine ca_ ?_ _)|(with_reducible refine cn_ ?_ _)|(with_reducible refine cd_ ?_)));(case side2=>exact HC0_4.out);(case side3=>repeat (first|exact (cb_ HR0_5.out HB.out)|(with_reducible refine ca_ ?_ _)|(with_reducible refine cn_ ?_ _)|(with_reducible refine cd_ ?_)));(case side4=>exact HC0_5.out);rintro e w17 ⟨rfl,hb⟩;refine ⟨_,rfl,?_⟩;have n0_:=A_ (kb_ (g:=gb127) (o:=.cells #[.int .i64 a0_0,.int .i64 a0_1,.string a0_2,.string a0_3,.slice A0_4 l0_4.length c0_4,.slice A0_5 l0_5.length c0_5] 32 (0,0)) (by (with_reducible repeat (first|refine kn_ ?_ _|refine kd_ ?_|refine ka_ ?_ _));exact BK127.out) hb);have n1_:=A_ (bp_ (by repeat (first|(with_reducible first|exact HB.out|apply ba_|apply pd_|apply b1_|refine bs_ ?_ GE127.out)|exact HB.out)) hb);clear BK127;clear HB;have BK127:=n0_;have HB:=n1_;clear n0_ n1_;(try clear hb);(try clear hb2);(try clear hk);(try clear hi)))
  go_ret2
  exact ⟨by first|rfl|(simp [errW_none,errW_some] <;> rfl)|(simp [*,errW_none,errW_some] <;> rfl),by repeat (first|(with_reducible first|exact HB.out|apply ba_|apply pd_|apply b1_|refine bs_ ?_ GE127.out)|exact HB.out)⟩
/-! ### laws_toAttr: function 24 -/
def laws_toAttr.f (a0_0:ByteArray) (a0_1:ByteArray):Option (ByteArray × ByteArray):=some (a0_0,a0_1)
set_option maxHeartbeats 8000000 in
set_option maxRecDepth 100000 in
theorem laws_toAttr.calls (a0_0:ByteArray) (a0_1:ByteArray) (r1:ByteArray) (r2:ByteArray) (w:World) (h:laws_toAttr.f a0_0 a0_1=some (r1,r2)) :
 Calls Tryz.prog 24 #[.agg #[.string a0_0,.string a0_1]] w fun e w'=>e=.returned (.agg #[.string r1,.string r2])∧Below w.heap.size w w':=by
 have hu47:=Tryz.underlying47
 have hu51:=Tryz.underlying51
 have HB:=A_ (Below.refl w.heap.size w)
 have H:(some (a0_0,a0_1))=some (r1,r2):=h
 clear h
 simp only [Option.some.injEq,Prod.mk.injEq] at H
 obtain ⟨rfl,rfl⟩:=H
 go_enter Tryz.func24,Tryz.ntmps24
 go_wp2_with (first|((with_reducible refine gate_dst (N:=1) rfl ?_);refine box_event ?hg (N:=1) ?hd (cs:=#[.string a0_0,.string a0_1]) (t:=47) ?hr ?_;(case hd=>rfl);(case hg=>rfl);(case hr=>first|(go_simp;done)|(go_simp;rfl));intro gb130 hg w2 hbox hb;have n0_:=A_ (bp_ (by repeat (first|(with_reducible first|exact HB.out|apply ba_|apply pd_|apply b1_)|exact HB.out)) hb);have n1_:=A_ (hbox);have n2_:=A_ ((by rw [hg];exact (bz_ (by repeat (first|(with_reducible first|exact HB.out|apply ba_|apply pd_|apply b1_)|exact HB.out))):w.heap.size≤gb130));have n3_:=A_ ((by rw [hg];exact (bz_ (by repeat (first|(with_reducible first|exact HB.out|apply ba_|apply pd_|apply b1_)|exact HB.out))):w.heap.size≤gb130));clear HB;have HB:=n0_;have BK130:=n1_;have GW130:=n2_;have GE130:=n3_;clear n0_ n1_ n2_ n3_;clear hb hbox hg)|((with_reducible refine gate_dst (N:=2) rfl ?_);refine box_event ?hg (N:=2) ?hd (cs:=#[.string (⟨#[]⟩:ByteArray),.string (⟨#[]⟩:ByteArray)]) (t:=51) ?hr ?_;(case hd=>rfl);(case hg=>rfl);(case hr=>first|(go_simp;done)|(go_simp;rfl));intro gb131 hg w3 hbox hb;have n0_:=A_ (kb_ (g:=gb130) (o:=.cells #[.string a0_0,.string a0_1] 47 (0,0)) (by (with_reducible repeat (first|refine kn_ ?_ _|refine kd_ ?_|refine ka_ ?_ _));exact BK130.out) hb);have n1_:=A_ (bp_ (by repeat (first|(with_reducible first|exact HB.out|apply ba_|apply pd_|apply b1_|refine bs_ ?_ GE130.out)|exact HB.out)) hb);have n2_:=A_ (hbox);have n3_:=A_ ((by rw [hg];exact (bz_ (by repeat (first|(with_reducible first|exact HB.out|apply ba_|apply pd_|apply b1_|refine bs_ ?_ GE130.out)|exact HB.out))):w.heap.size≤gb131));have n4_:=A_ ((by rw [hg];exact (bz_ (by repeat (first|(with_reducible first|exact HB.out|apply ba_|apply pd_|apply b1_|refine bs_ ?_ GE130.out)|exact HB.out))):w.heap.size≤gb131));have n5_:=A_ ((by rw [hg];exact Nat.ne_of_lt (blk_lt (g:=gb130) (o:=.cells #[.string a0_0,.string a0_1] 47 (0,0)) (by (with_reducible repeat (first|refine kn_ ?_ _|refine kd_ ?_|refine ka_ ?_ _));exact BK130.out)):gb130≠gb131));have n6_:=A_ ((by rw [hg];exact Nat.ne_of_gt (blk_lt (g:=gb130) (o:=.cells #[.string a0_0,.string a0_1] 47 (0,0)) (by (with_reducible repeat (first|refine kn_ ?_ _|refine kd_ ?_|refine ka_ ?_ _));exact BK130.out)):gb131≠gb130));clear BK130;clear HB;have BK130:=n0_;have HB:=n1_;have BK131:=n2_;have GW131:=n3_;have GE131:=n4_;have NB130_131:=n5_;have NB131_130:=n6_;clear n0_ n1_ n2_ n3_ n4_ n5_ n6_;clear hb hbox hg)|((with_reducible refine gate_dst (N:=3) rfl ?_);refine box_event ?hg (N:=3) ?hd (cs:=#[.string (⟨#[]⟩:ByteArray),.string (⟨#[]⟩:ByteArray)]) (t:=51) ?hr ?_;(case hd=>rfl);(case hg=>rfl);(case hr=>first|(go_simp;done)|(go_simp;rfl));intro gb132 hg w4 hbox hb;have n0_:=A_ (kb_ (g:=gb130) (o:=.cells #[.string a0_0,.string a0_1] 47 (0,0)) (by (with_reducible repeat (first|refine kn_ ?_ _|refine kd_ ?_|refine ka_ ?_ _));exact BK130.out) hb);have n1_:=A_ (kb_ (g:=gb131) (o:=.cells #[.string (⟨#[]⟩:ByteArray),.string (⟨#[]⟩:ByteArray)] 51 (0,0)) (by (with_reducible repeat (first|refine kn_ ?_ _|refine kd_ ?_|refine ka_ ?_ _));exact BK131.out) hb);have n2_:=A_ (bp_ (by repeat (first|(with_reducible first|exact HB.out|apply ba_|apply pd_|apply b1_|refine bs_ ?_ GE130.out|refine bs_ ?_ GE131.out)|exact HB.out)) hb);have n3_:=A_ (hbox);have n4_:=A_ ((by rw [hg];exact (bz_ (by repeat (first|(with_reducible first|exact HB.out|apply ba_|apply pd_|apply b1_|refine bs_ ?_ GE130.out|refine bs_ ?_ GE131.out)|exact HB.out))):w.heap.size≤gb132));have n5_:=A_ ((by rw [hg];exact (bz_ (by repeat (first|(with_reducible first|exact HB.out|apply ba_|apply pd_|apply b1_|refine bs_ ?_ GE130.out|refine bs_ ?_ GE131.out)|exact HB.out))):w.heap.size≤gb132));have n6_:=A_ ((by rw [hg];exact Nat.ne_of_lt (blk_lt (g:=gb130) (o:=.cells #[.string a0_0,.string a0_1] 47 (0,0)) (by (with_reducible repeat (first|refine kn_ ?_ _|refine kd_ ?_|refine ka_ ?_ _));exact BK130.out)):gb130≠gb132));have n7_:=A_ ((by rw [hg];exact Nat.ne_of_gt (blk_lt (g:=gb130) (o:=.cells #[.string a0_0,.string a0_1] 47 (0,0)) (by (with_reducible repeat (first|refine kn_ ?_ _|refine kd_ ?_|refine ka_ ?_ _));exact BK130.out)):gb132≠gb130));have n8_:=A_ ((by rw [hg];exact Nat.ne_of_lt (blk_lt (g:=gb131) (o:=.cells #[.string (⟨#[]⟩:ByteArray),.string (⟨#[]⟩:ByteArray)] 51 (0,0)) (by (with_reducible repeat (first|refine kn_ ?_ _|refine kd_ ?_|refine ka_ ?_ _));exact BK131.out)):gb131≠gb132));have n9_:=A_ ((by rw [hg];exact Nat.ne_of_gt (blk_lt (g:=gb131) (o:=.cells #[.string (⟨#[]⟩:ByteArray),.string (⟨#[]⟩:ByteArray)] 51 (0,0)) (by (with_reducible repeat (first|refine kn_ ?_ _|refine kd_ ?_|refine ka_ ?_ _));exact BK131.out)):gb132≠gb131));clear BK130;clear BK131;clear HB;have BK130:=n0_;have BK131:=n1_;have HB:=n2_;have BK132:=n3_;have GW132:=n4_;have GE132:=n5_;have NB130_132:=n6_;have NB132_130:=n7_;have NB131_132:=n8_;have NB132_131:=n9_;clear n0_ n1_ n2_ n3_ n4_ n5_ n6_ n7_ n8_ n9_;clear hb hbox hg;have hnb5:=NB130_131.out;have hnc5:=NB131_130.out;have hnb6:=NB130_132.out;have hnc6:=NB132_130.out;have hcz7_0:w4.cell? ⟨gb130,0,none⟩=some (.string a0_0):=(bc_ BK130.out 0).trans rfl;have hcz7_1:w4.cell? ⟨gb130,1,none⟩=some (.string a0_1):=(bc_ BK130.out 1).trans rfl;have hfz7_0:=bf_ BK130.out 0;have hfz7_1:=bf_ BK130.out 1;have hnb8:=NB132_131.out;have hnc8:=NB131_132.out;have hcz9_0:w4.cell? ⟨gb132,0,none⟩=some (.string (⟨#[]⟩:ByteArray)):=(bc_ BK132.out 0).trans rfl;have hcz9_1:w4.cell? ⟨gb132,1,none⟩=some (.string (⟨#[]⟩:ByteArray)):=(bc_ BK132.out 1).trans rfl;have hfz9_0:=bf_ BK132.out 0;have hfz9_1:=bf_ BK132.out 1;have hcz10_0:w4.cell? ⟨gb131,0,none⟩=some (.string (⟨#[]⟩:ByteArray)):=(bc_ BK131.out 0).trans rfl;have hcz10_1:w4.cell? ⟨gb131,1,none⟩=some (.string (⟨#[]⟩:ByteArray)):=(bc_ BK131.out 1).trans rfl;have hfz10_0:=bf_ BK131.out 0;have hfz10_1:=bf_ BK131.out 1))
 refine bodyPost_ret (results_cell_row rfl _ _ gb131 51 #[.string a0_0,.string a0_1] (0,0) _ rfl (by (with_reducible repeat (first|refine kn_ ?_ _|refine kd_ ?_|refine ka_ ?_ _));refine blk_put (cs:=#[.string a0_0,.string (⟨#[]⟩:ByteArray)]) ?_ 1 _ rfl;(with_reducible repeat (first|refine kn_ ?_ _|refine kd_ ?_|refine ka_ ?_ _));refine blk_put (cs:=#[.string (⟨#[]⟩:ByteArray),.string (⟨#[]⟩:ByteArray)]) ?_ 0 _ rfl;(with_reducible repeat (first|refine kn_ ?_ _|refine kd_ ?_|refine ka_ ?_ _));refine blk_far ?_ NB131_132.out _;(with_reducible repeat (first|refine kn_ ?_ _|refine kd_ ?_|refine ka_ ?_ _));refine blk_far ?_ NB131_132.out _;(with_reducible repeat (first|refine kn_ ?_ _|refine kd_ ?_|refine ka_ ?_ _));exact BK131.out) Tryz.underlying51 rfl (by kernel_rfl)) rfl ?_
 exact ⟨by first|rfl|(simp [errW_none,errW_some] <;> rfl)|(simp [*,errW_none,errW_some] <;> rfl),by repeat (first|(with_reducible first|exact HB.out|apply ba_|apply pd_|apply b1_|refine bs_ ?_ GE130.out|refine bs_ ?_ GE131.out|refine bs_ ?_ GE132.out)|exact HB.out)⟩
end Go.Proofs.YtpoaaomcpleebaaGreatDoor.PFnExactStartTag
