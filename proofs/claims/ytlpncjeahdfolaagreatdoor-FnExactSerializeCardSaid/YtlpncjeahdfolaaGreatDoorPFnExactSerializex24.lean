/- By a program of this session, out of the kit's print and contracts made by hand: the machine side of a law; Lean checks it. No conditions. -/
import Derived.Test.YtlpncjeahdfolaaGreatDoorPFnExactSerializex0
import Derived.Test.YtlpncjeahdfolaaGreatDoorPFnExactSerializex23
namespace Go.Proofs.YtlpncjeahdfolaaGreatDoor.PFnExactSerialize
open Go.RowKit Go.Proofs.YtlpncjeahdfolaaGreatDoorW.PrintWords Go.Proofs.YtlpncjeahdfolaaGreatDoorW.PrintLast Go.Proofs.YtlpncjeahdfolaaGreatDoorW.PrintMore
attribute [local go_sem] max2_int min2_int max_two min_two max_three min_three max_four min_four
set_option linter.unusedVariables false
set_option linter.unusedSimpArgs false
/-! ### impl_startTag: function 27 -/
def impl_startTag.l0:Nat→ByteArray→List (S63)→Int→Int→Option (ByteArray)
 | 0,_,_,_,_=>none
 | k+1,x3,x10,x11,x12=>if x12<x11 then (if 0≤x12 then (if x12<(x10.length:Int) then (if 1+((rd_T63 x10 x12).f0).size≤9223372036854775807 then (if ((⟨#[32]⟩:ByteArray)++((rd_T63 x10 x12).f0)).size+2≤9223372036854775807 then ((impl_escapeValue.f ((rd_T63 x10 x12).f1)).bind fun t235=>(if (((⟨#[32]⟩:ByteArray)++((rd_T63 x10 x12).f0))++(⟨#[61,34]⟩:ByteArray)).size+t235.size≤9223372036854775807 then (if ((((⟨#[32]⟩:ByteArray)++((rd_T63 x10 x12).f0))++(⟨#[61,34]⟩:ByteArray))++t235).size+1≤9223372036854775807 then (if x3.size+(((((⟨#[32]⟩:ByteArray)++((rd_T63 x10 x12).f0))++(⟨#[61,34]⟩:ByteArray))++t235)++(⟨#[34]⟩:ByteArray)).size≤9223372036854775807 then (impl_startTag.l0 k (x3++(((((⟨#[32]⟩:ByteArray)++((rd_T63 x10 x12).f0))++(⟨#[61,34]⟩:ByteArray))++t235)++(⟨#[34]⟩:ByteArray))) x10 x11 (wrap64 (x12+1))) else (none)) else (none)) else (none))) else (none)) else (none)) else (none)) else (none)) else (if x3.size+1≤9223372036854775807 then (some (x3++(⟨#[62]⟩:ByteArray))) else (none))
def impl_startTag.f (k:Nat) (a0_0:Int) (a0_1:Int) (a0_2:ByteArray) (a0_3:ByteArray) (l0_4:List (S63)) (l0_5:List (S38)):Option (ByteArray):=if 1+a0_2.size≤9223372036854775807 then (impl_startTag.l0 k ((⟨#[60]⟩:ByteArray)++a0_2) l0_4 (l0_4.length:Int) 0) else (none)
theorem impl_startTag.mono_l:∀ k,(∀ y0 y1 y2 y3,LeO (impl_startTag.l0 k y0 y1 y2 y3) (impl_startTag.l0 (k+1) y0 y1 y2 y3))
 | 0=>fun _ _ _ _ r h=>by simp [impl_startTag.l0] at h
 | k+1=>by
  have ih0:=impl_startTag.mono_l k
  ·intro y0 y1 y2 y3
   unfold impl_startTag.l0
   repeat' first
   | (with_reducible exact ih0 _ _ _ _)
   | (with_reducible exact LeO.refl _)
   | (with_reducible exact LeO.none _)
   | (with_reducible refine LeO.ite ?_ ?_)
   | (with_reducible refine LeO.bind ?_ (fun _=>?_))
   | exact ih0 _ _ _ _
   | exact LeO.none _
   | refine LeO.ite ?_ ?_
   | refine LeO.bind ?_ (fun _=>?_)
theorem impl_startTag.mono:∀ a0 a1 a2 a3 a4 a5 k,LeO (impl_startTag.f k a0 a1 a2 a3 a4 a5) (impl_startTag.f (k+1) a0 a1 a2 a3 a4 a5):=by
 intro a0 a1 a2 a3 a4 a5 k
 have ih0:=impl_startTag.mono_l k
 unfold impl_startTag.f
 repeat' first
  | (with_reducible exact ih0 _ _ _ _)
  | (with_reducible exact LeO.refl _)
  | (with_reducible exact LeO.none _)
  | (with_reducible refine LeO.ite ?_ ?_)
  | (with_reducible refine LeO.bind ?_ (fun _=>?_))
  | exact ih0 _ _ _ _
  | exact LeO.none _
  | refine LeO.ite ?_ ?_
  | refine LeO.bind ?_ (fun _=>?_)
def impl_startTag.T5:Bool × List (List Nat × List Nat):=(true,[([],[]),([],[]),([1],[1]),([2],[2]),([3],[3]),([],[]),([5],[5]),([6],[6]),([4,7],[4,7]),([8],[8]),([0,9],[0,9]),([10,7,0,1,2,3,4,5,6,7,8,9,10],[0,10])])
def impl_startTag.B5:List Nat:=[0,0,2,6,14,0,32,96,254,510,1023,2047]
theorem impl_startTag.tab5:rtab .any (opsOf Tryz.f27 5)=impl_startTag.T5:=by kernel_rfl
theorem impl_startTag.bits5:waitsOk impl_startTag.T5.2 impl_startTag.B5=true:=by kernel_rfl
set_option maxHeartbeats 8000000 in
set_option maxRecDepth 100000 in
theorem impl_startTag.calls (k:Nat) (a0_0:Int) (a0_1:Int) (a0_2:ByteArray) (a0_3:ByteArray) (A0_4:Option Addr) (c0_4:Nat) (l0_4:List (S63)) (A0_5:Option Addr) (c0_5:Nat) (l0_5:List (S38)) (r:ByteArray) (w:World) (hr0_4:Kd.C k63 w A0_4 l0_4.length l0_4) (hc0_4:l0_4.length≤c0_4) (hr0_5:Kd.C k38 w A0_5 l0_5.length l0_5) (hc0_5:l0_5.length≤c0_5) (h:impl_startTag.f k a0_0 a0_1 a0_2 a0_3 l0_4 l0_5=some r) :
 Calls Tryz.prog 27 #[.agg #[.int .i64 a0_0,.int .i64 a0_1,.string a0_2,.string a0_3,.slice A0_4 l0_4.length c0_4,.slice A0_5 l0_5.length c0_5]] w fun e w'=>e=.returned (.string r)∧Below w.heap.size w w':=by
 have hu38:=Tryz.underlying38
 have hu63:=Tryz.underlying63
 have HR0_4:=A_ hr0_4
 have HC0_4:=A_ hc0_4
 clear hr0_4 hc0_4
 have HR0_5:=A_ hr0_5
 have HC0_5:=A_ hc0_5
 clear hr0_5 hc0_5
 have HB:=A_ (Below.refl w.heap.size w)
 have H:(if 1+a0_2.size≤9223372036854775807 then (impl_startTag.l0 k ((⟨#[60]⟩:ByteArray)++a0_2) l0_4 (l0_4.length:Int) 0) else (none))=some r:=h
 clear h
 by_cases c2:1+a0_2.size≤9223372036854775807
 ·rw [if_pos c2] at H
  have c2b0:=eq_true c2
  have c2b1:decide (1+a0_2.size≤9223372036854775807)=true:=dt_ c2
  try have c2b2:(9223372036854775807<1+a0_2.size)=False:=eq_false (Nat.not_lt.2 c2)
  have H':=A_ H
  clear H
  go_enter Tryz.func27,Tryz.ntmps27
  go_wp2_with (first|((with_reducible refine gate_dst (N:=1) rfl ?_);refine box_event ?hg (N:=1) ?hd (cs:=#[.int .i64 a0_0,.int .i64 a0_1,.string a0_2,.string a0_3,.slice A0_4 l0_4.length c0_4,.slice A0_5 l0_5.length c0_5]) (t:=38) ?hr ?_;(case hd=>rfl);(case hg=>rfl);(case hr=>first|(go_simp;done)|(go_simp;rfl));intro gb232 hg w3 hbox hb;have n0_:=A_ (bp_ (by repeat (first|(with_reducible first|exact HB.out|apply ba_|apply pd_|apply b1_)|exact HB.out)) hb);have n1_:=A_ (hbox);have n2_:=A_ ((by rw [hg];exact (bz_ (by repeat (first|(with_reducible first|exact HB.out|apply ba_|apply pd_|apply b1_)|exact HB.out))):w.heap.size≤gb232));have n3_:=A_ ((by rw [hg];exact (bz_ (by repeat (first|(with_reducible first|exact HB.out|apply ba_|apply pd_|apply b1_)|exact HB.out))):w.heap.size≤gb232));clear HB;have HB:=n0_;have BK232:=n1_;have GW232:=n2_;have GE232:=n3_;clear n0_ n1_ n2_ n3_;clear hb hbox hg;have hcz4_0:w3.cell? ⟨gb232,0,none⟩=some (.int .i64 a0_0):=(bc_ BK232.out 0).trans rfl;have hcz4_1:w3.cell? ⟨gb232,1,none⟩=some (.int .i64 a0_1):=(bc_ BK232.out 1).trans rfl;have hcz4_2:w3.cell? ⟨gb232,2,none⟩=some (.string a0_2):=(bc_ BK232.out 2).trans rfl;have hcz4_3:w3.cell? ⟨gb232,3,none⟩=some (.string a0_3):=(bc_ BK232.out 3).trans rfl;have hcz4_4:w3.cell? ⟨gb232,4,none⟩=some (.slice A0_4 l0_4.length c0_4):=(bc_ BK232.out 4).trans rfl;have hcz4_5:w3.cell? ⟨gb232,5,none⟩=some (.slice A0_5 l0_5.length c0_5):=(bc_ BK232.out 5).trans rfl;have hfz4_0:=bf_ BK232.out 0;have hfz4_1:=bf_ BK232.out 1;have hfz4_2:=bf_ BK232.out 2;have hfz4_3:=bf_ BK232.out 3;have hfz4_4:=bf_ BK232.out 4;have hfz4_5:=bf_ BK232.out 5))
  go_loopg [3,12] k (fun kq v3 v12 w'=>∃ (x3_1:ByteArray) (x12_1:Int),v3=.string x3_1∧v12=.int .i64 x12_1∧Aside0 (impl_startTag.l0 kq x3_1 l0_4 (l0_4.length:Int) x12_1=some r)∧Aside0 (kq≤k)∧Aside0 (w'.heap[gb232]? = some (.cells #[.int .i64 a0_0,.int .i64 a0_1,.string a0_2,.string a0_3,(.slice A0_4 l0_4.length c0_4),(.slice A0_5 l0_5.length c0_5)] 38 (0,0)))∧Aside0 (Below w.heap.size w w'))
  case atStart=>exact ⟨((⟨#[60]⟩:ByteArray)++a0_2),(0),(by first|rfl|(simp;done)|(simp [*];done)),(by first|rfl|(simp;done)|(simp [*];done)),H',⟨Nat.le_refl _⟩,⟨by (with_reducible repeat (first|refine kn_ ?_ _|refine kd_ ?_|refine ka_ ?_ _));exact BK232.out⟩,⟨by repeat (first|(with_reducible first|exact HB.out|apply ba_|apply pd_|apply b1_|refine bs_ ?_ GE232.out)|exact HB.out)⟩⟩
  case round =>
   clear H'
   try clear c2
   try clear c2b0
   try clear c2b1
   try clear c2b2
   try clear p2
   try clear hcz4_0
   try clear hcz4_1
   try clear hcz4_2
   try clear hcz4_3
   try clear hcz4_4
   try clear hcz4_5
   try clear hfz4_0
   try clear hfz4_1
   try clear hfz4_2
   try clear hfz4_3
   try clear hfz4_4
   try clear hfz4_5
   obtain ⟨x3_1,x12_1,rfl,rfl,HA,HK1,BK232,HB⟩:=hrel
   cases gk with
   | zero=>exact absurd HA.out (by simp [impl_startTag.l0])
   | succ k1 =>
    have H:=HA.out
    clear HA
    simp only [impl_startTag.l0] at H
    by_cases c5:x12_1<(l0_4.length:Int)
    ·rw [if_pos c5] at H
     have c5b0:decide (x12_1<(l0_4.length:Int))=true:=dt_ c5
     clear c5
     by_cases c6:0≤x12_1
     ·rw [if_pos c6] at H
      have c6b0:decide (0≤x12_1)=true:=dt_ c6
      clear c6
      by_cases c7:x12_1<(l0_4.length:Int)
      ·rw [if_pos c7] at H
       have c7b0:decide (x12_1<(l0_4.length:Int))=true:=dt_ c7
       clear c7
       by_cases c8:1+((rd_T63 l0_4 x12_1).f0).size≤9223372036854775807
       ·rw [if_pos c8] at H
        have c8b0:=eq_true c8
        have c8b1:decide (1+((rd_T63 l0_4 x12_1).f0).size≤9223372036854775807)=true:=dt_ c8
        try have c8b2:(9223372036854775807<1+((rd_T63 l0_4 x12_1).f0).size)=False:=eq_false (Nat.not_lt.2 c8)
        by_cases c9:((⟨#[32]⟩:ByteArray)++((rd_T63 l0_4 x12_1).f0)).size+2≤9223372036854775807
        ·rw [if_pos c9] at H
         have c9b0:=eq_true c9
         have c9b1:decide (((⟨#[32]⟩:ByteArray)++((rd_T63 l0_4 x12_1).f0)).size+2≤9223372036854775807)=true:=dt_ c9
         try have c9b2:(9223372036854775807<((⟨#[32]⟩:ByteArray)++((rd_T63 l0_4 x12_1).f0)).size+2)=False:=eq_false (Nat.not_lt.2 c9)
         have c9b8:=c9b1
         have c9b9:=c9b2
         have l0_:(⟨#[32]⟩:ByteArray).size=1:=rfl
         try simp only [ByteArray.size_append,l0_] at c9b8 c9b9
         clear l0_
         replace H:=ob_ H
         obtain ⟨t235,A100,H⟩:=H
         replace H:(if (((⟨#[32]⟩:ByteArray)++((rd_T63 l0_4 x12_1).f0))++(⟨#[61,34]⟩:ByteArray)).size+t235.size≤9223372036854775807 then (if ((((⟨#[32]⟩:ByteArray)++((rd_T63 l0_4 x12_1).f0))++(⟨#[61,34]⟩:ByteArray))++t235).size+1≤9223372036854775807 then (if x3_1.size+(((((⟨#[32]⟩:ByteArray)++((rd_T63 l0_4 x12_1).f0))++(⟨#[61,34]⟩:ByteArray))++t235)++(⟨#[34]⟩:ByteArray)).size≤9223372036854775807 then (impl_startTag.l0 k1 (x3_1++(((((⟨#[32]⟩:ByteArray)++((rd_T63 l0_4 x12_1).f0))++(⟨#[61,34]⟩:ByteArray))++t235)++(⟨#[34]⟩:ByteArray))) l0_4 (l0_4.length:Int) (wrap64 (x12_1+1))) else (none)) else (none)) else (none))=some r:=H
         have A10:=A_ A100
         clear A100
         by_cases c11:(((⟨#[32]⟩:ByteArray)++((rd_T63 l0_4 x12_1).f0))++(⟨#[61,34]⟩:ByteArray)).size+t235.size≤9223372036854775807
         ·rw [if_pos c11] at H
          have c11b0:=eq_true c11
          have c11b1:decide ((((⟨#[32]⟩:ByteArray)++((rd_T63 l0_4 x12_1).f0))++(⟨#[61,34]⟩:ByteArray)).size+t235.size≤9223372036854775807)=true:=dt_ c11
          try have c11b2:(9223372036854775807<(((⟨#[32]⟩:ByteArray)++((rd_T63 l0_4 x12_1).f0))++(⟨#[61,34]⟩:ByteArray)).size+t235.size)=False:=eq_false (Nat.not_lt.2 c11)
          have c11b8:=c11b1
          have c11b9:=c11b2
          have l0_:(⟨#[32]⟩:ByteArray).size=1:=rfl
          have l1_:(⟨#[61,34]⟩:ByteArray).size=2:=rfl
          try simp only [ByteArray.size_append,l0_,l1_] at c11b8 c11b9
          clear l0_ l1_
          by_cases c12:((((⟨#[32]⟩:ByteArray)++((rd_T63 l0_4 x12_1).f0))++(⟨#[61,34]⟩:ByteArray))++t235).size+1≤9223372036854775807
          ·rw [if_pos c12] at H
           have c12b0:=eq_true c12
           have c12b1:decide (((((⟨#[32]⟩:ByteArray)++((rd_T63 l0_4 x12_1).f0))++(⟨#[61,34]⟩:ByteArray))++t235).size+1≤9223372036854775807)=true:=dt_ c12
           try have c12b2:(9223372036854775807<((((⟨#[32]⟩:ByteArray)++((rd_T63 l0_4 x12_1).f0))++(⟨#[61,34]⟩:ByteArray))++t235).size+1)=False:=eq_false (Nat.not_lt.2 c12)
           have c12b8:=c12b1
           have c12b9:=c12b2
           have l0_:(⟨#[32]⟩:ByteArray).size=1:=rfl
           have l1_:(⟨#[61,34]⟩:ByteArray).size=2:=rfl
           try simp only [ByteArray.size_append,l0_,l1_] at c12b8 c12b9
           clear l0_ l1_
           by_cases c13:x3_1.size+(((((⟨#[32]⟩:ByteArray)++((rd_T63 l0_4 x12_1).f0))++(⟨#[61,34]⟩:ByteArray))++t235)++(⟨#[34]⟩:ByteArray)).size≤9223372036854775807
           ·rw [if_pos c13] at H
            have c13b0:=eq_true c13
            have c13b1:decide (x3_1.size+(((((⟨#[32]⟩:ByteArray)++((rd_T63 l0_4 x12_1).f0))++(⟨#[61,34]⟩:ByteArray))++t235)++(⟨#[34]⟩:ByteArray)).size≤9223372036854775807)=true:=dt_ c13
            try have c13b2:(9223372036854775807<x3_1.size+(((((⟨#[32]⟩:ByteArray)++((rd_T63 l0_4 x12_1).f0))++(⟨#[61,34]⟩:ByteArray))++t235)++(⟨#[34]⟩:ByteArray)).size)=False:=eq_false (Nat.not_lt.2 c13)
            have c13b8:=c13b1
            have c13b9:=c13b2
            have l0_:(⟨#[32]⟩:ByteArray).size=1:=rfl
            have l1_:(⟨#[34]⟩:ByteArray).size=1:=rfl
            have l2_:(⟨#[61,34]⟩:ByteArray).size=2:=rfl
            try simp only [ByteArray.size_append,l0_,l1_,l2_] at c13b8 c13b9
            clear l0_ l1_ l2_
            have H':=A_ H
            clear H
            have p233:0≤(x12_1:Int):=od_ (by first|(with_reducible assumption)|assumption)
            have q233:x12_1<(l0_4.length:Int):=od_ (by first|(with_reducible assumption)|assumption)
            obtain ⟨ad233,e233,hx233_0,hx233_1⟩:=at_T63 HR0_4.out x12_1 p233 q233
            cases e233
            replace hx233_0:=(HB.out.cell (bl_ w _ hx233_0)).trans hx233_0
            replace hx233_1:=(HB.out.cell (bl_ w _ hx233_1)).trans hx233_1
            replace p233:=eq_true p233
            replace q233:=eq_true q233
            try go_wp2_with (first|((with_reducible refine gate_dst (N:=5) rfl ?_);refine box_event ?hg (N:=5) ?hd (cs:=#[.string (⟨#[]⟩:ByteArray),.string (⟨#[]⟩:ByteArray)]) (t:=63) ?hr ?_;(case hd=>rfl);(case hg=>rfl);(case hr=>first|(go_simp;done)|(go_simp;rfl));intro gb234 hg w14 hbox hb;have n0_:=A_ (kb_ (g:=gb232) (o:=.cells #[.int .i64 a0_0,.int .i64 a0_1,.string a0_2,.string a0_3,.slice (some ad233) l0_4.length c0_4,.slice A0_5 l0_5.length c0_5] 38 (0,0)) (by (with_reducible repeat (first|refine kn_ ?_ _|refine kd_ ?_|refine ka_ ?_ _));exact BK232.out) hb);have n1_:=A_ (bp_ (by repeat (first|(with_reducible first|exact HB.out|apply ba_|apply pd_|apply b1_|refine bs_ ?_ GE232.out)|exact HB.out)) hb);have n2_:=A_ (hbox);have n3_:=A_ ((by rw [hg];exact (bz_ (by repeat (first|(with_reducible first|exact HB.out|apply ba_|apply pd_|apply b1_|refine bs_ ?_ GE232.out)|exact HB.out))):w.heap.size≤gb234));have n4_:=A_ ((by rw [hg];exact (bz_ (by repeat (first|(with_reducible first|exact HB.out|apply ba_|apply pd_|apply b1_|refine bs_ ?_ GE232.out)|exact HB.out))):w.heap.size≤gb234));have n5_:=A_ ((by rw [hg];exact Nat.ne_of_lt (blk_lt (g:=gb232) (o:=.cells #[.int .i64 a0_0,.int .i64 a0_1,.string a0_2,.string a0_3,.slice (some ad233) l0_4.length c0_4,.slice A0_5 l0_5.length c0_5] 38 (0,0)) (by (with_reducible repeat (first|refine kn_ ?_ _|refine kd_ ?_|refine ka_ ?_ _));exact BK232.out)):gb232≠gb234));have n6_:=A_ ((by rw [hg];exact Nat.ne_of_gt (blk_lt (g:=gb232) (o:=.cells #[.int .i64 a0_0,.int .i64 a0_1,.string a0_2,.string a0_3,.slice (some ad233) l0_4.length c0_4,.slice A0_5 l0_5.length c0_5] 38 (0,0)) (by (with_reducible repeat (first|refine kn_ ?_ _|refine kd_ ?_|refine ka_ ?_ _));exact BK232.out)):gb234≠gb232));clear BK232;clear HB;have BK232:=n0_;have HB:=n1_;have BK234:=n2_;have GW234:=n3_;have GE234:=n4_;have NB232_234:=n5_;have NB234_232:=n6_;clear n0_ n1_ n2_ n3_ n4_ n5_ n6_;clear hb hbox hg;have hnb15:=NB234_232.out;have hnc15:=NB232_234.out;have hcz16_0:w14.cell? ⟨gb234,0,none⟩=some (.string (⟨#[]⟩:ByteArray)):=(bc_ BK234.out 0).trans rfl;have hcz16_1:w14.cell? ⟨gb234,1,none⟩=some (.string (⟨#[]⟩:ByteArray)):=(bc_ BK234.out 1).trans rfl;have hfz16_0:=bf_ BK234.out 0;have hfz16_1:=bf_ BK234.out 1))
            have n0_:Aside0 (((w14.setCell ⟨gb234,0,none⟩ (.string ((rd_T63 l0_4 x12_1).f0))).setCell ⟨gb234,1,none⟩ (.string ((rd_T63 l0_4 x12_1).f1))).heap[gb232]? = some (.cells #[.int .i64 a0_0,.int .i64 a0_1,.string a0_2,.string a0_3,.slice (some ad233) l0_4.length c0_4,.slice A0_5 l0_5.length c0_5] 38 (0,0))):=⟨by (with_reducible repeat (first|refine kn_ ?_ _|refine kd_ ?_|refine ka_ ?_ _));refine blk_far ?_ NB232_234.out _;(with_reducible repeat (first|refine kn_ ?_ _|refine kd_ ?_|refine ka_ ?_ _));refine blk_far ?_ NB232_234.out _;(with_reducible repeat (first|refine kn_ ?_ _|refine kd_ ?_|refine ka_ ?_ _));exact BK232.out⟩
            have n1_:Aside0 (((w14.setCell ⟨gb234,0,none⟩ (.string ((rd_T63 l0_4 x12_1).f0))).setCell ⟨gb234,1,none⟩ (.string ((rd_T63 l0_4 x12_1).f1))).heap[gb234]? = some (.cells #[.string ((rd_T63 l0_4 x12_1).f0),.string ((rd_T63 l0_4 x12_1).f1)] 63 (0,0))):=⟨by (with_reducible repeat (first|refine kn_ ?_ _|refine kd_ ?_|refine ka_ ?_ _));refine blk_put (cs:=#[.string ((rd_T63 l0_4 x12_1).f0),.string (⟨#[]⟩:ByteArray)]) ?_ 1 _ rfl;(with_reducible repeat (first|refine kn_ ?_ _|refine kd_ ?_|refine ka_ ?_ _));refine blk_put (cs:=#[.string (⟨#[]⟩:ByteArray),.string (⟨#[]⟩:ByteArray)]) ?_ 0 _ rfl;(with_reducible repeat (first|refine kn_ ?_ _|refine kd_ ?_|refine ka_ ?_ _));exact BK234.out⟩
            have n2_:Aside0 (Below w.heap.size w ((w14.setCell ⟨gb234,0,none⟩ (.string ((rd_T63 l0_4 x12_1).f0))).setCell ⟨gb234,1,none⟩ (.string ((rd_T63 l0_4 x12_1).f1)))):=⟨by repeat (first|(with_reducible first|exact HB.out|apply ba_|apply pd_|apply b1_|refine bs_ ?_ GE232.out|refine bs_ ?_ GE234.out)|exact HB.out)⟩
            (try clear BK232)
            (try clear BK234)
            (try clear HB)
            generalize ((w14.setCell ⟨gb234,0,none⟩ (.string ((rd_T63 l0_4 x12_1).f0))).setCell ⟨gb234,1,none⟩ (.string ((rd_T63 l0_4 x12_1).f1)))=w17 at n0_ n1_ n2_ ⊢
            have BK232:=n0_
            have BK234:=n1_
            have HB:=n2_
            clear n0_ n1_ n2_
            have n0_:=A_ (kd_ BK232.out)
            have n1_:=A_ (kd_ BK234.out)
            have n2_:=A_ (b1_ HB.out)
            clear BK232
            clear BK234
            clear HB
            have BK232:=n0_
            have BK234:=n1_
            have HB:=n2_
            clear n0_ n1_ n2_
            refine start_ (n:=12) (S:=fun w'=>w'.cell? ⟨gb234,0,none⟩=some (.string ((rd_T63 l0_4 x12_1).f0))∧w'.cell? ⟨gb234,1,none⟩=some (.string ((rd_T63 l0_4 x12_1).f1))) (ds:=[]) #[F_,F_,F_,F_,F_,F_,F_,F_,F_,F_,F_,F_] (by kernel_rfl) rfl rfl ⟨(bc_ BK234.out 0).trans rfl,(bc_ BK234.out 1).trans rfl⟩ (fun hHeld=>?_);refine with_tabW impl_startTag.tab5 impl_startTag.bits5 (fun HT_ HW_=>?_)
            generalize w17.drew=w18 at BK232 BK234 HB hHeld ⊢
            refine pure_ (i:=0) (N:=some 16) (v:=?_) (a':=?_) #[T_,F_,F_,F_,F_,F_,F_,F_,F_,F_,F_,F_] rfl rfl (any_of HT_.out (by kernel_rfl)) (fun _ _ _ h=>h) (Or.inl ⟨by rfl,?_⟩) ?_ ?_
            rotate_left
            ·intro w'
             go_simp
             with_reducible rfl
            rotate_left
            ·simp only [Act.put,ls_,lz_,lc_,i64_w,i32_w]
             rfl
            refine pure_ (i:=1) (N:=some 17) (v:=?_) (a':=?_) #[T_,T_,F_,F_,F_,F_,F_,F_,F_,F_,F_,F_] rfl rfl (any_of HT_.out (by kernel_rfl)) (fun _ _ _ h=>h) (Or.inl ⟨by rfl,?_⟩) ?_ ?_
            rotate_left
            ·intro w'
             go_simp
             with_reducible rfl
            rotate_left
            ·simp only [Act.put,ls_,lz_,lc_,i64_w,i32_w]
             rfl
            refine pure_ (i:=5) (N:=some 21) (v:=?_) (a':=?_) #[T_,T_,F_,F_,F_,T_,F_,F_,F_,F_,F_,F_] rfl rfl (any_of HT_.out (by kernel_rfl)) (fun _ _ _ h=>h) (Or.inl ⟨by rfl,?_⟩) ?_ ?_
            rotate_left
            ·intro w'
             go_simp
             with_reducible rfl
            rotate_left
            ·simp only [Act.put,ls_,lz_,lc_,i64_w,i32_w]
             rfl
            refine take_ (i:=2) (N:=some 18) (v:=?_) (a':=?_) #[T_,T_,T_,F_,F_,T_,F_,F_,F_,F_,F_,F_] rfl rfl (take_ofW HT_.out HW_.out (by kernel_rfl)) (fun _ _ _ h=>h) (Or.inl ⟨by rfl,?_⟩) hHeld ?_ ?_
            rotate_left
            ·rintro w' ⟨s0,s1⟩
             go_simp
             with_reducible rfl
            rotate_left
            ·simp only [Act.put,ls_,lz_,lc_,i64_w,i32_w]
             rfl
            refine pure_ (i:=3) (N:=some 19) (v:=?_) (a':=?_) #[T_,T_,T_,T_,F_,T_,F_,F_,F_,F_,F_,F_] rfl rfl (any_of HT_.out (by kernel_rfl)) (fun _ _ _ h=>h) (Or.inl ⟨by rfl,?_⟩) ?_ ?_
            rotate_left
            ·intro w'
             go_simp
             with_reducible rfl
            rotate_left
            ·simp only [Act.put,ls_,lz_,lc_,i64_w,i32_w]
             rfl
            refine pure_ (i:=4) (N:=some 20) (v:=?_) (a':=?_) #[T_,T_,T_,T_,T_,T_,F_,F_,F_,F_,F_,F_] rfl rfl (any_of HT_.out (by kernel_rfl)) (fun _ _ _ h=>h) (Or.inl ⟨by rfl,?_⟩) ?_ ?_
            rotate_left
            ·intro w'
             go_simp
             with_reducible rfl
            rotate_left
            ·simp only [Act.put,ls_,lz_,lc_,i64_w,i32_w]
             rfl
            refine take_ (i:=6) (N:=some 22) (v:=?_) (a':=?_) #[T_,T_,T_,T_,T_,T_,T_,F_,F_,F_,F_,F_] rfl rfl (take_ofW HT_.out HW_.out (by kernel_rfl)) (fun _ _ _ h=>h) (Or.inl ⟨by rfl,?_⟩) hHeld ?_ ?_
            rotate_left
            ·rintro w' ⟨s0,s1⟩
             go_simp
             with_reducible rfl
            rotate_left
            ·simp only [Act.put,ls_,lz_,lc_,i64_w,i32_w]
             rfl
            refine one_ (i:=7) (N:=some 23) #[T_,T_,T_,T_,T_,T_,T_,T_,F_,F_,F_,F_] rfl rfl (one_of HT_.out (by kernel_rfl)) (by decide) (fun K hK=>?_)
            refine goes_ Tryz.func41 (by kernel_rfl) rfl #[.string ((rd_T63 l0_4 x12_1).f1)] (by rfl) rfl rfl (by (try simp only [List.map_toArray,List.map_cons,List.map_nil]);first|done|rfl|(simp only [ld_,lt_];rfl)) ?_
            with_reducible refine (impl_escapeValue.calls ((rd_T63 l0_4 x12_1).f1) t235 _ A10.out).mono ?_
            rintro e w19 ⟨rfl,hb⟩
            refine ⟨_,rfl,?_⟩
            have n0_:=A_ (kb_ (g:=gb232) (o:=.cells #[.int .i64 a0_0,.int .i64 a0_1,.string a0_2,.string a0_3,.slice (some ad233) l0_4.length c0_4,.slice A0_5 l0_5.length c0_5] 38 (0,0)) (by (with_reducible repeat (first|refine kn_ ?_ _|refine kd_ ?_|refine ka_ ?_ _));exact BK232.out) hb)
            have n1_:=A_ (kb_ (g:=gb234) (o:=.cells #[.string ((rd_T63 l0_4 x12_1).f0),.string ((rd_T63 l0_4 x12_1).f1)] 63 (0,0)) (by (with_reducible repeat (first|refine kn_ ?_ _|refine kd_ ?_|refine ka_ ?_ _));exact BK234.out) hb)
            have n2_:=A_ (bp_ (by repeat (first|(with_reducible first|exact HB.out|apply ba_|apply pd_|apply b1_|refine bs_ ?_ GE232.out|refine bs_ ?_ GE234.out)|exact HB.out)) hb)
            clear BK232
            clear BK234
            clear HB
            have BK232:=n0_
            have BK234:=n1_
            have HB:=n2_
            clear n0_ n1_ n2_
            (try clear hb)
            (try clear hb2)
            (try clear hk)
            (try clear hi)
            refine hK.out _ _ ⟨(bc_ BK234.out 0).trans rfl,(bc_ BK234.out 1).trans rfl⟩ (fun hHeld=>?_)
            clear hK K
            refine norm_ (a':=?_) ?_ ?_
            rotate_left
            ·show Act.put _ (some 23) _=_
             simp only [Act.put,ls_,lz_,lc_,i64_w,i32_w]
             rfl
            refine pure_ (i:=8) (N:=some 24) (v:=?_) (a':=?_) #[T_,T_,T_,T_,T_,T_,T_,T_,T_,F_,F_,F_] rfl rfl (any_of HT_.out (by kernel_rfl)) (fun _ _ _ h=>h) (Or.inl ⟨by rfl,?_⟩) ?_ ?_
            rotate_left
            ·intro w'
             go_simp
             with_reducible rfl
            rotate_left
            ·simp only [Act.put,ls_,lz_,lc_,i64_w,i32_w]
             rfl
            refine pure_ (i:=9) (N:=some 25) (v:=?_) (a':=?_) #[T_,T_,T_,T_,T_,T_,T_,T_,T_,T_,F_,F_] rfl rfl (any_of HT_.out (by kernel_rfl)) (fun _ _ _ h=>h) (Or.inl ⟨by rfl,?_⟩) ?_ ?_
            rotate_left
            ·intro w'
             go_simp
             with_reducible rfl
            rotate_left
            ·simp only [Act.put,ls_,lz_,lc_,i64_w,i32_w]
             rfl
            refine pure_ (i:=10) (N:=some 26) (v:=?_) (a':=?_) #[T_,T_,T_,T_,T_,T_,T_,T_,T_,T_,T_,F_] rfl rfl (any_of HT_.out (by kernel_rfl)) (fun _ _ _ h=>h) (Or.inl ⟨by rfl,?_⟩) ?_ ?_
            rotate_left
            ·intro w'
             go_simp
             with_reducible rfl
            rotate_left
            ·simp only [Act.put,ls_,lz_,lc_,i64_w,i32_w]
             rfl
            refine pure_ (i:=11) (N:=some 3) (v:=?_) (a':=?_) #[T_,T_,T_,T_,T_,T_,T_,T_,T_,T_,T_,T_] rfl rfl (any_of HT_.out (by kernel_rfl)) (fun _ _ _ h=>h) (Or.inl ⟨by rfl,?_⟩) ?_ ?_
            rotate_left
            ·intro w'
             go_simp
             with_reducible rfl
            rotate_left
            ·simp only [Act.put,ls_,lz_,lc_,i64_w,i32_w]
             rfl
            refine done_ (done_of HT_.out (by kernel_rfl)) ?_
            try go_wp2
            go_roundg k1
            case measure=>have:=HK1.out;omega
            case rel=>exact ⟨(x3_1++(((((⟨#[32]⟩:ByteArray)++((rd_T63 l0_4 x12_1).f0))++(⟨#[61,34]⟩:ByteArray))++t235)++(⟨#[34]⟩:ByteArray))),(wrap64 (x12_1+1)),(by first|rfl|(simp;done)|(simp [*];done)),(by first|rfl|(simp;done)|(simp [*];done)),H',⟨by have:=HK1.out;omega⟩,⟨by (with_reducible repeat (first|refine kn_ ?_ _|refine kd_ ?_|refine ka_ ?_ _));exact BK232.out⟩,⟨by repeat (first|(with_reducible first|exact HB.out|apply ba_|apply pd_|apply b1_|refine bs_ ?_ GE232.out|refine bs_ ?_ GE234.out)|exact HB.out)⟩⟩
           ·rw [if_neg c13] at H
            exact absurd H (by simp)
          ·rw [if_neg c12] at H
           exact absurd H (by simp)
         ·rw [if_neg c11] at H
          exact absurd H (by simp)
        ·rw [if_neg c9] at H
         exact absurd H (by simp)
       ·rw [if_neg c8] at H
        exact absurd H (by simp)
      ·rw [if_neg c7] at H
       exact absurd H (by simp)
     ·rw [if_neg c6] at H
      exact absurd H (by simp)
    ·rw [if_neg c5] at H
     have c5b0:decide (x12_1<(l0_4.length:Int))=false:=df_ c5
     clear c5
     by_cases c20:x3_1.size+1≤9223372036854775807
     ·rw [if_pos c20] at H
      have c20b0:=eq_true c20
      have c20b1:decide (x3_1.size+1≤9223372036854775807)=true:=dt_ c20
      try have c20b2:(9223372036854775807<x3_1.size+1)=False:=eq_false (Nat.not_lt.2 c20)
      obtain rfl:=oi_ H
      go_wp2
      go_ret
      exact ⟨by first|rfl|(simp [errW_none,errW_some] <;> rfl)|(simp [*,errW_none,errW_some] <;> rfl),by repeat (first|(with_reducible first|exact HB.out|apply ba_|apply pd_|apply b1_|refine bs_ ?_ GE232.out)|exact HB.out)⟩
     ·rw [if_neg c20] at H
      exact absurd H (by simp)
 ·rw [if_neg c2] at H
  exact absurd H (by simp)
end Go.Proofs.YtlpncjeahdfolaaGreatDoor.PFnExactSerialize
