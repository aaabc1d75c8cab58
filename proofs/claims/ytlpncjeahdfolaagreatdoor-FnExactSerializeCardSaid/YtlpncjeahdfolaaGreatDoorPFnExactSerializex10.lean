/- By a program of this session, out of the kit's print and contracts made by hand: the machine side of a law; Lean checks it. No conditions. -/
import Derived.Test.YtlpncjeahdfolaaGreatDoorPFnExactSerializex0
import Derived.Test.YtlpncjeahdfolaaGreatDoorPFnExactSerializex9
namespace Go.Proofs.YtlpncjeahdfolaaGreatDoor.PFnExactSerialize
open Go.RowKit Go.Proofs.YtlpncjeahdfolaaGreatDoorW.PrintWords Go.Proofs.YtlpncjeahdfolaaGreatDoorW.PrintLast Go.Proofs.YtlpncjeahdfolaaGreatDoorW.PrintMore
attribute [local go_sem] max2_int min2_int max_two min_two max_three min_three max_four min_four
set_option linter.unusedVariables false
set_option linter.unusedSimpArgs false
/-! ### spec_l02Value: function 33 -/
def spec_l02Value.l0:Nat→ByteArray→ByteArray→Int→Option (ByteArray)
 | 0,_,_,_=>none
 | k+1,x0,x3,x4=>if x4<(x0.size:Int) then (if 0≤x4 then (if (bt x0 x4)=34 then (if x3.size+6≤9223372036854775807 then (spec_l02Value.l0 k x0 (x3++(⟨#[38,113,117,111,116,59]⟩:ByteArray)) (wrap64 (x4+1))) else (none)) else (if x4≤(wrap64 (x4+1)) then (if (wrap64 (x4+1))≤(x0.size:Int) then ((spec_l02Text.f k (x0.extract (x4:Int).toNat ((wrap64 (x4+1)):Int).toNat)).bind fun t145=>(if x3.size+t145.size≤9223372036854775807 then (spec_l02Value.l0 k x0 (x3++t145) (wrap64 (x4+1))) else (none))) else (none)) else (none))) else (none)) else (some x3)
def spec_l02Value.f (k:Nat) (a0:ByteArray):Option (ByteArray):=spec_l02Value.l0 k a0 (⟨#[]⟩:ByteArray) 0
theorem spec_l02Value.mono_l:∀ k,(∀ y0 y1 y2,LeO (spec_l02Value.l0 k y0 y1 y2) (spec_l02Value.l0 (k+1) y0 y1 y2))
 | 0=>fun _ _ _ r h=>by simp [spec_l02Value.l0] at h
 | k+1=>by
  have ih0:=spec_l02Value.mono_l k
  ·intro y0 y1 y2
   unfold spec_l02Value.l0
   repeat' first
   | (with_reducible exact ih0 _ _ _)
   | (with_reducible exact spec_l02Text.mono _ _)
   | (with_reducible exact LeO.refl _)
   | (with_reducible exact LeO.none _)
   | (with_reducible refine LeO.ite ?_ ?_)
   | (with_reducible refine LeO.bind ?_ (fun _=>?_))
   | exact ih0 _ _ _
   | exact spec_l02Text.mono _ _
   | exact LeO.none _
   | refine LeO.ite ?_ ?_
   | refine LeO.bind ?_ (fun _=>?_)
theorem spec_l02Value.mono:∀ a0 k,LeO (spec_l02Value.f k a0) (spec_l02Value.f (k+1) a0):=by
 intro a0 k
 have ih0:=spec_l02Value.mono_l k
 unfold spec_l02Value.f
 repeat' first
  | (with_reducible exact ih0 _ _ _)
  | (with_reducible exact spec_l02Text.mono _ _)
  | (with_reducible exact LeO.refl _)
  | (with_reducible exact LeO.none _)
  | (with_reducible refine LeO.ite ?_ ?_)
  | (with_reducible refine LeO.bind ?_ (fun _=>?_))
  | exact ih0 _ _ _
  | exact spec_l02Text.mono _ _
  | exact LeO.none _
  | refine LeO.ite ?_ ?_
  | refine LeO.bind ?_ (fun _=>?_)
set_option maxHeartbeats 8000000 in
set_option maxRecDepth 100000 in
theorem spec_l02Value.calls (k:Nat) (a0:ByteArray) (r:ByteArray) (w:World) (h:spec_l02Value.f k a0=some r) :
 Calls Tryz.prog 33 #[.string a0] w fun e w'=>e=.returned (.string r)∧Drawn0 w w':=by
 have H:(spec_l02Value.l0 k a0 (⟨#[]⟩:ByteArray) 0)=some r:=h
 clear h
 have H':=A_ H
 clear H
 go_enter Tryz.func33,Tryz.ntmps33
 go_wp2
 go_loopg [3,4] k (fun kq v3 v4 w'=>∃ (x3_1:ByteArray) (x4_1:Int),v3=.string x3_1∧v4=.int .i64 x4_1∧Aside0 (spec_l02Value.l0 kq a0 x3_1 x4_1=some r)∧Aside0 (kq≤k)∧Drawn0 w w')
 case atStart=>exact ⟨((⟨#[]⟩:ByteArray)),(0),(by first|rfl|(simp;done)|(simp [*];done)),(by first|rfl|(simp;done)|(simp [*];done)),H',⟨Nat.le_refl _⟩,by repeat (first|exact dr_ _|apply dp_)⟩
 case round =>
  clear H'
  obtain ⟨x3_1,x4_1,rfl,rfl,HA,HK1,⟨m1,rfl⟩⟩:=hrel
  cases gk with
  | zero=>exact absurd HA.out (by simp [spec_l02Value.l0])
  | succ k1 =>
   have H:=HA.out
   clear HA
   simp only [spec_l02Value.l0] at H
   by_cases c2:x4_1<(a0.size:Int)
   ·rw [if_pos c2] at H
    have c2b0:decide (x4_1<(a0.size:Int))=true:=dt_ c2
    clear c2
    by_cases c3:0≤x4_1
    ·rw [if_pos c3] at H
     have c3b0:decide (0≤x4_1)=true:=dt_ c3
     clear c3
     by_cases c5:(bt a0 x4_1)=34
     ·rw [if_pos c5] at H
      have c5b0:((bt a0 x4_1) == 34)=true:=beq_iff_eq.mpr c5
      have c5b1:((bt a0 x4_1) != 34)=false:=bne_eq_false_iff_eq.mpr c5
      clear c5
      by_cases c6:x3_1.size+6≤9223372036854775807
      ·rw [if_pos c6] at H
       have c6b0:=eq_true c6
       have c6b1:decide (x3_1.size+6≤9223372036854775807)=true:=dt_ c6
       try have c6b2:(9223372036854775807<x3_1.size+6)=False:=eq_false (Nat.not_lt.2 c6)
       have H':=A_ H
       clear H
       have p4:0≤(x4_1:Int):=od_ (by first|(with_reducible assumption)|assumption)
       have q4:x4_1<(a0.size:Int):=od_ (by first|(with_reducible assumption)|assumption)
       have hx4:=bt_at a0 x4_1
       replace p4:=eq_true p4
       replace q4:=eq_true q4
       go_wp2
       go_roundg k1
       case measure=>have:=HK1.out;omega
       case rel=>exact ⟨(x3_1++(⟨#[38,113,117,111,116,59]⟩:ByteArray)),(wrap64 (x4_1+1)),(by first|rfl|(simp;done)|(simp [*];done)),(by first|rfl|(simp;done)|(simp [*];done)),H',⟨by have:=HK1.out;omega⟩,by repeat (first|exact dr_ _|apply dp_)⟩
      ·rw [if_neg c6] at H
       exact absurd H (by simp)
     ·rw [if_neg c5] at H
      have c5b0:((bt a0 x4_1) == 34)=false:=beq_eq_false_iff_ne.mpr c5
      have c5b1:((bt a0 x4_1) != 34)=true:=bne_iff_ne.mpr c5
      have c7b0:=eq_true (od_ (by first|(with_reducible assumption)|assumption):0≤x4_1)
      by_cases c8:x4_1≤(wrap64 (x4_1+1))
      ·rw [if_pos c8] at H
       have c8b0:=eq_true c8
       have c8b1:decide (x4_1≤(wrap64 (x4_1+1)))=true:=dt_ c8
       by_cases c9:(wrap64 (x4_1+1))≤(a0.size:Int)
       ·rw [if_pos c9] at H
        have c9b0:=eq_true c9
        have c9b1:decide ((wrap64 (x4_1+1))≤(a0.size:Int))=true:=dt_ c9
        replace H:=ob_ H
        obtain ⟨t145,A100,H⟩:=H
        replace H:(if x3_1.size+t145.size≤9223372036854775807 then (spec_l02Value.l0 k1 a0 (x3_1++t145) (wrap64 (x4_1+1))) else (none))=some r:=H
        have A10:=A_ A100
        clear A100
        by_cases c11:x3_1.size+t145.size≤9223372036854775807
        ·rw [if_pos c11] at H
         have c11b0:=eq_true c11
         have c11b1:decide (x3_1.size+t145.size≤9223372036854775807)=true:=dt_ c11
         try have c11b2:(9223372036854775807<x3_1.size+t145.size)=False:=eq_false (Nat.not_lt.2 c11)
         have H':=A_ H
         clear H
         have p4:0≤(x4_1:Int):=od_ (by first|(with_reducible assumption)|assumption)
         have q4:x4_1<(a0.size:Int):=od_ (by first|(with_reducible assumption)|assumption)
         have hx4:=bt_at a0 x4_1
         replace p4:=eq_true p4
         replace q4:=eq_true q4
         go_wp2_with (first|((with_reducible refine gate_callee (f:=18) rfl ?_);refine goesL_ (some 23) rfl rfl Tryz.func18 (by kernel_rfl) rfl #[.string (a0.extract (x4_1:Int).toNat ((wrap64 (x4_1+1)):Int).toNat)] rfl (by (try simp only [List.map_toArray,List.map_cons,List.map_nil]);first|done|rfl|(simp only [ld_,lt_];rfl)) ?_;(with_reducible refine (spec_l02Text.calls k1 (a0.extract (x4_1:Int).toNat ((wrap64 (x4_1+1)):Int).toNat) t145 _ A10.out).mono ?_);rintro e w' ⟨rfl,⟨nd,rfl⟩⟩;refine ⟨_,rfl,?_⟩))
         go_roundg k1
         case measure=>have:=HK1.out;omega
         case rel=>exact ⟨(x3_1++t145),(wrap64 (x4_1+1)),(by first|rfl|(simp;done)|(simp [*];done)),(by first|rfl|(simp;done)|(simp [*];done)),H',⟨by have:=HK1.out;omega⟩,by repeat (first|exact dr_ _|apply dp_)⟩
        ·rw [if_neg c11] at H
         exact absurd H (by simp)
       ·rw [if_neg c9] at H
        exact absurd H (by simp)
      ·rw [if_neg c8] at H
       exact absurd H (by simp)
    ·rw [if_neg c3] at H
     exact absurd H (by simp)
   ·rw [if_neg c2] at H
    have c2b0:decide (x4_1<(a0.size:Int))=false:=df_ c2
    clear c2
    obtain rfl:=oi_ H
    go_wp2
    go_ret
    exact ⟨by first|rfl|(simp;done)|(simp [*];done),by repeat (first|exact dr_ _|apply dp_)⟩
/-! ### spec_l06Start: function 19 -/
def spec_l06Start.l0:Nat→ByteArray→Int→Int→Int→ByteArray→ByteArray→List (S63)→List (S38)→Option (ByteArray)
 | 0,_,_,_,_,_,_,_,_=>none
 | k+1,x3,x4,x147000,x147001,x147002,x147003,x147004,x147005=>if x4<(x147004.length:Int) then (if 0≤x4 then (if 1+((rd_T63 x147004 x4).f0).size≤9223372036854775807 then (if ((⟨#[32]⟩:ByteArray)++((rd_T63 x147004 x4).f0)).size+2≤9223372036854775807 then ((spec_l02Value.f k ((rd_T63 x147004 x4).f1)).bind fun t149=>(if (((⟨#[32]⟩:ByteArray)++((rd_T63 x147004 x4).f0))++(⟨#[61,34]⟩:ByteArray)).size+t149.size≤9223372036854775807 then (if ((((⟨#[32]⟩:ByteArray)++((rd_T63 x147004 x4).f0))++(⟨#[61,34]⟩:ByteArray))++t149).size+1≤9223372036854775807 then (if x3.size+(((((⟨#[32]⟩:ByteArray)++((rd_T63 x147004 x4).f0))++(⟨#[61,34]⟩:ByteArray))++t149)++(⟨#[34]⟩:ByteArray)).size≤9223372036854775807 then (spec_l06Start.l0 k (x3++(((((⟨#[32]⟩:ByteArray)++((rd_T63 x147004 x4).f0))++(⟨#[61,34]⟩:ByteArray))++t149)++(⟨#[34]⟩:ByteArray))) (wrap64 (x4+1)) x147000 x147001 x147002 x147003 x147004 x147005) else (none)) else (none)) else (none))) else (none)) else (none)) else (none)) else (if x3.size+1≤9223372036854775807 then (some (x3++(⟨#[62]⟩:ByteArray))) else (none))
def spec_l06Start.f (k:Nat) (a0_0:Int) (a0_1:Int) (a0_2:ByteArray) (a0_3:ByteArray) (l0_4:List (S63)) (l0_5:List (S38)):Option (ByteArray):=if 1+a0_2.size≤9223372036854775807 then (spec_l06Start.l0 k ((⟨#[60]⟩:ByteArray)++a0_2) 0 a0_0 a0_1 a0_2 a0_3 l0_4 l0_5) else (none)
theorem spec_l06Start.mono_l:∀ k,(∀ y0 y1 y2 y3 y4 y5 y6 y7,LeO (spec_l06Start.l0 k y0 y1 y2 y3 y4 y5 y6 y7) (spec_l06Start.l0 (k+1) y0 y1 y2 y3 y4 y5 y6 y7))
 | 0=>fun _ _ _ _ _ _ _ _ r h=>by simp [spec_l06Start.l0] at h
 | k+1=>by
  have ih0:=spec_l06Start.mono_l k
  ·intro y0 y1 y2 y3 y4 y5 y6 y7
   unfold spec_l06Start.l0
   repeat' first
   | (with_reducible exact ih0 _ _ _ _ _ _ _ _)
   | (with_reducible exact spec_l02Value.mono _ _)
   | (with_reducible exact LeO.refl _)
   | (with_reducible exact LeO.none _)
   | (with_reducible refine LeO.ite ?_ ?_)
   | (with_reducible refine LeO.bind ?_ (fun _=>?_))
   | exact ih0 _ _ _ _ _ _ _ _
   | exact spec_l02Value.mono _ _
   | exact LeO.none _
   | refine LeO.ite ?_ ?_
   | refine LeO.bind ?_ (fun _=>?_)
theorem spec_l06Start.mono:∀ a0 a1 a2 a3 a4 a5 k,LeO (spec_l06Start.f k a0 a1 a2 a3 a4 a5) (spec_l06Start.f (k+1) a0 a1 a2 a3 a4 a5):=by
 intro a0 a1 a2 a3 a4 a5 k
 have ih0:=spec_l06Start.mono_l k
 unfold spec_l06Start.f
 repeat' first
  | (with_reducible exact ih0 _ _ _ _ _ _ _ _)
  | (with_reducible exact spec_l02Value.mono _ _)
  | (with_reducible exact LeO.refl _)
  | (with_reducible exact LeO.none _)
  | (with_reducible refine LeO.ite ?_ ?_)
  | (with_reducible refine LeO.bind ?_ (fun _=>?_))
  | exact ih0 _ _ _ _ _ _ _ _
  | exact spec_l02Value.mono _ _
  | exact LeO.none _
  | refine LeO.ite ?_ ?_
  | refine LeO.bind ?_ (fun _=>?_)
set_option maxHeartbeats 8000000 in
set_option maxRecDepth 100000 in
theorem spec_l06Start.calls (k:Nat) (a0_0:Int) (a0_1:Int) (a0_2:ByteArray) (a0_3:ByteArray) (A0_4:Option Addr) (c0_4:Nat) (l0_4:List (S63)) (A0_5:Option Addr) (c0_5:Nat) (l0_5:List (S38)) (r:ByteArray) (w:World) (hr0_4:Kd.C k63 w A0_4 l0_4.length l0_4) (hc0_4:l0_4.length≤c0_4) (hr0_5:Kd.C k38 w A0_5 l0_5.length l0_5) (hc0_5:l0_5.length≤c0_5) (h:spec_l06Start.f k a0_0 a0_1 a0_2 a0_3 l0_4 l0_5=some r) :
 Calls Tryz.prog 19 #[.agg #[.int .i64 a0_0,.int .i64 a0_1,.string a0_2,.string a0_3,.slice A0_4 l0_4.length c0_4,.slice A0_5 l0_5.length c0_5]] w fun e w'=>e=.returned (.string r)∧Below w.heap.size w w':=by
 have hu38:=Tryz.underlying38
 have HR0_4:=A_ hr0_4
 have HC0_4:=A_ hc0_4
 clear hr0_4 hc0_4
 have HR0_5:=A_ hr0_5
 have HC0_5:=A_ hc0_5
 clear hr0_5 hc0_5
 have HB:=A_ (Below.refl w.heap.size w)
 have H:(if 1+a0_2.size≤9223372036854775807 then (spec_l06Start.l0 k ((⟨#[60]⟩:ByteArray)++a0_2) 0 a0_0 a0_1 a0_2 a0_3 l0_4 l0_5) else (none))=some r:=h
 clear h
 by_cases c2:1+a0_2.size≤9223372036854775807
 ·rw [if_pos c2] at H
  have c2b0:=eq_true c2
  have c2b1:decide (1+a0_2.size≤9223372036854775807)=true:=dt_ c2
  try have c2b2:(9223372036854775807<1+a0_2.size)=False:=eq_false (Nat.not_lt.2 c2)
  have H':=A_ H
  clear H
  go_enter Tryz.func19,Tryz.ntmps19
  go_wp2_with (first|((with_reducible refine gate_dst (N:=1) rfl ?_);refine box_event ?hg (N:=1) ?hd (cs:=#[.int .i64 a0_0,.int .i64 a0_1,.string a0_2,.string a0_3,.slice A0_4 l0_4.length c0_4,.slice A0_5 l0_5.length c0_5]) (t:=38) ?hr ?_;(case hd=>rfl);(case hg=>rfl);(case hr=>first|(go_simp;done)|(go_simp;rfl));intro gb146 hg w3 hbox hb;have n0_:=A_ (bp_ (by repeat (first|(with_reducible first|exact HB.out|apply ba_|apply pd_|apply b1_)|exact HB.out)) hb);have n1_:=A_ (hbox);have n2_:=A_ ((by rw [hg];exact (bz_ (by repeat (first|(with_reducible first|exact HB.out|apply ba_|apply pd_|apply b1_)|exact HB.out))):w.heap.size≤gb146));have n3_:=A_ ((by rw [hg];exact (bz_ (by repeat (first|(with_reducible first|exact HB.out|apply ba_|apply pd_|apply b1_)|exact HB.out))):w.heap.size≤gb146));clear HB;have HB:=n0_;have BK146:=n1_;have GW146:=n2_;have GE146:=n3_;clear n0_ n1_ n2_ n3_;clear hb hbox hg;have hcz4_0:w3.cell? ⟨gb146,0,none⟩=some (.int .i64 a0_0):=(bc_ BK146.out 0).trans rfl;have hcz4_1:w3.cell? ⟨gb146,1,none⟩=some (.int .i64 a0_1):=(bc_ BK146.out 1).trans rfl;have hcz4_2:w3.cell? ⟨gb146,2,none⟩=some (.string a0_2):=(bc_ BK146.out 2).trans rfl;have hcz4_3:w3.cell? ⟨gb146,3,none⟩=some (.string a0_3):=(bc_ BK146.out 3).trans rfl;have hcz4_4:w3.cell? ⟨gb146,4,none⟩=some (.slice A0_4 l0_4.length c0_4):=(bc_ BK146.out 4).trans rfl;have hcz4_5:w3.cell? ⟨gb146,5,none⟩=some (.slice A0_5 l0_5.length c0_5):=(bc_ BK146.out 5).trans rfl;have hfz4_0:=bf_ BK146.out 0;have hfz4_1:=bf_ BK146.out 1;have hfz4_2:=bf_ BK146.out 2;have hfz4_3:=bf_ BK146.out 3;have hfz4_4:=bf_ BK146.out 4;have hfz4_5:=bf_ BK146.out 5))
  repeat (go_quiet (first|((with_reducible refine gate_dst (N:=1) rfl ?_);refine box_event ?hg (N:=1) ?hd (cs:=#[.int .i64 a0_0,.int .i64 a0_1,.string a0_2,.string a0_3,.slice A0_4 l0_4.length c0_4,.slice A0_5 l0_5.length c0_5]) (t:=38) ?hr ?_;(case hd=>rfl);(case hg=>rfl);(case hr=>first|(go_simp;done)|(go_simp;rfl));intro gb146 hg w3 hbox hb;have n0_:=A_ (bp_ (by repeat (first|(with_reducible first|exact HB.out|apply ba_|apply pd_|apply b1_)|exact HB.out)) hb);have n1_:=A_ (hbox);have n2_:=A_ ((by rw [hg];exact (bz_ (by repeat (first|(with_reducible first|exact HB.out|apply ba_|apply pd_|apply b1_)|exact HB.out))):w.heap.size≤gb146));have n3_:=A_ ((by rw [hg];exact (bz_ (by repeat (first|(with_reducible first|exact HB.out|apply ba_|apply pd_|apply b1_)|exact HB.out))):w.heap.size≤gb146));clear HB;have HB:=n0_;have BK146:=n1_;have GW146:=n2_;have GE146:=n3_;clear n0_ n1_ n2_ n3_;clear hb hbox hg;have hcz4_0:w3.cell? ⟨gb146,0,none⟩=some (.int .i64 a0_0):=(bc_ BK146.out 0).trans rfl;have hcz4_1:w3.cell? ⟨gb146,1,none⟩=some (.int .i64 a0_1):=(bc_ BK146.out 1).trans rfl;have hcz4_2:w3.cell? ⟨gb146,2,none⟩=some (.string a0_2):=(bc_ BK146.out 2).trans rfl;have hcz4_3:w3.cell? ⟨gb146,3,none⟩=some (.string a0_3):=(bc_ BK146.out 3).trans rfl;have hcz4_4:w3.cell? ⟨gb146,4,none⟩=some (.slice A0_4 l0_4.length c0_4):=(bc_ BK146.out 4).trans rfl;have hcz4_5:w3.cell? ⟨gb146,5,none⟩=some (.slice A0_5 l0_5.length c0_5):=(bc_ BK146.out 5).trans rfl;have hfz4_0:=bf_ BK146.out 0;have hfz4_1:=bf_ BK146.out 1;have hfz4_2:=bf_ BK146.out 2;have hfz4_3:=bf_ BK146.out 3;have hfz4_4:=bf_ BK146.out 4;have hfz4_5:=bf_ BK146.out 5));try go_wp2_with (first|((with_reducible refine gate_dst (N:=1) rfl ?_);refine box_event ?hg (N:=1) ?hd (cs:=#[.int .i64 a0_0,.int .i64 a0_1,.string a0_2,.string a0_3,.slice A0_4 l0_4.length c0_4,.slice A0_5 l0_5.length c0_5]) (t:=38) ?hr ?_;(case hd=>rfl);(case hg=>rfl);(case hr=>first|(go_simp;done)|(go_simp;rfl));intro gb146 hg w3 hbox hb;have n0_:=A_ (bp_ (by repeat (first|(with_reducible first|exact HB.out|apply ba_|apply pd_|apply b1_)|exact HB.out)) hb);have n1_:=A_ (hbox);have n2_:=A_ ((by rw [hg];exact (bz_ (by repeat (first|(with_reducible first|exact HB.out|apply ba_|apply pd_|apply b1_)|exact HB.out))):w.heap.size≤gb146));have n3_:=A_ ((by rw [hg];exact (bz_ (by repeat (first|(with_reducible first|exact HB.out|apply ba_|apply pd_|apply b1_)|exact HB.out))):w.heap.size≤gb146));clear HB;have HB:=n0_;have BK146:=n1_;have GW146:=n2_;have GE146:=n3_;clear n0_ n1_ n2_ n3_;clear hb hbox hg;have hcz4_0:w3.cell? ⟨gb146,0,none⟩=some (.int .i64 a0_0):=(bc_ BK146.out 0).trans rfl;have hcz4_1:w3.cell? ⟨gb146,1,none⟩=some (.int .i64 a0_1):=(bc_ BK146.out 1).trans rfl;have hcz4_2:w3.cell? ⟨gb146,2,none⟩=some (.string a0_2):=(bc_ BK146.out 2).trans rfl;have hcz4_3:w3.cell? ⟨gb146,3,none⟩=some (.string a0_3):=(bc_ BK146.out 3).trans rfl;have hcz4_4:w3.cell? ⟨gb146,4,none⟩=some (.slice A0_4 l0_4.length c0_4):=(bc_ BK146.out 4).trans rfl;have hcz4_5:w3.cell? ⟨gb146,5,none⟩=some (.slice A0_5 l0_5.length c0_5):=(bc_ BK146.out 5).trans rfl;have hfz4_0:=bf_ BK146.out 0;have hfz4_1:=bf_ BK146.out 1;have hfz4_2:=bf_ BK146.out 2;have hfz4_3:=bf_ BK146.out 3;have hfz4_4:=bf_ BK146.out 4;have hfz4_5:=bf_ BK146.out 5)))
  go_loopg [3,4] k (fun kq v3 v4 w'=>∃ (x3_1:ByteArray) (x4_1:Int),v3=.string x3_1∧v4=.int .i64 x4_1∧Aside0 (spec_l06Start.l0 kq x3_1 x4_1 a0_0 a0_1 a0_2 a0_3 l0_4 l0_5=some r)∧Aside0 (kq≤k)∧Aside0 (w'.heap[gb146]? = some (.cells #[.int .i64 a0_0,.int .i64 a0_1,.string a0_2,.string a0_3,(.slice A0_4 l0_4.length c0_4),(.slice A0_5 l0_5.length c0_5)] 38 (0,0)))∧Aside0 (Below w.heap.size w w'))
  case atStart=>exact ⟨((⟨#[60]⟩:ByteArray)++a0_2),(0),(by first|rfl|(simp;done)|(simp [*];done)),(by first|rfl|(simp;done)|(simp [*];done)),H',⟨Nat.le_refl _⟩,⟨by (with_reducible repeat (first|refine kn_ ?_ _|refine kd_ ?_|refine ka_ ?_ _));exact BK146.out⟩,⟨by repeat (first|(with_reducible first|exact HB.out|apply ba_|apply pd_|apply b1_|refine bs_ ?_ GE146.out)|exact HB.out)⟩⟩
  case round =>
   clear H'
   try clear c1
   try clear c2
   try clear c2b0
   try clear c2b1
   try clear c2b2
   try clear p2
   try clear hcz4_0
   try clear hcz4_1
   try clear hcz4_2
   try clear hcz4_3
   try clear hcz4_4
   try clear hcz4_5
   try clear hfz4_0
   try clear hfz4_1
   try clear hfz4_2
   try clear hfz4_3
   try clear hfz4_4
   try clear hfz4_5
   obtain ⟨x3_1,x4_1,rfl,rfl,HA,HK1,BK146,HB⟩:=hrel
   cases gk with
   | zero=>exact absurd HA.out (by simp [spec_l06Start.l0])
   | succ k1 =>
    have H:=HA.out
    clear HA
    simp only [spec_l06Start.l0] at H
    by_cases c5:x4_1<(l0_4.length:Int)
    ·rw [if_pos c5] at H
     have c5b0:decide (x4_1<(l0_4.length:Int))=true:=dt_ c5
     clear c5
     by_cases c6:0≤x4_1
     ·rw [if_pos c6] at H
      have c6b0:decide (0≤x4_1)=true:=dt_ c6
      clear c6
      by_cases c7:1+((rd_T63 l0_4 x4_1).f0).size≤9223372036854775807
      ·rw [if_pos c7] at H
       have c7b0:=eq_true c7
       have c7b1:decide (1+((rd_T63 l0_4 x4_1).f0).size≤9223372036854775807)=true:=dt_ c7
       try have c7b2:(9223372036854775807<1+((rd_T63 l0_4 x4_1).f0).size)=False:=eq_false (Nat.not_lt.2 c7)
       by_cases c8:((⟨#[32]⟩:ByteArray)++((rd_T63 l0_4 x4_1).f0)).size+2≤9223372036854775807
       ·rw [if_pos c8] at H
        have c8b0:=eq_true c8
        have c8b1:decide (((⟨#[32]⟩:ByteArray)++((rd_T63 l0_4 x4_1).f0)).size+2≤9223372036854775807)=true:=dt_ c8
        try have c8b2:(9223372036854775807<((⟨#[32]⟩:ByteArray)++((rd_T63 l0_4 x4_1).f0)).size+2)=False:=eq_false (Nat.not_lt.2 c8)
        have c8b8:=c8b1
        have c8b9:=c8b2
        have l0_:(⟨#[32]⟩:ByteArray).size=1:=rfl
        try simp only [ByteArray.size_append,l0_] at c8b8 c8b9
        clear l0_
        replace H:=ob_ H
        obtain ⟨t149,A90,H⟩:=H
        replace H:(if (((⟨#[32]⟩:ByteArray)++((rd_T63 l0_4 x4_1).f0))++(⟨#[61,34]⟩:ByteArray)).size+t149.size≤9223372036854775807 then (if ((((⟨#[32]⟩:ByteArray)++((rd_T63 l0_4 x4_1).f0))++(⟨#[61,34]⟩:ByteArray))++t149).size+1≤9223372036854775807 then (if x3_1.size+(((((⟨#[32]⟩:ByteArray)++((rd_T63 l0_4 x4_1).f0))++(⟨#[61,34]⟩:ByteArray))++t149)++(⟨#[34]⟩:ByteArray)).size≤9223372036854775807 then (spec_l06Start.l0 k1 (x3_1++(((((⟨#[32]⟩:ByteArray)++((rd_T63 l0_4 x4_1).f0))++(⟨#[61,34]⟩:ByteArray))++t149)++(⟨#[34]⟩:ByteArray))) (wrap64 (x4_1+1)) a0_0 a0_1 a0_2 a0_3 l0_4 l0_5) else (none)) else (none)) else (none))=some r:=H
        have A9:=A_ A90
        clear A90
        by_cases c10:(((⟨#[32]⟩:ByteArray)++((rd_T63 l0_4 x4_1).f0))++(⟨#[61,34]⟩:ByteArray)).size+t149.size≤9223372036854775807
        ·rw [if_pos c10] at H
         have c10b0:=eq_true c10
         have c10b1:decide ((((⟨#[32]⟩:ByteArray)++((rd_T63 l0_4 x4_1).f0))++(⟨#[61,34]⟩:ByteArray)).size+t149.size≤9223372036854775807)=true:=dt_ c10
         try have c10b2:(9223372036854775807<(((⟨#[32]⟩:ByteArray)++((rd_T63 l0_4 x4_1).f0))++(⟨#[61,34]⟩:ByteArray)).size+t149.size)=False:=eq_false (Nat.not_lt.2 c10)
         have c10b8:=c10b1
         have c10b9:=c10b2
         have l0_:(⟨#[32]⟩:ByteArray).size=1:=rfl
         have l1_:(⟨#[61,34]⟩:ByteArray).size=2:=rfl
         try simp only [ByteArray.size_append,l0_,l1_] at c10b8 c10b9
         clear l0_ l1_
         by_cases c11:((((⟨#[32]⟩:ByteArray)++((rd_T63 l0_4 x4_1).f0))++(⟨#[61,34]⟩:ByteArray))++t149).size+1≤9223372036854775807
         ·rw [if_pos c11] at H
          have c11b0:=eq_true c11
          have c11b1:decide (((((⟨#[32]⟩:ByteArray)++((rd_T63 l0_4 x4_1).f0))++(⟨#[61,34]⟩:ByteArray))++t149).size+1≤9223372036854775807)=true:=dt_ c11
          try have c11b2:(9223372036854775807<((((⟨#[32]⟩:ByteArray)++((rd_T63 l0_4 x4_1).f0))++(⟨#[61,34]⟩:ByteArray))++t149).size+1)=False:=eq_false (Nat.not_lt.2 c11)
          have c11b8:=c11b1
          have c11b9:=c11b2
          have l0_:(⟨#[32]⟩:ByteArray).size=1:=rfl
          have l1_:(⟨#[61,34]⟩:ByteArray).size=2:=rfl
          try simp only [ByteArray.size_append,l0_,l1_] at c11b8 c11b9
          clear l0_ l1_
          by_cases c12:x3_1.size+(((((⟨#[32]⟩:ByteArray)++((rd_T63 l0_4 x4_1).f0))++(⟨#[61,34]⟩:ByteArray))++t149)++(⟨#[34]⟩:ByteArray)).size≤9223372036854775807
          ·rw [if_pos c12] at H
           have c12b0:=eq_true c12
           have c12b1:decide (x3_1.size+(((((⟨#[32]⟩:ByteArray)++((rd_T63 l0_4 x4_1).f0))++(⟨#[61,34]⟩:ByteArray))++t149)++(⟨#[34]⟩:ByteArray)).size≤9223372036854775807)=true:=dt_ c12
           try have c12b2:(9223372036854775807<x3_1.size+(((((⟨#[32]⟩:ByteArray)++((rd_T63 l0_4 x4_1).f0))++(⟨#[61,34]⟩:ByteArray))++t149)++(⟨#[34]⟩:ByteArray)).size)=False:=eq_false (Nat.not_lt.2 c12)
           have c12b8:=c12b1
           have c12b9:=c12b2
           have l0_:(⟨#[32]⟩:ByteArray).size=1:=rfl
           have l1_:(⟨#[34]⟩:ByteArray).size=1:=rfl
           have l2_:(⟨#[61,34]⟩:ByteArray).size=2:=rfl
           try simp only [ByteArray.size_append,l0_,l1_,l2_] at c12b8 c12b9
           clear l0_ l1_ l2_
           have H':=A_ H
           clear H
           have hcz13_0:wr.cell? ⟨gb146,0,none⟩=some (.int .i64 a0_0):=(bc_ BK146.out 0).trans rfl
           have hcz13_1:wr.cell? ⟨gb146,1,none⟩=some (.int .i64 a0_1):=(bc_ BK146.out 1).trans rfl
           have hcz13_2:wr.cell? ⟨gb146,2,none⟩=some (.string a0_2):=(bc_ BK146.out 2).trans rfl
           have hcz13_3:wr.cell? ⟨gb146,3,none⟩=some (.string a0_3):=(bc_ BK146.out 3).trans rfl
           have hcz13_4:wr.cell? ⟨gb146,4,none⟩=some (.slice A0_4 l0_4.length c0_4):=(bc_ BK146.out 4).trans rfl
           have hcz13_5:wr.cell? ⟨gb146,5,none⟩=some (.slice A0_5 l0_5.length c0_5):=(bc_ BK146.out 5).trans rfl
           have hfz13_0:=bf_ BK146.out 0
           have hfz13_1:=bf_ BK146.out 1
           have hfz13_2:=bf_ BK146.out 2
           have hfz13_3:=bf_ BK146.out 3
           have hfz13_4:=bf_ BK146.out 4
           have hfz13_5:=bf_ BK146.out 5
           have p147:0≤(x4_1:Int):=od_ (by first|(with_reducible assumption)|assumption)
           have q147:x4_1<(l0_4.length:Int):=od_ (by first|(with_reducible assumption)|assumption)
           obtain ⟨ad147,e147,hx147_0,hx147_1⟩:=at_T63 HR0_4.out x4_1 p147 q147
           cases e147
           replace hx147_0:=(HB.out.cell (bl_ w _ hx147_0)).trans hx147_0
           replace hx147_1:=(HB.out.cell (bl_ w _ hx147_1)).trans hx147_1
           replace p147:=eq_true p147
           replace q147:=eq_true q147
           have p148:0≤(x4_1:Int):=od_ (by first|(with_reducible assumption)|assumption)
           have q148:x4_1<(l0_4.length:Int):=od_ (by first|(with_reducible assumption)|assumption)
           obtain ⟨ad148,e148,hx148_0,hx148_1⟩:=at_T63 HR0_4.out x4_1 p148 q148
           obtain rfl:ad147=ad148:=(by injection e148)
           replace hx148_0:=(HB.out.cell (bl_ w _ hx148_0)).trans hx148_0
           replace hx148_1:=(HB.out.cell (bl_ w _ hx148_1)).trans hx148_1
           replace p148:=eq_true p148
           replace q148:=eq_true q148
           go_wp2_with (first|(go_at_call 33;(with_reducible refine (spec_l02Value.calls k1 ((rd_T63 l0_4 x4_1).f1) t149 _ A9.out).mono ?_);rintro e w' ⟨rfl,⟨nd,rfl⟩⟩;(try first|exact ⟨rfl,_,ww_ _ _ _⟩|exact ⟨rfl,_,Eq.trans (ww_ _ _ _) (congrArg (World.drewN _) (Nat.add_assoc _ _ _))⟩)))
           repeat (go_quiet (first|(go_at_call 33;(with_reducible refine (spec_l02Value.calls k1 ((rd_T63 l0_4 x4_1).f1) t149 _ A9.out).mono ?_);rintro e w' ⟨rfl,⟨nd,rfl⟩⟩;(try first|exact ⟨rfl,_,ww_ _ _ _⟩|exact ⟨rfl,_,Eq.trans (ww_ _ _ _) (congrArg (World.drewN _) (Nat.add_assoc _ _ _))⟩)));try go_wp2_with (first|(go_at_call 33;(with_reducible refine (spec_l02Value.calls k1 ((rd_T63 l0_4 x4_1).f1) t149 _ A9.out).mono ?_);rintro e w' ⟨rfl,⟨nd,rfl⟩⟩;(try first|exact ⟨rfl,_,ww_ _ _ _⟩|exact ⟨rfl,_,Eq.trans (ww_ _ _ _) (congrArg (World.drewN _) (Nat.add_assoc _ _ _))⟩))))
           go_roundg k1
           case measure=>have:=HK1.out;omega
           case rel=>exact ⟨(x3_1++(((((⟨#[32]⟩:ByteArray)++((rd_T63 l0_4 x4_1).f0))++(⟨#[61,34]⟩:ByteArray))++t149)++(⟨#[34]⟩:ByteArray))),(wrap64 (x4_1+1)),(by first|rfl|(simp;done)|(simp [*];done)),(by first|rfl|(simp;done)|(simp [*];done)),H',⟨by have:=HK1.out;omega⟩,⟨by (with_reducible repeat (first|refine kn_ ?_ _|refine kd_ ?_|refine ka_ ?_ _));exact BK146.out⟩,⟨by repeat (first|(with_reducible first|exact HB.out|apply ba_|apply pd_|apply b1_|refine bs_ ?_ GE146.out)|exact HB.out)⟩⟩
          ·rw [if_neg c12] at H
           exact absurd H (by simp)
         ·rw [if_neg c11] at H
          exact absurd H (by simp)
        ·rw [if_neg c10] at H
         exact absurd H (by simp)
       ·rw [if_neg c8] at H
        exact absurd H (by simp)
      ·rw [if_neg c7] at H
       exact absurd H (by simp)
     ·rw [if_neg c6] at H
      exact absurd H (by simp)
    ·rw [if_neg c5] at H
     have c5b0:decide (x4_1<(l0_4.length:Int))=false:=df_ c5
     clear c5
     by_cases c14:x3_1.size+1≤9223372036854775807
     ·rw [if_pos c14] at H
      have c14b0:=eq_true c14
      have c14b1:decide (x3_1.size+1≤9223372036854775807)=true:=dt_ c14
      try have c14b2:(9223372036854775807<x3_1.size+1)=False:=eq_false (Nat.not_lt.2 c14)
      obtain rfl:=oi_ H
      have hcz15_0:wr.cell? ⟨gb146,0,none⟩=some (.int .i64 a0_0):=(bc_ BK146.out 0).trans rfl
      have hcz15_1:wr.cell? ⟨gb146,1,none⟩=some (.int .i64 a0_1):=(bc_ BK146.out 1).trans rfl
      have hcz15_2:wr.cell? ⟨gb146,2,none⟩=some (.string a0_2):=(bc_ BK146.out 2).trans rfl
      have hcz15_3:wr.cell? ⟨gb146,3,none⟩=some (.string a0_3):=(bc_ BK146.out 3).trans rfl
      have hcz15_4:wr.cell? ⟨gb146,4,none⟩=some (.slice A0_4 l0_4.length c0_4):=(bc_ BK146.out 4).trans rfl
      have hcz15_5:wr.cell? ⟨gb146,5,none⟩=some (.slice A0_5 l0_5.length c0_5):=(bc_ BK146.out 5).trans rfl
      have hfz15_0:=bf_ BK146.out 0
      have hfz15_1:=bf_ BK146.out 1
      have hfz15_2:=bf_ BK146.out 2
      have hfz15_3:=bf_ BK146.out 3
      have hfz15_4:=bf_ BK146.out 4
      have hfz15_5:=bf_ BK146.out 5
      go_wp2
      repeat (go_quiet (fail);try go_wp2)
      go_ret
      exact ⟨by first|rfl|(simp [errW_none,errW_some] <;> rfl)|(simp [*,errW_none,errW_some] <;> rfl),by repeat (first|(with_reducible first|exact HB.out|apply ba_|apply pd_|apply b1_|refine bs_ ?_ GE146.out)|exact HB.out)⟩
     ·rw [if_neg c14] at H
      exact absurd H (by simp)
 ·rw [if_neg c2] at H
  exact absurd H (by simp)
end Go.Proofs.YtlpncjeahdfolaaGreatDoor.PFnExactSerialize
