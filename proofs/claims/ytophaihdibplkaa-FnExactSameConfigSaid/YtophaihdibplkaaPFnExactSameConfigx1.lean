/- By a program of this session, out of the kit's print and contracts made by hand: the machine side of a law; Lean checks it. No conditions. -/
import Derived.Test.YtophaihdibplkaaPFnExactSameConfigx0
namespace Go.Proofs.Ytophaihdibplkaa.PFnExactSameConfig
open Go.RowKit Go.Proofs.YtophaihdibplkaaW.PrintWords Go.Proofs.YtophaihdibplkaaW.PrintLast Go.Proofs.YtophaihdibplkaaW.PrintMore
attribute [local go_sem] max2_int min2_int max_two min_two max_three min_three max_four min_four
set_option linter.unusedVariables false
set_option linter.unusedSimpArgs false
/-! ### laws_szStringS: function 125 -/
def laws_szStringS.l0:Nat→List ByteArray→Int→Int→Option (Int)
 | 0,_,_,_=>none
 | k+1,x0,x1,x5=>if x5<(x0.length:Int) then (if 0≤x5 then (if (wrap64 (x1 - ((rdOf ByteArray.empty x0 x5).size:Int)))<0 then (some (-1)) else (laws_szStringS.l0 k x0 (wrap64 (x1 - ((rdOf ByteArray.empty x0 x5).size:Int))) (wrap64 (x5+1)))) else (none)) else (some x1)
def laws_szStringS.f (k:Nat) (l0:List ByteArray) (a1:Int):Option (Int):=if (wrap64 (a1 - (l0.length:Int)))<0 then (some (-1)) else (laws_szStringS.l0 k l0 (wrap64 (a1 - (l0.length:Int))) 0)
theorem laws_szStringS.mono_l:∀ k,(∀ y0 y1 y2,LeO (laws_szStringS.l0 k y0 y1 y2) (laws_szStringS.l0 (k+1) y0 y1 y2))
 | 0=>fun _ _ _ r h=>by simp [laws_szStringS.l0] at h
 | k+1=>by
  have ih0:=laws_szStringS.mono_l k
  ·intro y0 y1 y2
   unfold laws_szStringS.l0
   repeat' first
   | (with_reducible exact ih0 _ _ _)
   | (with_reducible exact LeO.refl _)
   | (with_reducible exact LeO.none _)
   | (with_reducible refine LeO.ite ?_ ?_)
   | (with_reducible refine LeO.bind ?_ (fun _=>?_))
   | exact ih0 _ _ _
   | exact LeO.none _
   | refine LeO.ite ?_ ?_
   | refine LeO.bind ?_ (fun _=>?_)
theorem laws_szStringS.mono:∀ a0 a1 k,LeO (laws_szStringS.f k a0 a1) (laws_szStringS.f (k+1) a0 a1):=by
 intro a0 a1 k
 have ih0:=laws_szStringS.mono_l k
 unfold laws_szStringS.f
 repeat' first
  | (with_reducible exact ih0 _ _ _)
  | (with_reducible exact LeO.refl _)
  | (with_reducible exact LeO.none _)
  | (with_reducible refine LeO.ite ?_ ?_)
  | (with_reducible refine LeO.bind ?_ (fun _=>?_))
  | exact ih0 _ _ _
  | exact LeO.none _
  | refine LeO.ite ?_ ?_
  | refine LeO.bind ?_ (fun _=>?_)
set_option maxHeartbeats 8000000 in
set_option maxRecDepth 100000 in
theorem laws_szStringS.calls (k:Nat) (A0:Option Addr) (c0:Nat) (l0:List ByteArray) (a1:Int) (r:Int) (w:World) (hr0:Kd.C Kd.string w A0 l0.length l0) (hc0:l0.length≤c0) (h:laws_szStringS.f k l0 a1=some r) :
 Calls Try.prog 125 #[.slice A0 l0.length c0,.int .i64 a1] w fun e w'=>e=.returned (.int .i64 r)∧Drawn0 w w':=by
 have HR0:=Aside0.mk hr0
 have HC0:=Aside0.mk hc0
 clear hr0 hc0
 have H:(if (wrap64 (a1 - (l0.length:Int)))<0 then (some (-1)) else (laws_szStringS.l0 k l0 (wrap64 (a1 - (l0.length:Int))) 0))=some r:=h
 clear h
 by_cases c3:(wrap64 (a1 - (l0.length:Int)))<0
 ·rw [if_pos c3] at H
  have c3b0:decide ((wrap64 (a1 - (l0.length:Int)))<0)=true:=decide_eq_true c3
  clear c3
  obtain rfl:=Option.some.inj H
  go_enter Try.func125,Try.ntmps125
  go_wp2
  go_ret
  exact ⟨by first|rfl|(simp;done)|(simp [*];done),by repeat (first|exact Drawn0.refl _|apply Drawn0.step)⟩
 ·rw [if_neg c3] at H
  have c3b0:decide ((wrap64 (a1 - (l0.length:Int)))<0)=false:=decide_eq_false c3
  clear c3
  have H':=Aside0.mk H
  clear H
  go_enter Try.func125,Try.ntmps125
  go_wp2
  go_loopg [1,5] k (fun kq v1 v5 w'=>∃ (x1_1:Int) (x5_1:Int),v1=.int .i64 x1_1∧v5=.int .i64 x5_1∧Aside0 (laws_szStringS.l0 kq l0 x1_1 x5_1=some r)∧Aside0 (kq≤k)∧Drawn0 w w')
  case atStart=>exact ⟨(wrap64 (a1 - (l0.length:Int))),(0),(by first|rfl|(simp;done)|(simp [*];done)),(by first|rfl|(simp;done)|(simp [*];done)),H',⟨Nat.le_refl _⟩,by repeat (first|exact Drawn0.refl _|apply Drawn0.step)⟩
  case round =>
   clear H'
   try clear c1
   try clear p2
   try clear c3
   try clear c3b0
   obtain ⟨x1_1,x5_1,rfl,rfl,HA,HK1,⟨m1,rfl⟩⟩:=hrel
   cases gk with
   | zero=>exact absurd HA.out (by simp [laws_szStringS.l0])
   | succ k1 =>
    have H:=HA.out
    clear HA
    simp only [laws_szStringS.l0] at H
    by_cases c4:x5_1<(l0.length:Int)
    ·rw [if_pos c4] at H
     have c4b0:decide (x5_1<(l0.length:Int))=true:=decide_eq_true c4
     clear c4
     by_cases c5:0≤x5_1
     ·rw [if_pos c5] at H
      have c5b0:decide (0≤x5_1)=true:=decide_eq_true c5
      clear c5
      by_cases c6:(wrap64 (x1_1 - ((rdOf ByteArray.empty l0 x5_1).size:Int)))<0
      ·rw [if_pos c6] at H
       have c6b0:decide ((wrap64 (x1_1 - ((rdOf ByteArray.empty l0 x5_1).size:Int)))<0)=true:=decide_eq_true c6
       clear c6
       obtain rfl:=Option.some.inj H
       have p101:0≤(x5_1:Int):=of_decide_eq_true (by first|(with_reducible assumption)|assumption)
       have q101:x5_1<(l0.length:Int):=of_decide_eq_true (by first|(with_reducible assumption)|assumption)
       obtain ⟨ad101,e101,hx101_0⟩:=Kd.at_string HR0.out x5_1 p101 q101
       cases e101
       replace p101:=eq_true p101
       replace q101:=eq_true q101
       go_wp2
       go_ret
       exact ⟨by first|rfl|(simp;done)|(simp [*];done),by repeat (first|exact Drawn0.refl _|apply Drawn0.step)⟩
      ·rw [if_neg c6] at H
       have c6b0:decide ((wrap64 (x1_1 - ((rdOf ByteArray.empty l0 x5_1).size:Int)))<0)=false:=decide_eq_false c6
       clear c6
       have H':=Aside0.mk H
       clear H
       have p101:0≤(x5_1:Int):=of_decide_eq_true (by first|(with_reducible assumption)|assumption)
       have q101:x5_1<(l0.length:Int):=of_decide_eq_true (by first|(with_reducible assumption)|assumption)
       obtain ⟨ad101,e101,hx101_0⟩:=Kd.at_string HR0.out x5_1 p101 q101
       cases e101
       replace p101:=eq_true p101
       replace q101:=eq_true q101
       go_wp2
       go_roundg k1
       case measure=>have:=HK1.out;omega
       case rel=>exact ⟨(wrap64 (x1_1 - ((rdOf ByteArray.empty l0 x5_1).size:Int))),(wrap64 (x5_1+1)),(by first|rfl|(simp;done)|(simp [*];done)),(by first|rfl|(simp;done)|(simp [*];done)),H',⟨by have:=HK1.out;omega⟩,by repeat (first|exact Drawn0.refl _|apply Drawn0.step)⟩
     ·rw [if_neg c5] at H
      exact absurd H (by simp)
    ·rw [if_neg c4] at H
     have c4b0:decide (x5_1<(l0.length:Int))=false:=decide_eq_false c4
     clear c4
     obtain rfl:=Option.some.inj H
     go_wp2
     go_ret
     exact ⟨by first|rfl|(simp;done)|(simp [*];done),by repeat (first|exact Drawn0.refl _|apply Drawn0.step)⟩
/-! ### laws_szRule: function 167 -/
def laws_szRule.f (k:Nat) (a0_0:Int) (a0_1:ByteArray) (l0_2:List ByteArray) (a1:Int):Option (Int):=if (wrap64 (a1 - (a0_1.size:Int)))<0 then (some (-1)) else ((laws_szStringS.f k l0_2 (wrap64 (a1 - (a0_1.size:Int)))).bind fun t103=>(if t103<0 then (some (-1)) else (some t103)))
theorem laws_szRule.mono:∀ a0 a1 a2 a3 k,LeO (laws_szRule.f k a0 a1 a2 a3) (laws_szRule.f (k+1) a0 a1 a2 a3):=by
 intro a0 a1 a2 a3 k
 unfold laws_szRule.f
 repeat' first
  | (with_reducible exact laws_szStringS.mono _ _ _)
  | (with_reducible exact LeO.refl _)
  | (with_reducible exact LeO.none _)
  | (with_reducible refine LeO.ite ?_ ?_)
  | (with_reducible refine LeO.bind ?_ (fun _=>?_))
  | exact laws_szStringS.mono _ _ _
  | exact LeO.none _
  | refine LeO.ite ?_ ?_
  | refine LeO.bind ?_ (fun _=>?_)
set_option maxHeartbeats 8000000 in
set_option maxRecDepth 100000 in
theorem laws_szRule.calls (k:Nat) (a0_0:Int) (a0_1:ByteArray) (A0_2:Option Addr) (c0_2:Nat) (l0_2:List ByteArray) (a1:Int) (r:Int) (w:World) (hr0_2:Kd.C Kd.string w A0_2 l0_2.length l0_2) (hc0_2:l0_2.length≤c0_2) (h:laws_szRule.f k a0_0 a0_1 l0_2 a1=some r) :
 Calls Try.prog 167 #[.agg #[.int .i64 a0_0,.string a0_1,.slice A0_2 l0_2.length c0_2],.int .i64 a1] w fun e w'=>e=.returned (.int .i64 r)∧Below w.heap.size w w':=by
 have hu153:=Try.underlying153
 have HR0_2:=Aside0.mk hr0_2
 have HC0_2:=Aside0.mk hc0_2
 clear hr0_2 hc0_2
 have HB:=Aside0.mk (Below.refl w.heap.size w)
 have H:(if (wrap64 (a1 - (a0_1.size:Int)))<0 then (some (-1)) else ((laws_szStringS.f k l0_2 (wrap64 (a1 - (a0_1.size:Int)))).bind fun t103=>(if t103<0 then (some (-1)) else (some t103))))=some r:=h
 clear h
 by_cases c3:(wrap64 (a1 - (a0_1.size:Int)))<0
 ·rw [if_pos c3] at H
  have c3b0:decide ((wrap64 (a1 - (a0_1.size:Int)))<0)=true:=decide_eq_true c3
  clear c3
  obtain rfl:=Option.some.inj H
  go_enter Try.func167,Try.ntmps167
  go_wp2_with (first|((with_reducible refine gate_dst (N:=2) rfl ?_);refine box_event ?hg (N:=2) ?hd (cs:=#[.int .i64 a0_0,.string a0_1,.slice A0_2 l0_2.length c0_2]) (t:=153) ?hr ?_;(case hd=>rfl);(case hg=>rfl);(case hr=>first|(go_simp;done)|(go_simp;rfl));intro gb102 hg w4 hbox hb;have n0_:=Aside0.mk (below_step (by repeat (first|(with_reducible first|exact HB.out|apply below_alloc|apply pw_below_drewN|apply below_drew1)|exact HB.out)) hb);have n1_:=Aside0.mk (hbox);have n2_:=Aside0.mk ((by rw [hg];exact (below_size (by repeat (first|(with_reducible first|exact HB.out|apply below_alloc|apply pw_below_drewN|apply below_drew1)|exact HB.out))):w.heap.size≤gb102));have n3_:=Aside0.mk ((by rw [hg];exact (below_size (by repeat (first|(with_reducible first|exact HB.out|apply below_alloc|apply pw_below_drewN|apply below_drew1)|exact HB.out))):w.heap.size≤gb102));clear HB;have HB:=n0_;have BK102:=n1_;have GW102:=n2_;have GE102:=n3_;clear n0_ n1_ n2_ n3_;clear hb hbox hg;have hcz5_0:w4.cell? ⟨gb102,0,none⟩=some (.int .i64 a0_0):=(blk_cell BK102.out 0).trans rfl;have hcz5_1:w4.cell? ⟨gb102,1,none⟩=some (.string a0_1):=(blk_cell BK102.out 1).trans rfl;have hcz5_2:w4.cell? ⟨gb102,2,none⟩=some (.slice A0_2 l0_2.length c0_2):=(blk_cell BK102.out 2).trans rfl;have hfz5_0:=blk_frozen BK102.out 0;have hfz5_1:=blk_frozen BK102.out 1;have hfz5_2:=blk_frozen BK102.out 2))
  go_ret
  exact ⟨by first|rfl|(simp [errW_none,errW_some] <;> rfl)|(simp [*,errW_none,errW_some] <;> rfl),by repeat (first|(with_reducible first|exact HB.out|apply below_alloc|apply pw_below_drewN|apply below_drew1|refine below_set ?_ GE102.out)|exact HB.out)⟩
 ·rw [if_neg c3] at H
  have c3b0:decide ((wrap64 (a1 - (a0_1.size:Int)))<0)=false:=decide_eq_false c3
  clear c3
  replace H:=Option.bind_eq_some_iff.mp H
  obtain ⟨t103,A60,H⟩:=H
  replace H:(if t103<0 then (some (-1)) else (some t103))=some r:=H
  have A6:=Aside0.mk A60
  clear A60
  by_cases c7:t103<0
  ·rw [if_pos c7] at H
   have c7b0:decide (t103<0)=true:=decide_eq_true c7
   clear c7
   obtain rfl:=Option.some.inj H
   go_enter Try.func167,Try.ntmps167
   go_wp2_with (first|((with_reducible refine gate_dst (N:=2) rfl ?_);refine box_event ?hg (N:=2) ?hd (cs:=#[.int .i64 a0_0,.string a0_1,.slice A0_2 l0_2.length c0_2]) (t:=153) ?hr ?_;(case hd=>rfl);(case hg=>rfl);(case hr=>first|(go_simp;done)|(go_simp;rfl));intro gb102 hg w8 hbox hb;have n0_:=Aside0.mk (below_step (by repeat (first|(with_reducible first|exact HB.out|apply below_alloc|apply pw_below_drewN|apply below_drew1)|exact HB.out)) hb);have n1_:=Aside0.mk (hbox);have n2_:=Aside0.mk ((by rw [hg];exact (below_size (by repeat (first|(with_reducible first|exact HB.out|apply below_alloc|apply pw_below_drewN|apply below_drew1)|exact HB.out))):w.heap.size≤gb102));have n3_:=Aside0.mk ((by rw [hg];exact (below_size (by repeat (first|(with_reducible first|exact HB.out|apply below_alloc|apply pw_below_drewN|apply below_drew1)|exact HB.out))):w.heap.size≤gb102));clear HB;have HB:=n0_;have BK102:=n1_;have GW102:=n2_;have GE102:=n3_;clear n0_ n1_ n2_ n3_;clear hb hbox hg;have hcz9_0:w8.cell? ⟨gb102,0,none⟩=some (.int .i64 a0_0):=(blk_cell BK102.out 0).trans rfl;have hcz9_1:w8.cell? ⟨gb102,1,none⟩=some (.string a0_1):=(blk_cell BK102.out 1).trans rfl;have hcz9_2:w8.cell? ⟨gb102,2,none⟩=some (.slice A0_2 l0_2.length c0_2):=(blk_cell BK102.out 2).trans rfl;have hfz9_0:=blk_frozen BK102.out 0;have hfz9_1:=blk_frozen BK102.out 1;have hfz9_2:=blk_frozen BK102.out 2)|((with_reducible refine gate_callee (f:=125) rfl ?_);refine goesL_ (some 15) rfl rfl Try.func125 (by kernel_rfl) rfl #[.slice A0_2 l0_2.length c0_2,.int .i64 (wrap64 (a1 - (a0_1.size:Int)))] rfl (by (try simp only [List.map_toArray,List.map_cons,List.map_nil]);first|done|rfl|(simp only [List.length_drop,List.length_take];rfl)) ?_;(with_reducible refine (laws_szStringS.calls k _ _ l0_2 (wrap64 (a1 - (a0_1.size:Int))) t103 _ ?side1 ?side2 A6.out).mono ?_);(case side1=>repeat (first|exact (Kd.C_below HR0_2.out HB.out)|(with_reducible refine Kd.C_alloc ?_ _)|(with_reducible refine Kd.C_drewN ?_ _)|(with_reducible refine Kd.C_drew ?_)));(case side2=>exact HC0_2.out);rintro e w' ⟨rfl,⟨nd,rfl⟩⟩;refine ⟨_,rfl,?_⟩))
   go_ret
   exact ⟨by first|rfl|(simp [errW_none,errW_some] <;> rfl)|(simp [*,errW_none,errW_some] <;> rfl),by repeat (first|(with_reducible first|exact HB.out|apply below_alloc|apply pw_below_drewN|apply below_drew1|refine below_set ?_ GE102.out)|exact HB.out)⟩
  ·rw [if_neg c7] at H
   have c7b0:decide (t103<0)=false:=decide_eq_false c7
   clear c7
   obtain rfl:=Option.some.inj H
   go_enter Try.func167,Try.ntmps167
   go_wp2_with (first|((with_reducible refine gate_dst (N:=2) rfl ?_);refine box_event ?hg (N:=2) ?hd (cs:=#[.int .i64 a0_0,.string a0_1,.slice A0_2 l0_2.length c0_2]) (t:=153) ?hr ?_;(case hd=>rfl);(case hg=>rfl);(case hr=>first|(go_simp;done)|(go_simp;rfl));intro gb102 hg w10 hbox hb;have n0_:=Aside0.mk (below_step (by repeat (first|(with_reducible first|exact HB.out|apply below_alloc|apply pw_below_drewN|apply below_drew1)|exact HB.out)) hb);have n1_:=Aside0.mk (hbox);have n2_:=Aside0.mk ((by rw [hg];exact (below_size (by repeat (first|(with_reducible first|exact HB.out|apply below_alloc|apply pw_below_drewN|apply below_drew1)|exact HB.out))):w.heap.size≤gb102));have n3_:=Aside0.mk ((by rw [hg];exact (below_size (by repeat (first|(with_reducible first|exact HB.out|apply below_alloc|apply pw_below_drewN|apply below_drew1)|exact HB.out))):w.heap.size≤gb102));clear HB;have HB:=n0_;have BK102:=n1_;have GW102:=n2_;have GE102:=n3_;clear n0_ n1_ n2_ n3_;clear hb hbox hg;have hcz11_0:w10.cell? ⟨gb102,0,none⟩=some (.int .i64 a0_0):=(blk_cell BK102.out 0).trans rfl;have hcz11_1:w10.cell? ⟨gb102,1,none⟩=some (.string a0_1):=(blk_cell BK102.out 1).trans rfl;have hcz11_2:w10.cell? ⟨gb102,2,none⟩=some (.slice A0_2 l0_2.length c0_2):=(blk_cell BK102.out 2).trans rfl;have hfz11_0:=blk_frozen BK102.out 0;have hfz11_1:=blk_frozen BK102.out 1;have hfz11_2:=blk_frozen BK102.out 2)|((with_reducible refine gate_callee (f:=125) rfl ?_);refine goesL_ (some 15) rfl rfl Try.func125 (by kernel_rfl) rfl #[.slice A0_2 l0_2.length c0_2,.int .i64 (wrap64 (a1 - (a0_1.size:Int)))] rfl (by (try simp only [List.map_toArray,List.map_cons,List.map_nil]);first|done|rfl|(simp only [List.length_drop,List.length_take];rfl)) ?_;(with_reducible refine (laws_szStringS.calls k _ _ l0_2 (wrap64 (a1 - (a0_1.size:Int))) t103 _ ?side1 ?side2 A6.out).mono ?_);(case side1=>repeat (first|exact (Kd.C_below HR0_2.out HB.out)|(with_reducible refine Kd.C_alloc ?_ _)|(with_reducible refine Kd.C_drewN ?_ _)|(with_reducible refine Kd.C_drew ?_)));(case side2=>exact HC0_2.out);rintro e w' ⟨rfl,⟨nd,rfl⟩⟩;refine ⟨_,rfl,?_⟩))
   go_ret
   exact ⟨by first|rfl|(simp [errW_none,errW_some] <;> rfl)|(simp [*,errW_none,errW_some] <;> rfl),by repeat (first|(with_reducible first|exact HB.out|apply below_alloc|apply pw_below_drewN|apply below_drew1|refine below_set ?_ GE102.out)|exact HB.out)⟩
/-! ### laws_szRuleS: function 124 -/
def laws_szRuleS.l0:Nat→List (S153)→Int→Int→Option (Int)
 | 0,_,_,_=>none
 | k+1,x0,x1,x5=>if x5<(x0.length:Int) then (if 0≤x5 then ((laws_szRule.f k ((rd_T153 x0 x5).f0) ((rd_T153 x0 x5).f1) ((rd_T153 x0 x5).f2) x1).bind fun t105=>(if t105<0 then (some (-1)) else (laws_szRuleS.l0 k x0 t105 (wrap64 (x5+1))))) else (none)) else (some x1)
def laws_szRuleS.f (k:Nat) (l0:List (S153)) (a1:Int):Option (Int):=if (wrap64 (a1 - (l0.length:Int)))<0 then (some (-1)) else (laws_szRuleS.l0 k l0 (wrap64 (a1 - (l0.length:Int))) 0)
theorem laws_szRuleS.mono_l:∀ k,(∀ y0 y1 y2,LeO (laws_szRuleS.l0 k y0 y1 y2) (laws_szRuleS.l0 (k+1) y0 y1 y2))
 | 0=>fun _ _ _ r h=>by simp [laws_szRuleS.l0] at h
 | k+1=>by
  have ih0:=laws_szRuleS.mono_l k
  ·intro y0 y1 y2
   unfold laws_szRuleS.l0
   repeat' first
   | (with_reducible exact ih0 _ _ _)
   | (with_reducible exact laws_szRule.mono _ _ _ _ _)
   | (with_reducible exact LeO.refl _)
   | (with_reducible exact LeO.none _)
   | (with_reducible refine LeO.ite ?_ ?_)
   | (with_reducible refine LeO.bind ?_ (fun _=>?_))
   | exact ih0 _ _ _
   | exact laws_szRule.mono _ _ _ _ _
   | exact LeO.none _
   | refine LeO.ite ?_ ?_
   | refine LeO.bind ?_ (fun _=>?_)
theorem laws_szRuleS.mono:∀ a0 a1 k,LeO (laws_szRuleS.f k a0 a1) (laws_szRuleS.f (k+1) a0 a1):=by
 intro a0 a1 k
 have ih0:=laws_szRuleS.mono_l k
 unfold laws_szRuleS.f
 repeat' first
  | (with_reducible exact ih0 _ _ _)
  | (with_reducible exact laws_szRule.mono _ _ _ _ _)
  | (with_reducible exact LeO.refl _)
  | (with_reducible exact LeO.none _)
  | (with_reducible refine LeO.ite ?_ ?_)
  | (with_reducible refine LeO.bind ?_ (fun _=>?_))
  | exact ih0 _ _ _
  | exact laws_szRule.mono _ _ _ _ _
  | exact LeO.none _
  | refine LeO.ite ?_ ?_
  | refine LeO.bind ?_ (fun _=>?_)
set_option maxHeartbeats 8000000 in
set_option maxRecDepth 100000 in
theorem laws_szRuleS.calls (k:Nat) (A0:Option Addr) (c0:Nat) (l0:List (S153)) (a1:Int) (r:Int) (w:World) (hr0:Kd.C k153 w A0 l0.length l0) (hc0:l0.length≤c0) (h:laws_szRuleS.f k l0 a1=some r) :
 Calls Try.prog 124 #[.slice A0 l0.length c0,.int .i64 a1] w fun e w'=>e=.returned (.int .i64 r)∧Below w.heap.size w w':=by
 have hu153:=Try.underlying153
 have HR0:=Aside0.mk hr0
 have HC0:=Aside0.mk hc0
 clear hr0 hc0
 have HB:=Aside0.mk (Below.refl w.heap.size w)
 have H:(if (wrap64 (a1 - (l0.length:Int)))<0 then (some (-1)) else (laws_szRuleS.l0 k l0 (wrap64 (a1 - (l0.length:Int))) 0))=some r:=h
 clear h
 by_cases c3:(wrap64 (a1 - (l0.length:Int)))<0
 ·rw [if_pos c3] at H
  have c3b0:decide ((wrap64 (a1 - (l0.length:Int)))<0)=true:=decide_eq_true c3
  clear c3
  obtain rfl:=Option.some.inj H
  go_enter Try.func124,Try.ntmps124
  go_wp2
  go_ret
  exact ⟨by first|rfl|(simp [errW_none,errW_some] <;> rfl)|(simp [*,errW_none,errW_some] <;> rfl),by repeat (first|(with_reducible first|exact HB.out|apply below_alloc|apply pw_below_drewN|apply below_drew1)|exact HB.out)⟩
 ·rw [if_neg c3] at H
  have c3b0:decide ((wrap64 (a1 - (l0.length:Int)))<0)=false:=decide_eq_false c3
  clear c3
  have H':=Aside0.mk H
  clear H
  go_enter Try.func124,Try.ntmps124
  go_wp2
  go_loopg [1,5] k (fun kq v1 v5 w'=>∃ (x1_1:Int) (x5_1:Int),v1=.int .i64 x1_1∧v5=.int .i64 x5_1∧Aside0 (laws_szRuleS.l0 kq l0 x1_1 x5_1=some r)∧Aside0 (kq≤k)∧Aside0 (Below w.heap.size w w'))
  case atStart=>exact ⟨(wrap64 (a1 - (l0.length:Int))),(0),(by first|rfl|(simp;done)|(simp [*];done)),(by first|rfl|(simp;done)|(simp [*];done)),H',⟨Nat.le_refl _⟩,⟨by repeat (first|(with_reducible first|exact HB.out|apply below_alloc|apply pw_below_drewN|apply below_drew1)|exact HB.out)⟩⟩
  case round =>
   clear H'
   try clear c1
   try clear p2
   try clear c3
   try clear c3b0
   obtain ⟨x1_1,x5_1,rfl,rfl,HA,HK1,HB⟩:=hrel
   cases gk with
   | zero=>exact absurd HA.out (by simp [laws_szRuleS.l0])
   | succ k1 =>
    have H:=HA.out
    clear HA
    simp only [laws_szRuleS.l0] at H
    by_cases c4:x5_1<(l0.length:Int)
    ·rw [if_pos c4] at H
     have c4b0:decide (x5_1<(l0.length:Int))=true:=decide_eq_true c4
     clear c4
     by_cases c5:0≤x5_1
     ·rw [if_pos c5] at H
      have c5b0:decide (0≤x5_1)=true:=decide_eq_true c5
      clear c5
      replace H:=Option.bind_eq_some_iff.mp H
      obtain ⟨t105,A60,H⟩:=H
      replace H:(if t105<0 then (some (-1)) else (laws_szRuleS.l0 k1 l0 t105 (wrap64 (x5_1+1))))=some r:=H
      have A6:=Aside0.mk A60
      clear A60
      by_cases c7:t105<0
      ·rw [if_pos c7] at H
       have c7b0:decide (t105<0)=true:=decide_eq_true c7
       clear c7
       obtain rfl:=Option.some.inj H
       have p104:0≤(x5_1:Int):=of_decide_eq_true (by first|(with_reducible assumption)|assumption)
       have q104:x5_1<(l0.length:Int):=of_decide_eq_true (by first|(with_reducible assumption)|assumption)
       obtain ⟨ad104,A104_2,c104_2,e104,hx104_0,hx104_1,hx104_2,hl104_2,hi104_2⟩:=at_T153 HR0.out x5_1 p104 q104
       cases e104
       replace hx104_0:=(HB.out.cell (World.block_lt_of_cell? w _ hx104_0)).trans hx104_0
       replace hx104_1:=(HB.out.cell (World.block_lt_of_cell? w _ hx104_1)).trans hx104_1
       replace hx104_2:=(HB.out.cell (World.block_lt_of_cell? w _ hx104_2)).trans hx104_2
       have HR104_2:=Aside0.mk hi104_2
       have HC104_2:=Aside0.mk hl104_2
       clear hi104_2 hl104_2
       replace p104:=eq_true p104
       replace q104:=eq_true q104
       go_wp2_with (first|((with_reducible refine gate_callee (f:=167) rfl ?_);refine goesL_ (some 23) rfl rfl Try.func167 (by kernel_rfl) rfl #[.agg #[.int .i64 ((rd_T153 l0 x5_1).f0),.string ((rd_T153 l0 x5_1).f1),.slice A104_2 ((rd_T153 l0 x5_1).f2).length c104_2],.int .i64 x1_1] rfl (by (try simp only [List.map_toArray,List.map_cons,List.map_nil]);first|done|rfl|(simp only [List.length_drop,List.length_take];rfl)) ?_;(with_reducible refine (laws_szRule.calls k1 ((rd_T153 l0 x5_1).f0) ((rd_T153 l0 x5_1).f1) _ _ ((rd_T153 l0 x5_1).f2) x1_1 t105 _ ?side1 ?side2 A6.out).mono ?_);(case side1=>repeat (first|exact (Kd.C_below HR104_2.out HB.out)|(with_reducible refine Kd.C_alloc ?_ _)|(with_reducible refine Kd.C_drewN ?_ _)|(with_reducible refine Kd.C_drew ?_)));(case side2=>exact HC104_2.out);rintro e w8 ⟨rfl,hb⟩;refine ⟨_,rfl,?_⟩;have n0_:=Aside0.mk (below_step (by repeat (first|(with_reducible first|exact HB.out|apply below_alloc|apply pw_below_drewN|apply below_drew1)|exact HB.out)) hb);clear HB;have HB:=n0_;clear n0_;(try clear hb);(try clear hb2);(try clear hk);(try clear hi)))
       go_ret
       exact ⟨by first|rfl|(simp [errW_none,errW_some] <;> rfl)|(simp [*,errW_none,errW_some] <;> rfl),by repeat (first|(with_reducible first|exact HB.out|apply below_alloc|apply pw_below_drewN|apply below_drew1)|exact HB.out)⟩
      ·rw [if_neg c7] at H
       have c7b0:decide (t105<0)=false:=decide_eq_false c7
       clear c7
       have H':=Aside0.mk H
       clear H
       have p104:0≤(x5_1:Int):=of_decide_eq_true (by first|(with_reducible assumption)|assumption)
       have q104:x5_1<(l0.length:Int):=of_decide_eq_true (by first|(with_reducible assumption)|assumption)
       obtain ⟨ad104,A104_2,c104_2,e104,hx104_0,hx104_1,hx104_2,hl104_2,hi104_2⟩:=at_T153 HR0.out x5_1 p104 q104
       cases e104
       replace hx104_0:=(HB.out.cell (World.block_lt_of_cell? w _ hx104_0)).trans hx104_0
       replace hx104_1:=(HB.out.cell (World.block_lt_of_cell? w _ hx104_1)).trans hx104_1
       replace hx104_2:=(HB.out.cell (World.block_lt_of_cell? w _ hx104_2)).trans hx104_2
       have HR104_2:=Aside0.mk hi104_2
       have HC104_2:=Aside0.mk hl104_2
       clear hi104_2 hl104_2
       replace p104:=eq_true p104
       replace q104:=eq_true q104
       go_wp2_with (first|((with_reducible refine gate_callee (f:=167) rfl ?_);refine goesL_ (some 23) rfl rfl Try.func167 (by kernel_rfl) rfl #[.agg #[.int .i64 ((rd_T153 l0 x5_1).f0),.string ((rd_T153 l0 x5_1).f1),.slice A104_2 ((rd_T153 l0 x5_1).f2).length c104_2],.int .i64 x1_1] rfl (by (try simp only [List.map_toArray,List.map_cons,List.map_nil]);first|done|rfl|(simp only [List.length_drop,List.length_take];rfl)) ?_;(with_reducible refine (laws_szRule.calls k1 ((rd_T153 l0 x5_1).f0) ((rd_T153 l0 x5_1).f1) _ _ ((rd_T153 l0 x5_1).f2) x1_1 t105 _ ?side1 ?side2 A6.out).mono ?_);(case side1=>repeat (first|exact (Kd.C_below HR104_2.out HB.out)|(with_reducible refine Kd.C_alloc ?_ _)|(with_reducible refine Kd.C_drewN ?_ _)|(with_reducible refine Kd.C_drew ?_)));(case side2=>exact HC104_2.out);rintro e w9 ⟨rfl,hb⟩;refine ⟨_,rfl,?_⟩;have n0_:=Aside0.mk (below_step (by repeat (first|(with_reducible first|exact HB.out|apply below_alloc|apply pw_below_drewN|apply below_drew1)|exact HB.out)) hb);clear HB;have HB:=n0_;clear n0_;(try clear hb);(try clear hb2);(try clear hk);(try clear hi)))
       go_roundg k1
       case measure=>have:=HK1.out;omega
       case rel=>exact ⟨(t105),(wrap64 (x5_1+1)),(by first|rfl|(simp;done)|(simp [*];done)),(by first|rfl|(simp;done)|(simp [*];done)),H',⟨by have:=HK1.out;omega⟩,⟨by repeat (first|(with_reducible first|exact HB.out|apply below_alloc|apply pw_below_drewN|apply below_drew1)|exact HB.out)⟩⟩
     ·rw [if_neg c5] at H
      exact absurd H (by simp)
    ·rw [if_neg c4] at H
     have c4b0:decide (x5_1<(l0.length:Int))=false:=decide_eq_false c4
     clear c4
     obtain rfl:=Option.some.inj H
     go_wp2
     go_ret
     exact ⟨by first|rfl|(simp [errW_none,errW_some] <;> rfl)|(simp [*,errW_none,errW_some] <;> rfl),by repeat (first|(with_reducible first|exact HB.out|apply below_alloc|apply pw_below_drewN|apply below_drew1)|exact HB.out)⟩
/-! ### laws_szConfig: function 63, by hand -/
def laws_szConfig.f (k:Nat) (_a0_0 _a0_1:Bool) (l0_2 l0_3 l0_4:List S153) (l0_5 l0_6:List ByteArray) (_a0_7 _a0_8:Bool) (a1:Int):Option Int :=
 (laws_szRuleS.f k l0_2 a1).bind fun t2=>if t2<0 then some (-1) else (laws_szRuleS.f k l0_3 t2).bind fun t3=>if t3<0 then some (-1) else (laws_szRuleS.f k l0_4 t3).bind fun t4=>if t4<0 then some (-1) else (laws_szStringS.f k l0_5 t4).bind fun t5=>if t5<0 then some (-1) else (laws_szStringS.f k l0_6 t5).bind fun t6=>if t6<0 then some (-1) else some t6
theorem laws_szConfig.mono:∀ a0 a1 a2 a3 a4 a5 a6 a7 a8 a9 k,LeO (laws_szConfig.f k a0 a1 a2 a3 a4 a5 a6 a7 a8 a9) (laws_szConfig.f (k+1) a0 a1 a2 a3 a4 a5 a6 a7 a8 a9):=by
 intro a0 a1 a2 a3 a4 a5 a6 a7 a8 a9 k
 unfold laws_szConfig.f
 repeat' first
  | (with_reducible exact laws_szRuleS.mono _ _ _)
  | (with_reducible exact laws_szStringS.mono _ _ _)
  | (with_reducible exact LeO.refl _)
  | (with_reducible refine LeO.ite ?_ ?_)
  | (with_reducible refine LeO.bind ?_ (fun _=>?_))
  | exact laws_szRuleS.mono _ _ _
  | exact laws_szStringS.mono _ _ _
  | refine LeO.ite ?_ ?_
  | refine LeO.bind ?_ (fun _=>?_)
theorem szNew {w V:World} {c:Array Value} {t:TypeId} (h:Below (w.alloc (.cells c t)).heap.size (w.alloc (.cells c t)) V):(∀ i v,c[i]? = some v→V.cell? ⟨w.heap.size,i,none⟩=some v)∧Below w.heap.size w V:=by
 have hb:=below_alloc (Below.refl w.heap.size w) (.cells c t)
 exact ⟨fun i v hv=>pw_cell_below h (by have h1:c[i]? = some v:=hv;simp [h1]),hb.trans (h.mono hb.size)⟩
set_option maxHeartbeats 8000000 in
set_option maxRecDepth 100000 in
theorem laws_szConfig.calls (k:Nat) (a0_0 a0_1:Bool) (A0_2:Option Addr) (c0_2:Nat) (l0_2:List S153) (A0_3:Option Addr) (c0_3:Nat) (l0_3:List S153) (A0_4:Option Addr) (c0_4:Nat) (l0_4:List S153) (A0_5:Option Addr) (c0_5:Nat) (l0_5:List ByteArray) (A0_6:Option Addr) (c0_6:Nat) (l0_6:List ByteArray) (a0_7 a0_8:Bool) (a1:Int) (r:Int) (w:World) (hr0_2:Kd.C k153 w A0_2 l0_2.length l0_2) (hc0_2:l0_2.length≤c0_2) (hr0_3:Kd.C k153 w A0_3 l0_3.length l0_3) (hc0_3:l0_3.length≤c0_3) (hr0_4:Kd.C k153 w A0_4 l0_4.length l0_4) (hc0_4:l0_4.length≤c0_4) (hr0_5:Kd.C Kd.string w A0_5 l0_5.length l0_5) (hc0_5:l0_5.length≤c0_5) (hr0_6:Kd.C Kd.string w A0_6 l0_6.length l0_6) (hc0_6:l0_6.length≤c0_6) (h:laws_szConfig.f k a0_0 a0_1 l0_2 l0_3 l0_4 l0_5 l0_6 a0_7 a0_8 a1=some r) :
 Calls Try.prog 63 #[.agg #[.bool a0_0,.bool a0_1,.slice A0_2 l0_2.length c0_2,.slice A0_3 l0_3.length c0_3,.slice A0_4 l0_4.length c0_4,.slice A0_5 l0_5.length c0_5,.slice A0_6 l0_6.length c0_6,.bool a0_7,.bool a0_8],.int .i64 a1] w fun e w'=>e=.returned (.int .i64 r)∧Below w.heap.size w w':=by
 unfold laws_szConfig.f at h
 have HB1:=Aside0.mk (Below.refl (w.alloc (.cells #[.bool a0_0,.bool a0_1,.slice A0_2 l0_2.length c0_2,.slice A0_3 l0_3.length c0_3,.slice A0_4 l0_4.length c0_4,.slice A0_5 l0_5.length c0_5,.slice A0_6 l0_6.length c0_6,.bool a0_7,.bool a0_8] 73)).heap.size (w.alloc (.cells #[.bool a0_0,.bool a0_1,.slice A0_2 l0_2.length c0_2,.slice A0_3 l0_3.length c0_3,.slice A0_4 l0_4.length c0_4,.slice A0_5 l0_5.length c0_5,.slice A0_6 l0_6.length c0_6,.bool a0_7,.bool a0_8] 73)))
 have E:=fun V (h:Aside0 (Below (w.alloc (.cells #[.bool a0_0,.bool a0_1,.slice A0_2 l0_2.length c0_2,.slice A0_3 l0_3.length c0_3,.slice A0_4 l0_4.length c0_4,.slice A0_5 l0_5.length c0_5,.slice A0_6 l0_6.length c0_6,.bool a0_7,.bool a0_8] 73)).heap.size (w.alloc (.cells #[.bool a0_0,.bool a0_1,.slice A0_2 l0_2.length c0_2,.slice A0_3 l0_3.length c0_3,.slice A0_4 l0_4.length c0_4,.slice A0_5 l0_5.length c0_5,.slice A0_6 l0_6.length c0_6,.bool a0_7,.bool a0_8] 73)) V))=>szNew h.out
 have E:=Aside0.mk E
 have Q2:Aside0 (∀ a t V,laws_szRuleS.f k l0_2 a=some t→Below w.heap.size w V→Calls Try.prog 124 #[.slice A0_2 l0_2.length c0_2,.int .i64 a] V fun e w'=>e=.returned (.int .i64 t)∧Below V.heap.size V w'):=⟨fun a t V e hV=>(laws_szRuleS.calls k A0_2 c0_2 l0_2 a t V (Kd.C_below hr0_2 hV) hc0_2 e).mono fun e w' ⟨he,hd⟩=>⟨he,hd⟩⟩
 have Q3:Aside0 (∀ a t V,laws_szRuleS.f k l0_3 a=some t→Below w.heap.size w V→Calls Try.prog 124 #[.slice A0_3 l0_3.length c0_3,.int .i64 a] V fun e w'=>e=.returned (.int .i64 t)∧Below V.heap.size V w'):=⟨fun a t V e hV=>(laws_szRuleS.calls k A0_3 c0_3 l0_3 a t V (Kd.C_below hr0_3 hV) hc0_3 e).mono fun e w' ⟨he,hd⟩=>⟨he,hd⟩⟩
 have Q4:Aside0 (∀ a t V,laws_szRuleS.f k l0_4 a=some t→Below w.heap.size w V→Calls Try.prog 124 #[.slice A0_4 l0_4.length c0_4,.int .i64 a] V fun e w'=>e=.returned (.int .i64 t)∧Below V.heap.size V w'):=⟨fun a t V e hV=>(laws_szRuleS.calls k A0_4 c0_4 l0_4 a t V (Kd.C_below hr0_4 hV) hc0_4 e).mono fun e w' ⟨he,hd⟩=>⟨he,hd⟩⟩
 have Q5:Aside0 (∀ a t V,laws_szStringS.f k l0_5 a=some t→Below w.heap.size w V→Calls Try.prog 125 #[.slice A0_5 l0_5.length c0_5,.int .i64 a] V fun e w'=>e=.returned (.int .i64 t)∧Below V.heap.size V w'):=⟨fun a t V e hV=>(laws_szStringS.calls k A0_5 c0_5 l0_5 a t V (Kd.C_below hr0_5 hV) hc0_5 e).mono fun e w' ⟨he,hd⟩=>⟨he,hd.below⟩⟩
 have Q6:Aside0 (∀ a t V,laws_szStringS.f k l0_6 a=some t→Below w.heap.size w V→Calls Try.prog 125 #[.slice A0_6 l0_6.length c0_6,.int .i64 a] V fun e w'=>e=.returned (.int .i64 t)∧Below V.heap.size V w'):=⟨fun a t V e hV=>(laws_szStringS.calls k A0_6 c0_6 l0_6 a t V (Kd.C_below hr0_6 hV) hc0_6 e).mono fun e w' ⟨he,hd⟩=>⟨he,hd.below⟩⟩
 clear hr0_2 hc0_2 hr0_3 hc0_3 hr0_4 hc0_4 hr0_5 hc0_5 hr0_6 hc0_6
 generalize l0_2.length=n2 at *
 generalize l0_3.length=n3 at *
 generalize l0_4.length=n4 at *
 generalize l0_5.length=n5 at *
 generalize l0_6.length=n6 at *
 have h9:=Option.bind_eq_some_iff.mp h
 clear h
 obtain ⟨t2,e2,h⟩:=h9
 by_cases b2:t2<0
 case pos =>
  rw [if_pos b2] at h
  have z2:decide (t2<0)=true:=decide_eq_true b2
  clear b2
  obtain rfl:=Option.some.inj h
  clear h
  go_enter Try.func63,Try.ntmps63
  go_wp2_with (first|(go_at_call 124;(with_reducible refine (Q2.out _ _ _ e2 (E.out _ HB1).2).mono ?_);rintro e w2 ⟨rfl,hb⟩;have HB2:=Aside0.mk (HB1.out.trans (hb.mono HB1.out.size));have x2:=(E.out _ HB2).1 3 (.slice A0_3 n3 c0_3) rfl;clear hb))
  go_ret
  exact ⟨rfl,(E.out _ HB2).2⟩
 rw [if_neg b2] at h
 have z2:decide (t2<0)=false:=decide_eq_false b2
 clear b2
 have h9:=Option.bind_eq_some_iff.mp h
 clear h
 obtain ⟨t3,e3,h⟩:=h9
 by_cases b3:t3<0
 case pos =>
  rw [if_pos b3] at h
  have z3:decide (t3<0)=true:=decide_eq_true b3
  clear b3
  obtain rfl:=Option.some.inj h
  clear h
  go_enter Try.func63,Try.ntmps63
  go_wp2_with (first|(go_at_call 124;(with_reducible refine (Q2.out _ _ _ e2 (E.out _ HB1).2).mono ?_);rintro e w2 ⟨rfl,hb⟩;have HB2:=Aside0.mk (HB1.out.trans (hb.mono HB1.out.size));have x2:=(E.out _ HB2).1 3 (.slice A0_3 n3 c0_3) rfl;clear hb)|(go_at_call 124;(with_reducible refine (Q3.out _ _ _ e3 (E.out _ HB2).2).mono ?_);rintro e w3 ⟨rfl,hb⟩;have HB3:=Aside0.mk (HB2.out.trans (hb.mono HB2.out.size));have x3:=(E.out _ HB3).1 4 (.slice A0_4 n4 c0_4) rfl;clear hb))
  go_ret
  exact ⟨rfl,(E.out _ HB3).2⟩
 rw [if_neg b3] at h
 have z3:decide (t3<0)=false:=decide_eq_false b3
 clear b3
 have h9:=Option.bind_eq_some_iff.mp h
 clear h
 obtain ⟨t4,e4,h⟩:=h9
 by_cases b4:t4<0
 case pos =>
  rw [if_pos b4] at h
  have z4:decide (t4<0)=true:=decide_eq_true b4
  clear b4
  obtain rfl:=Option.some.inj h
  clear h
  go_enter Try.func63,Try.ntmps63
  go_wp2_with (first|(go_at_call 124;(with_reducible refine (Q2.out _ _ _ e2 (E.out _ HB1).2).mono ?_);rintro e w2 ⟨rfl,hb⟩;have HB2:=Aside0.mk (HB1.out.trans (hb.mono HB1.out.size));have x2:=(E.out _ HB2).1 3 (.slice A0_3 n3 c0_3) rfl;clear hb)|(go_at_call 124;(with_reducible refine (Q3.out _ _ _ e3 (E.out _ HB2).2).mono ?_);rintro e w3 ⟨rfl,hb⟩;have HB3:=Aside0.mk (HB2.out.trans (hb.mono HB2.out.size));have x3:=(E.out _ HB3).1 4 (.slice A0_4 n4 c0_4) rfl;clear hb)|(go_at_call 124;(with_reducible refine (Q4.out _ _ _ e4 (E.out _ HB3).2).mono ?_);rintro e w4 ⟨rfl,hb⟩;have HB4:=Aside0.mk (HB3.out.trans (hb.mono HB3.out.size));have x4:=(E.out _ HB4).1 5 (.slice A0_5 n5 c0_5) rfl;clear hb))
  go_ret
  exact ⟨rfl,(E.out _ HB4).2⟩
 rw [if_neg b4] at h
 have z4:decide (t4<0)=false:=decide_eq_false b4
 clear b4
 have h9:=Option.bind_eq_some_iff.mp h
 clear h
 obtain ⟨t5,e5,h⟩:=h9
 by_cases b5:t5<0
 case pos =>
  rw [if_pos b5] at h
  have z5:decide (t5<0)=true:=decide_eq_true b5
  clear b5
  obtain rfl:=Option.some.inj h
  clear h
  go_enter Try.func63,Try.ntmps63
  go_wp2_with (first|(go_at_call 124;(with_reducible refine (Q2.out _ _ _ e2 (E.out _ HB1).2).mono ?_);rintro e w2 ⟨rfl,hb⟩;have HB2:=Aside0.mk (HB1.out.trans (hb.mono HB1.out.size));have x2:=(E.out _ HB2).1 3 (.slice A0_3 n3 c0_3) rfl;clear hb)|(go_at_call 124;(with_reducible refine (Q3.out _ _ _ e3 (E.out _ HB2).2).mono ?_);rintro e w3 ⟨rfl,hb⟩;have HB3:=Aside0.mk (HB2.out.trans (hb.mono HB2.out.size));have x3:=(E.out _ HB3).1 4 (.slice A0_4 n4 c0_4) rfl;clear hb)|(go_at_call 124;(with_reducible refine (Q4.out _ _ _ e4 (E.out _ HB3).2).mono ?_);rintro e w4 ⟨rfl,hb⟩;have HB4:=Aside0.mk (HB3.out.trans (hb.mono HB3.out.size));have x4:=(E.out _ HB4).1 5 (.slice A0_5 n5 c0_5) rfl;clear hb)|(go_at_call 125;(with_reducible refine (Q5.out _ _ _ e5 (E.out _ HB4).2).mono ?_);rintro e w5 ⟨rfl,hb⟩;have HB5:=Aside0.mk (HB4.out.trans (hb.mono HB4.out.size));have x5:=(E.out _ HB5).1 6 (.slice A0_6 n6 c0_6) rfl;clear hb))
  go_ret
  exact ⟨rfl,(E.out _ HB5).2⟩
 rw [if_neg b5] at h
 have z5:decide (t5<0)=false:=decide_eq_false b5
 clear b5
 have h9:=Option.bind_eq_some_iff.mp h
 clear h
 obtain ⟨t6,e6,h⟩:=h9
 by_cases b6:t6<0
 case pos =>
  rw [if_pos b6] at h
  have z6:decide (t6<0)=true:=decide_eq_true b6
  clear b6
  obtain rfl:=Option.some.inj h
  clear h
  go_enter Try.func63,Try.ntmps63
  go_wp2_with (first|(go_at_call 124;(with_reducible refine (Q2.out _ _ _ e2 (E.out _ HB1).2).mono ?_);rintro e w2 ⟨rfl,hb⟩;have HB2:=Aside0.mk (HB1.out.trans (hb.mono HB1.out.size));have x2:=(E.out _ HB2).1 3 (.slice A0_3 n3 c0_3) rfl;clear hb)|(go_at_call 124;(with_reducible refine (Q3.out _ _ _ e3 (E.out _ HB2).2).mono ?_);rintro e w3 ⟨rfl,hb⟩;have HB3:=Aside0.mk (HB2.out.trans (hb.mono HB2.out.size));have x3:=(E.out _ HB3).1 4 (.slice A0_4 n4 c0_4) rfl;clear hb)|(go_at_call 124;(with_reducible refine (Q4.out _ _ _ e4 (E.out _ HB3).2).mono ?_);rintro e w4 ⟨rfl,hb⟩;have HB4:=Aside0.mk (HB3.out.trans (hb.mono HB3.out.size));have x4:=(E.out _ HB4).1 5 (.slice A0_5 n5 c0_5) rfl;clear hb)|(go_at_call 125;(with_reducible refine (Q5.out _ _ _ e5 (E.out _ HB4).2).mono ?_);rintro e w5 ⟨rfl,hb⟩;have HB5:=Aside0.mk (HB4.out.trans (hb.mono HB4.out.size));have x5:=(E.out _ HB5).1 6 (.slice A0_6 n6 c0_6) rfl;clear hb)|(go_at_call 125;(with_reducible refine (Q6.out _ _ _ e6 (E.out _ HB5).2).mono ?_);rintro e w6 ⟨rfl,hb⟩;have HB6:=Aside0.mk (HB5.out.trans (hb.mono HB5.out.size));clear hb))
  go_ret
  exact ⟨rfl,(E.out _ HB6).2⟩
 rw [if_neg b6] at h
 have z6:decide (t6<0)=false:=decide_eq_false b6
 clear b6
 obtain rfl:=Option.some.inj h
 clear h
 go_enter Try.func63,Try.ntmps63
 go_wp2_with (first|(go_at_call 124;(with_reducible refine (Q2.out _ _ _ e2 (E.out _ HB1).2).mono ?_);rintro e w2 ⟨rfl,hb⟩;have HB2:=Aside0.mk (HB1.out.trans (hb.mono HB1.out.size));have x2:=(E.out _ HB2).1 3 (.slice A0_3 n3 c0_3) rfl;clear hb)|(go_at_call 124;(with_reducible refine (Q3.out _ _ _ e3 (E.out _ HB2).2).mono ?_);rintro e w3 ⟨rfl,hb⟩;have HB3:=Aside0.mk (HB2.out.trans (hb.mono HB2.out.size));have x3:=(E.out _ HB3).1 4 (.slice A0_4 n4 c0_4) rfl;clear hb)|(go_at_call 124;(with_reducible refine (Q4.out _ _ _ e4 (E.out _ HB3).2).mono ?_);rintro e w4 ⟨rfl,hb⟩;have HB4:=Aside0.mk (HB3.out.trans (hb.mono HB3.out.size));have x4:=(E.out _ HB4).1 5 (.slice A0_5 n5 c0_5) rfl;clear hb)|(go_at_call 125;(with_reducible refine (Q5.out _ _ _ e5 (E.out _ HB4).2).mono ?_);rintro e w5 ⟨rfl,hb⟩;have HB5:=Aside0.mk (HB4.out.trans (hb.mono HB4.out.size));have x5:=(E.out _ HB5).1 6 (.slice A0_6 n6 c0_6) rfl;clear hb)|(go_at_call 125;(with_reducible refine (Q6.out _ _ _ e6 (E.out _ HB5).2).mono ?_);rintro e w6 ⟨rfl,hb⟩;have HB6:=Aside0.mk (HB5.out.trans (hb.mono HB5.out.size));clear hb))
 go_ret
 exact ⟨rfl,(E.out _ HB6).2⟩
/-! ### laws_toStringS: function 128 -/
def laws_toStringS.l0:Nat→List ByteArray→List ByteArray→Int→Option (List ByteArray)
 | 0,_,_,_=>none
 | k+1,x0,x3,x4=>if x4<(x0.length:Int) then (if 0≤x4 then (if x4<(x3.length:Int) then (laws_toStringS.l0 k x0 (x3.set (x4:Int).toNat (rdOf ByteArray.empty x0 x4)) (wrap64 (x4+1))) else (none)) else (none)) else (some x3)
def laws_toStringS.f (k:Nat) (l0:List ByteArray):Option (List ByteArray):=if 0≤(l0.length:Int) then (if ((l0.length:Int):Int).toNat≤17592186044416 then (laws_toStringS.l0 k l0 (List.replicate ((l0.length:Int):Int).toNat (⟨#[]⟩:ByteArray)) 0) else (none)) else (none)
theorem laws_toStringS.mono_l:∀ k,(∀ y0 y1 y2,LeO (laws_toStringS.l0 k y0 y1 y2) (laws_toStringS.l0 (k+1) y0 y1 y2))
 | 0=>fun _ _ _ r h=>by simp [laws_toStringS.l0] at h
 | k+1=>by
  have ih0:=laws_toStringS.mono_l k
  ·intro y0 y1 y2
   unfold laws_toStringS.l0
   repeat' first
   | (with_reducible exact ih0 _ _ _)
   | (with_reducible exact LeO.refl _)
   | (with_reducible exact LeO.none _)
   | (with_reducible refine LeO.ite ?_ ?_)
   | (with_reducible refine LeO.bind ?_ (fun _=>?_))
   | exact ih0 _ _ _
   | exact LeO.none _
   | refine LeO.ite ?_ ?_
   | refine LeO.bind ?_ (fun _=>?_)
theorem laws_toStringS.mono:∀ a0 k,LeO (laws_toStringS.f k a0) (laws_toStringS.f (k+1) a0):=by
 intro a0 k
 have ih0:=laws_toStringS.mono_l k
 unfold laws_toStringS.f
 repeat' first
  | (with_reducible exact ih0 _ _ _)
  | (with_reducible exact LeO.refl _)
  | (with_reducible exact LeO.none _)
  | (with_reducible refine LeO.ite ?_ ?_)
  | (with_reducible refine LeO.bind ?_ (fun _=>?_))
  | exact ih0 _ _ _
  | exact LeO.none _
  | refine LeO.ite ?_ ?_
  | refine LeO.bind ?_ (fun _=>?_)
set_option maxHeartbeats 8000000 in
set_option maxRecDepth 100000 in
theorem laws_toStringS.calls (k:Nat) (A0:Option Addr) (c0:Nat) (l0:List ByteArray) (r:List ByteArray) (w:World) (hr0:Kd.C Kd.string w A0 l0.length l0) (hc0:l0.length≤c0) (h:laws_toStringS.f k l0=some r) :
 Calls Try.prog 128 #[.slice A0 l0.length c0] w fun e w'=>∃ v0_:Value,e=.returned (v0_)∧Kd.R Kd.string 9 w' w.heap.size (fun _=>True) v0_ r∧Below w.heap.size w w':=by
 have HR0:=Aside0.mk hr0
 have HC0:=Aside0.mk hc0
 clear hr0 hc0
 have HB:=Aside0.mk (Below.refl w.heap.size w)
 have H:(if 0≤(l0.length:Int) then (if ((l0.length:Int):Int).toNat≤17592186044416 then (laws_toStringS.l0 k l0 (List.replicate ((l0.length:Int):Int).toNat (⟨#[]⟩:ByteArray)) 0) else (none)) else (none))=some r:=h
 clear h
 by_cases c2:0≤(l0.length:Int)
 ·rw [if_pos c2] at H
  have c2b0:=eq_true c2
  have c2b1:decide (0≤(l0.length:Int))=true:=decide_eq_true c2
  clear c2
  by_cases c3:((l0.length:Int):Int).toNat≤17592186044416
  ·rw [if_pos c3] at H
   have c3b0:=eq_true c3
   have c3b1:decide (((l0.length:Int):Int).toNat≤17592186044416)=true:=decide_eq_true c3
   clear c3
   obtain ⟨y106,hy106⟩:∃ y_:List ByteArray,y_=(List.replicate ((l0.length:Int):Int).toNat (⟨#[]⟩:ByteArray)):=⟨_,rfl⟩
   replace H:(laws_toStringS.l0 k l0 y106 0)=some r:=by first|(rw [hy106];with_reducible exact H)|(have H2_:=(Option.bind_some _ _).symm.trans H;rw [hy106];with_reducible exact H2_)|(have H2_:=(Option.bind_some _ _).symm.trans H;with_reducible exact H2_)|with_reducible exact H|(rw [hy106];exact H)|exact H
   have Ny106:=Aside0.mk hy106
   clear hy106
   have H':=Aside0.mk H
   clear H
   go_enter Try.func128,Try.ntmps128
   go_wp2_with (first|((with_reducible refine gate_dst (N:=7) rfl ?_);refine Kd.R_make Kd.string _ 9 rfl (N:=7) rfl 44 _ _ rfl (l0.length:Int) rfl rfl Try.underlying44 (.string ⟨#[]⟩) 16 info9 rfl (by decide) (by omega) (⟨#[]⟩:ByteArray) (ok:=fun _=>True) (okp:=fun _=>True) rfl (fun _ hk=>hk) trivial (of_decide_eq_true (by first|(with_reducible assumption)|assumption)) (Nat.le_trans (Nat.mul_le_mul_right _ (of_decide_eq_true (by first|(with_reducible assumption)|assumption):(l0.length:Int).toNat≤17592186044416)) (by omega)) (Below.refl _ _) (Nat.le_refl _) ?_;intro v107 w4 ho5 hb hg_ hnew_;clear hg_ hnew_;(first|rw [←Ny106.out] at ho5|(simp only [Int.reduceToNat] at ho5;rw [←Ny106.out] at ho5));have n0_:=Aside0.mk (Kd.R_lower ho5 (below_size (by repeat (first|(with_reducible first|exact HB.out|apply below_alloc|apply pw_below_drewN|apply below_drew1)|exact HB.out))));have n1_:=Aside0.mk (below_step (by repeat (first|(with_reducible first|exact HB.out|apply below_alloc|apply pw_below_drewN|apply below_drew1)|exact HB.out)) hb);clear HB;have HO108:=n0_;have HB:=n1_;clear n0_ n1_;clear hb ho5))
   go_loopg [4] k (fun kq v4 w'=>∃ (x3_1:List ByteArray) (x4_1:Int),v4=.int .i64 x4_1∧Aside0 (laws_toStringS.l0 kq l0 x3_1 x4_1=some r)∧Aside0 (kq≤k)∧Aside0 (Kd.R Kd.string 9 w' w.heap.size (fun _=>True) v107 x3_1)∧Aside0 (Below w.heap.size w w'))
   case atStart=>exact ⟨(y106),(0),(by first|rfl|(simp;done)|(simp [*];done)),H',⟨Nat.le_refl _⟩,⟨by (with_reducible repeat (first|apply Kd.R_alloc|apply Kd.R_drewN|apply Kd.R_drew));exact HO108.out⟩,⟨by repeat (first|(with_reducible first|exact HB.out|apply below_alloc|apply pw_below_drewN|apply below_drew1)|exact HB.out)⟩⟩
   case round =>
    clear H'
    try clear c1
    try clear c2
    try clear c2b0
    try clear c2b1
    try clear p2
    try clear c3
    try clear c3b0
    try clear c3b1
    obtain ⟨x3_1,x4_1,rfl,HA,HK1,HO_3,HB⟩:=hrel
    cases gk with
    | zero=>exact absurd HA.out (by simp [laws_toStringS.l0])
    | succ k1 =>
     have H:=HA.out
     clear HA
     simp only [laws_toStringS.l0] at H
     by_cases c6:x4_1<(l0.length:Int)
     ·rw [if_pos c6] at H
      have c6b0:decide (x4_1<(l0.length:Int))=true:=decide_eq_true c6
      clear c6
      by_cases c7:0≤x4_1
      ·rw [if_pos c7] at H
       have c7b0:decide (0≤x4_1)=true:=decide_eq_true c7
       clear c7
       by_cases c8:x4_1<(x3_1.length:Int)
       ·rw [if_pos c8] at H
        have c8b0:decide (x4_1<(x3_1.length:Int))=true:=decide_eq_true c8
        clear c8
        obtain ⟨y110,hy110⟩:∃ y_:List ByteArray,y_=(x3_1.set (x4_1:Int).toNat (rdOf ByteArray.empty l0 x4_1)):=⟨_,rfl⟩
        replace H:(laws_toStringS.l0 k1 l0 y110 (wrap64 (x4_1+1)))=some r:=by first|(rw [hy110];with_reducible exact H)|(have H2_:=(Option.bind_some _ _).symm.trans H;rw [hy110];with_reducible exact H2_)|(have H2_:=(Option.bind_some _ _).symm.trans H;with_reducible exact H2_)|with_reducible exact H|(rw [hy110];exact H)|exact H
        have Ny110:=Aside0.mk hy110
        clear hy110
        have H':=Aside0.mk H
        clear H
        have p109:0≤(x4_1:Int):=of_decide_eq_true (by first|(with_reducible assumption)|assumption)
        have q109:x4_1<(l0.length:Int):=of_decide_eq_true (by first|(with_reducible assumption)|assumption)
        obtain ⟨ad109,e109,hx109_0⟩:=Kd.at_string HR0.out x4_1 p109 q109
        cases e109
        replace hx109_0:=(HB.out.cell (World.block_lt_of_cell? w _ hx109_0)).trans hx109_0
        replace p109:=eq_true p109
        replace q109:=eq_true q109
        have p9:0≤(x4_1:Int):=of_decide_eq_true (by first|(with_reducible assumption)|assumption)
        have q9:(x4_1:Int)<((x3_1.length:Int):Int):=of_decide_eq_true (by first|(with_reducible assumption)|assumption)
        obtain ⟨go9,co9,eo9,gb9,gl9,cl9,HG9⟩:=Kd.R_form HO_3.out (by omega)
        (first|cases eo9|(injection eo9 with ea_ en_ ec_;(first|subst ea_|(injection ea_ with ea_;subst ea_));subst ec_;clear en_))
        have GB9:=Aside0.mk gb9
        have GG9:=Aside0.mk HG9
        clear gb9 gl9 HG9
        obtain ⟨hx9_0,hf9_0⟩:=Kd.R_celln (⟨#[]⟩:ByteArray) HO_3.out (x4_1:Int) p9 q9
        replace p9:=eq_true p9
        replace q9:=eq_true q9
        have HP10:=Kd.R_putg HO_3.out (x4_1:Int) (rdOf ByteArray.empty l0 x4_1)
        go_wp2_with (first|((with_reducible refine gate_store (t:=9) (p:=20) rfl ?_);refine store_event (t:=9) (p:=20) (v:=?vo_w11) (w1:=(wr.setCell ⟨go9,(x4_1:Int).toNat,none⟩ (.string (rdOf ByteArray.empty l0 x4_1)))) ?hg ?ho ?hn ?hr ?_;(case ho=>rfl);(case hg=>rfl);(case hn=>rfl);(case hr=>first|(go_simp;done)|(go_simp;rfl)|((first|(obtain ⟨_,_,rfl⟩:=Kd.R_slice HO108.out)|(obtain ⟨_,_,rfl⟩:=Kd.S_slice HO108.out)|skip);first|(go_simp;done)|(go_simp;rfl)));intro w11 hw;have hg:wr.grownBy w11 (some go9):=(by rw [hw];exact HP10.2);have hp_:Kd.R Kd.string 9 w11 w.heap.size (fun _=>True) (.slice (some ⟨go9,0,none⟩) x3_1.length co9) y110:=(by rw [hw,Ny110.out];exact HP10.1);clear HP10;have n0_:=Aside0.mk (hp_);have n1_:=Aside0.mk ((by rw [hw];exact below_set (HB.out) GB9.out:Below w.heap.size w w11));clear HO_3;clear HB;have HO_3:=n0_;have HB:=n1_;clear n0_ n1_;clear hg hw hp_))
        go_roundg k1
        case measure=>have:=HK1.out;omega
        case rel=>exact ⟨(y110),(wrap64 (x4_1+1)),(by first|rfl|(simp;done)|(simp [*];done)),H',⟨by have:=HK1.out;omega⟩,⟨by (with_reducible repeat (first|apply Kd.R_alloc|apply Kd.R_drewN|apply Kd.R_drew));exact HO_3.out⟩,⟨by repeat (first|(with_reducible first|exact HB.out|apply below_alloc|apply pw_below_drewN|apply below_drew1)|exact HB.out)⟩⟩
       ·rw [if_neg c8] at H
        exact absurd H (by simp)
      ·rw [if_neg c7] at H
       exact absurd H (by simp)
     ·rw [if_neg c6] at H
      have c6b0:decide (x4_1<(l0.length:Int))=false:=decide_eq_false c6
      clear c6
      obtain rfl:=Option.some.inj H
      go_wp2
      go_ret
      exact ⟨_,by first|rfl|(simp [errW_none,errW_some] <;> rfl)|(simp [*,errW_none,errW_some] <;> rfl),by (with_reducible repeat (first|apply Kd.R_alloc|apply Kd.R_drewN|apply Kd.R_drew));exact HO_3.out,by repeat (first|(with_reducible first|exact HB.out|apply below_alloc|apply pw_below_drewN|apply below_drew1)|exact HB.out)⟩
  ·rw [if_neg c3] at H
   exact absurd H (by simp)
 ·rw [if_neg c2] at H
  exact absurd H (by simp)
end Go.Proofs.Ytophaihdibplkaa.PFnExactSameConfig
