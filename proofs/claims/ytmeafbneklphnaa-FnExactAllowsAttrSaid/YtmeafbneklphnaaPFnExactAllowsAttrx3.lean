/- By a program of this session, out of the kit's print and contracts made by hand: the machine side of a law; Lean checks it. No conditions. -/
import Derived.Test.YtmeafbneklphnaaPFnExactAllowsAttrx0
namespace Go.Proofs.Ytmeafbneklphnaa.PFnExactAllowsAttr
open Go.RowKit Go.Proofs.YtmeafbneklphnaaW.PrintWords Go.Proofs.YtmeafbneklphnaaW.PrintLast Go.Proofs.YtmeafbneklphnaaW.PrintMore
attribute [local go_sem] max2_int min2_int max_two min_two max_three min_three max_four min_four
set_option linter.unusedVariables false
set_option linter.unusedSimpArgs false
/-! ### laws_szStringS: function 44 -/
def laws_szStringS.l0:Nat→List ByteArray→Int→Int→Option (Int)
 | 0,_,_,_=>none
 | k+1,x0,x1,x5=>if x5<(x0.length:Int) then (if 0≤x5 then (if (wrap64 (x1 - ((rdOf ByteArray.empty x0 x5).size:Int)))<0 then (some (-1)) else (laws_szStringS.l0 k x0 (wrap64 (x1 - ((rdOf ByteArray.empty x0 x5).size:Int))) (wrap64 (x5+1)))) else (none)) else (some x1)
def laws_szStringS.f (k:Nat) (l0:List ByteArray) (a1:Int):Option (Int):=if (wrap64 (a1 - (l0.length:Int)))<0 then (some (-1)) else (laws_szStringS.l0 k l0 (wrap64 (a1 - (l0.length:Int))) 0)
theorem laws_szStringS.mono_l:∀ k,(∀ y0 y1 y2,LeO (laws_szStringS.l0 k y0 y1 y2) (laws_szStringS.l0 (k+1) y0 y1 y2))
 | 0=>fun _ _ _ r h=>by simp [laws_szStringS.l0] at h
 | k+1=>by
  have ih0:=laws_szStringS.mono_l k
  ·intro y0 y1 y2
   unfold laws_szStringS.l0
   repeat' first
   | (with_reducible exact ih0 _ _ _)
   | (with_reducible exact LeO.refl _)
   | (with_reducible exact LeO.none _)
   | (with_reducible refine LeO.ite ?_ ?_)
   | (with_reducible refine LeO.bind ?_ (fun _=>?_))
   | exact ih0 _ _ _
   | exact LeO.none _
   | refine LeO.ite ?_ ?_
   | refine LeO.bind ?_ (fun _=>?_)
theorem laws_szStringS.mono:∀ a0 a1 k,LeO (laws_szStringS.f k a0 a1) (laws_szStringS.f (k+1) a0 a1):=by
 intro a0 a1 k
 have ih0:=laws_szStringS.mono_l k
 unfold laws_szStringS.f
 repeat' first
  | (with_reducible exact ih0 _ _ _)
  | (with_reducible exact LeO.refl _)
  | (with_reducible exact LeO.none _)
  | (with_reducible refine LeO.ite ?_ ?_)
  | (with_reducible refine LeO.bind ?_ (fun _=>?_))
  | exact ih0 _ _ _
  | exact LeO.none _
  | refine LeO.ite ?_ ?_
  | refine LeO.bind ?_ (fun _=>?_)
set_option maxHeartbeats 8000000 in
set_option maxRecDepth 100000 in
theorem laws_szStringS.calls (k:Nat) (A0:Option Addr) (c0:Nat) (l0:List ByteArray) (a1:Int) (r:Int) (w:World) (hr0:Kd.C Kd.string w A0 l0.length l0) (hc0:l0.length≤c0) (h:laws_szStringS.f k l0 a1=some r) :
 Calls Try.prog 44 #[.slice A0 l0.length c0,.int .i64 a1] w fun e w'=>e=.returned (.int .i64 r)∧Drawn0 w w':=by
 have HR0:=A_ hr0
 have HC0:=A_ hc0
 clear hr0 hc0
 have H:(if (wrap64 (a1 - (l0.length:Int)))<0 then (some (-1)) else (laws_szStringS.l0 k l0 (wrap64 (a1 - (l0.length:Int))) 0))=some r:=h
 clear h
 by_cases c3:(wrap64 (a1 - (l0.length:Int)))<0
 ·rw [if_pos c3] at H
  have c3b0:decide ((wrap64 (a1 - (l0.length:Int)))<0)=true:=dt_ c3
  clear c3
  obtain rfl:=oi_ H
  go_enter Try.func44,Try.ntmps44
  go_wp2
  go_ret
  exact ⟨by first|rfl|(simp;done)|(simp [*];done),by repeat (first|exact dr_ _|apply dp_)⟩
 ·rw [if_neg c3] at H
  have c3b0:decide ((wrap64 (a1 - (l0.length:Int)))<0)=false:=df_ c3
  clear c3
  have H':=A_ H
  clear H
  go_enter Try.func44,Try.ntmps44
  go_wp2
  go_loopg [1,5] k (fun kq v1 v5 w'=>∃ (x1_1:Int) (x5_1:Int),v1=.int .i64 x1_1∧v5=.int .i64 x5_1∧Aside0 (laws_szStringS.l0 kq l0 x1_1 x5_1=some r)∧Aside0 (kq≤k)∧Drawn0 w w')
  case atStart=>exact ⟨(wrap64 (a1 - (l0.length:Int))),(0),(by first|rfl|(simp;done)|(simp [*];done)),(by first|rfl|(simp;done)|(simp [*];done)),H',⟨Nat.le_refl _⟩,by repeat (first|exact dr_ _|apply dp_)⟩
  case round =>
   clear H'
   try clear p2
   try clear c3
   try clear c3b0
   obtain ⟨x1_1,x5_1,rfl,rfl,HA,HK1,⟨m1,rfl⟩⟩:=hrel
   cases gk with
   | zero=>exact absurd HA.out (by simp [laws_szStringS.l0])
   | succ k1 =>
    have H:=HA.out
    clear HA
    simp only [laws_szStringS.l0] at H
    by_cases c4:x5_1<(l0.length:Int)
    ·rw [if_pos c4] at H
     have c4b0:decide (x5_1<(l0.length:Int))=true:=dt_ c4
     clear c4
     by_cases c5:0≤x5_1
     ·rw [if_pos c5] at H
      have c5b0:decide (0≤x5_1)=true:=dt_ c5
      clear c5
      by_cases c6:(wrap64 (x1_1 - ((rdOf ByteArray.empty l0 x5_1).size:Int)))<0
      ·rw [if_pos c6] at H
       have c6b0:decide ((wrap64 (x1_1 - ((rdOf ByteArray.empty l0 x5_1).size:Int)))<0)=true:=dt_ c6
       clear c6
       obtain rfl:=oi_ H
       have p109:0≤(x5_1:Int):=od_ (by first|(with_reducible assumption)|assumption)
       have q109:x5_1<(l0.length:Int):=od_ (by first|(with_reducible assumption)|assumption)
       obtain ⟨ad109,e109,hx109_0⟩:=Kd.at_string HR0.out x5_1 p109 q109
       cases e109
       replace p109:=eq_true p109
       replace q109:=eq_true q109
       go_wp2
       go_ret
       exact ⟨by first|rfl|(simp;done)|(simp [*];done),by repeat (first|exact dr_ _|apply dp_)⟩
      ·rw [if_neg c6] at H
       have c6b0:decide ((wrap64 (x1_1 - ((rdOf ByteArray.empty l0 x5_1).size:Int)))<0)=false:=df_ c6
       clear c6
       have H':=A_ H
       clear H
       have p109:0≤(x5_1:Int):=od_ (by first|(with_reducible assumption)|assumption)
       have q109:x5_1<(l0.length:Int):=od_ (by first|(with_reducible assumption)|assumption)
       obtain ⟨ad109,e109,hx109_0⟩:=Kd.at_string HR0.out x5_1 p109 q109
       cases e109
       replace p109:=eq_true p109
       replace q109:=eq_true q109
       go_wp2
       go_roundg k1
       case measure=>have:=HK1.out;omega
       case rel=>exact ⟨(wrap64 (x1_1 - ((rdOf ByteArray.empty l0 x5_1).size:Int))),(wrap64 (x5_1+1)),(by first|rfl|(simp;done)|(simp [*];done)),(by first|rfl|(simp;done)|(simp [*];done)),H',⟨by have:=HK1.out;omega⟩,by repeat (first|exact dr_ _|apply dp_)⟩
     ·rw [if_neg c5] at H
      exact absurd H (by simp)
    ·rw [if_neg c4] at H
     have c4b0:decide (x5_1<(l0.length:Int))=false:=df_ c4
     clear c4
     obtain rfl:=oi_ H
     go_wp2
     go_ret
     exact ⟨by first|rfl|(simp;done)|(simp [*];done),by repeat (first|exact dr_ _|apply dp_)⟩
/-! ### laws_szRule: function 72 -/
def laws_szRule.f (k:Nat) (a0_0:Int) (a0_1:ByteArray) (l0_2:List ByteArray) (a1:Int):Option (Int):=if (wrap64 (a1 - (a0_1.size:Int)))<0 then (some (-1)) else ((laws_szStringS.f k l0_2 (wrap64 (a1 - (a0_1.size:Int)))).bind fun t111=>(if t111<0 then (some (-1)) else (some t111)))
theorem laws_szRule.mono:∀ a0 a1 a2 a3 k,LeO (laws_szRule.f k a0 a1 a2 a3) (laws_szRule.f (k+1) a0 a1 a2 a3):=by
 intro a0 a1 a2 a3 k
 unfold laws_szRule.f
 repeat' first
  | (with_reducible exact laws_szStringS.mono _ _ _)
  | (with_reducible exact LeO.refl _)
  | (with_reducible exact LeO.none _)
  | (with_reducible refine LeO.ite ?_ ?_)
  | (with_reducible refine LeO.bind ?_ (fun _=>?_))
  | exact laws_szStringS.mono _ _ _
  | exact LeO.none _
  | refine LeO.ite ?_ ?_
  | refine LeO.bind ?_ (fun _=>?_)
set_option maxHeartbeats 8000000 in
set_option maxRecDepth 100000 in
theorem laws_szRule.calls (k:Nat) (a0_0:Int) (a0_1:ByteArray) (A0_2:Option Addr) (c0_2:Nat) (l0_2:List ByteArray) (a1:Int) (r:Int) (w:World) (hr0_2:Kd.C Kd.string w A0_2 l0_2.length l0_2) (hc0_2:l0_2.length≤c0_2) (h:laws_szRule.f k a0_0 a0_1 l0_2 a1=some r) :
 Calls Try.prog 72 #[.agg #[.int .i64 a0_0,.string a0_1,.slice A0_2 l0_2.length c0_2],.int .i64 a1] w fun e w'=>e=.returned (.int .i64 r)∧Below w.heap.size w w':=by
 have hu94:=Try.underlying94
 have HR0_2:=A_ hr0_2
 have HC0_2:=A_ hc0_2
 clear hr0_2 hc0_2
 have HB:=A_ (Below.refl w.heap.size w)
 have H:(if (wrap64 (a1 - (a0_1.size:Int)))<0 then (some (-1)) else ((laws_szStringS.f k l0_2 (wrap64 (a1 - (a0_1.size:Int)))).bind fun t111=>(if t111<0 then (some (-1)) else (some t111))))=some r:=h
 clear h
 by_cases c3:(wrap64 (a1 - (a0_1.size:Int)))<0
 ·rw [if_pos c3] at H
  have c3b0:decide ((wrap64 (a1 - (a0_1.size:Int)))<0)=true:=dt_ c3
  clear c3
  obtain rfl:=oi_ H
  go_enter Try.func72,Try.ntmps72
  go_wp2_with (first|((with_reducible refine gate_dst (N:=2) rfl ?_);refine box_event ?hg (N:=2) ?hd (cs:=#[.int .i64 a0_0,.string a0_1,.slice A0_2 l0_2.length c0_2]) (t:=94) ?hr ?_;(case hd=>rfl);(case hg=>rfl);(case hr=>first|(go_simp;done)|(go_simp;rfl));intro gb110 hg w4 hbox hb;have n0_:=A_ (bp_ (by repeat (first|(with_reducible first|exact HB.out|apply ba_|apply pd_|apply b1_)|exact HB.out)) hb);have n1_:=A_ (hbox);have n2_:=A_ ((by rw [hg];exact (bz_ (by repeat (first|(with_reducible first|exact HB.out|apply ba_|apply pd_|apply b1_)|exact HB.out))):w.heap.size≤gb110));have n3_:=A_ ((by rw [hg];exact (bz_ (by repeat (first|(with_reducible first|exact HB.out|apply ba_|apply pd_|apply b1_)|exact HB.out))):w.heap.size≤gb110));clear HB;have HB:=n0_;have BK110:=n1_;have GW110:=n2_;have GE110:=n3_;clear n0_ n1_ n2_ n3_;clear hb hbox hg;have hcz5_0:w4.cell? ⟨gb110,0,none⟩=some (.int .i64 a0_0):=(bc_ BK110.out 0).trans rfl;have hcz5_1:w4.cell? ⟨gb110,1,none⟩=some (.string a0_1):=(bc_ BK110.out 1).trans rfl;have hcz5_2:w4.cell? ⟨gb110,2,none⟩=some (.slice A0_2 l0_2.length c0_2):=(bc_ BK110.out 2).trans rfl;have hfz5_0:=bf_ BK110.out 0;have hfz5_1:=bf_ BK110.out 1;have hfz5_2:=bf_ BK110.out 2))
  go_ret
  exact ⟨by first|rfl|(simp [errW_none,errW_some] <;> rfl)|(simp [*,errW_none,errW_some] <;> rfl),by repeat (first|(with_reducible first|exact HB.out|apply ba_|apply pd_|apply b1_|refine bs_ ?_ GE110.out)|exact HB.out)⟩
 ·rw [if_neg c3] at H
  have c3b0:decide ((wrap64 (a1 - (a0_1.size:Int)))<0)=false:=df_ c3
  clear c3
  replace H:=ob_ H
  obtain ⟨t111,A60,H⟩:=H
  replace H:(if t111<0 then (some (-1)) else (some t111))=some r:=H
  have A6:=A_ A60
  clear A60
  by_cases c7:t111<0
  ·rw [if_pos c7] at H
   have c7b0:decide (t111<0)=true:=dt_ c7
   clear c7
   obtain rfl:=oi_ H
   go_enter Try.func72,Try.ntmps72
   go_wp2_with (first|((with_reducible refine gate_dst (N:=2) rfl ?_);refine box_event ?hg (N:=2) ?hd (cs:=#[.int .i64 a0_0,.string a0_1,.slice A0_2 l0_2.length c0_2]) (t:=94) ?hr ?_;(case hd=>rfl);(case hg=>rfl);(case hr=>first|(go_simp;done)|(go_simp;rfl));intro gb110 hg w8 hbox hb;have n0_:=A_ (bp_ (by repeat (first|(with_reducible first|exact HB.out|apply ba_|apply pd_|apply b1_)|exact HB.out)) hb);have n1_:=A_ (hbox);have n2_:=A_ ((by rw [hg];exact (bz_ (by repeat (first|(with_reducible first|exact HB.out|apply ba_|apply pd_|apply b1_)|exact HB.out))):w.heap.size≤gb110));have n3_:=A_ ((by rw [hg];exact (bz_ (by repeat (first|(with_reducible first|exact HB.out|apply ba_|apply pd_|apply b1_)|exact HB.out))):w.heap.size≤gb110));clear HB;have HB:=n0_;have BK110:=n1_;have GW110:=n2_;have GE110:=n3_;clear n0_ n1_ n2_ n3_;clear hb hbox hg;have hcz9_0:w8.cell? ⟨gb110,0,none⟩=some (.int .i64 a0_0):=(bc_ BK110.out 0).trans rfl;have hcz9_1:w8.cell? ⟨gb110,1,none⟩=some (.string a0_1):=(bc_ BK110.out 1).trans rfl;have hcz9_2:w8.cell? ⟨gb110,2,none⟩=some (.slice A0_2 l0_2.length c0_2):=(bc_ BK110.out 2).trans rfl;have hfz9_0:=bf_ BK110.out 0;have hfz9_1:=bf_ BK110.out 1;have hfz9_2:=bf_ BK110.out 2)|((with_reducible refine gate_callee (f:=44) rfl ?_);refine goesL_ (some 15) rfl rfl Try.func44 (by kernel_rfl) rfl #[.slice A0_2 l0_2.length c0_2,.int .i64 (wrap64 (a1 - (a0_1.size:Int)))] rfl (by (try simp only [List.map_toArray,List.map_cons,List.map_nil]);first|done|rfl|(simp only [ld_,lt_];rfl)) ?_;(with_reducible refine (laws_szStringS.calls k _ _ l0_2 (wrap64 (a1 - (a0_1.size:Int))) t111 _ ?side1 ?side2 A6.out).mono ?_);(case side1=>repeat (first|exact (cb_ HR0_2.out HB.out)|(with_reducible refine ca_ ?_ _)|(with_reducible refine cn_ ?_ _)|(with_reducible refine cd_ ?_)));(case side2=>exact HC0_2.out);rintro e w' ⟨rfl,⟨nd,rfl⟩⟩;refine ⟨_,rfl,?_⟩))
   go_ret
   exact ⟨by first|rfl|(simp [errW_none,errW_some] <;> rfl)|(simp [*,errW_none,errW_some] <;> rfl),by repeat (first|(with_reducible first|exact HB.out|apply ba_|apply pd_|apply b1_|refine bs_ ?_ GE110.out)|exact HB.out)⟩
  ·rw [if_neg c7] at H
   have c7b0:decide (t111<0)=false:=df_ c7
   clear c7
   obtain rfl:=oi_ H
   go_enter Try.func72,Try.ntmps72
   go_wp2_with (first|((with_reducible refine gate_dst (N:=2) rfl ?_);refine box_event ?hg (N:=2) ?hd (cs:=#[.int .i64 a0_0,.string a0_1,.slice A0_2 l0_2.length c0_2]) (t:=94) ?hr ?_;(case hd=>rfl);(case hg=>rfl);(case hr=>first|(go_simp;done)|(go_simp;rfl));intro gb110 hg w10 hbox hb;have n0_:=A_ (bp_ (by repeat (first|(with_reducible first|exact HB.out|apply ba_|apply pd_|apply b1_)|exact HB.out)) hb);have n1_:=A_ (hbox);have n2_:=A_ ((by rw [hg];exact (bz_ (by repeat (first|(with_reducible first|exact HB.out|apply ba_|apply pd_|apply b1_)|exact HB.out))):w.heap.size≤gb110));have n3_:=A_ ((by rw [hg];exact (bz_ (by repeat (first|(with_reducible first|exact HB.out|apply ba_|apply pd_|apply b1_)|exact HB.out))):w.heap.size≤gb110));clear HB;have HB:=n0_;have BK110:=n1_;have GW110:=n2_;have GE110:=n3_;clear n0_ n1_ n2_ n3_;clear hb hbox hg;have hcz11_0:w10.cell? ⟨gb110,0,none⟩=some (.int .i64 a0_0):=(bc_ BK110.out 0).trans rfl;have hcz11_1:w10.cell? ⟨gb110,1,none⟩=some (.string a0_1):=(bc_ BK110.out 1).trans rfl;have hcz11_2:w10.cell? ⟨gb110,2,none⟩=some (.slice A0_2 l0_2.length c0_2):=(bc_ BK110.out 2).trans rfl;have hfz11_0:=bf_ BK110.out 0;have hfz11_1:=bf_ BK110.out 1;have hfz11_2:=bf_ BK110.out 2)|((with_reducible refine gate_callee (f:=44) rfl ?_);refine goesL_ (some 15) rfl rfl Try.func44 (by kernel_rfl) rfl #[.slice A0_2 l0_2.length c0_2,.int .i64 (wrap64 (a1 - (a0_1.size:Int)))] rfl (by (try simp only [List.map_toArray,List.map_cons,List.map_nil]);first|done|rfl|(simp only [ld_,lt_];rfl)) ?_;(with_reducible refine (laws_szStringS.calls k _ _ l0_2 (wrap64 (a1 - (a0_1.size:Int))) t111 _ ?side1 ?side2 A6.out).mono ?_);(case side1=>repeat (first|exact (cb_ HR0_2.out HB.out)|(with_reducible refine ca_ ?_ _)|(with_reducible refine cn_ ?_ _)|(with_reducible refine cd_ ?_)));(case side2=>exact HC0_2.out);rintro e w' ⟨rfl,⟨nd,rfl⟩⟩;refine ⟨_,rfl,?_⟩))
   go_ret
   exact ⟨by first|rfl|(simp [errW_none,errW_some] <;> rfl)|(simp [*,errW_none,errW_some] <;> rfl),by repeat (first|(with_reducible first|exact HB.out|apply ba_|apply pd_|apply b1_|refine bs_ ?_ GE110.out)|exact HB.out)⟩
/-! ### laws_szRuleS: function 43 -/
def laws_szRuleS.l0:Nat→List (S94)→Int→Int→Option (Int)
 | 0,_,_,_=>none
 | k+1,x0,x1,x5=>if x5<(x0.length:Int) then (if 0≤x5 then ((laws_szRule.f k ((rd_T94 x0 x5).f0) ((rd_T94 x0 x5).f1) ((rd_T94 x0 x5).f2) x1).bind fun t113=>(if t113<0 then (some (-1)) else (laws_szRuleS.l0 k x0 t113 (wrap64 (x5+1))))) else (none)) else (some x1)
def laws_szRuleS.f (k:Nat) (l0:List (S94)) (a1:Int):Option (Int):=if (wrap64 (a1 - (l0.length:Int)))<0 then (some (-1)) else (laws_szRuleS.l0 k l0 (wrap64 (a1 - (l0.length:Int))) 0)
theorem laws_szRuleS.mono_l:∀ k,(∀ y0 y1 y2,LeO (laws_szRuleS.l0 k y0 y1 y2) (laws_szRuleS.l0 (k+1) y0 y1 y2))
 | 0=>fun _ _ _ r h=>by simp [laws_szRuleS.l0] at h
 | k+1=>by
  have ih0:=laws_szRuleS.mono_l k
  ·intro y0 y1 y2
   unfold laws_szRuleS.l0
   repeat' first
   | (with_reducible exact ih0 _ _ _)
   | (with_reducible exact laws_szRule.mono _ _ _ _ _)
   | (with_reducible exact LeO.refl _)
   | (with_reducible exact LeO.none _)
   | (with_reducible refine LeO.ite ?_ ?_)
   | (with_reducible refine LeO.bind ?_ (fun _=>?_))
   | exact ih0 _ _ _
   | exact laws_szRule.mono _ _ _ _ _
   | exact LeO.none _
   | refine LeO.ite ?_ ?_
   | refine LeO.bind ?_ (fun _=>?_)
theorem laws_szRuleS.mono:∀ a0 a1 k,LeO (laws_szRuleS.f k a0 a1) (laws_szRuleS.f (k+1) a0 a1):=by
 intro a0 a1 k
 have ih0:=laws_szRuleS.mono_l k
 unfold laws_szRuleS.f
 repeat' first
  | (with_reducible exact ih0 _ _ _)
  | (with_reducible exact laws_szRule.mono _ _ _ _ _)
  | (with_reducible exact LeO.refl _)
  | (with_reducible exact LeO.none _)
  | (with_reducible refine LeO.ite ?_ ?_)
  | (with_reducible refine LeO.bind ?_ (fun _=>?_))
  | exact ih0 _ _ _
  | exact laws_szRule.mono _ _ _ _ _
  | exact LeO.none _
  | refine LeO.ite ?_ ?_
  | refine LeO.bind ?_ (fun _=>?_)
set_option maxHeartbeats 8000000 in
set_option maxRecDepth 100000 in
theorem laws_szRuleS.calls (k:Nat) (A0:Option Addr) (c0:Nat) (l0:List (S94)) (a1:Int) (r:Int) (w:World) (hr0:Kd.C k94 w A0 l0.length l0) (hc0:l0.length≤c0) (h:laws_szRuleS.f k l0 a1=some r) :
 Calls Try.prog 43 #[.slice A0 l0.length c0,.int .i64 a1] w fun e w'=>e=.returned (.int .i64 r)∧Below w.heap.size w w':=by
 have hu94:=Try.underlying94
 have HR0:=A_ hr0
 have HC0:=A_ hc0
 clear hr0 hc0
 have HB:=A_ (Below.refl w.heap.size w)
 have H:(if (wrap64 (a1 - (l0.length:Int)))<0 then (some (-1)) else (laws_szRuleS.l0 k l0 (wrap64 (a1 - (l0.length:Int))) 0))=some r:=h
 clear h
 by_cases c3:(wrap64 (a1 - (l0.length:Int)))<0
 ·rw [if_pos c3] at H
  have c3b0:decide ((wrap64 (a1 - (l0.length:Int)))<0)=true:=dt_ c3
  clear c3
  obtain rfl:=oi_ H
  go_enter Try.func43,Try.ntmps43
  go_wp2
  go_ret
  exact ⟨by first|rfl|(simp [errW_none,errW_some] <;> rfl)|(simp [*,errW_none,errW_some] <;> rfl),by repeat (first|(with_reducible first|exact HB.out|apply ba_|apply pd_|apply b1_)|exact HB.out)⟩
 ·rw [if_neg c3] at H
  have c3b0:decide ((wrap64 (a1 - (l0.length:Int)))<0)=false:=df_ c3
  clear c3
  have H':=A_ H
  clear H
  go_enter Try.func43,Try.ntmps43
  go_wp2
  go_loopg [1,5] k (fun kq v1 v5 w'=>∃ (x1_1:Int) (x5_1:Int),v1=.int .i64 x1_1∧v5=.int .i64 x5_1∧Aside0 (laws_szRuleS.l0 kq l0 x1_1 x5_1=some r)∧Aside0 (kq≤k)∧Aside0 (Below w.heap.size w w'))
  case atStart=>exact ⟨(wrap64 (a1 - (l0.length:Int))),(0),(by first|rfl|(simp;done)|(simp [*];done)),(by first|rfl|(simp;done)|(simp [*];done)),H',⟨Nat.le_refl _⟩,⟨by repeat (first|(with_reducible first|exact HB.out|apply ba_|apply pd_|apply b1_)|exact HB.out)⟩⟩
  case round =>
   clear H'
   try clear p2
   try clear c3
   try clear c3b0
   obtain ⟨x1_1,x5_1,rfl,rfl,HA,HK1,HB⟩:=hrel
   cases gk with
   | zero=>exact absurd HA.out (by simp [laws_szRuleS.l0])
   | succ k1 =>
    have H:=HA.out
    clear HA
    simp only [laws_szRuleS.l0] at H
    by_cases c4:x5_1<(l0.length:Int)
    ·rw [if_pos c4] at H
     have c4b0:decide (x5_1<(l0.length:Int))=true:=dt_ c4
     clear c4
     by_cases c5:0≤x5_1
     ·rw [if_pos c5] at H
      have c5b0:decide (0≤x5_1)=true:=dt_ c5
      clear c5
      replace H:=ob_ H
      obtain ⟨t113,A60,H⟩:=H
      replace H:(if t113<0 then (some (-1)) else (laws_szRuleS.l0 k1 l0 t113 (wrap64 (x5_1+1))))=some r:=H
      have A6:=A_ A60
      clear A60
      by_cases c7:t113<0
      ·rw [if_pos c7] at H
       have c7b0:decide (t113<0)=true:=dt_ c7
       clear c7
       obtain rfl:=oi_ H
       have p112:0≤(x5_1:Int):=od_ (by first|(with_reducible assumption)|assumption)
       have q112:x5_1<(l0.length:Int):=od_ (by first|(with_reducible assumption)|assumption)
       obtain ⟨ad112,A112_2,c112_2,e112,hx112_0,hx112_1,hx112_2,hl112_2,hi112_2⟩:=at_T94 HR0.out x5_1 p112 q112
       cases e112
       replace hx112_0:=(HB.out.cell (bl_ w _ hx112_0)).trans hx112_0
       replace hx112_1:=(HB.out.cell (bl_ w _ hx112_1)).trans hx112_1
       replace hx112_2:=(HB.out.cell (bl_ w _ hx112_2)).trans hx112_2
       have HR112_2:=A_ hi112_2
       have HC112_2:=A_ hl112_2
       clear hi112_2 hl112_2
       replace p112:=eq_true p112
       replace q112:=eq_true q112
       go_wp2_with (first|((with_reducible refine gate_callee (f:=72) rfl ?_);refine goesL_ (some 23) rfl rfl Try.func72 (by kernel_rfl) rfl #[.agg #[.int .i64 ((rd_T94 l0 x5_1).f0),.string ((rd_T94 l0 x5_1).f1),.slice A112_2 ((rd_T94 l0 x5_1).f2).length c112_2],.int .i64 x1_1] rfl (by (try simp only [List.map_toArray,List.map_cons,List.map_nil]);first|done|rfl|(simp only [ld_,lt_];rfl)) ?_;(with_reducible refine (laws_szRule.calls k1 ((rd_T94 l0 x5_1).f0) ((rd_T94 l0 x5_1).f1) _ _ ((rd_T94 l0 x5_1).f2) x1_1 t113 _ ?side1 ?side2 A6.out).mono ?_);(case side1=>repeat (first|exact (cb_ HR112_2.out HB.out)|(with_reducible refine ca_ ?_ _)|(with_reducible refine cn_ ?_ _)|(with_reducible refine cd_ ?_)));(case side2=>exact HC112_2.out);rintro e w8 ⟨rfl,hb⟩;refine ⟨_,rfl,?_⟩;have n0_:=A_ (bp_ (by repeat (first|(with_reducible first|exact HB.out|apply ba_|apply pd_|apply b1_)|exact HB.out)) hb);clear HB;have HB:=n0_;clear n0_;(try clear hb);(try clear hb2);(try clear hk);(try clear hi)))
       go_ret
       exact ⟨by first|rfl|(simp [errW_none,errW_some] <;> rfl)|(simp [*,errW_none,errW_some] <;> rfl),by repeat (first|(with_reducible first|exact HB.out|apply ba_|apply pd_|apply b1_)|exact HB.out)⟩
      ·rw [if_neg c7] at H
       have c7b0:decide (t113<0)=false:=df_ c7
       clear c7
       have H':=A_ H
       clear H
       have p112:0≤(x5_1:Int):=od_ (by first|(with_reducible assumption)|assumption)
       have q112:x5_1<(l0.length:Int):=od_ (by first|(with_reducible assumption)|assumption)
       obtain ⟨ad112,A112_2,c112_2,e112,hx112_0,hx112_1,hx112_2,hl112_2,hi112_2⟩:=at_T94 HR0.out x5_1 p112 q112
       cases e112
       replace hx112_0:=(HB.out.cell (bl_ w _ hx112_0)).trans hx112_0
       replace hx112_1:=(HB.out.cell (bl_ w _ hx112_1)).trans hx112_1
       replace hx112_2:=(HB.out.cell (bl_ w _ hx112_2)).trans hx112_2
       have HR112_2:=A_ hi112_2
       have HC112_2:=A_ hl112_2
       clear hi112_2 hl112_2
       replace p112:=eq_true p112
       replace q112:=eq_true q112
       go_wp2_with (first|((with_reducible refine gate_callee (f:=72) rfl ?_);refine goesL_ (some 23) rfl rfl Try.func72 (by kernel_rfl) rfl #[.agg #[.int .i64 ((rd_T94 l0 x5_1).f0),.string ((rd_T94 l0 x5_1).f1),.slice A112_2 ((rd_T94 l0 x5_1).f2).length c112_2],.int .i64 x1_1] rfl (by (try simp only [List.map_toArray,List.map_cons,List.map_nil]);first|done|rfl|(simp only [ld_,lt_];rfl)) ?_;(with_reducible refine (laws_szRule.calls k1 ((rd_T94 l0 x5_1).f0) ((rd_T94 l0 x5_1).f1) _ _ ((rd_T94 l0 x5_1).f2) x1_1 t113 _ ?side1 ?side2 A6.out).mono ?_);(case side1=>repeat (first|exact (cb_ HR112_2.out HB.out)|(with_reducible refine ca_ ?_ _)|(with_reducible refine cn_ ?_ _)|(with_reducible refine cd_ ?_)));(case side2=>exact HC112_2.out);rintro e w9 ⟨rfl,hb⟩;refine ⟨_,rfl,?_⟩;have n0_:=A_ (bp_ (by repeat (first|(with_reducible first|exact HB.out|apply ba_|apply pd_|apply b1_)|exact HB.out)) hb);clear HB;have HB:=n0_;clear n0_;(try clear hb);(try clear hb2);(try clear hk);(try clear hi)))
       go_roundg k1
       case measure=>have:=HK1.out;omega
       case rel=>exact ⟨(t113),(wrap64 (x5_1+1)),(by first|rfl|(simp;done)|(simp [*];done)),(by first|rfl|(simp;done)|(simp [*];done)),H',⟨by have:=HK1.out;omega⟩,⟨by repeat (first|(with_reducible first|exact HB.out|apply ba_|apply pd_|apply b1_)|exact HB.out)⟩⟩
     ·rw [if_neg c5] at H
      exact absurd H (by simp)
    ·rw [if_neg c4] at H
     have c4b0:decide (x5_1<(l0.length:Int))=false:=df_ c4
     clear c4
     obtain rfl:=oi_ H
     go_wp2
     go_ret
     exact ⟨by first|rfl|(simp [errW_none,errW_some] <;> rfl)|(simp [*,errW_none,errW_some] <;> rfl),by repeat (first|(with_reducible first|exact HB.out|apply ba_|apply pd_|apply b1_)|exact HB.out)⟩
/-! ### laws_szConfig: function 19, by hand -/
def laws_szConfig.f (k:Nat) (_a0_0 _a0_1:Bool) (l0_2 l0_3 l0_4:List S94) (l0_5 l0_6:List ByteArray) (_a0_7 _a0_8:Bool) (a1:Int):Option Int :=
 (laws_szRuleS.f k l0_2 a1).bind fun t2=>if t2<0 then some (-1) else (laws_szRuleS.f k l0_3 t2).bind fun t3=>if t3<0 then some (-1) else (laws_szRuleS.f k l0_4 t3).bind fun t4=>if t4<0 then some (-1) else (laws_szStringS.f k l0_5 t4).bind fun t5=>if t5<0 then some (-1) else (laws_szStringS.f k l0_6 t5).bind fun t6=>if t6<0 then some (-1) else some t6
theorem laws_szConfig.mono:∀ a0 a1 a2 a3 a4 a5 a6 a7 a8 a9 k,LeO (laws_szConfig.f k a0 a1 a2 a3 a4 a5 a6 a7 a8 a9) (laws_szConfig.f (k+1) a0 a1 a2 a3 a4 a5 a6 a7 a8 a9):=by
 intro a0 a1 a2 a3 a4 a5 a6 a7 a8 a9 k
 unfold laws_szConfig.f
 repeat' first
  | (with_reducible exact laws_szRuleS.mono _ _ _)
  | (with_reducible exact laws_szStringS.mono _ _ _)
  | (with_reducible exact LeO.refl _)
  | (with_reducible refine LeO.ite ?_ ?_)
  | (with_reducible refine LeO.bind ?_ (fun _=>?_))
  | exact laws_szRuleS.mono _ _ _
  | exact laws_szStringS.mono _ _ _
  | refine LeO.ite ?_ ?_
  | refine LeO.bind ?_ (fun _=>?_)
theorem szNew {w V:World} {c:Array Value} {t:TypeId} (h:Below (w.alloc (.cells c t)).heap.size (w.alloc (.cells c t)) V):(∀ i v,c[i]? = some v→V.cell? ⟨w.heap.size,i,none⟩=some v)∧Below w.heap.size w V:=by
 have hb:=ba_ (Below.refl w.heap.size w) (.cells c t)
 exact ⟨fun i v hv=>pc_ h (by have h1:c[i]? = some v:=hv;simp [h1]),hb.trans (h.mono hb.size)⟩
set_option maxHeartbeats 8000000 in
set_option maxRecDepth 100000 in
theorem laws_szConfig.calls (k:Nat) (a0_0 a0_1:Bool) (A0_2:Option Addr) (c0_2:Nat) (l0_2:List S94) (A0_3:Option Addr) (c0_3:Nat) (l0_3:List S94) (A0_4:Option Addr) (c0_4:Nat) (l0_4:List S94) (A0_5:Option Addr) (c0_5:Nat) (l0_5:List ByteArray) (A0_6:Option Addr) (c0_6:Nat) (l0_6:List ByteArray) (a0_7 a0_8:Bool) (a1:Int) (r:Int) (w:World) (hr0_2:Kd.C k94 w A0_2 l0_2.length l0_2) (hc0_2:l0_2.length≤c0_2) (hr0_3:Kd.C k94 w A0_3 l0_3.length l0_3) (hc0_3:l0_3.length≤c0_3) (hr0_4:Kd.C k94 w A0_4 l0_4.length l0_4) (hc0_4:l0_4.length≤c0_4) (hr0_5:Kd.C Kd.string w A0_5 l0_5.length l0_5) (hc0_5:l0_5.length≤c0_5) (hr0_6:Kd.C Kd.string w A0_6 l0_6.length l0_6) (hc0_6:l0_6.length≤c0_6) (h:laws_szConfig.f k a0_0 a0_1 l0_2 l0_3 l0_4 l0_5 l0_6 a0_7 a0_8 a1=some r) :
 Calls Try.prog 19 #[.agg #[.bool a0_0,.bool a0_1,.slice A0_2 l0_2.length c0_2,.slice A0_3 l0_3.length c0_3,.slice A0_4 l0_4.length c0_4,.slice A0_5 l0_5.length c0_5,.slice A0_6 l0_6.length c0_6,.bool a0_7,.bool a0_8],.int .i64 a1] w fun e w'=>e=.returned (.int .i64 r)∧Below w.heap.size w w':=by
 unfold laws_szConfig.f at h
 have HB1:=A_ (Below.refl (w.alloc (.cells #[.bool a0_0,.bool a0_1,.slice A0_2 l0_2.length c0_2,.slice A0_3 l0_3.length c0_3,.slice A0_4 l0_4.length c0_4,.slice A0_5 l0_5.length c0_5,.slice A0_6 l0_6.length c0_6,.bool a0_7,.bool a0_8] 43)).heap.size (w.alloc (.cells #[.bool a0_0,.bool a0_1,.slice A0_2 l0_2.length c0_2,.slice A0_3 l0_3.length c0_3,.slice A0_4 l0_4.length c0_4,.slice A0_5 l0_5.length c0_5,.slice A0_6 l0_6.length c0_6,.bool a0_7,.bool a0_8] 43)))
 have E:=fun V (h:Aside0 (Below (w.alloc (.cells #[.bool a0_0,.bool a0_1,.slice A0_2 l0_2.length c0_2,.slice A0_3 l0_3.length c0_3,.slice A0_4 l0_4.length c0_4,.slice A0_5 l0_5.length c0_5,.slice A0_6 l0_6.length c0_6,.bool a0_7,.bool a0_8] 43)).heap.size (w.alloc (.cells #[.bool a0_0,.bool a0_1,.slice A0_2 l0_2.length c0_2,.slice A0_3 l0_3.length c0_3,.slice A0_4 l0_4.length c0_4,.slice A0_5 l0_5.length c0_5,.slice A0_6 l0_6.length c0_6,.bool a0_7,.bool a0_8] 43)) V))=>szNew h.out
 have E:=A_ E
 have Q2:Aside0 (∀ a t V,laws_szRuleS.f k l0_2 a=some t→Below w.heap.size w V→Calls Try.prog 43 #[.slice A0_2 l0_2.length c0_2,.int .i64 a] V fun e w'=>e=.returned (.int .i64 t)∧Below V.heap.size V w'):=⟨fun a t V e hV=>(laws_szRuleS.calls k A0_2 c0_2 l0_2 a t V (cb_ hr0_2 hV) hc0_2 e).mono fun e w' ⟨he,hd⟩=>⟨he,hd⟩⟩
 have Q3:Aside0 (∀ a t V,laws_szRuleS.f k l0_3 a=some t→Below w.heap.size w V→Calls Try.prog 43 #[.slice A0_3 l0_3.length c0_3,.int .i64 a] V fun e w'=>e=.returned (.int .i64 t)∧Below V.heap.size V w'):=⟨fun a t V e hV=>(laws_szRuleS.calls k A0_3 c0_3 l0_3 a t V (cb_ hr0_3 hV) hc0_3 e).mono fun e w' ⟨he,hd⟩=>⟨he,hd⟩⟩
 have Q4:Aside0 (∀ a t V,laws_szRuleS.f k l0_4 a=some t→Below w.heap.size w V→Calls Try.prog 43 #[.slice A0_4 l0_4.length c0_4,.int .i64 a] V fun e w'=>e=.returned (.int .i64 t)∧Below V.heap.size V w'):=⟨fun a t V e hV=>(laws_szRuleS.calls k A0_4 c0_4 l0_4 a t V (cb_ hr0_4 hV) hc0_4 e).mono fun e w' ⟨he,hd⟩=>⟨he,hd⟩⟩
 have Q5:Aside0 (∀ a t V,laws_szStringS.f k l0_5 a=some t→Below w.heap.size w V→Calls Try.prog 44 #[.slice A0_5 l0_5.length c0_5,.int .i64 a] V fun e w'=>e=.returned (.int .i64 t)∧Below V.heap.size V w'):=⟨fun a t V e hV=>(laws_szStringS.calls k A0_5 c0_5 l0_5 a t V (cb_ hr0_5 hV) hc0_5 e).mono fun e w' ⟨he,hd⟩=>⟨he,hd.below⟩⟩
 have Q6:Aside0 (∀ a t V,laws_szStringS.f k l0_6 a=some t→Below w.heap.size w V→Calls Try.prog 44 #[.slice A0_6 l0_6.length c0_6,.int .i64 a] V fun e w'=>e=.returned (.int .i64 t)∧Below V.heap.size V w'):=⟨fun a t V e hV=>(laws_szStringS.calls k A0_6 c0_6 l0_6 a t V (cb_ hr0_6 hV) hc0_6 e).mono fun e w' ⟨he,hd⟩=>⟨he,hd.below⟩⟩
 clear hr0_2 hc0_2 hr0_3 hc0_3 hr0_4 hc0_4 hr0_5 hc0_5 hr0_6 hc0_6
 generalize l0_2.length=n2 at *
 generalize l0_3.length=n3 at *
 generalize l0_4.length=n4 at *
 generalize l0_5.length=n5 at *
 generalize l0_6.length=n6 at *
 have h9:=ob_ h
 clear h
 obtain ⟨t2,e2,h⟩:=h9
 by_cases b2:t2<0
 case pos =>
  rw [if_pos b2] at h
  have z2:decide (t2<0)=true:=dt_ b2
  clear b2
  obtain rfl:=oi_ h
  clear h
  go_enter Try.func19,Try.ntmps19
  go_wp2_with (first|(go_at_call 43;(with_reducible refine (Q2.out _ _ _ e2 (E.out _ HB1).2).mono ?_);rintro e w2 ⟨rfl,hb⟩;have HB2:=A_ (HB1.out.trans (hb.mono HB1.out.size));have x2:=(E.out _ HB2).1 3 (.slice A0_3 n3 c0_3) rfl;clear hb))
  go_ret
  exact ⟨rfl,(E.out _ HB2).2⟩
 rw [if_neg b2] at h
 have z2:decide (t2<0)=false:=df_ b2
 clear b2
 have h9:=ob_ h
 clear h
 obtain ⟨t3,e3,h⟩:=h9
 by_cases b3:t3<0
 case pos =>
  rw [if_pos b3] at h
  have z3:decide (t3<0)=true:=dt_ b3
  clear b3
  obtain rfl:=oi_ h
  clear h
  go_enter Try.func19,Try.ntmps19
  go_wp2_with (first|(go_at_call 43;(with_reducible refine (Q2.out _ _ _ e2 (E.out _ HB1).2).mono ?_);rintro e w2 ⟨rfl,hb⟩;have HB2:=A_ (HB1.out.trans (hb.mono HB1.out.size));have x2:=(E.out _ HB2).1 3 (.slice A0_3 n3 c0_3) rfl;clear hb)|(go_at_call 43;(with_reducible refine (Q3.out _ _ _ e3 (E.out _ HB2).2).mono ?_);rintro e w3 ⟨rfl,hb⟩;have HB3:=A_ (HB2.out.trans (hb.mono HB2.out.size));have x3:=(E.out _ HB3).1 4 (.slice A0_4 n4 c0_4) rfl;clear hb))
  go_ret
  exact ⟨rfl,(E.out _ HB3).2⟩
 rw [if_neg b3] at h
 have z3:decide (t3<0)=false:=df_ b3
 clear b3
 have h9:=ob_ h
 clear h
 obtain ⟨t4,e4,h⟩:=h9
 by_cases b4:t4<0
 case pos =>
  rw [if_pos b4] at h
  have z4:decide (t4<0)=true:=dt_ b4
  clear b4
  obtain rfl:=oi_ h
  clear h
  go_enter Try.func19,Try.ntmps19
  go_wp2_with (first|(go_at_call 43;(with_reducible refine (Q2.out _ _ _ e2 (E.out _ HB1).2).mono ?_);rintro e w2 ⟨rfl,hb⟩;have HB2:=A_ (HB1.out.trans (hb.mono HB1.out.size));have x2:=(E.out _ HB2).1 3 (.slice A0_3 n3 c0_3) rfl;clear hb)|(go_at_call 43;(with_reducible refine (Q3.out _ _ _ e3 (E.out _ HB2).2).mono ?_);rintro e w3 ⟨rfl,hb⟩;have HB3:=A_ (HB2.out.trans (hb.mono HB2.out.size));have x3:=(E.out _ HB3).1 4 (.slice A0_4 n4 c0_4) rfl;clear hb)|(go_at_call 43;(with_reducible refine (Q4.out _ _ _ e4 (E.out _ HB3).2).mono ?_);rintro e w4 ⟨rfl,hb⟩;have HB4:=A_ (HB3.out.trans (hb.mono HB3.out.size));have x4:=(E.out _ HB4).1 5 (.slice A0_5 n5 c0_5) rfl;clear hb))
  go_ret
  exact ⟨rfl,(E.out _ HB4).2⟩
 rw [if_neg b4] at h
 have z4:decide (t4<0)=false:=df_ b4
 clear b4
 have h9:=ob_ h
 clear h
 obtain ⟨t5,e5,h⟩:=h9
 by_cases b5:t5<0
 case pos =>
  rw [if_pos b5] at h
  have z5:decide (t5<0)=true:=dt_ b5
  clear b5
  obtain rfl:=oi_ h
  clear h
  go_enter Try.func19,Try.ntmps19
  go_wp2_with (first|(go_at_call 43;(with_reducible refine (Q2.out _ _ _ e2 (E.out _ HB1).2).mono ?_);rintro e w2 ⟨rfl,hb⟩;have HB2:=A_ (HB1.out.trans (hb.mono HB1.out.size));have x2:=(E.out _ HB2).1 3 (.slice A0_3 n3 c0_3) rfl;clear hb)|(go_at_call 43;(with_reducible refine (Q3.out _ _ _ e3 (E.out _ HB2).2).mono ?_);rintro e w3 ⟨rfl,hb⟩;have HB3:=A_ (HB2.out.trans (hb.mono HB2.out.size));have x3:=(E.out _ HB3).1 4 (.slice A0_4 n4 c0_4) rfl;clear hb)|(go_at_call 43;(with_reducible refine (Q4.out _ _ _ e4 (E.out _ HB3).2).mono ?_);rintro e w4 ⟨rfl,hb⟩;have HB4:=A_ (HB3.out.trans (hb.mono HB3.out.size));have x4:=(E.out _ HB4).1 5 (.slice A0_5 n5 c0_5) rfl;clear hb)|(go_at_call 44;(with_reducible refine (Q5.out _ _ _ e5 (E.out _ HB4).2).mono ?_);rintro e w5 ⟨rfl,hb⟩;have HB5:=A_ (HB4.out.trans (hb.mono HB4.out.size));have x5:=(E.out _ HB5).1 6 (.slice A0_6 n6 c0_6) rfl;clear hb))
  go_ret
  exact ⟨rfl,(E.out _ HB5).2⟩
 rw [if_neg b5] at h
 have z5:decide (t5<0)=false:=df_ b5
 clear b5
 have h9:=ob_ h
 clear h
 obtain ⟨t6,e6,h⟩:=h9
 by_cases b6:t6<0
 case pos =>
  rw [if_pos b6] at h
  have z6:decide (t6<0)=true:=dt_ b6
  clear b6
  obtain rfl:=oi_ h
  clear h
  go_enter Try.func19,Try.ntmps19
  go_wp2_with (first|(go_at_call 43;(with_reducible refine (Q2.out _ _ _ e2 (E.out _ HB1).2).mono ?_);rintro e w2 ⟨rfl,hb⟩;have HB2:=A_ (HB1.out.trans (hb.mono HB1.out.size));have x2:=(E.out _ HB2).1 3 (.slice A0_3 n3 c0_3) rfl;clear hb)|(go_at_call 43;(with_reducible refine (Q3.out _ _ _ e3 (E.out _ HB2).2).mono ?_);rintro e w3 ⟨rfl,hb⟩;have HB3:=A_ (HB2.out.trans (hb.mono HB2.out.size));have x3:=(E.out _ HB3).1 4 (.slice A0_4 n4 c0_4) rfl;clear hb)|(go_at_call 43;(with_reducible refine (Q4.out _ _ _ e4 (E.out _ HB3).2).mono ?_);rintro e w4 ⟨rfl,hb⟩;have HB4:=A_ (HB3.out.trans (hb.mono HB3.out.size));have x4:=(E.out _ HB4).1 5 (.slice A0_5 n5 c0_5) rfl;clear hb)|(go_at_call 44;(with_reducible refine (Q5.out _ _ _ e5 (E.out _ HB4).2).mono ?_);rintro e w5 ⟨rfl,hb⟩;have HB5:=A_ (HB4.out.trans (hb.mono HB4.out.size));have x5:=(E.out _ HB5).1 6 (.slice A0_6 n6 c0_6) rfl;clear hb)|(go_at_call 44;(with_reducible refine (Q6.out _ _ _ e6 (E.out _ HB5).2).mono ?_);rintro e w6 ⟨rfl,hb⟩;have HB6:=A_ (HB5.out.trans (hb.mono HB5.out.size));clear hb))
  go_ret
  exact ⟨rfl,(E.out _ HB6).2⟩
 rw [if_neg b6] at h
 have z6:decide (t6<0)=false:=df_ b6
 clear b6
 obtain rfl:=oi_ h
 clear h
 go_enter Try.func19,Try.ntmps19
 go_wp2_with (first|(go_at_call 43;(with_reducible refine (Q2.out _ _ _ e2 (E.out _ HB1).2).mono ?_);rintro e w2 ⟨rfl,hb⟩;have HB2:=A_ (HB1.out.trans (hb.mono HB1.out.size));have x2:=(E.out _ HB2).1 3 (.slice A0_3 n3 c0_3) rfl;clear hb)|(go_at_call 43;(with_reducible refine (Q3.out _ _ _ e3 (E.out _ HB2).2).mono ?_);rintro e w3 ⟨rfl,hb⟩;have HB3:=A_ (HB2.out.trans (hb.mono HB2.out.size));have x3:=(E.out _ HB3).1 4 (.slice A0_4 n4 c0_4) rfl;clear hb)|(go_at_call 43;(with_reducible refine (Q4.out _ _ _ e4 (E.out _ HB3).2).mono ?_);rintro e w4 ⟨rfl,hb⟩;have HB4:=A_ (HB3.out.trans (hb.mono HB3.out.size));have x4:=(E.out _ HB4).1 5 (.slice A0_5 n5 c0_5) rfl;clear hb)|(go_at_call 44;(with_reducible refine (Q5.out _ _ _ e5 (E.out _ HB4).2).mono ?_);rintro e w5 ⟨rfl,hb⟩;have HB5:=A_ (HB4.out.trans (hb.mono HB4.out.size));have x5:=(E.out _ HB5).1 6 (.slice A0_6 n6 c0_6) rfl;clear hb)|(go_at_call 44;(with_reducible refine (Q6.out _ _ _ e6 (E.out _ HB5).2).mono ?_);rintro e w6 ⟨rfl,hb⟩;have HB6:=A_ (HB5.out.trans (hb.mono HB5.out.size));clear hb))
 go_ret
 exact ⟨rfl,(E.out _ HB6).2⟩
/-! ### laws_szAttr: function 20 -/
def laws_szAttr.f (a0_0:ByteArray) (a0_1:ByteArray) (a1:Int):Option (Int):=if (wrap64 (a1 - (a0_0.size:Int)))<0 then (some (-1)) else (if (wrap64 ((wrap64 (a1 - (a0_0.size:Int))) - (a0_1.size:Int)))<0 then (some (-1)) else (some (wrap64 ((wrap64 (a1 - (a0_0.size:Int))) - (a0_1.size:Int)))))
set_option maxHeartbeats 8000000 in
set_option maxRecDepth 100000 in
theorem laws_szAttr.calls (a0_0:ByteArray) (a0_1:ByteArray) (a1:Int) (r:Int) (w:World) (h:laws_szAttr.f a0_0 a0_1 a1=some r) :
 Calls Try.prog 20 #[.agg #[.string a0_0,.string a0_1],.int .i64 a1] w fun e w'=>e=.returned (.int .i64 r)∧Below w.heap.size w w':=by
 have hu45:=Try.underlying45
 have HB:=A_ (Below.refl w.heap.size w)
 have H:(if (wrap64 (a1 - (a0_0.size:Int)))<0 then (some (-1)) else (if (wrap64 ((wrap64 (a1 - (a0_0.size:Int))) - (a0_1.size:Int)))<0 then (some (-1)) else (some (wrap64 ((wrap64 (a1 - (a0_0.size:Int))) - (a0_1.size:Int))))))=some r:=h
 clear h
 by_cases c3:(wrap64 (a1 - (a0_0.size:Int)))<0
 ·rw [if_pos c3] at H
  have c3b0:decide ((wrap64 (a1 - (a0_0.size:Int)))<0)=true:=dt_ c3
  clear c3
  obtain rfl:=oi_ H
  go_enter Try.func20,Try.ntmps20
  go_wp2_with (first|((with_reducible refine gate_dst (N:=2) rfl ?_);refine box_event ?hg (N:=2) ?hd (cs:=#[.string a0_0,.string a0_1]) (t:=45) ?hr ?_;(case hd=>rfl);(case hg=>rfl);(case hr=>first|(go_simp;done)|(go_simp;rfl));intro gb114 hg w4 hbox hb;have n0_:=A_ (bp_ (by repeat (first|(with_reducible first|exact HB.out|apply ba_|apply pd_|apply b1_)|exact HB.out)) hb);have n1_:=A_ (hbox);have n2_:=A_ ((by rw [hg];exact (bz_ (by repeat (first|(with_reducible first|exact HB.out|apply ba_|apply pd_|apply b1_)|exact HB.out))):w.heap.size≤gb114));have n3_:=A_ ((by rw [hg];exact (bz_ (by repeat (first|(with_reducible first|exact HB.out|apply ba_|apply pd_|apply b1_)|exact HB.out))):w.heap.size≤gb114));clear HB;have HB:=n0_;have BK114:=n1_;have GW114:=n2_;have GE114:=n3_;clear n0_ n1_ n2_ n3_;clear hb hbox hg;have hcz5_0:w4.cell? ⟨gb114,0,none⟩=some (.string a0_0):=(bc_ BK114.out 0).trans rfl;have hcz5_1:w4.cell? ⟨gb114,1,none⟩=some (.string a0_1):=(bc_ BK114.out 1).trans rfl;have hfz5_0:=bf_ BK114.out 0;have hfz5_1:=bf_ BK114.out 1))
  go_ret
  exact ⟨by first|rfl|(simp [errW_none,errW_some] <;> rfl)|(simp [*,errW_none,errW_some] <;> rfl),by repeat (first|(with_reducible first|exact HB.out|apply ba_|apply pd_|apply b1_|refine bs_ ?_ GE114.out)|exact HB.out)⟩
 ·rw [if_neg c3] at H
  have c3b0:decide ((wrap64 (a1 - (a0_0.size:Int)))<0)=false:=df_ c3
  clear c3
  by_cases c6:(wrap64 ((wrap64 (a1 - (a0_0.size:Int))) - (a0_1.size:Int)))<0
  ·rw [if_pos c6] at H
   have c6b0:decide ((wrap64 ((wrap64 (a1 - (a0_0.size:Int))) - (a0_1.size:Int)))<0)=true:=dt_ c6
   clear c6
   obtain rfl:=oi_ H
   go_enter Try.func20,Try.ntmps20
   go_wp2_with (first|((with_reducible refine gate_dst (N:=2) rfl ?_);refine box_event ?hg (N:=2) ?hd (cs:=#[.string a0_0,.string a0_1]) (t:=45) ?hr ?_;(case hd=>rfl);(case hg=>rfl);(case hr=>first|(go_simp;done)|(go_simp;rfl));intro gb114 hg w7 hbox hb;have n0_:=A_ (bp_ (by repeat (first|(with_reducible first|exact HB.out|apply ba_|apply pd_|apply b1_)|exact HB.out)) hb);have n1_:=A_ (hbox);have n2_:=A_ ((by rw [hg];exact (bz_ (by repeat (first|(with_reducible first|exact HB.out|apply ba_|apply pd_|apply b1_)|exact HB.out))):w.heap.size≤gb114));have n3_:=A_ ((by rw [hg];exact (bz_ (by repeat (first|(with_reducible first|exact HB.out|apply ba_|apply pd_|apply b1_)|exact HB.out))):w.heap.size≤gb114));clear HB;have HB:=n0_;have BK114:=n1_;have GW114:=n2_;have GE114:=n3_;clear n0_ n1_ n2_ n3_;clear hb hbox hg;have hcz8_0:w7.cell? ⟨gb114,0,none⟩=some (.string a0_0):=(bc_ BK114.out 0).trans rfl;have hcz8_1:w7.cell? ⟨gb114,1,none⟩=some (.string a0_1):=(bc_ BK114.out 1).trans rfl;have hfz8_0:=bf_ BK114.out 0;have hfz8_1:=bf_ BK114.out 1))
   go_ret
   exact ⟨by first|rfl|(simp [errW_none,errW_some] <;> rfl)|(simp [*,errW_none,errW_some] <;> rfl),by repeat (first|(with_reducible first|exact HB.out|apply ba_|apply pd_|apply b1_|refine bs_ ?_ GE114.out)|exact HB.out)⟩
  ·rw [if_neg c6] at H
   have c6b0:decide ((wrap64 ((wrap64 (a1 - (a0_0.size:Int))) - (a0_1.size:Int)))<0)=false:=df_ c6
   clear c6
   obtain rfl:=oi_ H
   go_enter Try.func20,Try.ntmps20
   go_wp2_with (first|((with_reducible refine gate_dst (N:=2) rfl ?_);refine box_event ?hg (N:=2) ?hd (cs:=#[.string a0_0,.string a0_1]) (t:=45) ?hr ?_;(case hd=>rfl);(case hg=>rfl);(case hr=>first|(go_simp;done)|(go_simp;rfl));intro gb114 hg w9 hbox hb;have n0_:=A_ (bp_ (by repeat (first|(with_reducible first|exact HB.out|apply ba_|apply pd_|apply b1_)|exact HB.out)) hb);have n1_:=A_ (hbox);have n2_:=A_ ((by rw [hg];exact (bz_ (by repeat (first|(with_reducible first|exact HB.out|apply ba_|apply pd_|apply b1_)|exact HB.out))):w.heap.size≤gb114));have n3_:=A_ ((by rw [hg];exact (bz_ (by repeat (first|(with_reducible first|exact HB.out|apply ba_|apply pd_|apply b1_)|exact HB.out))):w.heap.size≤gb114));clear HB;have HB:=n0_;have BK114:=n1_;have GW114:=n2_;have GE114:=n3_;clear n0_ n1_ n2_ n3_;clear hb hbox hg;have hcz10_0:w9.cell? ⟨gb114,0,none⟩=some (.string a0_0):=(bc_ BK114.out 0).trans rfl;have hcz10_1:w9.cell? ⟨gb114,1,none⟩=some (.string a0_1):=(bc_ BK114.out 1).trans rfl;have hfz10_0:=bf_ BK114.out 0;have hfz10_1:=bf_ BK114.out 1))
   go_ret
   exact ⟨by first|rfl|(simp [errW_none,errW_some] <;> rfl)|(simp [*,errW_none,errW_some] <;> rfl),by repeat (first|(with_reducible first|exact HB.out|apply ba_|apply pd_|apply b1_|refine bs_ ?_ GE114.out)|exact HB.out)⟩
/-! ### spec_l01In: function 60 -/
def spec_l01In.f (a0:Int) (a1:Int) (a2:Int):Option (Bool):=if a0≥a1 then (some (decide (a0≤a2))) else (some false)
set_option maxHeartbeats 8000000 in
set_option maxRecDepth 100000 in
theorem spec_l01In.calls (a0:Int) (a1:Int) (a2:Int) (r:Bool) (w:World) (h:spec_l01In.f a0 a1 a2=some r) :
 Calls Try.prog 60 #[.int .i64 a0,.int .i64 a1,.int .i64 a2] w fun e w'=>e=.returned (.bool r)∧Drawn0 w w':=by
 have H:(if a0≥a1 then (some (decide (a0≤a2))) else (some false))=some r:=h
 clear h
 by_cases c4:a0≥a1
 ·rw [if_pos c4] at H
  have c4b0:decide (a1≤a0)=true:=dt_ c4
  clear c4
  obtain rfl:=oi_ H
  go_enter Try.func60,Try.ntmps60
  go_wp2
  go_ret
  exact ⟨by first|rfl|(simp;done)|(simp [*];done),by repeat (first|exact dr_ _|apply dp_)⟩
 ·rw [if_neg c4] at H
  have c4b0:decide (a1≤a0)=false:=df_ c4
  clear c4
  obtain rfl:=oi_ H
  go_enter Try.func60,Try.ntmps60
  go_wp2
  go_ret
  exact ⟨by first|rfl|(simp;done)|(simp [*];done),by repeat (first|exact dr_ _|apply dp_)⟩
/-! ### spec_l00Digit: function 84 -/
def spec_l00Digit.f (a0:Int):Option (Bool):=if a0≥48 then (some (decide (a0≤57))) else (some false)
set_option maxHeartbeats 8000000 in
set_option maxRecDepth 100000 in
theorem spec_l00Digit.calls (a0:Int) (r:Bool) (w:World) (h:spec_l00Digit.f a0=some r) :
 Calls Try.prog 84 #[.int .u8 a0] w fun e w'=>e=.returned (.bool r)∧Drawn0 w w':=by
 have H:(if a0≥48 then (some (decide (a0≤57))) else (some false))=some r:=h
 clear h
 by_cases c2:a0≥48
 ·rw [if_pos c2] at H
  have c2b0:decide (48≤a0)=true:=dt_ c2
  clear c2
  obtain rfl:=oi_ H
  go_enter Try.func84,Try.ntmps84
  go_wp2
  go_ret
  exact ⟨by first|rfl|(simp;done)|(simp [*];done),by repeat (first|exact dr_ _|apply dp_)⟩
 ·rw [if_neg c2] at H
  have c2b0:decide (48≤a0)=false:=df_ c2
  clear c2
  obtain rfl:=oi_ H
  go_enter Try.func84,Try.ntmps84
  go_wp2
  go_ret
  exact ⟨by first|rfl|(simp;done)|(simp [*];done),by repeat (first|exact dr_ _|apply dp_)⟩
end Go.Proofs.Ytmeafbneklphnaa.PFnExactAllowsAttr
