/- By a program of this session, out of the kit's print and contracts made by hand: the machine side of a law; Lean checks it. No conditions. -/
import Derived.Test.YtmeafbneklphnaaPFnExactAllowsAttrx0
import Derived.Test.YtmeafbneklphnaaPFnExactAllowsAttrx7
import Derived.Test.YtmeafbneklphnaaPFnExactAllowsAttrx12
import Derived.Test.YtmeafbneklphnaaPFnExactAllowsAttrx13
import Derived.Test.YtmeafbneklphnaaPFnExactAllowsAttrx14
namespace Go.Proofs.Ytmeafbneklphnaa.PFnExactAllowsAttr
open Go.RowKit Go.Proofs.YtmeafbneklphnaaW.PrintWords Go.Proofs.YtmeafbneklphnaaW.PrintLast Go.Proofs.YtmeafbneklphnaaW.PrintMore
attribute [local go_sem] max2_int min2_int max_two min_two max_three min_three max_four min_four
set_option linter.unusedVariables false
set_option linter.unusedSimpArgs false
/-! ### impl_CheckConfig: function 79, by hand -/
def impl_CheckConfig.f (k:Nat) (a0_0 a0_1:Bool) (l0_2 l0_3 l0_4:List S56) (l0_5 l0_6:List ByteArray) (a0_7 a0_8:Bool):Option Int :=
 (impl_areRules.f k l0_2).bind fun b1=>if b1=true then (impl_areRules.f k l0_3).bind fun b2=>if b2=true then (impl_areRules.f k l0_4).bind fun b3=>if b3=true then (impl_haveAttrs.f l0_3).bind fun b4=>if b4=true then some 1 else (impl_haveAttrs.f l0_4).bind fun b5=>if b5=true then some 1 else (impl_areNames.f l0_5).bind fun b6=>if b6=true then (impl_areNames.f l0_6).bind fun b7=>if b7=true then (impl_Config_isAgainst.f a0_0 a0_1 l0_2 l0_3 l0_4 l0_5 l0_6 a0_7 a0_8).bind fun b8=>if b8=true then some 13 else some 0 else some 1 else some 1 else some 1 else some 1 else some 1
theorem impl_CheckConfig.mono:∀ a0 a1 a2 a3 a4 a5 a6 a7 a8 k,LeO (impl_CheckConfig.f k a0 a1 a2 a3 a4 a5 a6 a7 a8) (impl_CheckConfig.f (k+1) a0 a1 a2 a3 a4 a5 a6 a7 a8):=by
 intro a0 a1 a2 a3 a4 a5 a6 a7 a8 k
 unfold impl_CheckConfig.f
 repeat' first
  | (with_reducible exact impl_areRules.mono _ _)
  | (with_reducible exact LeO.refl _)
  | (with_reducible refine LeO.ite ?_ ?_)
  | (with_reducible refine LeO.bind ?_ (fun _=>?_))
  | exact impl_areRules.mono _ _
  | refine LeO.ite ?_ ?_
  | refine LeO.bind ?_ (fun _=>?_)
theorem oneNew {w V:World} {c:Array Value} {t:TypeId} (h:Below (w.alloc (.cells c t)).heap.size (w.alloc (.cells c t)) V):(∀ i v,c[i]? = some v→V.cell? ⟨w.heap.size,i,none⟩=some v)∧Below w.heap.size w V:=by
 have hb:=ba_ (Below.refl w.heap.size w) (.cells c t)
 exact ⟨fun i v hv=>pc_ h (by have h1:c[i]? = some v:=hv;simp [h1]),hb.trans (h.mono hb.size)⟩
set_option maxHeartbeats 8000000 in
set_option maxRecDepth 100000 in
theorem impl_CheckConfig.calls (k:Nat) (a0_0 a0_1:Bool) (A0_2:Option Addr) (c0_2:Nat) (l0_2:List S56) (A0_3:Option Addr) (c0_3:Nat) (l0_3:List S56) (A0_4:Option Addr) (c0_4:Nat) (l0_4:List S56) (A0_5:Option Addr) (c0_5:Nat) (l0_5:List ByteArray) (A0_6:Option Addr) (c0_6:Nat) (l0_6:List ByteArray) (a0_7 a0_8:Bool) (r:Int) (w:World) (hr0_2:Kd.C k56 w A0_2 l0_2.length l0_2) (hc0_2:l0_2.length≤c0_2) (hr0_3:Kd.C k56 w A0_3 l0_3.length l0_3) (hc0_3:l0_3.length≤c0_3) (hr0_4:Kd.C k56 w A0_4 l0_4.length l0_4) (hc0_4:l0_4.length≤c0_4) (hr0_5:Kd.C Kd.string w A0_5 l0_5.length l0_5) (hc0_5:l0_5.length≤c0_5) (hr0_6:Kd.C Kd.string w A0_6 l0_6.length l0_6) (hc0_6:l0_6.length≤c0_6) (h:impl_CheckConfig.f k a0_0 a0_1 l0_2 l0_3 l0_4 l0_5 l0_6 a0_7 a0_8=some r) :
 Calls Try.prog 79 #[.agg #[.bool a0_0,.bool a0_1,.slice A0_2 l0_2.length c0_2,.slice A0_3 l0_3.length c0_3,.slice A0_4 l0_4.length c0_4,.slice A0_5 l0_5.length c0_5,.slice A0_6 l0_6.length c0_6,.bool a0_7,.bool a0_8]] w fun e w'=>e=.returned (.int .i64 r)∧Below w.heap.size w w':=by
 unfold impl_CheckConfig.f at h
 have HB0:=A_ (Below.refl (w.alloc (.cells #[.bool a0_0,.bool a0_1,.slice A0_2 l0_2.length c0_2,.slice A0_3 l0_3.length c0_3,.slice A0_4 l0_4.length c0_4,.slice A0_5 l0_5.length c0_5,.slice A0_6 l0_6.length c0_6,.bool a0_7,.bool a0_8] 25)).heap.size (w.alloc (.cells #[.bool a0_0,.bool a0_1,.slice A0_2 l0_2.length c0_2,.slice A0_3 l0_3.length c0_3,.slice A0_4 l0_4.length c0_4,.slice A0_5 l0_5.length c0_5,.slice A0_6 l0_6.length c0_6,.bool a0_7,.bool a0_8] 25)))
 have E:=fun V (h:Aside0 (Below (w.alloc (.cells #[.bool a0_0,.bool a0_1,.slice A0_2 l0_2.length c0_2,.slice A0_3 l0_3.length c0_3,.slice A0_4 l0_4.length c0_4,.slice A0_5 l0_5.length c0_5,.slice A0_6 l0_6.length c0_6,.bool a0_7,.bool a0_8] 25)).heap.size (w.alloc (.cells #[.bool a0_0,.bool a0_1,.slice A0_2 l0_2.length c0_2,.slice A0_3 l0_3.length c0_3,.slice A0_4 l0_4.length c0_4,.slice A0_5 l0_5.length c0_5,.slice A0_6 l0_6.length c0_6,.bool a0_7,.bool a0_8] 25)) V))=>oneNew h.out
 have E:=A_ E
 have Q1:Aside0 (∀ t V,impl_areRules.f k l0_2=some t→Below w.heap.size w V→Calls Try.prog 94 #[.slice A0_2 l0_2.length c0_2] V fun e w'=>e=.returned (.bool t)∧Below V.heap.size V w'):=⟨fun t V e hV=>impl_areRules.calls k A0_2 c0_2 l0_2 t V (cb_ hr0_2 hV) hc0_2 e⟩
 have Q2:Aside0 (∀ t V,impl_areRules.f k l0_3=some t→Below w.heap.size w V→Calls Try.prog 94 #[.slice A0_3 l0_3.length c0_3] V fun e w'=>e=.returned (.bool t)∧Below V.heap.size V w'):=⟨fun t V e hV=>impl_areRules.calls k A0_3 c0_3 l0_3 t V (cb_ hr0_3 hV) hc0_3 e⟩
 have Q3:Aside0 (∀ t V,impl_areRules.f k l0_4=some t→Below w.heap.size w V→Calls Try.prog 94 #[.slice A0_4 l0_4.length c0_4] V fun e w'=>e=.returned (.bool t)∧Below V.heap.size V w'):=⟨fun t V e hV=>impl_areRules.calls k A0_4 c0_4 l0_4 t V (cb_ hr0_4 hV) hc0_4 e⟩
 have Q4:Aside0 (∀ t V,impl_haveAttrs.f l0_3=some t→Below w.heap.size w V→Calls Try.prog 95 #[.slice A0_3 l0_3.length c0_3] V fun e w'=>e=.returned (.bool t)∧Below V.heap.size V w'):=⟨fun t V e hV=>impl_haveAttrs.calls A0_3 c0_3 l0_3 t V (cb_ hr0_3 hV) hc0_3 e⟩
 have Q5:Aside0 (∀ t V,impl_haveAttrs.f l0_4=some t→Below w.heap.size w V→Calls Try.prog 95 #[.slice A0_4 l0_4.length c0_4] V fun e w'=>e=.returned (.bool t)∧Below V.heap.size V w'):=⟨fun t V e hV=>impl_haveAttrs.calls A0_4 c0_4 l0_4 t V (cb_ hr0_4 hV) hc0_4 e⟩
 have Q6:Aside0 (∀ t V,impl_areNames.f l0_5=some t→Below w.heap.size w V→Calls Try.prog 96 #[.slice A0_5 l0_5.length c0_5] V fun e w'=>e=.returned (.bool t)∧Below V.heap.size V w'):=⟨fun t V e hV=>(impl_areNames.calls A0_5 c0_5 l0_5 t V (cb_ hr0_5 hV) hc0_5 e).mono fun e w' ⟨he,hd⟩=>⟨he,hd.below⟩⟩
 have Q7:Aside0 (∀ t V,impl_areNames.f l0_6=some t→Below w.heap.size w V→Calls Try.prog 96 #[.slice A0_6 l0_6.length c0_6] V fun e w'=>e=.returned (.bool t)∧Below V.heap.size V w'):=⟨fun t V e hV=>(impl_areNames.calls A0_6 c0_6 l0_6 t V (cb_ hr0_6 hV) hc0_6 e).mono fun e w' ⟨he,hd⟩=>⟨he,hd.below⟩⟩
 have Q8:Aside0 (∀ t V,impl_Config_isAgainst.f a0_0 a0_1 l0_2 l0_3 l0_4 l0_5 l0_6 a0_7 a0_8=some t→Below w.heap.size w V→Calls Try.prog 97 #[.agg #[.bool a0_0,.bool a0_1,.slice A0_2 l0_2.length c0_2,.slice A0_3 l0_3.length c0_3,.slice A0_4 l0_4.length c0_4,.slice A0_5 l0_5.length c0_5,.slice A0_6 l0_6.length c0_6,.bool a0_7,.bool a0_8]] V fun e w'=>e=.returned (.bool t)∧Below V.heap.size V w'):=⟨fun t V e hV=>impl_Config_isAgainst.calls a0_0 a0_1 A0_2 c0_2 l0_2 A0_3 c0_3 l0_3 A0_4 c0_4 l0_4 A0_5 c0_5 l0_5 A0_6 c0_6 l0_6 a0_7 a0_8 t V (cb_ hr0_2 hV) hc0_2 (cb_ hr0_3 hV) hc0_3 (cb_ hr0_4 hV) hc0_4 (cb_ hr0_5 hV) hc0_5 (cb_ hr0_6 hV) hc0_6 e⟩
 clear hr0_2 hc0_2 hr0_3 hc0_3 hr0_4 hc0_4 hr0_5 hc0_5 hr0_6 hc0_6
 generalize l0_2.length=n2 at *
 generalize l0_3.length=n3 at *
 generalize l0_4.length=n4 at *
 generalize l0_5.length=n5 at *
 generalize l0_6.length=n6 at *
 have h9:=ob_ h
 clear h
 obtain ⟨t1,e1,h⟩:=h9
 cases t1
 case false =>
  rw [if_neg Bool.false_ne_true] at h
  obtain rfl:=oi_ h
  clear h
  go_enter Try.func79,Try.ntmps79
  go_wp2_with (first|(go_at_call 94;(with_reducible refine (Q1.out _ _ e1 (E.out _ HB0).2).mono ?_);rintro e w1 ⟨rfl,hb⟩;have HB1:=A_ (HB0.out.trans (hb.mono HB0.out.size));have x13:=(E.out _ HB1).1 3 (.slice A0_3 n3 c0_3) rfl;clear hb))
  go_ret
  exact ⟨rfl,(E.out _ HB1).2⟩
 rw [if_pos rfl] at h
 have h9:=ob_ h
 clear h
 obtain ⟨t2,e2,h⟩:=h9
 cases t2
 case false =>
  rw [if_neg Bool.false_ne_true] at h
  obtain rfl:=oi_ h
  clear h
  go_enter Try.func79,Try.ntmps79
  go_wp2_with (first|(go_at_call 94;(with_reducible refine (Q1.out _ _ e1 (E.out _ HB0).2).mono ?_);rintro e w1 ⟨rfl,hb⟩;have HB1:=A_ (HB0.out.trans (hb.mono HB0.out.size));have x13:=(E.out _ HB1).1 3 (.slice A0_3 n3 c0_3) rfl;clear hb)|(go_at_call 94;(with_reducible refine (Q2.out _ _ e2 (E.out _ HB1).2).mono ?_);rintro e w2 ⟨rfl,hb⟩;have HB2:=A_ (HB1.out.trans (hb.mono HB1.out.size));have x24:=(E.out _ HB2).1 4 (.slice A0_4 n4 c0_4) rfl;clear hb))
  go_ret
  exact ⟨rfl,(E.out _ HB2).2⟩
 rw [if_pos rfl] at h
 have h9:=ob_ h
 clear h
 obtain ⟨t3,e3,h⟩:=h9
 cases t3
 case false =>
  rw [if_neg Bool.false_ne_true] at h
  obtain rfl:=oi_ h
  clear h
  go_enter Try.func79,Try.ntmps79
  go_wp2_with (first|(go_at_call 94;(with_reducible refine (Q1.out _ _ e1 (E.out _ HB0).2).mono ?_);rintro e w1 ⟨rfl,hb⟩;have HB1:=A_ (HB0.out.trans (hb.mono HB0.out.size));have x13:=(E.out _ HB1).1 3 (.slice A0_3 n3 c0_3) rfl;clear hb)|(go_at_call 94;(with_reducible refine (Q2.out _ _ e2 (E.out _ HB1).2).mono ?_);rintro e w2 ⟨rfl,hb⟩;have HB2:=A_ (HB1.out.trans (hb.mono HB1.out.size));have x24:=(E.out _ HB2).1 4 (.slice A0_4 n4 c0_4) rfl;clear hb)|(go_at_call 94;(with_reducible refine (Q3.out _ _ e3 (E.out _ HB2).2).mono ?_);rintro e w3 ⟨rfl,hb⟩;have HB3:=A_ (HB2.out.trans (hb.mono HB2.out.size));have x33:=(E.out _ HB3).1 3 (.slice A0_3 n3 c0_3) rfl;clear hb))
  go_ret
  exact ⟨rfl,(E.out _ HB3).2⟩
 rw [if_pos rfl] at h
 have h9:=ob_ h
 clear h
 obtain ⟨t4,e4,h⟩:=h9
 cases t4
 case true =>
  rw [if_pos rfl] at h
  obtain rfl:=oi_ h
  clear h
  go_enter Try.func79,Try.ntmps79
  go_wp2_with (first|(go_at_call 94;(with_reducible refine (Q1.out _ _ e1 (E.out _ HB0).2).mono ?_);rintro e w1 ⟨rfl,hb⟩;have HB1:=A_ (HB0.out.trans (hb.mono HB0.out.size));have x13:=(E.out _ HB1).1 3 (.slice A0_3 n3 c0_3) rfl;clear hb)|(go_at_call 94;(with_reducible refine (Q2.out _ _ e2 (E.out _ HB1).2).mono ?_);rintro e w2 ⟨rfl,hb⟩;have HB2:=A_ (HB1.out.trans (hb.mono HB1.out.size));have x24:=(E.out _ HB2).1 4 (.slice A0_4 n4 c0_4) rfl;clear hb)|(go_at_call 94;(with_reducible refine (Q3.out _ _ e3 (E.out _ HB2).2).mono ?_);rintro e w3 ⟨rfl,hb⟩;have HB3:=A_ (HB2.out.trans (hb.mono HB2.out.size));have x33:=(E.out _ HB3).1 3 (.slice A0_3 n3 c0_3) rfl;clear hb)|(go_at_call 95;(with_reducible refine (Q4.out _ _ e4 (E.out _ HB3).2).mono ?_);rintro e w4 ⟨rfl,hb⟩;have HB4:=A_ (HB3.out.trans (hb.mono HB3.out.size));have x44:=(E.out _ HB4).1 4 (.slice A0_4 n4 c0_4) rfl;clear hb))
  go_ret
  exact ⟨rfl,(E.out _ HB4).2⟩
 rw [if_neg Bool.false_ne_true] at h
 have h9:=ob_ h
 clear h
 obtain ⟨t5,e5,h⟩:=h9
 cases t5
 case true =>
  rw [if_pos rfl] at h
  obtain rfl:=oi_ h
  clear h
  go_enter Try.func79,Try.ntmps79
  go_wp2_with (first|(go_at_call 94;(with_reducible refine (Q1.out _ _ e1 (E.out _ HB0).2).mono ?_);rintro e w1 ⟨rfl,hb⟩;have HB1:=A_ (HB0.out.trans (hb.mono HB0.out.size));have x13:=(E.out _ HB1).1 3 (.slice A0_3 n3 c0_3) rfl;clear hb)|(go_at_call 94;(with_reducible refine (Q2.out _ _ e2 (E.out _ HB1).2).mono ?_);rintro e w2 ⟨rfl,hb⟩;have HB2:=A_ (HB1.out.trans (hb.mono HB1.out.size));have x24:=(E.out _ HB2).1 4 (.slice A0_4 n4 c0_4) rfl;clear hb)|(go_at_call 94;(with_reducible refine (Q3.out _ _ e3 (E.out _ HB2).2).mono ?_);rintro e w3 ⟨rfl,hb⟩;have HB3:=A_ (HB2.out.trans (hb.mono HB2.out.size));have x33:=(E.out _ HB3).1 3 (.slice A0_3 n3 c0_3) rfl;clear hb)|(go_at_call 95;(with_reducible refine (Q4.out _ _ e4 (E.out _ HB3).2).mono ?_);rintro e w4 ⟨rfl,hb⟩;have HB4:=A_ (HB3.out.trans (hb.mono HB3.out.size));have x44:=(E.out _ HB4).1 4 (.slice A0_4 n4 c0_4) rfl;clear hb)|(go_at_call 95;(with_reducible refine (Q5.out _ _ e5 (E.out _ HB4).2).mono ?_);rintro e w5 ⟨rfl,hb⟩;have HB5:=A_ (HB4.out.trans (hb.mono HB4.out.size));have x55:=(E.out _ HB5).1 5 (.slice A0_5 n5 c0_5) rfl;clear hb))
  go_ret
  exact ⟨rfl,(E.out _ HB5).2⟩
 rw [if_neg Bool.false_ne_true] at h
 have h9:=ob_ h
 clear h
 obtain ⟨t6,e6,h⟩:=h9
 cases t6
 case false =>
  rw [if_neg Bool.false_ne_true] at h
  obtain rfl:=oi_ h
  clear h
  go_enter Try.func79,Try.ntmps79
  go_wp2_with (first|(go_at_call 94;(with_reducible refine (Q1.out _ _ e1 (E.out _ HB0).2).mono ?_);rintro e w1 ⟨rfl,hb⟩;have HB1:=A_ (HB0.out.trans (hb.mono HB0.out.size));have x13:=(E.out _ HB1).1 3 (.slice A0_3 n3 c0_3) rfl;clear hb)|(go_at_call 94;(with_reducible refine (Q2.out _ _ e2 (E.out _ HB1).2).mono ?_);rintro e w2 ⟨rfl,hb⟩;have HB2:=A_ (HB1.out.trans (hb.mono HB1.out.size));have x24:=(E.out _ HB2).1 4 (.slice A0_4 n4 c0_4) rfl;clear hb)|(go_at_call 94;(with_reducible refine (Q3.out _ _ e3 (E.out _ HB2).2).mono ?_);rintro e w3 ⟨rfl,hb⟩;have HB3:=A_ (HB2.out.trans (hb.mono HB2.out.size));have x33:=(E.out _ HB3).1 3 (.slice A0_3 n3 c0_3) rfl;clear hb)|(go_at_call 95;(with_reducible refine (Q4.out _ _ e4 (E.out _ HB3).2).mono ?_);rintro e w4 ⟨rfl,hb⟩;have HB4:=A_ (HB3.out.trans (hb.mono HB3.out.size));have x44:=(E.out _ HB4).1 4 (.slice A0_4 n4 c0_4) rfl;clear hb)|(go_at_call 95;(with_reducible refine (Q5.out _ _ e5 (E.out _ HB4).2).mono ?_);rintro e w5 ⟨rfl,hb⟩;have HB5:=A_ (HB4.out.trans (hb.mono HB4.out.size));have x55:=(E.out _ HB5).1 5 (.slice A0_5 n5 c0_5) rfl;clear hb)|(go_at_call 96;(with_reducible refine (Q6.out _ _ e6 (E.out _ HB5).2).mono ?_);rintro e w6 ⟨rfl,hb⟩;have HB6:=A_ (HB5.out.trans (hb.mono HB5.out.size));have x66:=(E.out _ HB6).1 6 (.slice A0_6 n6 c0_6) rfl;clear hb))
  go_ret
  exact ⟨rfl,(E.out _ HB6).2⟩
 rw [if_pos rfl] at h
 have h9:=ob_ h
 clear h
 obtain ⟨t7,e7,h⟩:=h9
 cases t7
 case false =>
  rw [if_neg Bool.false_ne_true] at h
  obtain rfl:=oi_ h
  clear h
  go_enter Try.func79,Try.ntmps79
  go_wp2_with (first|(go_at_call 94;(with_reducible refine (Q1.out _ _ e1 (E.out _ HB0).2).mono ?_);rintro e w1 ⟨rfl,hb⟩;have HB1:=A_ (HB0.out.trans (hb.mono HB0.out.size));have x13:=(E.out _ HB1).1 3 (.slice A0_3 n3 c0_3) rfl;clear hb)|(go_at_call 94;(with_reducible refine (Q2.out _ _ e2 (E.out _ HB1).2).mono ?_);rintro e w2 ⟨rfl,hb⟩;have HB2:=A_ (HB1.out.trans (hb.mono HB1.out.size));have x24:=(E.out _ HB2).1 4 (.slice A0_4 n4 c0_4) rfl;clear hb)|(go_at_call 94;(with_reducible refine (Q3.out _ _ e3 (E.out _ HB2).2).mono ?_);rintro e w3 ⟨rfl,hb⟩;have HB3:=A_ (HB2.out.trans (hb.mono HB2.out.size));have x33:=(E.out _ HB3).1 3 (.slice A0_3 n3 c0_3) rfl;clear hb)|(go_at_call 95;(with_reducible refine (Q4.out _ _ e4 (E.out _ HB3).2).mono ?_);rintro e w4 ⟨rfl,hb⟩;have HB4:=A_ (HB3.out.trans (hb.mono HB3.out.size));have x44:=(E.out _ HB4).1 4 (.slice A0_4 n4 c0_4) rfl;clear hb)|(go_at_call 95;(with_reducible refine (Q5.out _ _ e5 (E.out _ HB4).2).mono ?_);rintro e w5 ⟨rfl,hb⟩;have HB5:=A_ (HB4.out.trans (hb.mono HB4.out.size));have x55:=(E.out _ HB5).1 5 (.slice A0_5 n5 c0_5) rfl;clear hb)|(go_at_call 96;(with_reducible refine (Q6.out _ _ e6 (E.out _ HB5).2).mono ?_);rintro e w6 ⟨rfl,hb⟩;have HB6:=A_ (HB5.out.trans (hb.mono HB5.out.size));have x66:=(E.out _ HB6).1 6 (.slice A0_6 n6 c0_6) rfl;clear hb)|(go_at_call 96;(with_reducible refine (Q7.out _ _ e7 (E.out _ HB6).2).mono ?_);rintro e w7 ⟨rfl,hb⟩;have HB7:=A_ (HB6.out.trans (hb.mono HB6.out.size));have x70:=(E.out _ HB7).1 0 (.bool a0_0) rfl;have x71:=(E.out _ HB7).1 1 (.bool a0_1) rfl;have x72:=(E.out _ HB7).1 2 (.slice A0_2 n2 c0_2) rfl;have x73:=(E.out _ HB7).1 3 (.slice A0_3 n3 c0_3) rfl;have x74:=(E.out _ HB7).1 4 (.slice A0_4 n4 c0_4) rfl;have x75:=(E.out _ HB7).1 5 (.slice A0_5 n5 c0_5) rfl;have x76:=(E.out _ HB7).1 6 (.slice A0_6 n6 c0_6) rfl;have x77:=(E.out _ HB7).1 7 (.bool a0_7) rfl;have x78:=(E.out _ HB7).1 8 (.bool a0_8) rfl;clear hb))
  go_ret
  exact ⟨rfl,(E.out _ HB7).2⟩
 rw [if_pos rfl] at h
 have h9:=ob_ h
 clear h
 obtain ⟨t8,e8,h⟩:=h9
 cases t8
 case true =>
  rw [if_pos rfl] at h
  obtain rfl:=oi_ h
  clear h
  go_enter Try.func79,Try.ntmps79
  go_wp2_with (first|(go_at_call 94;(with_reducible refine (Q1.out _ _ e1 (E.out _ HB0).2).mono ?_);rintro e w1 ⟨rfl,hb⟩;have HB1:=A_ (HB0.out.trans (hb.mono HB0.out.size));have x13:=(E.out _ HB1).1 3 (.slice A0_3 n3 c0_3) rfl;clear hb)|(go_at_call 94;(with_reducible refine (Q2.out _ _ e2 (E.out _ HB1).2).mono ?_);rintro e w2 ⟨rfl,hb⟩;have HB2:=A_ (HB1.out.trans (hb.mono HB1.out.size));have x24:=(E.out _ HB2).1 4 (.slice A0_4 n4 c0_4) rfl;clear hb)|(go_at_call 94;(with_reducible refine (Q3.out _ _ e3 (E.out _ HB2).2).mono ?_);rintro e w3 ⟨rfl,hb⟩;have HB3:=A_ (HB2.out.trans (hb.mono HB2.out.size));have x33:=(E.out _ HB3).1 3 (.slice A0_3 n3 c0_3) rfl;clear hb)|(go_at_call 95;(with_reducible refine (Q4.out _ _ e4 (E.out _ HB3).2).mono ?_);rintro e w4 ⟨rfl,hb⟩;have HB4:=A_ (HB3.out.trans (hb.mono HB3.out.size));have x44:=(E.out _ HB4).1 4 (.slice A0_4 n4 c0_4) rfl;clear hb)|(go_at_call 95;(with_reducible refine (Q5.out _ _ e5 (E.out _ HB4).2).mono ?_);rintro e w5 ⟨rfl,hb⟩;have HB5:=A_ (HB4.out.trans (hb.mono HB4.out.size));have x55:=(E.out _ HB5).1 5 (.slice A0_5 n5 c0_5) rfl;clear hb)|(go_at_call 96;(with_reducible refine (Q6.out _ _ e6 (E.out _ HB5).2).mono ?_);rintro e w6 ⟨rfl,hb⟩;have HB6:=A_ (HB5.out.trans (hb.mono HB5.out.size));have x66:=(E.out _ HB6).1 6 (.slice A0_6 n6 c0_6) rfl;clear hb)|(go_at_call 96;(with_reducible refine (Q7.out _ _ e7 (E.out _ HB6).2).mono ?_);rintro e w7 ⟨rfl,hb⟩;have HB7:=A_ (HB6.out.trans (hb.mono HB6.out.size));have x70:=(E.out _ HB7).1 0 (.bool a0_0) rfl;have x71:=(E.out _ HB7).1 1 (.bool a0_1) rfl;have x72:=(E.out _ HB7).1 2 (.slice A0_2 n2 c0_2) rfl;have x73:=(E.out _ HB7).1 3 (.slice A0_3 n3 c0_3) rfl;have x74:=(E.out _ HB7).1 4 (.slice A0_4 n4 c0_4) rfl;have x75:=(E.out _ HB7).1 5 (.slice A0_5 n5 c0_5) rfl;have x76:=(E.out _ HB7).1 6 (.slice A0_6 n6 c0_6) rfl;have x77:=(E.out _ HB7).1 7 (.bool a0_7) rfl;have x78:=(E.out _ HB7).1 8 (.bool a0_8) rfl;clear hb)|(go_at_call 97;(with_reducible refine (Q8.out _ _ e8 (E.out _ HB7).2).mono ?_);rintro e w8 ⟨rfl,hb⟩;have HB8:=A_ (HB7.out.trans (hb.mono HB7.out.size));clear hb))
  go_ret
  exact ⟨rfl,(E.out _ HB8).2⟩
 rw [if_neg Bool.false_ne_true] at h
 obtain rfl:=oi_ h
 clear h
 go_enter Try.func79,Try.ntmps79
 go_wp2_with (first|(go_at_call 94;(with_reducible refine (Q1.out _ _ e1 (E.out _ HB0).2).mono ?_);rintro e w1 ⟨rfl,hb⟩;have HB1:=A_ (HB0.out.trans (hb.mono HB0.out.size));have x13:=(E.out _ HB1).1 3 (.slice A0_3 n3 c0_3) rfl;clear hb)|(go_at_call 94;(with_reducible refine (Q2.out _ _ e2 (E.out _ HB1).2).mono ?_);rintro e w2 ⟨rfl,hb⟩;have HB2:=A_ (HB1.out.trans (hb.mono HB1.out.size));have x24:=(E.out _ HB2).1 4 (.slice A0_4 n4 c0_4) rfl;clear hb)|(go_at_call 94;(with_reducible refine (Q3.out _ _ e3 (E.out _ HB2).2).mono ?_);rintro e w3 ⟨rfl,hb⟩;have HB3:=A_ (HB2.out.trans (hb.mono HB2.out.size));have x33:=(E.out _ HB3).1 3 (.slice A0_3 n3 c0_3) rfl;clear hb)|(go_at_call 95;(with_reducible refine (Q4.out _ _ e4 (E.out _ HB3).2).mono ?_);rintro e w4 ⟨rfl,hb⟩;have HB4:=A_ (HB3.out.trans (hb.mono HB3.out.size));have x44:=(E.out _ HB4).1 4 (.slice A0_4 n4 c0_4) rfl;clear hb)|(go_at_call 95;(with_reducible refine (Q5.out _ _ e5 (E.out _ HB4).2).mono ?_);rintro e w5 ⟨rfl,hb⟩;have HB5:=A_ (HB4.out.trans (hb.mono HB4.out.size));have x55:=(E.out _ HB5).1 5 (.slice A0_5 n5 c0_5) rfl;clear hb)|(go_at_call 96;(with_reducible refine (Q6.out _ _ e6 (E.out _ HB5).2).mono ?_);rintro e w6 ⟨rfl,hb⟩;have HB6:=A_ (HB5.out.trans (hb.mono HB5.out.size));have x66:=(E.out _ HB6).1 6 (.slice A0_6 n6 c0_6) rfl;clear hb)|(go_at_call 96;(with_reducible refine (Q7.out _ _ e7 (E.out _ HB6).2).mono ?_);rintro e w7 ⟨rfl,hb⟩;have HB7:=A_ (HB6.out.trans (hb.mono HB6.out.size));have x70:=(E.out _ HB7).1 0 (.bool a0_0) rfl;have x71:=(E.out _ HB7).1 1 (.bool a0_1) rfl;have x72:=(E.out _ HB7).1 2 (.slice A0_2 n2 c0_2) rfl;have x73:=(E.out _ HB7).1 3 (.slice A0_3 n3 c0_3) rfl;have x74:=(E.out _ HB7).1 4 (.slice A0_4 n4 c0_4) rfl;have x75:=(E.out _ HB7).1 5 (.slice A0_5 n5 c0_5) rfl;have x76:=(E.out _ HB7).1 6 (.slice A0_6 n6 c0_6) rfl;have x77:=(E.out _ HB7).1 7 (.bool a0_7) rfl;have x78:=(E.out _ HB7).1 8 (.bool a0_8) rfl;clear hb)|(go_at_call 97;(with_reducible refine (Q8.out _ _ e8 (E.out _ HB7).2).mono ?_);rintro e w8 ⟨rfl,hb⟩;have HB8:=A_ (HB7.out.trans (hb.mono HB7.out.size));clear hb))
 go_ret
 exact ⟨rfl,(E.out _ HB8).2⟩
/-! ### impl_faultAsked: function 50 -/
def impl_faultAsked.f (k:Nat) (a0_0:Bool) (a0_1:Bool) (l0_2:List (S56)) (l0_3:List (S56)) (l0_4:List (S56)) (l0_5:List ByteArray) (l0_6:List ByteArray) (a0_7:Bool) (a0_8:Bool) (a1:Int) (a2:ByteArray):Option (Int):=(impl_isLong.f (([a2]:List ByteArray))).bind fun t226=>(if t226=true then (some 2) else ((impl_CheckConfig.f k a0_0 a0_1 l0_2 l0_3 l0_4 l0_5 l0_6 a0_7 a0_8).bind fun t227=>(if t227=0 then ((impl_within.f a1 0 2).bind fun t228=>(if t228=true then ((impl_TagOK.f k a2).bind fun t229=>(if t229=true then (some 0) else (some 10))) else (some 4))) else (some t227))))
theorem impl_faultAsked.mono:∀ a0 a1 a2 a3 a4 a5 a6 a7 a8 a9 a10 k,LeO (impl_faultAsked.f k a0 a1 a2 a3 a4 a5 a6 a7 a8 a9 a10) (impl_faultAsked.f (k+1) a0 a1 a2 a3 a4 a5 a6 a7 a8 a9 a10):=by
 intro a0 a1 a2 a3 a4 a5 a6 a7 a8 a9 a10 k
 unfold impl_faultAsked.f
 repeat' first
  | (with_reducible exact impl_CheckConfig.mono _ _ _ _ _ _ _ _ _ _)
  | (with_reducible exact impl_TagOK.mono _ _)
  | (with_reducible exact LeO.refl _)
  | (with_reducible exact LeO.none _)
  | (with_reducible refine LeO.ite ?_ ?_)
  | (with_reducible refine LeO.bind ?_ (fun _=>?_))
  | exact impl_CheckConfig.mono _ _ _ _ _ _ _ _ _ _
  | exact impl_TagOK.mono _ _
  | exact LeO.none _
  | refine LeO.ite ?_ ?_
  | refine LeO.bind ?_ (fun _=>?_)
set_option maxHeartbeats 8000000 in
set_option maxRecDepth 100000 in
theorem impl_faultAsked.calls (k:Nat) (a0_0:Bool) (a0_1:Bool) (A0_2:Option Addr) (c0_2:Nat) (l0_2:List (S56)) (A0_3:Option Addr) (c0_3:Nat) (l0_3:List (S56)) (A0_4:Option Addr) (c0_4:Nat) (l0_4:List (S56)) (A0_5:Option Addr) (c0_5:Nat) (l0_5:List ByteArray) (A0_6:Option Addr) (c0_6:Nat) (l0_6:List ByteArray) (a0_7:Bool) (a0_8:Bool) (a1:Int) (a2:ByteArray) (r:Int) (w:World) (hr0_2:Kd.C k56 w A0_2 l0_2.length l0_2) (hc0_2:l0_2.length≤c0_2) (hr0_3:Kd.C k56 w A0_3 l0_3.length l0_3) (hc0_3:l0_3.length≤c0_3) (hr0_4:Kd.C k56 w A0_4 l0_4.length l0_4) (hc0_4:l0_4.length≤c0_4) (hr0_5:Kd.C Kd.string w A0_5 l0_5.length l0_5) (hc0_5:l0_5.length≤c0_5) (hr0_6:Kd.C Kd.string w A0_6 l0_6.length l0_6) (hc0_6:l0_6.length≤c0_6) (h:impl_faultAsked.f k a0_0 a0_1 l0_2 l0_3 l0_4 l0_5 l0_6 a0_7 a0_8 a1 a2=some r) :
 Calls Try.prog 50 #[.agg #[.bool a0_0,.bool a0_1,.slice A0_2 l0_2.length c0_2,.slice A0_3 l0_3.length c0_3,.slice A0_4 l0_4.length c0_4,.slice A0_5 l0_5.length c0_5,.slice A0_6 l0_6.length c0_6,.bool a0_7,.bool a0_8],.int .i64 a1,.string a2] w fun e w'=>e=.returned (.int .i64 r)∧Below w.heap.size w w':=by
 have hu25:=Try.underlying25
 have HR0_2:=A_ hr0_2
 have HC0_2:=A_ hc0_2
 clear hr0_2 hc0_2
 have HR0_3:=A_ hr0_3
 have HC0_3:=A_ hc0_3
 clear hr0_3 hc0_3
 have HR0_4:=A_ hr0_4
 have HC0_4:=A_ hc0_4
 clear hr0_4 hc0_4
 have HR0_5:=A_ hr0_5
 have HC0_5:=A_ hc0_5
 clear hr0_5 hc0_5
 have HR0_6:=A_ hr0_6
 have HC0_6:=A_ hc0_6
 clear hr0_6 hc0_6
 have HB:=A_ (Below.refl w.heap.size w)
 have H:((impl_isLong.f (([a2]:List ByteArray))).bind fun t226=>(if t226=true then (some 2) else ((impl_CheckConfig.f k a0_0 a0_1 l0_2 l0_3 l0_4 l0_5 l0_6 a0_7 a0_8).bind fun t227=>(if t227=0 then ((impl_within.f a1 0 2).bind fun t228=>(if t228=true then ((impl_TagOK.f k a2).bind fun t229=>(if t229=true then (some 0) else (some 10))) else (some 4))) else (some t227)))))=some r:=h
 clear h
 obtain ⟨y223,hy223⟩:∃ y_:List ByteArray,y_=(([a2]:List ByteArray)):=⟨_,rfl⟩
 replace H:((impl_isLong.f y223).bind fun t226=>(if t226=true then (some 2) else ((impl_CheckConfig.f k a0_0 a0_1 l0_2 l0_3 l0_4 l0_5 l0_6 a0_7 a0_8).bind fun t227=>(if t227=0 then ((impl_within.f a1 0 2).bind fun t228=>(if t228=true then ((impl_TagOK.f k a2).bind fun t229=>(if t229=true then (some 0) else (some 10))) else (some 4))) else (some t227)))))=some r:=by first|(rw [hy223];with_reducible exact H)|(have H2_:=(Option.bind_some _ _).symm.trans H;rw [hy223];with_reducible exact H2_)|(have H2_:=(Option.bind_some _ _).symm.trans H;with_reducible exact H2_)|with_reducible exact H|(rw [hy223];exact H)|exact H
 have Ny223:=A_ hy223
 clear hy223
 replace H:=ob_ H
 obtain ⟨t226,A40,H⟩:=H
 replace H:(if t226=true then (some 2) else ((impl_CheckConfig.f k a0_0 a0_1 l0_2 l0_3 l0_4 l0_5 l0_6 a0_7 a0_8).bind fun t227=>(if t227=0 then ((impl_within.f a1 0 2).bind fun t228=>(if t228=true then ((impl_TagOK.f k a2).bind fun t229=>(if t229=true then (some 0) else (some 10))) else (some 4))) else (some t227))))=some r:=H
 have A4:=A_ A40
 clear A40
 by_cases c5:t226=true
 ·subst c5
  have H1:(some 2)=some r:=by rw [if_pos rfl] at H;exact H
  clear H
  have H:=H1
  clear H1
  obtain rfl:=oi_ H
  go_enter Try.func50,Try.ntmps50
  go_wp2_with (first|((with_reducible refine gate_dst (N:=3) rfl ?_);refine box_event ?hg (N:=3) ?hd (cs:=#[.bool a0_0,.bool a0_1,.slice A0_2 l0_2.length c0_2,.slice A0_3 l0_3.length c0_3,.slice A0_4 l0_4.length c0_4,.slice A0_5 l0_5.length c0_5,.slice A0_6 l0_6.length c0_6,.bool a0_7,.bool a0_8]) (t:=25) ?hr ?_;(case hd=>rfl);(case hg=>rfl);(case hr=>first|(go_simp;done)|(go_simp;rfl)|(first|(go_simp;done)|(go_simp;rfl)));intro gb222 hg w6 hbox hb;have n0_:=A_ (bp_ (by repeat (first|(with_reducible first|exact HB.out|apply ba_|apply pd_|apply b1_)|exact HB.out)) hb);have n1_:=A_ (hbox);have n2_:=A_ ((by rw [hg];exact (bz_ (by repeat (first|(with_reducible first|exact HB.out|apply ba_|apply pd_|apply b1_)|exact HB.out))):w.heap.size≤gb222));have n3_:=A_ ((by rw [hg];exact (bz_ (by repeat (first|(with_reducible first|exact HB.out|apply ba_|apply pd_|apply b1_)|exact HB.out))):w.heap.size≤gb222));clear HB;have HB:=n0_;have BK222:=n1_;have GW222:=n2_;have GE222:=n3_;clear n0_ n1_ n2_ n3_;clear hb hbox hg)|((with_reducible refine gate_dst (N:=9) rfl ?_);refine Kd.R_lit Kd.string _ 9 ?hg (N:=9) ?hd (xs:=([a2]:List ByteArray)) (inner:=[.string a2]) (ok:=fun _=>True) (okp:=fun _=>True) ?hr ?hp (fun _ hk=>hk) trivial (Below.refl _ _) (Nat.le_refl _) (by simp) ?_;(case hd=>rfl);(case hg=>rfl);(case hr=>first|(go_simp;done)|(go_simp;rfl)|(first|(go_simp;done)|(go_simp;rfl)));(case hp=>exact (Reps.one (show Kd.M Kd.string _ _ _ a2 [.string a2] from rfl) (Reps.none _ _)));intro v224 w7 ho8 hb hg_ hnew_;clear hg_ hnew_;(first|rw [←Ny223.out] at ho8|(simp only [Int.reduceToNat] at ho8;rw [←Ny223.out] at ho8));have n0_:=A_ (Kd.R_lower ho8 (bz_ (by repeat (first|(with_reducible first|exact HB.out|apply ba_|apply pd_|apply b1_|refine bs_ ?_ GE222.out)|exact HB.out))));have n1_:=A_ (kb_ (g:=gb222) (o:=.cells #[.bool a0_0,.bool a0_1,.slice A0_2 l0_2.length c0_2,.slice A0_3 l0_3.length c0_3,.slice A0_4 l0_4.length c0_4,.slice A0_5 l0_5.length c0_5,.slice A0_6 l0_6.length c0_6,.bool a0_7,.bool a0_8] 25 (0,0)) (by (with_reducible repeat (first|refine kn_ ?_ _|refine kd_ ?_|refine ka_ ?_ _));exact BK222.out) hb);have n2_:=A_ (bp_ (by repeat (first|(with_reducible first|exact HB.out|apply ba_|apply pd_|apply b1_|refine bs_ ?_ GE222.out)|exact HB.out)) hb);clear BK222;clear HB;have HO225:=n0_;have BK222:=n1_;have HB:=n2_;clear n0_ n1_ n2_;clear hb ho8;obtain ⟨Ao9,co9,eo9⟩:=Kd.R_slice HO225.out;subst eo9)|((with_reducible refine gate_callee (f:=61) rfl ?_);refine goesL_ (some 10) rfl rfl Try.func61 (by kernel_rfl) rfl #[.slice Ao9 y223.length co9] rfl (by (try simp only [List.map_toArray,List.map_cons,List.map_nil]);first|done|rfl|(simp only [ld_,lt_];rfl)) ?_;(with_reducible refine (impl_isLong.calls _ _ y223 true _ ?side1 ?side2 A4.out).mono ?_);(case side1=>repeat (first|exact (Kd.R_reads' HO225.out).2.2|(with_reducible refine ca_ ?_ _)|(with_reducible refine cn_ ?_ _)|(with_reducible refine cd_ ?_)));(case side2=>exact (Kd.R_reads' HO225.out).2.1);rintro e w10 ⟨rfl,hb⟩;refine ⟨_,rfl,?_⟩;have n0_:=A_ (Kd.R_below (by (with_reducible repeat (first|apply Kd.R_alloc|apply Kd.R_drewN|apply Kd.R_drew));exact HO225.out) hb);have n1_:=A_ (kb_ (g:=gb222) (o:=.cells #[.bool a0_0,.bool a0_1,.slice A0_2 l0_2.length c0_2,.slice A0_3 l0_3.length c0_3,.slice A0_4 l0_4.length c0_4,.slice A0_5 l0_5.length c0_5,.slice A0_6 l0_6.length c0_6,.bool a0_7,.bool a0_8] 25 (0,0)) (by (with_reducible repeat (first|refine kn_ ?_ _|refine kd_ ?_|refine ka_ ?_ _));exact BK222.out) hb);have n2_:=A_ (bp_ (by repeat (first|(with_reducible first|exact HB.out|apply ba_|apply pd_|apply b1_|refine bs_ ?_ GE222.out)|exact HB.out)) hb);clear HO225;clear BK222;clear HB;have HO225:=n0_;have BK222:=n1_;have HB:=n2_;clear n0_ n1_ n2_;(try clear hb);(try clear hb2);(try clear hk);(try clear hi)))
  go_ret
  exact ⟨by first|rfl|(simp [errW_none,errW_some] <;> rfl)|(simp [*,errW_none,errW_some] <;> rfl),by repeat (first|(with_reducible first|exact HB.out|apply ba_|apply pd_|apply b1_|refine bs_ ?_ GE222.out)|exact HB.out)⟩
 ·replace c5:=bm_ c5
  subst c5
  have H1:((impl_CheckConfig.f k a0_0 a0_1 l0_2 l0_3 l0_4 l0_5 l0_6 a0_7 a0_8).bind fun t227=>(if t227=0 then ((impl_within.f a1 0 2).bind fun t228=>(if t228=true then ((impl_TagOK.f k a2).bind fun t229=>(if t229=true then (some 0) else (some 10))) else (some 4))) else (some t227)))=some r:=by rw [if_neg (show ¬ (false=true) by decide)] at H;exact H
  clear H
  have H:=H1
  clear H1
  replace H:=ob_ H
  obtain ⟨t227,A110,H⟩:=H
  replace H:(if t227=0 then ((impl_within.f a1 0 2).bind fun t228=>(if t228=true then ((impl_TagOK.f k a2).bind fun t229=>(if t229=true then (some 0) else (some 10))) else (some 4))) else (some t227))=some r:=H
  have A11:=A_ A110
  clear A110
  by_cases c12:t227=0
  ·rw [if_pos c12] at H
   have c12b0:(t227 == 0)=true:=beq_iff_eq.mpr c12
   have c12b1:(t227 != 0)=false:=bne_eq_false_iff_eq.mpr c12
   clear c12
   replace H:=ob_ H
   obtain ⟨t228,A130,H⟩:=H
   replace H:(if t228=true then ((impl_TagOK.f k a2).bind fun t229=>(if t229=true then (some 0) else (some 10))) else (some 4))=some r:=H
   have A13:=A_ A130
   clear A130
   by_cases c14:t228=true
   ·subst c14
    have H1:((impl_TagOK.f k a2).bind fun t229=>(if t229=true then (some 0) else (some 10)))=some r:=by rw [if_pos rfl] at H;exact H
    clear H
    have H:=H1
    clear H1
    replace H:=ob_ H
    obtain ⟨t229,A150,H⟩:=H
    replace H:(if t229=true then (some 0) else (some 10))=some r:=H
    have A15:=A_ A150
    clear A150
    by_cases c16:t229=true
    ·subst c16
     have H1:(some 0)=some r:=by rw [if_pos rfl] at H;exact H
     clear H
     have H:=H1
     clear H1
     obtain rfl:=oi_ H
     go_enter Try.func50,Try.ntmps50
     go_wp2_with (first|((with_reducible refine gate_dst (N:=3) rfl ?_);refine box_event ?hg (N:=3) ?hd (cs:=#[.bool a0_0,.bool a0_1,.slice A0_2 l0_2.length c0_2,.slice A0_3 l0_3.length c0_3,.slice A0_4 l0_4.length c0_4,.slice A0_5 l0_5.length c0_5,.slice A0_6 l0_6.length c0_6,.bool a0_7,.bool a0_8]) (t:=25) ?hr ?_;(case hd=>rfl);(case hg=>rfl);(case hr=>first|(go_simp;done)|(go_simp;rfl)|((first|(obtain ⟨_,_,rfl⟩:=Kd.R_slice HO225.out)|(obtain ⟨_,_,rfl⟩:=Kd.S_slice HO225.out)|skip);first|(go_simp;done)|(go_simp;rfl)));intro gb222 hg w17 hbox hb;have n0_:=A_ (bp_ (by repeat (first|(with_reducible first|exact HB.out|apply ba_|apply pd_|apply b1_)|exact HB.out)) hb);have n1_:=A_ (hbox);have n2_:=A_ ((by rw [hg];exact (bz_ (by repeat (first|(with_reducible first|exact HB.out|apply ba_|apply pd_|apply b1_)|exact HB.out))):w.heap.size≤gb222));have n3_:=A_ ((by rw [hg];exact (bz_ (by repeat (first|(with_reducible first|exact HB.out|apply ba_|apply pd_|apply b1_)|exact HB.out))):w.heap.size≤gb222));clear HB;have HB:=n0_;have BK222:=n1_;have GW222:=n2_;have GE222:=n3_;clear n0_ n1_ n2_ n3_;clear hb hbox hg)|((with_reducible refine gate_dst (N:=9) rfl ?_);refine Kd.R_lit Kd.string _ 9 ?hg (N:=9) ?hd (xs:=([a2]:List ByteArray)) (inner:=[.string a2]) (ok:=fun _=>True) (okp:=fun _=>True) ?hr ?hp (fun _ hk=>hk) trivial (Below.refl _ _) (Nat.le_refl _) (by simp) ?_;(case hd=>rfl);(case hg=>rfl);(case hr=>first|(go_simp;done)|(go_simp;rfl)|((first|(obtain ⟨_,_,rfl⟩:=Kd.R_slice HO225.out)|(obtain ⟨_,_,rfl⟩:=Kd.S_slice HO225.out)|skip);first|(go_simp;done)|(go_simp;rfl)));(case hp=>exact (Reps.one (show Kd.M Kd.string _ _ _ a2 [.string a2] from rfl) (Reps.none _ _)));intro v224 w18 ho19 hb hg_ hnew_;clear hg_ hnew_;(first|rw [←Ny223.out] at ho19|(simp only [Int.reduceToNat] at ho19;rw [←Ny223.out] at ho19));have n0_:=A_ (Kd.R_lower ho19 (bz_ (by repeat (first|(with_reducible first|exact HB.out|apply ba_|apply pd_|apply b1_|refine bs_ ?_ GE222.out)|exact HB.out))));have n1_:=A_ (kb_ (g:=gb222) (o:=.cells #[.bool a0_0,.bool a0_1,.slice A0_2 l0_2.length c0_2,.slice A0_3 l0_3.length c0_3,.slice A0_4 l0_4.length c0_4,.slice A0_5 l0_5.length c0_5,.slice A0_6 l0_6.length c0_6,.bool a0_7,.bool a0_8] 25 (0,0)) (by (with_reducible repeat (first|refine kn_ ?_ _|refine kd_ ?_|refine ka_ ?_ _));exact BK222.out) hb);have n2_:=A_ (bp_ (by repeat (first|(with_reducible first|exact HB.out|apply ba_|apply pd_|apply b1_|refine bs_ ?_ GE222.out)|exact HB.out)) hb);clear BK222;clear HB;have HO225:=n0_;have BK222:=n1_;have HB:=n2_;clear n0_ n1_ n2_;clear hb ho19;obtain ⟨Ao20,co20,eo20⟩:=Kd.R_slice HO225.out;subst eo20)|((with_reducible refine gate_callee (f:=61) rfl ?_);refine goesL_ (some 10) rfl rfl Try.func61 (by kernel_rfl) rfl #[.slice Ao20 y223.length co20] rfl (by (try simp only [List.map_toArray,List.map_cons,List.map_nil]);first|done|rfl|(simp only [ld_,lt_];rfl)) ?_;(with_reducible refine (impl_isLong.calls _ _ y223 false _ ?side1 ?side2 A4.out).mono ?_);(case side1=>repeat (first|exact (Kd.R_reads' HO225.out).2.2|(with_reducible refine ca_ ?_ _)|(with_reducible refine cn_ ?_ _)|(with_reducible refine cd_ ?_)));(case side2=>exact (Kd.R_reads' HO225.out).2.1);rintro e w21 ⟨rfl,hb⟩;refine ⟨_,rfl,?_⟩;have n0_:=A_ (Kd.R_below (by (with_reducible repeat (first|apply Kd.R_alloc|apply Kd.R_drewN|apply Kd.R_drew));exact HO225.out) hb);have n1_:=A_ (kb_ (g:=gb222) (o:=.cells #[.bool a0_0,.bool a0_1,.slice A0_2 l0_2.length c0_2,.slice A0_3 l0_3.length c0_3,.slice A0_4 l0_4.length c0_4,.slice A0_5 l0_5.length c0_5,.slice A0_6 l0_6.length c0_6,.bool a0_7,.bool a0_8] 25 (0,0)) (by (with_reducible repeat (first|refine kn_ ?_ _|refine kd_ ?_|refine ka_ ?_ _));exact BK222.out) hb);have n2_:=A_ (bp_ (by repeat (first|(with_reducible first|exact HB.out|apply ba_|apply pd_|apply b1_|refine bs_ ?_ GE222.out)|exact HB.out)) hb);clear HO225;clear BK222;clear HB;have HO225:=n0_;have BK222:=n1_;have HB:=n2_;clear n0_ n1_ n2_;(try clear hb);(try clear hb2);(try clear hk);(try clear hi);have hcz22_0:w21.cell? ⟨gb222,0,none⟩=some (.bool a0_0):=(bc_ BK222.out 0).trans rfl;have hcz22_1:w21.cell? ⟨gb222,1,none⟩=some (.bool a0_1):=(bc_ BK222.out 1).trans rfl;have hcz22_2:w21.cell? ⟨gb222,2,none⟩=some (.slice A0_2 l0_2.length c0_2):=(bc_ BK222.out 2).trans rfl;have hcz22_3:w21.cell? ⟨gb222,3,none⟩=some (.slice A0_3 l0_3.length c0_3):=(bc_ BK222.out 3).trans rfl;have hcz22_4:w21.cell? ⟨gb222,4,none⟩=some (.slice A0_4 l0_4.length c0_4):=(bc_ BK222.out 4).trans rfl;have hcz22_5:w21.cell? ⟨gb222,5,none⟩=some (.slice A0_5 l0_5.length c0_5):=(bc_ BK222.out 5).trans rfl;have hcz22_6:w21.cell? ⟨gb222,6,none⟩=some (.slice A0_6 l0_6.length c0_6):=(bc_ BK222.out 6).trans rfl;have hcz22_7:w21.cell? ⟨gb222,7,none⟩=some (.bool a0_7):=(bc_ BK222.out 7).trans rfl;have hcz22_8:w21.cell? ⟨gb222,8,none⟩=some (.bool a0_8):=(bc_ BK222.out 8).trans rfl;have hfz22_0:=bf_ BK222.out 0;have hfz22_1:=bf_ BK222.out 1;have hfz22_2:=bf_ BK222.out 2;have hfz22_3:=bf_ BK222.out 3;have hfz22_4:=bf_ BK222.out 4;have hfz22_5:=bf_ BK222.out 5;have hfz22_6:=bf_ BK222.out 6;have hfz22_7:=bf_ BK222.out 7;have hfz22_8:=bf_ BK222.out 8)|((with_reducible refine gate_callee (f:=79) rfl ?_);refine goesL_ (some 12) rfl rfl Try.func79 (by kernel_rfl) rfl #[.agg #[.bool a0_0,.bool a0_1,.slice A0_2 l0_2.length c0_2,.slice A0_3 l0_3.length c0_3,.slice A0_4 l0_4.length c0_4,.slice A0_5 l0_5.length c0_5,.slice A0_6 l0_6.length c0_6,.bool a0_7,.bool a0_8]] rfl (by (try simp only [List.map_toArray,List.map_cons,List.map_nil]);first|done|rfl|(simp only [ld_,lt_];rfl)) ?_;(with_reducible refine (impl_CheckConfig.calls k a0_0 a0_1 _ _ l0_2 _ _ l0_3 _ _ l0_4 _ _ l0_5 _ _ l0_6 a0_7 a0_8 t227 _ ?side1 ?side2 ?side3 ?side4 ?side5 ?side6 ?side7 ?side8 ?side9 ?side10 A11.out).mono ?_);(case side1=>repeat (first|exact (cb_ HR0_2.out HB.out)|(with_reducible refine ca_ ?_ _)|(with_reducible refine cn_ ?_ _)|(with_reducible refine cd_ ?_)));(case side2=>exact HC0_2.out);(case side3=>repeat (first|exact (cb_ HR0_3.out HB.out)|(with_reducible refine ca_ ?_ _)|(with_reducible refine cn_ ?_ _)|(with_reducible refine cd_ ?_)));(case side4=>exact HC0_3.out);(case side5=>repeat (first|exact (cb_ HR0_4.out HB.out)|(with_reducible refine ca_ ?_ _)|(with_reducible refine cn_ ?_ _)|(with_reducible refine cd_ ?_)));(case side6=>exact HC0_4.out);(case side7=>repeat (first|exact (cb_ HR0_5.out HB.out)|(with_reducible refine ca_ ?_ _)|(with_reducible refine cn_ ?_ _)|(with_reducible refine cd_ ?_)));(case side8=>exact HC0_5.out);(case side9=>repeat (first|exact (cb_ HR0_6.out HB.out)|(with_reducible refine ca_ ?_ _)|(with_reducible refine cn_ ?_ _)|(with_reducible refine cd_ ?_)));(case side10=>exact HC0_6.out);rintro e w23 ⟨rfl,hb⟩;refine ⟨_,rfl,?_⟩;have n0_:=A_ (Kd.R_below (by (with_reducible repeat (first|apply Kd.R_alloc|apply Kd.R_drewN|apply Kd.R_drew));exact HO225.out) hb);have n1_:=A_ (kb_ (g:=gb222) (o:=.cells #[.bool a0_0,.bool a0_1,.slice A0_2 l0_2.length c0_2,.slice A0_3 l0_3.length c0_3,.slice A0_4 l0_4.length c0_4,.slice A0_5 l0_5.length c0_5,.slice A0_6 l0_6.length c0_6,.bool a0_7,.bool a0_8] 25 (0,0)) (by (with_reducible repeat (first|refine kn_ ?_ _|refine kd_ ?_|refine ka_ ?_ _));exact BK222.out) hb);have n2_:=A_ (bp_ (by repeat (first|(with_reducible first|exact HB.out|apply ba_|apply pd_|apply b1_|refine bs_ ?_ GE222.out)|exact HB.out)) hb);clear HO225;clear BK222;clear HB;have HO225:=n0_;have BK222:=n1_;have HB:=n2_;clear n0_ n1_ n2_;(try clear hb);(try clear hb2);(try clear hk);(try clear hi))|((with_reducible refine gate_callee (f:=65) rfl ?_);refine goesL_ (some 19) rfl rfl Try.func65 (by kernel_rfl) rfl #[.int .i64 a1,.int .i64 0,.int .i64 2] rfl (by (try simp only [List.map_toArray,List.map_cons,List.map_nil]);first|done|rfl|(simp only [ld_,lt_];rfl)) ?_;(with_reducible refine (impl_within.calls a1 0 2 true _ A13.out).mono ?_);rintro e w' ⟨rfl,⟨nd,rfl⟩⟩;refine ⟨_,rfl,?_⟩)|((with_reducible refine gate_callee (f:=64) rfl ?_);refine goesL_ (some 23) rfl rfl Try.func64 (by kernel_rfl) rfl #[.string a2] rfl (by (try simp only [List.map_toArray,List.map_cons,List.map_nil]);first|done|rfl|(simp only [ld_,lt_];rfl)) ?_;(with_reducible refine (impl_TagOK.calls k a2 true _ A15.out).mono ?_);rintro e w' ⟨rfl,⟨nd,rfl⟩⟩;refine ⟨_,rfl,?_⟩))
     go_ret
     exact ⟨by first|rfl|(simp [errW_none,errW_some] <;> rfl)|(simp [*,errW_none,errW_some] <;> rfl),by repeat (first|(with_reducible first|exact HB.out|apply ba_|apply pd_|apply b1_|refine bs_ ?_ GE222.out)|exact HB.out)⟩
    ·replace c16:=bm_ c16
     subst c16
     have H1:(some 10)=some r:=by rw [if_neg (show ¬ (false=true) by decide)] at H;exact H
     clear H
     have H:=H1
     clear H1
     obtain rfl:=oi_ H
     go_enter Try.func50,Try.ntmps50
     go_wp2_with (first|((with_reducible refine gate_dst (N:=3) rfl ?_);refine box_event ?hg (N:=3) ?hd (cs:=#[.bool a0_0,.bool a0_1,.slice A0_2 l0_2.length c0_2,.slice A0_3 l0_3.length c0_3,.slice A0_4 l0_4.length c0_4,.slice A0_5 l0_5.length c0_5,.slice A0_6 l0_6.length c0_6,.bool a0_7,.bool a0_8]) (t:=25) ?hr ?_;(case hd=>rfl);(case hg=>rfl);(case hr=>first|(go_simp;done)|(go_simp;rfl)|((first|(obtain ⟨_,_,rfl⟩:=Kd.R_slice HO225.out)|(obtain ⟨_,_,rfl⟩:=Kd.S_slice HO225.out)|skip);first|(go_simp;done)|(go_simp;rfl)));intro gb222 hg w24 hbox hb;have n0_:=A_ (bp_ (by repeat (first|(with_reducible first|exact HB.out|apply ba_|apply pd_|apply b1_)|exact HB.out)) hb);have n1_:=A_ (hbox);have n2_:=A_ ((by rw [hg];exact (bz_ (by repeat (first|(with_reducible first|exact HB.out|apply ba_|apply pd_|apply b1_)|exact HB.out))):w.heap.size≤gb222));have n3_:=A_ ((by rw [hg];exact (bz_ (by repeat (first|(with_reducible first|exact HB.out|apply ba_|apply pd_|apply b1_)|exact HB.out))):w.heap.size≤gb222));clear HB;have HB:=n0_;have BK222:=n1_;have GW222:=n2_;have GE222:=n3_;clear n0_ n1_ n2_ n3_;clear hb hbox hg)|((with_reducible refine gate_dst (N:=9) rfl ?_);refine Kd.R_lit Kd.string _ 9 ?hg (N:=9) ?hd (xs:=([a2]:List ByteArray)) (inner:=[.string a2]) (ok:=fun _=>True) (okp:=fun _=>True) ?hr ?hp (fun _ hk=>hk) trivial (Below.refl _ _) (Nat.le_refl _) (by simp) ?_;(case hd=>rfl);(case hg=>rfl);(case hr=>first|(go_simp;done)|(go_simp;rfl)|((first|(obtain ⟨_,_,rfl⟩:=Kd.R_slice HO225.out)|(obtain ⟨_,_,rfl⟩:=Kd.S_slice HO225.out)|skip);first|(go_simp;done)|(go_simp;rfl)));(case hp=>exact (Reps.one (show Kd.M Kd.string _ _ _ a2 [.string a2] from rfl) (Reps.none _ _)));intro v224 w25 ho26 hb hg_ hnew_;clear hg_ hnew_;(first|rw [←Ny223.out] at ho26|(simp only [Int.reduceToNat] at ho26;rw [←Ny223.out] at ho26));have n0_:=A_ (Kd.R_lower ho26 (bz_ (by repeat (first|(with_reducible first|exact HB.out|apply ba_|apply pd_|apply b1_|refine bs_ ?_ GE222.out)|exact HB.out))));have n1_:=A_ (kb_ (g:=gb222) (o:=.cells #[.bool a0_0,.bool a0_1,.slice A0_2 l0_2.length c0_2,.slice A0_3 l0_3.length c0_3,.slice A0_4 l0_4.length c0_4,.slice A0_5 l0_5.length c0_5,.slice A0_6 l0_6.length c0_6,.bool a0_7,.bool a0_8] 25 (0,0)) (by (with_reducible repeat (first|refine kn_ ?_ _|refine kd_ ?_|refine ka_ ?_ _));exact BK222.out) hb);have n2_:=A_ (bp_ (by repeat (first|(with_reducible first|exact HB.out|apply ba_|apply pd_|apply b1_|refine bs_ ?_ GE222.out)|exact HB.out)) hb);clear BK222;clear HB;have HO225:=n0_;have BK222:=n1_;have HB:=n2_;clear n0_ n1_ n2_;clear hb ho26;obtain ⟨Ao27,co27,eo27⟩:=Kd.R_slice HO225.out;subst eo27)|((with_reducible refine gate_callee (f:=61) rfl ?_);refine goesL_ (some 10) rfl rfl Try.func61 (by kernel_rfl) rfl #[.slice Ao27 y223.length co27] rfl (by (try simp only [List.map_toArray,List.map_cons,List.map_nil]);first|done|rfl|(simp only [ld_,lt_];rfl)) ?_;(with_reducible refine (impl_isLong.calls _ _ y223 false _ ?side1 ?side2 A4.out).mono ?_);(case side1=>repeat (first|exact (Kd.R_reads' HO225.out).2.2|(with_reducible refine ca_ ?_ _)|(with_reducible refine cn_ ?_ _)|(with_reducible refine cd_ ?_)));(case side2=>exact (Kd.R_reads' HO225.out).2.1);rintro e w28 ⟨rfl,hb⟩;refine ⟨_,rfl,?_⟩;have n0_:=A_ (Kd.R_below (by (with_reducible repeat (first|apply Kd.R_alloc|apply Kd.R_drewN|apply Kd.R_drew));exact HO225.out) hb);have n1_:=A_ (kb_ (g:=gb222) (o:=.cells #[.bool a0_0,.bool a0_1,.slice A0_2 l0_2.length c0_2,.slice A0_3 l0_3.length c0_3,.slice A0_4 l0_4.length c0_4,.slice A0_5 l0_5.length c0_5,.slice A0_6 l0_6.length c0_6,.bool a0_7,.bool a0_8] 25 (0,0)) (by (with_reducible repeat (first|refine kn_ ?_ _|refine kd_ ?_|refine ka_ ?_ _));exact BK222.out) hb);have n2_:=A_ (bp_ (by repeat (first|(with_reducible first|exact HB.out|apply ba_|apply pd_|apply b1_|refine bs_ ?_ GE222.out)|exact HB.out)) hb);clear HO225;clear BK222;clear HB;have HO225:=n0_;have BK222:=n1_;have HB:=n2_;clear n0_ n1_ n2_;(try clear hb);(try clear hb2);(try clear hk);(try clear hi);have hcz29_0:w28.cell? ⟨gb222,0,none⟩=some (.bool a0_0):=(bc_ BK222.out 0).trans rfl;have hcz29_1:w28.cell? ⟨gb222,1,none⟩=some (.bool a0_1):=(bc_ BK222.out 1).trans rfl;have hcz29_2:w28.cell? ⟨gb222,2,none⟩=some (.slice A0_2 l0_2.length c0_2):=(bc_ BK222.out 2).trans rfl;have hcz29_3:w28.cell? ⟨gb222,3,none⟩=some (.slice A0_3 l0_3.length c0_3):=(bc_ BK222.out 3).trans rfl;have hcz29_4:w28.cell? ⟨gb222,4,none⟩=some (.slice A0_4 l0_4.length c0_4):=(bc_ BK222.out 4).trans rfl;have hcz29_5:w28.cell? ⟨gb222,5,none⟩=some (.slice A0_5 l0_5.length c0_5):=(bc_ BK222.out 5).trans rfl;have hcz29_6:w28.cell? ⟨gb222,6,none⟩=some (.slice A0_6 l0_6.length c0_6):=(bc_ BK222.out 6).trans rfl;have hcz29_7:w28.cell? ⟨gb222,7,none⟩=some (.bool a0_7):=(bc_ BK222.out 7).trans rfl;have hcz29_8:w28.cell? ⟨gb222,8,none⟩=some (.bool a0_8):=(bc_ BK222.out 8).trans rfl;have hfz29_0:=bf_ BK222.out 0;have hfz29_1:=bf_ BK222.out 1;have hfz29_2:=bf_ BK222.out 2;have hfz29_3:=bf_ BK222.out 3;have hfz29_4:=bf_ BK222.out 4;have hfz29_5:=bf_ BK222.out 5;have hfz29_6:=bf_ BK222.out 6;have hfz29_7:=bf_ BK222.out 7;have hfz29_8:=bf_ BK222.out 8)|((with_reducible refine gate_callee (f:=79) rfl ?_);refine goesL_ (some 12) rfl rfl Try.func79 (by kernel_rfl) rfl #[.agg #[.bool a0_0,.bool a0_1,.slice A0_2 l0_2.length c0_2,.slice A0_3 l0_3.length c0_3,.slice A0_4 l0_4.length c0_4,.slice A0_5 l0_5.length c0_5,.slice A0_6 l0_6.length c0_6,.bool a0_7,.bool a0_8]] rfl (by (try simp only [List.map_toArray,List.map_cons,List.map_nil]);first|done|rfl|(simp only [ld_,lt_];rfl)) ?_;(with_reducible refine (impl_CheckConfig.calls k a0_0 a0_1 _ _ l0_2 _ _ l0_3 _ _ l0_4 _ _ l0_5 _ _ l0_6 a0_7 a0_8 t227 _ ?side1 ?side2 ?side3 ?side4 ?side5 ?side6 ?side7 ?side8 ?side9 ?side10 A11.out).mono ?_);(case side1=>repeat (first|exact (cb_ HR0_2.out HB.out)|(with_reducible refine ca_ ?_ _)|(with_reducible refine cn_ ?_ _)|(with_reducible refine cd_ ?_)));(case side2=>exact HC0_2.out);(case side3=>repeat (first|exact (cb_ HR0_3.out HB.out)|(with_reducible refine ca_ ?_ _)|(with_reducible refine cn_ ?_ _)|(with_reducible refine cd_ ?_)));(case side4=>exact HC0_3.out);(case side5=>repeat (first|exact (cb_ HR0_4.out HB.out)|(with_reducible refine ca_ ?_ _)|(with_reducible refine cn_ ?_ _)|(with_reducible refine cd_ ?_)));(case side6=>exact HC0_4.out);(case side7=>repeat (first|exact (cb_ HR0_5.out HB.out)|(with_reducible refine ca_ ?_ _)|(with_reducible refine cn_ ?_ _)|(with_reducible refine cd_ ?_)));(case side8=>exact HC0_5.out);(case side9=>repeat (first|exact (cb_ HR0_6.out HB.out)|(with_reducible refine ca_ ?_ _)|(with_reducible refine cn_ ?_ _)|(with_reducible refine cd_ ?_)));(case side10=>exact HC0_6.out);rintro e w30 ⟨rfl,hb⟩;refine ⟨_,rfl,?_⟩;have n0_:=A_ (Kd.R_below (by (with_reducible repeat (first|apply Kd.R_alloc|apply Kd.R_drewN|apply Kd.R_drew));exact HO225.out) hb);have n1_:=A_ (kb_ (g:=gb222) (o:=.cells #[.bool a0_0,.bool a0_1,.slice A0_2 l0_2.length c0_2,.slice A0_3 l0_3.length c0_3,.slice A0_4 l0_4.length c0_4,.slice A0_5 l0_5.length c0_5,.slice A0_6 l0_6.length c0_6,.bool a0_7,.bool a0_8] 25 (0,0)) (by (with_reducible repeat (first|refine kn_ ?_ _|refine kd_ ?_|refine ka_ ?_ _));exact BK222.out) hb);have n2_:=A_ (bp_ (by repeat (first|(with_reducible first|exact HB.out|apply ba_|apply pd_|apply b1_|refine bs_ ?_ GE222.out)|exact HB.out)) hb);clear HO225;clear BK222;clear HB;have HO225:=n0_;have BK222:=n1_;have HB:=n2_;clear n0_ n1_ n2_;(try clear hb);(try clear hb2);(try clear hk);(try clear hi))|((with_reducible refine gate_callee (f:=65) rfl ?_);refine goesL_ (some 19) rfl rfl Try.func65 (by kernel_rfl) rfl #[.int .i64 a1,.int .i64 0,.int .i64 2] rfl (by (try simp only [List.map_toArray,List.map_cons,List.map_nil]);first|done|rfl|(simp only [ld_,lt_];rfl)) ?_;(with_reducible refine (impl_within.calls a1 0 2 true _ A13.out).mono ?_);rintro e w' ⟨rfl,⟨nd,rfl⟩⟩;refine ⟨_,rfl,?_⟩)|((with_reducible refine gate_callee (f:=64) rfl ?_);refine goesL_ (some 23) rfl rfl Try.func64 (by kernel_rfl) rfl #[.string a2] rfl (by (try simp only [List.map_toArray,List.map_cons,List.map_nil]);first|done|rfl|(simp only [ld_,lt_];rfl)) ?_;(with_reducible refine (impl_TagOK.calls k a2 false _ A15.out).mono ?_);rintro e w' ⟨rfl,⟨nd,rfl⟩⟩;refine ⟨_,rfl,?_⟩))
     go_ret
     exact ⟨by first|rfl|(simp [errW_none,errW_some] <;> rfl)|(simp [*,errW_none,errW_some] <;> rfl),by repeat (first|(with_reducible first|exact HB.out|apply ba_|apply pd_|apply b1_|refine bs_ ?_ GE222.out)|exact HB.out)⟩
   ·replace c14:=bm_ c14
    subst c14
    have H1:(some 4)=some r:=by rw [if_neg (show ¬ (false=true) by decide)] at H;exact H
    clear H
    have H:=H1
    clear H1
    obtain rfl:=oi_ H
    go_enter Try.func50,Try.ntmps50
    go_wp2_with (first|((with_reducible refine gate_dst (N:=3) rfl ?_);refine box_event ?hg (N:=3) ?hd (cs:=#[.bool a0_0,.bool a0_1,.slice A0_2 l0_2.length c0_2,.slice A0_3 l0_3.length c0_3,.slice A0_4 l0_4.length c0_4,.slice A0_5 l0_5.length c0_5,.slice A0_6 l0_6.length c0_6,.bool a0_7,.bool a0_8]) (t:=25) ?hr ?_;(case hd=>rfl);(case hg=>rfl);(case hr=>first|(go_simp;done)|(go_simp;rfl)|((first|(obtain ⟨_,_,rfl⟩:=Kd.R_slice HO225.out)|(obtain ⟨_,_,rfl⟩:=Kd.S_slice HO225.out)|skip);first|(go_simp;done)|(go_simp;rfl)));intro gb222 hg w31 hbox hb;have n0_:=A_ (bp_ (by repeat (first|(with_reducible first|exact HB.out|apply ba_|apply pd_|apply b1_)|exact HB.out)) hb);have n1_:=A_ (hbox);have n2_:=A_ ((by rw [hg];exact (bz_ (by repeat (first|(with_reducible first|exact HB.out|apply ba_|apply pd_|apply b1_)|exact HB.out))):w.heap.size≤gb222));have n3_:=A_ ((by rw [hg];exact (bz_ (by repeat (first|(with_reducible first|exact HB.out|apply ba_|apply pd_|apply b1_)|exact HB.out))):w.heap.size≤gb222));clear HB;have HB:=n0_;have BK222:=n1_;have GW222:=n2_;have GE222:=n3_;clear n0_ n1_ n2_ n3_;clear hb hbox hg)|((with_reducible refine gate_dst (N:=9) rfl ?_);refine Kd.R_lit Kd.string _ 9 ?hg (N:=9) ?hd (xs:=([a2]:List ByteArray)) (inner:=[.string a2]) (ok:=fun _=>True) (okp:=fun _=>True) ?hr ?hp (fun _ hk=>hk) trivial (Below.refl _ _) (Nat.le_refl _) (by simp) ?_;(case hd=>rfl);(case hg=>rfl);(case hr=>first|(go_simp;done)|(go_simp;rfl)|((first|(obtain ⟨_,_,rfl⟩:=Kd.R_slice HO225.out)|(obtain ⟨_,_,rfl⟩:=Kd.S_slice HO225.out)|skip);first|(go_simp;done)|(go_simp;rfl)));(case hp=>exact (Reps.one (show Kd.M Kd.string _ _ _ a2 [.string a2] from rfl) (Reps.none _ _)));intro v224 w32 ho33 hb hg_ hnew_;clear hg_ hnew_;(first|rw [←Ny223.out] at ho33|(simp only [Int.reduceToNat] at ho33;rw [←Ny223.out] at ho33));have n0_:=A_ (Kd.R_lower ho33 (bz_ (by repeat (first|(with_reducible first|exact HB.out|apply ba_|apply pd_|apply b1_|refine bs_ ?_ GE222.out)|exact HB.out))));have n1_:=A_ (kb_ (g:=gb222) (o:=.cells #[.bool a0_0,.bool a0_1,.slice A0_2 l0_2.length c0_2,.slice A0_3 l0_3.length c0_3,.slice A0_4 l0_4.length c0_4,.slice A0_5 l0_5.length c0_5,.slice A0_6 l0_6.length c0_6,.bool a0_7,.bool a0_8] 25 (0,0)) (by (with_reducible repeat (first|refine kn_ ?_ _|refine kd_ ?_|refine ka_ ?_ _));exact BK222.out) hb);have n2_:=A_ (bp_ (by repeat (first|(with_reducible first|exact HB.out|apply ba_|apply pd_|apply b1_|refine bs_ ?_ GE222.out)|exact HB.out)) hb);clear BK222;clear HB;have HO225:=n0_;have BK222:=n1_;have HB:=n2_;clear n0_ n1_ n2_;clear hb ho33;obtain ⟨Ao34,co34,eo34⟩:=Kd.R_slice HO225.out;subst eo34)|((with_reducible refine gate_callee (f:=61) rfl ?_);refine goesL_ (some 10) rfl rfl Try.func61 (by kernel_rfl) rfl #[.slice Ao34 y223.length co34] rfl (by (try simp only [List.map_toArray,List.map_cons,List.map_nil]);first|done|rfl|(simp only [ld_,lt_];rfl)) ?_;(with_reducible refine (impl_isLong.calls _ _ y223 false _ ?side1 ?side2 A4.out).mono ?_);(case side1=>repeat (first|exact (Kd.R_reads' HO225.out).2.2|(with_reducible refine ca_ ?_ _)|(with_reducible refine cn_ ?_ _)|(with_reducible refine cd_ ?_)));(case side2=>exact (Kd.R_reads' HO225.out).2.1);rintro e w35 ⟨rfl,hb⟩;refine ⟨_,rfl,?_⟩;have n0_:=A_ (Kd.R_below (by (with_reducible repeat (first|apply Kd.R_alloc|apply Kd.R_drewN|apply Kd.R_drew));exact HO225.out) hb);have n1_:=A_ (kb_ (g:=gb222) (o:=.cells #[.bool a0_0,.bool a0_1,.slice A0_2 l0_2.length c0_2,.slice A0_3 l0_3.length c0_3,.slice A0_4 l0_4.length c0_4,.slice A0_5 l0_5.length c0_5,.slice A0_6 l0_6.length c0_6,.bool a0_7,.bool a0_8] 25 (0,0)) (by (with_reducible repeat (first|refine kn_ ?_ _|refine kd_ ?_|refine ka_ ?_ _));exact BK222.out) hb);have n2_:=A_ (bp_ (by repeat (first|(with_reducible first|exact HB.out|apply ba_|apply pd_|apply b1_|refine bs_ ?_ GE222.out)|exact HB.out)) hb);clear HO225;clear BK222;clear HB;have HO225:=n0_;have BK222:=n1_;have HB:=n2_;clear n0_ n1_ n2_;(try clear hb);(try clear hb2);(try clear hk);(try clear hi);have hcz36_0:w35.cell? ⟨gb222,0,none⟩=some (.bool a0_0):=(bc_ BK222.out 0).trans rfl;have hcz36_1:w35.cell? ⟨gb222,1,none⟩=some (.bool a0_1):=(bc_ BK222.out 1).trans rfl;have hcz36_2:w35.cell? ⟨gb222,2,none⟩=some (.slice A0_2 l0_2.length c0_2):=(bc_ BK222.out 2).trans rfl;have hcz36_3:w35.cell? ⟨gb222,3,none⟩=some (.slice A0_3 l0_3.length c0_3):=(bc_ BK222.out 3).trans rfl;have hcz36_4:w35.cell? ⟨gb222,4,none⟩=some (.slice A0_4 l0_4.length c0_4):=(bc_ BK222.out 4).trans rfl;have hcz36_5:w35.cell? ⟨gb222,5,none⟩=some (.slice A0_5 l0_5.length c0_5):=(bc_ BK222.out 5).trans rfl;have hcz36_6:w35.cell? ⟨gb222,6,none⟩=some (.slice A0_6 l0_6.length c0_6):=(bc_ BK222.out 6).trans rfl;have hcz36_7:w35.cell? ⟨gb222,7,none⟩=some (.bool a0_7):=(bc_ BK222.out 7).trans rfl;have hcz36_8:w35.cell? ⟨gb222,8,none⟩=some (.bool a0_8):=(bc_ BK222.out 8).trans rfl;have hfz36_0:=bf_ BK222.out 0;have hfz36_1:=bf_ BK222.out 1;have hfz36_2:=bf_ BK222.out 2;have hfz36_3:=bf_ BK222.out 3;have hfz36_4:=bf_ BK222.out 4;have hfz36_5:=bf_ BK222.out 5;have hfz36_6:=bf_ BK222.out 6;have hfz36_7:=bf_ BK222.out 7;have hfz36_8:=bf_ BK222.out 8)|((with_reducible refine gate_callee (f:=79) rfl ?_);refine goesL_ (some 12) rfl rfl Try.func79 (by kernel_rfl) rfl #[.agg #[.bool a0_0,.bool a0_1,.slice A0_2 l0_2.length c0_2,.slice A0_3 l0_3.length c0_3,.slice A0_4 l0_4.length c0_4,.slice A0_5 l0_5.length c0_5,.slice A0_6 l0_6.length c0_6,.bool a0_7,.bool a0_8]] rfl (by (try simp only [List.map_toArray,List.map_cons,List.map_nil]);first|done|rfl|(simp only [ld_,lt_];rfl)) ?_;(with_reducible refine (impl_CheckConfig.calls k a0_0 a0_1 _ _ l0_2 _ _ l0_3 _ _ l0_4 _ _ l0_5 _ _ l0_6 a0_7 a0_8 t227 _ ?side1 ?side2 ?side3 ?side4 ?side5 ?side6 ?side7 ?side8 ?side9 ?side10 A11.out).mono ?_);(case side1=>repeat (first|exact (cb_ HR0_2.out HB.out)|(with_reducible refine ca_ ?_ _)|(with_reducible refine cn_ ?_ _)|(with_reducible refine cd_ ?_)));(case side2=>exact HC0_2.out);(case side3=>repeat (first|exact (cb_ HR0_3.out HB.out)|(with_reducible refine ca_ ?_ _)|(with_reducible refine cn_ ?_ _)|(with_reducible refine cd_ ?_)));(case side4=>exact HC0_3.out);(case side5=>repeat (first|exact (cb_ HR0_4.out HB.out)|(with_reducible refine ca_ ?_ _)|(with_reducible refine cn_ ?_ _)|(with_reducible refine cd_ ?_)));(case side6=>exact HC0_4.out);(case side7=>repeat (first|exact (cb_ HR0_5.out HB.out)|(with_reducible refine ca_ ?_ _)|(with_reducible refine cn_ ?_ _)|(with_reducible refine cd_ ?_)));(case side8=>exact HC0_5.out);(case side9=>repeat (first|exact (cb_ HR0_6.out HB.out)|(with_reducible refine ca_ ?_ _)|(with_reducible refine cn_ ?_ _)|(with_reducible refine cd_ ?_)));(case side10=>exact HC0_6.out);rintro e w37 ⟨rfl,hb⟩;refine ⟨_,rfl,?_⟩;have n0_:=A_ (Kd.R_below (by (with_reducible repeat (first|apply Kd.R_alloc|apply Kd.R_drewN|apply Kd.R_drew));exact HO225.out) hb);have n1_:=A_ (kb_ (g:=gb222) (o:=.cells #[.bool a0_0,.bool a0_1,.slice A0_2 l0_2.length c0_2,.slice A0_3 l0_3.length c0_3,.slice A0_4 l0_4.length c0_4,.slice A0_5 l0_5.length c0_5,.slice A0_6 l0_6.length c0_6,.bool a0_7,.bool a0_8] 25 (0,0)) (by (with_reducible repeat (first|refine kn_ ?_ _|refine kd_ ?_|refine ka_ ?_ _));exact BK222.out) hb);have n2_:=A_ (bp_ (by repeat (first|(with_reducible first|exact HB.out|apply ba_|apply pd_|apply b1_|refine bs_ ?_ GE222.out)|exact HB.out)) hb);clear HO225;clear BK222;clear HB;have HO225:=n0_;have BK222:=n1_;have HB:=n2_;clear n0_ n1_ n2_;(try clear hb);(try clear hb2);(try clear hk);(try clear hi))|((with_reducible refine gate_callee (f:=65) rfl ?_);refine goesL_ (some 19) rfl rfl Try.func65 (by kernel_rfl) rfl #[.int .i64 a1,.int .i64 0,.int .i64 2] rfl (by (try simp only [List.map_toArray,List.map_cons,List.map_nil]);first|done|rfl|(simp only [ld_,lt_];rfl)) ?_;(with_reducible refine (impl_within.calls a1 0 2 false _ A13.out).mono ?_);rintro e w' ⟨rfl,⟨nd,rfl⟩⟩;refine ⟨_,rfl,?_⟩))
    go_ret
    exact ⟨by first|rfl|(simp [errW_none,errW_some] <;> rfl)|(simp [*,errW_none,errW_some] <;> rfl),by repeat (first|(with_reducible first|exact HB.out|apply ba_|apply pd_|apply b1_|refine bs_ ?_ GE222.out)|exact HB.out)⟩
  ·rw [if_neg c12] at H
   have c12b0:(t227 == 0)=false:=beq_eq_false_iff_ne.mpr c12
   have c12b1:(t227 != 0)=true:=bne_iff_ne.mpr c12
   obtain rfl:=oi_ H
   go_enter Try.func50,Try.ntmps50
   go_wp2_with (first|((with_reducible refine gate_dst (N:=3) rfl ?_);refine box_event ?hg (N:=3) ?hd (cs:=#[.bool a0_0,.bool a0_1,.slice A0_2 l0_2.length c0_2,.slice A0_3 l0_3.length c0_3,.slice A0_4 l0_4.length c0_4,.slice A0_5 l0_5.length c0_5,.slice A0_6 l0_6.length c0_6,.bool a0_7,.bool a0_8]) (t:=25) ?hr ?_;(case hd=>rfl);(case hg=>rfl);(case hr=>first|(go_simp;done)|(go_simp;rfl)|((first|(obtain ⟨_,_,rfl⟩:=Kd.R_slice HO225.out)|(obtain ⟨_,_,rfl⟩:=Kd.S_slice HO225.out)|skip);first|(go_simp;done)|(go_simp;rfl)));intro gb222 hg w38 hbox hb;have n0_:=A_ (bp_ (by repeat (first|(with_reducible first|exact HB.out|apply ba_|apply pd_|apply b1_)|exact HB.out)) hb);have n1_:=A_ (hbox);have n2_:=A_ ((by rw [hg];exact (bz_ (by repeat (first|(with_reducible first|exact HB.out|apply ba_|apply pd_|apply b1_)|exact HB.out))):w.heap.size≤gb222));have n3_:=A_ ((by rw [hg];exact (bz_ (by repeat (first|(with_reducible first|exact HB.out|apply ba_|apply pd_|apply b1_)|exact HB.out))):w.heap.size≤gb222));clear HB;have HB:=n0_;have BK222:=n1_;have GW222:=n2_;have GE222:=n3_;clear n0_ n1_ n2_ n3_;clear hb hbox hg)|((with_reducible refine gate_dst (N:=9) rfl ?_);refine Kd.R_lit Kd.string _ 9 ?hg (N:=9) ?hd (xs:=([a2]:List ByteArray)) (inner:=[.string a2]) (ok:=fun _=>True) (okp:=fun _=>True) ?hr ?hp (fun _ hk=>hk) trivial (Below.refl _ _) (Nat.le_refl _) (by simp) ?_;(case hd=>rfl);(case hg=>rfl);(case hr=>first|(go_simp;done)|(go_simp;rfl)|((first|(obtain ⟨_,_,rfl⟩:=Kd.R_slice HO225.out)|(obtain ⟨_,_,rfl⟩:=Kd.S_slice HO225.out)|skip);first|(go_simp;done)|(go_simp;rfl)));(case hp=>exact (Reps.one (show Kd.M Kd.string _ _ _ a2 [.string a2] from rfl) (Reps.none _ _)));intro v224 w39 ho40 hb hg_ hnew_;clear hg_ hnew_;(first|rw [←Ny223.out] at ho40|(simp only [Int.reduceToNat] at ho40;rw [←Ny223.out] at ho40));have n0_:=A_ (Kd.R_lower ho40 (bz_ (by repeat (first|(with_reducible first|exact HB.out|apply ba_|apply pd_|apply b1_|refine bs_ ?_ GE222.out)|exact HB.out))));have n1_:=A_ (kb_ (g:=gb222) (o:=.cells #[.bool a0_0,.bool a0_1,.slice A0_2 l0_2.length c0_2,.slice A0_3 l0_3.length c0_3,.slice A0_4 l0_4.length c0_4,.slice A0_5 l0_5.length c0_5,.slice A0_6 l0_6.length c0_6,.bool a0_7,.bool a0_8] 25 (0,0)) (by (with_reducible repeat (first|refine kn_ ?_ _|refine kd_ ?_|refine ka_ ?_ _));exact BK222.out) hb);have n2_:=A_ (bp_ (by repeat (first|(with_reducible first|exact HB.out|apply ba_|apply pd_|apply b1_|refine bs_ ?_ GE222.out)|exact HB.out)) hb);clear BK222;clear HB;have HO225:=n0_;have BK222:=n1_;have HB:=n2_;clear n0_ n1_ n2_;clear hb ho40;obtain ⟨Ao41,co41,eo41⟩:=Kd.R_slice HO225.out;subst eo41)|((with_reducible refine gate_callee (f:=61) rfl ?_);refine goesL_ (some 10) rfl rfl Try.func61 (by kernel_rfl) rfl #[.slice Ao41 y223.length co41] rfl (by (try simp only [List.map_toArray,List.map_cons,List.map_nil]);first|done|rfl|(simp only [ld_,lt_];rfl)) ?_;(with_reducible refine (impl_isLong.calls _ _ y223 false _ ?side1 ?side2 A4.out).mono ?_);(case side1=>repeat (first|exact (Kd.R_reads' HO225.out).2.2|(with_reducible refine ca_ ?_ _)|(with_reducible refine cn_ ?_ _)|(with_reducible refine cd_ ?_)));(case side2=>exact (Kd.R_reads' HO225.out).2.1);rintro e w42 ⟨rfl,hb⟩;refine ⟨_,rfl,?_⟩;have n0_:=A_ (Kd.R_below (by (with_reducible repeat (first|apply Kd.R_alloc|apply Kd.R_drewN|apply Kd.R_drew));exact HO225.out) hb);have n1_:=A_ (kb_ (g:=gb222) (o:=.cells #[.bool a0_0,.bool a0_1,.slice A0_2 l0_2.length c0_2,.slice A0_3 l0_3.length c0_3,.slice A0_4 l0_4.length c0_4,.slice A0_5 l0_5.length c0_5,.slice A0_6 l0_6.length c0_6,.bool a0_7,.bool a0_8] 25 (0,0)) (by (with_reducible repeat (first|refine kn_ ?_ _|refine kd_ ?_|refine ka_ ?_ _));exact BK222.out) hb);have n2_:=A_ (bp_ (by repeat (first|(with_reducible first|exact HB.out|apply ba_|apply pd_|apply b1_|refine bs_ ?_ GE222.out)|exact HB.out)) hb);clear HO225;clear BK222;clear HB;have HO225:=n0_;have BK222:=n1_;have HB:=n2_;clear n0_ n1_ n2_;(try clear hb);(try clear hb2);(try clear hk);(try clear hi);have hcz43_0:w42.cell? ⟨gb222,0,none⟩=some (.bool a0_0):=(bc_ BK222.out 0).trans rfl;have hcz43_1:w42.cell? ⟨gb222,1,none⟩=some (.bool a0_1):=(bc_ BK222.out 1).trans rfl;have hcz43_2:w42.cell? ⟨gb222,2,none⟩=some (.slice A0_2 l0_2.length c0_2):=(bc_ BK222.out 2).trans rfl;have hcz43_3:w42.cell? ⟨gb222,3,none⟩=some (.slice A0_3 l0_3.length c0_3):=(bc_ BK222.out 3).trans rfl;have hcz43_4:w42.cell? ⟨gb222,4,none⟩=some (.slice A0_4 l0_4.length c0_4):=(bc_ BK222.out 4).trans rfl;have hcz43_5:w42.cell? ⟨gb222,5,none⟩=some (.slice A0_5 l0_5.length c0_5):=(bc_ BK222.out 5).trans rfl;have hcz43_6:w42.cell? ⟨gb222,6,none⟩=some (.slice A0_6 l0_6.length c0_6):=(bc_ BK222.out 6).trans rfl;have hcz43_7:w42.cell? ⟨gb222,7,none⟩=some (.bool a0_7):=(bc_ BK222.out 7).trans rfl;have hcz43_8:w42.cell? ⟨gb222,8,none⟩=some (.bool a0_8):=(bc_ BK222.out 8).trans rfl;have hfz43_0:=bf_ BK222.out 0;have hfz43_1:=bf_ BK222.out 1;have hfz43_2:=bf_ BK222.out 2;have hfz43_3:=bf_ BK222.out 3;have hfz43_4:=bf_ BK222.out 4;have hfz43_5:=bf_ BK222.out 5;have hfz43_6:=bf_ BK222.out 6;have hfz43_7:=bf_ BK222.out 7;have hfz43_8:=bf_ BK222.out 8)|((with_reducible refine gate_callee (f:=79) rfl ?_);refine goesL_ (some 12) rfl rfl Try.func79 (by kernel_rfl) rfl #[.agg #[.bool a0_0,.bool a0_1,.slice A0_2 l0_2.length c0_2,.slice A0_3 l0_3.length c0_3,.slice A0_4 l0_4.length c0_4,.slice A0_5 l0_5.length c0_5,.slice A0_6 l0_6.length c0_6,.bool a0_7,.bool a0_8]] rfl (by (try simp only [List.map_toArray,List.map_cons,List.map_nil]);first|done|rfl|(simp only [ld_,lt_];rfl)) ?_;(with_reducible refine (impl_CheckConfig.calls k a0_0 a0_1 _ _ l0_2 _ _ l0_3 _ _ l0_4 _ _ l0_5 _ _ l0_6 a0_7 a0_8 t227 _ ?side1 ?side2 ?side3 ?side4 ?side5 ?side6 ?side7 ?side8 ?side9 ?side10 A11.out).mono ?_);(case side1=>repeat (first|exact (cb_ HR0_2.out HB.out)|(with_reducible refine ca_ ?_ _)|(with_reducible refine cn_ ?_ _)|(with_reducible refine cd_ ?_)));(case side2=>exact HC0_2.out);(case side3=>repeat (first|exact (cb_ HR0_3.out HB.out)|(with_reducible refine ca_ ?_ _)|(with_reducible refine cn_ ?_ _)|(with_reducible refine cd_ ?_)));(case side4=>exact HC0_3.out);(case side5=>repeat (first|exact (cb_ HR0_4.out HB.out)|(with_reducible refine ca_ ?_ _)|(with_reducible refine cn_ ?_ _)|(with_reducible refine cd_ ?_)));(case side6=>exact HC0_4.out);(case side7=>repeat (first|exact (cb_ HR0_5.out HB.out)|(with_reducible refine ca_ ?_ _)|(with_reducible refine cn_ ?_ _)|(with_reducible refine cd_ ?_)));(case side8=>exact HC0_5.out);(case side9=>repeat (first|exact (cb_ HR0_6.out HB.out)|(with_reducible refine ca_ ?_ _)|(with_reducible refine cn_ ?_ _)|(with_reducible refine cd_ ?_)));(case side10=>exact HC0_6.out);rintro e w44 ⟨rfl,hb⟩;refine ⟨_,rfl,?_⟩;have n0_:=A_ (Kd.R_below (by (with_reducible repeat (first|apply Kd.R_alloc|apply Kd.R_drewN|apply Kd.R_drew));exact HO225.out) hb);have n1_:=A_ (kb_ (g:=gb222) (o:=.cells #[.bool a0_0,.bool a0_1,.slice A0_2 l0_2.length c0_2,.slice A0_3 l0_3.length c0_3,.slice A0_4 l0_4.length c0_4,.slice A0_5 l0_5.length c0_5,.slice A0_6 l0_6.length c0_6,.bool a0_7,.bool a0_8] 25 (0,0)) (by (with_reducible repeat (first|refine kn_ ?_ _|refine kd_ ?_|refine ka_ ?_ _));exact BK222.out) hb);have n2_:=A_ (bp_ (by repeat (first|(with_reducible first|exact HB.out|apply ba_|apply pd_|apply b1_|refine bs_ ?_ GE222.out)|exact HB.out)) hb);clear HO225;clear BK222;clear HB;have HO225:=n0_;have BK222:=n1_;have HB:=n2_;clear n0_ n1_ n2_;(try clear hb);(try clear hb2);(try clear hk);(try clear hi)))
   go_ret
   exact ⟨by first|rfl|(simp [errW_none,errW_some] <;> rfl)|(simp [*,errW_none,errW_some] <;> rfl),by repeat (first|(with_reducible first|exact HB.out|apply ba_|apply pd_|apply b1_|refine bs_ ?_ GE222.out)|exact HB.out)⟩
/-! ### impl_isAttr: function 51 -/
def impl_isAttr.f (k:Nat) (a0_0:ByteArray) (a0_1:ByteArray):Option (Bool):=(impl_TagOK.f k a0_0).bind fun t231=>(if t231=true then (some (decide ((a0_1.size:Int)≤40))) else (some false))
theorem impl_isAttr.mono:∀ a0 a1 k,LeO (impl_isAttr.f k a0 a1) (impl_isAttr.f (k+1) a0 a1):=by
 intro a0 a1 k
 unfold impl_isAttr.f
 repeat' first
  | (with_reducible exact impl_TagOK.mono _ _)
  | (with_reducible exact LeO.refl _)
  | (with_reducible exact LeO.none _)
  | (with_reducible refine LeO.ite ?_ ?_)
  | (with_reducible refine LeO.bind ?_ (fun _=>?_))
  | exact impl_TagOK.mono _ _
  | exact LeO.none _
  | refine LeO.ite ?_ ?_
  | refine LeO.bind ?_ (fun _=>?_)
set_option maxHeartbeats 8000000 in
set_option maxRecDepth 100000 in
theorem impl_isAttr.calls (k:Nat) (a0_0:ByteArray) (a0_1:ByteArray) (r:Bool) (w:World) (h:impl_isAttr.f k a0_0 a0_1=some r) :
 Calls Try.prog 51 #[.agg #[.string a0_0,.string a0_1]] w fun e w'=>e=.returned (.bool r)∧Below w.heap.size w w':=by
 have hu51:=Try.underlying51
 have HB:=A_ (Below.refl w.heap.size w)
 have H:((impl_TagOK.f k a0_0).bind fun t231=>(if t231=true then (some (decide ((a0_1.size:Int)≤40))) else (some false)))=some r:=h
 clear h
 replace H:=ob_ H
 obtain ⟨t231,A20,H⟩:=H
 replace H:(if t231=true then (some (decide ((a0_1.size:Int)≤40))) else (some false))=some r:=H
 have A2:=A_ A20
 clear A20
 by_cases c3:t231=true
 ·subst c3
  have H1:(some (decide ((a0_1.size:Int)≤40)))=some r:=by rw [if_pos rfl] at H;exact H
  clear H
  have H:=H1
  clear H1
  obtain rfl:=oi_ H
  go_enter Try.func51,Try.ntmps51
  go_wp2_with (first|((with_reducible refine gate_dst (N:=1) rfl ?_);(try (refine gate_guard (by rfl) ?_;dsimp only));refine box_event ?hg (N:=1) ?hd (cs:=#[.string a0_0,.string a0_1]) (t:=51) ?hr ?_;(case hd=>rfl);(case hg=>rfl);(case hr=>first|(go_simp;done)|(go_simp;rfl));intro gb230 hg w4 hbox hb;have n0_:=A_ (bp_ (by repeat (first|(with_reducible first|exact HB.out|apply ba_|apply pd_|apply b1_)|exact HB.out)) hb);have n1_:=A_ (hbox);have n2_:=A_ ((by rw [hg];exact (bz_ (by repeat (first|(with_reducible first|exact HB.out|apply ba_|apply pd_|apply b1_)|exact HB.out))):w.heap.size≤gb230));have n3_:=A_ ((by rw [hg];exact (bz_ (by repeat (first|(with_reducible first|exact HB.out|apply ba_|apply pd_|apply b1_)|exact HB.out))):w.heap.size≤gb230));clear HB;have HB:=n0_;have BK230:=n1_;have GW230:=n2_;have GE230:=n3_;clear n0_ n1_ n2_ n3_;clear hb hbox hg;have hcz5_0:w4.cell? ⟨gb230,0,none⟩=some (.string a0_0):=(bc_ BK230.out 0).trans rfl;have hcz5_1:w4.cell? ⟨gb230,1,none⟩=some (.string a0_1):=(bc_ BK230.out 1).trans rfl;have hfz5_0:=bf_ BK230.out 0;have hfz5_1:=bf_ BK230.out 1)|((with_reducible refine gate_callee (f:=64) rfl ?_);refine goesL_ (some 5) rfl rfl Try.func64 (by kernel_rfl) rfl #[.string a0_0] rfl (by (try simp only [List.map_toArray,List.map_cons,List.map_nil]);first|done|rfl|(simp only [ld_,lt_];rfl)) ?_;(with_reducible refine (impl_TagOK.calls k a0_0 true _ A2.out).mono ?_);rintro e w' ⟨rfl,⟨nd,rfl⟩⟩;refine ⟨_,rfl,?_⟩))
  go_ret
  exact ⟨by first|rfl|(simp [errW_none,errW_some] <;> rfl)|(simp [*,errW_none,errW_some] <;> rfl),by repeat (first|(with_reducible first|exact HB.out|apply ba_|apply pd_|apply b1_|refine bs_ ?_ GE230.out)|exact HB.out)⟩
 ·replace c3:=bm_ c3
  subst c3
  have H1:(some false)=some r:=by rw [if_neg (show ¬ (false=true) by decide)] at H;exact H
  clear H
  have H:=H1
  clear H1
  obtain rfl:=oi_ H
  go_enter Try.func51,Try.ntmps51
  go_wp2_with (first|((with_reducible refine gate_dst (N:=1) rfl ?_);(try (refine gate_guard (by rfl) ?_;dsimp only));refine box_event ?hg (N:=1) ?hd (cs:=#[.string a0_0,.string a0_1]) (t:=51) ?hr ?_;(case hd=>rfl);(case hg=>rfl);(case hr=>first|(go_simp;done)|(go_simp;rfl));intro gb230 hg w6 hbox hb;have n0_:=A_ (bp_ (by repeat (first|(with_reducible first|exact HB.out|apply ba_|apply pd_|apply b1_)|exact HB.out)) hb);have n1_:=A_ (hbox);have n2_:=A_ ((by rw [hg];exact (bz_ (by repeat (first|(with_reducible first|exact HB.out|apply ba_|apply pd_|apply b1_)|exact HB.out))):w.heap.size≤gb230));have n3_:=A_ ((by rw [hg];exact (bz_ (by repeat (first|(with_reducible first|exact HB.out|apply ba_|apply pd_|apply b1_)|exact HB.out))):w.heap.size≤gb230));clear HB;have HB:=n0_;have BK230:=n1_;have GW230:=n2_;have GE230:=n3_;clear n0_ n1_ n2_ n3_;clear hb hbox hg;have hcz7_0:w6.cell? ⟨gb230,0,none⟩=some (.string a0_0):=(bc_ BK230.out 0).trans rfl;have hcz7_1:w6.cell? ⟨gb230,1,none⟩=some (.string a0_1):=(bc_ BK230.out 1).trans rfl;have hfz7_0:=bf_ BK230.out 0;have hfz7_1:=bf_ BK230.out 1)|((with_reducible refine gate_callee (f:=64) rfl ?_);refine goesL_ (some 5) rfl rfl Try.func64 (by kernel_rfl) rfl #[.string a0_0] rfl (by (try simp only [List.map_toArray,List.map_cons,List.map_nil]);first|done|rfl|(simp only [ld_,lt_];rfl)) ?_;(with_reducible refine (impl_TagOK.calls k a0_0 false _ A2.out).mono ?_);rintro e w' ⟨rfl,⟨nd,rfl⟩⟩;refine ⟨_,rfl,?_⟩))
  go_ret
  exact ⟨by first|rfl|(simp [errW_none,errW_some] <;> rfl)|(simp [*,errW_none,errW_some] <;> rfl),by repeat (first|(with_reducible first|exact HB.out|apply ba_|apply pd_|apply b1_|refine bs_ ?_ GE230.out)|exact HB.out)⟩
def isAttrB (a:S51):Bool:=Kit.isTag a.f0 && decide (a.f1.size≤40)
theorem impl_isAttr.pure (a:S51) (hs:a.f0.size≤9223372036854775807) (W:World):Calls Try.prog 51 #[.agg #[.string a.f0,.string a.f1]] W fun e w'=>e=.returned (.bool (isAttrB a))∧Below W.heap.size W w':=by
 obtain ⟨K,hK⟩:=ev_tag_impl a.f0 hs
 refine impl_isAttr.calls K a.f0 a.f1 _ W ?_
 unfold impl_isAttr.f isAttrB
 have hK1:impl_TagOK.f K a.f0=some (Kit.isTag a.f0):=hK K (Nat.le_refl _)
 rw [hK1,Option.bind_some]
 cases Kit.isTag a.f0 with
 | false=>rfl
 | true =>
  rw [if_pos rfl,Bool.true_and]
  congr 1
  rw [decide_eq_decide]
  omega
/-! ### stringslite_HasPrefix: function 101 -/
def stringslite_HasPrefix.f (a0:ByteArray) (a1:ByteArray):Option (Bool):=if (a0.size:Int)≥(a1.size:Int) then (if 0≤(a1.size:Int) then (if (a1.size:Int)≤(a0.size:Int) then (some ((a0.extract 0 ((a1.size:Int):Int).toNat).toList == a1.toList)) else (none)) else (none)) else (some false)
set_option maxHeartbeats 8000000 in
set_option maxRecDepth 100000 in
theorem stringslite_HasPrefix.calls (a0:ByteArray) (a1:ByteArray) (r:Bool) (w:World) (h:stringslite_HasPrefix.f a0 a1=some r) :
 Calls Try.prog 101 #[.string a0,.string a1] w fun e w'=>e=.returned (.bool r)∧Drawn0 w w':=by
 have H:(if (a0.size:Int)≥(a1.size:Int) then (if 0≤(a1.size:Int) then (if (a1.size:Int)≤(a0.size:Int) then (some ((a0.extract 0 ((a1.size:Int):Int).toNat).toList == a1.toList)) else (none)) else (none)) else (some false))=some r:=h
 clear h
 by_cases c3:(a0.size:Int)≥(a1.size:Int)
 ·rw [if_pos c3] at H
  have c3b0:decide ((a1.size:Int)≤(a0.size:Int))=true:=dt_ c3
  have c3b1:decide (a1.size≤a0.size)=true:=dt_ (Int.ofNat_le.mp c3)
  clear c3
  by_cases c4:0≤(a1.size:Int)
  ·rw [if_pos c4] at H
   have c4b0:=eq_true c4
   have c4b1:decide (0≤(a1.size:Int))=true:=dt_ c4
   clear c4
   by_cases c5:(a1.size:Int)≤(a0.size:Int)
   ·rw [if_pos c5] at H
    have c5b0:=eq_true c5
    have c5b1:decide ((a1.size:Int)≤(a0.size:Int))=true:=dt_ c5
    clear c5
    obtain rfl:=oi_ H
    go_enter Try.func101,Try.ntmps101
    go_wp2
    go_ret
    exact ⟨by first|rfl|(simp;done)|(simp [*];done),by repeat (first|exact dr_ _|apply dp_)⟩
   ·rw [if_neg c5] at H
    exact absurd H (by simp)
  ·rw [if_neg c4] at H
   exact absurd H (by simp)
 ·rw [if_neg c3] at H
  have c3b0:decide ((a1.size:Int)≤(a0.size:Int))=false:=df_ c3
  have c3b1:decide (a1.size≤a0.size)=false:=df_ (fun h=>c3 (Int.ofNat_le.mpr h))
  clear c3
  obtain rfl:=oi_ H
  go_enter Try.func101,Try.ntmps101
  go_wp2
  go_ret
  exact ⟨by first|rfl|(simp;done)|(simp [*];done),by repeat (first|exact dr_ _|apply dp_)⟩
/-! ### strings_HasPrefix: function 81 -/
def strings_HasPrefix.f (a0:ByteArray) (a1:ByteArray):Option (Bool):=(stringslite_HasPrefix.f a0 a1).bind fun t232=>(some t232)
set_option maxHeartbeats 8000000 in
set_option maxRecDepth 100000 in
theorem strings_HasPrefix.calls (a0:ByteArray) (a1:ByteArray) (r:Bool) (w:World) (h:strings_HasPrefix.f a0 a1=some r) :
 Calls Try.prog 81 #[.string a0,.string a1] w fun e w'=>e=.returned (.bool r)∧Drawn0 w w':=by
 have H:((stringslite_HasPrefix.f a0 a1).bind fun t232=>(some t232))=some r:=h
 clear h
 replace H:=ob_ H
 obtain ⟨t232,A30,H⟩:=H
 replace H:(some t232)=some r:=H
 have A3:=A_ A30
 clear A30
 obtain rfl:=oi_ H
 go_enter Try.func81,Try.ntmps81
 go_wp2_with (first|((with_reducible refine gate_callee (f:=101) rfl ?_);refine goesL_ (some 7) rfl rfl Try.func101 (by kernel_rfl) rfl #[.string a0,.string a1] rfl (by (try simp only [List.map_toArray,List.map_cons,List.map_nil]);first|done|rfl|(simp only [ld_,lt_];rfl)) ?_;(with_reducible refine (stringslite_HasPrefix.calls a0 a1 t232 _ A3.out).mono ?_);rintro e w' ⟨rfl,⟨nd,rfl⟩⟩;refine ⟨_,rfl,?_⟩))
 go_ret
 exact ⟨by first|rfl|(simp;done)|(simp [*];done),by repeat (first|exact dr_ _|apply dp_)⟩
/-! ### impl_IsHandler: function 98 -/
def impl_IsHandler.f (a0:ByteArray):Option (Bool):=(impl_isLong.f (([a0]:List ByteArray))).bind fun t236=>(if t236=true then (some false) else (if (a0.size:Int)>2 then ((strings_HasPrefix.f a0 (⟨#[111,110]⟩:ByteArray)).bind fun t237=>(some t237)) else (some false)))
set_option maxHeartbeats 8000000 in
set_option maxRecDepth 100000 in
theorem impl_IsHandler.calls (a0:ByteArray) (r:Bool) (w:World) (h:impl_IsHandler.f a0=some r) :
 Calls Try.prog 98 #[.string a0] w fun e w'=>e=.returned (.bool r)∧Below w.heap.size w w':=by
 have HB:=A_ (Below.refl w.heap.size w)
 have H:((impl_isLong.f (([a0]:List ByteArray))).bind fun t236=>(if t236=true then (some false) else (if (a0.size:Int)>2 then ((strings_HasPrefix.f a0 (⟨#[111,110]⟩:ByteArray)).bind fun t237=>(some t237)) else (some false))))=some r:=h
 clear h
 obtain ⟨y233,hy233⟩:∃ y_:List ByteArray,y_=(([a0]:List ByteArray)):=⟨_,rfl⟩
 replace H:((impl_isLong.f y233).bind fun t236=>(if t236=true then (some false) else (if (a0.size:Int)>2 then ((strings_HasPrefix.f a0 (⟨#[111,110]⟩:ByteArray)).bind fun t237=>(some t237)) else (some false))))=some r:=by first|(rw [hy233];with_reducible exact H)|(have H2_:=(Option.bind_some _ _).symm.trans H;rw [hy233];with_reducible exact H2_)|(have H2_:=(Option.bind_some _ _).symm.trans H;with_reducible exact H2_)|with_reducible exact H|(rw [hy233];exact H)|exact H
 have Ny233:=A_ hy233
 clear hy233
 replace H:=ob_ H
 obtain ⟨t236,A20,H⟩:=H
 replace H:(if t236=true then (some false) else (if (a0.size:Int)>2 then ((strings_HasPrefix.f a0 (⟨#[111,110]⟩:ByteArray)).bind fun t237=>(some t237)) else (some false)))=some r:=H
 have A2:=A_ A20
 clear A20
 by_cases c3:t236=true
 ·subst c3
  have H1:(some false)=some r:=by rw [if_pos rfl] at H;exact H
  clear H
  have H:=H1
  clear H1
  obtain rfl:=oi_ H
  go_enter Try.func98,Try.ntmps98
  go_wp2_with (first|((with_reducible refine gate_dst (N:=4) rfl ?_);(try (refine gate_guard (by rfl) ?_;dsimp only));refine Kd.R_lit Kd.string _ 9 ?hg (N:=4) ?hd (xs:=([a0]:List ByteArray)) (inner:=[.string a0]) (ok:=fun _=>True) (okp:=fun _=>True) ?hr ?hp (fun _ hk=>hk) trivial (Below.refl _ _) (Nat.le_refl _) (by simp) ?_;(case hd=>rfl);(case hg=>rfl);(case hr=>first|(go_simp;done)|(go_simp;rfl)|(first|(go_simp;done)|(go_simp;rfl)));(case hp=>exact (Reps.one (show Kd.M Kd.string _ _ _ a0 [.string a0] from rfl) (Reps.none _ _)));intro v234 w4 ho5 hb hg_ hnew_;clear hg_ hnew_;(first|rw [←Ny233.out] at ho5|(simp only [Int.reduceToNat] at ho5;rw [←Ny233.out] at ho5));have n0_:=A_ (Kd.R_lower ho5 (bz_ (by repeat (first|(with_reducible first|exact HB.out|apply ba_|apply pd_|apply b1_)|exact HB.out))));have n1_:=A_ (bp_ (by repeat (first|(with_reducible first|exact HB.out|apply ba_|apply pd_|apply b1_)|exact HB.out)) hb);clear HB;have HO235:=n0_;have HB:=n1_;clear n0_ n1_;clear hb ho5;obtain ⟨Ao6,co6,eo6⟩:=Kd.R_slice HO235.out;subst eo6)|((with_reducible refine gate_callee (f:=61) rfl ?_);refine goesL_ (some 5) rfl rfl Try.func61 (by kernel_rfl) rfl #[.slice Ao6 y233.length co6] rfl (by (try simp only [List.map_toArray,List.map_cons,List.map_nil]);first|done|rfl|(simp only [ld_,lt_];rfl)) ?_;(with_reducible refine (impl_isLong.calls _ _ y233 true _ ?side1 ?side2 A2.out).mono ?_);(case side1=>repeat (first|exact (Kd.R_reads' HO235.out).2.2|(with_reducible refine ca_ ?_ _)|(with_reducible refine cn_ ?_ _)|(with_reducible refine cd_ ?_)));(case side2=>exact (Kd.R_reads' HO235.out).2.1);rintro e w7 ⟨rfl,hb⟩;refine ⟨_,rfl,?_⟩;have n0_:=A_ (Kd.R_below (by (with_reducible repeat (first|apply Kd.R_alloc|apply Kd.R_drewN|apply Kd.R_drew));exact HO235.out) hb);have n1_:=A_ (bp_ (by repeat (first|(with_reducible first|exact HB.out|apply ba_|apply pd_|apply b1_)|exact HB.out)) hb);clear HO235;clear HB;have HO235:=n0_;have HB:=n1_;clear n0_ n1_;(try clear hb);(try clear hb2);(try clear hk);(try clear hi)))
  go_ret
  exact ⟨by first|rfl|(simp [errW_none,errW_some] <;> rfl)|(simp [*,errW_none,errW_some] <;> rfl),by repeat (first|(with_reducible first|exact HB.out|apply ba_|apply pd_|apply b1_)|exact HB.out)⟩
 ·replace c3:=bm_ c3
  subst c3
  have H1:(if (a0.size:Int)>2 then ((strings_HasPrefix.f a0 (⟨#[111,110]⟩:ByteArray)).bind fun t237=>(some t237)) else (some false))=some r:=by rw [if_neg (show ¬ (false=true) by decide)] at H;exact H
  clear H
  have H:=H1
  clear H1
  by_cases c8:(a0.size:Int)>2
  ·rw [if_pos c8] at H
   have c8b0:decide (2<(a0.size:Int))=true:=dt_ c8
   have c8b1:decide (2<a0.size)=true:=dt_ (by omega)
   clear c8
   replace H:=ob_ H
   obtain ⟨t237,A90,H⟩:=H
   replace H:(some t237)=some r:=H
   have A9:=A_ A90
   clear A90
   obtain rfl:=oi_ H
   go_enter Try.func98,Try.ntmps98
   go_wp2_with (first|((with_reducible refine gate_dst (N:=4) rfl ?_);(try (refine gate_guard (by rfl) ?_;dsimp only));refine Kd.R_lit Kd.string _ 9 ?hg (N:=4) ?hd (xs:=([a0]:List ByteArray)) (inner:=[.string a0]) (ok:=fun _=>True) (okp:=fun _=>True) ?hr ?hp (fun _ hk=>hk) trivial (Below.refl _ _) (Nat.le_refl _) (by simp) ?_;(case hd=>rfl);(case hg=>rfl);(case hr=>first|(go_simp;done)|(go_simp;rfl)|((first|(obtain ⟨_,_,rfl⟩:=Kd.R_slice HO235.out)|(obtain ⟨_,_,rfl⟩:=Kd.S_slice HO235.out)|skip);first|(go_simp;done)|(go_simp;rfl)));(case hp=>exact (Reps.one (show Kd.M Kd.string _ _ _ a0 [.string a0] from rfl) (Reps.none _ _)));intro v234 w10 ho11 hb hg_ hnew_;clear hg_ hnew_;(first|rw [←Ny233.out] at ho11|(simp only [Int.reduceToNat] at ho11;rw [←Ny233.out] at ho11));have n0_:=A_ (Kd.R_lower ho11 (bz_ (by repeat (first|(with_reducible first|exact HB.out|apply ba_|apply pd_|apply b1_)|exact HB.out))));have n1_:=A_ (bp_ (by repeat (first|(with_reducible first|exact HB.out|apply ba_|apply pd_|apply b1_)|exact HB.out)) hb);clear HB;have HO235:=n0_;have HB:=n1_;clear n0_ n1_;clear hb ho11;obtain ⟨Ao12,co12,eo12⟩:=Kd.R_slice HO235.out;subst eo12)|((with_reducible refine gate_callee (f:=61) rfl ?_);refine goesL_ (some 5) rfl rfl Try.func61 (by kernel_rfl) rfl #[.slice Ao12 y233.length co12] rfl (by (try simp only [List.map_toArray,List.map_cons,List.map_nil]);first|done|rfl|(simp only [ld_,lt_];rfl)) ?_;(with_reducible refine (impl_isLong.calls _ _ y233 false _ ?side1 ?side2 A2.out).mono ?_);(case side1=>repeat (first|exact (Kd.R_reads' HO235.out).2.2|(with_reducible refine ca_ ?_ _)|(with_reducible refine cn_ ?_ _)|(with_reducible refine cd_ ?_)));(case side2=>exact (Kd.R_reads' HO235.out).2.1);rintro e w13 ⟨rfl,hb⟩;refine ⟨_,rfl,?_⟩;have n0_:=A_ (Kd.R_below (by (with_reducible repeat (first|apply Kd.R_alloc|apply Kd.R_drewN|apply Kd.R_drew));exact HO235.out) hb);have n1_:=A_ (bp_ (by repeat (first|(with_reducible first|exact HB.out|apply ba_|apply pd_|apply b1_)|exact HB.out)) hb);clear HO235;clear HB;have HO235:=n0_;have HB:=n1_;clear n0_ n1_;(try clear hb);(try clear hb2);(try clear hk);(try clear hi))|(go_at_call 81;(with_reducible refine (strings_HasPrefix.calls a0 (⟨#[111,110]⟩:ByteArray) t237 _ A9.out).mono ?_);rintro e w' ⟨rfl,⟨nd,rfl⟩⟩))
   go_ret
   exact ⟨by first|rfl|(simp [errW_none,errW_some] <;> rfl)|(simp [*,errW_none,errW_some] <;> rfl),by repeat (first|(with_reducible first|exact HB.out|apply ba_|apply pd_|apply b1_)|exact HB.out)⟩
  ·rw [if_neg c8] at H
   have c8b0:decide (2<(a0.size:Int))=false:=df_ c8
   have c8b1:decide (2<a0.size)=false:=df_ (by omega)
   clear c8
   obtain rfl:=oi_ H
   go_enter Try.func98,Try.ntmps98
   go_wp2_with (first|((with_reducible refine gate_dst (N:=4) rfl ?_);(try (refine gate_guard (by rfl) ?_;dsimp only));refine Kd.R_lit Kd.string _ 9 ?hg (N:=4) ?hd (xs:=([a0]:List ByteArray)) (inner:=[.string a0]) (ok:=fun _=>True) (okp:=fun _=>True) ?hr ?hp (fun _ hk=>hk) trivial (Below.refl _ _) (Nat.le_refl _) (by simp) ?_;(case hd=>rfl);(case hg=>rfl);(case hr=>first|(go_simp;done)|(go_simp;rfl)|((first|(obtain ⟨_,_,rfl⟩:=Kd.R_slice HO235.out)|(obtain ⟨_,_,rfl⟩:=Kd.S_slice HO235.out)|skip);first|(go_simp;done)|(go_simp;rfl)));(case hp=>exact (Reps.one (show Kd.M Kd.string _ _ _ a0 [.string a0] from rfl) (Reps.none _ _)));intro v234 w14 ho15 hb hg_ hnew_;clear hg_ hnew_;(first|rw [←Ny233.out] at ho15|(simp only [Int.reduceToNat] at ho15;rw [←Ny233.out] at ho15));have n0_:=A_ (Kd.R_lower ho15 (bz_ (by repeat (first|(with_reducible first|exact HB.out|apply ba_|apply pd_|apply b1_)|exact HB.out))));have n1_:=A_ (bp_ (by repeat (first|(with_reducible first|exact HB.out|apply ba_|apply pd_|apply b1_)|exact HB.out)) hb);clear HB;have HO235:=n0_;have HB:=n1_;clear n0_ n1_;clear hb ho15;obtain ⟨Ao16,co16,eo16⟩:=Kd.R_slice HO235.out;subst eo16)|((with_reducible refine gate_callee (f:=61) rfl ?_);refine goesL_ (some 5) rfl rfl Try.func61 (by kernel_rfl) rfl #[.slice Ao16 y233.length co16] rfl (by (try simp only [List.map_toArray,List.map_cons,List.map_nil]);first|done|rfl|(simp only [ld_,lt_];rfl)) ?_;(with_reducible refine (impl_isLong.calls _ _ y233 false _ ?side1 ?side2 A2.out).mono ?_);(case side1=>repeat (first|exact (Kd.R_reads' HO235.out).2.2|(with_reducible refine ca_ ?_ _)|(with_reducible refine cn_ ?_ _)|(with_reducible refine cd_ ?_)));(case side2=>exact (Kd.R_reads' HO235.out).2.1);rintro e w17 ⟨rfl,hb⟩;refine ⟨_,rfl,?_⟩;have n0_:=A_ (Kd.R_below (by (with_reducible repeat (first|apply Kd.R_alloc|apply Kd.R_drewN|apply Kd.R_drew));exact HO235.out) hb);have n1_:=A_ (bp_ (by repeat (first|(with_reducible first|exact HB.out|apply ba_|apply pd_|apply b1_)|exact HB.out)) hb);clear HO235;clear HB;have HO235:=n0_;have HB:=n1_;clear n0_ n1_;(try clear hb);(try clear hb2);(try clear hk);(try clear hi)))
   go_ret
   exact ⟨by first|rfl|(simp [errW_none,errW_some] <;> rfl)|(simp [*,errW_none,errW_some] <;> rfl),by repeat (first|(with_reducible first|exact HB.out|apply ba_|apply pd_|apply b1_)|exact HB.out)⟩
/-! ### impl_IsLink: function 99 -/
def impl_IsLink.f (k:Nat) (a0:ByteArray):Option (Bool):=(slices_Contains_string_string.f k (([(⟨#[104,114,101,102]⟩:ByteArray),(⟨#[115,114,99]⟩:ByteArray),(⟨#[97,99,116,105,111,110]⟩:ByteArray),(⟨#[102,111,114,109,97,99,116,105,111,110]⟩:ByteArray),(⟨#[120,108,105,110,107,45,104,114,101,102]⟩:ByteArray)]:List ByteArray)) a0).bind fun t241=>(some t241)
theorem impl_IsLink.mono:∀ a0 k,LeO (impl_IsLink.f k a0) (impl_IsLink.f (k+1) a0):=by
 intro a0 k
 unfold impl_IsLink.f
 repeat' first
  | (with_reducible exact slices_Contains_string_string.mono _ _ _)
  | (with_reducible exact LeO.refl _)
  | (with_reducible exact LeO.none _)
  | (with_reducible refine LeO.ite ?_ ?_)
  | (with_reducible refine LeO.bind ?_ (fun _=>?_))
  | exact slices_Contains_string_string.mono _ _ _
  | exact LeO.none _
  | refine LeO.ite ?_ ?_
  | refine LeO.bind ?_ (fun _=>?_)
set_option maxHeartbeats 8000000 in
set_option maxRecDepth 100000 in
theorem impl_IsLink.calls (k:Nat) (a0:ByteArray) (r:Bool) (w:World) (h:impl_IsLink.f k a0=some r) :
 Calls Try.prog 99 #[.string a0] w fun e w'=>e=.returned (.bool r)∧Below w.heap.size w w':=by
 have HB:=A_ (Below.refl w.heap.size w)
 have H:((slices_Contains_string_string.f k (([(⟨#[104,114,101,102]⟩:ByteArray),(⟨#[115,114,99]⟩:ByteArray),(⟨#[97,99,116,105,111,110]⟩:ByteArray),(⟨#[102,111,114,109,97,99,116,105,111,110]⟩:ByteArray),(⟨#[120,108,105,110,107,45,104,114,101,102]⟩:ByteArray)]:List ByteArray)) a0).bind fun t241=>(some t241))=some r:=h
 clear h
 obtain ⟨y238,hy238⟩:∃ y_:List ByteArray,y_=(([(⟨#[104,114,101,102]⟩:ByteArray),(⟨#[115,114,99]⟩:ByteArray),(⟨#[97,99,116,105,111,110]⟩:ByteArray),(⟨#[102,111,114,109,97,99,116,105,111,110]⟩:ByteArray),(⟨#[120,108,105,110,107,45,104,114,101,102]⟩:ByteArray)]:List ByteArray)):=⟨_,rfl⟩
 replace H:((slices_Contains_string_string.f k y238 a0).bind fun t241=>(some t241))=some r:=by first|(rw [hy238];with_reducible exact H)|(have H2_:=(Option.bind_some _ _).symm.trans H;rw [hy238];with_reducible exact H2_)|(have H2_:=(Option.bind_some _ _).symm.trans H;with_reducible exact H2_)|with_reducible exact H|(rw [hy238];exact H)|exact H
 have Ny238:=A_ hy238
 clear hy238
 replace H:=ob_ H
 obtain ⟨t241,A20,H⟩:=H
 replace H:(some t241)=some r:=H
 have A2:=A_ A20
 clear A20
 obtain rfl:=oi_ H
 go_enter Try.func99,Try.ntmps99
 go_wp2_with (first|((with_reducible refine gate_dst (N:=3) rfl ?_);refine Kd.R_lit Kd.string _ 9 ?hg (N:=3) ?hd (xs:=([(⟨#[104,114,101,102]⟩:ByteArray),(⟨#[115,114,99]⟩:ByteArray),(⟨#[97,99,116,105,111,110]⟩:ByteArray),(⟨#[102,111,114,109,97,99,116,105,111,110]⟩:ByteArray),(⟨#[120,108,105,110,107,45,104,114,101,102]⟩:ByteArray)]:List ByteArray)) (inner:=[.string (⟨#[104,114,101,102]⟩:ByteArray),.string (⟨#[115,114,99]⟩:ByteArray),.string (⟨#[97,99,116,105,111,110]⟩:ByteArray),.string (⟨#[102,111,114,109,97,99,116,105,111,110]⟩:ByteArray),.string (⟨#[120,108,105,110,107,45,104,114,101,102]⟩:ByteArray)]) (ok:=fun _=>True) (okp:=fun _=>True) ?hr ?hp (fun _ hk=>hk) trivial (Below.refl _ _) (Nat.le_refl _) (by simp) ?_;(case hd=>rfl);(case hg=>rfl);(case hr=>first|(go_simp;done)|(go_simp;rfl)|(first|(go_simp;done)|(go_simp;rfl)));(case hp=>exact (Reps.one (show Kd.M Kd.string _ _ _ (⟨#[104,114,101,102]⟩:ByteArray) [.string (⟨#[104,114,101,102]⟩:ByteArray)] from rfl) (Reps.one (show Kd.M Kd.string _ _ _ (⟨#[115,114,99]⟩:ByteArray) [.string (⟨#[115,114,99]⟩:ByteArray)] from rfl) (Reps.one (show Kd.M Kd.string _ _ _ (⟨#[97,99,116,105,111,110]⟩:ByteArray) [.string (⟨#[97,99,116,105,111,110]⟩:ByteArray)] from rfl) (Reps.one (show Kd.M Kd.string _ _ _ (⟨#[102,111,114,109,97,99,116,105,111,110]⟩:ByteArray) [.string (⟨#[102,111,114,109,97,99,116,105,111,110]⟩:ByteArray)] from rfl) (Reps.one (show Kd.M Kd.string _ _ _ (⟨#[120,108,105,110,107,45,104,114,101,102]⟩:ByteArray) [.string (⟨#[120,108,105,110,107,45,104,114,101,102]⟩:ByteArray)] from rfl) (Reps.none _ _)))))));intro v239 w3 ho4 hb hg_ hnew_;clear hg_ hnew_;(first|rw [←Ny238.out] at ho4|(simp only [Int.reduceToNat] at ho4;rw [←Ny238.out] at ho4));have n0_:=A_ (Kd.R_lower ho4 (bz_ (by repeat (first|(with_reducible first|exact HB.out|apply ba_|apply pd_|apply b1_)|exact HB.out))));have n1_:=A_ (bp_ (by repeat (first|(with_reducible first|exact HB.out|apply ba_|apply pd_|apply b1_)|exact HB.out)) hb);clear HB;have HO240:=n0_;have HB:=n1_;clear n0_ n1_;clear hb ho4;obtain ⟨Ao5,co5,eo5⟩:=Kd.R_slice HO240.out;subst eo5)|((with_reducible refine gate_callee (f:=67) rfl ?_);refine goesL_ (some 5) rfl rfl Try.func67 (by kernel_rfl) rfl #[.slice Ao5 y238.length co5,.string a0] rfl (by (try simp only [List.map_toArray,List.map_cons,List.map_nil]);first|done|rfl|(simp only [ld_,lt_];rfl)) ?_;(with_reducible refine (slices_Contains_string_string.calls k _ _ y238 a0 t241 _ ?side1 ?side2 A2.out).mono ?_);(case side1=>repeat (first|exact (Kd.R_reads' HO240.out).2.2|(with_reducible refine ca_ ?_ _)|(with_reducible refine cn_ ?_ _)|(with_reducible refine cd_ ?_)));(case side2=>exact (Kd.R_reads' HO240.out).2.1);rintro e w' ⟨rfl,⟨nd,rfl⟩⟩;refine ⟨_,rfl,?_⟩))
 go_ret
 exact ⟨by first|rfl|(simp [errW_none,errW_some] <;> rfl)|(simp [*,errW_none,errW_some] <;> rfl),by repeat (first|(with_reducible first|exact HB.out|apply ba_|apply pd_|apply b1_)|exact HB.out)⟩
end Go.Proofs.Ytmeafbneklphnaa.PFnExactAllowsAttr
