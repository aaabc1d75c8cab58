/- By a program of this session, out of the kit's print and contracts made by hand: the machine side of a law; Lean checks it. No conditions. -/
import Derived.Test.YtmeafbneklphnaaPFnExactAllowsAttrx0
import Derived.Test.YtmeafbneklphnaaPFnExactAllowsAttrx4
import Derived.Test.YtmeafbneklphnaaPFnExactAllowsAttrx5
import Derived.Test.YtmeafbneklphnaaPFnExactAllowsAttrx6
import Derived.Test.YtmeafbneklphnaaPFnExactAllowsAttrx7
namespace Go.Proofs.Ytmeafbneklphnaa.PFnExactAllowsAttr
open Go.RowKit Go.Proofs.YtmeafbneklphnaaW.PrintWords Go.Proofs.YtmeafbneklphnaaW.PrintLast Go.Proofs.YtmeafbneklphnaaW.PrintMore
attribute [local go_sem] max2_int min2_int max_two min_two max_three min_three max_four min_four
set_option linter.unusedVariables false
set_option linter.unusedSimpArgs false
/-! ### spec_l07Check: function 73, by hand -/
theorem quietD3 {P:Program} {f:FuncId} {args:Array Value} {W:World} {m:Nat} {v:Value} (h:Calls P f args (W.drewN m) fun e w'=>e=.returned v∧Drawn0 (W.drewN m) w'):Calls P f args (W.drewN m) fun e w'=>e=.returned v∧∃ n,w'=W.drewN n :=
 h.mono fun _ _ ⟨he,⟨⟨n,hn⟩⟩⟩=>⟨he,m+n,by rw [hn,ww_]⟩
/-- What stands behind the rules' own faults. -/
def unwrapB (allow remove:List S56) (x:S56):Bool:=isIn allow x || isIn remove x
def attrsB (h1:Bool) (attrs:List ByteArray) (x:S56):Bool:=x.f2.any fun n=>!h1 || Kit.hasT attrs n
def restI (h0 h1:Bool) (allow remove unwrap:List S56) (attrs drop:List ByteArray) (data:Bool):Int :=
 if contraB h0 h1 allow remove attrs drop data=true then 13 else if unwrap.any (unwrapB allow remove)=true then 13 else if allow.any (attrsB h1 attrs)=true then 13 else 0
def spec_l07Check.f (k:Nat) (a0_0 a0_1:Bool) (l0_2 l0_3 l0_4:List S56) (l0_5 l0_6:List ByteArray) (_a0_7 a0_8:Bool):Option Int :=
 (spec_l07Rules.f k l0_2 true).bind fun b1=>if b1=true then (spec_l07Rules.f k l0_3 false).bind fun b2=>if b2=true then (spec_l07Rules.f k l0_4 false).bind fun b3=>if b3=true then (spec_l07Names.f l0_5).bind fun b4=>if b4=true then (spec_l07Names.f l0_6).bind fun b5=>if b5=true then some (restI a0_0 a0_1 l0_2 l0_3 l0_4 l0_5 l0_6 a0_8) else some 1 else some 1 else some 1 else some 1 else some 1
theorem spec_l07Check.mono:∀ a0 a1 a2 a3 a4 a5 a6 a7 a8 k,LeO (spec_l07Check.f k a0 a1 a2 a3 a4 a5 a6 a7 a8) (spec_l07Check.f (k+1) a0 a1 a2 a3 a4 a5 a6 a7 a8):=by
 intro a0 a1 a2 a3 a4 a5 a6 a7 a8 k
 unfold spec_l07Check.f
 repeat' first
  | (with_reducible exact spec_l07Rules.mono _ _ _)
  | (with_reducible exact LeO.refl _)
  | (with_reducible refine LeO.ite ?_ ?_)
  | (with_reducible refine LeO.bind ?_ (fun _=>?_))
  | exact spec_l07Rules.mono _ _ _
  | refine LeO.ite ?_ ?_
  | refine LeO.bind ?_ (fun _=>?_)
set_option maxHeartbeats 8000000 in
set_option maxRecDepth 100000 in
theorem spec_l07Check.calls (k:Nat) (a0_0 a0_1:Bool) (A0_2:Option Addr) (c0_2:Nat) (l0_2:List (S56)) (A0_3:Option Addr) (c0_3:Nat) (l0_3:List (S56)) (A0_4:Option Addr) (c0_4:Nat) (l0_4:List (S56)) (A0_5:Option Addr) (c0_5:Nat) (l0_5:List ByteArray) (A0_6:Option Addr) (c0_6:Nat) (l0_6:List ByteArray) (a0_7:Bool) (a0_8:Bool) (r:Int) (w:World) (hr0_2:Kd.C k56 w A0_2 l0_2.length l0_2) (hc0_2:l0_2.length≤c0_2) (hr0_3:Kd.C k56 w A0_3 l0_3.length l0_3) (hc0_3:l0_3.length≤c0_3) (hr0_4:Kd.C k56 w A0_4 l0_4.length l0_4) (hc0_4:l0_4.length≤c0_4) (hr0_5:Kd.C Kd.string w A0_5 l0_5.length l0_5) (hc0_5:l0_5.length≤c0_5) (hr0_6:Kd.C Kd.string w A0_6 l0_6.length l0_6) (hc0_6:l0_6.length≤c0_6) (h:spec_l07Check.f k a0_0 a0_1 l0_2 l0_3 l0_4 l0_5 l0_6 a0_7 a0_8=some r) :
 Calls Try.prog 73 #[.agg #[.bool a0_0,.bool a0_1,.slice A0_2 l0_2.length c0_2,.slice A0_3 l0_3.length c0_3,.slice A0_4 l0_4.length c0_4,.slice A0_5 l0_5.length c0_5,.slice A0_6 l0_6.length c0_6,.bool a0_7,.bool a0_8]] w fun e w'=>e=.returned (.int .i64 r)∧Below w.heap.size w w':=by
 unfold spec_l07Check.f at h
 have C0:Aside0 ((w.alloc (.cells #[.bool a0_0,.bool a0_1,.slice A0_2 l0_2.length c0_2,.slice A0_3 l0_3.length c0_3,.slice A0_4 l0_4.length c0_4,.slice A0_5 l0_5.length c0_5,.slice A0_6 l0_6.length c0_6,.bool a0_7,.bool a0_8] 25)).cell? ⟨w.heap.size,0,none⟩=some (.bool a0_0)):=⟨Mach.new_cell w _ _ 0 _ rfl⟩
 have C1:Aside0 ((w.alloc (.cells #[.bool a0_0,.bool a0_1,.slice A0_2 l0_2.length c0_2,.slice A0_3 l0_3.length c0_3,.slice A0_4 l0_4.length c0_4,.slice A0_5 l0_5.length c0_5,.slice A0_6 l0_6.length c0_6,.bool a0_7,.bool a0_8] 25)).cell? ⟨w.heap.size,1,none⟩=some (.bool a0_1)):=⟨Mach.new_cell w _ _ 1 _ rfl⟩
 have C2:Aside0 ((w.alloc (.cells #[.bool a0_0,.bool a0_1,.slice A0_2 l0_2.length c0_2,.slice A0_3 l0_3.length c0_3,.slice A0_4 l0_4.length c0_4,.slice A0_5 l0_5.length c0_5,.slice A0_6 l0_6.length c0_6,.bool a0_7,.bool a0_8] 25)).cell? ⟨w.heap.size,2,none⟩=some (.slice A0_2 l0_2.length c0_2)):=⟨Mach.new_cell w _ _ 2 _ rfl⟩
 have C3:Aside0 ((w.alloc (.cells #[.bool a0_0,.bool a0_1,.slice A0_2 l0_2.length c0_2,.slice A0_3 l0_3.length c0_3,.slice A0_4 l0_4.length c0_4,.slice A0_5 l0_5.length c0_5,.slice A0_6 l0_6.length c0_6,.bool a0_7,.bool a0_8] 25)).cell? ⟨w.heap.size,3,none⟩=some (.slice A0_3 l0_3.length c0_3)):=⟨Mach.new_cell w _ _ 3 _ rfl⟩
 have C4:Aside0 ((w.alloc (.cells #[.bool a0_0,.bool a0_1,.slice A0_2 l0_2.length c0_2,.slice A0_3 l0_3.length c0_3,.slice A0_4 l0_4.length c0_4,.slice A0_5 l0_5.length c0_5,.slice A0_6 l0_6.length c0_6,.bool a0_7,.bool a0_8] 25)).cell? ⟨w.heap.size,4,none⟩=some (.slice A0_4 l0_4.length c0_4)):=⟨Mach.new_cell w _ _ 4 _ rfl⟩
 have C5:Aside0 ((w.alloc (.cells #[.bool a0_0,.bool a0_1,.slice A0_2 l0_2.length c0_2,.slice A0_3 l0_3.length c0_3,.slice A0_4 l0_4.length c0_4,.slice A0_5 l0_5.length c0_5,.slice A0_6 l0_6.length c0_6,.bool a0_7,.bool a0_8] 25)).cell? ⟨w.heap.size,5,none⟩=some (.slice A0_5 l0_5.length c0_5)):=⟨Mach.new_cell w _ _ 5 _ rfl⟩
 have C6:Aside0 ((w.alloc (.cells #[.bool a0_0,.bool a0_1,.slice A0_2 l0_2.length c0_2,.slice A0_3 l0_3.length c0_3,.slice A0_4 l0_4.length c0_4,.slice A0_5 l0_5.length c0_5,.slice A0_6 l0_6.length c0_6,.bool a0_7,.bool a0_8] 25)).cell? ⟨w.heap.size,6,none⟩=some (.slice A0_6 l0_6.length c0_6)):=⟨Mach.new_cell w _ _ 6 _ rfl⟩
 have C8:Aside0 ((w.alloc (.cells #[.bool a0_0,.bool a0_1,.slice A0_2 l0_2.length c0_2,.slice A0_3 l0_3.length c0_3,.slice A0_4 l0_4.length c0_4,.slice A0_5 l0_5.length c0_5,.slice A0_6 l0_6.length c0_6,.bool a0_7,.bool a0_8] 25)).cell? ⟨w.heap.size,8,none⟩=some (.bool a0_8)):=⟨Mach.new_cell w _ _ 8 _ rfl⟩
 have HB0:=A_ (Below.refl (w.alloc (.cells #[.bool a0_0,.bool a0_1,.slice A0_2 l0_2.length c0_2,.slice A0_3 l0_3.length c0_3,.slice A0_4 l0_4.length c0_4,.slice A0_5 l0_5.length c0_5,.slice A0_6 l0_6.length c0_6,.bool a0_7,.bool a0_8] 25)).heap.size (w.alloc (.cells #[.bool a0_0,.bool a0_1,.slice A0_2 l0_2.length c0_2,.slice A0_3 l0_3.length c0_3,.slice A0_4 l0_4.length c0_4,.slice A0_5 l0_5.length c0_5,.slice A0_6 l0_6.length c0_6,.bool a0_7,.bool a0_8] 25)))
 have HW:Aside0 (∀ V,Below (w.alloc (.cells #[.bool a0_0,.bool a0_1,.slice A0_2 l0_2.length c0_2,.slice A0_3 l0_3.length c0_3,.slice A0_4 l0_4.length c0_4,.slice A0_5 l0_5.length c0_5,.slice A0_6 l0_6.length c0_6,.bool a0_7,.bool a0_8] 25)).heap.size (w.alloc (.cells #[.bool a0_0,.bool a0_1,.slice A0_2 l0_2.length c0_2,.slice A0_3 l0_3.length c0_3,.slice A0_4 l0_4.length c0_4,.slice A0_5 l0_5.length c0_5,.slice A0_6 l0_6.length c0_6,.bool a0_7,.bool a0_8] 25)) V→Below w.heap.size w V):=⟨fun V h=>(ba_ (Below.refl w.heap.size w) _).trans (h.mono (ba_ (Below.refl w.heap.size w) _).size)⟩
 have HR2:Aside0 (Kd.C k56 w A0_2 l0_2.length l0_2):=⟨hr0_2⟩
 have HC2:Aside0 (l0_2.length≤c0_2):=⟨hc0_2⟩
 have HR3:Aside0 (Kd.C k56 w A0_3 l0_3.length l0_3):=⟨hr0_3⟩
 have HC3:Aside0 (l0_3.length≤c0_3):=⟨hc0_3⟩
 have HR4:Aside0 (Kd.C k56 w A0_4 l0_4.length l0_4):=⟨hr0_4⟩
 have HC4:Aside0 (l0_4.length≤c0_4):=⟨hc0_4⟩
 have HR5:Aside0 (Kd.C Kd.string w A0_5 l0_5.length l0_5):=⟨hr0_5⟩
 have HC5:Aside0 (l0_5.length≤c0_5):=⟨hc0_5⟩
 have HR6:Aside0 (Kd.C Kd.string w A0_6 l0_6.length l0_6):=⟨hr0_6⟩
 have HC6:Aside0 (l0_6.length≤c0_6):=⟨hc0_6⟩
 clear hr0_2 hr0_3 hr0_4 hr0_5 hr0_6 hc0_2 hc0_3 hc0_4 hc0_5 hc0_6
 have h9:=ob_ h
 clear h
 obtain ⟨b1,e1,h⟩:=h9
 have Q1:Aside0 (∀ V,Below w.heap.size w V→Calls Try.prog 92 #[.slice A0_2 l0_2.length c0_2,.bool true] V fun e w'=>e=.returned (.bool b1)∧Below V.heap.size V w'):=⟨fun V hV=>spec_l07Rules.calls k A0_2 c0_2 l0_2 true _ V (cb_ HR2.out hV) HC2.out e1⟩
 clear e1
 cases b1 with
 | false =>
  rw [if_neg (by decide)] at h
  obtain rfl:=oi_ h
  clear h
  go_enter Try.func73,Try.ntmps73
  go_wp2_with (first|(go_at_call 92;(with_reducible refine (Q1.out _ (HW.out _ HB0.out)).mono ?_);rintro e w1 ⟨rfl,hb⟩;have HB1:=A_ (HB0.out.trans (hb.mono HB0.out.size));have m13:=pc_ HB1.out C3.out;clear hb))
  go_ret
  exact ⟨rfl,HW.out _ HB1.out⟩
 | true =>
  rw [if_pos rfl] at h
  have h9:=ob_ h
  clear h
  obtain ⟨b2,e2,h⟩:=h9
  have Q2:Aside0 (∀ V,Below w.heap.size w V→Calls Try.prog 92 #[.slice A0_3 l0_3.length c0_3,.bool false] V fun e w'=>e=.returned (.bool b2)∧Below V.heap.size V w'):=⟨fun V hV=>spec_l07Rules.calls k A0_3 c0_3 l0_3 false _ V (cb_ HR3.out hV) HC3.out e2⟩
  clear e2
  cases b2 with
  | false =>
   rw [if_neg (by decide)] at h
   obtain rfl:=oi_ h
   clear h
   go_enter Try.func73,Try.ntmps73
   go_wp2_with (first|(go_at_call 92;(with_reducible refine (Q1.out _ (HW.out _ HB0.out)).mono ?_);rintro e w1 ⟨rfl,hb⟩;have HB1:=A_ (HB0.out.trans (hb.mono HB0.out.size));have m13:=pc_ HB1.out C3.out;clear hb)|(go_at_call 92;(with_reducible refine (Q2.out _ (HW.out _ HB1.out)).mono ?_);rintro e w2 ⟨rfl,hb⟩;have HB2:=A_ (HB1.out.trans (hb.mono HB1.out.size));have m24:=pc_ HB2.out C4.out;clear hb))
   go_ret
   exact ⟨rfl,HW.out _ HB2.out⟩
  | true =>
   rw [if_pos rfl] at h
   have h9:=ob_ h
   clear h
   obtain ⟨b3,e3,h⟩:=h9
   have Q3:Aside0 (∀ V,Below w.heap.size w V→Calls Try.prog 92 #[.slice A0_4 l0_4.length c0_4,.bool false] V fun e w'=>e=.returned (.bool b3)∧Below V.heap.size V w'):=⟨fun V hV=>spec_l07Rules.calls k A0_4 c0_4 l0_4 false _ V (cb_ HR4.out hV) HC4.out e3⟩
   clear e3
   cases b3 with
   | false =>
    rw [if_neg (by decide)] at h
    obtain rfl:=oi_ h
    clear h
    go_enter Try.func73,Try.ntmps73
    go_wp2_with (first|(go_at_call 92;(with_reducible refine (Q1.out _ (HW.out _ HB0.out)).mono ?_);rintro e w1 ⟨rfl,hb⟩;have HB1:=A_ (HB0.out.trans (hb.mono HB0.out.size));have m13:=pc_ HB1.out C3.out;clear hb)|(go_at_call 92;(with_reducible refine (Q2.out _ (HW.out _ HB1.out)).mono ?_);rintro e w2 ⟨rfl,hb⟩;have HB2:=A_ (HB1.out.trans (hb.mono HB1.out.size));have m24:=pc_ HB2.out C4.out;clear hb)|(go_at_call 92;(with_reducible refine (Q3.out _ (HW.out _ HB2.out)).mono ?_);rintro e w3 ⟨rfl,hb⟩;have HB3:=A_ (HB2.out.trans (hb.mono HB2.out.size));have m35:=pc_ HB3.out C5.out;clear hb))
    go_ret
    exact ⟨rfl,HW.out _ HB3.out⟩
   | true =>
    rw [if_pos rfl] at h
    have h9:=ob_ h
    clear h
    obtain ⟨b4,e4,h⟩:=h9
    have Q4:Aside0 (∀ V,Below w.heap.size w V→Calls Try.prog 93 #[.slice A0_5 l0_5.length c0_5] V fun e w'=>e=.returned (.bool b4)∧Below V.heap.size V w'):=⟨fun V hV=>(spec_l07Names.calls A0_5 c0_5 l0_5 _ V (cb_ HR5.out hV) HC5.out e4).mono fun e w' ⟨he,hd⟩=>⟨he,hd.below⟩⟩
    clear e4
    cases b4 with
    | false =>
     rw [if_neg (by decide)] at h
     obtain rfl:=oi_ h
     clear h
     go_enter Try.func73,Try.ntmps73
     go_wp2_with (first|(go_at_call 92;(with_reducible refine (Q1.out _ (HW.out _ HB0.out)).mono ?_);rintro e w1 ⟨rfl,hb⟩;have HB1:=A_ (HB0.out.trans (hb.mono HB0.out.size));have m13:=pc_ HB1.out C3.out;clear hb)|(go_at_call 92;(with_reducible refine (Q2.out _ (HW.out _ HB1.out)).mono ?_);rintro e w2 ⟨rfl,hb⟩;have HB2:=A_ (HB1.out.trans (hb.mono HB1.out.size));have m24:=pc_ HB2.out C4.out;clear hb)|(go_at_call 92;(with_reducible refine (Q3.out _ (HW.out _ HB2.out)).mono ?_);rintro e w3 ⟨rfl,hb⟩;have HB3:=A_ (HB2.out.trans (hb.mono HB2.out.size));have m35:=pc_ HB3.out C5.out;clear hb)|(go_at_call 93;(with_reducible refine (Q4.out _ (HW.out _ HB3.out)).mono ?_);rintro e w4 ⟨rfl,hb⟩;have HB4:=A_ (HB3.out.trans (hb.mono HB3.out.size));have m46:=pc_ HB4.out C6.out;clear hb))
     go_ret
     exact ⟨rfl,HW.out _ HB4.out⟩
    | true =>
     rw [if_pos rfl] at h
     have h9:=ob_ h
     clear h
     obtain ⟨b5,e5,h⟩:=h9
     have Q5:Aside0 (∀ V,Below w.heap.size w V→Calls Try.prog 93 #[.slice A0_6 l0_6.length c0_6] V fun e w'=>e=.returned (.bool b5)∧Below V.heap.size V w'):=⟨fun V hV=>(spec_l07Names.calls A0_6 c0_6 l0_6 _ V (cb_ HR6.out hV) HC6.out e5).mono fun e w' ⟨he,hd⟩=>⟨he,hd.below⟩⟩
     clear e5
     cases b5 with
     | false =>
      rw [if_neg (by decide)] at h
      obtain rfl:=oi_ h
      clear h
      go_enter Try.func73,Try.ntmps73
      go_wp2_with (first|(go_at_call 92;(with_reducible refine (Q1.out _ (HW.out _ HB0.out)).mono ?_);rintro e w1 ⟨rfl,hb⟩;have HB1:=A_ (HB0.out.trans (hb.mono HB0.out.size));have m13:=pc_ HB1.out C3.out;clear hb)|(go_at_call 92;(with_reducible refine (Q2.out _ (HW.out _ HB1.out)).mono ?_);rintro e w2 ⟨rfl,hb⟩;have HB2:=A_ (HB1.out.trans (hb.mono HB1.out.size));have m24:=pc_ HB2.out C4.out;clear hb)|(go_at_call 92;(with_reducible refine (Q3.out _ (HW.out _ HB2.out)).mono ?_);rintro e w3 ⟨rfl,hb⟩;have HB3:=A_ (HB2.out.trans (hb.mono HB2.out.size));have m35:=pc_ HB3.out C5.out;clear hb)|(go_at_call 93;(with_reducible refine (Q4.out _ (HW.out _ HB3.out)).mono ?_);rintro e w4 ⟨rfl,hb⟩;have HB4:=A_ (HB3.out.trans (hb.mono HB3.out.size));have m46:=pc_ HB4.out C6.out;clear hb)|(go_at_call 93;(with_reducible refine (Q5.out _ (HW.out _ HB4.out)).mono ?_);rintro e w5 ⟨rfl,hb⟩;have HB5:=A_ (HB4.out.trans (hb.mono HB4.out.size));have m50:=pc_ HB5.out C0.out;have m51:=pc_ HB5.out C1.out;have m52:=pc_ HB5.out C2.out;have m53:=pc_ HB5.out C3.out;have m54:=pc_ HB5.out C4.out;have m55:=pc_ HB5.out C5.out;have m56:=pc_ HB5.out C6.out;have m58:=pc_ HB5.out C8.out;clear hb))
      go_ret
      exact ⟨rfl,HW.out _ HB5.out⟩
     | true =>
      rw [if_pos rfl] at h
      obtain rfl:=oi_ h
      clear h
      unfold restI contraB
      by_cases hA:a0_0=false∧0<l0_2.length
      case pos =>
       obtain ⟨rfl,z2⟩:=hA
       have d2:decide (0<l0_2.length)=true:=dt_ (by omega)
       have y2:decide ((0:Int)<(l0_2.length:Int))=true:=dt_ (by omega)
       rw [d2]
       clear z2
       go_enter Try.func73,Try.ntmps73
       go_wp2_with (first|(go_at_call 92;(with_reducible refine (Q1.out _ (HW.out _ HB0.out)).mono ?_);rintro e w1 ⟨rfl,hb⟩;have HB1:=A_ (HB0.out.trans (hb.mono HB0.out.size));have m13:=pc_ HB1.out C3.out;clear hb)|(go_at_call 92;(with_reducible refine (Q2.out _ (HW.out _ HB1.out)).mono ?_);rintro e w2 ⟨rfl,hb⟩;have HB2:=A_ (HB1.out.trans (hb.mono HB1.out.size));have m24:=pc_ HB2.out C4.out;clear hb)|(go_at_call 92;(with_reducible refine (Q3.out _ (HW.out _ HB2.out)).mono ?_);rintro e w3 ⟨rfl,hb⟩;have HB3:=A_ (HB2.out.trans (hb.mono HB2.out.size));have m35:=pc_ HB3.out C5.out;clear hb)|(go_at_call 93;(with_reducible refine (Q4.out _ (HW.out _ HB3.out)).mono ?_);rintro e w4 ⟨rfl,hb⟩;have HB4:=A_ (HB3.out.trans (hb.mono HB3.out.size));have m46:=pc_ HB4.out C6.out;clear hb)|(go_at_call 93;(with_reducible refine (Q5.out _ (HW.out _ HB4.out)).mono ?_);rintro e w5 ⟨rfl,hb⟩;have HB5:=A_ (HB4.out.trans (hb.mono HB4.out.size));have m50:=pc_ HB5.out C0.out;have m51:=pc_ HB5.out C1.out;have m52:=pc_ HB5.out C2.out;have m53:=pc_ HB5.out C3.out;have m54:=pc_ HB5.out C4.out;have m55:=pc_ HB5.out C5.out;have m56:=pc_ HB5.out C6.out;have m58:=pc_ HB5.out C8.out;clear hb))
       go_ret
       exact ⟨rfl,HW.out _ HB5.out⟩
      by_cases hB:a0_0=true∧0<l0_3.length
      case pos =>
       clear hA
       obtain ⟨rfl,z3⟩:=hB
       have d3:decide (0<l0_3.length)=true:=dt_ (by omega)
       have y3:decide ((0:Int)<(l0_3.length:Int))=true:=dt_ (by omega)
       rw [d3]
       clear z3
       go_enter Try.func73,Try.ntmps73
       go_wp2_with (first|(go_at_call 92;(with_reducible refine (Q1.out _ (HW.out _ HB0.out)).mono ?_);rintro e w1 ⟨rfl,hb⟩;have HB1:=A_ (HB0.out.trans (hb.mono HB0.out.size));have m13:=pc_ HB1.out C3.out;clear hb)|(go_at_call 92;(with_reducible refine (Q2.out _ (HW.out _ HB1.out)).mono ?_);rintro e w2 ⟨rfl,hb⟩;have HB2:=A_ (HB1.out.trans (hb.mono HB1.out.size));have m24:=pc_ HB2.out C4.out;clear hb)|(go_at_call 92;(with_reducible refine (Q3.out _ (HW.out _ HB2.out)).mono ?_);rintro e w3 ⟨rfl,hb⟩;have HB3:=A_ (HB2.out.trans (hb.mono HB2.out.size));have m35:=pc_ HB3.out C5.out;clear hb)|(go_at_call 93;(with_reducible refine (Q4.out _ (HW.out _ HB3.out)).mono ?_);rintro e w4 ⟨rfl,hb⟩;have HB4:=A_ (HB3.out.trans (hb.mono HB3.out.size));have m46:=pc_ HB4.out C6.out;clear hb)|(go_at_call 93;(with_reducible refine (Q5.out _ (HW.out _ HB4.out)).mono ?_);rintro e w5 ⟨rfl,hb⟩;have HB5:=A_ (HB4.out.trans (hb.mono HB4.out.size));have m50:=pc_ HB5.out C0.out;have m51:=pc_ HB5.out C1.out;have m52:=pc_ HB5.out C2.out;have m53:=pc_ HB5.out C3.out;have m54:=pc_ HB5.out C4.out;have m55:=pc_ HB5.out C5.out;have m56:=pc_ HB5.out C6.out;have m58:=pc_ HB5.out C8.out;clear hb))
       go_ret
       exact ⟨rfl,HW.out _ HB5.out⟩
      cases a0_0
      case' false =>
       have z2:¬ 0<l0_2.length:=fun h=>hA ⟨rfl,h⟩
       clear hA hB
       have d2:decide (0<l0_2.length)=false:=df_ (by omega)
       have y2:decide ((0:Int)<(l0_2.length:Int))=false:=df_ (by omega)
       rw [d2]
       clear z2
      case' true =>
       have z3:¬ 0<l0_3.length:=fun h=>hB ⟨rfl,h⟩
       clear hA hB
       have d3:decide (0<l0_3.length)=false:=df_ (by omega)
       have y3:decide ((0:Int)<(l0_3.length:Int))=false:=df_ (by omega)
       rw [d3]
       clear z3
      all_goals
       cases a0_1 with
       | false =>
        by_cases z5:0<l0_5.length
        case pos =>
         have d5:decide (0<l0_5.length)=true:=dt_ (by omega)
         have y5:decide ((0:Int)<(l0_5.length:Int))=true:=dt_ (by omega)
         rw [d5]
         clear z5
         go_enter Try.func73,Try.ntmps73
         go_wp2_with (first|(go_at_call 92;(with_reducible refine (Q1.out _ (HW.out _ HB0.out)).mono ?_);rintro e w1 ⟨rfl,hb⟩;have HB1:=A_ (HB0.out.trans (hb.mono HB0.out.size));have m13:=pc_ HB1.out C3.out;clear hb)|(go_at_call 92;(with_reducible refine (Q2.out _ (HW.out _ HB1.out)).mono ?_);rintro e w2 ⟨rfl,hb⟩;have HB2:=A_ (HB1.out.trans (hb.mono HB1.out.size));have m24:=pc_ HB2.out C4.out;clear hb)|(go_at_call 92;(with_reducible refine (Q3.out _ (HW.out _ HB2.out)).mono ?_);rintro e w3 ⟨rfl,hb⟩;have HB3:=A_ (HB2.out.trans (hb.mono HB2.out.size));have m35:=pc_ HB3.out C5.out;clear hb)|(go_at_call 93;(with_reducible refine (Q4.out _ (HW.out _ HB3.out)).mono ?_);rintro e w4 ⟨rfl,hb⟩;have HB4:=A_ (HB3.out.trans (hb.mono HB3.out.size));have m46:=pc_ HB4.out C6.out;clear hb)|(go_at_call 93;(with_reducible refine (Q5.out _ (HW.out _ HB4.out)).mono ?_);rintro e w5 ⟨rfl,hb⟩;have HB5:=A_ (HB4.out.trans (hb.mono HB4.out.size));have m50:=pc_ HB5.out C0.out;have m51:=pc_ HB5.out C1.out;have m52:=pc_ HB5.out C2.out;have m53:=pc_ HB5.out C3.out;have m54:=pc_ HB5.out C4.out;have m55:=pc_ HB5.out C5.out;have m56:=pc_ HB5.out C6.out;have m58:=pc_ HB5.out C8.out;clear hb))
         go_ret
         exact ⟨rfl,HW.out _ HB5.out⟩
        case neg =>
         have d5:decide (0<l0_5.length)=false:=df_ (by omega)
         have y5:decide ((0:Int)<(l0_5.length:Int))=false:=df_ (by omega)
         rw [d5]
         clear z5
         cases a0_8 with
         | true =>
          go_enter Try.func73,Try.ntmps73
          go_wp2_with (first|(go_at_call 92;(with_reducible refine (Q1.out _ (HW.out _ HB0.out)).mono ?_);rintro e w1 ⟨rfl,hb⟩;have HB1:=A_ (HB0.out.trans (hb.mono HB0.out.size));have m13:=pc_ HB1.out C3.out;clear hb)|(go_at_call 92;(with_reducible refine (Q2.out _ (HW.out _ HB1.out)).mono ?_);rintro e w2 ⟨rfl,hb⟩;have HB2:=A_ (HB1.out.trans (hb.mono HB1.out.size));have m24:=pc_ HB2.out C4.out;clear hb)|(go_at_call 92;(with_reducible refine (Q3.out _ (HW.out _ HB2.out)).mono ?_);rintro e w3 ⟨rfl,hb⟩;have HB3:=A_ (HB2.out.trans (hb.mono HB2.out.size));have m35:=pc_ HB3.out C5.out;clear hb)|(go_at_call 93;(with_reducible refine (Q4.out _ (HW.out _ HB3.out)).mono ?_);rintro e w4 ⟨rfl,hb⟩;have HB4:=A_ (HB3.out.trans (hb.mono HB3.out.size));have m46:=pc_ HB4.out C6.out;clear hb)|(go_at_call 93;(with_reducible refine (Q5.out _ (HW.out _ HB4.out)).mono ?_);rintro e w5 ⟨rfl,hb⟩;have HB5:=A_ (HB4.out.trans (hb.mono HB4.out.size));have m50:=pc_ HB5.out C0.out;have m51:=pc_ HB5.out C1.out;have m52:=pc_ HB5.out C2.out;have m53:=pc_ HB5.out C3.out;have m54:=pc_ HB5.out C4.out;have m55:=pc_ HB5.out C5.out;have m56:=pc_ HB5.out C6.out;have m58:=pc_ HB5.out C8.out;clear hb))
          go_ret
          exact ⟨rfl,HW.out _ HB5.out⟩
         | false =>
          rw [if_neg (by first|decide|exact Bool.false_ne_true)]
          generalize hRV:(if l0_4.any (unwrapB l0_2 l0_3)=true then (13:Int) else if l0_2.any (attrsB _ l0_5)=true then 13 else 0)=RV
          have HRV:=A_ hRV
          clear hRV
          go_enter Try.func73,Try.ntmps73
          go_wp2_with (first|(go_at_call 92;(with_reducible refine (Q1.out _ (HW.out _ HB0.out)).mono ?_);rintro e w1 ⟨rfl,hb⟩;have HB1:=A_ (HB0.out.trans (hb.mono HB0.out.size));have m13:=pc_ HB1.out C3.out;clear hb)|(go_at_call 92;(with_reducible refine (Q2.out _ (HW.out _ HB1.out)).mono ?_);rintro e w2 ⟨rfl,hb⟩;have HB2:=A_ (HB1.out.trans (hb.mono HB1.out.size));have m24:=pc_ HB2.out C4.out;clear hb)|(go_at_call 92;(with_reducible refine (Q3.out _ (HW.out _ HB2.out)).mono ?_);rintro e w3 ⟨rfl,hb⟩;have HB3:=A_ (HB2.out.trans (hb.mono HB2.out.size));have m35:=pc_ HB3.out C5.out;clear hb)|(go_at_call 93;(with_reducible refine (Q4.out _ (HW.out _ HB3.out)).mono ?_);rintro e w4 ⟨rfl,hb⟩;have HB4:=A_ (HB3.out.trans (hb.mono HB3.out.size));have m46:=pc_ HB4.out C6.out;clear hb)|(go_at_call 93;(with_reducible refine (Q5.out _ (HW.out _ HB4.out)).mono ?_);rintro e w5 ⟨rfl,hb⟩;have HB5:=A_ (HB4.out.trans (hb.mono HB4.out.size));have m50:=pc_ HB5.out C0.out;have m51:=pc_ HB5.out C1.out;have m52:=pc_ HB5.out C2.out;have m53:=pc_ HB5.out C3.out;have m54:=pc_ HB5.out C4.out;have m55:=pc_ HB5.out C5.out;have m56:=pc_ HB5.out C6.out;have m58:=pc_ HB5.out C8.out;clear hb))
          try clear d2 y2
          try clear d3 y3
          try clear d5 y5
          try clear d6 y6
          have hn2:l0_2.length≤9223372036854775807:=HR2.out.2.1
          have hn4:l0_4.length≤9223372036854775807:=HR4.out.2.1
          have P1:=A_ m51
          have P2:=A_ m52
          have P3:=A_ m53
          have P4:=A_ m54
          have P5:=A_ m55
          go_loopg [3,4] l0_4.length (fun gg s3 _ wr=>∃ kk:Nat,kk≤l0_4.length∧l0_4.length - kk≤gg∧s3=.int .i64 kk∧Aside0 (Below w.heap.size w wr)∧Aside0 (Below w5.heap.size w5 wr)∧Aside0 (∀ j,j<kk→unwrapB l0_2 l0_3 (l0_4.getD j z56)=false))
          case atStart=>exact ⟨0,Nat.zero_le _,by omega,rfl,⟨HW.out _ HB5.out⟩,⟨Below.refl _ _⟩,⟨fun j hj=>absurd hj (Nat.not_lt_zero _)⟩⟩
          case round =>
           obtain ⟨kk,hkk,hg,rfl,BW,BV,AA⟩:=hrel
           clear m50 m51 m52 m53 m54 m55 m56 m58
           by_cases hlt:kk<l0_4.length
           ·have hltz:(kk:Int)<(l0_4.length:Int):=by omega
            have M2:=pc_ BV.out P2.out
            have M3:=pc_ BV.out P3.out
            have M4:=pc_ BV.out P4.out
            obtain ⟨ad,c,e,hcl,hK,hc⟩:=Kd.C_get (cb_ HR4.out BW.out) z56 (kk:Int) (by omega) (by omega)
            rw [Int.toNat_natCast] at hK hc
            obtain ⟨A9,c9,rfl,_,_⟩:=k56_open hK
            subst e
            have hmem:l0_4.getD kk z56∈l0_4:=by rw [List.getD_eq_getElem?_getD,List.getElem?_eq_getElem hlt];exact List.getElem_mem hlt
            have HX:∀ x,l0_4.getD kk z56=x→Aside0 (unwrapB l0_2 l0_3 x=true→RV=13):=fun x hx=>⟨fun hy=>by rw [←HRV.out,if_pos (List.any_eq_true.2 ⟨x,hx ▸ hmem,hy⟩)]⟩
            have HN:∀ x,l0_4.getD kk z56=x→Aside0 (unwrapB l0_2 l0_3 x=false→∀ j,j<kk+1→unwrapB l0_2 l0_3 (l0_4.getD j z56)=false):=fun x hx=>⟨fun hy j hj=>by
             by_cases e:j=kk
             ·subst e;rw [hx];exact hy
             ·exact AA.out j (by omega)⟩
            have g0:wr.cell? (ad.add (kk * 3))=some (.int .i64 (l0_4.getD kk z56).f0):=hc 0 _ rfl
            have g1:wr.cell? ⟨(ad.add (kk * 3)).block,(ad.add (kk * 3)).off+1,none⟩=some (.string (l0_4.getD kk z56).f1):=by rw [←add_field _ _ 1 (by omega)];exact hc 1 _ rfl
            have g2:wr.cell? ⟨(ad.add (kk * 3)).block,(ad.add (kk * 3)).off+2,none⟩=some (.slice A9 (l0_4.getD kk z56).f2.length c9):=by rw [←add_field _ _ 2 (by omega)];exact hc 2 _ rfl
            clear hc hK hcl
            generalize hx:l0_4.getD kk z56=x at *
            have HX:=HX x rfl
            have HN:=HN x rfl
            clear hmem hx
            have HBX:=A_ (ba_ BW.out (.cells #[.int .i64 x.f0,.string x.f1,.slice A9 x.f2.length c9] 56))
            have BVX:=A_ (ba_ BV.out (.cells #[.int .i64 x.f0,.string x.f1,.slice A9 x.f2.length c9] 56))
            have N2:=Mach.old_cell (.cells #[.int .i64 x.f0,.string x.f1,.slice A9 x.f2.length c9] 56) M2
            have N3:=A_ (Mach.old_cell (.cells #[.int .i64 x.f0,.string x.f1,.slice A9 x.f2.length c9] 56) M3)
            have X0:Aside0 ((wr.alloc (.cells #[.int .i64 x.f0,.string x.f1,.slice A9 x.f2.length c9] 56)).cell? ⟨wr.heap.size,0,none⟩=some (.int .i64 x.f0)):=⟨Mach.new_cell wr _ _ 0 _ rfl⟩
            have X1:Aside0 ((wr.alloc (.cells #[.int .i64 x.f0,.string x.f1,.slice A9 x.f2.length c9] 56)).cell? ⟨wr.heap.size,1,none⟩=some (.string x.f1)):=⟨Mach.new_cell wr _ _ 1 _ rfl⟩
            have QA:Aside0 (∀ V,Below w.heap.size w V→Calls Try.prog 77 #[.slice A0_2 l0_2.length c0_2,.int .i64 x.f0,.string x.f1] V fun e w'=>e=.returned (.int .i64 (ruleAtI l0_2 x.f0 x.f1))∧Below V.heap.size V w'):=⟨fun V hV=>spec_l07At.pure A0_2 c0_2 l0_2 x.f0 x.f1 V (cb_ HR2.out hV) HC2.out⟩
            have QB:Aside0 (∀ V,Below w.heap.size w V→Calls Try.prog 77 #[.slice A0_3 l0_3.length c0_3,.int .i64 x.f0,.string x.f1] V fun e w'=>e=.returned (.int .i64 (ruleAtI l0_3 x.f0 x.f1))∧Below V.heap.size V w'):=⟨fun V hV=>spec_l07At.pure A0_3 c0_3 l0_3 x.f0 x.f1 V (cb_ HR3.out hV) HC3.out⟩
            have hu:unwrapB l0_2 l0_3 x=(decide (0≤ruleAtI l0_2 x.f0 x.f1) || decide (0≤ruleAtI l0_3 x.f0 x.f1)):=rfl
            rw [hu] at HX HN
            clear hu M2 M3
            generalize ruleAtI l0_2 x.f0 x.f1=r1 at *
            generalize ruleAtI l0_3 x.f0 x.f1=r2 at *
            cases y1:decide (0≤r1) with
            | true =>
             rw [y1,Bool.true_or] at HX
             clear HN
             go_wp2_with (go_at_call 77;(with_reducible refine (QA.out _ HBX.out).mono ?_);rintro e v1 ⟨rfl,hv1⟩;have HX1:=A_ (HBX.out.trans (hv1.mono HBX.out.size));clear hv1)
             go_ret
             obtain rfl:=HX.out (by simp)
             exact ⟨rfl,HX1.out⟩
            | false =>
             rw [y1,Bool.false_or] at HX HN
             cases y2:decide (0≤r2) with
             | true =>
              rw [y2] at HX
              clear HN
              go_wp2_with (first|(go_at_call 77;(with_reducible refine (QA.out _ HBX.out).mono ?_);rintro e v1 ⟨rfl,hv1⟩;have HX1:=A_ (HBX.out.trans (hv1.mono HBX.out.size));have N13:=pc_ hv1 N3.out;have X10:=pc_ hv1 X0.out;have X11:=pc_ hv1 X1.out;clear hv1)|(go_at_call 77;(with_reducible refine (QB.out _ HX1.out).mono ?_);rintro e v2 ⟨rfl,hv2⟩;have HX2:=A_ (HX1.out.trans (hv2.mono HX1.out.size));clear hv2))
              go_ret
              obtain rfl:=HX.out (by simp)
              exact ⟨rfl,HX2.out⟩
             | false =>
              rw [y2] at HN
              clear HX
              go_wp2_with (first|(go_at_call 77;(with_reducible refine (QA.out _ HBX.out).mono ?_);rintro e v1 ⟨rfl,hv1⟩;have HX1:=A_ (HBX.out.trans (hv1.mono HBX.out.size));have BX1:=A_ (BVX.out.trans (hv1.mono BVX.out.size));have N13:=pc_ hv1 N3.out;have X10:=pc_ hv1 X0.out;have X11:=pc_ hv1 X1.out;clear hv1)|(go_at_call 77;(with_reducible refine (QB.out _ HX1.out).mono ?_);rintro e v2 ⟨rfl,hv2⟩;have HX2:=A_ (HX1.out.trans (hv2.mono HX1.out.size));have BX2:=A_ (BX1.out.trans (hv2.mono BX1.out.size));clear hv2))
              go_roundg (l0_4.length - (kk+1))
              case measure=>omega
              case rel=>exact ⟨kk+1,by omega,by omega,by go_num,HX2,BX2,⟨HN.out (by simp)⟩⟩
           ·have hltz:¬ (kk:Int)<(l0_4.length:Int):=by omega
            have hany:¬ l0_4.any (unwrapB l0_2 l0_3)=true:=by
             intro h
             obtain ⟨x,hx,hy⟩:=List.any_eq_true.1 h
             obtain ⟨j,hj,rfl⟩:=List.getElem_of_mem hx
             have:=AA.out j (by omega)
             rw [List.getD_eq_getElem?_getD,List.getElem?_eq_getElem hj] at this
             rw [show unwrapB l0_2 l0_3 l0_4[j]=false from this] at hy
             cases hy
            rw [if_neg hany] at HRV
            clear hany AA
            have M4:=pc_ BV.out P4.out
            go_wp2_with (fail)
            clear M4
            go_loopg [5,6] l0_2.length (fun gg s5 _ wr2=>∃ k2:Nat,k2≤l0_2.length∧l0_2.length - k2≤gg∧s5=.int .i64 k2∧Aside0 (Below w.heap.size w wr2)∧Aside0 (Below w5.heap.size w5 wr2)∧Aside0 (∀ j,j<k2→attrsB false l0_5 (l0_2.getD j z56)=false))
            case atStart=>exact ⟨0,Nat.zero_le _,by omega,rfl,BW,BV,⟨fun j hj=>absurd hj (Nat.not_lt_zero _)⟩⟩
            case round =>
             clear BW BV hltz hlt hkk hg
             obtain ⟨k2,hk2,hg2,rfl,BW,BV,AA⟩:=hrel
             by_cases hlt:k2<l0_2.length
             ·have hltz:(k2:Int)<(l0_2.length:Int):=by omega
              have M2:=pc_ BV.out P2.out
              obtain ⟨ad,c,e,hcl,hK,hc⟩:=Kd.C_get HR2.out z56 (k2:Int) (by omega) (by omega)
              rw [Int.toNat_natCast] at hK hc
              obtain ⟨A9,c9,rfl,hcx,hrx⟩:=k56_open hK
              subst e
              have hmem:l0_2.getD k2 z56∈l0_2:=by rw [List.getD_eq_getElem?_getD,List.getElem?_eq_getElem hlt];exact List.getElem_mem hlt
              have HX:∀ x,l0_2.getD k2 z56=x→Aside0 (attrsB false l0_5 x=true→RV=13):=fun x hx=>⟨fun hy=>by rw [←HRV.out,if_pos (List.any_eq_true.2 ⟨x,hx ▸ hmem,hy⟩)]⟩
              have HN:∀ x,l0_2.getD k2 z56=x→Aside0 (attrsB false l0_5 x=false→∀ j,j<k2+1→attrsB false l0_5 (l0_2.getD j z56)=false):=fun x hx=>⟨fun hy j hj=>by
               by_cases e:j=k2
               ·subst e;rw [hx];exact hy
               ·exact AA.out j (by omega)⟩
              have g2:Aside0 (w.cell? ⟨(ad.add (k2 * 3)).block,(ad.add (k2 * 3)).off+2,none⟩=some (.slice A9 (l0_2.getD k2 z56).f2.length c9)):=⟨by rw [←add_field _ _ 2 (by omega)];exact hc 2 _ rfl⟩
              clear hc hK hcl
              generalize hx:l0_2.getD k2 z56=x at *
              have HX:=HX x rfl
              have HN:=HN x rfl
              clear hmem hx
              have HR9:Aside0 (Kd.C Kd.string w A9 x.f2.length x.f2):=⟨hrx⟩
              have hn9:x.f2.length≤9223372036854775807:=hrx.2.1
              clear hcx hrx
              go_wp2_with (fail)
              have hnil:(∀ j,j<x.f2.length→(!false || Kit.hasT l0_5 (x.f2.getD j ByteArray.empty))=false)→attrsB false l0_5 x=false:=fun h=>by
               unfold attrsB
               rw [Bool.eq_false_iff]
               intro hh
               obtain ⟨n,hn,hy⟩:=List.any_eq_true.1 hh
               obtain ⟨j,hj,rfl⟩:=List.getElem_of_mem hn
               have:=h j hj
               rw [List.getD_eq_getElem?_getD,List.getElem?_eq_getElem hj] at this
               rw [show (!false || Kit.hasT l0_5 x.f2[j])=false from this] at hy
               cases hy
              have hhit:∀ j,j<x.f2.length→(!false || Kit.hasT l0_5 (x.f2.getD j ByteArray.empty))=true→RV=13:=fun j hj hy=>HX.out (by
               unfold attrsB
               refine List.any_eq_true.2 ⟨x.f2.getD j ByteArray.empty,?_,hy⟩
               rw [List.getD_eq_getElem?_getD,List.getElem?_eq_getElem hj];exact List.getElem_mem hj)
              have HNIL:=A_ hnil
              have HHIT:=A_ hhit
              clear hnil hhit HX AA M2
              go_loopg [6] x.f2.length (fun gg s6 wr3=>∃ k3:Nat,k3≤x.f2.length∧x.f2.length - k3≤gg∧s6=.int .i64 k3∧Aside0 (Below w.heap.size w wr3)∧Aside0 (Below w5.heap.size w5 wr3)∧Aside0 (∀ j,j<k3→(!false || Kit.hasT l0_5 (x.f2.getD j ByteArray.empty))=false))
              case atStart=>exact ⟨0,Nat.zero_le _,by omega,rfl,BW,BV,⟨fun j hj=>absurd hj (Nat.not_lt_zero _)⟩⟩
              case round =>
               clear BW BV
               obtain ⟨k3,hk3,hg3,rfl,BW,BV,AA⟩:=hrel
               have M2:=pc_ BV.out P2.out
               have G2:=pc_ BW.out g2.out
               by_cases hl3:k3<x.f2.length
               ·have hlz3:(k3:Int)<(x.f2.length:Int):=by omega
                have M1:=pc_ BV.out P1.out
                have M5:=pc_ BV.out P5.out
                obtain ⟨ad9,e9,l1⟩:=Kd.at_string HR9.out (k3:Int) (by omega) hlz3
                subst e9
                rw [Kit.rdOf_nat,Int.toNat_natCast] at l1
                have L1:=pc_ BW.out l1
                clear l1
                have HH:=HHIT.out k3 hl3
                have HSTEP:∀ y,x.f2.getD k3 ByteArray.empty=y→Aside0 ((!false || Kit.hasT l0_5 y)=false→∀ j,j<k3+1→(!false || Kit.hasT l0_5 (x.f2.getD j ByteArray.empty))=false):=fun y hy=>⟨fun hf j hj=>by
                 by_cases e:j=k3
                 ·subst e;rw [hy];exact hf
                 ·exact AA.out j (by omega)⟩
                have q:=fun W (h:Below w.heap.size w W)=>spec_l01Has.pure A0_5 c0_5 l0_5 (x.f2.getD k3 ByteArray.empty) W (cb_ HR5.out h) HC5.out
                generalize hy:x.f2.getD k3 ByteArray.empty=y at *
                have HSTEP:=HSTEP y rfl
                clear hy
                obtain rfl:=HH (by simp)
                clear HH q HSTEP
                go_wp2_with (fail)
                go_quiet (fail)
                go_wp2
                go_ret
                exact ⟨rfl,by first|exact pd_ BW.out _|exact BW.out⟩
               ·have hlz3:¬ (k3:Int)<(x.f2.length:Int):=by omega
                have HAB:=HN.out (HNIL.out (fun j hj=>AA.out j (by omega)))
                have HAB:=A_ HAB
                clear HN HNIL AA
                go_wp2_with (fail)
                go_roundg (l0_2.length - (k2+1))
                case measure=>omega
                case rel=>exact ⟨k2+1,by omega,by omega,by go_num,BW,BV,HAB⟩
             ·have hltz:¬ (k2:Int)<(l0_2.length:Int):=by omega
              have hany:¬ l0_2.any (attrsB false l0_5)=true:=by
               intro h
               obtain ⟨x,hx,hy⟩:=List.any_eq_true.1 h
               obtain ⟨j,hj,rfl⟩:=List.getElem_of_mem hx
               have:=AA.out j (by omega)
               rw [List.getD_eq_getElem?_getD,List.getElem?_eq_getElem hj] at this
               rw [show attrsB false l0_5 l0_2[j]=false from this] at hy
               cases hy
              rw [if_neg hany] at HRV
              obtain rfl:=HRV.out
              clear hany AA HRV
              have M2:=pc_ BV.out P2.out
              go_wp2_with (fail)
              go_ret
              exact ⟨rfl,BW.out⟩
       | true =>
        by_cases z6:0<l0_6.length
        case pos =>
         have d6:decide (0<l0_6.length)=true:=dt_ (by omega)
         have y6:decide ((0:Int)<(l0_6.length:Int))=true:=dt_ (by omega)
         rw [d6]
         clear z6
         go_enter Try.func73,Try.ntmps73
         go_wp2_with (first|(go_at_call 92;(with_reducible refine (Q1.out _ (HW.out _ HB0.out)).mono ?_);rintro e w1 ⟨rfl,hb⟩;have HB1:=A_ (HB0.out.trans (hb.mono HB0.out.size));have m13:=pc_ HB1.out C3.out;clear hb)|(go_at_call 92;(with_reducible refine (Q2.out _ (HW.out _ HB1.out)).mono ?_);rintro e w2 ⟨rfl,hb⟩;have HB2:=A_ (HB1.out.trans (hb.mono HB1.out.size));have m24:=pc_ HB2.out C4.out;clear hb)|(go_at_call 92;(with_reducible refine (Q3.out _ (HW.out _ HB2.out)).mono ?_);rintro e w3 ⟨rfl,hb⟩;have HB3:=A_ (HB2.out.trans (hb.mono HB2.out.size));have m35:=pc_ HB3.out C5.out;clear hb)|(go_at_call 93;(with_reducible refine (Q4.out _ (HW.out _ HB3.out)).mono ?_);rintro e w4 ⟨rfl,hb⟩;have HB4:=A_ (HB3.out.trans (hb.mono HB3.out.size));have m46:=pc_ HB4.out C6.out;clear hb)|(go_at_call 93;(with_reducible refine (Q5.out _ (HW.out _ HB4.out)).mono ?_);rintro e w5 ⟨rfl,hb⟩;have HB5:=A_ (HB4.out.trans (hb.mono HB4.out.size));have m50:=pc_ HB5.out C0.out;have m51:=pc_ HB5.out C1.out;have m52:=pc_ HB5.out C2.out;have m53:=pc_ HB5.out C3.out;have m54:=pc_ HB5.out C4.out;have m55:=pc_ HB5.out C5.out;have m56:=pc_ HB5.out C6.out;have m58:=pc_ HB5.out C8.out;clear hb))
         go_ret
         exact ⟨rfl,HW.out _ HB5.out⟩
        case neg =>
         have d6:decide (0<l0_6.length)=false:=df_ (by omega)
         have y6:decide ((0:Int)<(l0_6.length:Int))=false:=df_ (by omega)
         rw [d6]
         clear z6
         rw [if_neg (by first|decide|exact Bool.false_ne_true)]
         generalize hRV:(if l0_4.any (unwrapB l0_2 l0_3)=true then (13:Int) else if l0_2.any (attrsB _ l0_5)=true then 13 else 0)=RV
         have HRV:=A_ hRV
         clear hRV
         go_enter Try.func73,Try.ntmps73
         go_wp2_with (first|(go_at_call 92;(with_reducible refine (Q1.out _ (HW.out _ HB0.out)).mono ?_);rintro e w1 ⟨rfl,hb⟩;have HB1:=A_ (HB0.out.trans (hb.mono HB0.out.size));have m13:=pc_ HB1.out C3.out;clear hb)|(go_at_call 92;(with_reducible refine (Q2.out _ (HW.out _ HB1.out)).mono ?_);rintro e w2 ⟨rfl,hb⟩;have HB2:=A_ (HB1.out.trans (hb.mono HB1.out.size));have m24:=pc_ HB2.out C4.out;clear hb)|(go_at_call 92;(with_reducible refine (Q3.out _ (HW.out _ HB2.out)).mono ?_);rintro e w3 ⟨rfl,hb⟩;have HB3:=A_ (HB2.out.trans (hb.mono HB2.out.size));have m35:=pc_ HB3.out C5.out;clear hb)|(go_at_call 93;(with_reducible refine (Q4.out _ (HW.out _ HB3.out)).mono ?_);rintro e w4 ⟨rfl,hb⟩;have HB4:=A_ (HB3.out.trans (hb.mono HB3.out.size));have m46:=pc_ HB4.out C6.out;clear hb)|(go_at_call 93;(with_reducible refine (Q5.out _ (HW.out _ HB4.out)).mono ?_);rintro e w5 ⟨rfl,hb⟩;have HB5:=A_ (HB4.out.trans (hb.mono HB4.out.size));have m50:=pc_ HB5.out C0.out;have m51:=pc_ HB5.out C1.out;have m52:=pc_ HB5.out C2.out;have m53:=pc_ HB5.out C3.out;have m54:=pc_ HB5.out C4.out;have m55:=pc_ HB5.out C5.out;have m56:=pc_ HB5.out C6.out;have m58:=pc_ HB5.out C8.out;clear hb))
         try clear d2 y2
         try clear d3 y3
         try clear d5 y5
         try clear d6 y6
         have hn2:l0_2.length≤9223372036854775807:=HR2.out.2.1
         have hn4:l0_4.length≤9223372036854775807:=HR4.out.2.1
         have P1:=A_ m51
         have P2:=A_ m52
         have P3:=A_ m53
         have P4:=A_ m54
         have P5:=A_ m55
         go_loopg [3,4] l0_4.length (fun gg s3 _ wr=>∃ kk:Nat,kk≤l0_4.length∧l0_4.length - kk≤gg∧s3=.int .i64 kk∧Aside0 (Below w.heap.size w wr)∧Aside0 (Below w5.heap.size w5 wr)∧Aside0 (∀ j,j<kk→unwrapB l0_2 l0_3 (l0_4.getD j z56)=false))
         case atStart=>exact ⟨0,Nat.zero_le _,by omega,rfl,⟨HW.out _ HB5.out⟩,⟨Below.refl _ _⟩,⟨fun j hj=>absurd hj (Nat.not_lt_zero _)⟩⟩
         case round =>
          obtain ⟨kk,hkk,hg,rfl,BW,BV,AA⟩:=hrel
          clear m50 m51 m52 m53 m54 m55 m56 m58
          by_cases hlt:kk<l0_4.length
          ·have hltz:(kk:Int)<(l0_4.length:Int):=by omega
           have M2:=pc_ BV.out P2.out
           have M3:=pc_ BV.out P3.out
           have M4:=pc_ BV.out P4.out
           obtain ⟨ad,c,e,hcl,hK,hc⟩:=Kd.C_get (cb_ HR4.out BW.out) z56 (kk:Int) (by omega) (by omega)
           rw [Int.toNat_natCast] at hK hc
           obtain ⟨A9,c9,rfl,_,_⟩:=k56_open hK
           subst e
           have hmem:l0_4.getD kk z56∈l0_4:=by rw [List.getD_eq_getElem?_getD,List.getElem?_eq_getElem hlt];exact List.getElem_mem hlt
           have HX:∀ x,l0_4.getD kk z56=x→Aside0 (unwrapB l0_2 l0_3 x=true→RV=13):=fun x hx=>⟨fun hy=>by rw [←HRV.out,if_pos (List.any_eq_true.2 ⟨x,hx ▸ hmem,hy⟩)]⟩
           have HN:∀ x,l0_4.getD kk z56=x→Aside0 (unwrapB l0_2 l0_3 x=false→∀ j,j<kk+1→unwrapB l0_2 l0_3 (l0_4.getD j z56)=false):=fun x hx=>⟨fun hy j hj=>by
            by_cases e:j=kk
            ·subst e;rw [hx];exact hy
            ·exact AA.out j (by omega)⟩
           have g0:wr.cell? (ad.add (kk * 3))=some (.int .i64 (l0_4.getD kk z56).f0):=hc 0 _ rfl
           have g1:wr.cell? ⟨(ad.add (kk * 3)).block,(ad.add (kk * 3)).off+1,none⟩=some (.string (l0_4.getD kk z56).f1):=by rw [←add_field _ _ 1 (by omega)];exact hc 1 _ rfl
           have g2:wr.cell? ⟨(ad.add (kk * 3)).block,(ad.add (kk * 3)).off+2,none⟩=some (.slice A9 (l0_4.getD kk z56).f2.length c9):=by rw [←add_field _ _ 2 (by omega)];exact hc 2 _ rfl
           clear hc hK hcl
           generalize hx:l0_4.getD kk z56=x at *
           have HX:=HX x rfl
           have HN:=HN x rfl
           clear hmem hx
           have HBX:=A_ (ba_ BW.out (.cells #[.int .i64 x.f0,.string x.f1,.slice A9 x.f2.length c9] 56))
           have BVX:=A_ (ba_ BV.out (.cells #[.int .i64 x.f0,.string x.f1,.slice A9 x.f2.length c9] 56))
           have N2:=Mach.old_cell (.cells #[.int .i64 x.f0,.string x.f1,.slice A9 x.f2.length c9] 56) M2
           have N3:=A_ (Mach.old_cell (.cells #[.int .i64 x.f0,.string x.f1,.slice A9 x.f2.length c9] 56) M3)
           have X0:Aside0 ((wr.alloc (.cells #[.int .i64 x.f0,.string x.f1,.slice A9 x.f2.length c9] 56)).cell? ⟨wr.heap.size,0,none⟩=some (.int .i64 x.f0)):=⟨Mach.new_cell wr _ _ 0 _ rfl⟩
           have X1:Aside0 ((wr.alloc (.cells #[.int .i64 x.f0,.string x.f1,.slice A9 x.f2.length c9] 56)).cell? ⟨wr.heap.size,1,none⟩=some (.string x.f1)):=⟨Mach.new_cell wr _ _ 1 _ rfl⟩
           have QA:Aside0 (∀ V,Below w.heap.size w V→Calls Try.prog 77 #[.slice A0_2 l0_2.length c0_2,.int .i64 x.f0,.string x.f1] V fun e w'=>e=.returned (.int .i64 (ruleAtI l0_2 x.f0 x.f1))∧Below V.heap.size V w'):=⟨fun V hV=>spec_l07At.pure A0_2 c0_2 l0_2 x.f0 x.f1 V (cb_ HR2.out hV) HC2.out⟩
           have QB:Aside0 (∀ V,Below w.heap.size w V→Calls Try.prog 77 #[.slice A0_3 l0_3.length c0_3,.int .i64 x.f0,.string x.f1] V fun e w'=>e=.returned (.int .i64 (ruleAtI l0_3 x.f0 x.f1))∧Below V.heap.size V w'):=⟨fun V hV=>spec_l07At.pure A0_3 c0_3 l0_3 x.f0 x.f1 V (cb_ HR3.out hV) HC3.out⟩
           have hu:unwrapB l0_2 l0_3 x=(decide (0≤ruleAtI l0_2 x.f0 x.f1) || decide (0≤ruleAtI l0_3 x.f0 x.f1)):=rfl
           rw [hu] at HX HN
           clear hu M2 M3
           generalize ruleAtI l0_2 x.f0 x.f1=r1 at *
           generalize ruleAtI l0_3 x.f0 x.f1=r2 at *
           cases y1:decide (0≤r1) with
           | true =>
            rw [y1,Bool.true_or] at HX
            clear HN
            go_wp2_with (go_at_call 77;(with_reducible refine (QA.out _ HBX.out).mono ?_);rintro e v1 ⟨rfl,hv1⟩;have HX1:=A_ (HBX.out.trans (hv1.mono HBX.out.size));clear hv1)
            go_ret
            obtain rfl:=HX.out (by simp)
            exact ⟨rfl,HX1.out⟩
           | false =>
            rw [y1,Bool.false_or] at HX HN
            cases y2:decide (0≤r2) with
            | true =>
             rw [y2] at HX
             clear HN
             go_wp2_with (first|(go_at_call 77;(with_reducible refine (QA.out _ HBX.out).mono ?_);rintro e v1 ⟨rfl,hv1⟩;have HX1:=A_ (HBX.out.trans (hv1.mono HBX.out.size));have N13:=pc_ hv1 N3.out;have X10:=pc_ hv1 X0.out;have X11:=pc_ hv1 X1.out;clear hv1)|(go_at_call 77;(with_reducible refine (QB.out _ HX1.out).mono ?_);rintro e v2 ⟨rfl,hv2⟩;have HX2:=A_ (HX1.out.trans (hv2.mono HX1.out.size));clear hv2))
             go_ret
             obtain rfl:=HX.out (by simp)
             exact ⟨rfl,HX2.out⟩
            | false =>
             rw [y2] at HN
             clear HX
             go_wp2_with (first|(go_at_call 77;(with_reducible refine (QA.out _ HBX.out).mono ?_);rintro e v1 ⟨rfl,hv1⟩;have HX1:=A_ (HBX.out.trans (hv1.mono HBX.out.size));have BX1:=A_ (BVX.out.trans (hv1.mono BVX.out.size));have N13:=pc_ hv1 N3.out;have X10:=pc_ hv1 X0.out;have X11:=pc_ hv1 X1.out;clear hv1)|(go_at_call 77;(with_reducible refine (QB.out _ HX1.out).mono ?_);rintro e v2 ⟨rfl,hv2⟩;have HX2:=A_ (HX1.out.trans (hv2.mono HX1.out.size));have BX2:=A_ (BX1.out.trans (hv2.mono BX1.out.size));clear hv2))
             go_roundg (l0_4.length - (kk+1))
             case measure=>omega
             case rel=>exact ⟨kk+1,by omega,by omega,by go_num,HX2,BX2,⟨HN.out (by simp)⟩⟩
          ·have hltz:¬ (kk:Int)<(l0_4.length:Int):=by omega
           have hany:¬ l0_4.any (unwrapB l0_2 l0_3)=true:=by
            intro h
            obtain ⟨x,hx,hy⟩:=List.any_eq_true.1 h
            obtain ⟨j,hj,rfl⟩:=List.getElem_of_mem hx
            have:=AA.out j (by omega)
            rw [List.getD_eq_getElem?_getD,List.getElem?_eq_getElem hj] at this
            rw [show unwrapB l0_2 l0_3 l0_4[j]=false from this] at hy
            cases hy
           rw [if_neg hany] at HRV
           clear hany AA
           have M4:=pc_ BV.out P4.out
           go_wp2_with (fail)
           clear M4
           go_loopg [5,6] l0_2.length (fun gg s5 _ wr2=>∃ k2:Nat,k2≤l0_2.length∧l0_2.length - k2≤gg∧s5=.int .i64 k2∧Aside0 (Below w.heap.size w wr2)∧Aside0 (Below w5.heap.size w5 wr2)∧Aside0 (∀ j,j<k2→attrsB true l0_5 (l0_2.getD j z56)=false))
           case atStart=>exact ⟨0,Nat.zero_le _,by omega,rfl,BW,BV,⟨fun j hj=>absurd hj (Nat.not_lt_zero _)⟩⟩
           case round =>
            clear BW BV hltz hlt hkk hg
            obtain ⟨k2,hk2,hg2,rfl,BW,BV,AA⟩:=hrel
            by_cases hlt:k2<l0_2.length
            ·have hltz:(k2:Int)<(l0_2.length:Int):=by omega
             have M2:=pc_ BV.out P2.out
             obtain ⟨ad,c,e,hcl,hK,hc⟩:=Kd.C_get HR2.out z56 (k2:Int) (by omega) (by omega)
             rw [Int.toNat_natCast] at hK hc
             obtain ⟨A9,c9,rfl,hcx,hrx⟩:=k56_open hK
             subst e
             have hmem:l0_2.getD k2 z56∈l0_2:=by rw [List.getD_eq_getElem?_getD,List.getElem?_eq_getElem hlt];exact List.getElem_mem hlt
             have HX:∀ x,l0_2.getD k2 z56=x→Aside0 (attrsB true l0_5 x=true→RV=13):=fun x hx=>⟨fun hy=>by rw [←HRV.out,if_pos (List.any_eq_true.2 ⟨x,hx ▸ hmem,hy⟩)]⟩
             have HN:∀ x,l0_2.getD k2 z56=x→Aside0 (attrsB true l0_5 x=false→∀ j,j<k2+1→attrsB true l0_5 (l0_2.getD j z56)=false):=fun x hx=>⟨fun hy j hj=>by
              by_cases e:j=k2
              ·subst e;rw [hx];exact hy
              ·exact AA.out j (by omega)⟩
             have g2:Aside0 (w.cell? ⟨(ad.add (k2 * 3)).block,(ad.add (k2 * 3)).off+2,none⟩=some (.slice A9 (l0_2.getD k2 z56).f2.length c9)):=⟨by rw [←add_field _ _ 2 (by omega)];exact hc 2 _ rfl⟩
             clear hc hK hcl
             generalize hx:l0_2.getD k2 z56=x at *
             have HX:=HX x rfl
             have HN:=HN x rfl
             clear hmem hx
             have HR9:Aside0 (Kd.C Kd.string w A9 x.f2.length x.f2):=⟨hrx⟩
             have hn9:x.f2.length≤9223372036854775807:=hrx.2.1
             clear hcx hrx
             go_wp2_with (fail)
             have hnil:(∀ j,j<x.f2.length→(!true || Kit.hasT l0_5 (x.f2.getD j ByteArray.empty))=false)→attrsB true l0_5 x=false:=fun h=>by
              unfold attrsB
              rw [Bool.eq_false_iff]
              intro hh
              obtain ⟨n,hn,hy⟩:=List.any_eq_true.1 hh
              obtain ⟨j,hj,rfl⟩:=List.getElem_of_mem hn
              have:=h j hj
              rw [List.getD_eq_getElem?_getD,List.getElem?_eq_getElem hj] at this
              rw [show (!true || Kit.hasT l0_5 x.f2[j])=false from this] at hy
              cases hy
             have hhit:∀ j,j<x.f2.length→(!true || Kit.hasT l0_5 (x.f2.getD j ByteArray.empty))=true→RV=13:=fun j hj hy=>HX.out (by
              unfold attrsB
              refine List.any_eq_true.2 ⟨x.f2.getD j ByteArray.empty,?_,hy⟩
              rw [List.getD_eq_getElem?_getD,List.getElem?_eq_getElem hj];exact List.getElem_mem hj)
             have HNIL:=A_ hnil
             have HHIT:=A_ hhit
             clear hnil hhit HX AA M2
             go_loopg [6] x.f2.length (fun gg s6 wr3=>∃ k3:Nat,k3≤x.f2.length∧x.f2.length - k3≤gg∧s6=.int .i64 k3∧Aside0 (Below w.heap.size w wr3)∧Aside0 (Below w5.heap.size w5 wr3)∧Aside0 (∀ j,j<k3→(!true || Kit.hasT l0_5 (x.f2.getD j ByteArray.empty))=false))
             case atStart=>exact ⟨0,Nat.zero_le _,by omega,rfl,BW,BV,⟨fun j hj=>absurd hj (Nat.not_lt_zero _)⟩⟩
             case round =>
              clear BW BV
              obtain ⟨k3,hk3,hg3,rfl,BW,BV,AA⟩:=hrel
              have M2:=pc_ BV.out P2.out
              have G2:=pc_ BW.out g2.out
              by_cases hl3:k3<x.f2.length
              ·have hlz3:(k3:Int)<(x.f2.length:Int):=by omega
               have M1:=pc_ BV.out P1.out
               have M5:=pc_ BV.out P5.out
               obtain ⟨ad9,e9,l1⟩:=Kd.at_string HR9.out (k3:Int) (by omega) hlz3
               subst e9
               rw [Kit.rdOf_nat,Int.toNat_natCast] at l1
               have L1:=pc_ BW.out l1
               clear l1
               have HH:=HHIT.out k3 hl3
               have HSTEP:∀ y,x.f2.getD k3 ByteArray.empty=y→Aside0 ((!true || Kit.hasT l0_5 y)=false→∀ j,j<k3+1→(!true || Kit.hasT l0_5 (x.f2.getD j ByteArray.empty))=false):=fun y hy=>⟨fun hf j hj=>by
                by_cases e:j=k3
                ·subst e;rw [hy];exact hf
                ·exact AA.out j (by omega)⟩
               have q:=fun W (h:Below w.heap.size w W)=>spec_l01Has.pure A0_5 c0_5 l0_5 (x.f2.getD k3 ByteArray.empty) W (cb_ HR5.out h) HC5.out
               generalize hy:x.f2.getD k3 ByteArray.empty=y at *
               have HSTEP:=HSTEP y rfl
               clear hy
               have q9:=fun m=>q (wr.drewN m) (pd_ BW.out m)
               clear q
               cases hh:Kit.hasT l0_5 y with
               | true =>
                rw [hh] at q9
                obtain rfl:=HH (by rw [hh];rfl)
                clear HH HSTEP hh
                go_wp2_with (fail)
                go_quiet (first|(go_at_call 70;exact quietD3 (q9 _)))
                go_wp2
                go_ret
                exact ⟨rfl,by first|exact pd_ BW.out _|exact BW.out⟩
               | false =>
                rw [hh] at HSTEP q9
                clear HH hh
                go_wp2_with (fail)
                go_quiet (first|(go_at_call 70;exact quietD3 (q9 _)))
                go_wp2
                go_roundg (x.f2.length - (k3+1))
                case measure=>omega
                case rel=>exact ⟨k3+1,by omega,by omega,by go_num,⟨pd_ BW.out _⟩,⟨pd_ BV.out _⟩,⟨HSTEP.out (by simp)⟩⟩
              ·have hlz3:¬ (k3:Int)<(x.f2.length:Int):=by omega
               have HAB:=HN.out (HNIL.out (fun j hj=>AA.out j (by omega)))
               have HAB:=A_ HAB
               clear HN HNIL AA
               go_wp2_with (fail)
               go_roundg (l0_2.length - (k2+1))
               case measure=>omega
               case rel=>exact ⟨k2+1,by omega,by omega,by go_num,BW,BV,HAB⟩
            ·have hltz:¬ (k2:Int)<(l0_2.length:Int):=by omega
             have hany:¬ l0_2.any (attrsB true l0_5)=true:=by
              intro h
              obtain ⟨x,hx,hy⟩:=List.any_eq_true.1 h
              obtain ⟨j,hj,rfl⟩:=List.getElem_of_mem hx
              have:=AA.out j (by omega)
              rw [List.getD_eq_getElem?_getD,List.getElem?_eq_getElem hj] at this
              rw [show attrsB true l0_5 l0_2[j]=false from this] at hy
              cases hy
             rw [if_neg hany] at HRV
             obtain rfl:=HRV.out
             clear hany AA HRV
             have M2:=pc_ BV.out P2.out
             go_wp2_with (fail)
             go_ret
             exact ⟨rfl,BW.out⟩
end Go.Proofs.Ytmeafbneklphnaa.PFnExactAllowsAttr
