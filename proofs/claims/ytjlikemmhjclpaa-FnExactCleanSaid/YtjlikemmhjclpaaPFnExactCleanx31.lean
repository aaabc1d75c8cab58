/- By a program of this session, out of the kit's print and contracts made by hand: the machine side of a law; Lean checks it. No conditions. -/
import Derived.Test.YtjlikemmhjclpaaPFnExactCleanx0
import Derived.Test.YtjlikemmhjclpaaPFnExactCleanx2
import Derived.Test.YtjlikemmhjclpaaPFnExactCleanx3
import Derived.Test.YtjlikemmhjclpaaPFnExactCleanx5
import Derived.Test.YtjlikemmhjclpaaPFnExactCleanx18
import Derived.Test.YtjlikemmhjclpaaPFnExactCleanx30
namespace Go.Proofs.Ytjlikemmhjclpaa.PFnExactClean
open Go.RowKit Go.Proofs.YtjlikemmhjclpaaW.PrintWords Go.Proofs.YtjlikemmhjclpaaW.PrintLast Go.Proofs.YtjlikemmhjclpaaW.PrintMore
attribute [local go_sem] max2_int min2_int max_two min_two max_three min_three max_four min_four
set_option linter.unusedVariables false
set_option linter.unusedSimpArgs false
/-! ### laws_FnExactClean: function 4, by hand -/
def laws_FnExactClean.f (k:Nat) (x0:List S40):Option Bool :=
 (laws_szNodeS.f k x0 1048576).bind fun q0=>if q0<0 then some true else (laws_toNodeS.f k x0).bind fun y0=>(spec_Clean.f k y0).bind fun b=>(impl_Clean.f y0).bind fun g=>if (g == b && (laws_eqNodeS.f k y0 y0 == some true))=true then some true else none
set_option maxHeartbeats 16000000 in
theorem laws_FnExactClean.calls (k:Nat) (A0:Option Addr) (c0:Nat) (x0:List S40) (r:Bool) (w:World) (m:Int) (hm:w.cell? ⟨0,0,none⟩=some (.int .i64 m)) (hr0:Kd.C k40 w A0 x0.length x0) (hc0:x0.length≤c0) (h:laws_FnExactClean.f k x0=some r) (hr:Aside0 (r=true)) :
 Calls Try.prog 4 #[.slice A0 x0.length c0] w fun e w'=>e=.returned (.bool r)∧Below w.heap.size w w':=by
 obtain rfl:=hr.out
 clear hr
 unfold laws_FnExactClean.f at h
 have HB0:=A_ (Below.refl w.heap.size w)
 obtain ⟨q0,hq0,h⟩:=ob_ h
 have QS:=A_ (laws_szNodeS.calls k A0 c0 x0 1048576 q0 w hr0 hc0 hq0)
 by_cases c0n:q0<0
 ·have z0n:decide (q0<0)=true:=dt_ c0n
  clear h hq0 hr0 hc0 hm
  generalize x0.length=nx0 at *
  go_enter Try.func4,Try.ntmps4
  go_wp2_with (first|(go_at_call 5;(with_reducible refine QS.out.mono ?_);rintro e ws0 ⟨rfl,hb⟩;(have HBs:=A_ (bp_ HB0.out hb));clear hb))
  go_ret
  exact ⟨rfl,HBs.out⟩
 rw [if_neg c0n] at h
 have z0n:decide (q0<0)=false:=df_ c0n
 obtain ⟨y0,hy0,h⟩:=ob_ h
 obtain ⟨b,hb,h⟩:=ob_ h
 obtain ⟨g,hi,h⟩:=ob_ h
 obtain ⟨hc,_⟩:=Option.ite_none_right_eq_some.mp h
 simp only [Bool.and_eq_true,beq_iff_eq] at hc
 obtain ⟨he,hq⟩:=hc
 have QT:Aside0 (∀ V,Below w.heap.size w V→Calls Try.prog 7 #[.slice A0 x0.length c0] V fun e w'=>∃ A c,e=.returned (.slice A y0.length c)∧Kd.S kTN 44 w' V.heap.size (fun k=>V.heap.size≤k∧k<w'.heap.size) (.slice A y0.length c) y0∧Below V.heap.size V w'):=⟨fun V hV=>(laws_toNodeS.callsT k A0 c0 x0 y0 V (cb_ hr0 hV) hc0 hy0).mono fun e w' ⟨A,c,he,hs,hb⟩=>⟨A,c,he,Kd.S_mono (Kd.S_bound hs) (fun k hk=>⟨hk.2.1,hk.2.2.1⟩),hb⟩⟩
 have QP:Aside0 (∀ V A c B P,Kd.S kTN 44 V B P (.slice A y0.length c) y0→Calls Try.prog 15 #[.slice A y0.length c] V fun e w'=>e=.returned (.bool b)∧Below V.heap.size V w'):=⟨fun V A c B P h1=>(spec_Clean.calls k A c y0 b V ((S_readsT h1).2.2) ((S_readsT h1).2.1) hb).mono fun e w' h=>⟨h.1,by first|exact h.2|exact h.2.below⟩⟩
 have QI:Aside0 (∀ V A c B P,Below w.heap.size w V→Kd.S kTN 44 V B P (.slice A y0.length c) y0→Calls Try.prog 16 #[.slice A y0.length c] V fun e w'=>e=.returned (.bool b)∧Below V.heap.size V w'):=⟨fun V A c B P hV h1=>by rw [←he];exact impl_Clean.calls m A c y0 g V (pc_ hV hm) ((S_readsT h1).2.2) ((S_readsT h1).2.1) hi⟩
 have QE:Aside0 (∀ V A c A' c' B P B' P',Kd.S kTN 44 V B P (.slice A y0.length c) y0→Kd.S kTN 44 V B' P' (.slice A' y0.length c') y0→Calls Try.prog 10 #[.slice A y0.length c,.slice A' y0.length c'] V fun e w'=>e=.returned (.bool true)∧Below V.heap.size V w'):=⟨fun V A c A' c' B P B' P' h1 h2=>(laws_eqNodeS.calls k A c y0 A' c' y0 true V ((S_readsT h1).2.2) ((S_readsT h1).2.1) ((S_readsT h2).2.2) ((S_readsT h2).2.1) hq).mono fun e w' ⟨he,hd⟩=>⟨he,hd⟩⟩
 have hbb:(b != b)=false:=by cases b <;> rfl
 have hbe:(b == b)=true:=by cases b <;> rfl
 clear h hq0 hr0 hc0 hm hy0 hb hi he hq
 generalize x0.length=nx0 at *
 generalize y0.length=ny0 at *
 go_enter Try.func4,Try.ntmps4
 go_wp2_with (first|(go_at_call 5;(with_reducible refine QS.out.mono ?_);rintro e ws0 ⟨rfl,hb⟩;(have HBs:=A_ (bp_ HB0.out hb));clear hb HB0)|(go_at_call 15;(with_reducible refine (QP.out _ _ _ _ _ HT1.out).mono ?_);rintro e w2 ⟨rfl,hb⟩;(have HB2:=A_ (bp_ HB1.out hb));clear hb QP)|(go_at_call 16;(with_reducible refine (QI.out _ _ _ _ _ HB3.out HT3.out).mono ?_);rintro e w4 ⟨rfl,hb⟩;(have HB4:=A_ (bp_ HB3.out hb));(have HT4:=A_ (Kd.S_below HT3.out hb));clear hb QI)|(go_at_call 10;(with_reducible refine (QE.out _ _ _ _ _ _ _ _ _ HT6.out HT5.out).mono ?_);rintro e w6 ⟨rfl,hb⟩;(have HB6:=A_ (bp_ HB5.out hb));clear hb)|(go_at_call 7;(with_reducible refine (QT.out _ HB4.out).mono ?_);rintro e w5 ⟨A5,c5,rfl,hs,hb⟩;(have HB5:=A_ (bp_ HB4.out hb));(have HT5:=A_ hs);(have HT6:=A_ (Kd.S_below HT4.out hb));clear hs hb)|(go_at_call 7;(with_reducible refine (QT.out _ HB2.out).mono ?_);rintro e w3 ⟨A3,c3,rfl,hs,hb⟩;(have HB3:=A_ (bp_ HB2.out hb));(have HT3:=A_ hs);clear hs hb)|(go_at_call 7;(with_reducible refine (QT.out _ HBs.out).mono ?_);rintro e w1 ⟨A1,c1,rfl,hs,hb⟩;(have HB1:=A_ (bp_ HBs.out hb));(have HT1:=A_ hs);clear hs hb))
 go_ret
 exact ⟨rfl,HB6.out⟩
end Go.Proofs.Ytjlikemmhjclpaa.PFnExactClean
