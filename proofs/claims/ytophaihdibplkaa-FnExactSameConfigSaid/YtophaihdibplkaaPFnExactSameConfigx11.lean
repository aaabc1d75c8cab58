/- By a program of this session, out of the kit's print and contracts made by hand: the machine side of a law; Lean checks it. No conditions. -/
import Derived.Test.YtophaihdibplkaaPFnExactSameConfigx0
import Derived.Test.YtophaihdibplkaaPFnExactSameConfigx4
import Derived.Test.YtophaihdibplkaaPFnExactSameConfigx9
import Derived.Test.YtophaihdibplkaaPFnExactSameConfigx10
namespace Go.Proofs.Ytophaihdibplkaa.PFnExactSameConfig
open Go.RowKit Go.Proofs.YtophaihdibplkaaW.PrintWords Go.Proofs.YtophaihdibplkaaW.PrintLast Go.Proofs.YtophaihdibplkaaW.PrintMore
attribute [local go_sem] max2_int min2_int max_two min_two max_three min_three max_four min_four
set_option linter.unusedVariables false
set_option linter.unusedSimpArgs false
/-! ### EqualFunc_Rule: function 207, by hand -/
set_option maxHeartbeats 1000000 in
/-- slices.EqualFunc at this type, whatever the relation. -/
theorem EqualFunc_Rule.holds (A1 A2:Option Addr) (n1 c1 n2 c2:Nat) (v1 v2:Nat→List Value) (p:Nat→Bool) (g:Nat) (lb:Array Value) (eg:∀ args w,(callFunc g args).run Try.prog w=.ok (.enter g args) w) (w:World)
 (hp:∀ j,j<n1→j<n2→∀ W,Below w.heap.size w W→Calls Try.prog g (#[.agg (v1 j).toArray,.agg (v2 j).toArray]++lb) W fun e w'=>e=.returned (.bool (p j))∧Below w.heap.size w w')
 (hbig1:n1≤9223372036854775807) (hbig2:n2≤9223372036854775807)
 (hc1:∀ j,j<n1→∃ ad,A1=some ad∧(∃ a b A n c,v1 j=[.int .i64 a,.string b,.slice A n c])∧∀ i u,(v1 j)[i]? = some u→w.cell? (ad.add (j * 3+i))=some u)
 (hc2:∀ j,j<n2→∃ ad,A2=some ad∧(∃ a b A n c,v2 j=[.int .i64 a,.string b,.slice A n c])∧∀ i u,(v2 j)[i]? = some u→w.cell? (ad.add (j * 3+i))=some u) :
 Calls Try.prog 207 #[.slice A1 n1 c1,.slice A2 n2 c2,.func (.func g) #[] lb] w fun e w'=>e=.returned (.bool (decide (n1=n2) && Mach.allP p n1))∧Below w.heap.size w w':=by
 have HC1:=Aside0.mk hc1
 have HC2:=Aside0.mk hc2
 have HP:=Aside0.mk hp
 clear hc1 hc2 hp
 by_cases hn:n1=n2
 case neg =>
  rw [decide_eq_false hn,Bool.false_and]
  have hz:((n1:Int) == (n2:Int))=false:=by simpa using fun h=>hn (by omega)
  go_enter Try.func207,Try.ntmps207
  go_wp2
  go_ret
  exact ⟨rfl,Below.refl _ _⟩
 case pos =>
  subst hn
  rw [decide_eq_true rfl,Bool.true_and]
  go_enter Try.func207,Try.ntmps207
  go_wp2
  go_loopg [7,8,9,17] n1 (fun gg _ _ _ s17 wr=>∃ kk:Nat,kk≤n1∧n1 - kk≤gg∧s17=.int .i64 kk∧Aside0 (Below w.heap.size w wr)∧Aside0 (∀ j,j<kk→p j=true))
  case atStart=>exact ⟨0,Nat.zero_le _,by omega,rfl,⟨Below.refl _ w⟩,⟨fun j hj=>absurd hj (Nat.not_lt_zero _)⟩⟩
  case round =>
   obtain ⟨kk,hkk,hg,rfl,BW,AA⟩:=hrel
   by_cases hlt:kk<n1
   ·have hltz:(kk:Int)<(n1:Int):=by omega
    obtain ⟨ad,e,⟨xa,xb,xA,xn,xc,hv⟩,l1⟩:=HC1.out kk hlt
    cases e
    obtain ⟨bd,e2,⟨ya,yb,yA,yn,yc,hu⟩,l2⟩:=HC2.out kk hlt
    cases e2
    have m0:=pw_cell_below BW.out (l1 0 (.int .i64 xa) (by rw [hv];rfl))
    rw [Nat.add_zero] at m0
    have m1:=pw_cell_below BW.out (l1 1 (.string xb) (by rw [hv];rfl))
    rw [add_field _ _ 1 (by omega)] at m1
    have m2:=pw_cell_below BW.out (l1 2 (.slice xA xn xc) (by rw [hv];rfl))
    rw [add_field _ _ 2 (by omega)] at m2
    have hba:=below_alloc (Below.refl wr.heap.size wr) (.cells #[.int .i64 xa,.string xb,.slice xA xn xc] 155)
    have k0:=pw_cell_below hba (pw_cell_below BW.out (l2 0 (.int .i64 ya) (by rw [hu];rfl)))
    rw [Nat.add_zero] at k0
    have k1:=pw_cell_below hba (pw_cell_below BW.out (l2 1 (.string yb) (by rw [hu];rfl)))
    rw [add_field _ _ 1 (by omega)] at k1
    have k2:=pw_cell_below hba (pw_cell_below BW.out (l2 2 (.slice yA yn yc) (by rw [hu];rfl)))
    rw [add_field _ _ 2 (by omega)] at k2
    have hbb:=BW.out.trans ((below_alloc hba (.cells #[.int .i64 ya,.string yb,.slice yA yn yc] 155)).mono BW.out.size)
    have hcall:=HP.out kk hlt hlt _ hbb
    clear l1 l2 hba hbb
    rw [hv,hu] at hcall
    clear hv hu
    cases hq:p kk with
    | false =>
     rw [hq] at hcall
     go_wp2_with ((with_reducible refine hcall.mono ?_);rintro e w' ⟨rfl,hb'⟩)
     go_ret
     refine ⟨?_,hb'⟩
     rw [Mach.allP_false hlt hq]
     rfl
    | true =>
     rw [hq] at hcall
     go_wp2_with ((with_reducible refine hcall.mono ?_);rintro e w' ⟨rfl,hb'⟩)
     go_roundg (n1 - (kk+1))
     case measure=>omega
     case rel =>
      refine ⟨kk+1,by omega,by omega,by go_num,⟨hb'⟩,⟨fun j hj=>?_⟩⟩
      by_cases e:j=kk
      ·subst e;exact hq
      ·exact AA.out j (by omega)
   ·have hltz:¬ (kk:Int)<(n1:Int):=by omega
    have:kk=n1:=by omega
    subst this
    go_wp2
    go_ret
    refine ⟨?_,BW.out⟩
    rw [Mach.allP_true AA.out]
    rfl
/-! ### slices_Equal_string_string: function 183 -/
def slices_Equal_string_string.l0:Nat→List ByteArray→List ByteArray→Int→Int→Option (Bool)
 | 0,_,_,_,_=>none
 | k+1,x0,x1,x12,x13=>if x13<x12 then (if 0≤x13 then (if x13<(x0.length:Int) then (if x13<(x1.length:Int) then (if (rdOf ByteArray.empty x0 x13).toList=(rdOf ByteArray.empty x1 x13).toList then (slices_Equal_string_string.l0 k x0 x1 x12 (wrap64 (x13+1))) else (some false)) else (none)) else (none)) else (none)) else (some true)
def slices_Equal_string_string.f (k:Nat) (l0:List ByteArray) (l1:List ByteArray):Option (Bool):=if (l0.length:Int)=(l1.length:Int) then (slices_Equal_string_string.l0 k l0 l1 (l0.length:Int) 0) else (some false)
theorem slices_Equal_string_string.mono_l:∀ k,(∀ y0 y1 y2 y3,LeO (slices_Equal_string_string.l0 k y0 y1 y2 y3) (slices_Equal_string_string.l0 (k+1) y0 y1 y2 y3))
 | 0=>fun _ _ _ _ r h=>by simp [slices_Equal_string_string.l0] at h
 | k+1=>by
  have ih0:=slices_Equal_string_string.mono_l k
  ·intro y0 y1 y2 y3
   unfold slices_Equal_string_string.l0
   repeat' first
   | (with_reducible exact ih0 _ _ _ _)
   | (with_reducible exact LeO.refl _)
   | (with_reducible exact LeO.none _)
   | (with_reducible refine LeO.ite ?_ ?_)
   | (with_reducible refine LeO.bind ?_ (fun _=>?_))
   | exact ih0 _ _ _ _
   | exact LeO.none _
   | refine LeO.ite ?_ ?_
   | refine LeO.bind ?_ (fun _=>?_)
theorem slices_Equal_string_string.mono:∀ a0 a1 k,LeO (slices_Equal_string_string.f k a0 a1) (slices_Equal_string_string.f (k+1) a0 a1):=by
 intro a0 a1 k
 have ih0:=slices_Equal_string_string.mono_l k
 unfold slices_Equal_string_string.f
 repeat' first
  | (with_reducible exact ih0 _ _ _ _)
  | (with_reducible exact LeO.refl _)
  | (with_reducible exact LeO.none _)
  | (with_reducible refine LeO.ite ?_ ?_)
  | (with_reducible refine LeO.bind ?_ (fun _=>?_))
  | exact ih0 _ _ _ _
  | exact LeO.none _
  | refine LeO.ite ?_ ?_
  | refine LeO.bind ?_ (fun _=>?_)
set_option maxHeartbeats 8000000 in
set_option maxRecDepth 100000 in
theorem slices_Equal_string_string.calls (k:Nat) (A0:Option Addr) (c0:Nat) (l0:List ByteArray) (A1:Option Addr) (c1:Nat) (l1:List ByteArray) (r:Bool) (w:World) (hr0:Kd.C Kd.string w A0 l0.length l0) (hc0:l0.length≤c0) (hr1:Kd.C Kd.string w A1 l1.length l1) (hc1:l1.length≤c1) (h:slices_Equal_string_string.f k l0 l1=some r) :
 Calls Try.prog 183 #[.slice A0 l0.length c0,.slice A1 l1.length c1] w fun e w'=>e=.returned (.bool r)∧Drawn0 w w':=by
 have HR0:=Aside0.mk hr0
 have HC0:=Aside0.mk hc0
 clear hr0 hc0
 have HR1:=Aside0.mk hr1
 have HC1:=Aside0.mk hc1
 clear hr1 hc1
 have H:(if (l0.length:Int)=(l1.length:Int) then (slices_Equal_string_string.l0 k l0 l1 (l0.length:Int) 0) else (some false))=some r:=h
 clear h
 by_cases c3:(l0.length:Int)=(l1.length:Int)
 ·rw [if_pos c3] at H
  have c3b0:((l0.length:Int) == (l1.length:Int))=true:=beq_iff_eq.mpr c3
  have c3b1:((l0.length:Int) != (l1.length:Int))=false:=bne_eq_false_iff_eq.mpr c3
  have c3b2:(l0.length == l1.length)=true:=by first|simpa using c3|(simp at c3 ⊢;omega)
  clear c3
  have H':=Aside0.mk H
  clear H
  go_enter Try.func183,Try.ntmps183
  go_wp2
  repeat (go_quiet (fail);try go_wp2)
  go_loopg [13] k (fun kq v13 w'=>∃ (x13_1:Int),v13=.int .i64 x13_1∧Aside0 (slices_Equal_string_string.l0 kq l0 l1 (l0.length:Int) x13_1=some r)∧Aside0 (kq≤k)∧Drawn0 w w')
  case atStart=>exact ⟨(0),(by first|rfl|(simp;done)|(simp [*];done)),H',⟨Nat.le_refl _⟩,by repeat (first|exact Drawn0.refl _|apply Drawn0.step)⟩
  case round =>
   clear H'
   try clear c1
   try clear p2
   try clear c3
   try clear c3b0
   try clear c3b1
   try clear c3b2
   obtain ⟨x13_1,rfl,HA,HK1,⟨m1,rfl⟩⟩:=hrel
   cases gk with
   | zero=>exact absurd HA.out (by simp [slices_Equal_string_string.l0])
   | succ k1 =>
    have H:=HA.out
    clear HA
    simp only [slices_Equal_string_string.l0] at H
    by_cases c4:x13_1<(l0.length:Int)
    ·rw [if_pos c4] at H
     have c4b0:decide (x13_1<(l0.length:Int))=true:=decide_eq_true c4
     clear c4
     by_cases c5:0≤x13_1
     ·rw [if_pos c5] at H
      have c5b0:decide (0≤x13_1)=true:=decide_eq_true c5
      clear c5
      by_cases c6:x13_1<(l0.length:Int)
      ·rw [if_pos c6] at H
       have c6b0:decide (x13_1<(l0.length:Int))=true:=decide_eq_true c6
       clear c6
       by_cases c7:x13_1<(l1.length:Int)
       ·rw [if_pos c7] at H
        have c7b0:decide (x13_1<(l1.length:Int))=true:=decide_eq_true c7
        clear c7
        by_cases c8:(rdOf ByteArray.empty l0 x13_1).toList=(rdOf ByteArray.empty l1 x13_1).toList
        ·rw [if_pos c8] at H
         have c8b0:((rdOf ByteArray.empty l0 x13_1).toList == (rdOf ByteArray.empty l1 x13_1).toList)=true:=beq_iff_eq.mpr c8
         have c8b1:((rdOf ByteArray.empty l0 x13_1).toList != (rdOf ByteArray.empty l1 x13_1).toList)=false:=bne_eq_false_iff_eq.mpr c8
         clear c8
         have H':=Aside0.mk H
         clear H
         have p180:0≤(x13_1:Int):=of_decide_eq_true (by first|(with_reducible assumption)|assumption)
         have q180:x13_1<(l0.length:Int):=of_decide_eq_true (by first|(with_reducible assumption)|assumption)
         obtain ⟨ad180,e180,hx180_0⟩:=Kd.at_string HR0.out x13_1 p180 q180
         cases e180
         replace p180:=eq_true p180
         replace q180:=eq_true q180
         have p181:0≤(x13_1:Int):=of_decide_eq_true (by first|(with_reducible assumption)|assumption)
         have q181:x13_1<(l1.length:Int):=of_decide_eq_true (by first|(with_reducible assumption)|assumption)
         obtain ⟨ad181,e181,hx181_0⟩:=Kd.at_string HR1.out x13_1 p181 q181
         cases e181
         replace p181:=eq_true p181
         replace q181:=eq_true q181
         go_wp2
         repeat (go_quiet (fail);try go_wp2)
         go_roundg k1
         case measure=>have:=HK1.out;omega
         case rel=>exact ⟨(wrap64 (x13_1+1)),(by first|rfl|(simp;done)|(simp [*];done)),H',⟨by have:=HK1.out;omega⟩,by repeat (first|exact Drawn0.refl _|apply Drawn0.step)⟩
        ·rw [if_neg c8] at H
         have c8b0:((rdOf ByteArray.empty l0 x13_1).toList == (rdOf ByteArray.empty l1 x13_1).toList)=false:=beq_eq_false_iff_ne.mpr c8
         have c8b1:((rdOf ByteArray.empty l0 x13_1).toList != (rdOf ByteArray.empty l1 x13_1).toList)=true:=bne_iff_ne.mpr c8
         obtain rfl:=Option.some.inj H
         have p180:0≤(x13_1:Int):=of_decide_eq_true (by first|(with_reducible assumption)|assumption)
         have q180:x13_1<(l0.length:Int):=of_decide_eq_true (by first|(with_reducible assumption)|assumption)
         obtain ⟨ad180,e180,hx180_0⟩:=Kd.at_string HR0.out x13_1 p180 q180
         cases e180
         replace p180:=eq_true p180
         replace q180:=eq_true q180
         have p181:0≤(x13_1:Int):=of_decide_eq_true (by first|(with_reducible assumption)|assumption)
         have q181:x13_1<(l1.length:Int):=of_decide_eq_true (by first|(with_reducible assumption)|assumption)
         obtain ⟨ad181,e181,hx181_0⟩:=Kd.at_string HR1.out x13_1 p181 q181
         cases e181
         replace p181:=eq_true p181
         replace q181:=eq_true q181
         go_wp2
         repeat (go_quiet (fail);try go_wp2)
         go_ret
         exact ⟨by first|rfl|(simp;done)|(simp [*];done),by repeat (first|exact Drawn0.refl _|apply Drawn0.step)⟩
       ·rw [if_neg c7] at H
        exact absurd H (by simp)
      ·rw [if_neg c6] at H
       exact absurd H (by simp)
     ·rw [if_neg c5] at H
      exact absurd H (by simp)
    ·rw [if_neg c4] at H
     have c4b0:decide (x13_1<(l0.length:Int))=false:=decide_eq_false c4
     clear c4
     obtain rfl:=Option.some.inj H
     go_wp2
     repeat (go_quiet (fail);try go_wp2)
     go_ret
     exact ⟨by first|rfl|(simp;done)|(simp [*];done),by repeat (first|exact Drawn0.refl _|apply Drawn0.step)⟩
 ·rw [if_neg c3] at H
  have c3b0:((l0.length:Int) == (l1.length:Int))=false:=beq_eq_false_iff_ne.mpr c3
  have c3b1:((l0.length:Int) != (l1.length:Int))=true:=bne_iff_ne.mpr c3
  have c3b2:(l0.length == l1.length)=false:=by first|simpa using c3|(simp at c3 ⊢;omega)
  obtain rfl:=Option.some.inj H
  go_enter Try.func183,Try.ntmps183
  go_wp2
  repeat (go_quiet (fail);try go_wp2)
  go_ret
  exact ⟨by first|rfl|(simp;done)|(simp [*];done),by repeat (first|exact Drawn0.refl _|apply Drawn0.step)⟩
def eqStrs (l0 l1:List ByteArray):Bool:=decide (l0.length=l1.length) && Mach.allP (fun j=>(l0.getD j ByteArray.empty).toList == (l1.getD j ByteArray.empty).toList) l0.length
theorem ev_slicesEqual (l0 l1:List ByteArray) (hn:l0.length≤9223372036854775807):Ev (fun k=>slices_Equal_string_string.f k l0 l1) (eqStrs l0 l1):=by
 unfold slices_Equal_string_string.f eqStrs
 refine Kit.ev_if (fun hl=>?_) (fun hl=>?_)
 ·have hl':l0.length=l1.length:=by omega
  rw [decide_eq_true hl',Bool.true_and]
  have key:∀ i,i≤l0.length→(∀ j,j<i→((l0.getD j ByteArray.empty).toList == (l1.getD j ByteArray.empty).toList)=true)→Ev (fun k=>slices_Equal_string_string.l0 k l0 l1 (l0.length:Int) i) (Mach.allP (fun j=>(l0.getD j ByteArray.empty).toList == (l1.getD j ByteArray.empty).toList) l0.length):=by
   refine Kit.down ?_ ?_
   ·intro hb
    rw [Mach.allP_true (p:=_) hb]
    exact Ev.step (fun k=>rfl) (Kit.ev_neg (by omega) (Ev.now _))
   ·intro i hi ih hb
    refine Ev.step (fun k=>rfl) (Kit.ev_pos (by omega) (Kit.ev_pos (by omega) (Kit.ev_pos (by omega) (Kit.ev_pos (by omega) ?_))))
    rw [Kit.rdOf_nat,Kit.rdOf_nat,Kit.wrap_nat hi hn]
    refine Kit.ev_if (fun h=>?_) (fun h=>?_)
    ·exact ih fun j hj=>by
      by_cases e:j=i
      ·subst e;exact beq_iff_eq.2 h
      ·exact hb j (by omega)
    ·rw [show Mach.allP (fun j=>(l0.getD j ByteArray.empty).toList == (l1.getD j ByteArray.empty).toList) l0.length=false from Mach.allP_false hi (beq_eq_false_iff_ne.2 h)]
     exact Ev.now _
  exact key 0 (by omega) (fun j hj=>absurd hj (Nat.not_lt_zero _))
 ·have hl':¬ l0.length=l1.length:=by omega
  rw [decide_eq_false hl',Bool.false_and]
  exact Ev.now _
theorem slices_Equal_string_string.pure (A0:Option Addr) (c0:Nat) (l0:List ByteArray) (A1:Option Addr) (c1:Nat) (l1:List ByteArray) (W:World) (h0:Kd.C Kd.string W A0 l0.length l0) (hc0:l0.length≤c0) (h1:Kd.C Kd.string W A1 l1.length l1) (hc1:l1.length≤c1):Calls Try.prog 183 #[.slice A0 l0.length c0,.slice A1 l1.length c1] W fun e w'=>e=.returned (.bool (eqStrs l0 l1))∧Below W.heap.size W w':=by
 obtain ⟨K,hK⟩:=ev_slicesEqual l0 l1 h0.2.1
 exact (slices_Equal_string_string.calls K A0 c0 l0 A1 c1 l1 _ W h0 hc0 h1 hc1 (hK K (Nat.le_refl _))).mono fun e w' ⟨he,hd⟩=>⟨he,hd.below⟩
/-! ### impl_sameRules: function 182, by hand -/
def sameRule (x y:S155):Bool:=x.f0 == y.f0 && x.f1.toList == y.f1.toList && eqStrs x.f2 y.f2
def sameRulesB (l0 l1:List S155):Bool:=decide (l0.length=l1.length) && Mach.allP (fun j=>sameRule (l0.getD j z155) (l1.getD j z155)) l0.length
def impl_sameRules.f (l0 l1:List S155):Option Bool:=some (sameRulesB l0 l1)
theorem impl_sameRules.lit (f0:Int) (f1:ByteArray) (A3:Option Addr) (n3 c3:Nat) (g0:Int) (g1:ByteArray) (B3:Option Addr) (m3 d3:Nat) (E:Bool) (w:World) (hE:∀ W,Below w.heap.size w W→Calls Try.prog 183 #[.slice A3 n3 c3,.slice B3 m3 d3] W fun e w'=>e=.returned (.bool E)∧Below W.heap.size W w') :
 Calls Try.prog 208 #[.agg #[.int .i64 f0,.string f1,.slice A3 n3 c3],.agg #[.int .i64 g0,.string g1,.slice B3 m3 d3]] w fun e w'=>e=.returned (.bool (f0 == g0 && f1.toList == g1.toList && E))∧Below w.heap.size w w':=by
 have hb2:=below_alloc (below_alloc (Below.refl w.heap.size w) (.cells #[.int .i64 f0,.string f1,.slice A3 n3 c3] 155)) (.cells #[.int .i64 g0,.string g1,.slice B3 m3 d3] 155)
 have q:=hE _ hb2
 have HB:=Aside0.mk hb2
 clear hb2 hE
 cases h0:f0 == g0 with
 | false =>
  rw [Bool.false_and,Bool.false_and]
  go_enter Try.func208,Try.ntmps208
  go_wp2
  go_ret
  exact ⟨rfl,HB.out⟩
 | true =>
  rw [Bool.true_and]
  cases h1:f1.toList == g1.toList with
  | false =>
   rw [Bool.false_and]
   go_enter Try.func208,Try.ntmps208
   go_wp2
   go_ret
   exact ⟨rfl,HB.out⟩
  | true =>
   rw [Bool.true_and]
   go_enter Try.func208,Try.ntmps208
   go_wp2_with (go_at_call 183;(with_reducible refine q.mono ?_);rintro e w' ⟨rfl,hb'⟩)
   go_ret
   exact ⟨rfl,HB.out.trans (hb'.mono HB.out.size)⟩
theorem impl_sameRules.calls (A0:Option Addr) (c0:Nat) (l0:List S155) (A1:Option Addr) (c1:Nat) (l1:List S155) (r:Bool) (w:World) (hr0:Kd.C k155 w A0 l0.length l0) (hc0:l0.length≤c0) (hr1:Kd.C k155 w A1 l1.length l1) (hc1:l1.length≤c1) (h:impl_sameRules.f l0 l1=some r) :
 Calls Try.prog 182 #[.slice A0 l0.length c0,.slice A1 l1.length c1] w fun e w'=>e=.returned (.bool r)∧Below w.heap.size w w':=by
 obtain rfl:=Option.some.inj h
 obtain ⟨F,hF⟩:=ruleCells A0 l0 w hr0
 obtain ⟨G,hG⟩:=ruleCells A1 l1 w hr1
 have q:=EqualFunc_Rule.holds A0 A1 l0.length c0 l1.length c1 (fun j=>[.int .i64 (l0.getD j z155).f0,.string (l0.getD j z155).f1,.slice (F j).1 (l0.getD j z155).f2.length (F j).2]) (fun j=>[.int .i64 (l1.getD j z155).f0,.string (l1.getD j z155).f1,.slice (G j).1 (l1.getD j z155).f2.length (G j).2]) (fun j=>sameRule (l0.getD j z155) (l1.getD j z155)) 208 #[] (Mach.enters_of Try.func208 (by kernel_rfl) rfl) w
  (fun j hj hj2 V hb=>(impl_sameRules.lit _ _ _ _ _ _ _ _ _ _ (eqStrs (l0.getD j z155).f2 (l1.getD j z155).f2) V (fun W hW=>slices_Equal_string_string.pure _ _ _ _ _ _ W (Kd.C_below (Kd.C_below (hF j hj).2.2 hb) hW) (hF j hj).2.1 (Kd.C_below (Kd.C_below (hG j hj2).2.2 hb) hW) (hG j hj2).2.1)).mono fun e w' ⟨he,hb'⟩=>⟨he,hb.trans (hb'.mono hb.size)⟩) hr0.2.1 hr1.2.1
  (fun j hj=>by
   obtain ⟨⟨ad,e,hc⟩,_⟩:=hF j hj
   exact ⟨ad,e,⟨_,_,_,_,_,rfl⟩,hc⟩)
  (fun j hj=>by
   obtain ⟨⟨ad,e,hc⟩,_⟩:=hG j hj
   exact ⟨ad,e,⟨_,_,_,_,_,rfl⟩,hc⟩)
 change Calls _ _ _ _ (fun e w'=>e=.returned (.bool (sameRulesB l0 l1))∧_) at q
 clear hF hG hr0 hc0 hr1 hc1 h
 generalize sameRulesB l0 l1=R at *
 generalize l0.length=n0 at *
 generalize l1.length=n1 at *
 go_enter Try.func182,Try.ntmps182
 go_wp2_with (go_at_call 207;(with_reducible refine q.mono ?_);rintro e w' ⟨rfl,hb'⟩)
 go_ret
 exact ⟨rfl,hb'⟩
/-! ### spec_l07Same: function 135, by hand -/
theorem rdR2_nat (xs:List S155) (i:Nat):rd_T155 xs (i:Int)=xs.getD i z155:=by simp [rd_T155]
theorem ev_l00SameTexts (l0 l1:List ByteArray) (hn:l0.length≤9223372036854775807):Ev (fun k=>spec_l00SameTexts.f k l0 l1) (eqStrs l0 l1):=by
 unfold spec_l00SameTexts.f eqStrs
 refine Kit.ev_if (fun hl=>?_) (fun hl=>?_)
 ·have hl':l0.length=l1.length:=by omega
  rw [decide_eq_true hl',Bool.true_and]
  have key:∀ i,i≤l0.length→(∀ j,j<i→((l0.getD j ByteArray.empty).toList == (l1.getD j ByteArray.empty).toList)=true)→Ev (fun k=>spec_l00SameTexts.l0 k l0 l1 i) (Mach.allP (fun j=>(l0.getD j ByteArray.empty).toList == (l1.getD j ByteArray.empty).toList) l0.length):=by
   refine Kit.down ?_ ?_
   ·intro hb
    rw [Mach.allP_true (p:=_) hb]
    exact Ev.step (fun k=>rfl) (Kit.ev_neg (by omega) (Ev.now _))
   ·intro i hi ih hb
    refine Ev.step (fun k=>rfl) (Kit.ev_pos (by omega) (Kit.ev_pos (by omega) (Kit.ev_pos (by omega) ?_)))
    rw [Kit.rdOf_nat,Kit.rdOf_nat,Kit.wrap_nat hi hn]
    refine Kit.ev_if (fun h=>?_) (fun h=>?_)
    ·exact ih fun j hj=>by
      by_cases e:j=i
      ·subst e;exact beq_iff_eq.2 h
      ·exact hb j (by omega)
    ·rw [show Mach.allP (fun j=>(l0.getD j ByteArray.empty).toList == (l1.getD j ByteArray.empty).toList) l0.length=false from Mach.allP_false hi (beq_eq_false_iff_ne.2 h)]
     exact Ev.now _
  exact key 0 (by omega) (fun j hj=>absurd hj (Nat.not_lt_zero _))
 ·have hl':¬ l0.length=l1.length:=by omega
  rw [decide_eq_false hl',Bool.false_and]
  exact Ev.now _
theorem ev_l07SameRules (l0 l1:List S155) (hn:l0.length≤9223372036854775807) (hx:∀ j,j<l0.length→(l0.getD j z155).f2.length≤9223372036854775807):Ev (fun k=>spec_l07SameRules.f k l0 l1) (sameRulesB l0 l1):=by
 unfold spec_l07SameRules.f sameRulesB
 refine Kit.ev_if (fun hl=>?_) (fun hl=>?_)
 ·have hl':l0.length=l1.length:=by omega
  rw [decide_eq_true hl',Bool.true_and]
  have key:∀ i,i≤l0.length→(∀ j,j<i→sameRule (l0.getD j z155) (l1.getD j z155)=true)→Ev (fun k=>spec_l07SameRules.l0 k l0 l1 i) (Mach.allP (fun j=>sameRule (l0.getD j z155) (l1.getD j z155)) l0.length):=by
   refine Kit.down ?_ ?_
   ·intro hb
    rw [Mach.allP_true (p:=_) hb]
    exact Ev.step (fun k=>rfl) (Kit.ev_neg (by omega) (Ev.now _))
   ·intro i hi ih hb
    have hq:=hx i hi
    refine Ev.step (fun k=>rfl) (Kit.ev_pos (by omega) (Kit.ev_pos (by omega) (Kit.ev_pos (by omega) ?_)))
    rw [rdR2_nat,rdR2_nat,Kit.wrap_nat hi hn]
    have hf:sameRule (l0.getD i z155) (l1.getD i z155)=false→Ev (fun _=>some false) (Mach.allP (fun j=>sameRule (l0.getD j z155) (l1.getD j z155)) l0.length):=fun h=>by
     rw [show Mach.allP (fun j=>sameRule (l0.getD j z155) (l1.getD j z155)) l0.length=false from Mach.allP_false hi h]
     exact Ev.now _
    have ht:sameRule (l0.getD i z155) (l1.getD i z155)=true→Ev (fun k=>spec_l07SameRules.l0 k l0 l1 ((i+1:Nat):Int)) (Mach.allP (fun j=>sameRule (l0.getD j z155) (l1.getD j z155)) l0.length):=fun h=>ih fun j hj=>by
     by_cases e:j=i
     ·subst e;exact h
     ·exact hb j (by omega)
    have he:=ev_l00SameTexts (l0.getD i z155).f2 (l1.getD i z155).f2 hq
    unfold sameRule at hf ht
    refine Kit.ev_if (fun h1=>?_) (fun h1=>hf (by rw [beq_eq_false_iff_ne.2 h1];rfl))
    rw [beq_iff_eq.2 h1,Bool.true_and] at hf ht
    refine Kit.ev_if (fun h2=>?_) (fun h2=>hf (by rw [beq_eq_false_iff_ne.2 h2];rfl))
    rw [beq_iff_eq.2 h2,Bool.true_and] at hf ht
    exact Ev.bind he (Kit.ev_if (fun h3=>ht h3) (fun h3=>hf (Bool.eq_false_iff.2 h3)))
  exact key 0 (by omega) (fun j hj=>absurd hj (Nat.not_lt_zero _))
 ·have hl':¬ l0.length=l1.length:=by omega
  rw [decide_eq_false hl',Bool.false_and]
  exact Ev.now _
theorem spec_l00SameTexts.pure (A0:Option Addr) (c0:Nat) (l0:List ByteArray) (A1:Option Addr) (c1:Nat) (l1:List ByteArray) (W:World) (h0:Kd.C Kd.string W A0 l0.length l0) (hc0:l0.length≤c0) (h1:Kd.C Kd.string W A1 l1.length l1) (hc1:l1.length≤c1):Calls Try.prog 181 #[.slice A0 l0.length c0,.slice A1 l1.length c1] W fun e w'=>e=.returned (.bool (eqStrs l0 l1))∧Below W.heap.size W w':=by
 obtain ⟨K,hK⟩:=ev_l00SameTexts l0 l1 h0.2.1
 exact (spec_l00SameTexts.calls K A0 c0 l0 A1 c1 l1 _ W h0 hc0 h1 hc1 (hK K (Nat.le_refl _))).mono fun e w' ⟨he,hd⟩=>⟨he,by first|exact hd.below|exact hd⟩
theorem spec_l07SameRules.pure (A0:Option Addr) (c0:Nat) (l0:List S155) (A1:Option Addr) (c1:Nat) (l1:List S155) (W:World) (h0:Kd.C k155 W A0 l0.length l0) (hc0:l0.length≤c0) (h1:Kd.C k155 W A1 l1.length l1) (hc1:l1.length≤c1):Calls Try.prog 180 #[.slice A0 l0.length c0,.slice A1 l1.length c1] W fun e w'=>e=.returned (.bool (sameRulesB l0 l1))∧Below W.heap.size W w':=by
 obtain ⟨F,hF⟩:=ruleCells A0 l0 W h0
 obtain ⟨K,hK⟩:=ev_l07SameRules l0 l1 h0.2.1 (fun j hj=>(hF j hj).2.2.2.1)
 exact (spec_l07SameRules.calls K A0 c0 l0 A1 c1 l1 _ W h0 hc0 h1 hc1 (hK K (Nat.le_refl _))).mono fun e w' ⟨he,hd⟩=>⟨he,by first|exact hd.below|exact hd⟩
def spec_l07Same.f (a0_0:Bool) (a0_1:Bool) (l0_2:List S155) (l0_3:List S155) (l0_4:List S155) (l0_5:List ByteArray) (l0_6:List ByteArray) (a0_7:Bool) (a0_8:Bool) (a1_0:Bool) (a1_1:Bool) (l1_2:List S155) (l1_3:List S155) (l1_4:List S155) (l1_5:List ByteArray) (l1_6:List ByteArray) (a1_7:Bool) (a1_8:Bool):Option Bool:=some ((a0_0 == a1_0) && ((a0_1 == a1_1) && (sameRulesB l0_2 l1_2 && (sameRulesB l0_3 l1_3 && (sameRulesB l0_4 l1_4 && (eqStrs l0_5 l1_5 && (eqStrs l0_6 l1_6 && ((a0_7 == a1_7) && ((a0_8 == a1_8))))))))))
set_option maxHeartbeats 4000000 in
set_option maxRecDepth 100000 in
theorem spec_l07Same.calls (a0_0:Bool) (a0_1:Bool) (A0_2:Option Addr) (c0_2:Nat) (l0_2:List S155) (A0_3:Option Addr) (c0_3:Nat) (l0_3:List S155) (A0_4:Option Addr) (c0_4:Nat) (l0_4:List S155) (A0_5:Option Addr) (c0_5:Nat) (l0_5:List ByteArray) (A0_6:Option Addr) (c0_6:Nat) (l0_6:List ByteArray) (a0_7:Bool) (a0_8:Bool) (a1_0:Bool) (a1_1:Bool) (A1_2:Option Addr) (c1_2:Nat) (l1_2:List S155) (A1_3:Option Addr) (c1_3:Nat) (l1_3:List S155) (A1_4:Option Addr) (c1_4:Nat) (l1_4:List S155) (A1_5:Option Addr) (c1_5:Nat) (l1_5:List ByteArray) (A1_6:Option Addr) (c1_6:Nat) (l1_6:List ByteArray) (a1_7:Bool) (a1_8:Bool) (r:Bool) (w:World) (hr0_2:Kd.C k155 w A0_2 l0_2.length l0_2) (hc0_2:l0_2.length≤c0_2) (hr0_3:Kd.C k155 w A0_3 l0_3.length l0_3) (hc0_3:l0_3.length≤c0_3) (hr0_4:Kd.C k155 w A0_4 l0_4.length l0_4) (hc0_4:l0_4.length≤c0_4) (hr0_5:Kd.C Kd.string w A0_5 l0_5.length l0_5) (hc0_5:l0_5.length≤c0_5) (hr0_6:Kd.C Kd.string w A0_6 l0_6.length l0_6) (hc0_6:l0_6.length≤c0_6) (hr1_2:Kd.C k155 w A1_2 l1_2.length l1_2) (hc1_2:l1_2.length≤c1_2) (hr1_3:Kd.C k155 w A1_3 l1_3.length l1_3) (hc1_3:l1_3.length≤c1_3) (hr1_4:Kd.C k155 w A1_4 l1_4.length l1_4) (hc1_4:l1_4.length≤c1_4) (hr1_5:Kd.C Kd.string w A1_5 l1_5.length l1_5) (hc1_5:l1_5.length≤c1_5) (hr1_6:Kd.C Kd.string w A1_6 l1_6.length l1_6) (hc1_6:l1_6.length≤c1_6) (h:spec_l07Same.f a0_0 a0_1 l0_2 l0_3 l0_4 l0_5 l0_6 a0_7 a0_8 a1_0 a1_1 l1_2 l1_3 l1_4 l1_5 l1_6 a1_7 a1_8=some r) :
 Calls Try.prog 135 #[.agg #[.bool a0_0,.bool a0_1,.slice A0_2 l0_2.length c0_2,.slice A0_3 l0_3.length c0_3,.slice A0_4 l0_4.length c0_4,.slice A0_5 l0_5.length c0_5,.slice A0_6 l0_6.length c0_6,.bool a0_7,.bool a0_8],.agg #[.bool a1_0,.bool a1_1,.slice A1_2 l1_2.length c1_2,.slice A1_3 l1_3.length c1_3,.slice A1_4 l1_4.length c1_4,.slice A1_5 l1_5.length c1_5,.slice A1_6 l1_6.length c1_6,.bool a1_7,.bool a1_8]] w fun e w'=>e=.returned (.bool r)∧Below w.heap.size w w':=by
 obtain rfl:=Option.some.inj h
 clear h
 have HB:=Aside0.mk (below_alloc (below_alloc (Below.refl w.heap.size w) (.cells #[.bool a0_0,.bool a0_1,.slice A0_2 l0_2.length c0_2,.slice A0_3 l0_3.length c0_3,.slice A0_4 l0_4.length c0_4,.slice A0_5 l0_5.length c0_5,.slice A0_6 l0_6.length c0_6,.bool a0_7,.bool a0_8] 78)) (.cells #[.bool a1_0,.bool a1_1,.slice A1_2 l1_2.length c1_2,.slice A1_3 l1_3.length c1_3,.slice A1_4 l1_4.length c1_4,.slice A1_5 l1_5.length c1_5,.slice A1_6 l1_6.length c1_6,.bool a1_7,.bool a1_8] 78))
 have e0:((w.alloc (.cells #[.bool a0_0,.bool a0_1,.slice A0_2 l0_2.length c0_2,.slice A0_3 l0_3.length c0_3,.slice A0_4 l0_4.length c0_4,.slice A0_5 l0_5.length c0_5,.slice A0_6 l0_6.length c0_6,.bool a0_7,.bool a0_8] 78)).alloc (.cells #[.bool a1_0,.bool a1_1,.slice A1_2 l1_2.length c1_2,.slice A1_3 l1_3.length c1_3,.slice A1_4 l1_4.length c1_4,.slice A1_5 l1_5.length c1_5,.slice A1_6 l1_6.length c1_6,.bool a1_7,.bool a1_8] 78)).cell? ⟨w.heap.size,0,none⟩=some (.bool a0_0):=Mach.old_cell _ (Mach.new_cell w _ _ 0 _ rfl)
 have f0:((w.alloc (.cells #[.bool a0_0,.bool a0_1,.slice A0_2 l0_2.length c0_2,.slice A0_3 l0_3.length c0_3,.slice A0_4 l0_4.length c0_4,.slice A0_5 l0_5.length c0_5,.slice A0_6 l0_6.length c0_6,.bool a0_7,.bool a0_8] 78)).alloc (.cells #[.bool a1_0,.bool a1_1,.slice A1_2 l1_2.length c1_2,.slice A1_3 l1_3.length c1_3,.slice A1_4 l1_4.length c1_4,.slice A1_5 l1_5.length c1_5,.slice A1_6 l1_6.length c1_6,.bool a1_7,.bool a1_8] 78)).cell? ⟨w.heap.size+1,0,none⟩=some (.bool a1_0):=Mach.newer_cell w _ _ _ 0 _ rfl
 have e1:((w.alloc (.cells #[.bool a0_0,.bool a0_1,.slice A0_2 l0_2.length c0_2,.slice A0_3 l0_3.length c0_3,.slice A0_4 l0_4.length c0_4,.slice A0_5 l0_5.length c0_5,.slice A0_6 l0_6.length c0_6,.bool a0_7,.bool a0_8] 78)).alloc (.cells #[.bool a1_0,.bool a1_1,.slice A1_2 l1_2.length c1_2,.slice A1_3 l1_3.length c1_3,.slice A1_4 l1_4.length c1_4,.slice A1_5 l1_5.length c1_5,.slice A1_6 l1_6.length c1_6,.bool a1_7,.bool a1_8] 78)).cell? ⟨w.heap.size,1,none⟩=some (.bool a0_1):=Mach.old_cell _ (Mach.new_cell w _ _ 1 _ rfl)
 have f1:((w.alloc (.cells #[.bool a0_0,.bool a0_1,.slice A0_2 l0_2.length c0_2,.slice A0_3 l0_3.length c0_3,.slice A0_4 l0_4.length c0_4,.slice A0_5 l0_5.length c0_5,.slice A0_6 l0_6.length c0_6,.bool a0_7,.bool a0_8] 78)).alloc (.cells #[.bool a1_0,.bool a1_1,.slice A1_2 l1_2.length c1_2,.slice A1_3 l1_3.length c1_3,.slice A1_4 l1_4.length c1_4,.slice A1_5 l1_5.length c1_5,.slice A1_6 l1_6.length c1_6,.bool a1_7,.bool a1_8] 78)).cell? ⟨w.heap.size+1,1,none⟩=some (.bool a1_1):=Mach.newer_cell w _ _ _ 1 _ rfl
 have e2:((w.alloc (.cells #[.bool a0_0,.bool a0_1,.slice A0_2 l0_2.length c0_2,.slice A0_3 l0_3.length c0_3,.slice A0_4 l0_4.length c0_4,.slice A0_5 l0_5.length c0_5,.slice A0_6 l0_6.length c0_6,.bool a0_7,.bool a0_8] 78)).alloc (.cells #[.bool a1_0,.bool a1_1,.slice A1_2 l1_2.length c1_2,.slice A1_3 l1_3.length c1_3,.slice A1_4 l1_4.length c1_4,.slice A1_5 l1_5.length c1_5,.slice A1_6 l1_6.length c1_6,.bool a1_7,.bool a1_8] 78)).cell? ⟨w.heap.size,2,none⟩=some (.slice A0_2 l0_2.length c0_2):=Mach.old_cell _ (Mach.new_cell w _ _ 2 _ rfl)
 have f2:((w.alloc (.cells #[.bool a0_0,.bool a0_1,.slice A0_2 l0_2.length c0_2,.slice A0_3 l0_3.length c0_3,.slice A0_4 l0_4.length c0_4,.slice A0_5 l0_5.length c0_5,.slice A0_6 l0_6.length c0_6,.bool a0_7,.bool a0_8] 78)).alloc (.cells #[.bool a1_0,.bool a1_1,.slice A1_2 l1_2.length c1_2,.slice A1_3 l1_3.length c1_3,.slice A1_4 l1_4.length c1_4,.slice A1_5 l1_5.length c1_5,.slice A1_6 l1_6.length c1_6,.bool a1_7,.bool a1_8] 78)).cell? ⟨w.heap.size+1,2,none⟩=some (.slice A1_2 l1_2.length c1_2):=Mach.newer_cell w _ _ _ 2 _ rfl
 have e3:((w.alloc (.cells #[.bool a0_0,.bool a0_1,.slice A0_2 l0_2.length c0_2,.slice A0_3 l0_3.length c0_3,.slice A0_4 l0_4.length c0_4,.slice A0_5 l0_5.length c0_5,.slice A0_6 l0_6.length c0_6,.bool a0_7,.bool a0_8] 78)).alloc (.cells #[.bool a1_0,.bool a1_1,.slice A1_2 l1_2.length c1_2,.slice A1_3 l1_3.length c1_3,.slice A1_4 l1_4.length c1_4,.slice A1_5 l1_5.length c1_5,.slice A1_6 l1_6.length c1_6,.bool a1_7,.bool a1_8] 78)).cell? ⟨w.heap.size,3,none⟩=some (.slice A0_3 l0_3.length c0_3):=Mach.old_cell _ (Mach.new_cell w _ _ 3 _ rfl)
 have f3:((w.alloc (.cells #[.bool a0_0,.bool a0_1,.slice A0_2 l0_2.length c0_2,.slice A0_3 l0_3.length c0_3,.slice A0_4 l0_4.length c0_4,.slice A0_5 l0_5.length c0_5,.slice A0_6 l0_6.length c0_6,.bool a0_7,.bool a0_8] 78)).alloc (.cells #[.bool a1_0,.bool a1_1,.slice A1_2 l1_2.length c1_2,.slice A1_3 l1_3.length c1_3,.slice A1_4 l1_4.length c1_4,.slice A1_5 l1_5.length c1_5,.slice A1_6 l1_6.length c1_6,.bool a1_7,.bool a1_8] 78)).cell? ⟨w.heap.size+1,3,none⟩=some (.slice A1_3 l1_3.length c1_3):=Mach.newer_cell w _ _ _ 3 _ rfl
 have e4:((w.alloc (.cells #[.bool a0_0,.bool a0_1,.slice A0_2 l0_2.length c0_2,.slice A0_3 l0_3.length c0_3,.slice A0_4 l0_4.length c0_4,.slice A0_5 l0_5.length c0_5,.slice A0_6 l0_6.length c0_6,.bool a0_7,.bool a0_8] 78)).alloc (.cells #[.bool a1_0,.bool a1_1,.slice A1_2 l1_2.length c1_2,.slice A1_3 l1_3.length c1_3,.slice A1_4 l1_4.length c1_4,.slice A1_5 l1_5.length c1_5,.slice A1_6 l1_6.length c1_6,.bool a1_7,.bool a1_8] 78)).cell? ⟨w.heap.size,4,none⟩=some (.slice A0_4 l0_4.length c0_4):=Mach.old_cell _ (Mach.new_cell w _ _ 4 _ rfl)
 have f4:((w.alloc (.cells #[.bool a0_0,.bool a0_1,.slice A0_2 l0_2.length c0_2,.slice A0_3 l0_3.length c0_3,.slice A0_4 l0_4.length c0_4,.slice A0_5 l0_5.length c0_5,.slice A0_6 l0_6.length c0_6,.bool a0_7,.bool a0_8] 78)).alloc (.cells #[.bool a1_0,.bool a1_1,.slice A1_2 l1_2.length c1_2,.slice A1_3 l1_3.length c1_3,.slice A1_4 l1_4.length c1_4,.slice A1_5 l1_5.length c1_5,.slice A1_6 l1_6.length c1_6,.bool a1_7,.bool a1_8] 78)).cell? ⟨w.heap.size+1,4,none⟩=some (.slice A1_4 l1_4.length c1_4):=Mach.newer_cell w _ _ _ 4 _ rfl
 have e5:((w.alloc (.cells #[.bool a0_0,.bool a0_1,.slice A0_2 l0_2.length c0_2,.slice A0_3 l0_3.length c0_3,.slice A0_4 l0_4.length c0_4,.slice A0_5 l0_5.length c0_5,.slice A0_6 l0_6.length c0_6,.bool a0_7,.bool a0_8] 78)).alloc (.cells #[.bool a1_0,.bool a1_1,.slice A1_2 l1_2.length c1_2,.slice A1_3 l1_3.length c1_3,.slice A1_4 l1_4.length c1_4,.slice A1_5 l1_5.length c1_5,.slice A1_6 l1_6.length c1_6,.bool a1_7,.bool a1_8] 78)).cell? ⟨w.heap.size,5,none⟩=some (.slice A0_5 l0_5.length c0_5):=Mach.old_cell _ (Mach.new_cell w _ _ 5 _ rfl)
 have f5:((w.alloc (.cells #[.bool a0_0,.bool a0_1,.slice A0_2 l0_2.length c0_2,.slice A0_3 l0_3.length c0_3,.slice A0_4 l0_4.length c0_4,.slice A0_5 l0_5.length c0_5,.slice A0_6 l0_6.length c0_6,.bool a0_7,.bool a0_8] 78)).alloc (.cells #[.bool a1_0,.bool a1_1,.slice A1_2 l1_2.length c1_2,.slice A1_3 l1_3.length c1_3,.slice A1_4 l1_4.length c1_4,.slice A1_5 l1_5.length c1_5,.slice A1_6 l1_6.length c1_6,.bool a1_7,.bool a1_8] 78)).cell? ⟨w.heap.size+1,5,none⟩=some (.slice A1_5 l1_5.length c1_5):=Mach.newer_cell w _ _ _ 5 _ rfl
 have e6:((w.alloc (.cells #[.bool a0_0,.bool a0_1,.slice A0_2 l0_2.length c0_2,.slice A0_3 l0_3.length c0_3,.slice A0_4 l0_4.length c0_4,.slice A0_5 l0_5.length c0_5,.slice A0_6 l0_6.length c0_6,.bool a0_7,.bool a0_8] 78)).alloc (.cells #[.bool a1_0,.bool a1_1,.slice A1_2 l1_2.length c1_2,.slice A1_3 l1_3.length c1_3,.slice A1_4 l1_4.length c1_4,.slice A1_5 l1_5.length c1_5,.slice A1_6 l1_6.length c1_6,.bool a1_7,.bool a1_8] 78)).cell? ⟨w.heap.size,6,none⟩=some (.slice A0_6 l0_6.length c0_6):=Mach.old_cell _ (Mach.new_cell w _ _ 6 _ rfl)
 have f6:((w.alloc (.cells #[.bool a0_0,.bool a0_1,.slice A0_2 l0_2.length c0_2,.slice A0_3 l0_3.length c0_3,.slice A0_4 l0_4.length c0_4,.slice A0_5 l0_5.length c0_5,.slice A0_6 l0_6.length c0_6,.bool a0_7,.bool a0_8] 78)).alloc (.cells #[.bool a1_0,.bool a1_1,.slice A1_2 l1_2.length c1_2,.slice A1_3 l1_3.length c1_3,.slice A1_4 l1_4.length c1_4,.slice A1_5 l1_5.length c1_5,.slice A1_6 l1_6.length c1_6,.bool a1_7,.bool a1_8] 78)).cell? ⟨w.heap.size+1,6,none⟩=some (.slice A1_6 l1_6.length c1_6):=Mach.newer_cell w _ _ _ 6 _ rfl
 have e7:((w.alloc (.cells #[.bool a0_0,.bool a0_1,.slice A0_2 l0_2.length c0_2,.slice A0_3 l0_3.length c0_3,.slice A0_4 l0_4.length c0_4,.slice A0_5 l0_5.length c0_5,.slice A0_6 l0_6.length c0_6,.bool a0_7,.bool a0_8] 78)).alloc (.cells #[.bool a1_0,.bool a1_1,.slice A1_2 l1_2.length c1_2,.slice A1_3 l1_3.length c1_3,.slice A1_4 l1_4.length c1_4,.slice A1_5 l1_5.length c1_5,.slice A1_6 l1_6.length c1_6,.bool a1_7,.bool a1_8] 78)).cell? ⟨w.heap.size,7,none⟩=some (.bool a0_7):=Mach.old_cell _ (Mach.new_cell w _ _ 7 _ rfl)
 have f7:((w.alloc (.cells #[.bool a0_0,.bool a0_1,.slice A0_2 l0_2.length c0_2,.slice A0_3 l0_3.length c0_3,.slice A0_4 l0_4.length c0_4,.slice A0_5 l0_5.length c0_5,.slice A0_6 l0_6.length c0_6,.bool a0_7,.bool a0_8] 78)).alloc (.cells #[.bool a1_0,.bool a1_1,.slice A1_2 l1_2.length c1_2,.slice A1_3 l1_3.length c1_3,.slice A1_4 l1_4.length c1_4,.slice A1_5 l1_5.length c1_5,.slice A1_6 l1_6.length c1_6,.bool a1_7,.bool a1_8] 78)).cell? ⟨w.heap.size+1,7,none⟩=some (.bool a1_7):=Mach.newer_cell w _ _ _ 7 _ rfl
 have e8:((w.alloc (.cells #[.bool a0_0,.bool a0_1,.slice A0_2 l0_2.length c0_2,.slice A0_3 l0_3.length c0_3,.slice A0_4 l0_4.length c0_4,.slice A0_5 l0_5.length c0_5,.slice A0_6 l0_6.length c0_6,.bool a0_7,.bool a0_8] 78)).alloc (.cells #[.bool a1_0,.bool a1_1,.slice A1_2 l1_2.length c1_2,.slice A1_3 l1_3.length c1_3,.slice A1_4 l1_4.length c1_4,.slice A1_5 l1_5.length c1_5,.slice A1_6 l1_6.length c1_6,.bool a1_7,.bool a1_8] 78)).cell? ⟨w.heap.size,8,none⟩=some (.bool a0_8):=Mach.old_cell _ (Mach.new_cell w _ _ 8 _ rfl)
 have f8:((w.alloc (.cells #[.bool a0_0,.bool a0_1,.slice A0_2 l0_2.length c0_2,.slice A0_3 l0_3.length c0_3,.slice A0_4 l0_4.length c0_4,.slice A0_5 l0_5.length c0_5,.slice A0_6 l0_6.length c0_6,.bool a0_7,.bool a0_8] 78)).alloc (.cells #[.bool a1_0,.bool a1_1,.slice A1_2 l1_2.length c1_2,.slice A1_3 l1_3.length c1_3,.slice A1_4 l1_4.length c1_4,.slice A1_5 l1_5.length c1_5,.slice A1_6 l1_6.length c1_6,.bool a1_7,.bool a1_8] 78)).cell? ⟨w.heap.size+1,8,none⟩=some (.bool a1_8):=Mach.newer_cell w _ _ _ 8 _ rfl
 have Q2:Aside0 (∀ V,Below w.heap.size w V→Calls Try.prog 180 #[.slice A0_2 l0_2.length c0_2,.slice A1_2 l1_2.length c1_2] V fun e w'=>e=.returned (.bool (sameRulesB l0_2 l1_2))∧Below V.heap.size V w'):=⟨fun V hV=>spec_l07SameRules.pure A0_2 c0_2 l0_2 A1_2 c1_2 l1_2 V (Kd.C_below hr0_2 hV) hc0_2 (Kd.C_below hr1_2 hV) hc1_2⟩
 have Q3:Aside0 (∀ V,Below w.heap.size w V→Calls Try.prog 180 #[.slice A0_3 l0_3.length c0_3,.slice A1_3 l1_3.length c1_3] V fun e w'=>e=.returned (.bool (sameRulesB l0_3 l1_3))∧Below V.heap.size V w'):=⟨fun V hV=>spec_l07SameRules.pure A0_3 c0_3 l0_3 A1_3 c1_3 l1_3 V (Kd.C_below hr0_3 hV) hc0_3 (Kd.C_below hr1_3 hV) hc1_3⟩
 have Q4:Aside0 (∀ V,Below w.heap.size w V→Calls Try.prog 180 #[.slice A0_4 l0_4.length c0_4,.slice A1_4 l1_4.length c1_4] V fun e w'=>e=.returned (.bool (sameRulesB l0_4 l1_4))∧Below V.heap.size V w'):=⟨fun V hV=>spec_l07SameRules.pure A0_4 c0_4 l0_4 A1_4 c1_4 l1_4 V (Kd.C_below hr0_4 hV) hc0_4 (Kd.C_below hr1_4 hV) hc1_4⟩
 have Q5:Aside0 (∀ V,Below w.heap.size w V→Calls Try.prog 181 #[.slice A0_5 l0_5.length c0_5,.slice A1_5 l1_5.length c1_5] V fun e w'=>e=.returned (.bool (eqStrs l0_5 l1_5))∧Below V.heap.size V w'):=⟨fun V hV=>spec_l00SameTexts.pure A0_5 c0_5 l0_5 A1_5 c1_5 l1_5 V (Kd.C_below hr0_5 hV) hc0_5 (Kd.C_below hr1_5 hV) hc1_5⟩
 have Q6:Aside0 (∀ V,Below w.heap.size w V→Calls Try.prog 181 #[.slice A0_6 l0_6.length c0_6,.slice A1_6 l1_6.length c1_6] V fun e w'=>e=.returned (.bool (eqStrs l0_6 l1_6))∧Below V.heap.size V w'):=⟨fun V hV=>spec_l00SameTexts.pure A0_6 c0_6 l0_6 A1_6 c1_6 l1_6 V (Kd.C_below hr0_6 hV) hc0_6 (Kd.C_below hr1_6 hV) hc1_6⟩
 clear hr0_2 hc0_2 hr0_3 hc0_3 hr0_4 hc0_4 hr0_5 hc0_5 hr0_6 hc0_6 hr1_2 hc1_2 hr1_3 hc1_3 hr1_4 hc1_4 hr1_5 hc1_5 hr1_6 hc1_6
 generalize sameRulesB l0_2 l1_2=q2 at *
 generalize sameRulesB l0_3 l1_3=q3 at *
 generalize sameRulesB l0_4 l1_4=q4 at *
 generalize eqStrs l0_5 l1_5=q5 at *
 generalize eqStrs l0_6 l1_6=q6 at *
 generalize l0_2.length=n0_2 at *
 generalize l0_3.length=n0_3 at *
 generalize l0_4.length=n0_4 at *
 generalize l0_5.length=n0_5 at *
 generalize l0_6.length=n0_6 at *
 generalize l1_2.length=n1_2 at *
 generalize l1_3.length=n1_3 at *
 generalize l1_4.length=n1_4 at *
 generalize l1_5.length=n1_5 at *
 generalize l1_6.length=n1_6 at *
 cases t0:(a0_0 == a1_0) with
 | false =>
  rw [Bool.false_and]
  go_enter Try.func135,Try.ntmps135
  go_wp2
  go_ret
  exact ⟨rfl,HB.out⟩
 | true =>
  rw [Bool.true_and]
  cases t1:(a0_1 == a1_1) with
  | false =>
   rw [Bool.false_and]
   go_enter Try.func135,Try.ntmps135
   go_wp2
   go_ret
   exact ⟨rfl,HB.out⟩
  | true =>
   rw [Bool.true_and]
   cases q2 with
   | false =>
    rw [Bool.false_and]
    go_enter Try.func135,Try.ntmps135
    go_wp2_with (first|(go_at_call 180;(with_reducible refine (Q2.out _ HB.out).mono ?_);rintro e v1 ⟨rfl,hv1⟩;have HB_1:=Aside0.mk (HB.out.trans (hv1.mono HB.out.size));have e3_1:=pw_cell_below hv1 e3;have f3_1:=pw_cell_below hv1 f3;have e4_1:=pw_cell_below hv1 e4;have f4_1:=pw_cell_below hv1 f4;have e5_1:=pw_cell_below hv1 e5;have f5_1:=pw_cell_below hv1 f5;have e6_1:=pw_cell_below hv1 e6;have f6_1:=pw_cell_below hv1 f6;have e7_1:=pw_cell_below hv1 e7;have f7_1:=pw_cell_below hv1 f7;have e8_1:=pw_cell_below hv1 e8;have f8_1:=pw_cell_below hv1 f8;clear hv1))
    go_ret
    exact ⟨rfl,HB_1.out⟩
   | true =>
    rw [Bool.true_and]
    cases q3 with
    | false =>
     rw [Bool.false_and]
     go_enter Try.func135,Try.ntmps135
     go_wp2_with (first|(go_at_call 180;(with_reducible refine (Q2.out _ HB.out).mono ?_);rintro e v1 ⟨rfl,hv1⟩;have HB_1:=Aside0.mk (HB.out.trans (hv1.mono HB.out.size));have e3_1:=pw_cell_below hv1 e3;have f3_1:=pw_cell_below hv1 f3;have e4_1:=pw_cell_below hv1 e4;have f4_1:=pw_cell_below hv1 f4;have e5_1:=pw_cell_below hv1 e5;have f5_1:=pw_cell_below hv1 f5;have e6_1:=pw_cell_below hv1 e6;have f6_1:=pw_cell_below hv1 f6;have e7_1:=pw_cell_below hv1 e7;have f7_1:=pw_cell_below hv1 f7;have e8_1:=pw_cell_below hv1 e8;have f8_1:=pw_cell_below hv1 f8;clear hv1)|(go_at_call 180;(with_reducible refine (Q3.out _ HB_1.out).mono ?_);rintro e v2 ⟨rfl,hv2⟩;have HB_2:=Aside0.mk (HB_1.out.trans (hv2.mono HB_1.out.size));have e4_2:=pw_cell_below hv2 e4_1;have f4_2:=pw_cell_below hv2 f4_1;have e5_2:=pw_cell_below hv2 e5_1;have f5_2:=pw_cell_below hv2 f5_1;have e6_2:=pw_cell_below hv2 e6_1;have f6_2:=pw_cell_below hv2 f6_1;have e7_2:=pw_cell_below hv2 e7_1;have f7_2:=pw_cell_below hv2 f7_1;have e8_2:=pw_cell_below hv2 e8_1;have f8_2:=pw_cell_below hv2 f8_1;clear hv2))
     go_ret
     exact ⟨rfl,HB_2.out⟩
    | true =>
     rw [Bool.true_and]
     cases q4 with
     | false =>
      rw [Bool.false_and]
      go_enter Try.func135,Try.ntmps135
      go_wp2_with (first|(go_at_call 180;(with_reducible refine (Q2.out _ HB.out).mono ?_);rintro e v1 ⟨rfl,hv1⟩;have HB_1:=Aside0.mk (HB.out.trans (hv1.mono HB.out.size));have e3_1:=pw_cell_below hv1 e3;have f3_1:=pw_cell_below hv1 f3;have e4_1:=pw_cell_below hv1 e4;have f4_1:=pw_cell_below hv1 f4;have e5_1:=pw_cell_below hv1 e5;have f5_1:=pw_cell_below hv1 f5;have e6_1:=pw_cell_below hv1 e6;have f6_1:=pw_cell_below hv1 f6;have e7_1:=pw_cell_below hv1 e7;have f7_1:=pw_cell_below hv1 f7;have e8_1:=pw_cell_below hv1 e8;have f8_1:=pw_cell_below hv1 f8;clear hv1)|(go_at_call 180;(with_reducible refine (Q3.out _ HB_1.out).mono ?_);rintro e v2 ⟨rfl,hv2⟩;have HB_2:=Aside0.mk (HB_1.out.trans (hv2.mono HB_1.out.size));have e4_2:=pw_cell_below hv2 e4_1;have f4_2:=pw_cell_below hv2 f4_1;have e5_2:=pw_cell_below hv2 e5_1;have f5_2:=pw_cell_below hv2 f5_1;have e6_2:=pw_cell_below hv2 e6_1;have f6_2:=pw_cell_below hv2 f6_1;have e7_2:=pw_cell_below hv2 e7_1;have f7_2:=pw_cell_below hv2 f7_1;have e8_2:=pw_cell_below hv2 e8_1;have f8_2:=pw_cell_below hv2 f8_1;clear hv2)|(go_at_call 180;(with_reducible refine (Q4.out _ HB_2.out).mono ?_);rintro e v3 ⟨rfl,hv3⟩;have HB_3:=Aside0.mk (HB_2.out.trans (hv3.mono HB_2.out.size));have e5_3:=pw_cell_below hv3 e5_2;have f5_3:=pw_cell_below hv3 f5_2;have e6_3:=pw_cell_below hv3 e6_2;have f6_3:=pw_cell_below hv3 f6_2;have e7_3:=pw_cell_below hv3 e7_2;have f7_3:=pw_cell_below hv3 f7_2;have e8_3:=pw_cell_below hv3 e8_2;have f8_3:=pw_cell_below hv3 f8_2;clear hv3))
      go_ret
      exact ⟨rfl,HB_3.out⟩
     | true =>
      rw [Bool.true_and]
      cases q5 with
      | false =>
       rw [Bool.false_and]
       go_enter Try.func135,Try.ntmps135
       go_wp2_with (first|(go_at_call 180;(with_reducible refine (Q2.out _ HB.out).mono ?_);rintro e v1 ⟨rfl,hv1⟩;have HB_1:=Aside0.mk (HB.out.trans (hv1.mono HB.out.size));have e3_1:=pw_cell_below hv1 e3;have f3_1:=pw_cell_below hv1 f3;have e4_1:=pw_cell_below hv1 e4;have f4_1:=pw_cell_below hv1 f4;have e5_1:=pw_cell_below hv1 e5;have f5_1:=pw_cell_below hv1 f5;have e6_1:=pw_cell_below hv1 e6;have f6_1:=pw_cell_below hv1 f6;have e7_1:=pw_cell_below hv1 e7;have f7_1:=pw_cell_below hv1 f7;have e8_1:=pw_cell_below hv1 e8;have f8_1:=pw_cell_below hv1 f8;clear hv1)|(go_at_call 180;(with_reducible refine (Q3.out _ HB_1.out).mono ?_);rintro e v2 ⟨rfl,hv2⟩;have HB_2:=Aside0.mk (HB_1.out.trans (hv2.mono HB_1.out.size));have e4_2:=pw_cell_below hv2 e4_1;have f4_2:=pw_cell_below hv2 f4_1;have e5_2:=pw_cell_below hv2 e5_1;have f5_2:=pw_cell_below hv2 f5_1;have e6_2:=pw_cell_below hv2 e6_1;have f6_2:=pw_cell_below hv2 f6_1;have e7_2:=pw_cell_below hv2 e7_1;have f7_2:=pw_cell_below hv2 f7_1;have e8_2:=pw_cell_below hv2 e8_1;have f8_2:=pw_cell_below hv2 f8_1;clear hv2)|(go_at_call 180;(with_reducible refine (Q4.out _ HB_2.out).mono ?_);rintro e v3 ⟨rfl,hv3⟩;have HB_3:=Aside0.mk (HB_2.out.trans (hv3.mono HB_2.out.size));have e5_3:=pw_cell_below hv3 e5_2;have f5_3:=pw_cell_below hv3 f5_2;have e6_3:=pw_cell_below hv3 e6_2;have f6_3:=pw_cell_below hv3 f6_2;have e7_3:=pw_cell_below hv3 e7_2;have f7_3:=pw_cell_below hv3 f7_2;have e8_3:=pw_cell_below hv3 e8_2;have f8_3:=pw_cell_below hv3 f8_2;clear hv3)|(go_at_call 181;(with_reducible refine (Q5.out _ HB_3.out).mono ?_);rintro e v4 ⟨rfl,hv4⟩;have HB_4:=Aside0.mk (HB_3.out.trans (hv4.mono HB_3.out.size));have e6_4:=pw_cell_below hv4 e6_3;have f6_4:=pw_cell_below hv4 f6_3;have e7_4:=pw_cell_below hv4 e7_3;have f7_4:=pw_cell_below hv4 f7_3;have e8_4:=pw_cell_below hv4 e8_3;have f8_4:=pw_cell_below hv4 f8_3;clear hv4))
       go_ret
       exact ⟨rfl,HB_4.out⟩
      | true =>
       rw [Bool.true_and]
       cases q6 with
       | false =>
        rw [Bool.false_and]
        go_enter Try.func135,Try.ntmps135
        go_wp2_with (first|(go_at_call 180;(with_reducible refine (Q2.out _ HB.out).mono ?_);rintro e v1 ⟨rfl,hv1⟩;have HB_1:=Aside0.mk (HB.out.trans (hv1.mono HB.out.size));have e3_1:=pw_cell_below hv1 e3;have f3_1:=pw_cell_below hv1 f3;have e4_1:=pw_cell_below hv1 e4;have f4_1:=pw_cell_below hv1 f4;have e5_1:=pw_cell_below hv1 e5;have f5_1:=pw_cell_below hv1 f5;have e6_1:=pw_cell_below hv1 e6;have f6_1:=pw_cell_below hv1 f6;have e7_1:=pw_cell_below hv1 e7;have f7_1:=pw_cell_below hv1 f7;have e8_1:=pw_cell_below hv1 e8;have f8_1:=pw_cell_below hv1 f8;clear hv1)|(go_at_call 180;(with_reducible refine (Q3.out _ HB_1.out).mono ?_);rintro e v2 ⟨rfl,hv2⟩;have HB_2:=Aside0.mk (HB_1.out.trans (hv2.mono HB_1.out.size));have e4_2:=pw_cell_below hv2 e4_1;have f4_2:=pw_cell_below hv2 f4_1;have e5_2:=pw_cell_below hv2 e5_1;have f5_2:=pw_cell_below hv2 f5_1;have e6_2:=pw_cell_below hv2 e6_1;have f6_2:=pw_cell_below hv2 f6_1;have e7_2:=pw_cell_below hv2 e7_1;have f7_2:=pw_cell_below hv2 f7_1;have e8_2:=pw_cell_below hv2 e8_1;have f8_2:=pw_cell_below hv2 f8_1;clear hv2)|(go_at_call 180;(with_reducible refine (Q4.out _ HB_2.out).mono ?_);rintro e v3 ⟨rfl,hv3⟩;have HB_3:=Aside0.mk (HB_2.out.trans (hv3.mono HB_2.out.size));have e5_3:=pw_cell_below hv3 e5_2;have f5_3:=pw_cell_below hv3 f5_2;have e6_3:=pw_cell_below hv3 e6_2;have f6_3:=pw_cell_below hv3 f6_2;have e7_3:=pw_cell_below hv3 e7_2;have f7_3:=pw_cell_below hv3 f7_2;have e8_3:=pw_cell_below hv3 e8_2;have f8_3:=pw_cell_below hv3 f8_2;clear hv3)|(go_at_call 181;(with_reducible refine (Q5.out _ HB_3.out).mono ?_);rintro e v4 ⟨rfl,hv4⟩;have HB_4:=Aside0.mk (HB_3.out.trans (hv4.mono HB_3.out.size));have e6_4:=pw_cell_below hv4 e6_3;have f6_4:=pw_cell_below hv4 f6_3;have e7_4:=pw_cell_below hv4 e7_3;have f7_4:=pw_cell_below hv4 f7_3;have e8_4:=pw_cell_below hv4 e8_3;have f8_4:=pw_cell_below hv4 f8_3;clear hv4)|(go_at_call 181;(with_reducible refine (Q6.out _ HB_4.out).mono ?_);rintro e v5 ⟨rfl,hv5⟩;have HB_5:=Aside0.mk (HB_4.out.trans (hv5.mono HB_4.out.size));have e7_5:=pw_cell_below hv5 e7_4;have f7_5:=pw_cell_below hv5 f7_4;have e8_5:=pw_cell_below hv5 e8_4;have f8_5:=pw_cell_below hv5 f8_4;clear hv5))
        go_ret
        exact ⟨rfl,HB_5.out⟩
       | true =>
        rw [Bool.true_and]
        cases t7:(a0_7 == a1_7) with
        | false =>
         rw [Bool.false_and]
         go_enter Try.func135,Try.ntmps135
         go_wp2_with (first|(go_at_call 180;(with_reducible refine (Q2.out _ HB.out).mono ?_);rintro e v1 ⟨rfl,hv1⟩;have HB_1:=Aside0.mk (HB.out.trans (hv1.mono HB.out.size));have e3_1:=pw_cell_below hv1 e3;have f3_1:=pw_cell_below hv1 f3;have e4_1:=pw_cell_below hv1 e4;have f4_1:=pw_cell_below hv1 f4;have e5_1:=pw_cell_below hv1 e5;have f5_1:=pw_cell_below hv1 f5;have e6_1:=pw_cell_below hv1 e6;have f6_1:=pw_cell_below hv1 f6;have e7_1:=pw_cell_below hv1 e7;have f7_1:=pw_cell_below hv1 f7;have e8_1:=pw_cell_below hv1 e8;have f8_1:=pw_cell_below hv1 f8;clear hv1)|(go_at_call 180;(with_reducible refine (Q3.out _ HB_1.out).mono ?_);rintro e v2 ⟨rfl,hv2⟩;have HB_2:=Aside0.mk (HB_1.out.trans (hv2.mono HB_1.out.size));have e4_2:=pw_cell_below hv2 e4_1;have f4_2:=pw_cell_below hv2 f4_1;have e5_2:=pw_cell_below hv2 e5_1;have f5_2:=pw_cell_below hv2 f5_1;have e6_2:=pw_cell_below hv2 e6_1;have f6_2:=pw_cell_below hv2 f6_1;have e7_2:=pw_cell_below hv2 e7_1;have f7_2:=pw_cell_below hv2 f7_1;have e8_2:=pw_cell_below hv2 e8_1;have f8_2:=pw_cell_below hv2 f8_1;clear hv2)|(go_at_call 180;(with_reducible refine (Q4.out _ HB_2.out).mono ?_);rintro e v3 ⟨rfl,hv3⟩;have HB_3:=Aside0.mk (HB_2.out.trans (hv3.mono HB_2.out.size));have e5_3:=pw_cell_below hv3 e5_2;have f5_3:=pw_cell_below hv3 f5_2;have e6_3:=pw_cell_below hv3 e6_2;have f6_3:=pw_cell_below hv3 f6_2;have e7_3:=pw_cell_below hv3 e7_2;have f7_3:=pw_cell_below hv3 f7_2;have e8_3:=pw_cell_below hv3 e8_2;have f8_3:=pw_cell_below hv3 f8_2;clear hv3)|(go_at_call 181;(with_reducible refine (Q5.out _ HB_3.out).mono ?_);rintro e v4 ⟨rfl,hv4⟩;have HB_4:=Aside0.mk (HB_3.out.trans (hv4.mono HB_3.out.size));have e6_4:=pw_cell_below hv4 e6_3;have f6_4:=pw_cell_below hv4 f6_3;have e7_4:=pw_cell_below hv4 e7_3;have f7_4:=pw_cell_below hv4 f7_3;have e8_4:=pw_cell_below hv4 e8_3;have f8_4:=pw_cell_below hv4 f8_3;clear hv4)|(go_at_call 181;(with_reducible refine (Q6.out _ HB_4.out).mono ?_);rintro e v5 ⟨rfl,hv5⟩;have HB_5:=Aside0.mk (HB_4.out.trans (hv5.mono HB_4.out.size));have e7_5:=pw_cell_below hv5 e7_4;have f7_5:=pw_cell_below hv5 f7_4;have e8_5:=pw_cell_below hv5 e8_4;have f8_5:=pw_cell_below hv5 f8_4;clear hv5))
         go_ret
         exact ⟨rfl,HB_5.out⟩
        | true =>
         rw [Bool.true_and]
         go_enter Try.func135,Try.ntmps135
         go_wp2_with (first|(go_at_call 180;(with_reducible refine (Q2.out _ HB.out).mono ?_);rintro e v1 ⟨rfl,hv1⟩;have HB_1:=Aside0.mk (HB.out.trans (hv1.mono HB.out.size));have e3_1:=pw_cell_below hv1 e3;have f3_1:=pw_cell_below hv1 f3;have e4_1:=pw_cell_below hv1 e4;have f4_1:=pw_cell_below hv1 f4;have e5_1:=pw_cell_below hv1 e5;have f5_1:=pw_cell_below hv1 f5;have e6_1:=pw_cell_below hv1 e6;have f6_1:=pw_cell_below hv1 f6;have e7_1:=pw_cell_below hv1 e7;have f7_1:=pw_cell_below hv1 f7;have e8_1:=pw_cell_below hv1 e8;have f8_1:=pw_cell_below hv1 f8;clear hv1)|(go_at_call 180;(with_reducible refine (Q3.out _ HB_1.out).mono ?_);rintro e v2 ⟨rfl,hv2⟩;have HB_2:=Aside0.mk (HB_1.out.trans (hv2.mono HB_1.out.size));have e4_2:=pw_cell_below hv2 e4_1;have f4_2:=pw_cell_below hv2 f4_1;have e5_2:=pw_cell_below hv2 e5_1;have f5_2:=pw_cell_below hv2 f5_1;have e6_2:=pw_cell_below hv2 e6_1;have f6_2:=pw_cell_below hv2 f6_1;have e7_2:=pw_cell_below hv2 e7_1;have f7_2:=pw_cell_below hv2 f7_1;have e8_2:=pw_cell_below hv2 e8_1;have f8_2:=pw_cell_below hv2 f8_1;clear hv2)|(go_at_call 180;(with_reducible refine (Q4.out _ HB_2.out).mono ?_);rintro e v3 ⟨rfl,hv3⟩;have HB_3:=Aside0.mk (HB_2.out.trans (hv3.mono HB_2.out.size));have e5_3:=pw_cell_below hv3 e5_2;have f5_3:=pw_cell_below hv3 f5_2;have e6_3:=pw_cell_below hv3 e6_2;have f6_3:=pw_cell_below hv3 f6_2;have e7_3:=pw_cell_below hv3 e7_2;have f7_3:=pw_cell_below hv3 f7_2;have e8_3:=pw_cell_below hv3 e8_2;have f8_3:=pw_cell_below hv3 f8_2;clear hv3)|(go_at_call 181;(with_reducible refine (Q5.out _ HB_3.out).mono ?_);rintro e v4 ⟨rfl,hv4⟩;have HB_4:=Aside0.mk (HB_3.out.trans (hv4.mono HB_3.out.size));have e6_4:=pw_cell_below hv4 e6_3;have f6_4:=pw_cell_below hv4 f6_3;have e7_4:=pw_cell_below hv4 e7_3;have f7_4:=pw_cell_below hv4 f7_3;have e8_4:=pw_cell_below hv4 e8_3;have f8_4:=pw_cell_below hv4 f8_3;clear hv4)|(go_at_call 181;(with_reducible refine (Q6.out _ HB_4.out).mono ?_);rintro e v5 ⟨rfl,hv5⟩;have HB_5:=Aside0.mk (HB_4.out.trans (hv5.mono HB_4.out.size));have e7_5:=pw_cell_below hv5 e7_4;have f7_5:=pw_cell_below hv5 f7_4;have e8_5:=pw_cell_below hv5 e8_4;have f8_5:=pw_cell_below hv5 f8_4;clear hv5))
         go_ret
         exact ⟨rfl,HB_5.out⟩
end Go.Proofs.Ytophaihdibplkaa.PFnExactSameConfig
