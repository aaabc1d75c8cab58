/- By a program of this session, out of the kit's print and contracts made by hand: the machine side of a law; Lean checks it. No conditions. -/
import Derived.Test.YtmeafbneklphnaaPFnExactAllowsAttrx0
import Derived.Test.YtmeafbneklphnaaPFnExactAllowsAttrx4
import Derived.Test.YtmeafbneklphnaaPFnExactAllowsAttrx5
namespace Go.Proofs.Ytmeafbneklphnaa.PFnExactAllowsAttr
open Go.RowKit Go.Proofs.YtmeafbneklphnaaW.PrintWords Go.Proofs.YtmeafbneklphnaaW.PrintLast Go.Proofs.YtmeafbneklphnaaW.PrintMore
attribute [local go_sem] max2_int min2_int max_two min_two max_three min_three max_four min_four
set_option linter.unusedVariables false
set_option linter.unusedSimpArgs false
/-! ### ContainsFunc_Rule: function 107, by hand -/
/-- slices.ContainsFunc at this type, whatever the predicate. -/
theorem ContainsFunc_Rule.holds (A:Option Addr) (n c:Nat) (v:Nat→List Value) (p:Nat→Bool) (g:Nat) (lb:Array Value) (eg:∀ args w,(callFunc g args).run Try.prog w=.ok (.enter g args) w) (w:World)
 (hp:∀ j,j<n→∀ W,Below w.heap.size w W→Calls Try.prog g (#[.agg (v j).toArray]++lb) W fun e w'=>e=.returned (.bool (p j))∧Below w.heap.size w w')
 (hbig:n≤9223372036854775807) (hc:∀ j,j<n→∃ ad,A=some ad∧(v j).length=3∧∀ i u,(v j)[i]? = some u→w.cell? (ad.add (j * 3+i))=some u) :
 Calls Try.prog 107 #[.slice A n c,.func (.func g) #[] lb] w fun e w'=>e=.returned (.bool (Mach.anyP p n))∧Below w.heap.size w w':=by
 rw [←Mach.idxP_any]
 have hcall:=IndexFunc_Rule.holds A n c v p g lb eg w hp hbig hc
 clear hc hp
 go_enter Try.func107,Try.ntmps107
 go_wp2_with (go_at_call 102;refine hcall.mono ?_;rintro e w' ⟨rfl,hb'⟩)
 go_ret
 exact ⟨rfl,hb'⟩
/-! ### impl_haveAttrs: function 95, by hand -/
def hasAttr (x:S56):Bool:=decide (0<x.f2.length)
def impl_haveAttrs.f (l0:List S56):Option Bool:=some (l0.any hasAttr)
theorem impl_haveAttrs.lit2 (f0:Int) (f1:ByteArray) (A3:Option Addr) (n3 c3:Nat) (w:World):Calls Try.prog 108 #[.agg #[.int .i64 f0,.string f1,.slice A3 n3 c3]] w fun e w'=>e=.returned (.bool (decide (0<n3)))∧Below w.heap.size w w':=by
 by_cases hq:0<n3
 ·have hz:(0:Int)<(n3:Int):=by omega
  rw [dt_ hq]
  go_enter Try.func108,Try.ntmps108
  go_wp2
  go_ret
  exact ⟨rfl,ba_ (Below.refl _ _) _⟩
 ·have hz:¬ (0:Int)<(n3:Int):=by omega
  rw [df_ hq]
  go_enter Try.func108,Try.ntmps108
  go_wp2
  go_ret
  exact ⟨rfl,ba_ (Below.refl _ _) _⟩
theorem impl_haveAttrs.calls (A0:Option Addr) (c0:Nat) (l0:List S56) (r:Bool) (w:World) (hr0:Kd.C k56 w A0 l0.length l0) (hc0:l0.length≤c0) (h:impl_haveAttrs.f l0=some r) :
 Calls Try.prog 95 #[.slice A0 l0.length c0] w fun e w'=>e=.returned (.bool r)∧Below w.heap.size w w':=by
 obtain rfl:=oi_ h
 obtain ⟨F,hF⟩:=ruleCells A0 l0 w hr0
 have hcall:=ContainsFunc_Rule.holds A0 l0.length c0 (fun j=>[.int .i64 (l0.getD j z56).f0,.string (l0.getD j z56).f1,.slice (F j).1 (l0.getD j z56).f2.length (F j).2]) (fun j=>hasAttr (l0.getD j z56)) 108 #[] (Mach.enters_of Try.func108 (by kernel_rfl) rfl) w
  (fun j hj V hb=>(impl_haveAttrs.lit2 _ _ _ _ _ V).mono fun e w' ⟨he,hb'⟩=>⟨he,hb.trans (hb'.mono hb.size)⟩) hr0.2.1
  (fun j hj=>by
   obtain ⟨⟨ad,e,hc⟩,_⟩:=hF j hj
   exact ⟨ad,e,rfl,hc⟩)
 rw [Mach.anyP_list hasAttr] at hcall
 clear hF hr0 hc0
 generalize l0.any hasAttr=R at *
 go_enter Try.func95,Try.ntmps95
 go_wp2_with (go_at_call 107;(with_reducible refine hcall.mono ?_);rintro e w' ⟨rfl,hb'⟩)
 go_ret
 exact ⟨rfl,hb'⟩
/-! ### impl_haveCommon: function 109, by hand -/
def isIn (b:List S56) (x:S56):Bool:=decide (0≤ruleAtI b x.f0 x.f1)
def impl_haveCommon.f (l0 l1:List S56):Option Bool:=some (l0.any (isIn l1))
theorem impl_haveCommon.lit (f0:Int) (f1:ByteArray) (A3:Option Addr) (n3 c3:Nat) (A1:Option Addr) (c1:Nat) (l1:List S56) (B:Nat) (w:World) (hr1:Kd.C k56 w A1 l1.length l1) (hc1:l1.length≤c1) (h0:w.cell? ⟨B,0,none⟩=some (.slice A1 l1.length c1)) :
 Calls Try.prog 113 #[.agg #[.int .i64 f0,.string f1,.slice A3 n3 c3],.pointer (some ⟨B,0,none⟩)] w fun e w'=>e=.returned (.bool (decide (0≤ruleAtI l1 f0 f1)))∧Below w.heap.size w w':=by
 have hb:=ba_ (Below.refl w.heap.size w) (.cells #[.int .i64 f0,.string f1,.slice A3 n3 c3] 56)
 have g0:=pc_ hb h0
 have q:=impl_ruleAt.calls A1 c1 l1 f0 f1 _ _ (cb_ hr1 hb) hc1 rfl
 have HB:=A_ hb
 clear hb h0 hr1 hc1
 generalize ruleAtI l1 f0 f1=R at *
 generalize l1.length=n1 at *
 go_enter Try.func113,Try.ntmps113
 go_wp2_with (go_at_call 82;(with_reducible refine q.mono ?_);rintro e w' ⟨rfl,hb'⟩)
 go_ret
 exact ⟨rfl,HB.out.trans (hb'.mono HB.out.size)⟩
theorem impl_haveCommon.calls (A0:Option Addr) (c0:Nat) (l0:List S56) (A1:Option Addr) (c1:Nat) (l1:List S56) (r:Bool) (w:World) (hr0:Kd.C k56 w A0 l0.length l0) (hc0:l0.length≤c0) (hr1:Kd.C k56 w A1 l1.length l1) (hc1:l1.length≤c1) (h:impl_haveCommon.f l0 l1=some r) :
 Calls Try.prog 109 #[.slice A0 l0.length c0,.slice A1 l1.length c1] w fun e w'=>e=.returned (.bool r)∧Below w.heap.size w w':=by
 obtain rfl:=oi_ h
 obtain ⟨F,hF⟩:=ruleCells A0 l0 w hr0
 have hb:=ba_ (Below.refl w.heap.size w) (.cells #[.slice A1 l1.length c1] 22)
 have q:=ContainsFunc_Rule.holds A0 l0.length c0 (fun j=>[.int .i64 (l0.getD j z56).f0,.string (l0.getD j z56).f1,.slice (F j).1 (l0.getD j z56).f2.length (F j).2]) (fun j=>isIn l1 (l0.getD j z56)) 113 #[.pointer (some ⟨w.heap.size,0,none⟩)] (Mach.enters_of Try.func113 (by kernel_rfl) rfl) (w.alloc (.cells #[.slice A1 l1.length c1] 22))
  (fun j hj V hb2=>(impl_haveCommon.lit _ _ _ _ _ A1 c1 l1 w.heap.size V (cb_ (cb_ hr1 hb) hb2) hc1 (pc_ hb2 (Mach.new_cell _ _ _ 0 _ rfl))).mono fun e w' ⟨he,hb'⟩=>⟨he,hb2.trans (hb'.mono hb2.size)⟩) hr0.2.1
  (fun j hj=>by
   obtain ⟨⟨ad,e,hc⟩,_⟩:=hF j hj
   exact ⟨ad,e,rfl,fun i u hu=>pc_ hb (hc i u hu)⟩)
 rw [Mach.anyP_list (isIn l1)] at q
 have HB:=A_ hb
 clear hb hF hr0 hc0 hr1 hc1
 generalize l0.any (isIn l1)=R at *
 generalize l0.length=n0 at *
 generalize l1.length=n1 at *
 go_enter Try.func109,Try.ntmps109
 go_wp2_with (go_at_call 107;(with_reducible refine q.mono ?_);rintro e w' ⟨rfl,hb'⟩)
 go_ret
 exact ⟨rfl,HB.out.trans (hb'.mono HB.out.size)⟩
/-! ### IndexFunc_string: function 104, by hand -/
set_option maxHeartbeats 1000000 in
/-- slices.IndexFunc at this type, whatever the predicate: the first place at which it holds. -/
theorem IndexFunc_string.holds (A:Option Addr) (n c:Nat) (v:Nat→Value) (p:Nat→Bool) (g:Nat) (lb:Array Value) (eg:∀ args w,(callFunc g args).run Try.prog w=.ok (.enter g args) w) (w:World)
 (hp:∀ j,j<n→∀ W,Below w.heap.size w W→Calls Try.prog g (#[v j]++lb) W fun e w'=>e=.returned (.bool (p j))∧Below w.heap.size w w')
 (hbig:n≤9223372036854775807) (hc:∀ j,j<n→∃ ad,A=some ad∧w.cell? (ad.add j)=some (v j)) :
 Calls Try.prog 104 #[.slice A n c,.func (.func g) #[] lb] w fun e w'=>e=.returned (.int .i64 (Mach.idxP p n))∧Below w.heap.size w w':=by
 have HC:=A_ hc
 have HP:=A_ hp
 clear hc hp
 go_enter Try.func104,Try.ntmps104
 go_wp2
 go_loopg [5,8] n (fun gg _ s8 wr=>∃ kk:Nat,kk≤n∧n - kk≤gg∧s8=.int .i64 kk∧Aside0 (Below w.heap.size w wr)∧Aside0 (∀ j,j<kk→p j=false))
 case atStart=>exact ⟨0,Nat.zero_le _,by omega,rfl,⟨Below.refl _ w⟩,⟨fun j hj=>absurd hj (Nat.not_lt_zero _)⟩⟩
 case round =>
  obtain ⟨kk,hkk,hg,rfl,BW,AA⟩:=hrel
  by_cases hlt:kk<n
  ·have hltz:(kk:Int)<(n:Int):=by omega
   obtain ⟨ad,e,l1⟩:=HC.out kk hlt
   cases e
   have l2:wr.cell? (ad.add kk)=some (v kk):=pc_ BW.out l1
   clear l1
   have hcall:=HP.out kk hlt wr BW.out
   cases hq:p kk with
   | true =>
    rw [hq] at hcall
    go_wp2_with ((with_reducible refine hcall.mono ?_);rintro e w' ⟨rfl,hb'⟩)
    go_ret
    refine ⟨?_,hb'⟩
    rw [Mach.idxP_hit p n kk hlt hq AA.out]
    rfl
   | false =>
    rw [hq] at hcall
    go_wp2_with ((with_reducible refine hcall.mono ?_);rintro e w' ⟨rfl,hb'⟩)
    go_roundg (n - (kk+1))
    case measure=>omega
    case rel =>
     refine ⟨kk+1,by omega,by omega,by go_num,⟨hb'⟩,⟨fun j hj=>?_⟩⟩
     by_cases e:j=kk
     ·subst e;exact hq
     ·exact AA.out j (by omega)
  ·have hltz:¬ (kk:Int)<(n:Int):=by omega
   have:kk=n:=by omega
   subst this
   go_wp2
   go_ret
   refine ⟨?_,BW.out⟩
   rw [Mach.idxP_miss p kk AA.out]
   rfl
/-! ### ContainsFunc_string: function 85, by hand -/
/-- slices.ContainsFunc at this type, whatever the predicate. -/
theorem ContainsFunc_string.holds (A:Option Addr) (n c:Nat) (v:Nat→Value) (p:Nat→Bool) (g:Nat) (lb:Array Value) (eg:∀ args w,(callFunc g args).run Try.prog w=.ok (.enter g args) w) (w:World)
 (hp:∀ j,j<n→∀ W,Below w.heap.size w W→Calls Try.prog g (#[v j]++lb) W fun e w'=>e=.returned (.bool (p j))∧Below w.heap.size w w')
 (hbig:n≤9223372036854775807) (hc:∀ j,j<n→∃ ad,A=some ad∧w.cell? (ad.add j)=some (v j)) :
 Calls Try.prog 85 #[.slice A n c,.func (.func g) #[] lb] w fun e w'=>e=.returned (.bool (Mach.anyP p n))∧Below w.heap.size w w':=by
 rw [←Mach.idxP_any]
 have hcall:=IndexFunc_string.holds A n c v p g lb eg w hp hbig hc
 clear hc hp
 go_enter Try.func85,Try.ntmps85
 go_wp2_with (go_at_call 104;refine hcall.mono ?_;rintro e w' ⟨rfl,hb'⟩)
 go_ret
 exact ⟨rfl,hb'⟩
/-! ### slices_Index_string_string: function 90 -/
def slices_Index_string_string.l0:Nat→List ByteArray→ByteArray→Int→Int→Option (Int)
 | 0,_,_,_,_=>none
 | k+1,x0,x1,x7,x8=>if x8<x7 then (if 0≤x8 then (if x8<(x0.length:Int) then (if x1.toList=(rdOf ByteArray.empty x0 x8).toList then (some x8) else (slices_Index_string_string.l0 k x0 x1 x7 (wrap64 (x8+1)))) else (none)) else (none)) else (some (-1))
def slices_Index_string_string.f (k:Nat) (l0:List ByteArray) (a1:ByteArray):Option (Int):=slices_Index_string_string.l0 k l0 a1 (l0.length:Int) 0
theorem slices_Index_string_string.mono_l:∀ k,(∀ y0 y1 y2 y3,LeO (slices_Index_string_string.l0 k y0 y1 y2 y3) (slices_Index_string_string.l0 (k+1) y0 y1 y2 y3))
 | 0=>fun _ _ _ _ r h=>by simp [slices_Index_string_string.l0] at h
 | k+1=>by
  have ih0:=slices_Index_string_string.mono_l k
  ·intro y0 y1 y2 y3
   unfold slices_Index_string_string.l0
   repeat' first
   | (with_reducible exact ih0 _ _ _ _)
   | (with_reducible exact LeO.refl _)
   | (with_reducible exact LeO.none _)
   | (with_reducible refine LeO.ite ?_ ?_)
   | (with_reducible refine LeO.bind ?_ (fun _=>?_))
   | exact ih0 _ _ _ _
   | exact LeO.none _
   | refine LeO.ite ?_ ?_
   | refine LeO.bind ?_ (fun _=>?_)
theorem slices_Index_string_string.mono:∀ a0 a1 k,LeO (slices_Index_string_string.f k a0 a1) (slices_Index_string_string.f (k+1) a0 a1):=by
 intro a0 a1 k
 have ih0:=slices_Index_string_string.mono_l k
 unfold slices_Index_string_string.f
 repeat' first
  | (with_reducible exact ih0 _ _ _ _)
  | (with_reducible exact LeO.refl _)
  | (with_reducible exact LeO.none _)
  | (with_reducible refine LeO.ite ?_ ?_)
  | (with_reducible refine LeO.bind ?_ (fun _=>?_))
  | exact ih0 _ _ _ _
  | exact LeO.none _
  | refine LeO.ite ?_ ?_
  | refine LeO.bind ?_ (fun _=>?_)
set_option maxHeartbeats 8000000 in
set_option maxRecDepth 100000 in
theorem slices_Index_string_string.calls (k:Nat) (A0:Option Addr) (c0:Nat) (l0:List ByteArray) (a1:ByteArray) (r:Int) (w:World) (hr0:Kd.C Kd.string w A0 l0.length l0) (hc0:l0.length≤c0) (h:slices_Index_string_string.f k l0 a1=some r) :
 Calls Try.prog 90 #[.slice A0 l0.length c0,.string a1] w fun e w'=>e=.returned (.int .i64 r)∧Drawn0 w w':=by
 have HR0:=A_ hr0
 have HC0:=A_ hc0
 clear hr0 hc0
 have H:(slices_Index_string_string.l0 k l0 a1 (l0.length:Int) 0)=some r:=h
 clear h
 have H':=A_ H
 clear H
 go_enter Try.func90,Try.ntmps90
 go_wp2
 go_loopg [8] k (fun kq v8 w'=>∃ (x8_1:Int),v8=.int .i64 x8_1∧Aside0 (slices_Index_string_string.l0 kq l0 a1 (l0.length:Int) x8_1=some r)∧Aside0 (kq≤k)∧Drawn0 w w')
 case atStart=>exact ⟨(0),(by first|rfl|(simp;done)|(simp [*];done)),H',⟨Nat.le_refl _⟩,by repeat (first|exact dr_ _|apply dp_)⟩
 case round =>
  clear H'
  try clear p2
  obtain ⟨x8_1,rfl,HA,HK1,⟨m1,rfl⟩⟩:=hrel
  cases gk with
  | zero=>exact absurd HA.out (by simp [slices_Index_string_string.l0])
  | succ k1 =>
   have H:=HA.out
   clear HA
   simp only [slices_Index_string_string.l0] at H
   by_cases c3:x8_1<(l0.length:Int)
   ·rw [if_pos c3] at H
    have c3b0:decide (x8_1<(l0.length:Int))=true:=dt_ c3
    clear c3
    by_cases c4:0≤x8_1
    ·rw [if_pos c4] at H
     have c4b0:decide (0≤x8_1)=true:=dt_ c4
     clear c4
     by_cases c5:x8_1<(l0.length:Int)
     ·rw [if_pos c5] at H
      have c5b0:decide (x8_1<(l0.length:Int))=true:=dt_ c5
      clear c5
      by_cases c6:a1.toList=(rdOf ByteArray.empty l0 x8_1).toList
      ·rw [if_pos c6] at H
       have c6b0:(a1.toList == (rdOf ByteArray.empty l0 x8_1).toList)=true:=beq_iff_eq.mpr c6
       have c6b1:(a1.toList != (rdOf ByteArray.empty l0 x8_1).toList)=false:=bne_eq_false_iff_eq.mpr c6
       clear c6
       obtain rfl:=oi_ H
       have p131:0≤(x8_1:Int):=od_ (by first|(with_reducible assumption)|assumption)
       have q131:x8_1<(l0.length:Int):=od_ (by first|(with_reducible assumption)|assumption)
       obtain ⟨ad131,e131,hx131_0⟩:=Kd.at_string HR0.out x8_1 p131 q131
       cases e131
       replace p131:=eq_true p131
       replace q131:=eq_true q131
       go_wp2
       go_ret
       exact ⟨by first|rfl|(simp;done)|(simp [*];done),by repeat (first|exact dr_ _|apply dp_)⟩
      ·rw [if_neg c6] at H
       have c6b0:(a1.toList == (rdOf ByteArray.empty l0 x8_1).toList)=false:=beq_eq_false_iff_ne.mpr c6
       have c6b1:(a1.toList != (rdOf ByteArray.empty l0 x8_1).toList)=true:=bne_iff_ne.mpr c6
       have H':=A_ H
       clear H
       have p131:0≤(x8_1:Int):=od_ (by first|(with_reducible assumption)|assumption)
       have q131:x8_1<(l0.length:Int):=od_ (by first|(with_reducible assumption)|assumption)
       obtain ⟨ad131,e131,hx131_0⟩:=Kd.at_string HR0.out x8_1 p131 q131
       cases e131
       replace p131:=eq_true p131
       replace q131:=eq_true q131
       go_wp2
       go_roundg k1
       case measure=>have:=HK1.out;omega
       case rel=>exact ⟨(wrap64 (x8_1+1)),(by first|rfl|(simp;done)|(simp [*];done)),H',⟨by have:=HK1.out;omega⟩,by repeat (first|exact dr_ _|apply dp_)⟩
     ·rw [if_neg c5] at H
      exact absurd H (by simp)
    ·rw [if_neg c4] at H
     exact absurd H (by simp)
   ·rw [if_neg c3] at H
    have c3b0:decide (x8_1<(l0.length:Int))=false:=df_ c3
    clear c3
    obtain rfl:=oi_ H
    go_wp2
    go_ret
    exact ⟨by first|rfl|(simp;done)|(simp [*];done),by repeat (first|exact dr_ _|apply dp_)⟩
/-! ### slices_Contains_string_string: function 67 -/
def slices_Contains_string_string.f (k:Nat) (l0:List ByteArray) (a1:ByteArray):Option (Bool):=(slices_Index_string_string.f k l0 a1).bind fun t132=>(some (decide (t132≥0)))
theorem slices_Contains_string_string.mono:∀ a0 a1 k,LeO (slices_Contains_string_string.f k a0 a1) (slices_Contains_string_string.f (k+1) a0 a1):=by
 intro a0 a1 k
 unfold slices_Contains_string_string.f
 repeat' first
  | (with_reducible exact slices_Index_string_string.mono _ _ _)
  | (with_reducible exact LeO.refl _)
  | (with_reducible exact LeO.none _)
  | (with_reducible refine LeO.ite ?_ ?_)
  | (with_reducible refine LeO.bind ?_ (fun _=>?_))
  | exact slices_Index_string_string.mono _ _ _
  | exact LeO.none _
  | refine LeO.ite ?_ ?_
  | refine LeO.bind ?_ (fun _=>?_)
set_option maxHeartbeats 8000000 in
set_option maxRecDepth 100000 in
theorem slices_Contains_string_string.calls (k:Nat) (A0:Option Addr) (c0:Nat) (l0:List ByteArray) (a1:ByteArray) (r:Bool) (w:World) (hr0:Kd.C Kd.string w A0 l0.length l0) (hc0:l0.length≤c0) (h:slices_Contains_string_string.f k l0 a1=some r) :
 Calls Try.prog 67 #[.slice A0 l0.length c0,.string a1] w fun e w'=>e=.returned (.bool r)∧Drawn0 w w':=by
 have HR0:=A_ hr0
 have HC0:=A_ hc0
 clear hr0 hc0
 have H:((slices_Index_string_string.f k l0 a1).bind fun t132=>(some (decide (t132≥0))))=some r:=h
 clear h
 replace H:=ob_ H
 obtain ⟨t132,A30,H⟩:=H
 replace H:(some (decide (t132≥0)))=some r:=H
 have A3:=A_ A30
 clear A30
 obtain rfl:=oi_ H
 go_enter Try.func67,Try.ntmps67
 go_wp2_with (first|((with_reducible refine gate_callee (f:=90) rfl ?_);refine goesL_ (some 7) rfl rfl Try.func90 (by kernel_rfl) rfl #[.slice A0 l0.length c0,.string a1] rfl (by (try simp only [List.map_toArray,List.map_cons,List.map_nil]);first|done|rfl|(simp only [ld_,lt_];rfl)) ?_;(with_reducible refine (slices_Index_string_string.calls k _ _ l0 a1 t132 _ ?side1 ?side2 A3.out).mono ?_);(case side1=>repeat (first|exact HR0.out|(with_reducible refine ca_ ?_ _)|(with_reducible refine cn_ ?_ _)|(with_reducible refine cd_ ?_)));(case side2=>exact HC0.out);rintro e w' ⟨rfl,⟨nd,rfl⟩⟩;refine ⟨_,rfl,?_⟩))
 go_ret
 exact ⟨by first|rfl|(simp;done)|(simp [*];done),by repeat (first|exact dr_ _|apply dp_)⟩
theorem ev_slices_Index (xs:List ByteArray) (t:ByteArray) (hn:xs.length≤9223372036854775807):Ev (fun k=>slices_Index_string_string.f k xs t) (Kit.indexOf t xs 0):=by
 have key:∀ i,i≤xs.length→Ev (fun k=>slices_Index_string_string.l0 k xs t xs.length i) (Kit.indexOf t (xs.drop i) i):=by
  refine Kit.down ?_ ?_
  ·refine Ev.step (fun k=>rfl) ?_
   refine Kit.ev_neg (by omega) ?_
   rw [List.drop_length]
   exact Ev.now _
  ·intro i hi ih
   refine Ev.step (fun k=>rfl) ?_
   refine Kit.ev_pos (by omega) (Kit.ev_pos (by omega) (Kit.ev_pos (by omega) ?_))
   rw [Kit.drop_getD ByteArray.empty xs i hi,Kit.indexOf,Kit.rdOf_nat,Kit.wrap_nat hi hn]
   refine Kit.ev_if (fun h=>?_) (fun h=>?_)
   ·rw [if_pos h];exact Ev.now _
   ·rw [if_neg h];exact ih
 exact key 0 (by omega)
theorem ev_slices_Contains (xs:List ByteArray) (t:ByteArray) (hn:xs.length≤9223372036854775807):Ev (fun k=>slices_Contains_string_string.f k xs t) (Kit.hasT xs t):=by
 unfold slices_Contains_string_string.f
 refine Ev.bind (ev_slices_Index xs t hn) ?_
 rw [←Kit.indexOf_has xs t 0]
 exact Ev.now _
theorem slices_Contains_string_string.pure (A:Option Addr) (c:Nat) (xs:List ByteArray) (t:ByteArray) (W:World) (h:Kd.C Kd.string W A xs.length xs) (hc:xs.length≤c):Calls Try.prog 67 #[.slice A xs.length c,.string t] W fun e w'=>e=.returned (.bool (Kit.hasT xs t))∧Drawn0 W w':=by
 obtain ⟨K,hK⟩:=ev_slices_Contains xs t h.2.1
 exact slices_Contains_string_string.calls K A c xs t _ W h hc (hK K (Nat.le_refl _))
/-! ### impl_Config_isAgainst: function 97, by hand -/
/-- The lists and the switches of a configuration go against each other. -/
def contraB (h0 h1:Bool) (allow remove:List S56) (attrs drop:List ByteArray) (data:Bool):Bool :=
 (!h0 && decide (0<allow.length)) || (h0 && decide (0<remove.length)) || (!h1 && (decide (0<attrs.length) || data)) || (h1 && decide (0<drop.length))
def againstB (h0 h1:Bool) (allow remove unwrap:List S56) (attrs drop:List ByteArray) (data:Bool):Bool :=
 contraB h0 h1 allow remove attrs drop data || (unwrap.any (isIn allow) || unwrap.any (isIn remove) || (!h1 && allow.any hasAttr)) || allow.any fun x=>x.f2.any fun n=>Kit.hasT attrs n
def impl_Config_isAgainst.f (a0_0 a0_1:Bool) (l0_2 l0_3 l0_4:List S56) (l0_5 l0_6:List ByteArray) (_a0_7 a0_8:Bool):Option Bool:=some (againstB a0_0 a0_1 l0_2 l0_3 l0_4 l0_5 l0_6 a0_8)
theorem impl_Config_isAgainst.lit1 (n:ByteArray) (A5:Option Addr) (c5:Nat) (l5:List ByteArray) (B:Nat) (w:World) (h0:w.cell? ⟨B,5,none⟩=some (.slice A5 l5.length c5)) (hr:Kd.C Kd.string w A5 l5.length l5) (hc:l5.length≤c5) :
 Calls Try.prog 111 #[.string n,.pointer (some ⟨B,0,none⟩)] w fun e w'=>e=.returned (.bool (Kit.hasT l5 n))∧Below w.heap.size w w':=by
 have q:=slices_Contains_string_string.pure A5 c5 l5 n w hr hc
 clear hr hc
 generalize Kit.hasT l5 n=R at *
 generalize l5.length=n5 at *
 go_enter Try.func111,Try.ntmps111
 go_wp2_with (go_at_call 67;(with_reducible refine q.mono ?_);rintro e w' ⟨rfl,⟨nd,rfl⟩⟩)
 go_ret
 exact ⟨rfl,pd_ (Below.refl _ _) _⟩
theorem impl_Config_isAgainst.lit2 (f0:Int) (f1:ByteArray) (A2:Option Addr) (c2:Nat) (l2:List ByteArray) (A5:Option Addr) (c5:Nat) (l5:List ByteArray) (B:Nat) (w:World) (h0:w.cell? ⟨B,5,none⟩=some (.slice A5 l5.length c5)) (hr:Kd.C Kd.string w A5 l5.length l5) (hc:l5.length≤c5) (hr2:Kd.C Kd.string w A2 l2.length l2) (hc2:l2.length≤c2) :
 Calls Try.prog 110 #[.agg #[.int .i64 f0,.string f1,.slice A2 l2.length c2],.pointer (some ⟨B,0,none⟩)] w fun e w'=>e=.returned (.bool (l2.any fun n=>Kit.hasT l5 n))∧Below w.heap.size w w':=by
 have hb:=ba_ (Below.refl w.heap.size w) (.cells #[.int .i64 f0,.string f1,.slice A2 l2.length c2] 56)
 have q:=ContainsFunc_string.holds A2 l2.length c2 (fun j=>.string (l2.getD j ByteArray.empty)) (fun j=>Kit.hasT l5 (l2.getD j ByteArray.empty)) 111 #[.pointer (some ⟨B,0,none⟩)] (Mach.enters_of Try.func111 (by kernel_rfl) rfl) (w.alloc (.cells #[.int .i64 f0,.string f1,.slice A2 l2.length c2] 56))
  (fun j _ W hb2=>(impl_Config_isAgainst.lit1 _ A5 c5 l5 B W (pc_ hb2 (pc_ hb h0)) (cb_ (cb_ hr hb) hb2) hc).mono fun e w' ⟨he,hb'⟩=>⟨he,hb2.trans (hb'.mono hb2.size)⟩) hr2.2.1
  (fun j hj=>by
   obtain ⟨ad,e,hx⟩:=Kd.at_string hr2 (j:Int) (by omega) (by omega)
   rw [Kit.rdOf_nat,Int.toNat_natCast] at hx
   exact ⟨ad,e,pc_ hb hx⟩)
 rw [Mach.anyP_list (fun n=>Kit.hasT l5 n)] at q
 have HB:=A_ hb
 clear hb hr hc hr2 hc2
 generalize (l2.any fun n=>Kit.hasT l5 n)=R at *
 generalize l2.length=n2 at *
 go_enter Try.func110,Try.ntmps110
 go_wp2_with (go_at_call 85;(with_reducible refine q.mono ?_);rintro e w' ⟨rfl,hb'⟩)
 go_ret
 exact ⟨rfl,HB.out.trans (hb'.mono HB.out.size)⟩
theorem impl_Config_isAgainst.lit3 (A0:Option Addr) (c0:Nat) (l0:List S56) (A5:Option Addr) (c5:Nat) (l5:List ByteArray) (B:Nat) (w:World) (h0:w.cell? ⟨B,5,none⟩=some (.slice A5 l5.length c5)) (hr:Kd.C Kd.string w A5 l5.length l5) (hc:l5.length≤c5) (hr0:Kd.C k56 w A0 l0.length l0) :
 Calls Try.prog 107 #[.slice A0 l0.length c0,.func (.func 110) #[] #[.pointer (some ⟨B,0,none⟩)]] w fun e w'=>e=.returned (.bool (l0.any fun x=>x.f2.any fun n=>Kit.hasT l5 n))∧Below w.heap.size w w':=by
 obtain ⟨F,hF⟩:=ruleCells A0 l0 w hr0
 have q:=ContainsFunc_Rule.holds A0 l0.length c0 (fun j=>[.int .i64 (l0.getD j z56).f0,.string (l0.getD j z56).f1,.slice (F j).1 (l0.getD j z56).f2.length (F j).2]) (fun j=>(l0.getD j z56).f2.any fun n=>Kit.hasT l5 n) 110 #[.pointer (some ⟨B,0,none⟩)] (Mach.enters_of Try.func110 (by kernel_rfl) rfl) w
  (fun j hj V hb2=>by
   obtain ⟨_,h1,h2⟩:=hF j hj
   exact (impl_Config_isAgainst.lit2 _ _ _ _ _ A5 c5 l5 B V (pc_ hb2 h0) (cb_ hr hb2) hc (cb_ h2 hb2) h1).mono fun e w' ⟨he,hb'⟩=>⟨he,hb2.trans (hb'.mono hb2.size)⟩) hr0.2.1
  (fun j hj=>by
   obtain ⟨⟨ad,e,hc⟩,_⟩:=hF j hj
   exact ⟨ad,e,rfl,hc⟩)
 rw [Mach.anyP_list (fun x:S56=>x.f2.any fun n=>Kit.hasT l5 n)] at q
 exact q
set_option maxHeartbeats 4000000 in
theorem impl_Config_isAgainst.calls (a0_0 a0_1:Bool) (A0_2:Option Addr) (c0_2:Nat) (l0_2:List (S56)) (A0_3:Option Addr) (c0_3:Nat) (l0_3:List (S56)) (A0_4:Option Addr) (c0_4:Nat) (l0_4:List (S56)) (A0_5:Option Addr) (c0_5:Nat) (l0_5:List ByteArray) (A0_6:Option Addr) (c0_6:Nat) (l0_6:List ByteArray) (a0_7:Bool) (a0_8:Bool) (r:Bool) (w:World) (hr0_2:Kd.C k56 w A0_2 l0_2.length l0_2) (hc0_2:l0_2.length≤c0_2) (hr0_3:Kd.C k56 w A0_3 l0_3.length l0_3) (hc0_3:l0_3.length≤c0_3) (hr0_4:Kd.C k56 w A0_4 l0_4.length l0_4) (hc0_4:l0_4.length≤c0_4) (hr0_5:Kd.C Kd.string w A0_5 l0_5.length l0_5) (hc0_5:l0_5.length≤c0_5) (hr0_6:Kd.C Kd.string w A0_6 l0_6.length l0_6) (hc0_6:l0_6.length≤c0_6) (h:impl_Config_isAgainst.f a0_0 a0_1 l0_2 l0_3 l0_4 l0_5 l0_6 a0_7 a0_8=some r) :
 Calls Try.prog 97 #[.agg #[.bool a0_0,.bool a0_1,.slice A0_2 l0_2.length c0_2,.slice A0_3 l0_3.length c0_3,.slice A0_4 l0_4.length c0_4,.slice A0_5 l0_5.length c0_5,.slice A0_6 l0_6.length c0_6,.bool a0_7,.bool a0_8]] w fun e w'=>e=.returned (.bool r)∧Below w.heap.size w w':=by
 obtain rfl:=oi_ h
 have CS:Aside0 (∀ i v,(#[.bool a0_0,.bool a0_1,.slice A0_2 l0_2.length c0_2,.slice A0_3 l0_3.length c0_3,.slice A0_4 l0_4.length c0_4,.slice A0_5 l0_5.length c0_5,.slice A0_6 l0_6.length c0_6,.bool a0_7,.bool a0_8]:Array Value)[i]? = some v→(w.alloc (.cells #[.bool a0_0,.bool a0_1,.slice A0_2 l0_2.length c0_2,.slice A0_3 l0_3.length c0_3,.slice A0_4 l0_4.length c0_4,.slice A0_5 l0_5.length c0_5,.slice A0_6 l0_6.length c0_6,.bool a0_7,.bool a0_8] 25)).cell? ⟨w.heap.size,i,none⟩=some v):=⟨fun i v h=>Mach.new_cell w _ _ i v h⟩
 have HB:=A_ (ba_ (Below.refl w.heap.size w) (.cells #[.bool a0_0,.bool a0_1,.slice A0_2 l0_2.length c0_2,.slice A0_3 l0_3.length c0_3,.slice A0_4 l0_4.length c0_4,.slice A0_5 l0_5.length c0_5,.slice A0_6 l0_6.length c0_6,.bool a0_7,.bool a0_8] 25))
 have Q1:Aside0 (∀ V,Below w.heap.size w V→Calls Try.prog 109 #[.slice A0_4 l0_4.length c0_4,.slice A0_2 l0_2.length c0_2] V fun e w'=>e=.returned (.bool (l0_4.any (isIn l0_2)))∧Below V.heap.size V w'):=⟨fun V hV=>impl_haveCommon.calls A0_4 c0_4 l0_4 A0_2 c0_2 l0_2 _ V (cb_ hr0_4 hV) hc0_4 (cb_ hr0_2 hV) hc0_2 rfl⟩
 have Q2:Aside0 (∀ V,Below w.heap.size w V→Calls Try.prog 109 #[.slice A0_4 l0_4.length c0_4,.slice A0_3 l0_3.length c0_3] V fun e w'=>e=.returned (.bool (l0_4.any (isIn l0_3)))∧Below V.heap.size V w'):=⟨fun V hV=>impl_haveCommon.calls A0_4 c0_4 l0_4 A0_3 c0_3 l0_3 _ V (cb_ hr0_4 hV) hc0_4 (cb_ hr0_3 hV) hc0_3 rfl⟩
 have Q3:Aside0 (∀ V,Below w.heap.size w V→Calls Try.prog 95 #[.slice A0_2 l0_2.length c0_2] V fun e w'=>e=.returned (.bool (l0_2.any hasAttr))∧Below V.heap.size V w'):=⟨fun V hV=>impl_haveAttrs.calls A0_2 c0_2 l0_2 _ V (cb_ hr0_2 hV) hc0_2 rfl⟩
 have Q4:Aside0 (∀ V,Below w.heap.size w V→V.cell? ⟨w.heap.size,5,none⟩=some (.slice A0_5 l0_5.length c0_5)→Calls Try.prog 107 #[.slice A0_2 l0_2.length c0_2,.func (.func 110) #[] #[.pointer (some ⟨w.heap.size,0,none⟩)]] V fun e w'=>e=.returned (.bool (l0_2.any fun x=>x.f2.any fun n=>Kit.hasT l0_5 n))∧Below V.heap.size V w'):=⟨fun V hV h5=>impl_Config_isAgainst.lit3 A0_2 c0_2 l0_2 A0_5 c0_5 l0_5 w.heap.size V h5 (cb_ hr0_5 hV) hc0_5 (cb_ hr0_2 hV)⟩
 unfold againstB contraB
 clear hr0_2 hr0_3 hr0_4 hr0_5 hr0_6 hc0_2 hc0_3 hc0_4 hc0_5 hc0_6
 generalize (l0_4.any (isIn l0_2))=u1 at *
 generalize (l0_4.any (isIn l0_3))=u2 at *
 generalize (l0_2.any hasAttr)=u3 at *
 generalize (l0_2.any fun x=>x.f2.any fun n=>Kit.hasT l0_5 n)=u4 at *
 generalize l0_2.length=n2 at *
 generalize l0_3.length=n3 at *
 generalize l0_4.length=n4 at *
 generalize l0_5.length=n5 at *
 generalize l0_6.length=n6 at *
 clear h
 cases a0_0 with
 | false =>
  by_cases z2:(0:Int)<(n2:Int)
  ·skip
   have d2:decide (0<n2)=true:=dt_ (by omega)
   rw [d2]
   clear d2
   go_enter Try.func97,Try.ntmps97
   go_wp2
   go_ret
   exact ⟨rfl,HB.out⟩
  ·skip
   obtain rfl:n2=0:=by omega
   clear z2
   cases a0_1 with
   | false =>
    by_cases z5:(0:Int)<(n5:Int)
    ·skip
     have d5:decide (0<n5)=true:=dt_ (by omega)
     rw [d5]
     clear d5
     go_enter Try.func97,Try.ntmps97
     go_wp2
     go_ret
     exact ⟨rfl,HB.out⟩
    ·skip
     obtain rfl:n5=0:=by omega
     clear z5
     cases a0_8 with
     | true =>
      go_enter Try.func97,Try.ntmps97
      go_wp2
      go_ret
      exact ⟨rfl,HB.out⟩
     | false =>
      cases u1 with
      | true =>
       go_enter Try.func97,Try.ntmps97
       go_wp2_with (first|(go_at_call 109;(with_reducible refine (Q1.out _ HB.out).mono ?_);rintro e w1 ⟨rfl,hb1⟩;have HB1:=A_ (HB.out.trans (hb1.mono HB.out.size));have m11:=pc_ hb1 (CS.out 1 _ rfl);have m12:=pc_ hb1 (CS.out 2 _ rfl);have m13:=pc_ hb1 (CS.out 3 _ rfl);have m14:=pc_ hb1 (CS.out 4 _ rfl);have m15:=pc_ hb1 (CS.out 5 _ rfl);clear hb1)|(go_at_call 109;(with_reducible refine (Q2.out _ HB1.out).mono ?_);rintro e w2 ⟨rfl,hb2⟩;have HB2:=A_ (HB1.out.trans (hb2.mono HB1.out.size));have m21:=pc_ hb2 (m11);have m22:=pc_ hb2 (m12);have m23:=pc_ hb2 (m13);have m24:=pc_ hb2 (m14);have m25:=pc_ hb2 (m15);clear hb2)|(go_at_call 95;(with_reducible refine (Q3.out _ HB2.out).mono ?_);rintro e w3 ⟨rfl,hb3⟩;have HB3:=A_ (HB2.out.trans (hb3.mono HB2.out.size));have m31:=pc_ hb3 (m21);have m32:=pc_ hb3 (m22);have m33:=pc_ hb3 (m23);have m34:=pc_ hb3 (m24);have m35:=pc_ hb3 (m25);clear hb3)|(go_at_call 107;have q4:=Q4.out _ HB2.out m25;(with_reducible refine q4.mono ?_);clear q4;rintro e w4 ⟨rfl,hb4⟩;have HB4:=A_ (HB2.out.trans (hb4.mono HB2.out.size));clear hb4))
       go_ret
       exact ⟨rfl,HB1.out⟩
      | false =>
       cases u2 with
       | true =>
        go_enter Try.func97,Try.ntmps97
        go_wp2_with (first|(go_at_call 109;(with_reducible refine (Q1.out _ HB.out).mono ?_);rintro e w1 ⟨rfl,hb1⟩;have HB1:=A_ (HB.out.trans (hb1.mono HB.out.size));have m11:=pc_ hb1 (CS.out 1 _ rfl);have m12:=pc_ hb1 (CS.out 2 _ rfl);have m13:=pc_ hb1 (CS.out 3 _ rfl);have m14:=pc_ hb1 (CS.out 4 _ rfl);have m15:=pc_ hb1 (CS.out 5 _ rfl);clear hb1)|(go_at_call 109;(with_reducible refine (Q2.out _ HB1.out).mono ?_);rintro e w2 ⟨rfl,hb2⟩;have HB2:=A_ (HB1.out.trans (hb2.mono HB1.out.size));have m21:=pc_ hb2 (m11);have m22:=pc_ hb2 (m12);have m23:=pc_ hb2 (m13);have m24:=pc_ hb2 (m14);have m25:=pc_ hb2 (m15);clear hb2)|(go_at_call 95;(with_reducible refine (Q3.out _ HB2.out).mono ?_);rintro e w3 ⟨rfl,hb3⟩;have HB3:=A_ (HB2.out.trans (hb3.mono HB2.out.size));have m31:=pc_ hb3 (m21);have m32:=pc_ hb3 (m22);have m33:=pc_ hb3 (m23);have m34:=pc_ hb3 (m24);have m35:=pc_ hb3 (m25);clear hb3)|(go_at_call 107;have q4:=Q4.out _ HB2.out m25;(with_reducible refine q4.mono ?_);clear q4;rintro e w4 ⟨rfl,hb4⟩;have HB4:=A_ (HB2.out.trans (hb4.mono HB2.out.size));clear hb4))
        go_ret
        exact ⟨rfl,HB2.out⟩
       | false =>
        cases u3 with
        | true =>
         go_enter Try.func97,Try.ntmps97
         go_wp2_with (first|(go_at_call 109;(with_reducible refine (Q1.out _ HB.out).mono ?_);rintro e w1 ⟨rfl,hb1⟩;have HB1:=A_ (HB.out.trans (hb1.mono HB.out.size));have m11:=pc_ hb1 (CS.out 1 _ rfl);have m12:=pc_ hb1 (CS.out 2 _ rfl);have m13:=pc_ hb1 (CS.out 3 _ rfl);have m14:=pc_ hb1 (CS.out 4 _ rfl);have m15:=pc_ hb1 (CS.out 5 _ rfl);clear hb1)|(go_at_call 109;(with_reducible refine (Q2.out _ HB1.out).mono ?_);rintro e w2 ⟨rfl,hb2⟩;have HB2:=A_ (HB1.out.trans (hb2.mono HB1.out.size));have m21:=pc_ hb2 (m11);have m22:=pc_ hb2 (m12);have m23:=pc_ hb2 (m13);have m24:=pc_ hb2 (m14);have m25:=pc_ hb2 (m15);clear hb2)|(go_at_call 95;(with_reducible refine (Q3.out _ HB2.out).mono ?_);rintro e w3 ⟨rfl,hb3⟩;have HB3:=A_ (HB2.out.trans (hb3.mono HB2.out.size));have m31:=pc_ hb3 (m21);have m32:=pc_ hb3 (m22);have m33:=pc_ hb3 (m23);have m34:=pc_ hb3 (m24);have m35:=pc_ hb3 (m25);clear hb3)|(go_at_call 107;have q4:=Q4.out _ HB2.out m25;(with_reducible refine q4.mono ?_);clear q4;rintro e w4 ⟨rfl,hb4⟩;have HB4:=A_ (HB2.out.trans (hb4.mono HB2.out.size));clear hb4))
         go_ret
         exact ⟨rfl,HB3.out⟩
        | false =>
         go_enter Try.func97,Try.ntmps97
         go_wp2_with (first|(go_at_call 109;(with_reducible refine (Q1.out _ HB.out).mono ?_);rintro e w1 ⟨rfl,hb1⟩;have HB1:=A_ (HB.out.trans (hb1.mono HB.out.size));have m11:=pc_ hb1 (CS.out 1 _ rfl);have m12:=pc_ hb1 (CS.out 2 _ rfl);have m13:=pc_ hb1 (CS.out 3 _ rfl);have m14:=pc_ hb1 (CS.out 4 _ rfl);have m15:=pc_ hb1 (CS.out 5 _ rfl);clear hb1)|(go_at_call 109;(with_reducible refine (Q2.out _ HB1.out).mono ?_);rintro e w2 ⟨rfl,hb2⟩;have HB2:=A_ (HB1.out.trans (hb2.mono HB1.out.size));have m21:=pc_ hb2 (m11);have m22:=pc_ hb2 (m12);have m23:=pc_ hb2 (m13);have m24:=pc_ hb2 (m14);have m25:=pc_ hb2 (m15);clear hb2)|(go_at_call 95;(with_reducible refine (Q3.out _ HB2.out).mono ?_);rintro e w3 ⟨rfl,hb3⟩;have HB3:=A_ (HB2.out.trans (hb3.mono HB2.out.size));have m31:=pc_ hb3 (m21);have m32:=pc_ hb3 (m22);have m33:=pc_ hb3 (m23);have m34:=pc_ hb3 (m24);have m35:=pc_ hb3 (m25);clear hb3)|(go_at_call 107;have q4:=Q4.out _ HB3.out m35;(with_reducible refine q4.mono ?_);clear q4;rintro e w4 ⟨rfl,hb4⟩;have HB4:=A_ (HB3.out.trans (hb4.mono HB3.out.size));clear hb4))
         go_ret
         exact ⟨rfl,HB4.out⟩
   | true =>
    by_cases z6:(0:Int)<(n6:Int)
    ·skip
     have d6:decide (0<n6)=true:=dt_ (by omega)
     rw [d6]
     clear d6
     go_enter Try.func97,Try.ntmps97
     go_wp2
     go_ret
     exact ⟨rfl,HB.out⟩
    ·skip
     obtain rfl:n6=0:=by omega
     clear z6
     cases u1 with
     | true =>
      go_enter Try.func97,Try.ntmps97
      go_wp2_with (first|(go_at_call 109;(with_reducible refine (Q1.out _ HB.out).mono ?_);rintro e w1 ⟨rfl,hb1⟩;have HB1:=A_ (HB.out.trans (hb1.mono HB.out.size));have m11:=pc_ hb1 (CS.out 1 _ rfl);have m12:=pc_ hb1 (CS.out 2 _ rfl);have m13:=pc_ hb1 (CS.out 3 _ rfl);have m14:=pc_ hb1 (CS.out 4 _ rfl);have m15:=pc_ hb1 (CS.out 5 _ rfl);clear hb1)|(go_at_call 109;(with_reducible refine (Q2.out _ HB1.out).mono ?_);rintro e w2 ⟨rfl,hb2⟩;have HB2:=A_ (HB1.out.trans (hb2.mono HB1.out.size));have m21:=pc_ hb2 (m11);have m22:=pc_ hb2 (m12);have m23:=pc_ hb2 (m13);have m24:=pc_ hb2 (m14);have m25:=pc_ hb2 (m15);clear hb2)|(go_at_call 95;(with_reducible refine (Q3.out _ HB2.out).mono ?_);rintro e w3 ⟨rfl,hb3⟩;have HB3:=A_ (HB2.out.trans (hb3.mono HB2.out.size));have m31:=pc_ hb3 (m21);have m32:=pc_ hb3 (m22);have m33:=pc_ hb3 (m23);have m34:=pc_ hb3 (m24);have m35:=pc_ hb3 (m25);clear hb3)|(go_at_call 107;have q4:=Q4.out _ HB2.out m25;(with_reducible refine q4.mono ?_);clear q4;rintro e w4 ⟨rfl,hb4⟩;have HB4:=A_ (HB2.out.trans (hb4.mono HB2.out.size));clear hb4))
      go_ret
      exact ⟨rfl,HB1.out⟩
     | false =>
      cases u2 with
      | true =>
       go_enter Try.func97,Try.ntmps97
       go_wp2_with (first|(go_at_call 109;(with_reducible refine (Q1.out _ HB.out).mono ?_);rintro e w1 ⟨rfl,hb1⟩;have HB1:=A_ (HB.out.trans (hb1.mono HB.out.size));have m11:=pc_ hb1 (CS.out 1 _ rfl);have m12:=pc_ hb1 (CS.out 2 _ rfl);have m13:=pc_ hb1 (CS.out 3 _ rfl);have m14:=pc_ hb1 (CS.out 4 _ rfl);have m15:=pc_ hb1 (CS.out 5 _ rfl);clear hb1)|(go_at_call 109;(with_reducible refine (Q2.out _ HB1.out).mono ?_);rintro e w2 ⟨rfl,hb2⟩;have HB2:=A_ (HB1.out.trans (hb2.mono HB1.out.size));have m21:=pc_ hb2 (m11);have m22:=pc_ hb2 (m12);have m23:=pc_ hb2 (m13);have m24:=pc_ hb2 (m14);have m25:=pc_ hb2 (m15);clear hb2)|(go_at_call 95;(with_reducible refine (Q3.out _ HB2.out).mono ?_);rintro e w3 ⟨rfl,hb3⟩;have HB3:=A_ (HB2.out.trans (hb3.mono HB2.out.size));have m31:=pc_ hb3 (m21);have m32:=pc_ hb3 (m22);have m33:=pc_ hb3 (m23);have m34:=pc_ hb3 (m24);have m35:=pc_ hb3 (m25);clear hb3)|(go_at_call 107;have q4:=Q4.out _ HB2.out m25;(with_reducible refine q4.mono ?_);clear q4;rintro e w4 ⟨rfl,hb4⟩;have HB4:=A_ (HB2.out.trans (hb4.mono HB2.out.size));clear hb4))
       go_ret
       exact ⟨rfl,HB2.out⟩
      | false =>
       go_enter Try.func97,Try.ntmps97
       go_wp2_with (first|(go_at_call 109;(with_reducible refine (Q1.out _ HB.out).mono ?_);rintro e w1 ⟨rfl,hb1⟩;have HB1:=A_ (HB.out.trans (hb1.mono HB.out.size));have m11:=pc_ hb1 (CS.out 1 _ rfl);have m12:=pc_ hb1 (CS.out 2 _ rfl);have m13:=pc_ hb1 (CS.out 3 _ rfl);have m14:=pc_ hb1 (CS.out 4 _ rfl);have m15:=pc_ hb1 (CS.out 5 _ rfl);clear hb1)|(go_at_call 109;(with_reducible refine (Q2.out _ HB1.out).mono ?_);rintro e w2 ⟨rfl,hb2⟩;have HB2:=A_ (HB1.out.trans (hb2.mono HB1.out.size));have m21:=pc_ hb2 (m11);have m22:=pc_ hb2 (m12);have m23:=pc_ hb2 (m13);have m24:=pc_ hb2 (m14);have m25:=pc_ hb2 (m15);clear hb2)|(go_at_call 95;(with_reducible refine (Q3.out _ HB2.out).mono ?_);rintro e w3 ⟨rfl,hb3⟩;have HB3:=A_ (HB2.out.trans (hb3.mono HB2.out.size));have m31:=pc_ hb3 (m21);have m32:=pc_ hb3 (m22);have m33:=pc_ hb3 (m23);have m34:=pc_ hb3 (m24);have m35:=pc_ hb3 (m25);clear hb3)|(go_at_call 107;have q4:=Q4.out _ HB2.out m25;(with_reducible refine q4.mono ?_);clear q4;rintro e w4 ⟨rfl,hb4⟩;have HB4:=A_ (HB2.out.trans (hb4.mono HB2.out.size));clear hb4))
       go_ret
       exact ⟨rfl,HB4.out⟩
 | true =>
  by_cases z3:(0:Int)<(n3:Int)
  ·skip
   have d3:decide (0<n3)=true:=dt_ (by omega)
   rw [d3]
   clear d3
   go_enter Try.func97,Try.ntmps97
   go_wp2
   go_ret
   exact ⟨rfl,HB.out⟩
  ·skip
   obtain rfl:n3=0:=by omega
   clear z3
   cases a0_1 with
   | false =>
    by_cases z5:(0:Int)<(n5:Int)
    ·skip
     have d5:decide (0<n5)=true:=dt_ (by omega)
     rw [d5]
     clear d5
     go_enter Try.func97,Try.ntmps97
     go_wp2
     go_ret
     exact ⟨rfl,HB.out⟩
    ·skip
     obtain rfl:n5=0:=by omega
     clear z5
     cases a0_8 with
     | true =>
      go_enter Try.func97,Try.ntmps97
      go_wp2
      go_ret
      exact ⟨rfl,HB.out⟩
     | false =>
      cases u1 with
      | true =>
       go_enter Try.func97,Try.ntmps97
       go_wp2_with (first|(go_at_call 109;(with_reducible refine (Q1.out _ HB.out).mono ?_);rintro e w1 ⟨rfl,hb1⟩;have HB1:=A_ (HB.out.trans (hb1.mono HB.out.size));have m11:=pc_ hb1 (CS.out 1 _ rfl);have m12:=pc_ hb1 (CS.out 2 _ rfl);have m13:=pc_ hb1 (CS.out 3 _ rfl);have m14:=pc_ hb1 (CS.out 4 _ rfl);have m15:=pc_ hb1 (CS.out 5 _ rfl);clear hb1)|(go_at_call 109;(with_reducible refine (Q2.out _ HB1.out).mono ?_);rintro e w2 ⟨rfl,hb2⟩;have HB2:=A_ (HB1.out.trans (hb2.mono HB1.out.size));have m21:=pc_ hb2 (m11);have m22:=pc_ hb2 (m12);have m23:=pc_ hb2 (m13);have m24:=pc_ hb2 (m14);have m25:=pc_ hb2 (m15);clear hb2)|(go_at_call 95;(with_reducible refine (Q3.out _ HB2.out).mono ?_);rintro e w3 ⟨rfl,hb3⟩;have HB3:=A_ (HB2.out.trans (hb3.mono HB2.out.size));have m31:=pc_ hb3 (m21);have m32:=pc_ hb3 (m22);have m33:=pc_ hb3 (m23);have m34:=pc_ hb3 (m24);have m35:=pc_ hb3 (m25);clear hb3)|(go_at_call 107;have q4:=Q4.out _ HB2.out m25;(with_reducible refine q4.mono ?_);clear q4;rintro e w4 ⟨rfl,hb4⟩;have HB4:=A_ (HB2.out.trans (hb4.mono HB2.out.size));clear hb4))
       go_ret
       exact ⟨rfl,HB1.out⟩
      | false =>
       cases u2 with
       | true =>
        go_enter Try.func97,Try.ntmps97
        go_wp2_with (first|(go_at_call 109;(with_reducible refine (Q1.out _ HB.out).mono ?_);rintro e w1 ⟨rfl,hb1⟩;have HB1:=A_ (HB.out.trans (hb1.mono HB.out.size));have m11:=pc_ hb1 (CS.out 1 _ rfl);have m12:=pc_ hb1 (CS.out 2 _ rfl);have m13:=pc_ hb1 (CS.out 3 _ rfl);have m14:=pc_ hb1 (CS.out 4 _ rfl);have m15:=pc_ hb1 (CS.out 5 _ rfl);clear hb1)|(go_at_call 109;(with_reducible refine (Q2.out _ HB1.out).mono ?_);rintro e w2 ⟨rfl,hb2⟩;have HB2:=A_ (HB1.out.trans (hb2.mono HB1.out.size));have m21:=pc_ hb2 (m11);have m22:=pc_ hb2 (m12);have m23:=pc_ hb2 (m13);have m24:=pc_ hb2 (m14);have m25:=pc_ hb2 (m15);clear hb2)|(go_at_call 95;(with_reducible refine (Q3.out _ HB2.out).mono ?_);rintro e w3 ⟨rfl,hb3⟩;have HB3:=A_ (HB2.out.trans (hb3.mono HB2.out.size));have m31:=pc_ hb3 (m21);have m32:=pc_ hb3 (m22);have m33:=pc_ hb3 (m23);have m34:=pc_ hb3 (m24);have m35:=pc_ hb3 (m25);clear hb3)|(go_at_call 107;have q4:=Q4.out _ HB2.out m25;(with_reducible refine q4.mono ?_);clear q4;rintro e w4 ⟨rfl,hb4⟩;have HB4:=A_ (HB2.out.trans (hb4.mono HB2.out.size));clear hb4))
        go_ret
        exact ⟨rfl,HB2.out⟩
       | false =>
        cases u3 with
        | true =>
         go_enter Try.func97,Try.ntmps97
         go_wp2_with (first|(go_at_call 109;(with_reducible refine (Q1.out _ HB.out).mono ?_);rintro e w1 ⟨rfl,hb1⟩;have HB1:=A_ (HB.out.trans (hb1.mono HB.out.size));have m11:=pc_ hb1 (CS.out 1 _ rfl);have m12:=pc_ hb1 (CS.out 2 _ rfl);have m13:=pc_ hb1 (CS.out 3 _ rfl);have m14:=pc_ hb1 (CS.out 4 _ rfl);have m15:=pc_ hb1 (CS.out 5 _ rfl);clear hb1)|(go_at_call 109;(with_reducible refine (Q2.out _ HB1.out).mono ?_);rintro e w2 ⟨rfl,hb2⟩;have HB2:=A_ (HB1.out.trans (hb2.mono HB1.out.size));have m21:=pc_ hb2 (m11);have m22:=pc_ hb2 (m12);have m23:=pc_ hb2 (m13);have m24:=pc_ hb2 (m14);have m25:=pc_ hb2 (m15);clear hb2)|(go_at_call 95;(with_reducible refine (Q3.out _ HB2.out).mono ?_);rintro e w3 ⟨rfl,hb3⟩;have HB3:=A_ (HB2.out.trans (hb3.mono HB2.out.size));have m31:=pc_ hb3 (m21);have m32:=pc_ hb3 (m22);have m33:=pc_ hb3 (m23);have m34:=pc_ hb3 (m24);have m35:=pc_ hb3 (m25);clear hb3)|(go_at_call 107;have q4:=Q4.out _ HB2.out m25;(with_reducible refine q4.mono ?_);clear q4;rintro e w4 ⟨rfl,hb4⟩;have HB4:=A_ (HB2.out.trans (hb4.mono HB2.out.size));clear hb4))
         go_ret
         exact ⟨rfl,HB3.out⟩
        | false =>
         go_enter Try.func97,Try.ntmps97
         go_wp2_with (first|(go_at_call 109;(with_reducible refine (Q1.out _ HB.out).mono ?_);rintro e w1 ⟨rfl,hb1⟩;have HB1:=A_ (HB.out.trans (hb1.mono HB.out.size));have m11:=pc_ hb1 (CS.out 1 _ rfl);have m12:=pc_ hb1 (CS.out 2 _ rfl);have m13:=pc_ hb1 (CS.out 3 _ rfl);have m14:=pc_ hb1 (CS.out 4 _ rfl);have m15:=pc_ hb1 (CS.out 5 _ rfl);clear hb1)|(go_at_call 109;(with_reducible refine (Q2.out _ HB1.out).mono ?_);rintro e w2 ⟨rfl,hb2⟩;have HB2:=A_ (HB1.out.trans (hb2.mono HB1.out.size));have m21:=pc_ hb2 (m11);have m22:=pc_ hb2 (m12);have m23:=pc_ hb2 (m13);have m24:=pc_ hb2 (m14);have m25:=pc_ hb2 (m15);clear hb2)|(go_at_call 95;(with_reducible refine (Q3.out _ HB2.out).mono ?_);rintro e w3 ⟨rfl,hb3⟩;have HB3:=A_ (HB2.out.trans (hb3.mono HB2.out.size));have m31:=pc_ hb3 (m21);have m32:=pc_ hb3 (m22);have m33:=pc_ hb3 (m23);have m34:=pc_ hb3 (m24);have m35:=pc_ hb3 (m25);clear hb3)|(go_at_call 107;have q4:=Q4.out _ HB3.out m35;(with_reducible refine q4.mono ?_);clear q4;rintro e w4 ⟨rfl,hb4⟩;have HB4:=A_ (HB3.out.trans (hb4.mono HB3.out.size));clear hb4))
         go_ret
         exact ⟨rfl,HB4.out⟩
   | true =>
    by_cases z6:(0:Int)<(n6:Int)
    ·skip
     have d6:decide (0<n6)=true:=dt_ (by omega)
     rw [d6]
     clear d6
     go_enter Try.func97,Try.ntmps97
     go_wp2
     go_ret
     exact ⟨rfl,HB.out⟩
    ·skip
     obtain rfl:n6=0:=by omega
     clear z6
     cases u1 with
     | true =>
      go_enter Try.func97,Try.ntmps97
      go_wp2_with (first|(go_at_call 109;(with_reducible refine (Q1.out _ HB.out).mono ?_);rintro e w1 ⟨rfl,hb1⟩;have HB1:=A_ (HB.out.trans (hb1.mono HB.out.size));have m11:=pc_ hb1 (CS.out 1 _ rfl);have m12:=pc_ hb1 (CS.out 2 _ rfl);have m13:=pc_ hb1 (CS.out 3 _ rfl);have m14:=pc_ hb1 (CS.out 4 _ rfl);have m15:=pc_ hb1 (CS.out 5 _ rfl);clear hb1)|(go_at_call 109;(with_reducible refine (Q2.out _ HB1.out).mono ?_);rintro e w2 ⟨rfl,hb2⟩;have HB2:=A_ (HB1.out.trans (hb2.mono HB1.out.size));have m21:=pc_ hb2 (m11);have m22:=pc_ hb2 (m12);have m23:=pc_ hb2 (m13);have m24:=pc_ hb2 (m14);have m25:=pc_ hb2 (m15);clear hb2)|(go_at_call 95;(with_reducible refine (Q3.out _ HB2.out).mono ?_);rintro e w3 ⟨rfl,hb3⟩;have HB3:=A_ (HB2.out.trans (hb3.mono HB2.out.size));have m31:=pc_ hb3 (m21);have m32:=pc_ hb3 (m22);have m33:=pc_ hb3 (m23);have m34:=pc_ hb3 (m24);have m35:=pc_ hb3 (m25);clear hb3)|(go_at_call 107;have q4:=Q4.out _ HB2.out m25;(with_reducible refine q4.mono ?_);clear q4;rintro e w4 ⟨rfl,hb4⟩;have HB4:=A_ (HB2.out.trans (hb4.mono HB2.out.size));clear hb4))
      go_ret
      exact ⟨rfl,HB1.out⟩
     | false =>
      cases u2 with
      | true =>
       go_enter Try.func97,Try.ntmps97
       go_wp2_with (first|(go_at_call 109;(with_reducible refine (Q1.out _ HB.out).mono ?_);rintro e w1 ⟨rfl,hb1⟩;have HB1:=A_ (HB.out.trans (hb1.mono HB.out.size));have m11:=pc_ hb1 (CS.out 1 _ rfl);have m12:=pc_ hb1 (CS.out 2 _ rfl);have m13:=pc_ hb1 (CS.out 3 _ rfl);have m14:=pc_ hb1 (CS.out 4 _ rfl);have m15:=pc_ hb1 (CS.out 5 _ rfl);clear hb1)|(go_at_call 109;(with_reducible refine (Q2.out _ HB1.out).mono ?_);rintro e w2 ⟨rfl,hb2⟩;have HB2:=A_ (HB1.out.trans (hb2.mono HB1.out.size));have m21:=pc_ hb2 (m11);have m22:=pc_ hb2 (m12);have m23:=pc_ hb2 (m13);have m24:=pc_ hb2 (m14);have m25:=pc_ hb2 (m15);clear hb2)|(go_at_call 95;(with_reducible refine (Q3.out _ HB2.out).mono ?_);rintro e w3 ⟨rfl,hb3⟩;have HB3:=A_ (HB2.out.trans (hb3.mono HB2.out.size));have m31:=pc_ hb3 (m21);have m32:=pc_ hb3 (m22);have m33:=pc_ hb3 (m23);have m34:=pc_ hb3 (m24);have m35:=pc_ hb3 (m25);clear hb3)|(go_at_call 107;have q4:=Q4.out _ HB2.out m25;(with_reducible refine q4.mono ?_);clear q4;rintro e w4 ⟨rfl,hb4⟩;have HB4:=A_ (HB2.out.trans (hb4.mono HB2.out.size));clear hb4))
       go_ret
       exact ⟨rfl,HB2.out⟩
      | false =>
       go_enter Try.func97,Try.ntmps97
       go_wp2_with (first|(go_at_call 109;(with_reducible refine (Q1.out _ HB.out).mono ?_);rintro e w1 ⟨rfl,hb1⟩;have HB1:=A_ (HB.out.trans (hb1.mono HB.out.size));have m11:=pc_ hb1 (CS.out 1 _ rfl);have m12:=pc_ hb1 (CS.out 2 _ rfl);have m13:=pc_ hb1 (CS.out 3 _ rfl);have m14:=pc_ hb1 (CS.out 4 _ rfl);have m15:=pc_ hb1 (CS.out 5 _ rfl);clear hb1)|(go_at_call 109;(with_reducible refine (Q2.out _ HB1.out).mono ?_);rintro e w2 ⟨rfl,hb2⟩;have HB2:=A_ (HB1.out.trans (hb2.mono HB1.out.size));have m21:=pc_ hb2 (m11);have m22:=pc_ hb2 (m12);have m23:=pc_ hb2 (m13);have m24:=pc_ hb2 (m14);have m25:=pc_ hb2 (m15);clear hb2)|(go_at_call 95;(with_reducible refine (Q3.out _ HB2.out).mono ?_);rintro e w3 ⟨rfl,hb3⟩;have HB3:=A_ (HB2.out.trans (hb3.mono HB2.out.size));have m31:=pc_ hb3 (m21);have m32:=pc_ hb3 (m22);have m33:=pc_ hb3 (m23);have m34:=pc_ hb3 (m24);have m35:=pc_ hb3 (m25);clear hb3)|(go_at_call 107;have q4:=Q4.out _ HB2.out m25;(with_reducible refine q4.mono ?_);clear q4;rintro e w4 ⟨rfl,hb4⟩;have HB4:=A_ (HB2.out.trans (hb4.mono HB2.out.size));clear hb4))
       go_ret
       exact ⟨rfl,HB4.out⟩
end Go.Proofs.Ytmeafbneklphnaa.PFnExactAllowsAttr
