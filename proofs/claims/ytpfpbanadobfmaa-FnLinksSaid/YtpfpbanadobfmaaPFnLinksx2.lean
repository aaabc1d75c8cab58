/- By a program of this session, out of the kit's print and contracts made by hand: the machine side of a law; Lean checks it. No conditions. -/
import Derived.Test.YtpfpbanadobfmaaPFnLinksx0
namespace Go.Proofs.Ytpfpbanadobfmaa.PFnLinks
open Go.RowKit Go.Proofs.YtpfpbanadobfmaaW.PrintWords Go.Proofs.YtpfpbanadobfmaaW.PrintLast Go.Proofs.YtpfpbanadobfmaaW.PrintMore
attribute [local go_sem] max2_int min2_int max_two min_two max_three min_three max_four min_four
set_option linter.unusedVariables false
set_option linter.unusedSimpArgs false
/-! ### laws_at: function 5 -/
def laws_at.f (l0:List Int) (a1:Int) (a2:Int):Option (Int):=if a2≤1 then (some 0) else (if (l0.length:Int)=0 then (if a2=0 then (none) else (some (Int.tmod (wrap64 (a1 * 7)) a2))) else (if 0≤(Int.tmod a1 (l0.length:Int)) then (if (Int.tmod a1 (l0.length:Int))<(l0.length:Int) then (if 0≤(Int.tmod (wrap64 (a1+1)) (l0.length:Int)) then (if (Int.tmod (wrap64 (a1+1)) (l0.length:Int))<(l0.length:Int) then (if a2=0 then (none) else (some (Int.tmod (wrap64 ((wrap64 ((wrap64 ((wrap64 (rd l0 (Int.tmod a1 (l0.length:Int)))) * 31))+(wrap64 (rd l0 (Int.tmod (wrap64 (a1+1)) (l0.length:Int))))))+(wrap64 (Int.tdiv a1 (l0.length:Int))))) a2))) else (none)) else (none)) else (none)) else (none)))
set_option maxHeartbeats 8000000 in
set_option maxRecDepth 100000 in
theorem laws_at.calls (A0:Option Addr) (c0:Nat) (l0:List Int) (a1:Int) (a2:Int) (r:Int) (w:World) (hr0:Kd.C (Kd.int .u8) w A0 l0.length l0) (hc0:l0.length≤c0) (h:laws_at.f l0 a1 a2=some r) :
 Calls Try.prog 5 #[.slice A0 l0.length c0,.int .i64 a1,.int .i64 a2] w fun e w'=>e=.returned (.int .i64 r)∧Drawn0 w w':=by
 have HR0:=A_ hr0
 have HC0:=A_ hc0
 clear hr0 hc0
 have H:(if a2≤1 then (some 0) else (if (l0.length:Int)=0 then (if a2=0 then (none) else (some (Int.tmod (wrap64 (a1 * 7)) a2))) else (if 0≤(Int.tmod a1 (l0.length:Int)) then (if (Int.tmod a1 (l0.length:Int))<(l0.length:Int) then (if 0≤(Int.tmod (wrap64 (a1+1)) (l0.length:Int)) then (if (Int.tmod (wrap64 (a1+1)) (l0.length:Int))<(l0.length:Int) then (if a2=0 then (none) else (some (Int.tmod (wrap64 ((wrap64 ((wrap64 ((wrap64 (rd l0 (Int.tmod a1 (l0.length:Int)))) * 31))+(wrap64 (rd l0 (Int.tmod (wrap64 (a1+1)) (l0.length:Int))))))+(wrap64 (Int.tdiv a1 (l0.length:Int))))) a2))) else (none)) else (none)) else (none)) else (none))))=some r:=h
 clear h
 by_cases c4:a2≤1
 ·rw [if_pos c4] at H
  have c4b0:decide (a2≤1)=true:=dt_ c4
  clear c4
  obtain rfl:=oi_ H
  go_enter Try.func5,Try.ntmps5
  go_wp2
  repeat (go_quiet (fail);try go_wp2)
  go_ret
  exact ⟨by first|rfl|(simp;done)|(simp [*];done),by repeat (first|exact dr_ _|apply dp_)⟩
 ·rw [if_neg c4] at H
  have c4b0:decide (a2≤1)=false:=df_ c4
  clear c4
  by_cases c5:(l0.length:Int)=0
  ·rw [if_pos c5] at H
   have c5b0:((l0.length:Int) == 0)=true:=beq_iff_eq.mpr c5
   have c5b1:((l0.length:Int) != 0)=false:=bne_eq_false_iff_eq.mpr c5
   clear c5
   by_cases c6:a2=0
   ·rw [if_pos c6] at H
    exact absurd H (by simp)
   ·rw [if_neg c6] at H
    have c6b0:(a2 == 0)=false:=beq_eq_false_iff_ne.mpr c6
    have c6b1:(a2 != 0)=true:=bne_iff_ne.mpr c6
    obtain rfl:=oi_ H
    go_enter Try.func5,Try.ntmps5
    go_wp2
    repeat (go_quiet (fail);try go_wp2)
    go_ret
    exact ⟨by first|rfl|(simp;done)|(simp [*];done),by repeat (first|exact dr_ _|apply dp_)⟩
  ·rw [if_neg c5] at H
   have c5b0:((l0.length:Int) == 0)=false:=beq_eq_false_iff_ne.mpr c5
   have c5b1:((l0.length:Int) != 0)=true:=bne_iff_ne.mpr c5
   have c5b2:¬ (l0=[]):=fun h_=>c5 (by rw [h_];rfl)
   obtain ⟨ji7,hji7⟩:∃ j_:Int,(Int.tmod a1 (l0.length:Int))=j_:=⟨_,rfl⟩
   replace H:(if 0≤(ji7) then (if (ji7)<(l0.length:Int) then (if 0≤(Int.tmod (wrap64 (a1+1)) (l0.length:Int)) then (if (Int.tmod (wrap64 (a1+1)) (l0.length:Int))<(l0.length:Int) then (if a2=0 then (none) else (some (Int.tmod (wrap64 ((wrap64 ((wrap64 ((wrap64 (rd l0 (ji7))) * 31))+(wrap64 (rd l0 (Int.tmod (wrap64 (a1+1)) (l0.length:Int))))))+(wrap64 (Int.tdiv a1 (l0.length:Int))))) a2))) else (none)) else (none)) else (none)) else (none))=some r:=by first|(rw [hji7] at H;exact H)|(simp only [hji7] at H ⊢;exact H)
   by_cases c8:0≤(ji7)
   ·rw [if_pos c8] at H
    have c8b0:decide (0≤(ji7))=true:=dt_ c8
    clear c8
    by_cases c9:(ji7)<(l0.length:Int)
    ·rw [if_pos c9] at H
     have c9b0:decide ((ji7)<(l0.length:Int))=true:=dt_ c9
     clear c9
     obtain ⟨ji10,hji10⟩:∃ j_:Int,(Int.tmod (wrap64 (a1+1)) (l0.length:Int))=j_:=⟨_,rfl⟩
     replace H:(if 0≤(ji10) then (if (ji10)<(l0.length:Int) then (if a2=0 then (none) else (some (Int.tmod (wrap64 ((wrap64 ((wrap64 ((wrap64 (rd l0 (ji7))) * 31))+(wrap64 (rd l0 (ji10)))))+(wrap64 (Int.tdiv a1 (l0.length:Int))))) a2))) else (none)) else (none))=some r:=by first|(rw [hji10] at H;exact H)|(simp only [hji10] at H ⊢;exact H)
     by_cases c11:0≤(ji10)
     ·rw [if_pos c11] at H
      have c11b0:decide (0≤(ji10))=true:=dt_ c11
      clear c11
      by_cases c12:(ji10)<(l0.length:Int)
      ·rw [if_pos c12] at H
       have c12b0:decide ((ji10)<(l0.length:Int))=true:=dt_ c12
       clear c12
       by_cases c13:a2=0
       ·rw [if_pos c13] at H
        exact absurd H (by simp)
       ·rw [if_neg c13] at H
        have c13b0:(a2 == 0)=false:=beq_eq_false_iff_ne.mpr c13
        have c13b1:(a2 != 0)=true:=bne_iff_ne.mpr c13
        obtain rfl:=oi_ H
        have p131:0≤((ji7):Int):=od_ (by first|(with_reducible assumption)|assumption)
        have q131:(ji7)<(l0.length:Int):=od_ (by first|(with_reducible assumption)|assumption)
        obtain ⟨ad131,e131,hx131_0⟩:=Kd.at_int HR0.out (ji7) p131 q131
        cases e131
        replace p131:=eq_true p131
        replace q131:=eq_true q131
        have p132:0≤((ji10):Int):=od_ (by first|(with_reducible assumption)|assumption)
        have q132:(ji10)<(l0.length:Int):=od_ (by first|(with_reducible assumption)|assumption)
        obtain ⟨ad132,e132,hx132_0⟩:=Kd.at_int HR0.out (ji10) p132 q132
        obtain rfl:ad131=ad132:=(by injection e132)
        replace p132:=eq_true p132
        replace q132:=eq_true q132
        go_enter Try.func5,Try.ntmps5
        go_wp2
        repeat (go_quiet (fail);try go_wp2)
        go_ret
        exact ⟨by first|rfl|(simp;done)|(simp only [←hji7,←hji10] <;> (first|rfl|simp))|(simp [*];done),by repeat (first|exact dr_ _|apply dp_)⟩
      ·rw [if_neg c12] at H
       exact absurd H (by simp)
     ·rw [if_neg c11] at H
      exact absurd H (by simp)
    ·rw [if_neg c9] at H
     exact absurd H (by simp)
   ·rw [if_neg c8] at H
    exact absurd H (by simp)
/-! ### IndexFunc_string: function 19, by hand -/
set_option maxHeartbeats 1000000 in
/-- slices.IndexFunc at this type, whatever the predicate: the first place at which it holds. -/
theorem IndexFunc_string.holds (A:Option Addr) (n c:Nat) (v:Nat→Value) (p:Nat→Bool) (g:Nat) (lb:Array Value) (eg:∀ args w,(callFunc g args).run Try.prog w=.ok (.enter g args) w) (w:World)
 (hp:∀ j,j<n→∀ W,Below w.heap.size w W→Calls Try.prog g (#[v j]++lb) W fun e w'=>e=.returned (.bool (p j))∧Below w.heap.size w w')
 (hbig:n≤9223372036854775807) (hc:∀ j,j<n→∃ ad,A=some ad∧w.cell? (ad.add j)=some (v j)) :
 Calls Try.prog 19 #[.slice A n c,.func (.func g) #[] lb] w fun e w'=>e=.returned (.int .i64 (Mach.idxP p n))∧Below w.heap.size w w':=by
 have HC:=A_ hc
 have HP:=A_ hp
 clear hc hp
 go_enter Try.func19,Try.ntmps19
 go_wp2
 go_loopg [5,8] n (fun gg _ s8 wr=>∃ kk:Nat,kk≤n∧n - kk≤gg∧s8=.int .i64 kk∧Aside0 (Below w.heap.size w wr)∧Aside0 (∀ j,j<kk→p j=false))
 case atStart=>exact ⟨0,Nat.zero_le _,by omega,rfl,⟨Below.refl _ w⟩,⟨fun j hj=>absurd hj (Nat.not_lt_zero _)⟩⟩
 case round =>
  obtain ⟨kk,hkk,hg,rfl,BW,AA⟩:=hrel
  by_cases hlt:kk<n
  ·have hltz:(kk:Int)<(n:Int):=by omega
   obtain ⟨ad,e,l1⟩:=HC.out kk hlt
   cases e
   have l2:wr.cell? (ad.add kk)=some (v kk):=pw_cell_below BW.out l1
   clear l1
   have hcall:=HP.out kk hlt wr BW.out
   cases hq:p kk with
   | true =>
    rw [hq] at hcall
    go_wp2_with ((with_reducible refine hcall.mono ?_);rintro e w' ⟨rfl,hb'⟩)
    go_ret
    refine ⟨?_,hb'⟩
    rw [Mach.idxP_hit p n kk hlt hq AA.out]
    rfl
   | false =>
    rw [hq] at hcall
    go_wp2_with ((with_reducible refine hcall.mono ?_);rintro e w' ⟨rfl,hb'⟩)
    go_roundg (n - (kk+1))
    case measure=>omega
    case rel =>
     refine ⟨kk+1,by omega,by omega,by go_num,⟨hb'⟩,⟨fun j hj=>?_⟩⟩
     by_cases e:j=kk
     ·subst e;exact hq
     ·exact AA.out j (by omega)
  ·have hltz:¬ (kk:Int)<(n:Int):=by omega
   have:kk=n:=by omega
   subst this
   go_wp2
   go_ret
   refine ⟨?_,BW.out⟩
   rw [Mach.idxP_miss p kk AA.out]
   rfl
/-! ### ContainsFunc_string: function 15, by hand -/
/-- slices.ContainsFunc at this type, whatever the predicate. -/
theorem ContainsFunc_string.holds (A:Option Addr) (n c:Nat) (v:Nat→Value) (p:Nat→Bool) (g:Nat) (lb:Array Value) (eg:∀ args w,(callFunc g args).run Try.prog w=.ok (.enter g args) w) (w:World)
 (hp:∀ j,j<n→∀ W,Below w.heap.size w W→Calls Try.prog g (#[v j]++lb) W fun e w'=>e=.returned (.bool (p j))∧Below w.heap.size w w')
 (hbig:n≤9223372036854775807) (hc:∀ j,j<n→∃ ad,A=some ad∧w.cell? (ad.add j)=some (v j)) :
 Calls Try.prog 15 #[.slice A n c,.func (.func g) #[] lb] w fun e w'=>e=.returned (.bool (Mach.anyP p n))∧Below w.heap.size w w':=by
 rw [←Mach.idxP_any]
 have hcall:=IndexFunc_string.holds A n c v p g lb eg w hp hbig hc
 clear hc hp
 go_enter Try.func15,Try.ntmps15
 go_wp2_with (go_at_call 19;refine hcall.mono ?_;rintro e w' ⟨rfl,hb'⟩)
 go_ret
 exact ⟨rfl,hb'⟩
/-! ### impl_isLong: function 10, by hand -/
def impl_isLong.f (l0:List ByteArray):Option Bool:=if l0.length≤9223372036854775807 then some (l0.any fun t=>decide (65536<(t.size:Int))) else none
theorem impl_isLong.lit (t:ByteArray) (w:World):Calls Try.prog 16 #[.string t] w fun e w'=>e=.returned (.bool (decide (65536<(t.size:Int))))∧Below w.heap.size w w':=by
 go_enter Try.func16,Try.ntmps16
 go_wp2
 go_ret
 exact ⟨rfl,Below.refl _ _⟩
theorem impl_isLong.calls (A0:Option Addr) (c0:Nat) (l0:List ByteArray) (r:Bool) (w:World) (hr0:Kd.C Kd.string w A0 l0.length l0) (hc0:l0.length≤c0) (h:impl_isLong.f l0=some r) :
 Calls Try.prog 10 #[.slice A0 l0.length c0] w fun e w'=>e=.returned (.bool r)∧Below w.heap.size w w':=by
 unfold impl_isLong.f at h
 obtain ⟨hn,h⟩:=Option.ite_none_right_eq_some.mp h
 obtain rfl:=oi_ h
 have hcall:=ContainsFunc_string.holds A0 l0.length c0 (fun j=>.string (l0.getD j ByteArray.empty)) (fun j=>decide (65536<((l0.getD j ByteArray.empty).size:Int))) 16 #[] (Mach.enters_of Try.func16 (by kernel_rfl) rfl) w
  (fun j _ W hb=>(impl_isLong.lit _ W).mono fun e w' ⟨he,hb'⟩=>⟨he,hb.trans (hb'.mono hb.size)⟩) hn
  (fun j hj=>by
   obtain ⟨ad,e,hx⟩:=Kd.at_string hr0 (j:Int) (by omega) (by omega)
   exact ⟨ad,e,by simpa [rdOf] using hx⟩)
 rw [Mach.anyP_list (fun t:ByteArray=>decide (65536<(t.size:Int)))] at hcall
 clear hr0
 go_enter Try.func10,Try.ntmps10
 go_wp2_with (go_at_call 15;refine hcall.mono ?_;rintro e w' ⟨rfl,hb'⟩)
 go_ret
 exact ⟨rfl,hb'⟩
/-- One text, in the slice that its caller has just built. -/
theorem impl_isLong.one (a1:ByteArray) (W:World):Calls Try.prog 10 #[.slice (some ⟨W.heap.size,0,none⟩) 1 1] (W.alloc (.cells #[.string a1] 9)) fun e w'=>e=.returned (.bool (decide (65536<(a1.size:Int))))∧Below (W.alloc (.cells #[.string a1] 9)).heap.size (W.alloc (.cells #[.string a1] 9)) w' :=
 impl_isLong.calls (some ⟨W.heap.size,0,none⟩) 1 [a1] (decide (65536<(a1.size:Int))) (W.alloc (.cells #[.string a1] 9)) ⟨rfl,by simp,fun _=>⟨_,rfl,fun j p hj=>by
  cases j with
  | succ j=>simp at hj
  | zero =>
   obtain rfl:a1=p:=by simpa using hj
   exact ⟨[.string a1],rfl,rfl,fun i u hi=>by
    cases i with
    | succ i=>simp at hi
    | zero =>
     simp at hi
     rw [←hi,add_plain]
     simp⟩⟩⟩ (Nat.le_refl _) (by unfold impl_isLong.f;rw [if_pos (by simp)];simp)
/-! ### stringslite_HasPrefix: function 17 -/
def stringslite_HasPrefix.f (a0:ByteArray) (a1:ByteArray):Option (Bool):=if (a0.size:Int)≥(a1.size:Int) then (if 0≤(a1.size:Int) then (if (a1.size:Int)≤(a0.size:Int) then (some ((a0.extract 0 ((a1.size:Int):Int).toNat).toList == a1.toList)) else (none)) else (none)) else (some false)
set_option maxHeartbeats 8000000 in
set_option maxRecDepth 100000 in
theorem stringslite_HasPrefix.calls (a0:ByteArray) (a1:ByteArray) (r:Bool) (w:World) (h:stringslite_HasPrefix.f a0 a1=some r) :
 Calls Try.prog 17 #[.string a0,.string a1] w fun e w'=>e=.returned (.bool r)∧Drawn0 w w':=by
 have H:(if (a0.size:Int)≥(a1.size:Int) then (if 0≤(a1.size:Int) then (if (a1.size:Int)≤(a0.size:Int) then (some ((a0.extract 0 ((a1.size:Int):Int).toNat).toList == a1.toList)) else (none)) else (none)) else (some false))=some r:=h
 clear h
 by_cases c3:(a0.size:Int)≥(a1.size:Int)
 ·rw [if_pos c3] at H
  have c3b0:decide ((a1.size:Int)≤(a0.size:Int))=true:=dt_ c3
  have c3b1:decide (a1.size≤a0.size)=true:=dt_ (Int.ofNat_le.mp c3)
  clear c3
  by_cases c4:0≤(a1.size:Int)
  ·rw [if_pos c4] at H
   have c4b0:=eq_true c4
   have c4b1:decide (0≤(a1.size:Int))=true:=dt_ c4
   clear c4
   by_cases c5:(a1.size:Int)≤(a0.size:Int)
   ·rw [if_pos c5] at H
    have c5b0:=eq_true c5
    have c5b1:decide ((a1.size:Int)≤(a0.size:Int))=true:=dt_ c5
    clear c5
    obtain rfl:=oi_ H
    go_enter Try.func17,Try.ntmps17
    go_wp2
    go_ret
    exact ⟨by first|rfl|(simp;done)|(simp [*];done),by repeat (first|exact dr_ _|apply dp_)⟩
   ·rw [if_neg c5] at H
    exact absurd H (by simp)
  ·rw [if_neg c4] at H
   exact absurd H (by simp)
 ·rw [if_neg c3] at H
  have c3b0:decide ((a1.size:Int)≤(a0.size:Int))=false:=df_ c3
  have c3b1:decide (a1.size≤a0.size)=false:=df_ (fun h=>c3 (Int.ofNat_le.mpr h))
  clear c3
  obtain rfl:=oi_ H
  go_enter Try.func17,Try.ntmps17
  go_wp2
  go_ret
  exact ⟨by first|rfl|(simp;done)|(simp [*];done),by repeat (first|exact dr_ _|apply dp_)⟩
/-! ### strings_HasPrefix: function 11 -/
def strings_HasPrefix.f (a0:ByteArray) (a1:ByteArray):Option (Bool):=(stringslite_HasPrefix.f a0 a1).bind fun t133=>(some t133)
set_option maxHeartbeats 8000000 in
set_option maxRecDepth 100000 in
theorem strings_HasPrefix.calls (a0:ByteArray) (a1:ByteArray) (r:Bool) (w:World) (h:strings_HasPrefix.f a0 a1=some r) :
 Calls Try.prog 11 #[.string a0,.string a1] w fun e w'=>e=.returned (.bool r)∧Drawn0 w w':=by
 have H:((stringslite_HasPrefix.f a0 a1).bind fun t133=>(some t133))=some r:=h
 clear h
 replace H:=ob_ H
 obtain ⟨t133,A30,H⟩:=H
 replace H:(some t133)=some r:=H
 have A3:=A_ A30
 clear A30
 obtain rfl:=oi_ H
 go_enter Try.func11,Try.ntmps11
 go_wp2_with (first|((with_reducible refine gate_callee (f:=17) rfl ?_);refine goesL_ (some 7) rfl rfl Try.func17 (by kernel_rfl) rfl #[.string a0,.string a1] rfl (by (try simp only [List.map_toArray,List.map_cons,List.map_nil]);first|done|rfl|(simp only [ld_,lt_];rfl)) ?_;(with_reducible refine (stringslite_HasPrefix.calls a0 a1 t133 _ A3.out).mono ?_);rintro e w' ⟨rfl,⟨nd,rfl⟩⟩;refine ⟨_,rfl,?_⟩))
 go_ret
 exact ⟨by first|rfl|(simp;done)|(simp [*];done),by repeat (first|exact dr_ _|apply dp_)⟩
/-! ### impl_lower: function 12, by hand -/
open Go.Proofs.Ytpfpbanadobfmaa.Kit (lowC lowS)
def impl_lower.f (a0:ByteArray):Option ByteArray:=if a0.size≤9223372036854775807 then some (lowS a0) else none
theorem lower_start (w:World) (s:ByteArray) (j:Nat) (hj:j<s.size):(Lib.bytesWorld w 5 s).cell? ⟨w.heap.size,j,none⟩=some (.int .u8 (bt s (j:Int))):=by
 rw [Lib.bytesWorld_cell w 5 s j hj]
 have:j<s.data.toList.length:=by rw [data_length];exact hj
 simp only [bt,Int.toNat_natCast,dif_pos hj,List.getD_eq_getElem?_getD,List.getElem?_eq_getElem this,Option.getD_some]
 rfl
theorem lower_free (w:World) (s:ByteArray) (j:Nat) (hj:j<s.size):(Lib.bytesWorld w 5 s).frozen? ⟨w.heap.size,j,none⟩=false:=by
 have hsz:s.size≤(Lib.bytesCells w 5 s).size:=by
  unfold Lib.bytesCells
  rw [Array.size_append,Array.size_map]
  have:s.data.size=s.size:=rfl
  omega
 simp only [World.frozen?,Lib.bytesWorld_at_new]
 simp
 omega
/-- The row behind k rounds. -/
def LowRow (W:World) (B:Nat) (s:ByteArray) (k:Nat):Prop :=
 (∀ j:Nat,j<s.size→W.cell? ⟨B,j,none⟩=some (.int .u8 (if j<k then lowC (bt s (j:Int)) else bt s (j:Int))))∧∀ j,j<s.size→W.frozen? ⟨B,j,none⟩=false
theorem LowRow.start (w:World) (s:ByteArray):LowRow (Lib.bytesWorld w 5 s) w.heap.size s 0 :=
 ⟨fun j hj=>by rw [if_neg (Nat.not_lt_zero _)];exact lower_start w s j hj,lower_free w s⟩
theorem LowRow.stay {W:World} {B:Nat} {s:ByteArray} {k:Nat} (h:LowRow W B s k) (hk:k<s.size) (hc:¬ (65≤bt s (k:Int)∧bt s (k:Int)≤90)):LowRow W B s (k+1):=by
 refine ⟨fun j hj=>?_,h.2⟩
 rw [h.1 j hj]
 by_cases e:j=k
 ·subst e
  rw [if_neg (Nat.lt_irrefl _),if_pos (Nat.lt_succ_self _)]
  unfold lowC
  rw [if_neg hc]
 ·by_cases h1:j<k
  ·rw [if_pos h1,if_pos (by omega)]
  ·rw [if_neg h1,if_neg (by omega)]
theorem LowRow.turn {W:World} {B:Nat} {s:ByteArray} {k:Nat} (h:LowRow W B s k) (hk:k<s.size) (hc:65≤bt s (k:Int)∧bt s (k:Int)≤90):LowRow (W.setCell ⟨B,k,none⟩ (.int .u8 (bt s (k:Int)+32))) B s (k+1):=by
 refine ⟨fun j hj=>?_,fun j hj=>by rw [World.frozen?_setCell];exact h.2 j hj⟩
 by_cases e:j=k
 ·subst e
  rw [if_pos (Nat.lt_succ_self _)]
  unfold lowC
  rw [if_pos hc]
  have h3:=h.1 j hj
  apply World.cell?_setCell_same
  exact h3
 ·rw [World.cell?_setCell_other (h:=fun h=>by injection h;omega),h.1 j hj]
  by_cases h1:j<k
  ·rw [if_pos h1,if_pos (by omega)]
  ·rw [if_neg h1,if_neg (by omega)]
set_option maxHeartbeats 1000000 in
theorem impl_lower.calls (a0:ByteArray) (r:ByteArray) (w:World) (h:impl_lower.f a0=some r) :
 Calls Try.prog 12 #[.string a0] w fun e w'=>e=.returned (.string r)∧Below w.heap.size w w':=by
 unfold impl_lower.f at h
 obtain ⟨hn,h⟩:=Option.ite_none_right_eq_some.mp h
 obtain rfl:=oi_ h
 have conv:=fun W=>Lib.run_convert_string_bytes (P:=Try.prog) W 9 22 5 a0 Try.underlying9 Try.underlying22 Try.underlying5
 go_enter Try.func12,Try.ntmps12
 go_wp2
 have HS:=A_ (LowRow.start w a0)
 have HB:Below w.heap.size w (Lib.bytesWorld w 5 a0):=bytes_below (Below.refl _ w) (Nat.le_refl _) 5 a0
 generalize Lib.bytesWorld w 5 a0=W0 at HS HB
 have HB:=A_ HB
 go_loopg [10] a0.size (fun gg s10 wr=>∃ k:Nat,k≤a0.size∧a0.size - k≤gg∧s10=.int .i64 k∧Aside0 (LowRow wr w.heap.size a0 k)∧Aside0 (Below w.heap.size w wr))
 case atStart=>exact ⟨0,Nat.zero_le _,by omega,rfl,HS,HB⟩
 case round =>
  obtain ⟨k,hk,hg,rfl,HR,HB2⟩:=hrel
  clear HS HB
  by_cases hlt:k<a0.size
  ·have hltz:(k:Int)<(a0.size:Int):=by omega
   have l1:=HR.out.1 k hlt
   rw [if_neg (Nat.lt_irrefl _)] at l1
   have l2:=HR.out.2 k hlt
   have b1:=(bt_range a0 (k:Int)).1
   have b2:=(bt_range a0 (k:Int)).2
   by_cases hc:65≤bt a0 (k:Int)∧bt a0 (k:Int)≤90
   ·have HR':=A_ (HR.out.turn hlt hc)
    obtain ⟨c1,c2⟩:=hc
    have c3:decide (bt a0 (k:Int)≥65)=true:=dt_ c1
    have c4:decide (bt a0 (k:Int)≤90)=true:=dt_ c2
    have HB3:=A_ (HB2.out.setCell (p:=⟨w.heap.size,k,none⟩) (Nat.le_refl _) (.int .u8 (bt a0 (k:Int)+32)))
    generalize bt a0 (k:Int)=c at *
    go_wp2
    go_roundg (a0.size - (k+1))
    case measure=>omega
    case rel =>
     have e:c+97 - 65=c+32:=by omega
     first|exact ⟨k+1,by omega,by omega,by go_num,HR',HB3⟩|(simp only [e];exact ⟨k+1,by omega,by omega,by go_num,HR',HB3⟩)
   ·have HR':=A_ (HR.out.stay hlt hc)
    generalize bt a0 (k:Int)=c at *
    by_cases c1:65≤c
    ·have c3:decide (c≥65)=true:=dt_ c1
     have c4:decide (c≤90)=false:=df_ (by omega)
     go_wp2
     go_roundg (a0.size - (k+1))
     case measure=>omega
     case rel=>exact ⟨k+1,by omega,by omega,by go_num,HR',HB2⟩
    ·have c3:decide (c≥65)=false:=df_ c1
     go_wp2
     go_roundg (a0.size - (k+1))
     case measure=>omega
     case rel=>exact ⟨k+1,by omega,by omega,by go_num,HR',HB2⟩
  ·have hltz:¬ (k:Int)<(a0.size:Int):=by omega
   have hke:k=a0.size:=by omega
   have back:=run_convert_bytes_arg (P:=Try.prog) (w:=wr) 22 5 Try.underlying22 Try.underlying5 w.heap.size 0 a0.size (grownCap w a0.size 0 5) ((List.range a0.size).map fun (i:Nat)=>lowC (bt a0 (i:Int))) (by simp) (fun i hi=>by
    have:=HR.out.1 i hi
    rw [hke,if_pos hi] at this
    rw [Nat.zero_add,this]
    simp [List.getD_eq_getElem?_getD,hi]) 9 Try.underlying9
   clear hke
   go_wp2
   go_ret
   exact ⟨rfl,HB2.out⟩
end Go.Proofs.Ytpfpbanadobfmaa.PFnLinks
