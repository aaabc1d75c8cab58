/- By a program of this session, out of the kit's print and contracts made by hand: the machine side of a law; Lean checks it. No conditions. -/
import Derived.Test.YtjlikemmhjclpaaPFnExactCleanx0
namespace Go.Proofs.Ytjlikemmhjclpaa.PFnExactClean
open Go.RowKit Go.Proofs.YtjlikemmhjclpaaW.PrintWords Go.Proofs.YtjlikemmhjclpaaW.PrintLast Go.Proofs.YtjlikemmhjclpaaW.PrintMore
attribute [local go_sem] max2_int min2_int max_two min_two max_three min_three max_four min_four
set_option linter.unusedVariables false
set_option linter.unusedSimpArgs false
/-! ### spec_l02Comment: function 52 -/
def spec_l02Comment.l0:Nat→ByteArray→Int→Option (Bool)
 | 0,_,_=>none
 | k+1,x0,x3=>if x3<(x0.size:Int) then (if 0≤x3 then (if (bt x0 x3)=60 then (some false) else (if (bt x0 x3)=62 then (some false) else (if (bt x0 x3)=45 then (if x3=0 then (some false) else (if x3=(wrap64 ((x0.size:Int) - 1)) then (some false) else (if 0≤(wrap64 (x3 - 1)) then (if (wrap64 (x3 - 1))<(x0.size:Int) then (if (bt x0 (wrap64 (x3 - 1)))=45 then (some false) else (spec_l02Comment.l0 k x0 (wrap64 (x3+1)))) else (none)) else (none)))) else (spec_l02Comment.l0 k x0 (wrap64 (x3+1)))))) else (none)) else (some true)
def spec_l02Comment.f (k:Nat) (a0:ByteArray):Option (Bool):=spec_l02Comment.l0 k a0 0
theorem spec_l02Comment.mono_l:∀ k,(∀ y0 y1,LeO (spec_l02Comment.l0 k y0 y1) (spec_l02Comment.l0 (k+1) y0 y1))
 | 0=>fun _ _ r h=>by simp [spec_l02Comment.l0] at h
 | k+1=>by
  have ih0:=spec_l02Comment.mono_l k
  ·intro y0 y1
   unfold spec_l02Comment.l0
   repeat' first
   | (with_reducible exact ih0 _ _)
   | (with_reducible exact LeO.refl _)
   | (with_reducible exact LeO.none _)
   | (with_reducible refine LeO.ite ?_ ?_)
   | (with_reducible refine LeO.bind ?_ (fun _=>?_))
   | exact ih0 _ _
   | exact LeO.none _
   | refine LeO.ite ?_ ?_
   | refine LeO.bind ?_ (fun _=>?_)
theorem spec_l02Comment.mono:∀ a0 k,LeO (spec_l02Comment.f k a0) (spec_l02Comment.f (k+1) a0):=by
 intro a0 k
 have ih0:=spec_l02Comment.mono_l k
 unfold spec_l02Comment.f
 repeat' first
  | (with_reducible exact ih0 _ _)
  | (with_reducible exact LeO.refl _)
  | (with_reducible exact LeO.none _)
  | (with_reducible refine LeO.ite ?_ ?_)
  | (with_reducible refine LeO.bind ?_ (fun _=>?_))
  | exact ih0 _ _
  | exact LeO.none _
  | refine LeO.ite ?_ ?_
  | refine LeO.bind ?_ (fun _=>?_)
set_option maxHeartbeats 8000000 in
set_option maxRecDepth 100000 in
theorem spec_l02Comment.calls (k:Nat) (a0:ByteArray) (r:Bool) (w:World) (h:spec_l02Comment.f k a0=some r) :
 Calls Try.prog 52 #[.string a0] w fun e w'=>e=.returned (.bool r)∧Drawn0 w w':=by
 have H:(spec_l02Comment.l0 k a0 0)=some r:=h
 clear h
 have H':=A_ H
 clear H
 go_enter Try.func52,Try.ntmps52
 go_wp2
 go_loopg [3] k (fun kq v3 w'=>∃ (x3_1:Int),v3=.int .i64 x3_1∧Aside0 (spec_l02Comment.l0 kq a0 x3_1=some r)∧Aside0 (kq≤k)∧Drawn0 w w')
 case atStart=>exact ⟨(0),(by first|rfl|(simp;done)|(simp [*];done)),H',⟨Nat.le_refl _⟩,by repeat (first|exact dr_ _|apply dp_)⟩
 case round =>
  clear H'
  obtain ⟨x3_1,rfl,HA,HK1,⟨m1,rfl⟩⟩:=hrel
  cases gk with
  | zero=>exact absurd HA.out (by simp [spec_l02Comment.l0])
  | succ k1 =>
   have H:=HA.out
   clear HA
   simp only [spec_l02Comment.l0] at H
   by_cases c2:x3_1<(a0.size:Int)
   ·rw [if_pos c2] at H
    have c2b0:decide (x3_1<(a0.size:Int))=true:=dt_ c2
    clear c2
    by_cases c3:0≤x3_1
    ·rw [if_pos c3] at H
     have c3b0:decide (0≤x3_1)=true:=dt_ c3
     clear c3
     by_cases c5:(bt a0 x3_1)=60
     ·rw [if_pos c5] at H
      have c5b0:((bt a0 x3_1) == 60)=true:=beq_iff_eq.mpr c5
      have c5b1:((bt a0 x3_1) != 60)=false:=bne_eq_false_iff_eq.mpr c5
      clear c5
      obtain rfl:=oi_ H
      have p4:0≤(x3_1:Int):=od_ (by first|(with_reducible assumption)|assumption)
      have q4:x3_1<(a0.size:Int):=od_ (by first|(with_reducible assumption)|assumption)
      have hx4:=bt_at a0 x3_1
      replace p4:=eq_true p4
      replace q4:=eq_true q4
      go_wp2
      go_ret
      exact ⟨by first|rfl|(simp;done)|(simp [*];done),by repeat (first|exact dr_ _|apply dp_)⟩
     ·rw [if_neg c5] at H
      have c5b0:((bt a0 x3_1) == 60)=false:=beq_eq_false_iff_ne.mpr c5
      have c5b1:((bt a0 x3_1) != 60)=true:=bne_iff_ne.mpr c5
      by_cases c7:(bt a0 x3_1)=62
      ·rw [if_pos c7] at H
       have c7b0:((bt a0 x3_1) == 62)=true:=beq_iff_eq.mpr c7
       have c7b1:((bt a0 x3_1) != 62)=false:=bne_eq_false_iff_eq.mpr c7
       clear c7
       obtain rfl:=oi_ H
       have p4:0≤(x3_1:Int):=od_ (by first|(with_reducible assumption)|assumption)
       have q4:x3_1<(a0.size:Int):=od_ (by first|(with_reducible assumption)|assumption)
       have hx4:=bt_at a0 x3_1
       replace p4:=eq_true p4
       replace q4:=eq_true q4
       have p6:0≤(x3_1:Int):=od_ (by first|(with_reducible assumption)|assumption)
       have q6:x3_1<(a0.size:Int):=od_ (by first|(with_reducible assumption)|assumption)
       have hx6:=bt_at a0 x3_1
       replace p6:=eq_true p6
       replace q6:=eq_true q6
       go_wp2
       go_ret
       exact ⟨by first|rfl|(simp;done)|(simp [*];done),by repeat (first|exact dr_ _|apply dp_)⟩
      ·rw [if_neg c7] at H
       have c7b0:((bt a0 x3_1) == 62)=false:=beq_eq_false_iff_ne.mpr c7
       have c7b1:((bt a0 x3_1) != 62)=true:=bne_iff_ne.mpr c7
       by_cases c9:(bt a0 x3_1)=45
       ·rw [if_pos c9] at H
        have c9b0:((bt a0 x3_1) == 45)=true:=beq_iff_eq.mpr c9
        have c9b1:((bt a0 x3_1) != 45)=false:=bne_eq_false_iff_eq.mpr c9
        clear c9
        by_cases c10:x3_1=0
        ·rw [if_pos c10] at H
         have c10b0:(x3_1 == 0)=true:=beq_iff_eq.mpr c10
         have c10b1:(x3_1 != 0)=false:=bne_eq_false_iff_eq.mpr c10
         clear c10
         obtain rfl:=oi_ H
         have p4:0≤(x3_1:Int):=od_ (by first|(with_reducible assumption)|assumption)
         have q4:x3_1<(a0.size:Int):=od_ (by first|(with_reducible assumption)|assumption)
         have hx4:=bt_at a0 x3_1
         replace p4:=eq_true p4
         replace q4:=eq_true q4
         have p6:0≤(x3_1:Int):=od_ (by first|(with_reducible assumption)|assumption)
         have q6:x3_1<(a0.size:Int):=od_ (by first|(with_reducible assumption)|assumption)
         have hx6:=bt_at a0 x3_1
         replace p6:=eq_true p6
         replace q6:=eq_true q6
         have p8:0≤(x3_1:Int):=od_ (by first|(with_reducible assumption)|assumption)
         have q8:x3_1<(a0.size:Int):=od_ (by first|(with_reducible assumption)|assumption)
         have hx8:=bt_at a0 x3_1
         replace p8:=eq_true p8
         replace q8:=eq_true q8
         go_wp2
         go_ret
         exact ⟨by first|rfl|(simp;done)|(simp [*];done),by repeat (first|exact dr_ _|apply dp_)⟩
        ·rw [if_neg c10] at H
         have c10b0:(x3_1 == 0)=false:=beq_eq_false_iff_ne.mpr c10
         have c10b1:(x3_1 != 0)=true:=bne_iff_ne.mpr c10
         by_cases c11:x3_1=(wrap64 ((a0.size:Int) - 1))
         ·rw [if_pos c11] at H
          have c11b0:(x3_1 == (wrap64 ((a0.size:Int) - 1)))=true:=beq_iff_eq.mpr c11
          have c11b1:(x3_1 != (wrap64 ((a0.size:Int) - 1)))=false:=bne_eq_false_iff_eq.mpr c11
          clear c11
          obtain rfl:=oi_ H
          have p4:0≤(x3_1:Int):=od_ (by first|(with_reducible assumption)|assumption)
          have q4:x3_1<(a0.size:Int):=od_ (by first|(with_reducible assumption)|assumption)
          have hx4:=bt_at a0 x3_1
          replace p4:=eq_true p4
          replace q4:=eq_true q4
          have p6:0≤(x3_1:Int):=od_ (by first|(with_reducible assumption)|assumption)
          have q6:x3_1<(a0.size:Int):=od_ (by first|(with_reducible assumption)|assumption)
          have hx6:=bt_at a0 x3_1
          replace p6:=eq_true p6
          replace q6:=eq_true q6
          have p8:0≤(x3_1:Int):=od_ (by first|(with_reducible assumption)|assumption)
          have q8:x3_1<(a0.size:Int):=od_ (by first|(with_reducible assumption)|assumption)
          have hx8:=bt_at a0 x3_1
          replace p8:=eq_true p8
          replace q8:=eq_true q8
          go_wp2
          go_ret
          exact ⟨by first|rfl|(simp;done)|(simp [*];done),by repeat (first|exact dr_ _|apply dp_)⟩
         ·rw [if_neg c11] at H
          have c11b0:(x3_1 == (wrap64 ((a0.size:Int) - 1)))=false:=beq_eq_false_iff_ne.mpr c11
          have c11b1:(x3_1 != (wrap64 ((a0.size:Int) - 1)))=true:=bne_iff_ne.mpr c11
          obtain ⟨ji12,hji12⟩:∃ j_:Int,(wrap64 (x3_1 - 1))=j_:=⟨_,rfl⟩
          replace H:(if 0≤(ji12) then (if (ji12)<(a0.size:Int) then (if (bt a0 (ji12))=45 then (some false) else (spec_l02Comment.l0 k1 a0 (wrap64 (x3_1+1)))) else (none)) else (none))=some r:=by first|(rw [hji12] at H;exact H)|(simp only [hji12] at H ⊢;exact H)
          have hji12w:(IntKind.i64.wrap (x3_1 - 1))=ji12:=(i64_w _).trans hji12
          by_cases c13:0≤(ji12)
          ·rw [if_pos c13] at H
           have c13b0:decide (0≤(ji12))=true:=dt_ c13
           clear c13
           by_cases c14:(ji12)<(a0.size:Int)
           ·rw [if_pos c14] at H
            have c14b0:decide ((ji12)<(a0.size:Int))=true:=dt_ c14
            clear c14
            by_cases c16:(bt a0 (ji12))=45
            ·rw [if_pos c16] at H
             have c16b0:((bt a0 (ji12)) == 45)=true:=beq_iff_eq.mpr c16
             have c16b1:((bt a0 (ji12)) != 45)=false:=bne_eq_false_iff_eq.mpr c16
             clear c16
             obtain rfl:=oi_ H
             have p4:0≤(x3_1:Int):=od_ (by first|(with_reducible assumption)|assumption)
             have q4:x3_1<(a0.size:Int):=od_ (by first|(with_reducible assumption)|assumption)
             have hx4:=bt_at a0 x3_1
             replace p4:=eq_true p4
             replace q4:=eq_true q4
             have p6:0≤(x3_1:Int):=od_ (by first|(with_reducible assumption)|assumption)
             have q6:x3_1<(a0.size:Int):=od_ (by first|(with_reducible assumption)|assumption)
             have hx6:=bt_at a0 x3_1
             replace p6:=eq_true p6
             replace q6:=eq_true q6
             have p8:0≤(x3_1:Int):=od_ (by first|(with_reducible assumption)|assumption)
             have q8:x3_1<(a0.size:Int):=od_ (by first|(with_reducible assumption)|assumption)
             have hx8:=bt_at a0 x3_1
             replace p8:=eq_true p8
             replace q8:=eq_true q8
             have p15:0≤((ji12):Int):=od_ (by first|(with_reducible assumption)|assumption)
             have q15:(ji12)<(a0.size:Int):=od_ (by first|(with_reducible assumption)|assumption)
             have hx15:=bt_at a0 (ji12)
             replace p15:=eq_true p15
             replace q15:=eq_true q15
             go_wp2
             go_ret
             exact ⟨by first|rfl|(simp;done)|(simp only [←hji12] <;> (first|rfl|simp))|(simp [*];done),by repeat (first|exact dr_ _|apply dp_)⟩
            ·rw [if_neg c16] at H
             have c16b0:((bt a0 (ji12)) == 45)=false:=beq_eq_false_iff_ne.mpr c16
             have c16b1:((bt a0 (ji12)) != 45)=true:=bne_iff_ne.mpr c16
             have H':=A_ H
             clear H
             have p4:0≤(x3_1:Int):=od_ (by first|(with_reducible assumption)|assumption)
             have q4:x3_1<(a0.size:Int):=od_ (by first|(with_reducible assumption)|assumption)
             have hx4:=bt_at a0 x3_1
             replace p4:=eq_true p4
             replace q4:=eq_true q4
             have p6:0≤(x3_1:Int):=od_ (by first|(with_reducible assumption)|assumption)
             have q6:x3_1<(a0.size:Int):=od_ (by first|(with_reducible assumption)|assumption)
             have hx6:=bt_at a0 x3_1
             replace p6:=eq_true p6
             replace q6:=eq_true q6
             have p8:0≤(x3_1:Int):=od_ (by first|(with_reducible assumption)|assumption)
             have q8:x3_1<(a0.size:Int):=od_ (by first|(with_reducible assumption)|assumption)
             have hx8:=bt_at a0 x3_1
             replace p8:=eq_true p8
             replace q8:=eq_true q8
             have p15:0≤((ji12):Int):=od_ (by first|(with_reducible assumption)|assumption)
             have q15:(ji12)<(a0.size:Int):=od_ (by first|(with_reducible assumption)|assumption)
             have hx15:=bt_at a0 (ji12)
             replace p15:=eq_true p15
             replace q15:=eq_true q15
             go_wp2
             go_roundg k1
             case measure=>have:=HK1.out;omega
             case rel=>exact ⟨(wrap64 (x3_1+1)),(by first|rfl|(simp;done)|(simp [*];done)),H',⟨by have:=HK1.out;omega⟩,by repeat (first|exact dr_ _|apply dp_)⟩
           ·rw [if_neg c14] at H
            exact absurd H (by simp)
          ·rw [if_neg c13] at H
           exact absurd H (by simp)
       ·rw [if_neg c9] at H
        have c9b0:((bt a0 x3_1) == 45)=false:=beq_eq_false_iff_ne.mpr c9
        have c9b1:((bt a0 x3_1) != 45)=true:=bne_iff_ne.mpr c9
        have H':=A_ H
        clear H
        have p4:0≤(x3_1:Int):=od_ (by first|(with_reducible assumption)|assumption)
        have q4:x3_1<(a0.size:Int):=od_ (by first|(with_reducible assumption)|assumption)
        have hx4:=bt_at a0 x3_1
        replace p4:=eq_true p4
        replace q4:=eq_true q4
        have p6:0≤(x3_1:Int):=od_ (by first|(with_reducible assumption)|assumption)
        have q6:x3_1<(a0.size:Int):=od_ (by first|(with_reducible assumption)|assumption)
        have hx6:=bt_at a0 x3_1
        replace p6:=eq_true p6
        replace q6:=eq_true q6
        have p8:0≤(x3_1:Int):=od_ (by first|(with_reducible assumption)|assumption)
        have q8:x3_1<(a0.size:Int):=od_ (by first|(with_reducible assumption)|assumption)
        have hx8:=bt_at a0 x3_1
        replace p8:=eq_true p8
        replace q8:=eq_true q8
        go_wp2
        go_roundg k1
        case measure=>have:=HK1.out;omega
        case rel=>exact ⟨(wrap64 (x3_1+1)),(by first|rfl|(simp;done)|(simp [*];done)),H',⟨by have:=HK1.out;omega⟩,by repeat (first|exact dr_ _|apply dp_)⟩
    ·rw [if_neg c3] at H
     exact absurd H (by simp)
   ·rw [if_neg c2] at H
    have c2b0:decide (x3_1<(a0.size:Int))=false:=df_ c2
    clear c2
    obtain rfl:=oi_ H
    go_wp2
    go_ret
    exact ⟨by first|rfl|(simp;done)|(simp [*];done),by repeat (first|exact dr_ _|apply dp_)⟩
end Go.Proofs.Ytjlikemmhjclpaa.PFnExactClean
