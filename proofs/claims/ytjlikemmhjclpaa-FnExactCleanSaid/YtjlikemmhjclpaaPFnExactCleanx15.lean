/- By a program of this session, out of the kit's print and contracts made by hand: the machine side of a law; Lean checks it. No conditions. -/
import Derived.Test.YtjlikemmhjclpaaPFnExactCleanx0
import Derived.Test.YtjlikemmhjclpaaPFnExactCleanx8
namespace Go.Proofs.Ytjlikemmhjclpaa.PFnExactClean
open Go.RowKit Go.Proofs.YtjlikemmhjclpaaW.PrintWords Go.Proofs.YtjlikemmhjclpaaW.PrintLast Go.Proofs.YtjlikemmhjclpaaW.PrintMore
attribute [local go_sem] max2_int min2_int max_two min_two max_three min_three max_four min_four
set_option linter.unusedVariables false
set_option linter.unusedSimpArgs false
/-! ### spec_l02Has: function 80 -/
def spec_l02Has.l0:Nat→ByteArray→Int→Int→Option (Bool)
 | 0,_,_,_=>none
 | k+1,x0,x1,x5=>if x5<(x0.size:Int) then (if 0≤x5 then (if (bt x0 x5)=x1 then (some true) else (spec_l02Has.l0 k x0 x1 (wrap64 (x5+1)))) else (none)) else (some false)
def spec_l02Has.f (k:Nat) (a0:ByteArray) (a1:Int):Option (Bool):=spec_l02Has.l0 k a0 a1 0
theorem spec_l02Has.mono_l:∀ k,(∀ y0 y1 y2,LeO (spec_l02Has.l0 k y0 y1 y2) (spec_l02Has.l0 (k+1) y0 y1 y2))
 | 0=>fun _ _ _ r h=>by simp [spec_l02Has.l0] at h
 | k+1=>by
  have ih0:=spec_l02Has.mono_l k
  ·intro y0 y1 y2
   unfold spec_l02Has.l0
   repeat' first
   | (with_reducible exact ih0 _ _ _)
   | (with_reducible exact LeO.refl _)
   | (with_reducible exact LeO.none _)
   | (with_reducible refine LeO.ite ?_ ?_)
   | (with_reducible refine LeO.bind ?_ (fun _=>?_))
   | exact ih0 _ _ _
   | exact LeO.none _
   | refine LeO.ite ?_ ?_
   | refine LeO.bind ?_ (fun _=>?_)
theorem spec_l02Has.mono:∀ a0 a1 k,LeO (spec_l02Has.f k a0 a1) (spec_l02Has.f (k+1) a0 a1):=by
 intro a0 a1 k
 have ih0:=spec_l02Has.mono_l k
 unfold spec_l02Has.f
 repeat' first
  | (with_reducible exact ih0 _ _ _)
  | (with_reducible exact LeO.refl _)
  | (with_reducible exact LeO.none _)
  | (with_reducible refine LeO.ite ?_ ?_)
  | (with_reducible refine LeO.bind ?_ (fun _=>?_))
  | exact ih0 _ _ _
  | exact LeO.none _
  | refine LeO.ite ?_ ?_
  | refine LeO.bind ?_ (fun _=>?_)
set_option maxHeartbeats 8000000 in
set_option maxRecDepth 100000 in
theorem spec_l02Has.calls (k:Nat) (a0:ByteArray) (a1:Int) (r:Bool) (w:World) (h:spec_l02Has.f k a0 a1=some r) :
 Calls Try.prog 80 #[.string a0,.int .u8 a1] w fun e w'=>e=.returned (.bool r)∧Drawn0 w w':=by
 have H:(spec_l02Has.l0 k a0 a1 0)=some r:=h
 clear h
 have H':=A_ H
 clear H
 go_enter Try.func80,Try.ntmps80
 go_wp2
 go_loopg [5] k (fun kq v5 w'=>∃ (x5_1:Int),v5=.int .i64 x5_1∧Aside0 (spec_l02Has.l0 kq a0 a1 x5_1=some r)∧Aside0 (kq≤k)∧Drawn0 w w')
 case atStart=>exact ⟨(0),(by first|rfl|(simp;done)|(simp [*];done)),H',⟨Nat.le_refl _⟩,by repeat (first|exact dr_ _|apply dp_)⟩
 case round =>
  clear H'
  try clear p2
  obtain ⟨x5_1,rfl,HA,HK1,⟨m1,rfl⟩⟩:=hrel
  cases gk with
  | zero=>exact absurd HA.out (by simp [spec_l02Has.l0])
  | succ k1 =>
   have H:=HA.out
   clear HA
   simp only [spec_l02Has.l0] at H
   by_cases c3:x5_1<(a0.size:Int)
   ·rw [if_pos c3] at H
    have c3b0:decide (x5_1<(a0.size:Int))=true:=dt_ c3
    clear c3
    by_cases c4:0≤x5_1
    ·rw [if_pos c4] at H
     have c4b0:decide (0≤x5_1)=true:=dt_ c4
     clear c4
     by_cases c6:(bt a0 x5_1)=a1
     ·rw [if_pos c6] at H
      have c6b0:((bt a0 x5_1) == a1)=true:=beq_iff_eq.mpr c6
      have c6b1:((bt a0 x5_1) != a1)=false:=bne_eq_false_iff_eq.mpr c6
      clear c6
      obtain rfl:=oi_ H
      have p5:0≤(x5_1:Int):=od_ (by first|(with_reducible assumption)|assumption)
      have q5:x5_1<(a0.size:Int):=od_ (by first|(with_reducible assumption)|assumption)
      have hx5:=bt_at a0 x5_1
      replace p5:=eq_true p5
      replace q5:=eq_true q5
      go_wp2
      go_ret
      exact ⟨by first|rfl|(simp;done)|(simp [*];done),by repeat (first|exact dr_ _|apply dp_)⟩
     ·rw [if_neg c6] at H
      have c6b0:((bt a0 x5_1) == a1)=false:=beq_eq_false_iff_ne.mpr c6
      have c6b1:((bt a0 x5_1) != a1)=true:=bne_iff_ne.mpr c6
      have H':=A_ H
      clear H
      have p5:0≤(x5_1:Int):=od_ (by first|(with_reducible assumption)|assumption)
      have q5:x5_1<(a0.size:Int):=od_ (by first|(with_reducible assumption)|assumption)
      have hx5:=bt_at a0 x5_1
      replace p5:=eq_true p5
      replace q5:=eq_true q5
      go_wp2
      go_roundg k1
      case measure=>have:=HK1.out;omega
      case rel=>exact ⟨(wrap64 (x5_1+1)),(by first|rfl|(simp;done)|(simp [*];done)),H',⟨by have:=HK1.out;omega⟩,by repeat (first|exact dr_ _|apply dp_)⟩
    ·rw [if_neg c4] at H
     exact absurd H (by simp)
   ·rw [if_neg c3] at H
    have c3b0:decide (x5_1<(a0.size:Int))=false:=df_ c3
    clear c3
    obtain rfl:=oi_ H
    go_wp2
    go_ret
    exact ⟨by first|rfl|(simp;done)|(simp [*];done),by repeat (first|exact dr_ _|apply dp_)⟩
/-! ### spec_l03Text: function 81 -/
mutual
def spec_l03Text.l0:Nat→List (S44)→ByteArray→Int→Option (ByteArray)
 | 0,_,_,_=>none
 | k+1,x0,x3,x4=>if x4<(x0.length:Int) then (if 0≤x4 then (if ((rd_T44 x0 x4).f0)=2 then (if x3.size+((rd_T44 x0 x4).f3).size≤9223372036854775807 then ((spec_l03Text.f k ((rd_T44 x0 x4).f5)).bind fun t191=>(if (x3++((rd_T44 x0 x4).f3)).size+t191.size≤9223372036854775807 then (spec_l03Text.l0 k x0 ((x3++((rd_T44 x0 x4).f3))++t191) (wrap64 (x4+1))) else (none))) else (none)) else ((spec_l03Text.f k ((rd_T44 x0 x4).f5)).bind fun t193=>(if x3.size+t193.size≤9223372036854775807 then (spec_l03Text.l0 k x0 (x3++t193) (wrap64 (x4+1))) else (none)))) else (none)) else (some x3)
def spec_l03Text.f:Nat→List (S44)→Option (ByteArray)
 | 0,_=>none
 | k+1,l0=>spec_l03Text.l0 k l0 (⟨#[]⟩:ByteArray) 0
end
theorem spec_l03Text.mono_l:∀ k,(∀ y0,LeO (spec_l03Text.f k y0) (spec_l03Text.f (k+1) y0))∧(∀ y0 y1 y2,LeO (spec_l03Text.l0 k y0 y1 y2) (spec_l03Text.l0 (k+1) y0 y1 y2))
 | 0=>⟨fun _ r h=>by simp [spec_l03Text.f] at h,fun _ _ _ r h=>by simp [spec_l03Text.l0] at h⟩
 | k+1=>by
  obtain ⟨ih0,ih1⟩:=spec_l03Text.mono_l k
  refine ⟨?_,?_⟩
  ·intro y0
   unfold spec_l03Text.f
   repeat' first
   | (with_reducible exact ih0 _)
   | (with_reducible exact ih1 _ _ _)
   | (with_reducible exact LeO.refl _)
   | (with_reducible exact LeO.none _)
   | (with_reducible refine LeO.ite ?_ ?_)
   | (with_reducible refine LeO.bind ?_ (fun _=>?_))
   | exact ih0 _
   | exact ih1 _ _ _
   | exact LeO.none _
   | refine LeO.ite ?_ ?_
   | refine LeO.bind ?_ (fun _=>?_)
  ·intro y0 y1 y2
   unfold spec_l03Text.l0
   repeat' first
   | (with_reducible exact ih0 _)
   | (with_reducible exact ih1 _ _ _)
   | (with_reducible exact LeO.refl _)
   | (with_reducible exact LeO.none _)
   | (with_reducible refine LeO.ite ?_ ?_)
   | (with_reducible refine LeO.bind ?_ (fun _=>?_))
   | exact ih0 _
   | exact ih1 _ _ _
   | exact LeO.none _
   | refine LeO.ite ?_ ?_
   | refine LeO.bind ?_ (fun _=>?_)
theorem spec_l03Text.mono:∀ a0 k,LeO (spec_l03Text.f k a0) (spec_l03Text.f (k+1) a0):=by
 intro a0 k
 obtain ⟨ih0,ih1⟩:=spec_l03Text.mono_l k
 exact ih0 a0
set_option maxHeartbeats 8000000 in
set_option maxRecDepth 100000 in
theorem spec_l03Text.calls (k:Nat):∀ (A0:Option Addr) (c0:Nat) (l0:List (S44)) (r:ByteArray) (w:World) (hr0:Kd.C k44 w A0 l0.length l0) (hc0:l0.length≤c0) (h:spec_l03Text.f k l0=some r),
 Calls Try.prog 81 #[.slice A0 l0.length c0] w fun e w'=>e=.returned (.string r)∧Drawn0 w w':=by
 induction k using Nat.strongRecOn with
 | _ k ih =>
 intro A0 c0 l0 r w hr0 hc0 h
 cases k with
 | zero=>exact absurd h (by simp [spec_l03Text.f])
 | succ k =>
 simp only [spec_l03Text.f] at h
 have HR0:=A_ hr0
 have HC0:=A_ hc0
 clear hr0 hc0
 have H:(spec_l03Text.l0 k l0 (⟨#[]⟩:ByteArray) 0)=some r:=h
 clear h
 have H':=A_ H
 clear H
 go_enter Try.func81,Try.ntmps81
 go_wp2
 go_loopg [3,4] k (fun kq v3 v4 w'=>∃ (x3_1:ByteArray) (x4_1:Int),v3=.string x3_1∧v4=.int .i64 x4_1∧Aside0 (spec_l03Text.l0 kq l0 x3_1 x4_1=some r)∧Aside0 (kq≤k)∧Drawn0 w w')
 case atStart=>exact ⟨((⟨#[]⟩:ByteArray)),(0),(by first|rfl|(simp;done)|(simp [*];done)),(by first|rfl|(simp;done)|(simp [*];done)),H',⟨Nat.le_refl _⟩,by repeat (first|exact dr_ _|apply dp_)⟩
 case round =>
  clear H'
  obtain ⟨x3_1,x4_1,rfl,rfl,HA,HK1,⟨m1,rfl⟩⟩:=hrel
  cases gk with
  | zero=>exact absurd HA.out (by simp [spec_l03Text.l0])
  | succ k1 =>
   have H:=HA.out
   clear HA
   simp only [spec_l03Text.l0] at H
   by_cases c2:x4_1<(l0.length:Int)
   ·rw [if_pos c2] at H
    have c2b0:decide (x4_1<(l0.length:Int))=true:=dt_ c2
    clear c2
    by_cases c3:0≤x4_1
    ·rw [if_pos c3] at H
     have c3b0:decide (0≤x4_1)=true:=dt_ c3
     clear c3
     by_cases c4:((rd_T44 l0 x4_1).f0)=2
     ·rw [if_pos c4] at H
      have c4b0:(((rd_T44 l0 x4_1).f0) == 2)=true:=beq_iff_eq.mpr c4
      have c4b1:(((rd_T44 l0 x4_1).f0) != 2)=false:=bne_eq_false_iff_eq.mpr c4
      clear c4
      by_cases c5:x3_1.size+((rd_T44 l0 x4_1).f3).size≤9223372036854775807
      ·rw [if_pos c5] at H
       have c5b0:=eq_true c5
       have c5b1:decide (x3_1.size+((rd_T44 l0 x4_1).f3).size≤9223372036854775807)=true:=dt_ c5
       try have c5b2:(9223372036854775807<x3_1.size+((rd_T44 l0 x4_1).f3).size)=False:=eq_false (Nat.not_lt.2 c5)
       replace H:=ob_ H
       obtain ⟨t191,A60,H⟩:=H
       replace H:(if (x3_1++((rd_T44 l0 x4_1).f3)).size+t191.size≤9223372036854775807 then (spec_l03Text.l0 k1 l0 ((x3_1++((rd_T44 l0 x4_1).f3))++t191) (wrap64 (x4_1+1))) else (none))=some r:=H
       have A6:=A_ A60
       clear A60
       by_cases c7:(x3_1++((rd_T44 l0 x4_1).f3)).size+t191.size≤9223372036854775807
       ·rw [if_pos c7] at H
        have c7b0:=eq_true c7
        have c7b1:decide ((x3_1++((rd_T44 l0 x4_1).f3)).size+t191.size≤9223372036854775807)=true:=dt_ c7
        have c7b8:decide (x3_1.size+(((rd_T44 l0 x4_1).f3)).size+t191.size≤9223372036854775807)=true:=by rw [←ByteArray.size_append];exact c7b1
        have c7b9:(9223372036854775807<x3_1.size+(((rd_T44 l0 x4_1).f3)).size+t191.size)=False:=eq_false (Nat.not_lt.2 (od_ c7b8))
        try have c7b2:(9223372036854775807<(x3_1++((rd_T44 l0 x4_1).f3)).size+t191.size)=False:=eq_false (Nat.not_lt.2 c7)
        have H':=A_ H
        clear H
        have p188:0≤(x4_1:Int):=od_ (by first|(with_reducible assumption)|assumption)
        have q188:x4_1<(l0.length:Int):=od_ (by first|(with_reducible assumption)|assumption)
        obtain ⟨ad188,A188_4,c188_4,A188_5,c188_5,e188,hx188_0,hx188_1,hx188_2,hx188_3,hx188_4,hx188_5,hl188_4,hi188_4,hl188_5,hi188_5⟩:=at_T44 HR0.out x4_1 p188 q188
        cases e188
        have HR188_4:=A_ hi188_4
        have HC188_4:=A_ hl188_4
        clear hi188_4 hl188_4
        have HR188_5:=A_ hi188_5
        have HC188_5:=A_ hl188_5
        clear hi188_5 hl188_5
        replace p188:=eq_true p188
        replace q188:=eq_true q188
        have p189:0≤(x4_1:Int):=od_ (by first|(with_reducible assumption)|assumption)
        have q189:x4_1<(l0.length:Int):=od_ (by first|(with_reducible assumption)|assumption)
        obtain ⟨ad189,A189_4,c189_4,A189_5,c189_5,e189,hx189_0,hx189_1,hx189_2,hx189_3,hx189_4,hx189_5,hl189_4,hi189_4,hl189_5,hi189_5⟩:=at_T44 HR0.out x4_1 p189 q189
        obtain rfl:ad188=ad189:=(by injection e189)
        have HR189_4:=A_ hi189_4
        have HC189_4:=A_ hl189_4
        clear hi189_4 hl189_4
        have HR189_5:=A_ hi189_5
        have HC189_5:=A_ hl189_5
        clear hi189_5 hl189_5
        replace p189:=eq_true p189
        replace q189:=eq_true q189
        have ea_:=oi_ (hx188_4.symm.trans hx189_4)
        injection ea_ with ea_ en_ ec_
        subst ea_
        subst ec_
        clear en_
        have ea_:=oi_ (hx188_5.symm.trans hx189_5)
        injection ea_ with ea_ en_ ec_
        subst ea_
        subst ec_
        clear en_
        have p190:0≤(x4_1:Int):=od_ (by first|(with_reducible assumption)|assumption)
        have q190:x4_1<(l0.length:Int):=od_ (by first|(with_reducible assumption)|assumption)
        obtain ⟨ad190,A190_4,c190_4,A190_5,c190_5,e190,hx190_0,hx190_1,hx190_2,hx190_3,hx190_4,hx190_5,hl190_4,hi190_4,hl190_5,hi190_5⟩:=at_T44 HR0.out x4_1 p190 q190
        obtain rfl:ad188=ad190:=(by injection e190)
        have HR190_4:=A_ hi190_4
        have HC190_4:=A_ hl190_4
        clear hi190_4 hl190_4
        have HR190_5:=A_ hi190_5
        have HC190_5:=A_ hl190_5
        clear hi190_5 hl190_5
        replace p190:=eq_true p190
        replace q190:=eq_true q190
        have ea_:=oi_ (hx188_4.symm.trans hx190_4)
        injection ea_ with ea_ en_ ec_
        subst ea_
        subst ec_
        clear en_
        have ea_:=oi_ (hx188_5.symm.trans hx190_5)
        injection ea_ with ea_ en_ ec_
        subst ea_
        subst ec_
        clear en_
        go_wp2_with (first|((with_reducible refine gate_callee (f:=81) rfl ?_);refine goesL_ (some 30) rfl rfl Try.func81 (by kernel_rfl) rfl #[.slice A188_5 ((rd_T44 l0 x4_1).f5).length c188_5] rfl (by (try simp only [List.map_toArray,List.map_cons,List.map_nil]);first|done|rfl|(simp only [ld_,lt_];rfl)) ?_;(with_reducible refine (ih k1 (by have:=HK1.out;omega) _ _ ((rd_T44 l0 x4_1).f5) t191 _ ?side1 ?side2 A6.out).mono ?_);(case side1=>repeat (first|exact HR190_5.out|(with_reducible refine ca_ ?_ _)|(with_reducible refine cn_ ?_ _)|(with_reducible refine cd_ ?_)));(case side2=>exact HC190_5.out);rintro e w' ⟨rfl,⟨nd,rfl⟩⟩;refine ⟨_,rfl,?_⟩))
        go_roundg k1
        case measure=>have:=HK1.out;omega
        case rel=>exact ⟨((x3_1++((rd_T44 l0 x4_1).f3))++t191),(wrap64 (x4_1+1)),(by first|rfl|(simp;done)|(simp [*];done)),(by first|rfl|(simp;done)|(simp [*];done)),H',⟨by have:=HK1.out;omega⟩,by repeat (first|exact dr_ _|apply dp_)⟩
       ·rw [if_neg c7] at H
        exact absurd H (by simp)
      ·rw [if_neg c5] at H
       exact absurd H (by simp)
     ·rw [if_neg c4] at H
      have c4b0:(((rd_T44 l0 x4_1).f0) == 2)=false:=beq_eq_false_iff_ne.mpr c4
      have c4b1:(((rd_T44 l0 x4_1).f0) != 2)=true:=bne_iff_ne.mpr c4
      replace H:=ob_ H
      obtain ⟨t193,A80,H⟩:=H
      replace H:(if x3_1.size+t193.size≤9223372036854775807 then (spec_l03Text.l0 k1 l0 (x3_1++t193) (wrap64 (x4_1+1))) else (none))=some r:=H
      have A8:=A_ A80
      clear A80
      by_cases c9:x3_1.size+t193.size≤9223372036854775807
      ·rw [if_pos c9] at H
       have c9b0:=eq_true c9
       have c9b1:decide (x3_1.size+t193.size≤9223372036854775807)=true:=dt_ c9
       try have c9b2:(9223372036854775807<x3_1.size+t193.size)=False:=eq_false (Nat.not_lt.2 c9)
       have H':=A_ H
       clear H
       have p188:0≤(x4_1:Int):=od_ (by first|(with_reducible assumption)|assumption)
       have q188:x4_1<(l0.length:Int):=od_ (by first|(with_reducible assumption)|assumption)
       obtain ⟨ad188,A188_4,c188_4,A188_5,c188_5,e188,hx188_0,hx188_1,hx188_2,hx188_3,hx188_4,hx188_5,hl188_4,hi188_4,hl188_5,hi188_5⟩:=at_T44 HR0.out x4_1 p188 q188
       cases e188
       have HR188_4:=A_ hi188_4
       have HC188_4:=A_ hl188_4
       clear hi188_4 hl188_4
       have HR188_5:=A_ hi188_5
       have HC188_5:=A_ hl188_5
       clear hi188_5 hl188_5
       replace p188:=eq_true p188
       replace q188:=eq_true q188
       have p192:0≤(x4_1:Int):=od_ (by first|(with_reducible assumption)|assumption)
       have q192:x4_1<(l0.length:Int):=od_ (by first|(with_reducible assumption)|assumption)
       obtain ⟨ad192,A192_4,c192_4,A192_5,c192_5,e192,hx192_0,hx192_1,hx192_2,hx192_3,hx192_4,hx192_5,hl192_4,hi192_4,hl192_5,hi192_5⟩:=at_T44 HR0.out x4_1 p192 q192
       obtain rfl:ad188=ad192:=(by injection e192)
       have HR192_4:=A_ hi192_4
       have HC192_4:=A_ hl192_4
       clear hi192_4 hl192_4
       have HR192_5:=A_ hi192_5
       have HC192_5:=A_ hl192_5
       clear hi192_5 hl192_5
       replace p192:=eq_true p192
       replace q192:=eq_true q192
       have ea_:=oi_ (hx188_4.symm.trans hx192_4)
       injection ea_ with ea_ en_ ec_
       subst ea_
       subst ec_
       clear en_
       have ea_:=oi_ (hx188_5.symm.trans hx192_5)
       injection ea_ with ea_ en_ ec_
       subst ea_
       subst ec_
       clear en_
       go_wp2_with (first|((with_reducible refine gate_callee (f:=81) rfl ?_);refine goesL_ (some 30) rfl rfl Try.func81 (by kernel_rfl) rfl #[.slice A188_5 ((rd_T44 l0 x4_1).f5).length c188_5] rfl (by (try simp only [List.map_toArray,List.map_cons,List.map_nil]);first|done|rfl|(simp only [ld_,lt_];rfl)) ?_;(with_reducible refine (ih k1 (by have:=HK1.out;omega) _ _ ((rd_T44 l0 x4_1).f5) t193 _ ?side1 ?side2 A8.out).mono ?_);(case side1=>repeat (first|exact HR192_5.out|(with_reducible refine ca_ ?_ _)|(with_reducible refine cn_ ?_ _)|(with_reducible refine cd_ ?_)));(case side2=>exact HC192_5.out);rintro e w' ⟨rfl,⟨nd,rfl⟩⟩;refine ⟨_,rfl,?_⟩))
       go_roundg k1
       case measure=>have:=HK1.out;omega
       case rel=>exact ⟨(x3_1++t193),(wrap64 (x4_1+1)),(by first|rfl|(simp;done)|(simp [*];done)),(by first|rfl|(simp;done)|(simp [*];done)),H',⟨by have:=HK1.out;omega⟩,by repeat (first|exact dr_ _|apply dp_)⟩
      ·rw [if_neg c9] at H
       exact absurd H (by simp)
    ·rw [if_neg c3] at H
     exact absurd H (by simp)
   ·rw [if_neg c2] at H
    have c2b0:decide (x4_1<(l0.length:Int))=false:=df_ c2
    clear c2
    obtain rfl:=oi_ H
    go_wp2
    go_ret
    exact ⟨by first|rfl|(simp;done)|(simp [*];done),by repeat (first|exact dr_ _|apply dp_)⟩
/-! ### spec_l08Raw: function 51 -/
def spec_l08Raw.f (k:Nat) (a0_0:Int) (a0_1:Int) (a0_2:ByteArray) (a0_3:ByteArray) (l0_4:List (S75)) (l0_5:List (S44)):Option (Bool):=if a0_1=0 then ((spec_l01Raw.f k a0_2).bind fun t195=>(if t195=true then ((spec_l03Text.f k l0_5).bind fun t196=>((spec_l02Has.f k t196 60).bind fun t197=>(some t197))) else (some false))) else (some false)
theorem spec_l08Raw.mono:∀ a0 a1 a2 a3 a4 a5 k,LeO (spec_l08Raw.f k a0 a1 a2 a3 a4 a5) (spec_l08Raw.f (k+1) a0 a1 a2 a3 a4 a5):=by
 intro a0 a1 a2 a3 a4 a5 k
 unfold spec_l08Raw.f
 repeat' first
  | (with_reducible exact spec_l01Raw.mono _ _)
  | (with_reducible exact spec_l02Has.mono _ _ _)
  | (with_reducible exact spec_l03Text.mono _ _)
  | (with_reducible exact LeO.refl _)
  | (with_reducible exact LeO.none _)
  | (with_reducible refine LeO.ite ?_ ?_)
  | (with_reducible refine LeO.bind ?_ (fun _=>?_))
  | exact spec_l01Raw.mono _ _
  | exact spec_l02Has.mono _ _ _
  | exact spec_l03Text.mono _ _
  | exact LeO.none _
  | refine LeO.ite ?_ ?_
  | refine LeO.bind ?_ (fun _=>?_)
set_option maxHeartbeats 8000000 in
set_option maxRecDepth 100000 in
theorem spec_l08Raw.calls (k:Nat) (a0_0:Int) (a0_1:Int) (a0_2:ByteArray) (a0_3:ByteArray) (A0_4:Option Addr) (c0_4:Nat) (l0_4:List (S75)) (A0_5:Option Addr) (c0_5:Nat) (l0_5:List (S44)) (r:Bool) (w:World) (hr0_4:Kd.C k75 w A0_4 l0_4.length l0_4) (hc0_4:l0_4.length≤c0_4) (hr0_5:Kd.C k44 w A0_5 l0_5.length l0_5) (hc0_5:l0_5.length≤c0_5) (h:spec_l08Raw.f k a0_0 a0_1 a0_2 a0_3 l0_4 l0_5=some r) :
 Calls Try.prog 51 #[.agg #[.int .i64 a0_0,.int .i64 a0_1,.string a0_2,.string a0_3,.slice A0_4 l0_4.length c0_4,.slice A0_5 l0_5.length c0_5]] w fun e w'=>e=.returned (.bool r)∧Below w.heap.size w w':=by
 have hu44:=Try.underlying44
 have HR0_4:=A_ hr0_4
 have HC0_4:=A_ hc0_4
 clear hr0_4 hc0_4
 have HR0_5:=A_ hr0_5
 have HC0_5:=A_ hc0_5
 clear hr0_5 hc0_5
 have HB:=A_ (Below.refl w.heap.size w)
 have H:(if a0_1=0 then ((spec_l01Raw.f k a0_2).bind fun t195=>(if t195=true then ((spec_l03Text.f k l0_5).bind fun t196=>((spec_l02Has.f k t196 60).bind fun t197=>(some t197))) else (some false))) else (some false))=some r:=h
 clear h
 by_cases c2:a0_1=0
 ·rw [if_pos c2] at H
  have c2b0:(a0_1 == 0)=true:=beq_iff_eq.mpr c2
  have c2b1:(a0_1 != 0)=false:=bne_eq_false_iff_eq.mpr c2
  clear c2
  replace H:=ob_ H
  obtain ⟨t195,A30,H⟩:=H
  replace H:(if t195=true then ((spec_l03Text.f k l0_5).bind fun t196=>((spec_l02Has.f k t196 60).bind fun t197=>(some t197))) else (some false))=some r:=H
  have A3:=A_ A30
  clear A30
  by_cases c4:t195=true
  ·subst c4
   have H1:((spec_l03Text.f k l0_5).bind fun t196=>((spec_l02Has.f k t196 60).bind fun t197=>(some t197)))=some r:=by rw [if_pos rfl] at H;exact H
   clear H
   have H:=H1
   clear H1
   replace H:=ob_ H
   obtain ⟨t196,A50,H⟩:=H
   replace H:((spec_l02Has.f k t196 60).bind fun t197=>(some t197))=some r:=H
   have A5:=A_ A50
   clear A50
   replace H:=ob_ H
   obtain ⟨t197,A60,H⟩:=H
   replace H:(some t197)=some r:=H
   have A6:=A_ A60
   clear A60
   obtain rfl:=oi_ H
   go_enter Try.func51,Try.ntmps51
   go_wp2_with (first|((with_reducible refine gate_dst (N:=1) rfl ?_);refine box_event ?hg (N:=1) ?hd (cs:=#[.int .i64 a0_0,.int .i64 a0_1,.string a0_2,.string a0_3,.slice A0_4 l0_4.length c0_4,.slice A0_5 l0_5.length c0_5]) (t:=44) ?hr ?_;(case hd=>rfl);(case hg=>rfl);(case hr=>first|(go_simp;done)|(go_simp;rfl));intro gb194 hg w7 hbox hb;have n0_:=A_ (bp_ (by repeat (first|(with_reducible first|exact HB.out|apply ba_|apply pd_|apply b1_)|exact HB.out)) hb);have n1_:=A_ (hbox);have n2_:=A_ ((by rw [hg];exact (bz_ (by repeat (first|(with_reducible first|exact HB.out|apply ba_|apply pd_|apply b1_)|exact HB.out))):w.heap.size≤gb194));have n3_:=A_ ((by rw [hg];exact (bz_ (by repeat (first|(with_reducible first|exact HB.out|apply ba_|apply pd_|apply b1_)|exact HB.out))):w.heap.size≤gb194));clear HB;have HB:=n0_;have BK194:=n1_;have GW194:=n2_;have GE194:=n3_;clear n0_ n1_ n2_ n3_;clear hb hbox hg;have hcz8_0:w7.cell? ⟨gb194,0,none⟩=some (.int .i64 a0_0):=(bc_ BK194.out 0).trans rfl;have hcz8_1:w7.cell? ⟨gb194,1,none⟩=some (.int .i64 a0_1):=(bc_ BK194.out 1).trans rfl;have hcz8_2:w7.cell? ⟨gb194,2,none⟩=some (.string a0_2):=(bc_ BK194.out 2).trans rfl;have hcz8_3:w7.cell? ⟨gb194,3,none⟩=some (.string a0_3):=(bc_ BK194.out 3).trans rfl;have hcz8_4:w7.cell? ⟨gb194,4,none⟩=some (.slice A0_4 l0_4.length c0_4):=(bc_ BK194.out 4).trans rfl;have hcz8_5:w7.cell? ⟨gb194,5,none⟩=some (.slice A0_5 l0_5.length c0_5):=(bc_ BK194.out 5).trans rfl;have hfz8_0:=bf_ BK194.out 0;have hfz8_1:=bf_ BK194.out 1;have hfz8_2:=bf_ BK194.out 2;have hfz8_3:=bf_ BK194.out 3;have hfz8_4:=bf_ BK194.out 4;have hfz8_5:=bf_ BK194.out 5)|(go_at_call 79;(with_reducible refine (spec_l01Raw.calls k a0_2 true _ A3.out).mono ?_);rintro e w9 ⟨rfl,hb⟩;have n0_:=A_ (kb_ (g:=gb194) (o:=.cells #[.int .i64 a0_0,.int .i64 a0_1,.string a0_2,.string a0_3,.slice A0_4 l0_4.length c0_4,.slice A0_5 l0_5.length c0_5] 44 (0,0)) (by (with_reducible repeat (first|refine kn_ ?_ _|refine kd_ ?_|refine ka_ ?_ _));exact BK194.out) hb);have n1_:=A_ (bp_ (by repeat (first|(with_reducible first|exact HB.out|apply ba_|apply pd_|apply b1_|refine bs_ ?_ GE194.out)|exact HB.out)) hb);clear BK194;clear HB;have BK194:=n0_;have HB:=n1_;clear n0_ n1_;(try clear hb);(try clear hb2);(try clear hk);(try clear hi);have hcz10_0:w9.cell? ⟨gb194,0,none⟩=some (.int .i64 a0_0):=(bc_ BK194.out 0).trans rfl;have hcz10_1:w9.cell? ⟨gb194,1,none⟩=some (.int .i64 a0_1):=(bc_ BK194.out 1).trans rfl;have hcz10_2:w9.cell? ⟨gb194,2,none⟩=some (.string a0_2):=(bc_ BK194.out 2).trans rfl;have hcz10_3:w9.cell? ⟨gb194,3,none⟩=some (.string a0_3):=(bc_ BK194.out 3).trans rfl;have hcz10_4:w9.cell? ⟨gb194,4,none⟩=some (.slice A0_4 l0_4.length c0_4):=(bc_ BK194.out 4).trans rfl;have hcz10_5:w9.cell? ⟨gb194,5,none⟩=some (.slice A0_5 l0_5.length c0_5):=(bc_ BK194.out 5).trans rfl;have hfz10_0:=bf_ BK194.out 0;have hfz10_1:=bf_ BK194.out 1;have hfz10_2:=bf_ BK194.out 2;have hfz10_3:=bf_ BK194.out 3;have hfz10_4:=bf_ BK194.out 4;have hfz10_5:=bf_ BK194.out 5)|(go_at_call 81;(with_reducible refine (spec_l03Text.calls k _ _ l0_5 t196 _ ?side1 ?side2 A5.out).mono ?_);(case side1=>repeat (first|exact (cb_ HR0_5.out HB.out)|(with_reducible refine ca_ ?_ _)|(with_reducible refine cn_ ?_ _)|(with_reducible refine cd_ ?_)));(case side2=>exact HC0_5.out);rintro e w' ⟨rfl,⟨nd,rfl⟩⟩)|(go_at_call 80;(with_reducible refine (spec_l02Has.calls k t196 60 t197 _ A6.out).mono ?_);rintro e w' ⟨rfl,⟨nd,rfl⟩⟩))
   go_ret
   exact ⟨by first|rfl|(simp [errW_none,errW_some] <;> rfl)|(simp [*,errW_none,errW_some] <;> rfl),by repeat (first|(with_reducible first|exact HB.out|apply ba_|apply pd_|apply b1_|refine bs_ ?_ GE194.out)|exact HB.out)⟩
  ·replace c4:=bm_ c4
   subst c4
   have H1:(some false)=some r:=by rw [if_neg (show ¬ (false=true) by decide)] at H;exact H
   clear H
   have H:=H1
   clear H1
   obtain rfl:=oi_ H
   go_enter Try.func51,Try.ntmps51
   go_wp2_with (first|((with_reducible refine gate_dst (N:=1) rfl ?_);refine box_event ?hg (N:=1) ?hd (cs:=#[.int .i64 a0_0,.int .i64 a0_1,.string a0_2,.string a0_3,.slice A0_4 l0_4.length c0_4,.slice A0_5 l0_5.length c0_5]) (t:=44) ?hr ?_;(case hd=>rfl);(case hg=>rfl);(case hr=>first|(go_simp;done)|(go_simp;rfl));intro gb194 hg w11 hbox hb;have n0_:=A_ (bp_ (by repeat (first|(with_reducible first|exact HB.out|apply ba_|apply pd_|apply b1_)|exact HB.out)) hb);have n1_:=A_ (hbox);have n2_:=A_ ((by rw [hg];exact (bz_ (by repeat (first|(with_reducible first|exact HB.out|apply ba_|apply pd_|apply b1_)|exact HB.out))):w.heap.size≤gb194));have n3_:=A_ ((by rw [hg];exact (bz_ (by repeat (first|(with_reducible first|exact HB.out|apply ba_|apply pd_|apply b1_)|exact HB.out))):w.heap.size≤gb194));clear HB;have HB:=n0_;have BK194:=n1_;have GW194:=n2_;have GE194:=n3_;clear n0_ n1_ n2_ n3_;clear hb hbox hg;have hcz12_0:w11.cell? ⟨gb194,0,none⟩=some (.int .i64 a0_0):=(bc_ BK194.out 0).trans rfl;have hcz12_1:w11.cell? ⟨gb194,1,none⟩=some (.int .i64 a0_1):=(bc_ BK194.out 1).trans rfl;have hcz12_2:w11.cell? ⟨gb194,2,none⟩=some (.string a0_2):=(bc_ BK194.out 2).trans rfl;have hcz12_3:w11.cell? ⟨gb194,3,none⟩=some (.string a0_3):=(bc_ BK194.out 3).trans rfl;have hcz12_4:w11.cell? ⟨gb194,4,none⟩=some (.slice A0_4 l0_4.length c0_4):=(bc_ BK194.out 4).trans rfl;have hcz12_5:w11.cell? ⟨gb194,5,none⟩=some (.slice A0_5 l0_5.length c0_5):=(bc_ BK194.out 5).trans rfl;have hfz12_0:=bf_ BK194.out 0;have hfz12_1:=bf_ BK194.out 1;have hfz12_2:=bf_ BK194.out 2;have hfz12_3:=bf_ BK194.out 3;have hfz12_4:=bf_ BK194.out 4;have hfz12_5:=bf_ BK194.out 5)|(go_at_call 79;(with_reducible refine (spec_l01Raw.calls k a0_2 false _ A3.out).mono ?_);rintro e w13 ⟨rfl,hb⟩;have n0_:=A_ (kb_ (g:=gb194) (o:=.cells #[.int .i64 a0_0,.int .i64 a0_1,.string a0_2,.string a0_3,.slice A0_4 l0_4.length c0_4,.slice A0_5 l0_5.length c0_5] 44 (0,0)) (by (with_reducible repeat (first|refine kn_ ?_ _|refine kd_ ?_|refine ka_ ?_ _));exact BK194.out) hb);have n1_:=A_ (bp_ (by repeat (first|(with_reducible first|exact HB.out|apply ba_|apply pd_|apply b1_|refine bs_ ?_ GE194.out)|exact HB.out)) hb);clear BK194;clear HB;have BK194:=n0_;have HB:=n1_;clear n0_ n1_;(try clear hb);(try clear hb2);(try clear hk);(try clear hi)))
   go_ret
   exact ⟨by first|rfl|(simp [errW_none,errW_some] <;> rfl)|(simp [*,errW_none,errW_some] <;> rfl),by repeat (first|(with_reducible first|exact HB.out|apply ba_|apply pd_|apply b1_|refine bs_ ?_ GE194.out)|exact HB.out)⟩
 ·rw [if_neg c2] at H
  have c2b0:(a0_1 == 0)=false:=beq_eq_false_iff_ne.mpr c2
  have c2b1:(a0_1 != 0)=true:=bne_iff_ne.mpr c2
  obtain rfl:=oi_ H
  go_enter Try.func51,Try.ntmps51
  go_wp2_with (first|((with_reducible refine gate_dst (N:=1) rfl ?_);refine box_event ?hg (N:=1) ?hd (cs:=#[.int .i64 a0_0,.int .i64 a0_1,.string a0_2,.string a0_3,.slice A0_4 l0_4.length c0_4,.slice A0_5 l0_5.length c0_5]) (t:=44) ?hr ?_;(case hd=>rfl);(case hg=>rfl);(case hr=>first|(go_simp;done)|(go_simp;rfl));intro gb194 hg w14 hbox hb;have n0_:=A_ (bp_ (by repeat (first|(with_reducible first|exact HB.out|apply ba_|apply pd_|apply b1_)|exact HB.out)) hb);have n1_:=A_ (hbox);have n2_:=A_ ((by rw [hg];exact (bz_ (by repeat (first|(with_reducible first|exact HB.out|apply ba_|apply pd_|apply b1_)|exact HB.out))):w.heap.size≤gb194));have n3_:=A_ ((by rw [hg];exact (bz_ (by repeat (first|(with_reducible first|exact HB.out|apply ba_|apply pd_|apply b1_)|exact HB.out))):w.heap.size≤gb194));clear HB;have HB:=n0_;have BK194:=n1_;have GW194:=n2_;have GE194:=n3_;clear n0_ n1_ n2_ n3_;clear hb hbox hg;have hcz15_0:w14.cell? ⟨gb194,0,none⟩=some (.int .i64 a0_0):=(bc_ BK194.out 0).trans rfl;have hcz15_1:w14.cell? ⟨gb194,1,none⟩=some (.int .i64 a0_1):=(bc_ BK194.out 1).trans rfl;have hcz15_2:w14.cell? ⟨gb194,2,none⟩=some (.string a0_2):=(bc_ BK194.out 2).trans rfl;have hcz15_3:w14.cell? ⟨gb194,3,none⟩=some (.string a0_3):=(bc_ BK194.out 3).trans rfl;have hcz15_4:w14.cell? ⟨gb194,4,none⟩=some (.slice A0_4 l0_4.length c0_4):=(bc_ BK194.out 4).trans rfl;have hcz15_5:w14.cell? ⟨gb194,5,none⟩=some (.slice A0_5 l0_5.length c0_5):=(bc_ BK194.out 5).trans rfl;have hfz15_0:=bf_ BK194.out 0;have hfz15_1:=bf_ BK194.out 1;have hfz15_2:=bf_ BK194.out 2;have hfz15_3:=bf_ BK194.out 3;have hfz15_4:=bf_ BK194.out 4;have hfz15_5:=bf_ BK194.out 5))
  go_ret
  exact ⟨by first|rfl|(simp [errW_none,errW_some] <;> rfl)|(simp [*,errW_none,errW_some] <;> rfl),by repeat (first|(with_reducible first|exact HB.out|apply ba_|apply pd_|apply b1_|refine bs_ ?_ GE194.out)|exact HB.out)⟩
end Go.Proofs.Ytjlikemmhjclpaa.PFnExactClean
