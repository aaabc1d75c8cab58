/- By a program of this session, out of the kit's print and contracts made by hand: the machine side of a law; Lean checks it. No conditions. -/
import Derived.Test.YtlpncjeahdfolaaGreatDoorPFnExactSerializex0
import Derived.Test.YtlpncjeahdfolaaGreatDoorPFnExactSerializex8
namespace Go.Proofs.YtlpncjeahdfolaaGreatDoor.PFnExactSerialize
open Go.RowKit Go.Proofs.YtlpncjeahdfolaaGreatDoorW.PrintWords Go.Proofs.YtlpncjeahdfolaaGreatDoorW.PrintLast Go.Proofs.YtlpncjeahdfolaaGreatDoorW.PrintMore
attribute [local go_sem] max2_int min2_int max_two min_two max_three min_three max_four min_four
set_option linter.unusedVariables false
set_option linter.unusedSimpArgs false
/-! ### spec_l03Tree: function 17 -/
def spec_l03Tree.f (k:Nat) (l0:List (S38)):Option (Bool):=(spec_l03OK.f k l0 10).bind fun bt142=>(some bt142.2)
theorem spec_l03Tree.mono:∀ a0 k,LeO (spec_l03Tree.f k a0) (spec_l03Tree.f (k+1) a0):=by
 intro a0 k
 unfold spec_l03Tree.f
 repeat' first
  | (with_reducible exact spec_l03OK.mono _ _ _)
  | (with_reducible exact LeO.refl _)
  | (with_reducible exact LeO.none _)
  | (with_reducible refine LeO.ite ?_ ?_)
  | (with_reducible refine LeO.bind ?_ (fun _=>?_))
  | exact spec_l03OK.mono _ _ _
  | exact LeO.none _
  | refine LeO.ite ?_ ?_
  | refine LeO.bind ?_ (fun _=>?_)
set_option maxHeartbeats 8000000 in
set_option maxRecDepth 100000 in
theorem spec_l03Tree.calls (k:Nat) (A0:Option Addr) (c0:Nat) (l0:List (S38)) (r:Bool) (w:World) (hr0:Kd.C k38 w A0 l0.length l0) (hc0:l0.length≤c0) (h:spec_l03Tree.f k l0=some r) :
 Calls Tryz.prog 17 #[.slice A0 l0.length c0] w fun e w'=>e=.returned (.bool r)∧Below w.heap.size w w':=by
 have HR0:=A_ hr0
 have HC0:=A_ hc0
 clear hr0 hc0
 have HB:=A_ (Below.refl w.heap.size w)
 have H:((spec_l03OK.f k l0 10).bind fun bt142=>(some bt142.2))=some r:=h
 clear h
 replace H:=ob_ H
 obtain ⟨⟨t142,t143⟩,A20,H⟩:=H
 replace H:(some t143)=some r:=H
 have A2:=A_ A20
 clear A20
 obtain rfl:=oi_ H
 go_enter Tryz.func17,Tryz.ntmps17
 go_wp2_with (first|((with_reducible refine gate_callee (f:=32) rfl ?_);refine goesL_ (some 7) rfl rfl Tryz.func32 (by kernel_rfl) rfl #[.slice A0 l0.length c0,.int .i64 10] rfl (by (try simp only [List.map_toArray,List.map_cons,List.map_nil]);first|done|rfl|(simp only [ld_,lt_];rfl)) ?_;(with_reducible refine (spec_l03OK.calls k _ _ l0 10 t142 t143 _ ?side1 ?side2 A2.out).mono ?_);(case side1=>repeat (first|exact HR0.out|(with_reducible refine ca_ ?_ _)|(with_reducible refine cn_ ?_ _)|(with_reducible refine cd_ ?_)));(case side2=>exact HC0.out);rintro e w3 ⟨rfl,hb⟩;refine ⟨_,rfl,?_⟩;have n0_:=A_ (bp_ (by repeat (first|(with_reducible first|exact HB.out|apply ba_|apply pd_|apply b1_)|exact HB.out)) hb);clear HB;have HB:=n0_;clear n0_;(try clear hb);(try clear hb2);(try clear hk);(try clear hi)))
 go_ret
 exact ⟨by first|rfl|(simp [errW_none,errW_some] <;> rfl)|(simp [*,errW_none,errW_some] <;> rfl),by repeat (first|(with_reducible first|exact HB.out|apply ba_|apply pd_|apply b1_)|exact HB.out)⟩
/-! ### spec_l03Ask: function 10 -/
def spec_l03Ask.f (k:Nat) (l0:List (S38)):Option (Int):=if (l0.length:Int)>4096 then (some 2) else ((spec_l03Tree.f k l0).bind fun t144=>(if t144=true then (some 0) else (some 1)))
theorem spec_l03Ask.mono:∀ a0 k,LeO (spec_l03Ask.f k a0) (spec_l03Ask.f (k+1) a0):=by
 intro a0 k
 unfold spec_l03Ask.f
 repeat' first
  | (with_reducible exact spec_l03Tree.mono _ _)
  | (with_reducible exact LeO.refl _)
  | (with_reducible exact LeO.none _)
  | (with_reducible refine LeO.ite ?_ ?_)
  | (with_reducible refine LeO.bind ?_ (fun _=>?_))
  | exact spec_l03Tree.mono _ _
  | exact LeO.none _
  | refine LeO.ite ?_ ?_
  | refine LeO.bind ?_ (fun _=>?_)
set_option maxHeartbeats 8000000 in
set_option maxRecDepth 100000 in
theorem spec_l03Ask.calls (k:Nat) (A0:Option Addr) (c0:Nat) (l0:List (S38)) (r:Int) (w:World) (hr0:Kd.C k38 w A0 l0.length l0) (hc0:l0.length≤c0) (h:spec_l03Ask.f k l0=some r) :
 Calls Tryz.prog 10 #[.slice A0 l0.length c0] w fun e w'=>e=.returned (.int .i64 r)∧Below w.heap.size w w':=by
 have HR0:=A_ hr0
 have HC0:=A_ hc0
 clear hr0 hc0
 have HB:=A_ (Below.refl w.heap.size w)
 have H:(if (l0.length:Int)>4096 then (some 2) else ((spec_l03Tree.f k l0).bind fun t144=>(if t144=true then (some 0) else (some 1))))=some r:=h
 clear h
 by_cases c2:(l0.length:Int)>4096
 ·rw [if_pos c2] at H
  have c2b0:decide (4096<(l0.length:Int))=true:=dt_ c2
  have c2b1:decide (4096<l0.length)=true:=dt_ (by omega)
  clear c2
  obtain rfl:=oi_ H
  go_enter Tryz.func10,Tryz.ntmps10
  go_wp2
  go_ret
  exact ⟨by first|rfl|(simp [errW_none,errW_some] <;> rfl)|(simp [*,errW_none,errW_some] <;> rfl),by repeat (first|(with_reducible first|exact HB.out|apply ba_|apply pd_|apply b1_)|exact HB.out)⟩
 ·rw [if_neg c2] at H
  have c2b0:decide (4096<(l0.length:Int))=false:=df_ c2
  have c2b1:decide (4096<l0.length)=false:=df_ (by omega)
  clear c2
  replace H:=ob_ H
  obtain ⟨t144,A30,H⟩:=H
  replace H:(if t144=true then (some 0) else (some 1))=some r:=H
  have A3:=A_ A30
  clear A30
  by_cases c4:t144=true
  ·subst c4
   have H1:(some 0)=some r:=by rw [if_pos rfl] at H;exact H
   clear H
   have H:=H1
   clear H1
   obtain rfl:=oi_ H
   go_enter Tryz.func10,Tryz.ntmps10
   go_wp2_with (first|((with_reducible refine gate_callee (f:=17) rfl ?_);refine goesL_ (some 7) rfl rfl Tryz.func17 (by kernel_rfl) rfl #[.slice A0 l0.length c0] rfl (by (try simp only [List.map_toArray,List.map_cons,List.map_nil]);first|done|rfl|(simp only [ld_,lt_];rfl)) ?_;(with_reducible refine (spec_l03Tree.calls k _ _ l0 true _ ?side1 ?side2 A3.out).mono ?_);(case side1=>repeat (first|exact HR0.out|(with_reducible refine ca_ ?_ _)|(with_reducible refine cn_ ?_ _)|(with_reducible refine cd_ ?_)));(case side2=>exact HC0.out);rintro e w5 ⟨rfl,hb⟩;refine ⟨_,rfl,?_⟩;have n0_:=A_ (bp_ (by repeat (first|(with_reducible first|exact HB.out|apply ba_|apply pd_|apply b1_)|exact HB.out)) hb);clear HB;have HB:=n0_;clear n0_;(try clear hb);(try clear hb2);(try clear hk);(try clear hi)))
   go_ret
   exact ⟨by first|rfl|(simp [errW_none,errW_some] <;> rfl)|(simp [*,errW_none,errW_some] <;> rfl),by repeat (first|(with_reducible first|exact HB.out|apply ba_|apply pd_|apply b1_)|exact HB.out)⟩
  ·replace c4:=bm_ c4
   subst c4
   have H1:(some 1)=some r:=by rw [if_neg (show ¬ (false=true) by decide)] at H;exact H
   clear H
   have H:=H1
   clear H1
   obtain rfl:=oi_ H
   go_enter Tryz.func10,Tryz.ntmps10
   go_wp2_with (first|((with_reducible refine gate_callee (f:=17) rfl ?_);refine goesL_ (some 7) rfl rfl Tryz.func17 (by kernel_rfl) rfl #[.slice A0 l0.length c0] rfl (by (try simp only [List.map_toArray,List.map_cons,List.map_nil]);first|done|rfl|(simp only [ld_,lt_];rfl)) ?_;(with_reducible refine (spec_l03Tree.calls k _ _ l0 false _ ?side1 ?side2 A3.out).mono ?_);(case side1=>repeat (first|exact HR0.out|(with_reducible refine ca_ ?_ _)|(with_reducible refine cn_ ?_ _)|(with_reducible refine cd_ ?_)));(case side2=>exact HC0.out);rintro e w6 ⟨rfl,hb⟩;refine ⟨_,rfl,?_⟩;have n0_:=A_ (bp_ (by repeat (first|(with_reducible first|exact HB.out|apply ba_|apply pd_|apply b1_)|exact HB.out)) hb);clear HB;have HB:=n0_;clear n0_;(try clear hb);(try clear hb2);(try clear hk);(try clear hi)))
   go_ret
   exact ⟨by first|rfl|(simp [errW_none,errW_some] <;> rfl)|(simp [*,errW_none,errW_some] <;> rfl),by repeat (first|(with_reducible first|exact HB.out|apply ba_|apply pd_|apply b1_)|exact HB.out)⟩
/-! ### spec_l02Text: function 18 -/
def spec_l02Text.l0:Nat→ByteArray→ByteArray→Int→Option (ByteArray)
 | 0,_,_,_=>none
 | k+1,x0,x3,x4=>if x4<(x0.size:Int) then (if 0≤x4 then (if (bt x0 x4)=38 then (if x3.size+5≤9223372036854775807 then (spec_l02Text.l0 k x0 (x3++(⟨#[38,97,109,112,59]⟩:ByteArray)) (wrap64 (x4+1))) else (none)) else (if (bt x0 x4)=60 then (if x3.size+4≤9223372036854775807 then (spec_l02Text.l0 k x0 (x3++(⟨#[38,108,116,59]⟩:ByteArray)) (wrap64 (x4+1))) else (none)) else (if (bt x0 x4)=62 then (if x3.size+4≤9223372036854775807 then (spec_l02Text.l0 k x0 (x3++(⟨#[38,103,116,59]⟩:ByteArray)) (wrap64 (x4+1))) else (none)) else (if x4≤(wrap64 (x4+1)) then (if (wrap64 (x4+1))≤(x0.size:Int) then (if x3.size+(x0.extract (x4:Int).toNat ((wrap64 (x4+1)):Int).toNat).size≤9223372036854775807 then (spec_l02Text.l0 k x0 (x3++(x0.extract (x4:Int).toNat ((wrap64 (x4+1)):Int).toNat)) (wrap64 (x4+1))) else (none)) else (none)) else (none))))) else (none)) else (some x3)
def spec_l02Text.f (k:Nat) (a0:ByteArray):Option (ByteArray):=spec_l02Text.l0 k a0 (⟨#[]⟩:ByteArray) 0
theorem spec_l02Text.mono_l:∀ k,(∀ y0 y1 y2,LeO (spec_l02Text.l0 k y0 y1 y2) (spec_l02Text.l0 (k+1) y0 y1 y2))
 | 0=>fun _ _ _ r h=>by simp [spec_l02Text.l0] at h
 | k+1=>by
  have ih0:=spec_l02Text.mono_l k
  ·intro y0 y1 y2
   unfold spec_l02Text.l0
   repeat' first
   | (with_reducible exact ih0 _ _ _)
   | (with_reducible exact LeO.refl _)
   | (with_reducible exact LeO.none _)
   | (with_reducible refine LeO.ite ?_ ?_)
   | (with_reducible refine LeO.bind ?_ (fun _=>?_))
   | exact ih0 _ _ _
   | exact LeO.none _
   | refine LeO.ite ?_ ?_
   | refine LeO.bind ?_ (fun _=>?_)
theorem spec_l02Text.mono:∀ a0 k,LeO (spec_l02Text.f k a0) (spec_l02Text.f (k+1) a0):=by
 intro a0 k
 have ih0:=spec_l02Text.mono_l k
 unfold spec_l02Text.f
 repeat' first
  | (with_reducible exact ih0 _ _ _)
  | (with_reducible exact LeO.refl _)
  | (with_reducible exact LeO.none _)
  | (with_reducible refine LeO.ite ?_ ?_)
  | (with_reducible refine LeO.bind ?_ (fun _=>?_))
  | exact ih0 _ _ _
  | exact LeO.none _
  | refine LeO.ite ?_ ?_
  | refine LeO.bind ?_ (fun _=>?_)
set_option maxHeartbeats 8000000 in
set_option maxRecDepth 100000 in
theorem spec_l02Text.calls (k:Nat) (a0:ByteArray) (r:ByteArray) (w:World) (h:spec_l02Text.f k a0=some r) :
 Calls Tryz.prog 18 #[.string a0] w fun e w'=>e=.returned (.string r)∧Drawn0 w w':=by
 have H:(spec_l02Text.l0 k a0 (⟨#[]⟩:ByteArray) 0)=some r:=h
 clear h
 have H':=A_ H
 clear H
 go_enter Tryz.func18,Tryz.ntmps18
 go_wp2
 go_loopg [3,4] k (fun kq v3 v4 w'=>∃ (x3_1:ByteArray) (x4_1:Int),v3=.string x3_1∧v4=.int .i64 x4_1∧Aside0 (spec_l02Text.l0 kq a0 x3_1 x4_1=some r)∧Aside0 (kq≤k)∧Drawn0 w w')
 case atStart=>exact ⟨((⟨#[]⟩:ByteArray)),(0),(by first|rfl|(simp;done)|(simp [*];done)),(by first|rfl|(simp;done)|(simp [*];done)),H',⟨Nat.le_refl _⟩,by repeat (first|exact dr_ _|apply dp_)⟩
 case round =>
  clear H'
  try clear c1
  obtain ⟨x3_1,x4_1,rfl,rfl,HA,HK1,⟨m1,rfl⟩⟩:=hrel
  cases gk with
  | zero=>exact absurd HA.out (by simp [spec_l02Text.l0])
  | succ k1 =>
   have H:=HA.out
   clear HA
   simp only [spec_l02Text.l0] at H
   by_cases c2:x4_1<(a0.size:Int)
   ·rw [if_pos c2] at H
    have c2b0:decide (x4_1<(a0.size:Int))=true:=dt_ c2
    clear c2
    by_cases c3:0≤x4_1
    ·rw [if_pos c3] at H
     have c3b0:decide (0≤x4_1)=true:=dt_ c3
     clear c3
     by_cases c5:(bt a0 x4_1)=38
     ·rw [if_pos c5] at H
      have c5b0:((bt a0 x4_1) == 38)=true:=beq_iff_eq.mpr c5
      have c5b1:((bt a0 x4_1) != 38)=false:=bne_eq_false_iff_eq.mpr c5
      clear c5
      by_cases c6:x3_1.size+5≤9223372036854775807
      ·rw [if_pos c6] at H
       have c6b0:=eq_true c6
       have c6b1:decide (x3_1.size+5≤9223372036854775807)=true:=dt_ c6
       try have c6b2:(9223372036854775807<x3_1.size+5)=False:=eq_false (Nat.not_lt.2 c6)
       have H':=A_ H
       clear H
       have p4:0≤(x4_1:Int):=od_ (by first|(with_reducible assumption)|assumption)
       have q4:x4_1<(a0.size:Int):=od_ (by first|(with_reducible assumption)|assumption)
       have hx4:=bt_at a0 x4_1
       replace p4:=eq_true p4
       replace q4:=eq_true q4
       go_wp2
       go_roundg k1
       case measure=>have:=HK1.out;omega
       case rel=>exact ⟨(x3_1++(⟨#[38,97,109,112,59]⟩:ByteArray)),(wrap64 (x4_1+1)),(by first|rfl|(simp;done)|(simp [*];done)),(by first|rfl|(simp;done)|(simp [*];done)),H',⟨by have:=HK1.out;omega⟩,by repeat (first|exact dr_ _|apply dp_)⟩
      ·rw [if_neg c6] at H
       exact absurd H (by simp)
     ·rw [if_neg c5] at H
      have c5b0:((bt a0 x4_1) == 38)=false:=beq_eq_false_iff_ne.mpr c5
      have c5b1:((bt a0 x4_1) != 38)=true:=bne_iff_ne.mpr c5
      by_cases c7:(bt a0 x4_1)=60
      ·rw [if_pos c7] at H
       have c7b0:((bt a0 x4_1) == 60)=true:=beq_iff_eq.mpr c7
       have c7b1:((bt a0 x4_1) != 60)=false:=bne_eq_false_iff_eq.mpr c7
       clear c7
       by_cases c8:x3_1.size+4≤9223372036854775807
       ·rw [if_pos c8] at H
        have c8b0:=eq_true c8
        have c8b1:decide (x3_1.size+4≤9223372036854775807)=true:=dt_ c8
        try have c8b2:(9223372036854775807<x3_1.size+4)=False:=eq_false (Nat.not_lt.2 c8)
        have H':=A_ H
        clear H
        have p4:0≤(x4_1:Int):=od_ (by first|(with_reducible assumption)|assumption)
        have q4:x4_1<(a0.size:Int):=od_ (by first|(with_reducible assumption)|assumption)
        have hx4:=bt_at a0 x4_1
        replace p4:=eq_true p4
        replace q4:=eq_true q4
        go_wp2
        go_roundg k1
        case measure=>have:=HK1.out;omega
        case rel=>exact ⟨(x3_1++(⟨#[38,108,116,59]⟩:ByteArray)),(wrap64 (x4_1+1)),(by first|rfl|(simp;done)|(simp [*];done)),(by first|rfl|(simp;done)|(simp [*];done)),H',⟨by have:=HK1.out;omega⟩,by repeat (first|exact dr_ _|apply dp_)⟩
       ·rw [if_neg c8] at H
        exact absurd H (by simp)
      ·rw [if_neg c7] at H
       have c7b0:((bt a0 x4_1) == 60)=false:=beq_eq_false_iff_ne.mpr c7
       have c7b1:((bt a0 x4_1) != 60)=true:=bne_iff_ne.mpr c7
       by_cases c9:(bt a0 x4_1)=62
       ·rw [if_pos c9] at H
        have c9b0:((bt a0 x4_1) == 62)=true:=beq_iff_eq.mpr c9
        have c9b1:((bt a0 x4_1) != 62)=false:=bne_eq_false_iff_eq.mpr c9
        clear c9
        by_cases c10:x3_1.size+4≤9223372036854775807
        ·rw [if_pos c10] at H
         have c10b0:=eq_true c10
         have c10b1:decide (x3_1.size+4≤9223372036854775807)=true:=dt_ c10
         try have c10b2:(9223372036854775807<x3_1.size+4)=False:=eq_false (Nat.not_lt.2 c10)
         have H':=A_ H
         clear H
         have p4:0≤(x4_1:Int):=od_ (by first|(with_reducible assumption)|assumption)
         have q4:x4_1<(a0.size:Int):=od_ (by first|(with_reducible assumption)|assumption)
         have hx4:=bt_at a0 x4_1
         replace p4:=eq_true p4
         replace q4:=eq_true q4
         go_wp2
         go_roundg k1
         case measure=>have:=HK1.out;omega
         case rel=>exact ⟨(x3_1++(⟨#[38,103,116,59]⟩:ByteArray)),(wrap64 (x4_1+1)),(by first|rfl|(simp;done)|(simp [*];done)),(by first|rfl|(simp;done)|(simp [*];done)),H',⟨by have:=HK1.out;omega⟩,by repeat (first|exact dr_ _|apply dp_)⟩
        ·rw [if_neg c10] at H
         exact absurd H (by simp)
       ·rw [if_neg c9] at H
        have c9b0:((bt a0 x4_1) == 62)=false:=beq_eq_false_iff_ne.mpr c9
        have c9b1:((bt a0 x4_1) != 62)=true:=bne_iff_ne.mpr c9
        have c11b0:=eq_true (od_ (by first|(with_reducible assumption)|assumption):0≤x4_1)
        by_cases c12:x4_1≤(wrap64 (x4_1+1))
        ·rw [if_pos c12] at H
         have c12b0:=eq_true c12
         have c12b1:decide (x4_1≤(wrap64 (x4_1+1)))=true:=dt_ c12
         by_cases c13:(wrap64 (x4_1+1))≤(a0.size:Int)
         ·rw [if_pos c13] at H
          have c13b0:=eq_true c13
          have c13b1:decide ((wrap64 (x4_1+1))≤(a0.size:Int))=true:=dt_ c13
          by_cases c14:x3_1.size+(a0.extract (x4_1:Int).toNat ((wrap64 (x4_1+1)):Int).toNat).size≤9223372036854775807
          ·rw [if_pos c14] at H
           have c14b0:=eq_true c14
           have c14b1:decide (x3_1.size+(a0.extract (x4_1:Int).toNat ((wrap64 (x4_1+1)):Int).toNat).size≤9223372036854775807)=true:=dt_ c14
           try have c14b2:(9223372036854775807<x3_1.size+(a0.extract (x4_1:Int).toNat ((wrap64 (x4_1+1)):Int).toNat).size)=False:=eq_false (Nat.not_lt.2 c14)
           have H':=A_ H
           clear H
           have p4:0≤(x4_1:Int):=od_ (by first|(with_reducible assumption)|assumption)
           have q4:x4_1<(a0.size:Int):=od_ (by first|(with_reducible assumption)|assumption)
           have hx4:=bt_at a0 x4_1
           replace p4:=eq_true p4
           replace q4:=eq_true q4
           go_wp2
           go_roundg k1
           case measure=>have:=HK1.out;omega
           case rel=>exact ⟨(x3_1++(a0.extract (x4_1:Int).toNat ((wrap64 (x4_1+1)):Int).toNat)),(wrap64 (x4_1+1)),(by first|rfl|(simp;done)|(simp [*];done)),(by first|rfl|(simp;done)|(simp [*];done)),H',⟨by have:=HK1.out;omega⟩,by repeat (first|exact dr_ _|apply dp_)⟩
          ·rw [if_neg c14] at H
           exact absurd H (by simp)
         ·rw [if_neg c13] at H
          exact absurd H (by simp)
        ·rw [if_neg c12] at H
         exact absurd H (by simp)
    ·rw [if_neg c3] at H
     exact absurd H (by simp)
   ·rw [if_neg c2] at H
    have c2b0:decide (x4_1<(a0.size:Int))=false:=df_ c2
    clear c2
    obtain rfl:=oi_ H
    go_wp2
    go_ret
    exact ⟨by first|rfl|(simp;done)|(simp [*];done),by repeat (first|exact dr_ _|apply dp_)⟩
end Go.Proofs.YtlpncjeahdfolaaGreatDoor.PFnExactSerialize
