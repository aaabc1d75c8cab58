/- By a program of this session, out of the kit's print and contracts made by hand: the machine side of a law; Lean checks it. No conditions. -/
import Derived.Test.YtfkanlbmgbkniaaGreatDoorPFnExactNextTokenx0
namespace Go.Proofs.YtfkanlbmgbkniaaGreatDoor.PFnExactNextToken
open Go.RowKit Go.Proofs.YtfkanlbmgbkniaaGreatDoorW.PrintWords Go.Proofs.YtfkanlbmgbkniaaGreatDoorW.PrintLast Go.Proofs.YtfkanlbmgbkniaaGreatDoorW.PrintMore
attribute [local go_sem] max2_int min2_int max_two min_two max_three min_three max_four min_four
set_option linter.unusedVariables false
set_option linter.unusedSimpArgs false
/-! ### spec_l01Lower: function 50 -/
def spec_l01Lower.l0:Nat→ByteArray→List Int→Int→Option (ByteArray)
 | 0,_,_,_=>none
 | k+1,x0,x3,x4=>if x4<(x0.size:Int) then (if 0≤x4 then (if (bt x0 x4)≥65 then (if (bt x0 x4)≤90 then (if x3.length<140737488355328 then (spec_l01Lower.l0 k x0 (x3++[((bt x0 x4)+32) % 256]) (wrap64 (x4+1))) else (none)) else (if x3.length<140737488355328 then (spec_l01Lower.l0 k x0 (x3++[bt x0 x4]) (wrap64 (x4+1))) else (none))) else (if x3.length<140737488355328 then (spec_l01Lower.l0 k x0 (x3++[bt x0 x4]) (wrap64 (x4+1))) else (none))) else (none)) else (some (strOfNums x3))
def spec_l01Lower.f (k:Nat) (a0:ByteArray):Option (ByteArray):=spec_l01Lower.l0 k a0 (([]:List Int)) 0
theorem spec_l01Lower.mono_l:∀ k,(∀ y0 y1 y2,LeO (spec_l01Lower.l0 k y0 y1 y2) (spec_l01Lower.l0 (k+1) y0 y1 y2))
 | 0=>fun _ _ _ r h=>by simp [spec_l01Lower.l0] at h
 | k+1=>by
  have ih0:=spec_l01Lower.mono_l k
  ·intro y0 y1 y2
   unfold spec_l01Lower.l0
   repeat' first
   | (with_reducible exact ih0 _ _ _)
   | (with_reducible exact LeO.refl _)
   | (with_reducible exact LeO.none _)
   | (with_reducible refine LeO.ite ?_ ?_)
   | (with_reducible refine LeO.bind ?_ (fun _=>?_))
   | exact ih0 _ _ _
   | exact LeO.none _
   | refine LeO.ite ?_ ?_
   | refine LeO.bind ?_ (fun _=>?_)
theorem spec_l01Lower.mono:∀ a0 k,LeO (spec_l01Lower.f k a0) (spec_l01Lower.f (k+1) a0):=by
 intro a0 k
 have ih0:=spec_l01Lower.mono_l k
 unfold spec_l01Lower.f
 repeat' first
  | (with_reducible exact ih0 _ _ _)
  | (with_reducible exact LeO.refl _)
  | (with_reducible exact LeO.none _)
  | (with_reducible refine LeO.ite ?_ ?_)
  | (with_reducible refine LeO.bind ?_ (fun _=>?_))
  | exact ih0 _ _ _
  | exact LeO.none _
  | refine LeO.ite ?_ ?_
  | refine LeO.bind ?_ (fun _=>?_)
set_option maxHeartbeats 8000000 in
set_option maxRecDepth 100000 in
theorem spec_l01Lower.calls (k:Nat) (a0:ByteArray) (r:ByteArray) (w:World) (h:spec_l01Lower.f k a0=some r) :
 Calls Tryz.prog 50 #[.string a0] w fun e w'=>e=.returned (.string r)∧Below w.heap.size w w':=by
 have HB:=A_ (Below.refl w.heap.size w)
 have H:(spec_l01Lower.l0 k a0 (([]:List Int)) 0)=some r:=h
 clear h
 obtain ⟨y104,hy104⟩:∃ y_:List Int,y_=(([]:List Int)):=⟨_,rfl⟩
 replace H:(spec_l01Lower.l0 k a0 y104 0)=some r:=by first|(rw [hy104];with_reducible exact H)|(have H2_:=(Option.bind_some _ _).symm.trans H;rw [hy104];with_reducible exact H2_)|(have H2_:=(Option.bind_some _ _).symm.trans H;with_reducible exact H2_)|with_reducible exact H|(rw [hy104];exact H)|exact H
 have Ny104:=A_ hy104
 clear hy104
 have H':=A_ H
 clear H
 go_enter Tryz.func50,Tryz.ntmps50
 go_wp2_with (first|((with_reducible refine gate_dst (N:=6) rfl ?_);refine Kd.R_lit (Kd.int .u8) _ 5 ?hg (N:=6) ?hd (xs:=([]:List Int)) (inner:=[]) (ok:=fun _=>True) (okp:=fun _=>True) ?hr ?hp (fun _ hk=>hk) trivial (Below.refl _ _) (Nat.le_refl _) (by simp) ?_;(case hd=>rfl);(case hg=>rfl);(case hr=>first|(go_simp;done)|(go_simp;rfl)|(first|(go_simp;done)|(go_simp;rfl)));(case hp=>exact (Reps.none _ _));intro v105 w2 ho3 hb hg_ hnew_;clear hg_ hnew_;(first|rw [←Ny104.out] at ho3|(simp only [Int.reduceToNat] at ho3;rw [←Ny104.out] at ho3));have n0_:=A_ (Kd.R_lower ho3 (bz_ (bq0_ HB.out)));have n1_:=A_ (bp_ (bq0_ HB.out) hb);clear HB;have HO106:=n0_;have HB:=n1_;clear n0_ n1_;clear hb ho3))
 go_loopg [3,4] k (fun kq v3 v4 w'=>∃ (x3_1:List Int) (x4_1:Int),v4=.int .i64 x4_1∧Aside0 (spec_l01Lower.l0 kq a0 x3_1 x4_1=some r)∧Aside0 (kq≤k)∧Aside0 (Kd.R (Kd.int .u8) 5 w' w.heap.size (fun _=>True) v3 x3_1)∧Aside0 (Below w.heap.size w w'))
 case atStart=>exact ⟨(y104),(0),(by first|rfl|(simp;done)|(simp [*];done)),H',⟨Nat.le_refl _⟩,⟨by (with_reducible repeat (first|apply Kd.R_alloc|apply Kd.R_drewN|apply Kd.R_drew));exact HO106.out⟩,⟨bq0_ HB.out⟩⟩
 case round =>
  clear H'
  try clear p2
  obtain ⟨x3_1,x4_1,rfl,HA,HK1,HO_3,HB⟩:=hrel
  cases gk with
  | zero=>exact absurd HA.out (by simp [spec_l01Lower.l0])
  | succ k1 =>
   have H:=HA.out
   clear HA
   simp only [spec_l01Lower.l0] at H
   by_cases c4:x4_1<(a0.size:Int)
   ·rw [if_pos c4] at H
    have c4b0:decide (x4_1<(a0.size:Int))=true:=dt_ c4
    clear c4
    by_cases c5:0≤x4_1
    ·rw [if_pos c5] at H
     have c5b0:decide (0≤x4_1)=true:=dt_ c5
     clear c5
     by_cases c7:(bt a0 x4_1)≥65
     ·rw [if_pos c7] at H
      have c7b0:decide (65≤(bt a0 x4_1))=true:=dt_ c7
      clear c7
      by_cases c8:(bt a0 x4_1)≤90
      ·rw [if_pos c8] at H
       have c8b0:decide ((bt a0 x4_1)≤90)=true:=dt_ c8
       clear c8
       by_cases c9:x3_1.length<140737488355328
       ·rw [if_pos c9] at H
        have LMc9:=A_ c9
        clear c9
        obtain ⟨y107,hy107⟩:∃ y_:List Int,y_=(x3_1++[((bt a0 x4_1)+32) % 256]):=⟨_,rfl⟩
        replace H:(spec_l01Lower.l0 k1 a0 y107 (wrap64 (x4_1+1)))=some r:=by first|(rw [hy107];with_reducible exact H)|(have H2_:=(Option.bind_some _ _).symm.trans H;rw [hy107];with_reducible exact H2_)|(have H2_:=(Option.bind_some _ _).symm.trans H;with_reducible exact H2_)|with_reducible exact H|(rw [hy107];exact H)|exact H
        have Ny107:=A_ hy107
        clear hy107
        have H':=A_ H
        clear H
        have p6:0≤(x4_1:Int):=oa_
        have q6:x4_1<(a0.size:Int):=oa_
        have hx6:=bt_at a0 x4_1
        replace p6:=eq_true p6
        replace q6:=eq_true q6
        go_wp2_with (first|((with_reducible refine gate_builtin (b:=.append) (xs:=#[.tmp 24,.tmp 26]) rfl ?_);at_builtin;refine Kd.R_append (Kd.int .u8) (w0:=w) w.heap.size rfl (.tmp 24) (.tmp 26) 54 5 (.int .u8 0) 1 rfl Tryz.underlying54 info5 rfl (by decide) (by omega) u3 x3_1 (((bt a0 x4_1)+32) % 256) [.int .u8 (((bt a0 x4_1)+32) % 256)] (fun _=>True) (fun _=>False) rfl rfl ?aP (fun _ hk=>hk.elim) ?aF ?aO ?aB ?aS ?aL ?_;(case aP=>exact rfl);(case aB=>exact (bq0_ HB.out));(case aF=>exact (fun _ _=>trivial));(case aO=>exact (rq_ HO_3.out));(case aS=>exact (bz_ (bq0_ HB.out)));(case aL=>have:=LMc9.out;omega);intro v108 w10 ho hb hg hat;rw [←Ny107.out] at ho;have n0_:=A_ (hb);have n1_:=A_ (ho);clear HB;clear HO_3;have HB:=n0_;have HO109:=n1_;clear n0_ n1_;clear ho hb hg hat))
        go_roundg k1
        case measure=>have:=HK1.out;omega
        case rel=>exact ⟨(y107),(wrap64 (x4_1+1)),(by first|rfl|(simp;done)|(simp [*];done)),H',⟨by have:=HK1.out;omega⟩,⟨by (with_reducible repeat (first|apply Kd.R_alloc|apply Kd.R_drewN|apply Kd.R_drew));exact HO109.out⟩,⟨bq0_ HB.out⟩⟩
       ·rw [if_neg c9] at H
        exact absurd H (by simp)
      ·rw [if_neg c8] at H
       have c8b0:decide ((bt a0 x4_1)≤90)=false:=df_ c8
       clear c8
       by_cases c11:x3_1.length<140737488355328
       ·rw [if_pos c11] at H
        have LMc11:=A_ c11
        clear c11
        obtain ⟨y110,hy110⟩:∃ y_:List Int,y_=(x3_1++[bt a0 x4_1]):=⟨_,rfl⟩
        replace H:(spec_l01Lower.l0 k1 a0 y110 (wrap64 (x4_1+1)))=some r:=by first|(rw [hy110];with_reducible exact H)|(have H2_:=(Option.bind_some _ _).symm.trans H;rw [hy110];with_reducible exact H2_)|(have H2_:=(Option.bind_some _ _).symm.trans H;with_reducible exact H2_)|with_reducible exact H|(rw [hy110];exact H)|exact H
        have Ny110:=A_ hy110
        clear hy110
        have H':=A_ H
        clear H
        have p6:0≤(x4_1:Int):=oa_
        have q6:x4_1<(a0.size:Int):=oa_
        have hx6:=bt_at a0 x4_1
        replace p6:=eq_true p6
        replace q6:=eq_true q6
        go_wp2_with (first|((with_reducible refine gate_builtin (b:=.append) (xs:=#[.tmp 24,.tmp 26]) rfl ?_);at_builtin;refine Kd.R_append (Kd.int .u8) (w0:=w) w.heap.size rfl (.tmp 24) (.tmp 26) 54 5 (.int .u8 0) 1 rfl Tryz.underlying54 info5 rfl (by decide) (by omega) u3 x3_1 (bt a0 x4_1) [.int .u8 (bt a0 x4_1)] (fun _=>True) (fun _=>False) rfl rfl ?aP (fun _ hk=>hk.elim) ?aF ?aO ?aB ?aS ?aL ?_;(case aP=>exact rfl);(case aB=>exact (bq0_ HB.out));(case aF=>exact (fun _ _=>trivial));(case aO=>exact (rq_ HO_3.out));(case aS=>exact (bz_ (bq0_ HB.out)));(case aL=>have:=LMc11.out;omega);intro v111 w12 ho hb hg hat;rw [←Ny110.out] at ho;have n0_:=A_ (hb);have n1_:=A_ (ho);clear HB;clear HO_3;have HB:=n0_;have HO112:=n1_;clear n0_ n1_;clear ho hb hg hat))
        go_roundg k1
        case measure=>have:=HK1.out;omega
        case rel=>exact ⟨(y110),(wrap64 (x4_1+1)),(by first|rfl|(simp;done)|(simp [*];done)),H',⟨by have:=HK1.out;omega⟩,⟨by (with_reducible repeat (first|apply Kd.R_alloc|apply Kd.R_drewN|apply Kd.R_drew));exact HO112.out⟩,⟨bq0_ HB.out⟩⟩
       ·rw [if_neg c11] at H
        exact absurd H (by simp)
     ·rw [if_neg c7] at H
      have c7b0:decide (65≤(bt a0 x4_1))=false:=df_ c7
      clear c7
      by_cases c13:x3_1.length<140737488355328
      ·rw [if_pos c13] at H
       have LMc13:=A_ c13
       clear c13
       obtain ⟨y113,hy113⟩:∃ y_:List Int,y_=(x3_1++[bt a0 x4_1]):=⟨_,rfl⟩
       replace H:(spec_l01Lower.l0 k1 a0 y113 (wrap64 (x4_1+1)))=some r:=by first|(rw [hy113];with_reducible exact H)|(have H2_:=(Option.bind_some _ _).symm.trans H;rw [hy113];with_reducible exact H2_)|(have H2_:=(Option.bind_some _ _).symm.trans H;with_reducible exact H2_)|with_reducible exact H|(rw [hy113];exact H)|exact H
       have Ny113:=A_ hy113
       clear hy113
       have H':=A_ H
       clear H
       have p6:0≤(x4_1:Int):=oa_
       have q6:x4_1<(a0.size:Int):=oa_
       have hx6:=bt_at a0 x4_1
       replace p6:=eq_true p6
       replace q6:=eq_true q6
       go_wp2_with (first|((with_reducible refine gate_builtin (b:=.append) (xs:=#[.tmp 24,.tmp 26]) rfl ?_);at_builtin;refine Kd.R_append (Kd.int .u8) (w0:=w) w.heap.size rfl (.tmp 24) (.tmp 26) 54 5 (.int .u8 0) 1 rfl Tryz.underlying54 info5 rfl (by decide) (by omega) u3 x3_1 (bt a0 x4_1) [.int .u8 (bt a0 x4_1)] (fun _=>True) (fun _=>False) rfl rfl ?aP (fun _ hk=>hk.elim) ?aF ?aO ?aB ?aS ?aL ?_;(case aP=>exact rfl);(case aB=>exact (bq0_ HB.out));(case aF=>exact (fun _ _=>trivial));(case aO=>exact (rq_ HO_3.out));(case aS=>exact (bz_ (bq0_ HB.out)));(case aL=>have:=LMc13.out;omega);intro v114 w14 ho hb hg hat;rw [←Ny113.out] at ho;have n0_:=A_ (hb);have n1_:=A_ (ho);clear HB;clear HO_3;have HB:=n0_;have HO115:=n1_;clear n0_ n1_;clear ho hb hg hat))
       go_roundg k1
       case measure=>have:=HK1.out;omega
       case rel=>exact ⟨(y113),(wrap64 (x4_1+1)),(by first|rfl|(simp;done)|(simp [*];done)),H',⟨by have:=HK1.out;omega⟩,⟨by (with_reducible repeat (first|apply Kd.R_alloc|apply Kd.R_drewN|apply Kd.R_drew));exact HO115.out⟩,⟨bq0_ HB.out⟩⟩
      ·rw [if_neg c13] at H
       exact absurd H (by simp)
    ·rw [if_neg c5] at H
     exact absurd H (by simp)
   ·rw [if_neg c4] at H
    have c4b0:decide (x4_1<(a0.size:Int))=false:=df_ c4
    clear c4
    obtain rfl:=oi_ H
    have hcv15:=own_string (P:=Tryz.prog) Tryz.underlying54 Tryz.underlying5 Tryz.underlying9 (Kd.own_of_R HO_3.out)
    go_wp2
    go_ret
    exact ⟨by first|rfl|(simp [errW_none,errW_some] <;> rfl)|(simp [*,errW_none,errW_some] <;> rfl),bq0_ HB.out⟩
/-! ### spec_l04Blank: function 51 -/
def spec_l04Blank.f (a0:Int):Option (Bool):=if a0=32 then (some true) else (if a0=9 then (some true) else (if a0=10 then (some true) else (if a0=13 then (some true) else (some (a0 == 12)))))
set_option maxHeartbeats 8000000 in
set_option maxRecDepth 100000 in
theorem spec_l04Blank.calls (a0:Int) (r:Bool) (w:World) (h:spec_l04Blank.f a0=some r) :
 Calls Tryz.prog 51 #[.int .u8 a0] w fun e w'=>e=.returned (.bool r)∧Drawn0 w w':=by
 have H:(if a0=32 then (some true) else (if a0=9 then (some true) else (if a0=10 then (some true) else (if a0=13 then (some true) else (some (a0 == 12))))))=some r:=h
 clear h
 by_cases c2:a0=32
 ·rw [if_pos c2] at H
  have c2b0:(a0 == 32)=true:=beq_iff_eq.mpr c2
  have c2b1:(a0 != 32)=false:=bne_eq_false_iff_eq.mpr c2
  clear c2
  obtain rfl:=oi_ H
  go_enter Tryz.func51,Tryz.ntmps51
  go_wp2
  go_ret
  exact ⟨by first|rfl|(simp;done)|(simp [*];done),by repeat (first|exact dr_ _|apply dp_)⟩
 ·rw [if_neg c2] at H
  have c2b0:(a0 == 32)=false:=beq_eq_false_iff_ne.mpr c2
  have c2b1:(a0 != 32)=true:=bne_iff_ne.mpr c2
  by_cases c3:a0=9
  ·rw [if_pos c3] at H
   have c3b0:(a0 == 9)=true:=beq_iff_eq.mpr c3
   have c3b1:(a0 != 9)=false:=bne_eq_false_iff_eq.mpr c3
   clear c3
   obtain rfl:=oi_ H
   go_enter Tryz.func51,Tryz.ntmps51
   go_wp2
   go_ret
   exact ⟨by first|rfl|(simp;done)|(simp [*];done),by repeat (first|exact dr_ _|apply dp_)⟩
  ·rw [if_neg c3] at H
   have c3b0:(a0 == 9)=false:=beq_eq_false_iff_ne.mpr c3
   have c3b1:(a0 != 9)=true:=bne_iff_ne.mpr c3
   by_cases c4:a0=10
   ·rw [if_pos c4] at H
    have c4b0:(a0 == 10)=true:=beq_iff_eq.mpr c4
    have c4b1:(a0 != 10)=false:=bne_eq_false_iff_eq.mpr c4
    clear c4
    obtain rfl:=oi_ H
    go_enter Tryz.func51,Tryz.ntmps51
    go_wp2
    go_ret
    exact ⟨by first|rfl|(simp;done)|(simp [*];done),by repeat (first|exact dr_ _|apply dp_)⟩
   ·rw [if_neg c4] at H
    have c4b0:(a0 == 10)=false:=beq_eq_false_iff_ne.mpr c4
    have c4b1:(a0 != 10)=true:=bne_iff_ne.mpr c4
    by_cases c5:a0=13
    ·rw [if_pos c5] at H
     have c5b0:(a0 == 13)=true:=beq_iff_eq.mpr c5
     have c5b1:(a0 != 13)=false:=bne_eq_false_iff_eq.mpr c5
     clear c5
     obtain rfl:=oi_ H
     go_enter Tryz.func51,Tryz.ntmps51
     go_wp2
     go_ret
     exact ⟨by first|rfl|(simp;done)|(simp [*];done),by repeat (first|exact dr_ _|apply dp_)⟩
    ·rw [if_neg c5] at H
     have c5b0:(a0 == 13)=false:=beq_eq_false_iff_ne.mpr c5
     have c5b1:(a0 != 13)=true:=bne_iff_ne.mpr c5
     obtain rfl:=oi_ H
     go_enter Tryz.func51,Tryz.ntmps51
     go_wp2
     go_ret
     exact ⟨by first|rfl|(simp;done)|(simp [*];done),by repeat (first|exact dr_ _|apply dp_)⟩
end Go.Proofs.YtfkanlbmgbkniaaGreatDoor.PFnExactNextToken
