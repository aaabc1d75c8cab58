/- The machine side of a law, printed by a program. No conditions. -/
import Derived.Test.YtfkanlbmgbkniaaGreatDoorPFnExactTokensOfx0
namespace Go.Proofs.YtfkanlbmgbkniaaGreatDoor.PFnExactTokensOf
open Go.RowKit Go.Proofs.YtfkanlbmgbkniaaGreatDoorW.PrintWords Go.Proofs.YtfkanlbmgbkniaaGreatDoorW.PrintLast Go.Proofs.YtfkanlbmgbkniaaGreatDoorW.PrintMore
attribute [local go_sem] max2_int min2_int max_two min_two max_three min_three max_four min_four
set_option linter.unusedVariables false
set_option linter.unusedSimpArgs false
def spec_l01Lower.l0:Nat→ByteArray→List Int→Int→Option (ByteArray)
 | 0,_,_,_=>none
 | k+1,x0,x3,x4=>if x4<(x0.size:Int) then (if 0≤x4 then (if (bt x0 x4)≥65 then (if (bt x0 x4)≤90 then (if x3.length<140737488355328 then (spec_l01Lower.l0 k x0 (x3++[((bt x0 x4)+32) % 256]) (wrap64 (x4+1))) else (none)) else (if x3.length<140737488355328 then (spec_l01Lower.l0 k x0 (x3++[bt x0 x4]) (wrap64 (x4+1))) else (none))) else (if x3.length<140737488355328 then (spec_l01Lower.l0 k x0 (x3++[bt x0 x4]) (wrap64 (x4+1))) else (none))) else (none)) else (some (strOfNums x3))
def spec_l01Lower.f (k:Nat) (a0:ByteArray):Option (ByteArray):=spec_l01Lower.l0 k a0 (([]:List Int)) 0
theorem spec_l01Lower.mono_l:∀ k,(∀ y0 y1 y2,LeO (spec_l01Lower.l0 k y0 y1 y2) (spec_l01Lower.l0 (k+1) y0 y1 y2))
 | 0=>fun _ _ _ r h=>by simp [spec_l01Lower.l0] at h
 | k+1=>by
  have ih0:=spec_l01Lower.mono_l k
  ·intro y0 y1 y2
   unfold spec_l01Lower.l0
   repeat' first|(with_reducible first|exact ih0 ..|exact LeO.refl _|exact LeO.none _|refine LeO.ite ?_ ?_|refine LeO.bind ?_ (fun _=>?_))|exact ih0 ..|exact LeO.none _|refine LeO.ite ?_ ?_|refine LeO.bind ?_ (fun _=>?_)
theorem spec_l01Lower.mono:∀ a0 k,LeO (spec_l01Lower.f k a0) (spec_l01Lower.f (k+1) a0):=by
 intro a0 k
 have ih0:=spec_l01Lower.mono_l k
 unfold spec_l01Lower.f
 repeat' first|(with_reducible first|exact ih0 ..|exact LeO.refl _|exact LeO.none _|refine LeO.ite ?_ ?_|refine LeO.bind ?_ (fun _=>?_))|exact ih0 ..|exact LeO.none _|refine LeO.ite ?_ ?_|refine LeO.bind ?_ (fun _=>?_)
set_option maxHeartbeats 8000000 in
set_option maxRecDepth 100000 in
theorem spec_l01Lower.calls (k:Nat) (a0:ByteArray) (r:ByteArray) (w:World) (h:spec_l01Lower.f k a0=some r) :
 Calls Tryz.prog 50 #[.string a0] w fun e w'=>e=.returned (.string r)∧Below w.heap.size w w':=by
 have HB:=A_ (Below.refl w.heap.size w)
 have H:(spec_l01Lower.l0 k a0 (([]:List Int)) 0)=some r:=h
 clear h
 obtain ⟨y101,hy101⟩:∃ y_:List Int,y_=(([]:List Int)):=⟨_,rfl⟩
 replace H:(spec_l01Lower.l0 k a0 y101 0)=some r:=by first|(rw [hy101];with_reducible exact H)|(have H2_:=(Option.bind_some _ _).symm.trans H;rw [hy101];with_reducible exact H2_)|(have H2_:=(Option.bind_some _ _).symm.trans H;with_reducible exact H2_)|with_reducible exact H|(rw [hy101];exact H)|exact H
 have Ny101:=A_ hy101
 clear hy101
 have H':=A_ H
 clear H
 go_enter Tryz.func50,Tryz.ntmps50
 go_wp2_with (first|((with_reducible refine gate_dst (N:=6) rfl ?_);refine Kd.R_lit (Kd.int .u8) _ 5 ?hg (N:=6) ?hd (xs:=([]:List Int)) (inner:=[]) (ok:=fun _=>True) (okp:=fun _=>True) ?hr ?hp (fun _ hk=>hk) trivial (Below.refl _ _) (Nat.le_refl _) (by simp) ?_;(case hd=>rfl);(case hg=>rfl);(case hr=>first|(go_simp;done)|(go_simp;rfl)|(first|(go_simp;done)|(go_simp;rfl)));(case hp=>exact (Reps.none _ _));intro v102 w2 ho3 hb hg_ hnew_;clear hg_ hnew_;(first|rw [←Ny101.out] at ho3|(simp only [Int.reduceToNat] at ho3;rw [←Ny101.out] at ho3));have n0_:=A_ (Kd.R_lower ho3 (bz_ (bq0_ HB.out)));have n1_:=A_ (bp_ (bq0_ HB.out) hb);clear HB;have HO103:=n0_;have HB:=n1_;clear n0_ n1_;clear hb ho3))
 go_loopg [3,4] k (fun kq v3 v4 w'=>∃ (x3_1:List Int) (x4_1:Int),v4=.int .i64 x4_1∧Aside0 (spec_l01Lower.l0 kq a0 x3_1 x4_1=some r)∧Aside0 (kq≤k)∧Aside0 (Kd.R (Kd.int .u8) 5 w' w.heap.size (fun _=>True) v3 x3_1)∧Aside0 (Below w.heap.size w w'))
 case atStart=>exact ⟨(y101),(0),rs_,H',⟨Nat.le_refl _⟩,⟨by (with_reducible repeat first|apply ra_|apply rn_|apply rd_);exact HO103.out⟩,⟨bq0_ HB.out⟩⟩
 case round =>
  clear H'
  try clear p2
  obtain ⟨x3_1,x4_1,rfl,HA,HK1,HO_3,HB⟩:=hrel
  cases gk with
  | zero=>exact absurd HA.out (by simp [spec_l01Lower.l0])
  | succ k1 =>
   have H:=HA.out
   clear HA
   simp only [spec_l01Lower.l0] at H
   by_cases c4:x4_1<(a0.size:Int)
   ·rw [if_pos c4] at H
    have c4b0:decide (x4_1<(a0.size:Int))=true:=dt_ c4
    clear c4
    by_cases c5:0≤x4_1
    ·rw [if_pos c5] at H
     have c5b0:decide (0≤x4_1)=true:=dt_ c5
     clear c5
     by_cases c7:(bt a0 x4_1)≥65
     ·rw [if_pos c7] at H
      have c7b0:decide (65≤(bt a0 x4_1))=true:=dt_ c7
      clear c7
      by_cases c8:(bt a0 x4_1)≤90
      ·rw [if_pos c8] at H
       have c8b0:decide ((bt a0 x4_1)≤90)=true:=dt_ c8
       clear c8
       by_cases c9:x3_1.length<140737488355328
       ·rw [if_pos c9] at H
        have LMc9:=A_ c9
        clear c9
        obtain ⟨y104,hy104⟩:∃ y_:List Int,y_=(x3_1++[((bt a0 x4_1)+32) % 256]):=⟨_,rfl⟩
        replace H:(spec_l01Lower.l0 k1 a0 y104 (wrap64 (x4_1+1)))=some r:=by first|(rw [hy104];with_reducible exact H)|(have H2_:=(Option.bind_some _ _).symm.trans H;rw [hy104];with_reducible exact H2_)|(have H2_:=(Option.bind_some _ _).symm.trans H;with_reducible exact H2_)|with_reducible exact H|(rw [hy104];exact H)|exact H
        have Ny104:=A_ hy104
        clear hy104
        have H':=A_ H
        clear H
        have p6:0≤(x4_1:Int):=oa_
        have q6:x4_1<(a0.size:Int):=oa_
        have hx6:=bt_at a0 x4_1
        replace p6:=eq_true p6
        replace q6:=eq_true q6
        go_wp2_with (first|((with_reducible refine gate_builtin (b:=.append) (xs:=#[.tmp 24,.tmp 26]) rfl ?_);at_builtin;refine Kd.R_append (Kd.int .u8) (w0:=w) w.heap.size rfl (.tmp 24) (.tmp 26) 54 5 (.int .u8 0) 1 rfl Tryz.underlying54 info5 rfl (by decide) (by omega) u3 x3_1 (((bt a0 x4_1)+32) % 256) [.int .u8 (((bt a0 x4_1)+32) % 256)] (fun _=>True) (fun _=>False) rfl rfl ?aP (fun _ hk=>hk.elim) ?aF ?aO ?aB ?aS ?aL ?_;(case aP=>exact rfl);(case aB=>exact (bq0_ HB.out));(case aF=>exact (fun _ _=>trivial));(case aO=>exact (rq_ HO_3.out));(case aS=>exact (bz_ (bq0_ HB.out)));(case aL=>have:=LMc9.out;omega);intro v105 w10 ho hb hg hat;rw [←Ny104.out] at ho;have n0_:=A_ (hb);have n1_:=A_ (ho);clear HB;clear HO_3;have HB:=n0_;have HO106:=n1_;clear n0_ n1_;clear ho hb hg hat))
        go_roundg k1
        case measure=>have:=HK1.out;omega
        case rel=>exact ⟨(y104),(wrap64 (x4_1+1)),rs_,H',⟨by have:=HK1.out;omega⟩,⟨by (with_reducible repeat first|apply ra_|apply rn_|apply rd_);exact HO106.out⟩,⟨bq0_ HB.out⟩⟩
       ·rw [if_neg c9] at H
        exact absurd H (by simp)
      ·rw [if_neg c8] at H
       have c8b0:decide ((bt a0 x4_1)≤90)=false:=df_ c8
       clear c8
       by_cases c11:x3_1.length<140737488355328
       ·rw [if_pos c11] at H
        have LMc11:=A_ c11
        clear c11
        obtain ⟨y107,hy107⟩:∃ y_:List Int,y_=(x3_1++[bt a0 x4_1]):=⟨_,rfl⟩
        replace H:(spec_l01Lower.l0 k1 a0 y107 (wrap64 (x4_1+1)))=some r:=by first|(rw [hy107];with_reducible exact H)|(have H2_:=(Option.bind_some _ _).symm.trans H;rw [hy107];with_reducible exact H2_)|(have H2_:=(Option.bind_some _ _).symm.trans H;with_reducible exact H2_)|with_reducible exact H|(rw [hy107];exact H)|exact H
        have Ny107:=A_ hy107
        clear hy107
        have H':=A_ H
        clear H
        have p6:0≤(x4_1:Int):=oa_
        have q6:x4_1<(a0.size:Int):=oa_
        have hx6:=bt_at a0 x4_1
        replace p6:=eq_true p6
        replace q6:=eq_true q6
        go_wp2_with (first|((with_reducible refine gate_builtin (b:=.append) (xs:=#[.tmp 24,.tmp 26]) rfl ?_);at_builtin;refine Kd.R_append (Kd.int .u8) (w0:=w) w.heap.size rfl (.tmp 24) (.tmp 26) 54 5 (.int .u8 0) 1 rfl Tryz.underlying54 info5 rfl (by decide) (by omega) u3 x3_1 (bt a0 x4_1) [.int .u8 (bt a0 x4_1)] (fun _=>True) (fun _=>False) rfl rfl ?aP (fun _ hk=>hk.elim) ?aF ?aO ?aB ?aS ?aL ?_;(case aP=>exact rfl);(case aB=>exact (bq0_ HB.out));(case aF=>exact (fun _ _=>trivial));(case aO=>exact (rq_ HO_3.out));(case aS=>exact (bz_ (bq0_ HB.out)));(case aL=>have:=LMc11.out;omega);intro v108 w12 ho hb hg hat;rw [←Ny107.out] at ho;have n0_:=A_ (hb);have n1_:=A_ (ho);clear HB;clear HO_3;have HB:=n0_;have HO109:=n1_;clear n0_ n1_;clear ho hb hg hat))
        go_roundg k1
        case measure=>have:=HK1.out;omega
        case rel=>exact ⟨(y107),(wrap64 (x4_1+1)),rs_,H',⟨by have:=HK1.out;omega⟩,⟨by (with_reducible repeat first|apply ra_|apply rn_|apply rd_);exact HO109.out⟩,⟨bq0_ HB.out⟩⟩
       ·rw [if_neg c11] at H
        exact absurd H (by simp)
     ·rw [if_neg c7] at H
      have c7b0:decide (65≤(bt a0 x4_1))=false:=df_ c7
      clear c7
      by_cases c13:x3_1.length<140737488355328
      ·rw [if_pos c13] at H
       have LMc13:=A_ c13
       clear c13
       obtain ⟨y110,hy110⟩:∃ y_:List Int,y_=(x3_1++[bt a0 x4_1]):=⟨_,rfl⟩
       replace H:(spec_l01Lower.l0 k1 a0 y110 (wrap64 (x4_1+1)))=some r:=by first|(rw [hy110];with_reducible exact H)|(have H2_:=(Option.bind_some _ _).symm.trans H;rw [hy110];with_reducible exact H2_)|(have H2_:=(Option.bind_some _ _).symm.trans H;with_reducible exact H2_)|with_reducible exact H|(rw [hy110];exact H)|exact H
       have Ny110:=A_ hy110
       clear hy110
       have H':=A_ H
       clear H
       have p6:0≤(x4_1:Int):=oa_
       have q6:x4_1<(a0.size:Int):=oa_
       have hx6:=bt_at a0 x4_1
       replace p6:=eq_true p6
       replace q6:=eq_true q6
       go_wp2_with (first|((with_reducible refine gate_builtin (b:=.append) (xs:=#[.tmp 24,.tmp 26]) rfl ?_);at_builtin;refine Kd.R_append (Kd.int .u8) (w0:=w) w.heap.size rfl (.tmp 24) (.tmp 26) 54 5 (.int .u8 0) 1 rfl Tryz.underlying54 info5 rfl (by decide) (by omega) u3 x3_1 (bt a0 x4_1) [.int .u8 (bt a0 x4_1)] (fun _=>True) (fun _=>False) rfl rfl ?aP (fun _ hk=>hk.elim) ?aF ?aO ?aB ?aS ?aL ?_;(case aP=>exact rfl);(case aB=>exact (bq0_ HB.out));(case aF=>exact (fun _ _=>trivial));(case aO=>exact (rq_ HO_3.out));(case aS=>exact (bz_ (bq0_ HB.out)));(case aL=>have:=LMc13.out;omega);intro v111 w14 ho hb hg hat;rw [←Ny110.out] at ho;have n0_:=A_ (hb);have n1_:=A_ (ho);clear HB;clear HO_3;have HB:=n0_;have HO112:=n1_;clear n0_ n1_;clear ho hb hg hat))
       go_roundg k1
       case measure=>have:=HK1.out;omega
       case rel=>exact ⟨(y110),(wrap64 (x4_1+1)),rs_,H',⟨by have:=HK1.out;omega⟩,⟨by (with_reducible repeat first|apply ra_|apply rn_|apply rd_);exact HO112.out⟩,⟨bq0_ HB.out⟩⟩
      ·rw [if_neg c13] at H
       exact absurd H (by simp)
    ·rw [if_neg c5] at H
     exact absurd H (by simp)
   ·rw [if_neg c4] at H
    have c4b0:decide (x4_1<(a0.size:Int))=false:=df_ c4
    clear c4
    obtain rfl:=oi_ H
    have hcv15:=own_string (P:=Tryz.prog) Tryz.underlying54 Tryz.underlying5 Tryz.underlying9 (Kd.own_of_R HO_3.out)
    go_wp2
    go_ret
    exact ⟨by first|rfl|(simp [errW_none,errW_some] <;> rfl)|(simp [*,errW_none,errW_some] <;> rfl),bq0_ HB.out⟩
def spec_l04Blank.f (a0:Int):Option (Bool):=if a0=32 then (some true) else (if a0=9 then (some true) else (if a0=10 then (some true) else (if a0=13 then (some true) else (some (a0 == 12)))))
set_option maxHeartbeats 8000000 in
set_option maxRecDepth 100000 in
theorem spec_l04Blank.calls (a0:Int) (r:Bool) (w:World) (h:spec_l04Blank.f a0=some r) :
 Calls Tryz.prog 51 #[.int .u8 a0] w fun e w'=>e=.returned (.bool r)∧Drawn0 w w':=by
 have H:(if a0=32 then (some true) else (if a0=9 then (some true) else (if a0=10 then (some true) else (if a0=13 then (some true) else (some (a0 == 12))))))=some r:=h
 clear h
 by_cases c2:a0=32
 ·rw [if_pos c2] at H
  have c2b0:(a0 == 32)=true:=beq_iff_eq.mpr c2
  have c2b1:(a0 != 32)=false:=bne_eq_false_iff_eq.mpr c2
  clear c2
  obtain rfl:=oi_ H
  go_enter Tryz.func51,Tryz.ntmps51
  go_wp2
  go_ret
  exact ⟨by first|rfl|(simp;done)|(simp [*];done),by repeat (first|exact dr_ _|apply dp_)⟩
 ·rw [if_neg c2] at H
  have c2b0:(a0 == 32)=false:=beq_eq_false_iff_ne.mpr c2
  have c2b1:(a0 != 32)=true:=bne_iff_ne.mpr c2
  by_cases c3:a0=9
  ·rw [if_pos c3] at H
   have c3b0:(a0 == 9)=true:=beq_iff_eq.mpr c3
   have c3b1:(a0 != 9)=false:=bne_eq_false_iff_eq.mpr c3
   clear c3
   obtain rfl:=oi_ H
   go_enter Tryz.func51,Tryz.ntmps51
   go_wp2
   go_ret
   exact ⟨by first|rfl|(simp;done)|(simp [*];done),by repeat (first|exact dr_ _|apply dp_)⟩
  ·rw [if_neg c3] at H
   have c3b0:(a0 == 9)=false:=beq_eq_false_iff_ne.mpr c3
   have c3b1:(a0 != 9)=true:=bne_iff_ne.mpr c3
   by_cases c4:a0=10
   ·rw [if_pos c4] at H
    have c4b0:(a0 == 10)=true:=beq_iff_eq.mpr c4
    have c4b1:(a0 != 10)=false:=bne_eq_false_iff_eq.mpr c4
    clear c4
    obtain rfl:=oi_ H
    go_enter Tryz.func51,Tryz.ntmps51
    go_wp2
    go_ret
    exact ⟨by first|rfl|(simp;done)|(simp [*];done),by repeat (first|exact dr_ _|apply dp_)⟩
   ·rw [if_neg c4] at H
    have c4b0:(a0 == 10)=false:=beq_eq_false_iff_ne.mpr c4
    have c4b1:(a0 != 10)=true:=bne_iff_ne.mpr c4
    by_cases c5:a0=13
    ·rw [if_pos c5] at H
     have c5b0:(a0 == 13)=true:=beq_iff_eq.mpr c5
     have c5b1:(a0 != 13)=false:=bne_eq_false_iff_eq.mpr c5
     clear c5
     obtain rfl:=oi_ H
     go_enter Tryz.func51,Tryz.ntmps51
     go_wp2
     go_ret
     exact ⟨by first|rfl|(simp;done)|(simp [*];done),by repeat (first|exact dr_ _|apply dp_)⟩
    ·rw [if_neg c5] at H
     have c5b0:(a0 == 13)=false:=beq_eq_false_iff_ne.mpr c5
     have c5b1:(a0 != 13)=true:=bne_iff_ne.mpr c5
     obtain rfl:=oi_ H
     go_enter Tryz.func51,Tryz.ntmps51
     go_wp2
     go_ret
     exact ⟨by first|rfl|(simp;done)|(simp [*];done),by repeat (first|exact dr_ _|apply dp_)⟩
mutual
def spec_l04RawEnd.l0:Nat→ByteArray→ByteArray→Int→Option (Int)
 | 0,_,_,_=>none
 | k+1,x0,x2,x7=>if (wrap64 ((wrap64 (x7+2))+(x2.size:Int)))<(x0.size:Int) then (if 0≤x7 then (if x7<(x0.size:Int) then (if (bt x0 x7)=60 then (if 0≤(wrap64 (x7+1)) then (if (wrap64 (x7+1))<(x0.size:Int) then (if (bt x0 (wrap64 (x7+1)))=47 then (if 0≤(wrap64 (x7+2)) then (if (wrap64 (x7+2))≤(wrap64 ((wrap64 (x7+2))+(x2.size:Int))) then (if (wrap64 ((wrap64 (x7+2))+(x2.size:Int)))≤(x0.size:Int) then ((spec_l01Lower.f k (x0.extract ((wrap64 (x7+2)):Int).toNat ((wrap64 ((wrap64 (x7+2))+(x2.size:Int))):Int).toNat)).bind fun t113=>(spec_l04RawEnd.j1 k x0 x2 x7 (t113.toList == x2.toList))) else (none)) else (none)) else (none)) else (spec_l04RawEnd.j1 k x0 x2 x7 false)) else (none)) else (none)) else (spec_l04RawEnd.j1 k x0 x2 x7 false)) else (none)) else (none)) else (some (x0.size:Int))
def spec_l04RawEnd.j1:Nat→ByteArray→ByteArray→Int→Bool→Option (Int)
 | 0,_,_,_,_=>none
 | k+1,x0,x2,x7,x44=>if x44=true then (if 0≤(wrap64 ((wrap64 (x7+2))+(x2.size:Int))) then (if (wrap64 ((wrap64 (x7+2))+(x2.size:Int)))<(x0.size:Int) then ((spec_l04Blank.f (bt x0 (wrap64 ((wrap64 (x7+2))+(x2.size:Int))))).bind fun t114=>(if t114=true then (some x7) else (if (bt x0 (wrap64 ((wrap64 (x7+2))+(x2.size:Int))))=47 then (some x7) else (if (bt x0 (wrap64 ((wrap64 (x7+2))+(x2.size:Int))))=62 then (some x7) else (spec_l04RawEnd.l0 k x0 x2 (wrap64 (x7+1))))))) else (none)) else (none)) else (spec_l04RawEnd.l0 k x0 x2 (wrap64 (x7+1)))
end
def spec_l04RawEnd.f (k:Nat) (a0:ByteArray) (a1:Int) (a2:ByteArray):Option (Int):=spec_l04RawEnd.l0 k a0 a2 a1
theorem spec_l04RawEnd.mono_l:∀ k,(∀ y0 y1 y2,LeO (spec_l04RawEnd.l0 k y0 y1 y2) (spec_l04RawEnd.l0 (k+1) y0 y1 y2))∧(∀ y0 y1 y2 y3,LeO (spec_l04RawEnd.j1 k y0 y1 y2 y3) (spec_l04RawEnd.j1 (k+1) y0 y1 y2 y3))
 | 0=>⟨fun _ _ _ r h=>by simp [spec_l04RawEnd.l0] at h,fun _ _ _ _ r h=>by simp [spec_l04RawEnd.j1] at h⟩
 | k+1=>by
  obtain ⟨ih0,ih1⟩:=spec_l04RawEnd.mono_l k
  refine ⟨?_,?_⟩
  ·intro y0 y1 y2
   unfold spec_l04RawEnd.l0
   repeat' first|(with_reducible first|exact ih0 ..|exact ih1 ..|exact spec_l01Lower.mono ..|exact LeO.refl _|exact LeO.none _|refine LeO.ite ?_ ?_|refine LeO.bind ?_ (fun _=>?_))|exact ih0 ..|exact ih1 ..|exact LeO.none _|refine LeO.ite ?_ ?_|refine LeO.bind ?_ (fun _=>?_)
  ·intro y0 y1 y2 y3
   unfold spec_l04RawEnd.j1
   repeat' first|(with_reducible first|exact ih0 ..|exact ih1 ..|exact spec_l01Lower.mono ..|exact LeO.refl _|exact LeO.none _|refine LeO.ite ?_ ?_|refine LeO.bind ?_ (fun _=>?_))|exact ih0 ..|exact ih1 ..|exact LeO.none _|refine LeO.ite ?_ ?_|refine LeO.bind ?_ (fun _=>?_)
theorem spec_l04RawEnd.mono:∀ a0 a1 a2 k,LeO (spec_l04RawEnd.f k a0 a1 a2) (spec_l04RawEnd.f (k+1) a0 a1 a2):=by
 intro a0 a1 a2 k
 obtain ⟨ih0,ih1⟩:=spec_l04RawEnd.mono_l k
 unfold spec_l04RawEnd.f
 repeat' first|(with_reducible first|exact ih0 ..|exact ih1 ..|exact spec_l01Lower.mono ..|exact LeO.refl _|exact LeO.none _|refine LeO.ite ?_ ?_|refine LeO.bind ?_ (fun _=>?_))|exact ih0 ..|exact ih1 ..|exact LeO.none _|refine LeO.ite ?_ ?_|refine LeO.bind ?_ (fun _=>?_)
set_option maxHeartbeats 8000000 in
set_option maxRecDepth 100000 in
theorem spec_l04RawEnd.calls (k:Nat) (a0:ByteArray) (a1:Int) (a2:ByteArray) (r:Int) (w:World) (h:spec_l04RawEnd.f k a0 a1 a2=some r) :
 Calls Tryz.prog 29 #[.string a0,.int .i64 a1,.string a2] w fun e w'=>e=.returned (.int .i64 r)∧Below w.heap.size w w':=by
 have HB:=A_ (Below.refl w.heap.size w)
 have H:(spec_l04RawEnd.l0 k a0 a2 a1)=some r:=h
 clear h
 have H':=A_ H
 clear H
 go_enter Tryz.func29,Tryz.ntmps29
 go_wp2
 go_loopg [7] k (fun kq v7 w'=>∃ (x7_1:Int),v7=.int .i64 x7_1∧Aside0 (spec_l04RawEnd.l0 kq a0 a2 x7_1=some r)∧Aside0 (kq≤k)∧Aside0 (Below w.heap.size w w'))
 case atStart=>exact ⟨(a1),rs_,H',⟨Nat.le_refl _⟩,⟨bq0_ HB.out⟩⟩
 case round =>
  clear H'
  try clear c2
  try clear p2
  obtain ⟨x7_1,rfl,HA,HK1,HB⟩:=hrel
  cases gk with
  | zero=>exact absurd HA.out (by simp [spec_l04RawEnd.l0])
  | succ k1 =>
   have H:=HA.out
   clear HA
   simp only [spec_l04RawEnd.l0] at H
   by_cases c4:(wrap64 ((wrap64 (x7_1+2))+(a2.size:Int)))<(a0.size:Int)
   ·rw [if_pos c4] at H
    have c4b0:decide ((wrap64 ((wrap64 (x7_1+2))+(a2.size:Int)))<(a0.size:Int))=true:=dt_ c4
    clear c4
    have HC5:=A_ H
    clear H
    go_upto_region 4 with (fail)
    go_cut [44] (fun v44 wc=>∃ (kq:Nat) (x44_4:Bool),v44=.bool x44_4∧Aside0 (spec_l04RawEnd.j1 kq a0 a2 x7_1 x44_4=some r)∧Aside0 (kq≤k1)∧Aside0 (Below w.heap.size w wc))
    case first =>
     have H:=HC5.out
     clear HC5
     by_cases c6:0≤x7_1
     ·rw [if_pos c6] at H
      have c6b0:decide (0≤x7_1)=true:=dt_ c6
      clear c6
      (first|rw [c6b0]|(simp only [i64_w,i32_w];rw [c6b0])|skip)
      by_cases c7:x7_1<(a0.size:Int)
      ·rw [if_pos c7] at H
       have c7b0:decide (x7_1<(a0.size:Int))=true:=dt_ c7
       clear c7
       by_cases c9:(bt a0 x7_1)=60
       ·rw [if_pos c9] at H
        have c9b0:((bt a0 x7_1) == 60)=true:=beq_iff_eq.mpr c9
        have c9b1:((bt a0 x7_1) != 60)=false:=bne_eq_false_iff_eq.mpr c9
        clear c9
        obtain ⟨ji10,hji10⟩:∃ j_:Int,(wrap64 (x7_1+1))=j_:=⟨_,rfl⟩
        replace H:(if 0≤(ji10) then (if (ji10)<(a0.size:Int) then (if (bt a0 (ji10))=47 then (if 0≤(wrap64 (x7_1+2)) then (if (wrap64 (x7_1+2))≤(wrap64 ((wrap64 (x7_1+2))+(a2.size:Int))) then (if (wrap64 ((wrap64 (x7_1+2))+(a2.size:Int)))≤(a0.size:Int) then ((spec_l01Lower.f k1 (a0.extract ((wrap64 (x7_1+2)):Int).toNat ((wrap64 ((wrap64 (x7_1+2))+(a2.size:Int))):Int).toNat)).bind fun t113=>(spec_l04RawEnd.j1 k1 a0 a2 x7_1 (t113.toList == a2.toList))) else (none)) else (none)) else (none)) else (spec_l04RawEnd.j1 k1 a0 a2 x7_1 false)) else (none)) else (none))=some r:=by first|(rw [hji10] at H;exact H)|(simp only [hji10] at H ⊢;exact H)
        have hji10w:(IntKind.i64.wrap (x7_1+1))=ji10:=(i64_w _).trans hji10
        by_cases c11:0≤(ji10)
        ·rw [if_pos c11] at H
         have c11b0:decide (0≤(ji10))=true:=dt_ c11
         clear c11
         by_cases c12:(ji10)<(a0.size:Int)
         ·rw [if_pos c12] at H
          have c12b0:decide ((ji10)<(a0.size:Int))=true:=dt_ c12
          clear c12
          by_cases c14:(bt a0 (ji10))=47
          ·rw [if_pos c14] at H
           have c14b0:((bt a0 (ji10)) == 47)=true:=beq_iff_eq.mpr c14
           have c14b1:((bt a0 (ji10)) != 47)=false:=bne_eq_false_iff_eq.mpr c14
           clear c14
           obtain ⟨ji15,hji15⟩:∃ j_:Int,(wrap64 (x7_1+2))=j_:=⟨_,rfl⟩
           replace H:(if 0≤(ji15) then (if (ji15)≤(wrap64 ((ji15)+(a2.size:Int))) then (if (wrap64 ((ji15)+(a2.size:Int)))≤(a0.size:Int) then ((spec_l01Lower.f k1 (a0.extract ((ji15):Int).toNat ((wrap64 ((ji15)+(a2.size:Int))):Int).toNat)).bind fun t113=>(spec_l04RawEnd.j1 k1 a0 a2 x7_1 (t113.toList == a2.toList))) else (none)) else (none)) else (none))=some r:=by first|(rw [hji15] at H;exact H)|(simp only [hji15] at H ⊢;exact H)
           (try rw [hji15] at c4b0)
           have hji15w:(IntKind.i64.wrap (x7_1+2))=ji15:=(i64_w _).trans hji15
           (try rw [hji15] at hji10w)
           by_cases c16:0≤(ji15)
           ·rw [if_pos c16] at H
            have c16b0:=eq_true c16
            have c16b1:decide (0≤(ji15))=true:=dt_ c16
            clear c16
            by_cases c17:(ji15)≤(wrap64 ((ji15)+(a2.size:Int)))
            ·rw [if_pos c17] at H
             have c17b0:=eq_true c17
             have c17b1:decide ((ji15)≤(wrap64 ((ji15)+(a2.size:Int))))=true:=dt_ c17
             by_cases c18:(wrap64 ((ji15)+(a2.size:Int)))≤(a0.size:Int)
             ·rw [if_pos c18] at H
              have c18b0:=eq_true c18
              have c18b1:decide ((wrap64 ((ji15)+(a2.size:Int)))≤(a0.size:Int))=true:=dt_ c18
              replace H:=ob_ H
              obtain ⟨t113,A190,H⟩:=H
              replace H:(spec_l04RawEnd.j1 k1 a0 a2 x7_1 (t113.toList == a2.toList))=some r:=H
              have A19:=A_ A190
              clear A190
              have H':=A_ H
              clear H
              have p8:0≤(x7_1:Int):=oa_
              have q8:x7_1<(a0.size:Int):=oa_
              have hx8:=bt_at a0 x7_1
              replace p8:=eq_true p8
              replace q8:=eq_true q8
              have p13:0≤((ji10):Int):=oa_
              have q13:(ji10)<(a0.size:Int):=oa_
              have hx13:=bt_at a0 (ji10)
              replace p13:=eq_true p13
              replace q13:=eq_true q13
              go_wp2_with (first|(go_at_call 50;(with_reducible refine (spec_l01Lower.calls k1 (a0.extract ((ji15):Int).toNat ((wrap64 ((ji15)+(a2.size:Int))):Int).toNat) t113 _ A19.out).mono ?_);rintro e w20 ⟨rfl,hb⟩;have n0_:=A_ (bp_ (bq0_ HB.out) hb);clear HB;have HB:=n0_;clear n0_;(try clear hb);(try clear hb2);(try clear hk);(try clear hi)))
              go_meet
              case rel=>exact ⟨_,((t113.toList == a2.toList)),rs_,H',⟨by have:=HK1.out;first|omega|exact Nat.le_refl _⟩,⟨bq0_ HB.out⟩⟩
             ·rw [if_neg c18] at H
              exact absurd H (by simp)
            ·rw [if_neg c17] at H
             exact absurd H (by simp)
           ·rw [if_neg c16] at H
            exact absurd H (by simp)
          ·rw [if_neg c14] at H
           have c14b0:((bt a0 (ji10)) == 47)=false:=beq_eq_false_iff_ne.mpr c14
           have c14b1:((bt a0 (ji10)) != 47)=true:=bne_iff_ne.mpr c14
           have H':=A_ H
           clear H
           have p8:0≤(x7_1:Int):=oa_
           have q8:x7_1<(a0.size:Int):=oa_
           have hx8:=bt_at a0 x7_1
           replace p8:=eq_true p8
           replace q8:=eq_true q8
           have p13:0≤((ji10):Int):=oa_
           have q13:(ji10)<(a0.size:Int):=oa_
           have hx13:=bt_at a0 (ji10)
           replace p13:=eq_true p13
           replace q13:=eq_true q13
           go_wp2
           go_meet
           case rel=>exact ⟨_,(false),rs_,H',⟨by have:=HK1.out;first|omega|exact Nat.le_refl _⟩,⟨bq0_ HB.out⟩⟩
         ·rw [if_neg c12] at H
          exact absurd H (by simp)
        ·rw [if_neg c11] at H
         exact absurd H (by simp)
       ·rw [if_neg c9] at H
        have c9b0:((bt a0 x7_1) == 60)=false:=beq_eq_false_iff_ne.mpr c9
        have c9b1:((bt a0 x7_1) != 60)=true:=bne_iff_ne.mpr c9
        have H':=A_ H
        clear H
        have p8:0≤(x7_1:Int):=oa_
        have q8:x7_1<(a0.size:Int):=oa_
        have hx8:=bt_at a0 x7_1
        replace p8:=eq_true p8
        replace q8:=eq_true q8
        go_wp2
        go_meet
        case rel=>exact ⟨_,(false),rs_,H',⟨by have:=HK1.out;first|omega|exact Nat.le_refl _⟩,⟨bq0_ HB.out⟩⟩
      ·rw [if_neg c7] at H
       exact absurd H (by simp)
     ·rw [if_neg c6] at H
      exact absurd H (by simp)
    case rest =>
     clear HC5
     try clear c1
     try clear p1
     try clear q1
     try clear hx1
     try clear c2
     try clear p2
     try clear c4
     try clear c4b0
     try clear c6
     try clear c6b0
     try clear p6
     try clear c7
     try clear c7b0
     try clear p8
     try clear q8
     try clear hx8
     try clear c9
     try clear c9b0
     try clear c9b1
     try clear c11
     try clear c11b0
     try clear c12
     try clear c12b0
     try clear p13
     try clear q13
     try clear hx13
     try clear c14
     try clear c14b0
     try clear c14b1
     try clear c16
     try clear c16b0
     try clear c16b1
     try clear c17
     try clear c17b0
     try clear c17b1
     try clear c18
     try clear c18b0
     try clear c18b1
     try clear p13
     try clear p2
     try clear p8
     try clear q13
     try clear q8
     obtain ⟨kq,x44_4,rfl,HA,HJ4,HB⟩:=hcut
     cases kq with
     | zero=>exact absurd HA.out (by simp [spec_l04RawEnd.j1])
     | succ kj4 =>
      have H:=HA.out
      clear HA
      simp only [spec_l04RawEnd.j1] at H
      by_cases c21:x44_4=true
      ·subst c21
       have H1:(if 0≤(wrap64 ((wrap64 (x7_1+2))+(a2.size:Int))) then (if (wrap64 ((wrap64 (x7_1+2))+(a2.size:Int)))<(a0.size:Int) then ((spec_l04Blank.f (bt a0 (wrap64 ((wrap64 (x7_1+2))+(a2.size:Int))))).bind fun t114=>(if t114=true then (some x7_1) else (if (bt a0 (wrap64 ((wrap64 (x7_1+2))+(a2.size:Int))))=47 then (some x7_1) else (if (bt a0 (wrap64 ((wrap64 (x7_1+2))+(a2.size:Int))))=62 then (some x7_1) else (spec_l04RawEnd.l0 kj4 a0 a2 (wrap64 (x7_1+1))))))) else (none)) else (none))=some r:=by rw [if_pos rfl] at H;exact H
       clear H
       have H:=H1
       clear H1
       obtain ⟨ji22,hji22⟩:∃ j_:Int,(wrap64 ((wrap64 (x7_1+2))+(a2.size:Int)))=j_:=⟨_,rfl⟩
       replace H:(if 0≤(ji22) then (if (ji22)<(a0.size:Int) then ((spec_l04Blank.f (bt a0 (ji22))).bind fun t114=>(if t114=true then (some x7_1) else (if (bt a0 (ji22))=47 then (some x7_1) else (if (bt a0 (ji22))=62 then (some x7_1) else (spec_l04RawEnd.l0 kj4 a0 a2 (wrap64 (x7_1+1))))))) else (none)) else (none))=some r:=by first|(rw [hji22] at H;exact H)|(simp only [hji22] at H ⊢;exact H)
       (try rw [hji22] at c4b0)
       have hji22w:(IntKind.i64.wrap ((wrap64 (x7_1+2))+(a2.size:Int)))=ji22:=(i64_w _).trans hji22
       by_cases c23:0≤(ji22)
       ·rw [if_pos c23] at H
        have c23b0:decide (0≤(ji22))=true:=dt_ c23
        clear c23
        by_cases c24:(ji22)<(a0.size:Int)
        ·rw [if_pos c24] at H
         have c24b0:decide ((ji22)<(a0.size:Int))=true:=dt_ c24
         clear c24
         replace H:=ob_ H
         obtain ⟨t114,A260,H⟩:=H
         replace H:(if t114=true then (some x7_1) else (if (bt a0 (ji22))=47 then (some x7_1) else (if (bt a0 (ji22))=62 then (some x7_1) else (spec_l04RawEnd.l0 kj4 a0 a2 (wrap64 (x7_1+1))))))=some r:=H
         have A26:=A_ A260
         clear A260
         by_cases c27:t114=true
         ·subst c27
          have H1:(some x7_1)=some r:=by rw [if_pos rfl] at H;exact H
          clear H
          have H:=H1
          clear H1
          obtain rfl:=oi_ H
          have p25:0≤((ji22):Int):=oa_
          have q25:(ji22)<(a0.size:Int):=oa_
          have hx25:=bt_at a0 (ji22)
          replace p25:=eq_true p25
          replace q25:=eq_true q25
          go_wp2_with (first|((with_reducible refine gate_callee (f:=51) rfl ?_);refine goesL_ (some 53) rfl rfl Tryz.func51 (by kernel_rfl) rfl #[.int .u8 (bt a0 (ji22))] rfl (by (try simp only [List.map_toArray,List.map_cons,List.map_nil]);first|done|(simp only [hji22];rfl)|rfl|(simp only [ld_,lt_];rfl)) ?_;(with_reducible refine (spec_l04Blank.calls (bt a0 (ji22)) true _ A26.out).mono ?_);rintro e w' ⟨rfl,⟨nd,rfl⟩⟩;refine ⟨_,rfl,?_⟩))
          go_ret
          exact ⟨by first|rfl|(simp [errW_none,errW_some] <;> rfl)|(simp only [←hji22];first|rfl|(simp [errW_none,errW_some] <;> rfl))|(simp [*,errW_none,errW_some] <;> rfl),bq0_ HB.out⟩
         ·replace c27:=bm_ c27
          subst c27
          have H1:(if (bt a0 (ji22))=47 then (some x7_1) else (if (bt a0 (ji22))=62 then (some x7_1) else (spec_l04RawEnd.l0 kj4 a0 a2 (wrap64 (x7_1+1)))))=some r:=by rw [if_neg (show ¬ (false=true) by decide)] at H;exact H
          clear H
          have H:=H1
          clear H1
          by_cases c28:(bt a0 (ji22))=47
          ·rw [if_pos c28] at H
           have c28b0:((bt a0 (ji22)) == 47)=true:=beq_iff_eq.mpr c28
           have c28b1:((bt a0 (ji22)) != 47)=false:=bne_eq_false_iff_eq.mpr c28
           clear c28
           obtain rfl:=oi_ H
           have p25:0≤((ji22):Int):=oa_
           have q25:(ji22)<(a0.size:Int):=oa_
           have hx25:=bt_at a0 (ji22)
           replace p25:=eq_true p25
           replace q25:=eq_true q25
           go_wp2_with (first|((with_reducible refine gate_callee (f:=51) rfl ?_);refine goesL_ (some 53) rfl rfl Tryz.func51 (by kernel_rfl) rfl #[.int .u8 (bt a0 (ji22))] rfl (by (try simp only [List.map_toArray,List.map_cons,List.map_nil]);first|done|(simp only [hji22];rfl)|rfl|(simp only [ld_,lt_];rfl)) ?_;(with_reducible refine (spec_l04Blank.calls (bt a0 (ji22)) false _ A26.out).mono ?_);rintro e w' ⟨rfl,⟨nd,rfl⟩⟩;refine ⟨_,rfl,?_⟩))
           go_ret
           exact ⟨by first|rfl|(simp [errW_none,errW_some] <;> rfl)|(simp only [←hji22];first|rfl|(simp [errW_none,errW_some] <;> rfl))|(simp [*,errW_none,errW_some] <;> rfl),bq0_ HB.out⟩
          ·rw [if_neg c28] at H
           have c28b0:((bt a0 (ji22)) == 47)=false:=beq_eq_false_iff_ne.mpr c28
           have c28b1:((bt a0 (ji22)) != 47)=true:=bne_iff_ne.mpr c28
           by_cases c29:(bt a0 (ji22))=62
           ·rw [if_pos c29] at H
            have c29b0:((bt a0 (ji22)) == 62)=true:=beq_iff_eq.mpr c29
            have c29b1:((bt a0 (ji22)) != 62)=false:=bne_eq_false_iff_eq.mpr c29
            clear c29
            obtain rfl:=oi_ H
            have p25:0≤((ji22):Int):=oa_
            have q25:(ji22)<(a0.size:Int):=oa_
            have hx25:=bt_at a0 (ji22)
            replace p25:=eq_true p25
            replace q25:=eq_true q25
            go_wp2_with (first|((with_reducible refine gate_callee (f:=51) rfl ?_);refine goesL_ (some 53) rfl rfl Tryz.func51 (by kernel_rfl) rfl #[.int .u8 (bt a0 (ji22))] rfl (by (try simp only [List.map_toArray,List.map_cons,List.map_nil]);first|done|(simp only [hji22];rfl)|rfl|(simp only [ld_,lt_];rfl)) ?_;(with_reducible refine (spec_l04Blank.calls (bt a0 (ji22)) false _ A26.out).mono ?_);rintro e w' ⟨rfl,⟨nd,rfl⟩⟩;refine ⟨_,rfl,?_⟩))
            go_ret
            exact ⟨by first|rfl|(simp [errW_none,errW_some] <;> rfl)|(simp only [←hji22];first|rfl|(simp [errW_none,errW_some] <;> rfl))|(simp [*,errW_none,errW_some] <;> rfl),bq0_ HB.out⟩
           ·rw [if_neg c29] at H
            have c29b0:((bt a0 (ji22)) == 62)=false:=beq_eq_false_iff_ne.mpr c29
            have c29b1:((bt a0 (ji22)) != 62)=true:=bne_iff_ne.mpr c29
            have H':=A_ H
            clear H
            have p25:0≤((ji22):Int):=oa_
            have q25:(ji22)<(a0.size:Int):=oa_
            have hx25:=bt_at a0 (ji22)
            replace p25:=eq_true p25
            replace q25:=eq_true q25
            go_wp2_with (first|((with_reducible refine gate_callee (f:=51) rfl ?_);refine goesL_ (some 53) rfl rfl Tryz.func51 (by kernel_rfl) rfl #[.int .u8 (bt a0 (ji22))] rfl (by (try simp only [List.map_toArray,List.map_cons,List.map_nil]);first|done|(simp only [hji22];rfl)|rfl|(simp only [ld_,lt_];rfl)) ?_;(with_reducible refine (spec_l04Blank.calls (bt a0 (ji22)) false _ A26.out).mono ?_);rintro e w' ⟨rfl,⟨nd,rfl⟩⟩;refine ⟨_,rfl,?_⟩))
            go_roundg kj4
            case measure=>have:=HK1.out;have:=HJ4.out;omega
            case rel=>exact ⟨(wrap64 (x7_1+1)),rs_,H',⟨by have:=HK1.out;have:=HJ4.out;omega⟩,⟨bq0_ HB.out⟩⟩
        ·rw [if_neg c24] at H
         exact absurd H (by simp)
       ·rw [if_neg c23] at H
        exact absurd H (by simp)
      ·replace c21:=bm_ c21
       subst c21
       have H1:(spec_l04RawEnd.l0 kj4 a0 a2 (wrap64 (x7_1+1)))=some r:=by rw [if_neg (show ¬ (false=true) by decide)] at H;exact H
       clear H
       have H:=H1
       clear H1
       have H':=A_ H
       clear H
       go_wp2
       go_roundg kj4
       case measure=>have:=HK1.out;have:=HJ4.out;omega
       case rel=>exact ⟨(wrap64 (x7_1+1)),rs_,H',⟨by have:=HK1.out;have:=HJ4.out;omega⟩,⟨bq0_ HB.out⟩⟩
   ·rw [if_neg c4] at H
    have c4b0:decide ((wrap64 ((wrap64 (x7_1+2))+(a2.size:Int)))<(a0.size:Int))=false:=df_ c4
    clear c4
    obtain rfl:=oi_ H
    go_wp2
    go_ret
    exact ⟨by first|rfl|(simp [errW_none,errW_some] <;> rfl)|(simp [*,errW_none,errW_some] <;> rfl),bq0_ HB.out⟩
end Go.Proofs.YtfkanlbmgbkniaaGreatDoor.PFnExactTokensOf
