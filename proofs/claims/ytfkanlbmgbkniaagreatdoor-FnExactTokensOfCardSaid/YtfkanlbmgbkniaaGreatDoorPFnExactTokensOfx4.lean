/- The machine side of a law, printed by a program. No conditions. -/
import Derived.Test.YtfkanlbmgbkniaaGreatDoorPFnExactTokensOfx0
import Derived.Test.YtfkanlbmgbkniaaGreatDoorPFnExactTokensOfx3
namespace Go.Proofs.YtfkanlbmgbkniaaGreatDoor.PFnExactTokensOf
open Go.RowKit Go.Proofs.YtfkanlbmgbkniaaGreatDoorW.PrintWords Go.Proofs.YtfkanlbmgbkniaaGreatDoorW.PrintLast Go.Proofs.YtfkanlbmgbkniaaGreatDoorW.PrintMore
attribute [local go_sem] max2_int min2_int max_two min_two max_three min_three max_four min_four
set_option linter.unusedVariables false
set_option linter.unusedSimpArgs false
def spec_l02Un.l0:Nat→ByteArray→List Int→Int→Option (ByteArray)
 | 0,_,_,_=>none
 | k+1,x0,x3,x4=>if x4<(x0.size:Int) then (if 0≤x4 then (if (bt x0 x4)=38 then ((spec_l02One.f k x0 x4).bind fun bt126=>(if bt126.2>0 then (if x3.length<140737488355328 then (spec_l02Un.l0 k x0 (x3++[bt126.1]) (wrap64 (x4+bt126.2))) else (none)) else (if x3.length<140737488355328 then (spec_l02Un.l0 k x0 (x3++[bt x0 x4]) (wrap64 (x4+1))) else (none)))) else (if x3.length<140737488355328 then (spec_l02Un.l0 k x0 (x3++[bt x0 x4]) (wrap64 (x4+1))) else (none))) else (none)) else (some (strOfNums x3))
def spec_l02Un.f (k:Nat) (a0:ByteArray):Option (ByteArray):=spec_l02Un.l0 k a0 (([]:List Int)) 0
theorem spec_l02Un.mono_l:∀ k,(∀ y0 y1 y2,LeO (spec_l02Un.l0 k y0 y1 y2) (spec_l02Un.l0 (k+1) y0 y1 y2))
 | 0=>fun _ _ _ r h=>by simp [spec_l02Un.l0] at h
 | k+1=>by
  have ih0:=spec_l02Un.mono_l k
  ·intro y0 y1 y2
   unfold spec_l02Un.l0
   repeat' first|(with_reducible first|exact ih0 ..|exact spec_l02One.mono ..|exact LeO.refl _|exact LeO.none _|refine LeO.ite ?_ ?_|refine LeO.bind ?_ (fun _=>?_))|exact ih0 ..|exact LeO.none _|refine LeO.ite ?_ ?_|refine LeO.bind ?_ (fun _=>?_)
theorem spec_l02Un.mono:∀ a0 k,LeO (spec_l02Un.f k a0) (spec_l02Un.f (k+1) a0):=by
 intro a0 k
 have ih0:=spec_l02Un.mono_l k
 unfold spec_l02Un.f
 repeat' first|(with_reducible first|exact ih0 ..|exact spec_l02One.mono ..|exact LeO.refl _|exact LeO.none _|refine LeO.ite ?_ ?_|refine LeO.bind ?_ (fun _=>?_))|exact ih0 ..|exact LeO.none _|refine LeO.ite ?_ ?_|refine LeO.bind ?_ (fun _=>?_)
set_option maxHeartbeats 8000000 in
set_option maxRecDepth 100000 in
theorem spec_l02Un.calls (k:Nat) (a0:ByteArray) (r:ByteArray) (w:World) (h:spec_l02Un.f k a0=some r) :
 Calls Tryz.prog 52 #[.string a0] w fun e w'=>e=.returned (.string r)∧Below w.heap.size w w':=by
 have HB:=A_ (Below.refl w.heap.size w)
 have H:(spec_l02Un.l0 k a0 (([]:List Int)) 0)=some r:=h
 clear h
 obtain ⟨y123,hy123⟩:∃ y_:List Int,y_=(([]:List Int)):=⟨_,rfl⟩
 replace H:(spec_l02Un.l0 k a0 y123 0)=some r:=by first|(rw [hy123];with_reducible exact H)|(have H2_:=(Option.bind_some _ _).symm.trans H;rw [hy123];with_reducible exact H2_)|(have H2_:=(Option.bind_some _ _).symm.trans H;with_reducible exact H2_)|with_reducible exact H|(rw [hy123];exact H)|exact H
 have Ny123:=A_ hy123
 clear hy123
 have H':=A_ H
 clear H
 go_enter Tryz.func52,Tryz.ntmps52
 go_wp2_with (first|((with_reducible refine gate_dst (N:=7) rfl ?_);refine Kd.R_lit (Kd.int .u8) _ 5 ?hg (N:=7) ?hd (xs:=([]:List Int)) (inner:=[]) (ok:=fun _=>True) (okp:=fun _=>True) ?hr ?hp (fun _ hk=>hk) trivial (Below.refl _ _) (Nat.le_refl _) (by simp) ?_;(case hd=>rfl);(case hg=>rfl);(case hr=>first|(go_simp;done)|(go_simp;rfl)|(first|(go_simp;done)|(go_simp;rfl)));(case hp=>exact (Reps.none _ _));intro v124 w2 ho3 hb hg_ hnew_;clear hg_ hnew_;(first|rw [←Ny123.out] at ho3|(simp only [Int.reduceToNat] at ho3;rw [←Ny123.out] at ho3));have n0_:=A_ (Kd.R_lower ho3 (bz_ (bq0_ HB.out)));have n1_:=A_ (bp_ (bq0_ HB.out) hb);clear HB;have HO125:=n0_;have HB:=n1_;clear n0_ n1_;clear hb ho3))
 go_loopg [3,4] k (fun kq v3 v4 w'=>∃ (x3_1:List Int) (x4_1:Int),v4=.int .i64 x4_1∧Aside0 (spec_l02Un.l0 kq a0 x3_1 x4_1=some r)∧Aside0 (kq≤k)∧Aside0 (Kd.R (Kd.int .u8) 5 w' w.heap.size (fun _=>True) v3 x3_1)∧Aside0 (Below w.heap.size w w'))
 case atStart=>exact ⟨(y123),(0),rs_,H',⟨Nat.le_refl _⟩,⟨by (with_reducible repeat first|apply ra_|apply rn_|apply rd_);exact HO125.out⟩,⟨bq0_ HB.out⟩⟩
 case round =>
  clear H'
  try clear p2
  obtain ⟨x3_1,x4_1,rfl,HA,HK1,HO_3,HB⟩:=hrel
  cases gk with
  | zero=>exact absurd HA.out (by simp [spec_l02Un.l0])
  | succ k1 =>
   have H:=HA.out
   clear HA
   simp only [spec_l02Un.l0] at H
   by_cases c4:x4_1<(a0.size:Int)
   ·rw [if_pos c4] at H
    have c4b0:decide (x4_1<(a0.size:Int))=true:=dt_ c4
    clear c4
    by_cases c5:0≤x4_1
    ·rw [if_pos c5] at H
     have c5b0:decide (0≤x4_1)=true:=dt_ c5
     clear c5
     by_cases c7:(bt a0 x4_1)=38
     ·rw [if_pos c7] at H
      have c7b0:((bt a0 x4_1) == 38)=true:=beq_iff_eq.mpr c7
      have c7b1:((bt a0 x4_1) != 38)=false:=bne_eq_false_iff_eq.mpr c7
      clear c7
      replace H:=ob_ H
      obtain ⟨⟨t126,t127⟩,A80,H⟩:=H
      replace H:(if t127>0 then (if x3_1.length<140737488355328 then (spec_l02Un.l0 k1 a0 (x3_1++[t126]) (wrap64 (x4_1+t127))) else (none)) else (if x3_1.length<140737488355328 then (spec_l02Un.l0 k1 a0 (x3_1++[bt a0 x4_1]) (wrap64 (x4_1+1))) else (none)))=some r:=H
      have A8:=A_ A80
      clear A80
      by_cases c9:t127>0
      ·rw [if_pos c9] at H
       have c9b0:decide (0<t127)=true:=dt_ c9
       clear c9
       by_cases c10:x3_1.length<140737488355328
       ·rw [if_pos c10] at H
        have LMc10:=A_ c10
        clear c10
        obtain ⟨y128,hy128⟩:∃ y_:List Int,y_=(x3_1++[t126]):=⟨_,rfl⟩
        replace H:(spec_l02Un.l0 k1 a0 y128 (wrap64 (x4_1+t127)))=some r:=by first|(rw [hy128];with_reducible exact H)|(have H2_:=(Option.bind_some _ _).symm.trans H;rw [hy128];with_reducible exact H2_)|(have H2_:=(Option.bind_some _ _).symm.trans H;with_reducible exact H2_)|with_reducible exact H|(rw [hy128];exact H)|exact H
        have Ny128:=A_ hy128
        clear hy128
        have H':=A_ H
        clear H
        have p6:0≤(x4_1:Int):=oa_
        have q6:x4_1<(a0.size:Int):=oa_
        have hx6:=bt_at a0 x4_1
        replace p6:=eq_true p6
        replace q6:=eq_true q6
        go_wp2_with (first|((with_reducible refine gate_callee (f:=70) rfl ?_);refine gl_ (some 19) rfl rfl Tryz.func70 (by kernel_rfl) rfl #[.string a0,.int .i64 x4_1] rfl  ?_;(with_reducible refine (spec_l02One.calls k1 a0 x4_1 t126 t127 _ A8.out).mono ?_);rintro e w11 ⟨rfl,hb⟩;refine ⟨_,rfl,?_⟩;have n0_:=A_ (Kd.R_below (rq_ HO_3.out) hb);have n1_:=A_ (bp_ (bq0_ HB.out) hb);clear HO_3;clear HB;have HO_3:=n0_;have HB:=n1_;clear n0_ n1_;(try clear hb);(try clear hb2);(try clear hk);(try clear hi))|((with_reducible refine gate_builtin (b:=.append) (xs:=#[.tmp 24,.tmp 26]) rfl ?_);at_builtin;refine Kd.R_append (Kd.int .u8) (w0:=w) w.heap.size rfl (.tmp 24) (.tmp 26) 54 5 (.int .u8 0) 1 rfl Tryz.underlying54 info5 rfl (by decide) (by omega) u3 x3_1 t126 [.int .u8 t126] (fun _=>True) (fun _=>False) rfl rfl ?aP (fun _ hk=>hk.elim) ?aF ?aO ?aB ?aS ?aL ?_;(case aP=>exact rfl);(case aB=>exact (bq0_ HB.out));(case aF=>exact (fun _ _=>trivial));(case aO=>exact (rq_ HO_3.out));(case aS=>exact (bz_ (bq0_ HB.out)));(case aL=>have:=LMc10.out;omega);intro v129 w12 ho hb hg hat;rw [←Ny128.out] at ho;have n0_:=A_ (hb);have n1_:=A_ (ho);clear HB;clear HO_3;have HB:=n0_;have HO130:=n1_;clear n0_ n1_;clear ho hb hg hat))
        go_roundg k1
        case measure=>have:=HK1.out;omega
        case rel=>exact ⟨(y128),(wrap64 (x4_1+t127)),rs_,H',⟨by have:=HK1.out;omega⟩,⟨by (with_reducible repeat first|apply ra_|apply rn_|apply rd_);exact HO130.out⟩,⟨bq0_ HB.out⟩⟩
       ·rw [if_neg c10] at H
        exact absurd H (by simp)
      ·rw [if_neg c9] at H
       have c9b0:decide (0<t127)=false:=df_ c9
       clear c9
       by_cases c14:x3_1.length<140737488355328
       ·rw [if_pos c14] at H
        have LMc14:=A_ c14
        clear c14
        obtain ⟨y131,hy131⟩:∃ y_:List Int,y_=(x3_1++[bt a0 x4_1]):=⟨_,rfl⟩
        replace H:(spec_l02Un.l0 k1 a0 y131 (wrap64 (x4_1+1)))=some r:=by first|(rw [hy131];with_reducible exact H)|(have H2_:=(Option.bind_some _ _).symm.trans H;rw [hy131];with_reducible exact H2_)|(have H2_:=(Option.bind_some _ _).symm.trans H;with_reducible exact H2_)|with_reducible exact H|(rw [hy131];exact H)|exact H
        have Ny131:=A_ hy131
        clear hy131
        have H':=A_ H
        clear H
        have p6:0≤(x4_1:Int):=oa_
        have q6:x4_1<(a0.size:Int):=oa_
        have hx6:=bt_at a0 x4_1
        replace p6:=eq_true p6
        replace q6:=eq_true q6
        go_wp2_with (first|((with_reducible refine gate_callee (f:=70) rfl ?_);refine gl_ (some 19) rfl rfl Tryz.func70 (by kernel_rfl) rfl #[.string a0,.int .i64 x4_1] rfl  ?_;(with_reducible refine (spec_l02One.calls k1 a0 x4_1 t126 t127 _ A8.out).mono ?_);rintro e w15 ⟨rfl,hb⟩;refine ⟨_,rfl,?_⟩;have n0_:=A_ (Kd.R_below (rq_ HO_3.out) hb);have n1_:=A_ (bp_ (bq0_ HB.out) hb);clear HO_3;clear HB;have HO_3:=n0_;have HB:=n1_;clear n0_ n1_;(try clear hb);(try clear hb2);(try clear hk);(try clear hi);have p13:0≤(x4_1:Int):=oa_;have q13:x4_1<(a0.size:Int):=oa_;have hx13:=bt_at a0 x4_1;replace p13:=eq_true p13;replace q13:=eq_true q13)|((with_reducible refine gate_builtin (b:=.append) (xs:=#[.tmp 31,.tmp 35]) rfl ?_);at_builtin;refine Kd.R_append (Kd.int .u8) (w0:=w) w.heap.size rfl (.tmp 31) (.tmp 35) 54 5 (.int .u8 0) 1 rfl Tryz.underlying54 info5 rfl (by decide) (by omega) u3 x3_1 (bt a0 x4_1) [.int .u8 (bt a0 x4_1)] (fun _=>True) (fun _=>False) rfl rfl ?aP (fun _ hk=>hk.elim) ?aF ?aO ?aB ?aS ?aL ?_;(case aP=>exact rfl);(case aB=>exact (bq0_ HB.out));(case aF=>exact (fun _ _=>trivial));(case aO=>exact (rq_ HO_3.out));(case aS=>exact (bz_ (bq0_ HB.out)));(case aL=>have:=LMc14.out;omega);intro v132 w16 ho hb hg hat;rw [←Ny131.out] at ho;have n0_:=A_ (hb);have n1_:=A_ (ho);clear HB;clear HO_3;have HB:=n0_;have HO133:=n1_;clear n0_ n1_;clear ho hb hg hat))
        go_roundg k1
        case measure=>have:=HK1.out;omega
        case rel=>exact ⟨(y131),(wrap64 (x4_1+1)),rs_,H',⟨by have:=HK1.out;omega⟩,⟨by (with_reducible repeat first|apply ra_|apply rn_|apply rd_);exact HO133.out⟩,⟨bq0_ HB.out⟩⟩
       ·rw [if_neg c14] at H
        exact absurd H (by simp)
     ·rw [if_neg c7] at H
      have c7b0:((bt a0 x4_1) == 38)=false:=beq_eq_false_iff_ne.mpr c7
      have c7b1:((bt a0 x4_1) != 38)=true:=bne_iff_ne.mpr c7
      by_cases c18:x3_1.length<140737488355328
      ·rw [if_pos c18] at H
       have LMc18:=A_ c18
       clear c18
       obtain ⟨y134,hy134⟩:∃ y_:List Int,y_=(x3_1++[bt a0 x4_1]):=⟨_,rfl⟩
       replace H:(spec_l02Un.l0 k1 a0 y134 (wrap64 (x4_1+1)))=some r:=by first|(rw [hy134];with_reducible exact H)|(have H2_:=(Option.bind_some _ _).symm.trans H;rw [hy134];with_reducible exact H2_)|(have H2_:=(Option.bind_some _ _).symm.trans H;with_reducible exact H2_)|with_reducible exact H|(rw [hy134];exact H)|exact H
       have Ny134:=A_ hy134
       clear hy134
       have H':=A_ H
       clear H
       have p6:0≤(x4_1:Int):=oa_
       have q6:x4_1<(a0.size:Int):=oa_
       have hx6:=bt_at a0 x4_1
       replace p6:=eq_true p6
       replace q6:=eq_true q6
       have p17:0≤(x4_1:Int):=oa_
       have q17:x4_1<(a0.size:Int):=oa_
       have hx17:=bt_at a0 x4_1
       replace p17:=eq_true p17
       replace q17:=eq_true q17
       go_wp2_with (first|((with_reducible refine gate_builtin (b:=.append) (xs:=#[.tmp 31,.tmp 35]) rfl ?_);at_builtin;refine Kd.R_append (Kd.int .u8) (w0:=w) w.heap.size rfl (.tmp 31) (.tmp 35) 54 5 (.int .u8 0) 1 rfl Tryz.underlying54 info5 rfl (by decide) (by omega) u3 x3_1 (bt a0 x4_1) [.int .u8 (bt a0 x4_1)] (fun _=>True) (fun _=>False) rfl rfl ?aP (fun _ hk=>hk.elim) ?aF ?aO ?aB ?aS ?aL ?_;(case aP=>exact rfl);(case aB=>exact (bq0_ HB.out));(case aF=>exact (fun _ _=>trivial));(case aO=>exact (rq_ HO_3.out));(case aS=>exact (bz_ (bq0_ HB.out)));(case aL=>have:=LMc18.out;omega);intro v135 w19 ho hb hg hat;rw [←Ny134.out] at ho;have n0_:=A_ (hb);have n1_:=A_ (ho);clear HB;clear HO_3;have HB:=n0_;have HO136:=n1_;clear n0_ n1_;clear ho hb hg hat))
       go_roundg k1
       case measure=>have:=HK1.out;omega
       case rel=>exact ⟨(y134),(wrap64 (x4_1+1)),rs_,H',⟨by have:=HK1.out;omega⟩,⟨by (with_reducible repeat first|apply ra_|apply rn_|apply rd_);exact HO136.out⟩,⟨bq0_ HB.out⟩⟩
      ·rw [if_neg c18] at H
       exact absurd H (by simp)
    ·rw [if_neg c5] at H
     exact absurd H (by simp)
   ·rw [if_neg c4] at H
    have c4b0:decide (x4_1<(a0.size:Int))=false:=df_ c4
    clear c4
    obtain rfl:=oi_ H
    have hcv20:=own_string (P:=Tryz.prog) Tryz.underlying54 Tryz.underlying5 Tryz.underlying9 (Kd.own_of_R HO_3.out)
    go_wp2
    go_ret
    exact ⟨by first|rfl|(simp [errW_none,errW_some] <;> rfl)|(simp [*,errW_none,errW_some] <;> rfl),bq0_ HB.out⟩
def spec_l04Words.l0:Nat→ByteArray→Int→Int→Option (Int × Int × Int × ByteArray × ByteArray × (List (S52)) × Bool)
 | 0,_,_,_=>none
 | k+1,x0,x1,x5=>if x5<(x0.size:Int) then (if 0≤x5 then (if (bt x0 x5)=60 then (if 0≤x1 then (if x1≤x5 then (if x5≤(x0.size:Int) then ((spec_l02Un.f k (x0.extract (x1:Int).toNat (x5:Int).toNat)).bind fun t138=>(some (1,x1,wrap64 (x5 - x1),(⟨#[]⟩:ByteArray),t138,([]:List (S52)),false))) else (none)) else (none)) else (none)) else (spec_l04Words.l0 k x0 x1 (wrap64 (x5+1)))) else (none)) else (if 0≤x1 then (if x1≤x5 then (if x5≤(x0.size:Int) then ((spec_l02Un.f k (x0.extract (x1:Int).toNat (x5:Int).toNat)).bind fun t139=>(some (1,x1,wrap64 (x5 - x1),(⟨#[]⟩:ByteArray),t139,([]:List (S52)),false))) else (none)) else (none)) else (none))
def spec_l04Words.f (k:Nat) (a0:ByteArray) (a1:Int):Option (Int × Int × Int × ByteArray × ByteArray × (List (S52)) × Bool):=spec_l04Words.l0 k a0 a1 (wrap64 (a1+1))
theorem spec_l04Words.mono_l:∀ k,(∀ y0 y1 y2,LeO (spec_l04Words.l0 k y0 y1 y2) (spec_l04Words.l0 (k+1) y0 y1 y2))
 | 0=>fun _ _ _ r h=>by simp [spec_l04Words.l0] at h
 | k+1=>by
  have ih0:=spec_l04Words.mono_l k
  ·intro y0 y1 y2
   unfold spec_l04Words.l0
   repeat' first|(with_reducible first|exact ih0 ..|exact spec_l02Un.mono ..|exact LeO.refl _|exact LeO.none _|refine LeO.ite ?_ ?_|refine LeO.bind ?_ (fun _=>?_))|exact ih0 ..|exact LeO.none _|refine LeO.ite ?_ ?_|refine LeO.bind ?_ (fun _=>?_)
theorem spec_l04Words.mono:∀ a0 a1 k,LeO (spec_l04Words.f k a0 a1) (spec_l04Words.f (k+1) a0 a1):=by
 intro a0 a1 k
 have ih0:=spec_l04Words.mono_l k
 unfold spec_l04Words.f
 repeat' first|(with_reducible first|exact ih0 ..|exact spec_l02Un.mono ..|exact LeO.refl _|exact LeO.none _|refine LeO.ite ?_ ?_|refine LeO.bind ?_ (fun _=>?_))|exact ih0 ..|exact LeO.none _|refine LeO.ite ?_ ?_|refine LeO.bind ?_ (fun _=>?_)
set_option maxHeartbeats 8000000 in
set_option maxRecDepth 100000 in
theorem spec_l04Words.calls (k:Nat) (a0:ByteArray) (a1:Int) (r1:Int) (r2:Int) (r3:Int) (r4:ByteArray) (r5:ByteArray) (r6:List (S52)) (r7:Bool) (w:World) (h:spec_l04Words.f k a0 a1=some (r1,r2,r3,r4,r5,r6,r7)) :
 Calls Tryz.prog 30 #[.string a0,.int .i64 a1] w fun e w'=>∃ v5_:Value,e=.returned (.agg #[.int .i64 r1,.int .i64 r2,.int .i64 r3,.string r4,.string r5,v5_,.bool r7])∧Kd.R k52 52 w' w.heap.size (fun _=>True) v5_ r6∧Below w.heap.size w w':=by
 have hu24:=Tryz.underlying24
 have HB:=A_ (Below.refl w.heap.size w)
 have H:(spec_l04Words.l0 k a0 a1 (wrap64 (a1+1)))=some (r1,r2,r3,r4,r5,r6,r7):=h
 clear h
 have H':=A_ H
 clear H
 go_enter Tryz.func30,Tryz.ntmps30
 go_wp2_with (first|((with_reducible refine gate_dst (N:=4) rfl ?_);refine box_event ?hg (N:=4) ?hd (cs:=#[.int .i64 0,.int .i64 0,.int .i64 0,.string (⟨#[]⟩:ByteArray),.string (⟨#[]⟩:ByteArray),.slice none 0 0,.bool false]) (t:=24) ?hr ?_;(case hd=>rfl);(case hg=>rfl);(case hr=>first|(go_simp;done)|(go_simp;rfl));intro gb137 hg w3 hbox hb;have n0_:=A_ (bp_ (bq0_ HB.out) hb);have n1_:=A_ (hbox);have n2_:=A_ ((by rw [hg];exact (bz_ (bq0_ HB.out)):w.heap.size≤gb137));have n3_:=A_ ((by rw [hg];exact (bz_ (bq0_ HB.out)):w.heap.size≤gb137));clear HB;have HB:=n0_;have BK137:=n1_;have GW137:=n2_;have GE137:=n3_;clear n0_ n1_ n2_ n3_;clear hb hbox hg))
 go_loopg [5] k (fun kq v5 w'=>∃ (x5_1:Int),v5=.int .i64 x5_1∧Aside0 (spec_l04Words.l0 kq a0 a1 x5_1=some (r1,r2,r3,r4,r5,r6,r7))∧Aside0 (kq≤k)∧Aside0 (w'.heap[gb137]? = some (.cells #[.int .i64 0,.int .i64 0,.int .i64 0,.string (⟨#[]⟩:ByteArray),.string (⟨#[]⟩:ByteArray),(.slice none 0 0),.bool false] 24 (0,0)))∧Aside0 (Below w.heap.size w w'))
 case atStart=>exact ⟨(wrap64 (a1+1)),rs_,H',⟨Nat.le_refl _⟩,⟨kq_ BK137.out⟩,⟨bq1_ HB.out GE137.out⟩⟩
 case round =>
  clear H'
  try clear p2
  try clear c3
  obtain ⟨x5_1,rfl,HA,HK1,BK137,HB⟩:=hrel
  cases gk with
  | zero=>exact absurd HA.out (by simp [spec_l04Words.l0])
  | succ k1 =>
   have H:=HA.out
   clear HA
   simp only [spec_l04Words.l0] at H
   by_cases c4:x5_1<(a0.size:Int)
   ·rw [if_pos c4] at H
    have c4b0:decide (x5_1<(a0.size:Int))=true:=dt_ c4
    clear c4
    by_cases c5:0≤x5_1
    ·rw [if_pos c5] at H
     have c5b0:decide (0≤x5_1)=true:=dt_ c5
     clear c5
     by_cases c7:(bt a0 x5_1)=60
     ·rw [if_pos c7] at H
      have c7b0:((bt a0 x5_1) == 60)=true:=beq_iff_eq.mpr c7
      have c7b1:((bt a0 x5_1) != 60)=false:=bne_eq_false_iff_eq.mpr c7
      clear c7
      by_cases c8:0≤a1
      ·rw [if_pos c8] at H
       have c8b0:=eq_true c8
       have c8b1:decide (0≤a1)=true:=dt_ c8
       clear c8
       by_cases c9:a1≤x5_1
       ·rw [if_pos c9] at H
        have c9b0:=eq_true c9
        have c9b1:decide (a1≤x5_1)=true:=dt_ c9
        clear c9
        by_cases c10:x5_1≤(a0.size:Int)
        ·rw [if_pos c10] at H
         have c10b0:=eq_true c10
         have c10b1:decide (x5_1≤(a0.size:Int))=true:=dt_ c10
         clear c10
         replace H:=ob_ H
         obtain ⟨t138,A110,H⟩:=H
         replace H:(some (1,a1,wrap64 (x5_1 - a1),(⟨#[]⟩:ByteArray),t138,([]:List (S52)),false))=some (r1,r2,r3,r4,r5,r6,r7):=H
         have A11:=A_ A110
         clear A110
         simp only [Option.some.injEq,Prod.mk.injEq] at H
         obtain ⟨rfl,rfl,rfl,rfl,rfl,rfl,rfl⟩:=H
         have p6:0≤(x5_1:Int):=oa_
         have q6:x5_1<(a0.size:Int):=oa_
         have hx6:=bt_at a0 x5_1
         replace p6:=eq_true p6
         replace q6:=eq_true q6
         go_wp2_with (first|((with_reducible refine gate_callee (f:=52) rfl ?_);refine gl_ (some 28) rfl rfl Tryz.func52 (by kernel_rfl) rfl #[.string (a0.extract (a1:Int).toNat (x5_1:Int).toNat)] rfl  ?_;(with_reducible refine (spec_l02Un.calls k1 (a0.extract (a1:Int).toNat (x5_1:Int).toNat) t138 _ A11.out).mono ?_);rintro e w12 ⟨rfl,hb⟩;refine ⟨_,rfl,?_⟩;have n0_:=A_ (kb_ (kq_ BK137.out) hb);have n1_:=A_ (bp_ (bq1_ HB.out GE137.out) hb);clear BK137;clear HB;have BK137:=n0_;have HB:=n1_;clear n0_ n1_;(try clear hb);(try clear hb2);(try clear hk);(try clear hi);obtain ⟨_,_,_,_,_,_,_,_,_,_,_,_,_,_⟩:=g7_ BK137.out))
         refine bodyPost_ret (results_cell_row rfl _ _ gb137 24 #[.int .i64 1,.int .i64 a1,.int .i64 (wrap64 (x5_1 - a1)),.string (⟨#[]⟩:ByteArray),.string t138,.slice none 0 0,.bool false] (0,0) _ rfl (by (with_reducible repeat first|apply kn_|apply kd_|apply ka_);exact p7_ (kq_ BK137.out)) Tryz.underlying24 rfl (by kernel_rfl)) rfl ?_
         exact ⟨_,by first|rfl|(simp [errW_none,errW_some] <;> rfl)|(simp [*,errW_none,errW_some] <;> rfl),by first|exact Kd.R_nil _ _ _ _ _|exact Kd.N_nil _ _ _ _ _|exact Kd.V_nil _ _ _ _ _|exact Kd.Q_nil _ _ _ _ _|exact Kd.S_nil _ _ _ _ _,bq1_ HB.out GE137.out⟩
        ·rw [if_neg c10] at H
         exact absurd H (by simp)
       ·rw [if_neg c9] at H
        exact absurd H (by simp)
      ·rw [if_neg c8] at H
       exact absurd H (by simp)
     ·rw [if_neg c7] at H
      have c7b0:((bt a0 x5_1) == 60)=false:=beq_eq_false_iff_ne.mpr c7
      have c7b1:((bt a0 x5_1) != 60)=true:=bne_iff_ne.mpr c7
      have H':=A_ H
      clear H
      have p6:0≤(x5_1:Int):=oa_
      have q6:x5_1<(a0.size:Int):=oa_
      have hx6:=bt_at a0 x5_1
      replace p6:=eq_true p6
      replace q6:=eq_true q6
      go_wp2
      go_roundg k1
      case measure=>have:=HK1.out;omega
      case rel=>exact ⟨(wrap64 (x5_1+1)),rs_,H',⟨by have:=HK1.out;omega⟩,⟨kq_ BK137.out⟩,⟨bq1_ HB.out GE137.out⟩⟩
    ·rw [if_neg c5] at H
     exact absurd H (by simp)
   ·rw [if_neg c4] at H
    have c4b0:decide (x5_1<(a0.size:Int))=false:=df_ c4
    clear c4
    by_cases c14:0≤a1
    ·rw [if_pos c14] at H
     have c14b0:=eq_true c14
     have c14b1:decide (0≤a1)=true:=dt_ c14
     clear c14
     by_cases c15:a1≤x5_1
     ·rw [if_pos c15] at H
      have c15b0:=eq_true c15
      have c15b1:decide (a1≤x5_1)=true:=dt_ c15
      clear c15
      by_cases c16:x5_1≤(a0.size:Int)
      ·rw [if_pos c16] at H
       have c16b0:=eq_true c16
       have c16b1:decide (x5_1≤(a0.size:Int))=true:=dt_ c16
       clear c16
       replace H:=ob_ H
       obtain ⟨t139,A170,H⟩:=H
       replace H:(some (1,a1,wrap64 (x5_1 - a1),(⟨#[]⟩:ByteArray),t139,([]:List (S52)),false))=some (r1,r2,r3,r4,r5,r6,r7):=H
       have A17:=A_ A170
       clear A170
       simp only [Option.some.injEq,Prod.mk.injEq] at H
       obtain ⟨rfl,rfl,rfl,rfl,rfl,rfl,rfl⟩:=H
       go_wp2_with (first|((with_reducible refine gate_callee (f:=52) rfl ?_);refine gl_ (some 28) rfl rfl Tryz.func52 (by kernel_rfl) rfl #[.string (a0.extract (a1:Int).toNat (x5_1:Int).toNat)] rfl  ?_;(with_reducible refine (spec_l02Un.calls k1 (a0.extract (a1:Int).toNat (x5_1:Int).toNat) t139 _ A17.out).mono ?_);rintro e w18 ⟨rfl,hb⟩;refine ⟨_,rfl,?_⟩;have n0_:=A_ (kb_ (kq_ BK137.out) hb);have n1_:=A_ (bp_ (bq1_ HB.out GE137.out) hb);clear BK137;clear HB;have BK137:=n0_;have HB:=n1_;clear n0_ n1_;(try clear hb);(try clear hb2);(try clear hk);(try clear hi);obtain ⟨_,_,_,_,_,_,_,_,_,_,_,_,_,_⟩:=g7_ BK137.out))
       refine bodyPost_ret (results_cell_row rfl _ _ gb137 24 #[.int .i64 1,.int .i64 a1,.int .i64 (wrap64 (x5_1 - a1)),.string (⟨#[]⟩:ByteArray),.string t139,.slice none 0 0,.bool false] (0,0) _ rfl (by (with_reducible repeat first|apply kn_|apply kd_|apply ka_);exact p7_ (kq_ BK137.out)) Tryz.underlying24 rfl (by kernel_rfl)) rfl ?_
       exact ⟨_,by first|rfl|(simp [errW_none,errW_some] <;> rfl)|(simp [*,errW_none,errW_some] <;> rfl),by first|exact Kd.R_nil _ _ _ _ _|exact Kd.N_nil _ _ _ _ _|exact Kd.V_nil _ _ _ _ _|exact Kd.Q_nil _ _ _ _ _|exact Kd.S_nil _ _ _ _ _,bq1_ HB.out GE137.out⟩
      ·rw [if_neg c16] at H
       exact absurd H (by simp)
     ·rw [if_neg c15] at H
      exact absurd H (by simp)
    ·rw [if_neg c14] at H
     exact absurd H (by simp)
def spec_l04Letter.f (a0:Int):Option (Bool):=if a0≥97 then (if a0≤122 then (some true) else (if a0≥65 then (some (decide (a0≤90))) else (some false))) else (if a0≥65 then (some (decide (a0≤90))) else (some false))
set_option maxHeartbeats 8000000 in
set_option maxRecDepth 100000 in
theorem spec_l04Letter.calls (a0:Int) (r:Bool) (w:World) (h:spec_l04Letter.f a0=some r) :
 Calls Tryz.prog 31 #[.int .u8 a0] w fun e w'=>e=.returned (.bool r)∧Drawn0 w w':=by
 have H:(if a0≥97 then (if a0≤122 then (some true) else (if a0≥65 then (some (decide (a0≤90))) else (some false))) else (if a0≥65 then (some (decide (a0≤90))) else (some false)))=some r:=h
 clear h
 by_cases c2:a0≥97
 ·rw [if_pos c2] at H
  have c2b0:decide (97≤a0)=true:=dt_ c2
  clear c2
  by_cases c3:a0≤122
  ·rw [if_pos c3] at H
   have c3b0:decide (a0≤122)=true:=dt_ c3
   clear c3
   obtain rfl:=oi_ H
   go_enter Tryz.func31,Tryz.ntmps31
   go_wp2
   go_ret
   exact ⟨by first|rfl|(simp;done)|(simp [*];done),by repeat (first|exact dr_ _|apply dp_)⟩
  ·rw [if_neg c3] at H
   have c3b0:decide (a0≤122)=false:=df_ c3
   clear c3
   by_cases c4:a0≥65
   ·rw [if_pos c4] at H
    have c4b0:decide (65≤a0)=true:=dt_ c4
    clear c4
    obtain rfl:=oi_ H
    go_enter Tryz.func31,Tryz.ntmps31
    go_wp2
    go_ret
    exact ⟨by first|rfl|(simp;done)|(simp [*];done),by repeat (first|exact dr_ _|apply dp_)⟩
   ·rw [if_neg c4] at H
    have c4b0:decide (65≤a0)=false:=df_ c4
    clear c4
    obtain rfl:=oi_ H
    go_enter Tryz.func31,Tryz.ntmps31
    go_wp2
    go_ret
    exact ⟨by first|rfl|(simp;done)|(simp [*];done),by repeat (first|exact dr_ _|apply dp_)⟩
 ·rw [if_neg c2] at H
  have c2b0:decide (97≤a0)=false:=df_ c2
  clear c2
  by_cases c5:a0≥65
  ·rw [if_pos c5] at H
   have c5b0:decide (65≤a0)=true:=dt_ c5
   clear c5
   obtain rfl:=oi_ H
   go_enter Tryz.func31,Tryz.ntmps31
   go_wp2
   go_ret
   exact ⟨by first|rfl|(simp;done)|(simp [*];done),by repeat (first|exact dr_ _|apply dp_)⟩
  ·rw [if_neg c5] at H
   have c5b0:decide (65≤a0)=false:=df_ c5
   clear c5
   obtain rfl:=oi_ H
   go_enter Tryz.func31,Tryz.ntmps31
   go_wp2
   go_ret
   exact ⟨by first|rfl|(simp;done)|(simp [*];done),by repeat (first|exact dr_ _|apply dp_)⟩
def spec_l00Digit.f (a0:Int):Option (Bool):=if a0≥48 then (some (decide (a0≤57))) else (some false)
set_option maxHeartbeats 8000000 in
set_option maxRecDepth 100000 in
theorem spec_l00Digit.calls (a0:Int) (r:Bool) (w:World) (h:spec_l00Digit.f a0=some r) :
 Calls Tryz.prog 28 #[.int .u8 a0] w fun e w'=>e=.returned (.bool r)∧Drawn0 w w':=by
 have H:(if a0≥48 then (some (decide (a0≤57))) else (some false))=some r:=h
 clear h
 by_cases c2:a0≥48
 ·rw [if_pos c2] at H
  have c2b0:decide (48≤a0)=true:=dt_ c2
  clear c2
  obtain rfl:=oi_ H
  go_enter Tryz.func28,Tryz.ntmps28
  go_wp2
  go_ret
  exact ⟨by first|rfl|(simp;done)|(simp [*];done),by repeat (first|exact dr_ _|apply dp_)⟩
 ·rw [if_neg c2] at H
  have c2b0:decide (48≤a0)=false:=df_ c2
  clear c2
  obtain rfl:=oi_ H
  go_enter Tryz.func28,Tryz.ntmps28
  go_wp2
  go_ret
  exact ⟨by first|rfl|(simp;done)|(simp [*];done),by repeat (first|exact dr_ _|apply dp_)⟩
end Go.Proofs.YtfkanlbmgbkniaaGreatDoor.PFnExactTokensOf
