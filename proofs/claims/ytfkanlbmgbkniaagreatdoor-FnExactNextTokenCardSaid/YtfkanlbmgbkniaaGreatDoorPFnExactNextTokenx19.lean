/- By a program of this session, out of the kit's print and contracts made by hand: the machine side of a law; Lean checks it. No conditions. -/
import Derived.Test.YtfkanlbmgbkniaaGreatDoorPFnExactNextTokenx0
import Derived.Test.YtfkanlbmgbkniaaGreatDoorPFnExactNextTokenx18
namespace Go.Proofs.YtfkanlbmgbkniaaGreatDoor.PFnExactNextToken
open Go.RowKit Go.Proofs.YtfkanlbmgbkniaaGreatDoorW.PrintWords Go.Proofs.YtfkanlbmgbkniaaGreatDoorW.PrintLast Go.Proofs.YtfkanlbmgbkniaaGreatDoorW.PrintMore
attribute [local go_sem] max2_int min2_int max_two min_two max_three min_three max_four min_four
set_option linter.unusedVariables false
set_option linter.unusedSimpArgs false
/-! ### impl_unescape: function 46 -/
def impl_unescape.l0:Nat→ByteArray→List Int→Int→Option (ByteArray)
 | 0,_,_,_=>none
 | k+1,x0,x3,x4=>if x4<(x0.size:Int) then (if 0≤x4 then (if x4≤(x0.size:Int) then ((impl_escape.f (x0.extract (x4:Int).toNat x0.size)).bind fun bt290=>(if bt290.2>0 then (if x3.length<140737488355328 then (impl_unescape.l0 k x0 (x3++[bt290.1]) (wrap64 (x4+bt290.2))) else (none)) else (if x3.length<140737488355328 then (impl_unescape.l0 k x0 (x3++[bt x0 x4]) (wrap64 (x4+1))) else (none)))) else (none)) else (none)) else (some (strOfNums x3))
def impl_unescape.f (k:Nat) (a0:ByteArray):Option (ByteArray):=impl_unescape.l0 k a0 (([]:List Int)) 0
theorem impl_unescape.mono_l:∀ k,(∀ y0 y1 y2,LeO (impl_unescape.l0 k y0 y1 y2) (impl_unescape.l0 (k+1) y0 y1 y2))
 | 0=>fun _ _ _ r h=>by simp [impl_unescape.l0] at h
 | k+1=>by
  have ih0:=impl_unescape.mono_l k
  ·intro y0 y1 y2
   unfold impl_unescape.l0
   repeat' first
   | (with_reducible exact ih0 _ _ _)
   | (with_reducible exact LeO.refl _)
   | (with_reducible exact LeO.none _)
   | (with_reducible refine LeO.ite ?_ ?_)
   | (with_reducible refine LeO.bind ?_ (fun _=>?_))
   | exact ih0 _ _ _
   | exact LeO.none _
   | refine LeO.ite ?_ ?_
   | refine LeO.bind ?_ (fun _=>?_)
theorem impl_unescape.mono:∀ a0 k,LeO (impl_unescape.f k a0) (impl_unescape.f (k+1) a0):=by
 intro a0 k
 have ih0:=impl_unescape.mono_l k
 unfold impl_unescape.f
 repeat' first
  | (with_reducible exact ih0 _ _ _)
  | (with_reducible exact LeO.refl _)
  | (with_reducible exact LeO.none _)
  | (with_reducible refine LeO.ite ?_ ?_)
  | (with_reducible refine LeO.bind ?_ (fun _=>?_))
  | exact ih0 _ _ _
  | exact LeO.none _
  | refine LeO.ite ?_ ?_
  | refine LeO.bind ?_ (fun _=>?_)
set_option maxHeartbeats 8000000 in
set_option maxRecDepth 100000 in
theorem impl_unescape.calls (k:Nat) (a0:ByteArray) (r:ByteArray) (w:World) (hL:Laid w) (h:impl_unescape.f k a0=some r) :
 Calls Tryz.prog 46 #[.string a0] w fun e w'=>e=.returned (.string r)∧Below w.heap.size w w':=by
 have HB:=A_ (Below.refl w.heap.size w)
 have HL:=A_ hL
 clear hL
 have H:(impl_unescape.l0 k a0 (([]:List Int)) 0)=some r:=h
 clear h
 obtain ⟨y287,hy287⟩:∃ y_:List Int,y_=(([]:List Int)):=⟨_,rfl⟩
 replace H:(impl_unescape.l0 k a0 y287 0)=some r:=by first|(rw [hy287];with_reducible exact H)|(have H2_:=(Option.bind_some _ _).symm.trans H;rw [hy287];with_reducible exact H2_)|(have H2_:=(Option.bind_some _ _).symm.trans H;with_reducible exact H2_)|with_reducible exact H|(rw [hy287];exact H)|exact H
 have Ny287:=A_ hy287
 clear hy287
 have H':=A_ H
 clear H
 go_enter Tryz.func46,Tryz.ntmps46
 go_wp2_with (first|((with_reducible refine gate_dst (N:=7) rfl ?_);refine Kd.R_lit (Kd.int .u8) _ 5 ?hg (N:=7) ?hd (xs:=([]:List Int)) (inner:=[]) (ok:=fun _=>True) (okp:=fun _=>True) ?hr ?hp (fun _ hk=>hk) trivial (Below.refl _ _) (Nat.le_refl _) (by simp) ?_;(case hd=>rfl);(case hg=>rfl);(case hr=>first|(go_simp;done)|(go_simp;rfl)|(first|(go_simp;done)|(go_simp;rfl)));(case hp=>exact (Reps.none _ _));intro v288 w2 ho3 hb hg_ hnew_;clear hg_ hnew_;(first|rw [←Ny287.out] at ho3|(simp only [Int.reduceToNat] at ho3;rw [←Ny287.out] at ho3));have n0_:=A_ (Kd.R_lower ho3 (bz_ (bq0_ HB.out)));have n1_:=A_ (bp_ (bq0_ HB.out) hb);clear HB;have HO289:=n0_;have HB:=n1_;clear n0_ n1_;clear hb ho3))
 go_loopg [3,4] k (fun kq v3 v4 w'=>∃ (x3_1:List Int) (x4_1:Int),v4=.int .i64 x4_1∧Aside0 (impl_unescape.l0 kq a0 x3_1 x4_1=some r)∧Aside0 (kq≤k)∧Aside0 (Kd.R (Kd.int .u8) 5 w' w.heap.size (fun _=>True) v3 x3_1)∧Aside0 (Below w.heap.size w w'))
 case atStart=>exact ⟨(y287),(0),(by first|rfl|(simp;done)|(simp [*];done)),H',⟨Nat.le_refl _⟩,⟨by (with_reducible repeat (first|apply Kd.R_alloc|apply Kd.R_drewN|apply Kd.R_drew));exact HO289.out⟩,⟨bq0_ HB.out⟩⟩
 case round =>
  clear H'
  try clear p2
  obtain ⟨x3_1,x4_1,rfl,HA,HK1,HO_3,HB⟩:=hrel
  cases gk with
  | zero=>exact absurd HA.out (by simp [impl_unescape.l0])
  | succ k1 =>
   have H:=HA.out
   clear HA
   simp only [impl_unescape.l0] at H
   by_cases c4:x4_1<(a0.size:Int)
   ·rw [if_pos c4] at H
    have c4b0:decide (x4_1<(a0.size:Int))=true:=dt_ c4
    clear c4
    by_cases c5:0≤x4_1
    ·rw [if_pos c5] at H
     have c5b0:=eq_true c5
     have c5b1:decide (0≤x4_1)=true:=dt_ c5
     clear c5
     by_cases c6:x4_1≤(a0.size:Int)
     ·rw [if_pos c6] at H
      have c6b0:=eq_true c6
      have c6b1:decide (x4_1≤(a0.size:Int))=true:=dt_ c6
      clear c6
      replace H:=ob_ H
      obtain ⟨⟨t290,t291⟩,A70,H⟩:=H
      replace H:(if t291>0 then (if x3_1.length<140737488355328 then (impl_unescape.l0 k1 a0 (x3_1++[t290]) (wrap64 (x4_1+t291))) else (none)) else (if x3_1.length<140737488355328 then (impl_unescape.l0 k1 a0 (x3_1++[bt a0 x4_1]) (wrap64 (x4_1+1))) else (none)))=some r:=H
      have A7:=A_ A70
      clear A70
      by_cases c8:t291>0
      ·rw [if_pos c8] at H
       have c8b0:decide (0<t291)=true:=dt_ c8
       clear c8
       by_cases c9:x3_1.length<140737488355328
       ·rw [if_pos c9] at H
        have LMc9:=A_ c9
        clear c9
        obtain ⟨y292,hy292⟩:∃ y_:List Int,y_=(x3_1++[t290]):=⟨_,rfl⟩
        replace H:(impl_unescape.l0 k1 a0 y292 (wrap64 (x4_1+t291)))=some r:=by first|(rw [hy292];with_reducible exact H)|(have H2_:=(Option.bind_some _ _).symm.trans H;rw [hy292];with_reducible exact H2_)|(have H2_:=(Option.bind_some _ _).symm.trans H;with_reducible exact H2_)|with_reducible exact H|(rw [hy292];exact H)|exact H
        have Ny292:=A_ hy292
        clear hy292
        have H':=A_ H
        clear H
        go_wp2_with (first|((with_reducible refine gate_callee (f:=68) rfl ?_);refine gl_ (some 16) rfl rfl Tryz.func68 (by kernel_rfl) rfl #[.string (a0.extract (x4_1:Int).toNat a0.size)] rfl  ?_;(with_reducible refine (impl_escape.calls (a0.extract (x4_1:Int).toNat a0.size) t290 t291 _ ?sideL A7.out).mono ?_);(case sideL=>exact HL.out.below (bq0_ HB.out));rintro e w10 ⟨rfl,hb⟩;refine ⟨_,rfl,?_⟩;have n0_:=A_ (Kd.R_below (rq_ HO_3.out) hb);have n1_:=A_ (bp_ (bq0_ HB.out) hb);clear HO_3;clear HB;have HO_3:=n0_;have HB:=n1_;clear n0_ n1_;(try clear hb);(try clear hb2);(try clear hk);(try clear hi))|((with_reducible refine gate_builtin (b:=.append) (xs:=#[.tmp 21,.tmp 23]) rfl ?_);at_builtin;refine Kd.R_append (Kd.int .u8) (w0:=w) w.heap.size rfl (.tmp 21) (.tmp 23) 54 5 (.int .u8 0) 1 rfl Tryz.underlying54 info5 rfl (by decide) (by omega) u3 x3_1 t290 [.int .u8 t290] (fun _=>True) (fun _=>False) rfl rfl ?aP (fun _ hk=>hk.elim) ?aF ?aO ?aB ?aS ?aL ?_;(case aP=>exact rfl);(case aB=>exact (bq0_ HB.out));(case aF=>exact (fun _ _=>trivial));(case aO=>exact (rq_ HO_3.out));(case aS=>exact (bz_ (bq0_ HB.out)));(case aL=>have:=LMc9.out;omega);intro v293 w11 ho hb hg hat;rw [←Ny292.out] at ho;have n0_:=A_ (hb);have n1_:=A_ (ho);clear HB;clear HO_3;have HB:=n0_;have HO294:=n1_;clear n0_ n1_;clear ho hb hg hat))
        go_roundg k1
        case measure=>have:=HK1.out;omega
        case rel=>exact ⟨(y292),(wrap64 (x4_1+t291)),(by first|rfl|(simp;done)|(simp [*];done)),H',⟨by have:=HK1.out;omega⟩,⟨by (with_reducible repeat (first|apply Kd.R_alloc|apply Kd.R_drewN|apply Kd.R_drew));exact HO294.out⟩,⟨bq0_ HB.out⟩⟩
       ·rw [if_neg c9] at H
        exact absurd H (by simp)
      ·rw [if_neg c8] at H
       have c8b0:decide (0<t291)=false:=df_ c8
       clear c8
       by_cases c13:x3_1.length<140737488355328
       ·rw [if_pos c13] at H
        have LMc13:=A_ c13
        clear c13
        obtain ⟨y295,hy295⟩:∃ y_:List Int,y_=(x3_1++[bt a0 x4_1]):=⟨_,rfl⟩
        replace H:(impl_unescape.l0 k1 a0 y295 (wrap64 (x4_1+1)))=some r:=by first|(rw [hy295];with_reducible exact H)|(have H2_:=(Option.bind_some _ _).symm.trans H;rw [hy295];with_reducible exact H2_)|(have H2_:=(Option.bind_some _ _).symm.trans H;with_reducible exact H2_)|with_reducible exact H|(rw [hy295];exact H)|exact H
        have Ny295:=A_ hy295
        clear hy295
        have H':=A_ H
        clear H
        go_wp2_with (first|((with_reducible refine gate_callee (f:=68) rfl ?_);refine gl_ (some 16) rfl rfl Tryz.func68 (by kernel_rfl) rfl #[.string (a0.extract (x4_1:Int).toNat a0.size)] rfl  ?_;(with_reducible refine (impl_escape.calls (a0.extract (x4_1:Int).toNat a0.size) t290 t291 _ ?sideL A7.out).mono ?_);(case sideL=>exact HL.out.below (bq0_ HB.out));rintro e w14 ⟨rfl,hb⟩;refine ⟨_,rfl,?_⟩;have n0_:=A_ (Kd.R_below (rq_ HO_3.out) hb);have n1_:=A_ (bp_ (bq0_ HB.out) hb);clear HO_3;clear HB;have HO_3:=n0_;have HB:=n1_;clear n0_ n1_;(try clear hb);(try clear hb2);(try clear hk);(try clear hi);have p12:0≤(x4_1:Int):=oa_;have q12:x4_1<(a0.size:Int):=oa_;have hx12:=bt_at a0 x4_1;replace p12:=eq_true p12;replace q12:=eq_true q12)|((with_reducible refine gate_builtin (b:=.append) (xs:=#[.tmp 28,.tmp 32]) rfl ?_);at_builtin;refine Kd.R_append (Kd.int .u8) (w0:=w) w.heap.size rfl (.tmp 28) (.tmp 32) 54 5 (.int .u8 0) 1 rfl Tryz.underlying54 info5 rfl (by decide) (by omega) u3 x3_1 (bt a0 x4_1) [.int .u8 (bt a0 x4_1)] (fun _=>True) (fun _=>False) rfl rfl ?aP (fun _ hk=>hk.elim) ?aF ?aO ?aB ?aS ?aL ?_;(case aP=>exact rfl);(case aB=>exact (bq0_ HB.out));(case aF=>exact (fun _ _=>trivial));(case aO=>exact (rq_ HO_3.out));(case aS=>exact (bz_ (bq0_ HB.out)));(case aL=>have:=LMc13.out;omega);intro v296 w15 ho hb hg hat;rw [←Ny295.out] at ho;have n0_:=A_ (hb);have n1_:=A_ (ho);clear HB;clear HO_3;have HB:=n0_;have HO297:=n1_;clear n0_ n1_;clear ho hb hg hat))
        go_roundg k1
        case measure=>have:=HK1.out;omega
        case rel=>exact ⟨(y295),(wrap64 (x4_1+1)),(by first|rfl|(simp;done)|(simp [*];done)),H',⟨by have:=HK1.out;omega⟩,⟨by (with_reducible repeat (first|apply Kd.R_alloc|apply Kd.R_drewN|apply Kd.R_drew));exact HO297.out⟩,⟨bq0_ HB.out⟩⟩
       ·rw [if_neg c13] at H
        exact absurd H (by simp)
     ·rw [if_neg c6] at H
      exact absurd H (by simp)
    ·rw [if_neg c5] at H
     exact absurd H (by simp)
   ·rw [if_neg c4] at H
    have c4b0:decide (x4_1<(a0.size:Int))=false:=df_ c4
    clear c4
    obtain rfl:=oi_ H
    have hcv16:=own_string (P:=Tryz.prog) Tryz.underlying54 Tryz.underlying5 Tryz.underlying9 (Kd.own_of_R HO_3.out)
    go_wp2
    go_ret
    exact ⟨by first|rfl|(simp [errW_none,errW_some] <;> rfl)|(simp [*,errW_none,errW_some] <;> rfl),bq0_ HB.out⟩
end Go.Proofs.YtfkanlbmgbkniaaGreatDoor.PFnExactNextToken
