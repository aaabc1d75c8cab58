/- The machine side of a law, printed by a program. No conditions. -/
import Derived.Test.YtfkanlbmgbkniaaGreatDoorPFnExactTokensOfx0
import Derived.Test.YtfkanlbmgbkniaaGreatDoorPFnExactTokensOfx1
import Derived.Test.YtfkanlbmgbkniaaGreatDoorPFnExactTokensOfx5
import Derived.Test.YtfkanlbmgbkniaaGreatDoorPFnExactTokensOfx6
import Derived.Test.YtfkanlbmgbkniaaGreatDoorPFnExactTokensOfx7
import Derived.Test.YtfkanlbmgbkniaaGreatDoorPFnExactTokensOfx8
namespace Go.Proofs.YtfkanlbmgbkniaaGreatDoor.PFnExactTokensOf
open Go.RowKit Go.Proofs.YtfkanlbmgbkniaaGreatDoorW.PrintWords Go.Proofs.YtfkanlbmgbkniaaGreatDoorW.PrintLast Go.Proofs.YtfkanlbmgbkniaaGreatDoorW.PrintMore
attribute [local go_sem] max2_int min2_int max_two min_two max_three min_three max_four min_four
set_option linter.unusedVariables false
set_option linter.unusedSimpArgs false
mutual
def spec_l04Open.l0:Nat→ByteArray→Int→ByteArray→Int→Int→Int→Int→ByteArray→ByteArray→List (S52)→Bool→Option (Int × Int × Int × ByteArray × ByteArray × (List (S52)) × Bool)
 | 0,_,_,_,_,_,_,_,_,_,_,_=>none
 | k+1,x0,x1,x5,x6,x181000,x181001,x181002,x181003,x181004,x181005,x181006=>if x6<(x0.size:Int) then (if 0≤x6 then (spec_l04Open.j1 k x0 x1 x5 x6 ((bt x0 x6) != 62) x181000 x181001 x181002 x181003 x181004 x181005 x181006) else (none)) else (spec_l04Open.j1 k x0 x1 x5 x6 false x181000 x181001 x181002 x181003 x181004 x181005 x181006)
def spec_l04Open.j1:Nat→ByteArray→Int→ByteArray→Int→Bool→Int→Int→Int→ByteArray→ByteArray→List (S52)→Bool→Option (Int × Int × Int × ByteArray × ByteArray × (List (S52)) × Bool)
 | 0,_,_,_,_,_,_,_,_,_,_,_,_=>none
 | k+1,x0,x1,x5,x6,x31,x181000,x181001,x181002,x181003,x181004,x181005,x181006=>if x31=true then (if 0≤x6 then (if x6<(x0.size:Int) then ((spec_l04Blank.f (bt x0 x6)).bind fun t181=>(if t181=true then (spec_l04Open.j2 k x0 x1 x5 x6 true x181000 x181001 x181002 x181003 x181004 x181005 x181006) else (spec_l04Open.j2 k x0 x1 x5 x6 ((bt x0 x6) == 47) x181000 x181001 x181002 x181003 x181004 x181005 x181006))) else (none)) else (none)) else (if x6≥(x0.size:Int) then (some (5,x1,wrap64 ((x0.size:Int) - x1),(⟨#[]⟩:ByteArray),(⟨#[]⟩:ByteArray),([]:List (S52)),false)) else ((spec_l01Tag.f k x5).bind fun t188=>(if t188=true then (some (x181000,x181001,wrap64 ((wrap64 (x6+1)) - x1),x181003,x181004,x181005,x181006)) else (some (5,x1,wrap64 ((wrap64 (x6+1)) - x1),(⟨#[]⟩:ByteArray),(⟨#[]⟩:ByteArray),([]:List (S52)),false)))))
def spec_l04Open.j2:Nat→ByteArray→Int→ByteArray→Int→Bool→Int→Int→Int→ByteArray→ByteArray→List (S52)→Bool→Option (Int × Int × Int × ByteArray × ByteArray × (List (S52)) × Bool)
 | 0,_,_,_,_,_,_,_,_,_,_,_,_=>none
 | k+1,x0,x1,x5,x6,x41,x181000,x181001,x181002,x181003,x181004,x181005,x181006=>if x41=true then (if 0≤x6 then (if x6<(x0.size:Int) then (spec_l04Open.l0 k x0 x1 x5 (wrap64 (x6+1)) x181000 x181001 x181002 x181003 x181004 x181005 ((bt x0 x6) == 47)) else (none)) else (none)) else ((spec_l04Attr.f k x0 x6).bind fun bt182=>((spec_l04Keep.f k x181005 bt182.1 bt182.2.1).bind fun t185=>(spec_l04Open.l0 k x0 x1 x5 bt182.2.2 x181000 x181001 x181002 x181003 x181004 t185 false)))
end
def spec_l04Open.f (k:Nat) (a0:ByteArray) (a1:Int):Option (Int × Int × Int × ByteArray × ByteArray × (List (S52)) × Bool):=(spec_l04Name.f k a0 (wrap64 (a1+1))).bind fun bt175=>(spec_l04Open.l0 k a0 a1 bt175.1 bt175.2 2 a1 0 bt175.1 (⟨#[]⟩:ByteArray) (([]:List (S52))) false)
theorem spec_l04Open.mono_l:∀ k,(∀ y0 y1 y2 y3 y4 y5 y6 y7 y8 y9 y10,LeO (spec_l04Open.l0 k y0 y1 y2 y3 y4 y5 y6 y7 y8 y9 y10) (spec_l04Open.l0 (k+1) y0 y1 y2 y3 y4 y5 y6 y7 y8 y9 y10))∧(∀ y0 y1 y2 y3 y4 y5 y6 y7 y8 y9 y10 y11,LeO (spec_l04Open.j1 k y0 y1 y2 y3 y4 y5 y6 y7 y8 y9 y10 y11) (spec_l04Open.j1 (k+1) y0 y1 y2 y3 y4 y5 y6 y7 y8 y9 y10 y11))∧(∀ y0 y1 y2 y3 y4 y5 y6 y7 y8 y9 y10 y11,LeO (spec_l04Open.j2 k y0 y1 y2 y3 y4 y5 y6 y7 y8 y9 y10 y11) (spec_l04Open.j2 (k+1) y0 y1 y2 y3 y4 y5 y6 y7 y8 y9 y10 y11))
 | 0=>⟨fun _ _ _ _ _ _ _ _ _ _ _ r h=>by simp [spec_l04Open.l0] at h,fun _ _ _ _ _ _ _ _ _ _ _ _ r h=>by simp [spec_l04Open.j1] at h,fun _ _ _ _ _ _ _ _ _ _ _ _ r h=>by simp [spec_l04Open.j2] at h⟩
 | k+1=>by
  obtain ⟨ih0,ih1,ih2⟩:=spec_l04Open.mono_l k
  refine ⟨?_,?_,?_⟩
  ·intro y0 y1 y2 y3 y4 y5 y6 y7 y8 y9 y10
   unfold spec_l04Open.l0
   repeat' first|(with_reducible first|exact ih0 ..|exact ih1 ..|exact ih2 ..|exact spec_l01Tag.mono ..|exact spec_l04Attr.mono ..|exact spec_l04Keep.mono ..|exact spec_l04Name.mono ..|exact LeO.refl _|exact LeO.none _|refine LeO.ite ?_ ?_|refine LeO.bind ?_ (fun _=>?_))|exact ih0 ..|exact ih1 ..|exact ih2 ..|exact LeO.none _|refine LeO.ite ?_ ?_|refine LeO.bind ?_ (fun _=>?_)
  ·intro y0 y1 y2 y3 y4 y5 y6 y7 y8 y9 y10 y11
   unfold spec_l04Open.j1
   repeat' first|(with_reducible first|exact ih0 ..|exact ih1 ..|exact ih2 ..|exact spec_l01Tag.mono ..|exact spec_l04Attr.mono ..|exact spec_l04Keep.mono ..|exact spec_l04Name.mono ..|exact LeO.refl _|exact LeO.none _|refine LeO.ite ?_ ?_|refine LeO.bind ?_ (fun _=>?_))|exact ih0 ..|exact ih1 ..|exact ih2 ..|exact LeO.none _|refine LeO.ite ?_ ?_|refine LeO.bind ?_ (fun _=>?_)
  ·intro y0 y1 y2 y3 y4 y5 y6 y7 y8 y9 y10 y11
   unfold spec_l04Open.j2
   repeat' first|(with_reducible first|exact ih0 ..|exact ih1 ..|exact ih2 ..|exact spec_l01Tag.mono ..|exact spec_l04Attr.mono ..|exact spec_l04Keep.mono ..|exact spec_l04Name.mono ..|exact LeO.refl _|exact LeO.none _|refine LeO.ite ?_ ?_|refine LeO.bind ?_ (fun _=>?_))|exact ih0 ..|exact ih1 ..|exact ih2 ..|exact LeO.none _|refine LeO.ite ?_ ?_|refine LeO.bind ?_ (fun _=>?_)
theorem spec_l04Open.mono:∀ a0 a1 k,LeO (spec_l04Open.f k a0 a1) (spec_l04Open.f (k+1) a0 a1):=by
 intro a0 a1 k
 obtain ⟨ih0,ih1,ih2⟩:=spec_l04Open.mono_l k
 unfold spec_l04Open.f
 repeat' first|(with_reducible first|exact ih0 ..|exact ih1 ..|exact ih2 ..|exact spec_l01Tag.mono ..|exact spec_l04Attr.mono ..|exact spec_l04Keep.mono ..|exact spec_l04Name.mono ..|exact LeO.refl _|exact LeO.none _|refine LeO.ite ?_ ?_|refine LeO.bind ?_ (fun _=>?_))|exact ih0 ..|exact ih1 ..|exact ih2 ..|exact LeO.none _|refine LeO.ite ?_ ?_|refine LeO.bind ?_ (fun _=>?_)
set_option maxHeartbeats 8000000 in
set_option maxRecDepth 100000 in
theorem spec_l04Open.calls (k:Nat) (a0:ByteArray) (a1:Int) (r1:Int) (r2:Int) (r3:Int) (r4:ByteArray) (r5:ByteArray) (r6:List (S52)) (r7:Bool) (w:World) (h:spec_l04Open.f k a0 a1=some (r1,r2,r3,r4,r5,r6,r7)) :
 Calls Tryz.prog 32 #[.string a0,.int .i64 a1] w fun e w'=>∃ v5_:Value,e=.returned (.agg #[.int .i64 r1,.int .i64 r2,.int .i64 r3,.string r4,.string r5,v5_,.bool r7])∧Kd.R k52 52 w' w.heap.size (fun _=>True) v5_ r6∧Below w.heap.size w w':=by
 have hu24:=Tryz.underlying24
 have HB:=A_ (Below.refl w.heap.size w)
 have H:((spec_l04Name.f k a0 (wrap64 (a1+1))).bind fun bt175=>(spec_l04Open.l0 k a0 a1 bt175.1 bt175.2 2 a1 0 bt175.1 (⟨#[]⟩:ByteArray) (([]:List (S52))) false))=some (r1,r2,r3,r4,r5,r6,r7):=h
 clear h
 replace H:=ob_ H
 obtain ⟨⟨t175,t176⟩,A30,H⟩:=H
 replace H:(spec_l04Open.l0 k a0 a1 t175 t176 2 a1 0 t175 (⟨#[]⟩:ByteArray) (([]:List (S52))) false)=some (r1,r2,r3,r4,r5,r6,r7):=H
 have A3:=A_ A30
 clear A30
 obtain ⟨y177,hy177⟩:∃ y_:List (S52),y_=(([]:List (S52))):=⟨_,rfl⟩
 replace H:(spec_l04Open.l0 k a0 a1 t175 t176 2 a1 0 t175 (⟨#[]⟩:ByteArray) y177 false)=some (r1,r2,r3,r4,r5,r6,r7):=by first|(rw [hy177];with_reducible exact H)|(have H2_:=(Option.bind_some _ _).symm.trans H;rw [hy177];with_reducible exact H2_)|(have H2_:=(Option.bind_some _ _).symm.trans H;with_reducible exact H2_)|with_reducible exact H|(rw [hy177];exact H)|exact H
 have Ny177:=A_ hy177
 clear hy177
 have H':=A_ H
 clear H
 go_enter Tryz.func32,Tryz.ntmps32
 go_wp2_with (first|((with_reducible refine gate_dst (N:=4) rfl ?_);refine box_event ?hg (N:=4) ?hd (cs:=#[.int .i64 0,.int .i64 0,.int .i64 0,.string (⟨#[]⟩:ByteArray),.string (⟨#[]⟩:ByteArray),.slice none 0 0,.bool false]) (t:=24) ?hr ?_;(case hd=>rfl);(case hg=>rfl);(case hr=>first|(go_simp;done)|(go_simp;rfl)|(first|(go_simp;done)|(go_simp;rfl)));intro gb174 hg w4 hbox hb;have n0_:=A_ (bp_ (bq0_ HB.out) hb);have n1_:=A_ (hbox);have n2_:=A_ ((by rw [hg];exact (bz_ (bq0_ HB.out)):w.heap.size≤gb174));have n3_:=A_ ((by rw [hg];exact (bz_ (bq0_ HB.out)):w.heap.size≤gb174));clear HB;have HB:=n0_;have BK174:=n1_;have GW174:=n2_;have GE174:=n3_;clear n0_ n1_ n2_ n3_;clear hb hbox hg)|((with_reducible refine gate_callee (f:=53) rfl ?_);refine gl_ (some 15) rfl rfl Tryz.func53 (by kernel_rfl) rfl #[.string a0,.int .i64 (wrap64 (a1+1))] rfl  ?_;(with_reducible refine (spec_l04Name.calls k a0 (wrap64 (a1+1)) t175 t176 _ A3.out).mono ?_);rintro e w5 ⟨rfl,hb⟩;refine ⟨_,rfl,?_⟩;have n0_:=A_ (kb_ (kq_ BK174.out) hb);have n1_:=A_ (bp_ (bq1_ HB.out GE174.out) hb);clear BK174;clear HB;have BK174:=n0_;have HB:=n1_;clear n0_ n1_;(try clear hb);(try clear hb2);(try clear hk);(try clear hi))|((with_reducible refine gate_dst (N:=20) rfl ?_);refine Kd.R_lit k52 _ 52 ?hg (N:=20) ?hd (xs:=([]:List (S52))) (inner:=[]) (ok:=fun _=>True) (okp:=fun _=>True) ?hr ?hp (fun _ hk=>hk) trivial (Below.refl _ _) (Nat.le_refl _) (by simp) ?_;(case hd=>rfl);(case hg=>rfl);(case hr=>first|(go_simp;done)|(go_simp;rfl)|(first|(go_simp;done)|(go_simp;rfl)));(case hp=>exact (Reps.none _ _));intro v178 w6 ho7 hb hg_ hnew_;clear hg_ hnew_;(first|rw [←Ny177.out] at ho7|(simp only [Int.reduceToNat] at ho7;rw [←Ny177.out] at ho7));have n0_:=A_ (Kd.R_lower ho7 (bz_ (bq1_ HB.out GE174.out)));have n1_:=A_ (kb_ (kq_ BK174.out) hb);have n2_:=A_ (bp_ (bq1_ HB.out GE174.out) hb);clear BK174;clear HB;have HO179:=n0_;have BK174:=n1_;have HB:=n2_;clear n0_ n1_ n2_;clear hb ho7;obtain ⟨Ao8,co8,eo8⟩:=Kd.R_slice HO179.out;subst eo8)|((with_reducible refine gate_dst (N:=7) rfl ?_);refine box_event ?hg (N:=7) ?hd (cs:=#[.int .i64 0,.int .i64 0,.int .i64 0,.string (⟨#[]⟩:ByteArray),.string (⟨#[]⟩:ByteArray),.slice none 0 0,.bool false]) (t:=24) ?hr ?_;(case hd=>rfl);(case hg=>rfl);(case hr=>first|(go_simp;done)|(go_simp;rfl)|((first|(obtain ⟨_,_,rfl⟩:=Kd.R_slice HO179.out)|(obtain ⟨_,_,rfl⟩:=Kd.S_slice HO179.out)|skip);first|(go_simp;done)|(go_simp;rfl)));intro gb180 hg w9 hbox hb;have n0_:=A_ (Kd.R_below (rq_ HO179.out) hb);have n1_:=A_ (kb_ (kq_ BK174.out) hb);have n2_:=A_ (bp_ (bq1_ HB.out GE174.out) hb);have n3_:=A_ (hbox);have n4_:=A_ ((by rw [hg];exact (bz_ (bq1_ HB.out GE174.out)):w.heap.size≤gb180));have n5_:=A_ ((by rw [hg];exact (bz_ (bq1_ HB.out GE174.out)):w.heap.size≤gb180));have n6_:=A_ ((by rw [hg];exact Nat.ne_of_lt (blk_lt (g:=gb174) (o:=.cells #[.int .i64 0,.int .i64 0,.int .i64 0,.string (⟨#[]⟩:ByteArray),.string (⟨#[]⟩:ByteArray),.slice none 0 0,.bool false] 24 (0,0)) (kq_ BK174.out)):gb174≠gb180));have n7_:=A_ ((by rw [hg];exact Nat.ne_of_gt (blk_lt (g:=gb174) (o:=.cells #[.int .i64 0,.int .i64 0,.int .i64 0,.string (⟨#[]⟩:ByteArray),.string (⟨#[]⟩:ByteArray),.slice none 0 0,.bool false] 24 (0,0)) (kq_ BK174.out)):gb180≠gb174));clear HO179;clear BK174;clear HB;have HO179:=n0_;have BK174:=n1_;have HB:=n2_;have BK180:=n3_;have GW180:=n4_;have GE180:=n5_;have NB174_180:=n6_;have NB180_174:=n7_;clear n0_ n1_ n2_ n3_ n4_ n5_ n6_ n7_;clear hb hbox hg;have hnb10:=NB180_174.out;have hnc10:=NB174_180.out;obtain ⟨hcz11_0,hcz11_1,hcz11_2,hcz11_3,hcz11_4,hcz11_5,hcz11_6,hfz11_0,hfz11_1,hfz11_2,hfz11_3,hfz11_4,hfz11_5,hfz11_6⟩:=g7_ BK180.out))
 go_loopg [6] k (fun kq v6 w'=>∃ (x6_1:Int) (x181005_1:List (S52)) (x181006_1:Bool) (u181005:Value),v6=.int .i64 x6_1∧Aside0 (spec_l04Open.l0 kq a0 a1 t175 x6_1 2 a1 0 t175 (⟨#[]⟩:ByteArray) x181005_1 x181006_1=some (r1,r2,r3,r4,r5,r6,r7))∧Aside0 (kq≤k)∧Aside0 (Kd.R k52 52 w' w.heap.size (fun _=>True) u181005 x181005_1)∧Aside0 (w'.heap[gb174]? = some (.cells #[.int .i64 0,.int .i64 0,.int .i64 0,.string (⟨#[]⟩:ByteArray),.string (⟨#[]⟩:ByteArray),(.slice none 0 0),.bool false] 24 (0,0)))∧Aside0 (w'.heap[gb180]? = some (.cells #[.int .i64 2,.int .i64 a1,.int .i64 0,.string t175,.string (⟨#[]⟩:ByteArray),u181005,.bool x181006_1] 24 (0,0)))∧Aside0 (Below w.heap.size w w'))
 case atStart=>exact ⟨(t176),(y177),(false),(.slice Ao8 y177.length co8),rs_,H',⟨Nat.le_refl _⟩,⟨by (with_reducible repeat first|apply ra_|apply rn_|apply rd_);exact Kd.R_mono (f7_ (g:=gb180) (Kd.R_types HO179.out BK180.out (by decide)) (fun _ hk=>hk.2) (.int .i64 2) (.int .i64 a1) (.int .i64 0) (.string t175) (.string (⟨#[]⟩:ByteArray)) (.slice Ao8 y177.length co8) (.bool false)) (fun _ hk=>trivial)⟩,⟨by (repeat first|(with_reducible first|apply kn_|apply kd_|apply ka_)|refine blk_far ?_ NB174_180.out _);exact BK174.out⟩,⟨by (with_reducible repeat first|apply kn_|apply kd_|apply ka_);exact p7_ (kq_ BK180.out)⟩,⟨bq2_ HB.out GE174.out GE180.out⟩⟩
 case round =>
  clear H'
  try clear c1
  try clear p2
  try clear c3
  try clear c5
  try clear p6
  try clear c10
  try clear hcz11_0
  try clear hcz11_1
  try clear hcz11_2
  try clear hcz11_3
  try clear hcz11_4
  try clear hcz11_5
  try clear hcz11_6
  try clear hfz11_0
  try clear hfz11_1
  try clear hfz11_2
  try clear hfz11_3
  try clear hfz11_4
  try clear hfz11_5
  try clear hfz11_6
  obtain ⟨x6_1,x181005_1,x181006_1,u181005,rfl,HA,HK1,HO_181005,BK174,BK180,HB⟩:=hrel
  cases gk with
  | zero=>exact absurd HA.out (by simp [spec_l04Open.l0])
  | succ k1 =>
   have H:=HA.out
   clear HA
   simp only [spec_l04Open.l0] at H
   have HC12:=A_ H
   clear H
   go_upto_region 3 with (fail)
   go_cut [31] (fun v31 wc=>∃ (kq:Nat) (x31_11:Bool),v31=.bool x31_11∧Aside0 (spec_l04Open.j1 kq a0 a1 t175 x6_1 x31_11 2 a1 0 t175 (⟨#[]⟩:ByteArray) x181005_1 x181006_1=some (r1,r2,r3,r4,r5,r6,r7))∧Aside0 (kq≤k1)∧Aside0 (Kd.R k52 52 wc w.heap.size (fun _=>True) u181005 x181005_1)∧Aside0 (wc.heap[gb174]? = some (.cells #[.int .i64 0,.int .i64 0,.int .i64 0,.string (⟨#[]⟩:ByteArray),.string (⟨#[]⟩:ByteArray),(.slice none 0 0),.bool false] 24 (0,0)))∧Aside0 (wc.heap[gb180]? = some (.cells #[.int .i64 2,.int .i64 a1,.int .i64 0,.string t175,.string (⟨#[]⟩:ByteArray),u181005,.bool x181006_1] 24 (0,0)))∧Aside0 (Below w.heap.size w wc))
   case first =>
    have H:=HC12.out
    clear HC12
    by_cases c13:x6_1<(a0.size:Int)
    ·rw [if_pos c13] at H
     have c13b0:decide (x6_1<(a0.size:Int))=true:=dt_ c13
     clear c13
     (first|rw [c13b0]|(simp only [i64_w,i32_w];rw [c13b0])|skip)
     by_cases c14:0≤x6_1
     ·rw [if_pos c14] at H
      have c14b0:decide (0≤x6_1)=true:=dt_ c14
      clear c14
      have H':=A_ H
      clear H
      have p15:0≤(x6_1:Int):=oa_
      have q15:x6_1<(a0.size:Int):=oa_
      have hx15:=bt_at a0 x6_1
      replace p15:=eq_true p15
      replace q15:=eq_true q15
      go_wp2
      go_meet
      case rel=>exact ⟨_,(((bt a0 x6_1) != 62)),rs_,H',⟨by have:=HK1.out;first|omega|exact Nat.le_refl _⟩,⟨by (with_reducible repeat first|apply ra_|apply rn_|apply rd_);exact HO_181005.out⟩,⟨kq_ BK174.out⟩,⟨kq_ BK180.out⟩,⟨bq2_ HB.out GE174.out GE180.out⟩⟩
     ·rw [if_neg c14] at H
      exact absurd H (by simp)
    ·rw [if_neg c13] at H
     have c13b0:decide (x6_1<(a0.size:Int))=false:=df_ c13
     clear c13
     (first|rw [c13b0]|(simp only [i64_w,i32_w];rw [c13b0])|skip)
     have H':=A_ H
     clear H
     go_wp2
     go_meet
     case rel=>exact ⟨_,(false),rs_,H',⟨by have:=HK1.out;first|omega|exact Nat.le_refl _⟩,⟨by (with_reducible repeat first|apply ra_|apply rn_|apply rd_);exact HO_181005.out⟩,⟨kq_ BK174.out⟩,⟨kq_ BK180.out⟩,⟨bq2_ HB.out GE174.out GE180.out⟩⟩
   case rest =>
    clear HC12
    try clear c1
    try clear p1
    try clear q1
    try clear hx1
    try clear p2
    try clear c3
    try clear c5
    try clear p6
    try clear c10
    try clear c13
    try clear c13b0
    try clear c14
    try clear c14b0
    try clear p15
    try clear q15
    try clear hx15
    try clear hcz11_0
    try clear hcz11_1
    try clear hcz11_2
    try clear hcz11_3
    try clear hcz11_4
    try clear hcz11_5
    try clear hcz11_6
    try clear hfz11_0
    try clear hfz11_1
    try clear hfz11_2
    try clear hfz11_3
    try clear hfz11_4
    try clear hfz11_5
    try clear hfz11_6
    try clear p15
    try clear p2
    try clear p6
    try clear q15
    obtain ⟨kq,x31_11,rfl,HA,HJ11,HO_181005,BK174,BK180,HB⟩:=hcut
    cases kq with
    | zero=>exact absurd HA.out (by simp [spec_l04Open.j1])
    | succ kj11 =>
     have H:=HA.out
     clear HA
     simp only [spec_l04Open.j1] at H
     by_cases c16:x31_11=true
     ·subst c16
      have H1:(if 0≤x6_1 then (if x6_1<(a0.size:Int) then ((spec_l04Blank.f (bt a0 x6_1)).bind fun t181=>(if t181=true then (spec_l04Open.j2 kj11 a0 a1 t175 x6_1 true 2 a1 0 t175 (⟨#[]⟩:ByteArray) x181005_1 x181006_1) else (spec_l04Open.j2 kj11 a0 a1 t175 x6_1 ((bt a0 x6_1) == 47) 2 a1 0 t175 (⟨#[]⟩:ByteArray) x181005_1 x181006_1))) else (none)) else (none))=some (r1,r2,r3,r4,r5,r6,r7):=by rw [if_pos rfl] at H;exact H
      clear H
      have H:=H1
      clear H1
      have HC17:=A_ H
      clear H
      go_upto_region 4 with (fail)
      go_cut [41] (fun v41 wc=>∃ (kq:Nat) (x41_16:Bool),v41=.bool x41_16∧Aside0 (spec_l04Open.j2 kq a0 a1 t175 x6_1 x41_16 2 a1 0 t175 (⟨#[]⟩:ByteArray) x181005_1 x181006_1=some (r1,r2,r3,r4,r5,r6,r7))∧Aside0 (kq≤kj11)∧Aside0 (Kd.R k52 52 wc w.heap.size (fun _=>True) u181005 x181005_1)∧Aside0 (wc.heap[gb174]? = some (.cells #[.int .i64 0,.int .i64 0,.int .i64 0,.string (⟨#[]⟩:ByteArray),.string (⟨#[]⟩:ByteArray),(.slice none 0 0),.bool false] 24 (0,0)))∧Aside0 (wc.heap[gb180]? = some (.cells #[.int .i64 2,.int .i64 a1,.int .i64 0,.string t175,.string (⟨#[]⟩:ByteArray),u181005,.bool x181006_1] 24 (0,0)))∧Aside0 (Below w.heap.size w wc))
      case first =>
       have H:=HC17.out
       clear HC17
       by_cases c18:0≤x6_1
       ·rw [if_pos c18] at H
        have c18b0:decide (0≤x6_1)=true:=dt_ c18
        clear c18
        (first|rw [c18b0]|(simp only [i64_w,i32_w];rw [c18b0])|skip)
        by_cases c19:x6_1<(a0.size:Int)
        ·rw [if_pos c19] at H
         have c19b0:decide (x6_1<(a0.size:Int))=true:=dt_ c19
         clear c19
         replace H:=ob_ H
         obtain ⟨t181,A210,H⟩:=H
         replace H:(if t181=true then (spec_l04Open.j2 kj11 a0 a1 t175 x6_1 true 2 a1 0 t175 (⟨#[]⟩:ByteArray) x181005_1 x181006_1) else (spec_l04Open.j2 kj11 a0 a1 t175 x6_1 ((bt a0 x6_1) == 47) 2 a1 0 t175 (⟨#[]⟩:ByteArray) x181005_1 x181006_1))=some (r1,r2,r3,r4,r5,r6,r7):=H
         have A21:=A_ A210
         clear A210
         by_cases c22:t181=true
         ·subst c22
          have H1:(spec_l04Open.j2 kj11 a0 a1 t175 x6_1 true 2 a1 0 t175 (⟨#[]⟩:ByteArray) x181005_1 x181006_1)=some (r1,r2,r3,r4,r5,r6,r7):=by rw [if_pos rfl] at H;exact H
          clear H
          have H:=H1
          clear H1
          have H':=A_ H
          clear H
          have p20:0≤(x6_1:Int):=oa_
          have q20:x6_1<(a0.size:Int):=oa_
          have hx20:=bt_at a0 x6_1
          replace p20:=eq_true p20
          replace q20:=eq_true q20
          go_wp2_with (first|((with_reducible refine gate_callee (f:=51) rfl ?_);refine gl_ (some 35) rfl rfl Tryz.func51 (by kernel_rfl) rfl #[.int .u8 (bt a0 x6_1)] rfl  ?_;(with_reducible refine (spec_l04Blank.calls (bt a0 x6_1) true _ A21.out).mono ?_);rintro e w' ⟨rfl,⟨nd,rfl⟩⟩;refine ⟨_,rfl,?_⟩))
          go_meet
          case rel=>exact ⟨_,(true),rs_,H',⟨by have:=HK1.out;have:=HJ11.out;first|omega|exact Nat.le_refl _⟩,⟨by (with_reducible repeat first|apply ra_|apply rn_|apply rd_);exact HO_181005.out⟩,⟨kq_ BK174.out⟩,⟨kq_ BK180.out⟩,⟨bq2_ HB.out GE174.out GE180.out⟩⟩
         ·replace c22:=bm_ c22
          subst c22
          have H1:(spec_l04Open.j2 kj11 a0 a1 t175 x6_1 ((bt a0 x6_1) == 47) 2 a1 0 t175 (⟨#[]⟩:ByteArray) x181005_1 x181006_1)=some (r1,r2,r3,r4,r5,r6,r7):=by rw [if_neg (show ¬ (false=true) by decide)] at H;exact H
          clear H
          have H:=H1
          clear H1
          have H':=A_ H
          clear H
          have p20:0≤(x6_1:Int):=oa_
          have q20:x6_1<(a0.size:Int):=oa_
          have hx20:=bt_at a0 x6_1
          replace p20:=eq_true p20
          replace q20:=eq_true q20
          go_wp2_with (first|((with_reducible refine gate_callee (f:=51) rfl ?_);refine gl_ (some 35) rfl rfl Tryz.func51 (by kernel_rfl) rfl #[.int .u8 (bt a0 x6_1)] rfl  ?_;(with_reducible refine (spec_l04Blank.calls (bt a0 x6_1) false _ A21.out).mono ?_);rintro e w' ⟨rfl,⟨nd,rfl⟩⟩;refine ⟨_,rfl,?_⟩;have p23:0≤(x6_1:Int):=oa_;have q23:x6_1<(a0.size:Int):=oa_;have hx23:=bt_at a0 x6_1;replace p23:=eq_true p23;replace q23:=eq_true q23))
          go_meet
          case rel=>exact ⟨_,(((bt a0 x6_1) == 47)),rs_,H',⟨by have:=HK1.out;have:=HJ11.out;first|omega|exact Nat.le_refl _⟩,⟨by (with_reducible repeat first|apply ra_|apply rn_|apply rd_);exact HO_181005.out⟩,⟨kq_ BK174.out⟩,⟨kq_ BK180.out⟩,⟨bq2_ HB.out GE174.out GE180.out⟩⟩
        ·rw [if_neg c19] at H
         exact absurd H (by simp)
       ·rw [if_neg c18] at H
        exact absurd H (by simp)
      case rest =>
       clear HC17
       try clear c1
       try clear p1
       try clear q1
       try clear hx1
       try clear c2
       try clear p2
       try clear q2
       try clear hx2
       try clear c3
       try clear c5
       try clear p6
       try clear c10
       try clear c13
       try clear c13b0
       try clear c14
       try clear c14b0
       try clear p15
       try clear q15
       try clear hx15
       try clear c16
       try clear c18
       try clear c18b0
       try clear c19
       try clear c19b0
       try clear p20
       try clear q20
       try clear hx20
       try clear c22
       try clear p23
       try clear q23
       try clear hx23
       try clear hcz11_0
       try clear hcz11_1
       try clear hcz11_2
       try clear hcz11_3
       try clear hcz11_4
       try clear hcz11_5
       try clear hcz11_6
       try clear hfz11_0
       try clear hfz11_1
       try clear hfz11_2
       try clear hfz11_3
       try clear hfz11_4
       try clear hfz11_5
       try clear hfz11_6
       try clear p1
       try clear p15
       try clear p2
       try clear p20
       try clear p23
       try clear p6
       try clear q1
       try clear q15
       try clear q20
       try clear q23
       obtain ⟨kq,x41_16,rfl,HA,HJ16,HO_181005,BK174,BK180,HB⟩:=hcut
       cases kq with
       | zero=>exact absurd HA.out (by simp [spec_l04Open.j2])
       | succ kj16 =>
        have H:=HA.out
        clear HA
        simp only [spec_l04Open.j2] at H
        by_cases c24:x41_16=true
        ·subst c24
         have H1:(if 0≤x6_1 then (if x6_1<(a0.size:Int) then (spec_l04Open.l0 kj16 a0 a1 t175 (wrap64 (x6_1+1)) 2 a1 0 t175 (⟨#[]⟩:ByteArray) x181005_1 ((bt a0 x6_1) == 47)) else (none)) else (none))=some (r1,r2,r3,r4,r5,r6,r7):=by rw [if_pos rfl] at H;exact H
         clear H
         have H:=H1
         clear H1
         by_cases c25:0≤x6_1
         ·rw [if_pos c25] at H
          have c25b0:decide (0≤x6_1)=true:=dt_ c25
          clear c25
          by_cases c26:x6_1<(a0.size:Int)
          ·rw [if_pos c26] at H
           have c26b0:decide (x6_1<(a0.size:Int))=true:=dt_ c26
           clear c26
           have H':=A_ H
           clear H
           have p27:0≤(x6_1:Int):=oa_
           have q27:x6_1<(a0.size:Int):=oa_
           have hx27:=bt_at a0 x6_1
           replace p27:=eq_true p27
           replace q27:=eq_true q27
           have hnb28:=NB180_174.out
           have hnc28:=NB174_180.out
           obtain ⟨_,_,_,_,_,_,_,_,_,_,_,_,_,_⟩:=g7_ BK180.out
           go_wp2
           go_roundg kj16
           case measure=>have:=HK1.out;have:=HJ11.out;have:=HJ16.out;omega
           case rel=>exact ⟨(wrap64 (x6_1+1)),(x181005_1),(((bt a0 x6_1) == 47)),(u181005),rs_,H',⟨by have:=HK1.out;have:=HJ11.out;have:=HJ16.out;omega⟩,⟨by (with_reducible repeat first|apply ra_|apply rn_|apply rd_);exact Kd.R_mono (Kd.R_far (p:=⟨gb180,6,none⟩) (Kd.R_types HO_181005.out BK180.out (by decide)) (fun _ hk=>hk.2) (.bool ((bt a0 x6_1) == 47))) (fun _ hk=>trivial)⟩,⟨by (with_reducible repeat first|apply kn_|apply kd_|apply ka_);refine blk_far ?_ NB174_180.out _;(with_reducible repeat first|apply kn_|apply kd_|apply ka_);exact BK174.out⟩,⟨by (with_reducible repeat first|apply kn_|apply kd_|apply ka_);refine blk_put (cs:=#[.int .i64 2,.int .i64 a1,.int .i64 0,.string t175,.string (⟨#[]⟩:ByteArray),u181005,.bool x181006_1]) ?_ 6 _ rfl;(with_reducible repeat first|apply kn_|apply kd_|apply ka_);exact BK180.out⟩,⟨bq2_ HB.out GE174.out GE180.out⟩⟩
          ·rw [if_neg c26] at H
           exact absurd H (by simp)
         ·rw [if_neg c25] at H
          exact absurd H (by simp)
        ·replace c24:=bm_ c24
         subst c24
         have H1:((spec_l04Attr.f kj16 a0 x6_1).bind fun bt182=>((spec_l04Keep.f kj16 x181005_1 bt182.1 bt182.2.1).bind fun t185=>(spec_l04Open.l0 kj16 a0 a1 t175 bt182.2.2 2 a1 0 t175 (⟨#[]⟩:ByteArray) t185 false)))=some (r1,r2,r3,r4,r5,r6,r7):=by rw [if_neg (show ¬ (false=true) by decide)] at H;exact H
         clear H
         have H:=H1
         clear H1
         replace H:=ob_ H
         obtain ⟨⟨t182,t183,t184⟩,A300,H⟩:=H
         replace H:((spec_l04Keep.f kj16 x181005_1 t182 t183).bind fun t185=>(spec_l04Open.l0 kj16 a0 a1 t175 t184 2 a1 0 t175 (⟨#[]⟩:ByteArray) t185 false))=some (r1,r2,r3,r4,r5,r6,r7):=H
         have A30:=A_ A300
         clear A300
         replace H:=ob_ H
         obtain ⟨t185,A310,H⟩:=H
         replace H:(spec_l04Open.l0 kj16 a0 a1 t175 t184 2 a1 0 t175 (⟨#[]⟩:ByteArray) t185 false)=some (r1,r2,r3,r4,r5,r6,r7):=H
         have A31:=A_ A310
         clear A310
         have H':=A_ H
         clear H
         have hnb32:=NB180_174.out
         have hnc32:=NB174_180.out
         obtain ⟨_,_,_,_,_,_,_,_,_,_,_,_,_,_⟩:=g7_ BK180.out
         go_wp2_with (first|((with_reducible refine gate_callee (f:=54) rfl ?_);refine gl_ (some 53) rfl rfl Tryz.func54 (by kernel_rfl) rfl #[.string a0,.int .i64 x6_1] rfl  ?_;(with_reducible refine (spec_l04Attr.calls kj16 a0 x6_1 t182 t183 t184 _ A30.out).mono ?_);rintro e w34 ⟨rfl,hb⟩;refine ⟨_,rfl,?_⟩;have n0_:=A_ (Kd.R_below (by (with_reducible repeat first|apply ra_|apply rn_|apply rd_);exact (Kd.R_mono (Kd.R_far (p:=⟨gb180,6,none⟩) (Kd.R_types HO_181005.out BK180.out (by decide)) (fun _ hk=>hk.2) (.bool false)) (fun _ h_=>h_.1))) hb);have n1_:=A_ (kb_ (g:=gb174) (o:=.cells #[.int .i64 0,.int .i64 0,.int .i64 0,.string (⟨#[]⟩:ByteArray),.string (⟨#[]⟩:ByteArray),.slice none 0 0,.bool false] 24 (0,0)) (by (with_reducible repeat first|apply kn_|apply kd_|apply ka_);refine blk_far ?_ NB174_180.out _;(with_reducible repeat first|apply kn_|apply kd_|apply ka_);exact BK174.out) hb);have n2_:=A_ (kb_ (g:=gb180) (o:=.cells #[.int .i64 2,.int .i64 a1,.int .i64 0,.string t175,.string (⟨#[]⟩:ByteArray),u181005,.bool false] 24 (0,0)) (by (with_reducible repeat first|apply kn_|apply kd_|apply ka_);refine blk_put (cs:=#[.int .i64 2,.int .i64 a1,.int .i64 0,.string t175,.string (⟨#[]⟩:ByteArray),u181005,.bool x181006_1]) ?_ 6 _ rfl;(with_reducible repeat first|apply kn_|apply kd_|apply ka_);exact BK180.out) hb);have n3_:=A_ (bp_ (bq2_ HB.out GE174.out GE180.out) hb);clear HO_181005;clear BK174;clear BK180;clear HB;have HO_181005:=n0_;have BK174:=n1_;have BK180:=n2_;have HB:=n3_;clear n0_ n1_ n2_ n3_;(try clear hb);(try clear hb2);(try clear hk);(try clear hi);obtain ⟨_,_,_,_,_,_,_,_,_,_,_,_,_,_⟩:=g7_ BK180.out;obtain ⟨Ao36,co36,eo36⟩:=Kd.R_slice HO_181005.out;subst eo36)|((with_reducible refine gate_callee (f:=55) rfl ?_);refine gl_ (some 61) rfl rfl Tryz.func55 (by kernel_rfl) rfl #[.slice Ao36 x181005_1.length co36,.string t182,.string t183] rfl  ?_;(with_reducible refine (spec_l04Keep.calls kj16 (fun k_=>some k_=(.slice Ao36 x181005_1.length co36:Value).ownBlock) (.slice Ao36 x181005_1.length co36) x181005_1 t182 t183 t185 w _ ?side1 ?side2 A31.out).mono ?_);(case side1=>repeat (first|(with_reducible first|exact HB.out|apply ba_|apply pd_|apply b1_|refine bs_ ?_ GE174.out|refine bs_ ?_ GE180.out)|exact HB.out));(case side2=>exact Kd.R_tight rfl HO_181005.out);rintro e w37 ⟨v186,rfl,ho0,hb,hkp⟩;refine ⟨_,rfl,?_⟩;have n0_:=A_ (blk_kept (kq_ BK174.out) hkp (fun hs_=>(fun e_=>(Kd.R_ne HO_181005.out BK174.out (by decide)) e_) hs_));have n1_:=A_ (blk_kept (kq_ BK180.out) hkp (fun hs_=>(fun e_=>(Kd.R_ne HO_181005.out BK180.out (by decide)) e_) hs_));have n2_:=A_ (Kd.R_mono (ok':=fun k_=>True) ho0 (fun k_ hk_=>trivial));have n3_:=A_ (hb);clear BK174;clear BK180;clear HB;clear HO_181005;have BK174:=n0_;have BK180:=n1_;have HO187:=n2_;have HB:=n3_;clear n0_ n1_ n2_ n3_;(try clear hb);(try clear hkp);(try clear ho0);obtain ⟨Ao38,co38,eo38⟩:=Kd.R_slice HO187.out;subst eo38;obtain ⟨_,_,_,_,_,_,_,_,_,_,_,_,_,_⟩:=g7_ BK180.out))
         go_roundg kj16
         case measure=>have:=HK1.out;have:=HJ11.out;have:=HJ16.out;omega
         case rel=>exact ⟨(t184),(t185),(false),(.slice Ao38 t185.length co38),rs_,H',⟨by have:=HK1.out;have:=HJ11.out;have:=HJ16.out;omega⟩,⟨by (with_reducible repeat first|apply ra_|apply rn_|apply rd_);exact Kd.R_mono (Kd.R_far (p:=⟨gb180,5,none⟩) (Kd.R_types HO187.out BK180.out (by decide)) (fun _ hk=>hk.2) (.slice Ao38 t185.length co38)) (fun _ hk=>trivial)⟩,⟨by (with_reducible repeat first|apply kn_|apply kd_|apply ka_);refine blk_far ?_ NB174_180.out _;(with_reducible repeat first|apply kn_|apply kd_|apply ka_);exact BK174.out⟩,⟨by (with_reducible repeat first|apply kn_|apply kd_|apply ka_);refine blk_put (cs:=#[.int .i64 2,.int .i64 a1,.int .i64 0,.string t175,.string (⟨#[]⟩:ByteArray),.slice Ao36 x181005_1.length co36,.bool false]) ?_ 5 _ rfl;(with_reducible repeat first|apply kn_|apply kd_|apply ka_);exact BK180.out⟩,⟨bq2_ HB.out GE174.out GE180.out⟩⟩
     ·replace c16:=bm_ c16
      subst c16
      have H1:(if x6_1≥(a0.size:Int) then (some (5,a1,wrap64 ((a0.size:Int) - a1),(⟨#[]⟩:ByteArray),(⟨#[]⟩:ByteArray),([]:List (S52)),false)) else ((spec_l01Tag.f kj11 t175).bind fun t188=>(if t188=true then (some (2,a1,wrap64 ((wrap64 (x6_1+1)) - a1),t175,(⟨#[]⟩:ByteArray),x181005_1,x181006_1)) else (some (5,a1,wrap64 ((wrap64 (x6_1+1)) - a1),(⟨#[]⟩:ByteArray),(⟨#[]⟩:ByteArray),([]:List (S52)),false)))))=some (r1,r2,r3,r4,r5,r6,r7):=by rw [if_neg (show ¬ (false=true) by decide)] at H;exact H
      clear H
      have H:=H1
      clear H1
      by_cases c40:x6_1≥(a0.size:Int)
      ·rw [if_pos c40] at H
       have c40b0:decide ((a0.size:Int)≤x6_1)=true:=dt_ c40
       clear c40
       simp only [Option.some.injEq,Prod.mk.injEq] at H
       obtain ⟨rfl,rfl,rfl,rfl,rfl,rfl,rfl⟩:=H
       have hnb41:=NB174_180.out
       have hnc41:=NB180_174.out
       obtain ⟨_,_,_,_,_,_,_,_,_,_,_,_,_,_⟩:=g7_ BK174.out
       go_wp2
       refine bodyPost_ret (results_cell_row rfl _ _ gb174 24 #[.int .i64 5,.int .i64 a1,.int .i64 (wrap64 ((a0.size:Int) - a1)),.string (⟨#[]⟩:ByteArray),.string (⟨#[]⟩:ByteArray),.slice none 0 0,.bool false] (0,0) _ rfl (by (with_reducible repeat first|apply kn_|apply kd_|apply ka_);exact p7_ (kq_ BK174.out)) Tryz.underlying24 rfl (by kernel_rfl)) rfl ?_
       exact ⟨_,by first|rfl|(simp [errW_none,errW_some] <;> rfl)|(simp [*,errW_none,errW_some] <;> rfl),by first|exact Kd.R_nil _ _ _ _ _|exact Kd.N_nil _ _ _ _ _|exact Kd.V_nil _ _ _ _ _|exact Kd.Q_nil _ _ _ _ _|exact Kd.S_nil _ _ _ _ _,bq2_ HB.out GE174.out GE180.out⟩
      ·rw [if_neg c40] at H
       have c40b0:decide ((a0.size:Int)≤x6_1)=false:=df_ c40
       clear c40
       replace H:=ob_ H
       obtain ⟨t188,A430,H⟩:=H
       replace H:(if t188=true then (some (2,a1,wrap64 ((wrap64 (x6_1+1)) - a1),t175,(⟨#[]⟩:ByteArray),x181005_1,x181006_1)) else (some (5,a1,wrap64 ((wrap64 (x6_1+1)) - a1),(⟨#[]⟩:ByteArray),(⟨#[]⟩:ByteArray),([]:List (S52)),false)))=some (r1,r2,r3,r4,r5,r6,r7):=H
       have A43:=A_ A430
       clear A430
       by_cases c44:t188=true
       ·subst c44
        have H1:(some (2,a1,wrap64 ((wrap64 (x6_1+1)) - a1),t175,(⟨#[]⟩:ByteArray),x181005_1,x181006_1))=some (r1,r2,r3,r4,r5,r6,r7):=by rw [if_pos rfl] at H;exact H
        clear H
        have H:=H1
        clear H1
        simp only [Option.some.injEq,Prod.mk.injEq] at H
        obtain ⟨rfl,rfl,rfl,rfl,rfl,rfl,rfl⟩:=H
        have hnb45:=NB180_174.out
        have hnc45:=NB174_180.out
        obtain ⟨_,_,_,_,_,_,_,_,_,_,_,_,_,_⟩:=g7_ BK180.out
        go_wp2_with (first|((with_reducible refine gate_callee (f:=16) rfl ?_);refine gl_ (some 80) rfl rfl Tryz.func16 (by kernel_rfl) rfl #[.string t175] rfl  ?_;(with_reducible refine (spec_l01Tag.calls kj11 t175 true _ A43.out).mono ?_);rintro e w' ⟨rfl,⟨nd,rfl⟩⟩;refine ⟨_,rfl,?_⟩;obtain ⟨_,_,_,_,_,_,_,_,_,_,_,_,_,_⟩:=g7_ BK174.out;obtain ⟨Ao48,co48,eo48⟩:=Kd.R_slice HO_181005.out;subst eo48))
        refine bodyPost_ret (results_cell_row rfl _ _ gb174 24 #[.int .i64 2,.int .i64 a1,.int .i64 (wrap64 ((wrap64 (x6_1+1)) - a1)),.string t175,.string (⟨#[]⟩:ByteArray),.slice Ao48 x181005_1.length co48,.bool x181006_1] (0,0) _ rfl (by (with_reducible repeat first|apply kn_|apply kd_|apply ka_);apply p7_;(with_reducible repeat first|apply kn_|apply kd_|apply ka_);refine blk_far ?_ NB174_180.out _;(with_reducible repeat first|apply kn_|apply kd_|apply ka_);exact BK174.out) Tryz.underlying24 rfl (by kernel_rfl)) rfl ?_
        exact ⟨_,by first|rfl|(simp [errW_none,errW_some] <;> rfl)|(simp [*,errW_none,errW_some] <;> rfl),by (with_reducible repeat first|apply ra_|apply rn_|apply rd_);exact Kd.R_mono (f7_ (g:=gb174) (Kd.R_far (p:=⟨gb180,2,none⟩) (Kd.R_types (Kd.R_types HO_181005.out BK180.out (by decide)) BK174.out (by decide)) (fun _ hk=>hk.1.2) (.int .i64 (wrap64 ((wrap64 (x6_1+1)) - a1)))) (fun _ hk=>hk.2) (.int .i64 2) (.int .i64 a1) (.int .i64 (wrap64 ((wrap64 (x6_1+1)) - a1))) (.string t175) (.string (⟨#[]⟩:ByteArray)) (.slice Ao48 x181005_1.length co48) (.bool x181006_1)) (fun _ hk=>trivial),bq2_ HB.out GE174.out GE180.out⟩
       ·replace c44:=bm_ c44
        subst c44
        have H1:(some (5,a1,wrap64 ((wrap64 (x6_1+1)) - a1),(⟨#[]⟩:ByteArray),(⟨#[]⟩:ByteArray),([]:List (S52)),false))=some (r1,r2,r3,r4,r5,r6,r7):=by rw [if_neg (show ¬ (false=true) by decide)] at H;exact H
        clear H
        have H:=H1
        clear H1
        simp only [Option.some.injEq,Prod.mk.injEq] at H
        obtain ⟨rfl,rfl,rfl,rfl,rfl,rfl,rfl⟩:=H
        have hnb49:=NB180_174.out
        have hnc49:=NB174_180.out
        obtain ⟨_,_,_,_,_,_,_,_,_,_,_,_,_,_⟩:=g7_ BK180.out
        go_wp2_with (first|((with_reducible refine gate_callee (f:=16) rfl ?_);refine gl_ (some 80) rfl rfl Tryz.func16 (by kernel_rfl) rfl #[.string t175] rfl  ?_;(with_reducible refine (spec_l01Tag.calls kj11 t175 false _ A43.out).mono ?_);rintro e w' ⟨rfl,⟨nd,rfl⟩⟩;refine ⟨_,rfl,?_⟩;obtain ⟨_,_,_,_,_,_,_,_,_,_,_,_,_,_⟩:=g7_ BK174.out))
        refine bodyPost_ret (results_cell_row rfl _ _ gb174 24 #[.int .i64 5,.int .i64 a1,.int .i64 (wrap64 ((wrap64 (x6_1+1)) - a1)),.string (⟨#[]⟩:ByteArray),.string (⟨#[]⟩:ByteArray),.slice none 0 0,.bool false] (0,0) _ rfl (by (with_reducible repeat first|apply kn_|apply kd_|apply ka_);apply p7_;(with_reducible repeat first|apply kn_|apply kd_|apply ka_);refine blk_far ?_ NB174_180.out _;(with_reducible repeat first|apply kn_|apply kd_|apply ka_);exact BK174.out) Tryz.underlying24 rfl (by kernel_rfl)) rfl ?_
        exact ⟨_,by first|rfl|(simp [errW_none,errW_some] <;> rfl)|(simp [*,errW_none,errW_some] <;> rfl),by first|exact Kd.R_nil _ _ _ _ _|exact Kd.N_nil _ _ _ _ _|exact Kd.V_nil _ _ _ _ _|exact Kd.Q_nil _ _ _ _ _|exact Kd.S_nil _ _ _ _ _,bq2_ HB.out GE174.out GE180.out⟩
end Go.Proofs.YtfkanlbmgbkniaaGreatDoor.PFnExactTokensOf
