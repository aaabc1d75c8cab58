/- The machine side of a law, printed by a program. No conditions. -/
import Derived.Test.YtfkanlbmgbkniaaGreatDoorPFnExactTokensOfx0
import Derived.Test.YtfkanlbmgbkniaaGreatDoorPFnExactTokensOfx12
import Derived.Test.YtfkanlbmgbkniaaGreatDoorPFnExactTokensOfx14
import Derived.Test.YtfkanlbmgbkniaaGreatDoorPFnExactTokensOfx15
namespace Go.Proofs.YtfkanlbmgbkniaaGreatDoor.PFnExactTokensOf
open Go.RowKit Go.Proofs.YtfkanlbmgbkniaaGreatDoorW.PrintWords Go.Proofs.YtfkanlbmgbkniaaGreatDoorW.PrintLast Go.Proofs.YtfkanlbmgbkniaaGreatDoorW.PrintMore
attribute [local go_sem] max2_int min2_int max_two min_two max_three min_three max_four min_four
set_option linter.unusedVariables false
set_option linter.unusedSimpArgs false
mutual
def impl_attribute.j0:Nat→ByteArray→Int→Bool→ByteArray→ByteArray→Option (ByteArray × ByteArray × Int × Bool)
 | 0,_,_,_,_,_=>none
 | k+1,x0,x9,x32,x309000,x309001=>if x32=true then (some (x309000,x309001,x9,true)) else ((impl_past.f k x0 (wrap64 (x9+1)) (⟨#[32,9,10,12,13]⟩:ByteArray)).bind fun t310=>(if t310=(x0.size:Int) then (some (x309000,x309001,t310,true)) else (if 0≤t310 then (if t310<(x0.size:Int) then (if (bt x0 t310)=34 then (impl_attribute.j1 k x0 t310 true x309000 x309001) else (impl_attribute.j1 k x0 t310 ((bt x0 t310) == 39) x309000 x309001)) else (none)) else (none))))
def impl_attribute.j1:Nat→ByteArray→Int→Bool→ByteArray→ByteArray→Option (ByteArray × ByteArray × Int × Bool)
 | 0,_,_,_,_,_=>none
 | k+1,x0,x1,x54,x309000,x309001=>if x54=true then (if 0≤x1 then (if x1≤(wrap64 (x1+1)) then (if (wrap64 (x1+1))≤(x0.size:Int) then ((impl_upTo.f k x0 (wrap64 (x1+1)) (x0.extract (x1:Int).toNat ((wrap64 (x1+1)):Int).toNat)).bind fun t311=>(if t311=(x0.size:Int) then (some (x309000,x309001,t311,false)) else (if 0≤(wrap64 (x1+1)) then (if (wrap64 (x1+1))≤t311 then (if t311≤(x0.size:Int) then ((impl_unescape.f k (x0.extract ((wrap64 (x1+1)):Int).toNat (t311:Int).toNat)).bind fun t312=>(some (x309000,t312,wrap64 (t311+1),true))) else (none)) else (none)) else (none)))) else (none)) else (none)) else (none)) else ((impl_upTo.f k x0 x1 (⟨#[32,9,10,12,13,62]⟩:ByteArray)).bind fun t313=>(if 0≤x1 then (if x1≤t313 then (if t313≤(x0.size:Int) then ((impl_unescape.f k (x0.extract (x1:Int).toNat (t313:Int).toNat)).bind fun t314=>(some (x309000,t314,t313,true))) else (none)) else (none)) else (none)))
end
def impl_attribute.f (k:Nat) (a0:ByteArray) (a1:Int):Option (ByteArray × ByteArray × Int × Bool):=(impl_upTo.f k a0 (wrap64 (a1+1)) (⟨#[32,9,10,12,13,47,62,61]⟩:ByteArray)).bind fun t306=>(if 0≤a1 then (if a1≤t306 then (if t306≤(a0.size:Int) then ((impl_lower.f (a0.extract (a1:Int).toNat (t306:Int).toNat)).bind fun t307=>((impl_past.f k a0 t306 (⟨#[32,9,10,12,13]⟩:ByteArray)).bind fun t309=>(if t309=(a0.size:Int) then (impl_attribute.j0 k a0 t309 true t307 (⟨#[]⟩:ByteArray)) else (if 0≤t309 then (if t309<(a0.size:Int) then (impl_attribute.j0 k a0 t309 ((bt a0 t309) != 61) t307 (⟨#[]⟩:ByteArray)) else (none)) else (none))))) else (none)) else (none)) else (none))
theorem impl_attribute.mono_l:∀ k,(∀ y0 y1 y2 y3 y4,LeO (impl_attribute.j0 k y0 y1 y2 y3 y4) (impl_attribute.j0 (k+1) y0 y1 y2 y3 y4))∧(∀ y0 y1 y2 y3 y4,LeO (impl_attribute.j1 k y0 y1 y2 y3 y4) (impl_attribute.j1 (k+1) y0 y1 y2 y3 y4))
 | 0=>⟨fun _ _ _ _ _ r h=>by simp [impl_attribute.j0] at h,fun _ _ _ _ _ r h=>by simp [impl_attribute.j1] at h⟩
 | k+1=>by
  obtain ⟨ih0,ih1⟩:=impl_attribute.mono_l k
  refine ⟨?_,?_⟩
  ·intro y0 y1 y2 y3 y4
   unfold impl_attribute.j0
   repeat' first|(with_reducible first|exact ih0 ..|exact ih1 ..|exact impl_past.mono ..|exact impl_unescape.mono ..|exact impl_upTo.mono ..|exact LeO.refl _|exact LeO.none _|refine LeO.ite ?_ ?_|refine LeO.bind ?_ (fun _=>?_))|exact ih0 ..|exact ih1 ..|exact LeO.none _|refine LeO.ite ?_ ?_|refine LeO.bind ?_ (fun _=>?_)
  ·intro y0 y1 y2 y3 y4
   unfold impl_attribute.j1
   repeat' first|(with_reducible first|exact ih0 ..|exact ih1 ..|exact impl_past.mono ..|exact impl_unescape.mono ..|exact impl_upTo.mono ..|exact LeO.refl _|exact LeO.none _|refine LeO.ite ?_ ?_|refine LeO.bind ?_ (fun _=>?_))|exact ih0 ..|exact ih1 ..|exact LeO.none _|refine LeO.ite ?_ ?_|refine LeO.bind ?_ (fun _=>?_)
theorem impl_attribute.mono:∀ a0 a1 k,LeO (impl_attribute.f k a0 a1) (impl_attribute.f (k+1) a0 a1):=by
 intro a0 a1 k
 obtain ⟨ih0,ih1⟩:=impl_attribute.mono_l k
 unfold impl_attribute.f
 repeat' first|(with_reducible first|exact ih0 ..|exact ih1 ..|exact impl_past.mono ..|exact impl_unescape.mono ..|exact impl_upTo.mono ..|exact LeO.refl _|exact LeO.none _|refine LeO.ite ?_ ?_|refine LeO.bind ?_ (fun _=>?_))|exact ih0 ..|exact ih1 ..|exact LeO.none _|refine LeO.ite ?_ ?_|refine LeO.bind ?_ (fun _=>?_)
set_option maxHeartbeats 8000000 in
set_option maxRecDepth 100000 in
theorem impl_attribute.calls (k:Nat) (a0:ByteArray) (a1:Int) (r1:ByteArray) (r2:ByteArray) (r3:Int) (r4:Bool) (w:World) (hL:Laid w) (h:impl_attribute.f k a0 a1=some (r1,r2,r3,r4)) :
 Calls Tryz.prog 62 #[.string a0,.int .i64 a1] w fun e w'=>e=.returned (.tuple #[.agg #[.string r1,.string r2],.int .i64 r3,.bool r4])∧Below w.heap.size w w':=by
 have hu52:=Tryz.underlying52
 have HB:=A_ (Below.refl w.heap.size w)
 have HL:=A_ hL
 clear hL
 have H:((impl_upTo.f k a0 (wrap64 (a1+1)) (⟨#[32,9,10,12,13,47,62,61]⟩:ByteArray)).bind fun t306=>(if 0≤a1 then (if a1≤t306 then (if t306≤(a0.size:Int) then ((impl_lower.f (a0.extract (a1:Int).toNat (t306:Int).toNat)).bind fun t307=>((impl_past.f k a0 t306 (⟨#[32,9,10,12,13]⟩:ByteArray)).bind fun t309=>(if t309=(a0.size:Int) then (impl_attribute.j0 k a0 t309 true t307 (⟨#[]⟩:ByteArray)) else (if 0≤t309 then (if t309<(a0.size:Int) then (impl_attribute.j0 k a0 t309 ((bt a0 t309) != 61) t307 (⟨#[]⟩:ByteArray)) else (none)) else (none))))) else (none)) else (none)) else (none)))=some (r1,r2,r3,r4):=h
 clear h
 replace H:=ob_ H
 obtain ⟨t306,A30,H⟩:=H
 replace H:(if 0≤a1 then (if a1≤t306 then (if t306≤(a0.size:Int) then ((impl_lower.f (a0.extract (a1:Int).toNat (t306:Int).toNat)).bind fun t307=>((impl_past.f k a0 t306 (⟨#[32,9,10,12,13]⟩:ByteArray)).bind fun t309=>(if t309=(a0.size:Int) then (impl_attribute.j0 k a0 t309 true t307 (⟨#[]⟩:ByteArray)) else (if 0≤t309 then (if t309<(a0.size:Int) then (impl_attribute.j0 k a0 t309 ((bt a0 t309) != 61) t307 (⟨#[]⟩:ByteArray)) else (none)) else (none))))) else (none)) else (none)) else (none))=some (r1,r2,r3,r4):=H
 have A3:=A_ A30
 clear A30
 by_cases c4:0≤a1
 ·rw [if_pos c4] at H
  have c4b0:=eq_true c4
  have c4b1:decide (0≤a1)=true:=dt_ c4
  clear c4
  by_cases c5:a1≤t306
  ·rw [if_pos c5] at H
   have c5b0:=eq_true c5
   have c5b1:decide (a1≤t306)=true:=dt_ c5
   clear c5
   by_cases c6:t306≤(a0.size:Int)
   ·rw [if_pos c6] at H
    have c6b0:=eq_true c6
    have c6b1:decide (t306≤(a0.size:Int))=true:=dt_ c6
    clear c6
    replace H:=ob_ H
    obtain ⟨t307,A70,H⟩:=H
    replace H:((impl_past.f k a0 t306 (⟨#[32,9,10,12,13]⟩:ByteArray)).bind fun t309=>(if t309=(a0.size:Int) then (impl_attribute.j0 k a0 t309 true t307 (⟨#[]⟩:ByteArray)) else (if 0≤t309 then (if t309<(a0.size:Int) then (impl_attribute.j0 k a0 t309 ((bt a0 t309) != 61) t307 (⟨#[]⟩:ByteArray)) else (none)) else (none))))=some (r1,r2,r3,r4):=H
    have A7:=A_ A70
    clear A70
    replace H:=ob_ H
    obtain ⟨t309,A80,H⟩:=H
    replace H:(if t309=(a0.size:Int) then (impl_attribute.j0 k a0 t309 true t307 (⟨#[]⟩:ByteArray)) else (if 0≤t309 then (if t309<(a0.size:Int) then (impl_attribute.j0 k a0 t309 ((bt a0 t309) != 61) t307 (⟨#[]⟩:ByteArray)) else (none)) else (none)))=some (r1,r2,r3,r4):=H
    have A8:=A_ A80
    clear A80
    have HC9:=A_ H
    clear H
    go_enter Tryz.func62,Tryz.ntmps62
    go_upto_region 4 with (first|((with_reducible refine gate_dst (N:=4) rfl ?_);refine box_event ?hg (N:=4) ?hd (cs:=#[.string (⟨#[]⟩:ByteArray),.string (⟨#[]⟩:ByteArray)]) (t:=52) ?hr ?_;(case hd=>rfl);(case hg=>rfl);(case hr=>first|(go_simp;done)|(go_simp;rfl));intro gb305 hg w10 hbox hb;have n0_:=A_ (bp_ (bq0_ HB.out) hb);have n1_:=A_ (hbox);have n2_:=A_ ((by rw [hg];exact (bz_ (bq0_ HB.out)):w.heap.size≤gb305));have n3_:=A_ ((by rw [hg];exact (bz_ (bq0_ HB.out)):w.heap.size≤gb305));clear HB;have HB:=n0_;have BK305:=n1_;have GW305:=n2_;have GE305:=n3_;clear n0_ n1_ n2_ n3_;clear hb hbox hg)|((with_reducible refine gate_callee (f:=45) rfl ?_);refine gl_ (some 13) rfl rfl Tryz.func45 (by kernel_rfl) rfl #[.string a0,.int .i64 (wrap64 (a1+1)),.string (⟨#[32,9,10,12,13,47,62,61]⟩:ByteArray)] rfl  ?_;(with_reducible refine (impl_upTo.calls k a0 (wrap64 (a1+1)) (⟨#[32,9,10,12,13,47,62,61]⟩:ByteArray) t306 _ A3.out).mono ?_);rintro e w' ⟨rfl,⟨nd,rfl⟩⟩;refine ⟨_,rfl,?_⟩;(try (rw [drewN_self w10];generalize hq_:World.drewN w10 _=w10;have n0_:Aside0 (w10.heap[gb305]? = some (.cells #[.string (⟨#[]⟩:ByteArray),.string (⟨#[]⟩:ByteArray)] 52 (0,0))):=⟨by rw [←hq_];exact (kq_ BK305.out)⟩;have n1_:Aside0 (Below w.heap.size w w10):=⟨by rw [←hq_];exact (bq1_ HB.out GE305.out)⟩;clear BK305 HB hq_;have BK305:=n0_;have HB:=n1_;clear n0_ n1_;obtain ⟨hcygb305_0,hcygb305_1,hfygb305_0,hfygb305_1⟩:=g2_ BK305.out)))|((with_reducible refine gate_callee (f:=58) rfl ?_);refine gl_ (some 18) rfl rfl Tryz.func58 (by kernel_rfl) rfl #[.string (a0.extract (a1:Int).toNat (t306:Int).toNat)] rfl  ?_;(with_reducible refine (impl_lower.calls (a0.extract (a1:Int).toNat (t306:Int).toNat) t307 _ A7.out).mono ?_);rintro e w11 ⟨rfl,hb⟩;refine ⟨_,rfl,?_⟩;have n0_:=A_ (kb_ (kq_ BK305.out) hb);have n1_:=A_ (bp_ (bq1_ HB.out GE305.out) hb);clear BK305;clear HB;have BK305:=n0_;have HB:=n1_;clear n0_ n1_;(try clear hb);(try clear hb2);(try clear hk);(try clear hi))|((with_reducible refine gate_dst (N:=8) rfl ?_);refine box_event ?hg (N:=8) ?hd (cs:=#[.string (⟨#[]⟩:ByteArray),.string (⟨#[]⟩:ByteArray)]) (t:=52) ?hr ?_;(case hd=>rfl);(case hg=>rfl);(case hr=>first|(go_simp;done)|(go_simp;rfl));intro gb308 hg w12 hbox hb;have n0_:=A_ (kb_ (kq_ BK305.out) hb);have n1_:=A_ (bp_ (bq1_ HB.out GE305.out) hb);have n2_:=A_ (hbox);have n3_:=A_ ((by rw [hg];exact (bz_ (bq1_ HB.out GE305.out)):w.heap.size≤gb308));have n4_:=A_ ((by rw [hg];exact (bz_ (bq1_ HB.out GE305.out)):w.heap.size≤gb308));have n5_:=A_ ((by rw [hg];exact Nat.ne_of_lt (blk_lt (g:=gb305) (o:=.cells #[.string (⟨#[]⟩:ByteArray),.string (⟨#[]⟩:ByteArray)] 52 (0,0)) (kq_ BK305.out)):gb305≠gb308));have n6_:=A_ ((by rw [hg];exact Nat.ne_of_gt (blk_lt (g:=gb305) (o:=.cells #[.string (⟨#[]⟩:ByteArray),.string (⟨#[]⟩:ByteArray)] 52 (0,0)) (kq_ BK305.out)):gb308≠gb305));clear BK305;clear HB;have BK305:=n0_;have HB:=n1_;have BK308:=n2_;have GW308:=n3_;have GE308:=n4_;have NB305_308:=n5_;have NB308_305:=n6_;clear n0_ n1_ n2_ n3_ n4_ n5_ n6_;clear hb hbox hg;have hnb13:=NB308_305.out;have hnc13:=NB305_308.out;obtain ⟨hcz14_0,hcz14_1,hfz14_0,hfz14_1⟩:=g2_ BK308.out)|((with_reducible refine gate_callee (f:=60) rfl ?_);refine gl_ (some 22) rfl rfl Tryz.func60 (by kernel_rfl) rfl #[.string a0,.int .i64 t306,.string (⟨#[32,9,10,12,13]⟩:ByteArray)] rfl  ?_;(with_reducible refine (impl_past.calls k a0 t306 (⟨#[32,9,10,12,13]⟩:ByteArray) t309 _ A8.out).mono ?_);rintro e w' ⟨rfl,⟨nd,rfl⟩⟩;refine ⟨_,rfl,?_⟩))
    (try simp only [Act.put,ls_,lz_,lc_])
    go_cut [32] (fun v32 wc=>∃ (kq:Nat) (x32_8:Bool),v32=.bool x32_8∧Aside0 (impl_attribute.j0 kq a0 t309 x32_8 t307 (⟨#[]⟩:ByteArray)=some (r1,r2,r3,r4))∧Aside0 (kq≤k)∧Aside0 (wc.heap[gb305]? = some (.cells #[.string (⟨#[]⟩:ByteArray),.string (⟨#[]⟩:ByteArray)] 52 (0,0)))∧Aside0 (wc.heap[gb308]? = some (.cells #[.string t307,.string (⟨#[]⟩:ByteArray)] 52 (0,0)))∧Aside0 (Below w.heap.size w wc))
    case first =>
     have H:=HC9.out
     clear HC9
     by_cases c15:t309=(a0.size:Int)
     ·rw [if_pos c15] at H
      have c15b0:(t309 == (a0.size:Int))=true:=beq_iff_eq.mpr c15
      have c15b1:(t309 != (a0.size:Int))=false:=bne_eq_false_iff_eq.mpr c15
      clear c15
      (first|rw [c15b0]|(simp only [i64_w,i32_w];rw [c15b0])|skip)
      have H':=A_ H
      clear H
      go_wp2
      go_meet
      case rel=>exact ⟨_,(true),rs_,H',⟨by first|omega|exact Nat.le_refl _⟩,⟨by (repeat first|(with_reducible first|apply kn_|apply kd_|apply ka_)|refine blk_far ?_ NB305_308.out _);exact BK305.out⟩,⟨by (with_reducible repeat first|apply kn_|apply kd_|apply ka_);refine blk_put (cs:=#[.string t307,.string (⟨#[]⟩:ByteArray)]) ?_ 1 _ rfl;(with_reducible repeat first|apply kn_|apply kd_|apply ka_);refine blk_put (cs:=#[.string (⟨#[]⟩:ByteArray),.string (⟨#[]⟩:ByteArray)]) ?_ 0 _ rfl;(with_reducible repeat first|apply kn_|apply kd_|apply ka_);exact BK308.out⟩,⟨bq2_ HB.out GE305.out GE308.out⟩⟩
     ·rw [if_neg c15] at H
      have c15b0:(t309 == (a0.size:Int))=false:=beq_eq_false_iff_ne.mpr c15
      have c15b1:(t309 != (a0.size:Int))=true:=bne_iff_ne.mpr c15
      (first|rw [c15b0]|(simp only [i64_w,i32_w];rw [c15b0])|skip)
      by_cases c16:0≤t309
      ·rw [if_pos c16] at H
       have c16b0:decide (0≤t309)=true:=dt_ c16
       clear c16
       by_cases c17:t309<(a0.size:Int)
       ·rw [if_pos c17] at H
        have c17b0:decide (t309<(a0.size:Int))=true:=dt_ c17
        clear c17
        have H':=A_ H
        clear H
        have p18:0≤(t309:Int):=oa_
        have q18:t309<(a0.size:Int):=oa_
        have hx18:=bt_at a0 t309
        replace p18:=eq_true p18
        replace q18:=eq_true q18
        go_wp2
        go_meet
        case rel=>exact ⟨_,(((bt a0 t309) != 61)),rs_,H',⟨by first|omega|exact Nat.le_refl _⟩,⟨by (repeat first|(with_reducible first|apply kn_|apply kd_|apply ka_)|refine blk_far ?_ NB305_308.out _);exact BK305.out⟩,⟨by (with_reducible repeat first|apply kn_|apply kd_|apply ka_);refine blk_put (cs:=#[.string t307,.string (⟨#[]⟩:ByteArray)]) ?_ 1 _ rfl;(with_reducible repeat first|apply kn_|apply kd_|apply ka_);refine blk_put (cs:=#[.string (⟨#[]⟩:ByteArray),.string (⟨#[]⟩:ByteArray)]) ?_ 0 _ rfl;(with_reducible repeat first|apply kn_|apply kd_|apply ka_);exact BK308.out⟩,⟨bq2_ HB.out GE305.out GE308.out⟩⟩
       ·rw [if_neg c17] at H
        exact absurd H (by simp)
      ·rw [if_neg c16] at H
       exact absurd H (by simp)
    case rest =>
     clear HC9
     try clear c1
     try clear p1
     try clear q1
     try clear hx1
     try clear p2
     try clear c4
     try clear c4b0
     try clear c4b1
     try clear c5
     try clear c5b0
     try clear c5b1
     try clear c6
     try clear c6b0
     try clear c6b1
     try clear p6
     try clear c13
     try clear c15
     try clear c15b0
     try clear c15b1
     try clear c16
     try clear c16b0
     try clear c17
     try clear c17b0
     try clear p18
     try clear q18
     try clear hx18
     try clear hcz14_0
     try clear hcz14_1
     try clear hfz14_0
     try clear hfz14_1
     try clear p18
     try clear q18
     obtain ⟨kq,x32_8,rfl,HA,HJ8,BK305,BK308,HB⟩:=hcut
     cases kq with
     | zero=>exact absurd HA.out (by simp [impl_attribute.j0])
     | succ kj8 =>
      have H:=HA.out
      clear HA
      simp only [impl_attribute.j0] at H
      by_cases c19:x32_8=true
      ·subst c19
       have H1:(some (t307,(⟨#[]⟩:ByteArray),t309,true))=some (r1,r2,r3,r4):=by rw [if_pos rfl] at H;exact H
       clear H
       have H:=H1
       clear H1
       simp only [Option.some.injEq,Prod.mk.injEq] at H
       obtain ⟨rfl,rfl,rfl,rfl⟩:=H
       have hnb20:=NB308_305.out
       have hnc20:=NB305_308.out
       obtain ⟨hcz21_0,hcz21_1,hfz21_0,hfz21_1⟩:=g2_ BK308.out
       obtain ⟨hcz22_0,hcz22_1,hfz22_0,hfz22_1⟩:=g2_ BK305.out
       go_wp2
       refine bodyPost_ret (results_ctt rfl _ _ gb305 52 #[.string t307,.string (⟨#[]⟩:ByteArray)] (0,0) _ rfl (by (with_reducible repeat first|apply kn_|apply kd_|apply ka_);refine blk_put (cs:=#[.string t307,.string (⟨#[]⟩:ByteArray)]) ?_ 1 _ rfl;(with_reducible repeat first|apply kn_|apply kd_|apply ka_);refine blk_put (cs:=#[.string (⟨#[]⟩:ByteArray),.string (⟨#[]⟩:ByteArray)]) ?_ 0 _ rfl;(with_reducible repeat first|apply kn_|apply kd_|apply ka_);exact BK305.out) Tryz.underlying52 rfl (by kernel_rfl)) rfl ?_
       exact ⟨by first|rfl|(simp [errW_none,errW_some] <;> rfl)|(simp [*,errW_none,errW_some] <;> rfl),bq2_ HB.out GE305.out GE308.out⟩
      ·replace c19:=bm_ c19
       subst c19
       have H1:((impl_past.f kj8 a0 (wrap64 (t309+1)) (⟨#[32,9,10,12,13]⟩:ByteArray)).bind fun t310=>(if t310=(a0.size:Int) then (some (t307,(⟨#[]⟩:ByteArray),t310,true)) else (if 0≤t310 then (if t310<(a0.size:Int) then (if (bt a0 t310)=34 then (impl_attribute.j1 kj8 a0 t310 true t307 (⟨#[]⟩:ByteArray)) else (impl_attribute.j1 kj8 a0 t310 ((bt a0 t310) == 39) t307 (⟨#[]⟩:ByteArray))) else (none)) else (none))))=some (r1,r2,r3,r4):=by rw [if_neg (show ¬ (false=true) by decide)] at H;exact H
       clear H
       have H:=H1
       clear H1
       replace H:=ob_ H
       obtain ⟨t310,A230,H⟩:=H
       replace H:(if t310=(a0.size:Int) then (some (t307,(⟨#[]⟩:ByteArray),t310,true)) else (if 0≤t310 then (if t310<(a0.size:Int) then (if (bt a0 t310)=34 then (impl_attribute.j1 kj8 a0 t310 true t307 (⟨#[]⟩:ByteArray)) else (impl_attribute.j1 kj8 a0 t310 ((bt a0 t310) == 39) t307 (⟨#[]⟩:ByteArray))) else (none)) else (none)))=some (r1,r2,r3,r4):=H
       have A23:=A_ A230
       clear A230
       by_cases c24:t310=(a0.size:Int)
       ·rw [if_pos c24] at H
        have c24b0:(t310 == (a0.size:Int))=true:=beq_iff_eq.mpr c24
        have c24b1:(t310 != (a0.size:Int))=false:=bne_eq_false_iff_eq.mpr c24
        clear c24
        simp only [Option.some.injEq,Prod.mk.injEq] at H
        obtain ⟨rfl,rfl,rfl,rfl⟩:=H
        go_wp2_with (first|((with_reducible refine gate_callee (f:=60) rfl ?_);refine gl_ (some 38) rfl rfl Tryz.func60 (by kernel_rfl) rfl #[.string a0,.int .i64 (wrap64 (t309+1)),.string (⟨#[32,9,10,12,13]⟩:ByteArray)] rfl  ?_;(with_reducible refine (impl_past.calls kj8 a0 (wrap64 (t309+1)) (⟨#[32,9,10,12,13]⟩:ByteArray) t310 _ A23.out).mono ?_);rintro e w' ⟨rfl,⟨nd,rfl⟩⟩;refine ⟨_,rfl,?_⟩;(try (rw [drewN_self wc];generalize hq_:World.drewN wc _=wc;have n0_:Aside0 (wc.heap[gb305]? = some (.cells #[.string (⟨#[]⟩:ByteArray),.string (⟨#[]⟩:ByteArray)] 52 (0,0))):=⟨by rw [←hq_];exact (kq_ BK305.out)⟩;have n1_:Aside0 (wc.heap[gb308]? = some (.cells #[.string t307,.string (⟨#[]⟩:ByteArray)] 52 (0,0))):=⟨by rw [←hq_];exact (kq_ BK308.out)⟩;have n2_:Aside0 (Below w.heap.size w wc):=⟨by rw [←hq_];exact (bq2_ HB.out GE305.out GE308.out)⟩;clear BK305 BK308 HB hq_;have BK305:=n0_;have BK308:=n1_;have HB:=n2_;clear n0_ n1_ n2_;obtain ⟨hcygb305_0,hcygb305_1,hfygb305_0,hfygb305_1⟩:=g2_ BK305.out;obtain ⟨hcygb308_0,hcygb308_1,hfygb308_0,hfygb308_1⟩:=g2_ BK308.out));have hnb25:=NB308_305.out;have hnc25:=NB305_308.out;obtain ⟨hcz26_0,hcz26_1,hfz26_0,hfz26_1⟩:=g2_ BK308.out;obtain ⟨hcz27_0,hcz27_1,hfz27_0,hfz27_1⟩:=g2_ BK305.out))
        refine bodyPost_ret (results_ctt rfl _ _ gb305 52 #[.string t307,.string (⟨#[]⟩:ByteArray)] (0,0) _ rfl (by (with_reducible repeat first|apply kn_|apply kd_|apply ka_);refine blk_put (cs:=#[.string t307,.string (⟨#[]⟩:ByteArray)]) ?_ 1 _ rfl;(with_reducible repeat first|apply kn_|apply kd_|apply ka_);refine blk_put (cs:=#[.string (⟨#[]⟩:ByteArray),.string (⟨#[]⟩:ByteArray)]) ?_ 0 _ rfl;(with_reducible repeat first|apply kn_|apply kd_|apply ka_);exact BK305.out) Tryz.underlying52 rfl (by kernel_rfl)) rfl ?_
        exact ⟨by first|rfl|(simp [errW_none,errW_some] <;> rfl)|(simp [*,errW_none,errW_some] <;> rfl),bq2_ HB.out GE305.out GE308.out⟩
       ·rw [if_neg c24] at H
        have c24b0:(t310 == (a0.size:Int))=false:=beq_eq_false_iff_ne.mpr c24
        have c24b1:(t310 != (a0.size:Int))=true:=bne_iff_ne.mpr c24
        have HC28:=A_ H
        clear H
        go_upto_region 9 with (first|((with_reducible refine gate_callee (f:=60) rfl ?_);refine gl_ (some 38) rfl rfl Tryz.func60 (by kernel_rfl) rfl #[.string a0,.int .i64 (wrap64 (t309+1)),.string (⟨#[32,9,10,12,13]⟩:ByteArray)] rfl  ?_;(with_reducible refine (impl_past.calls kj8 a0 (wrap64 (t309+1)) (⟨#[32,9,10,12,13]⟩:ByteArray) t310 _ A23.out).mono ?_);rintro e w' ⟨rfl,⟨nd,rfl⟩⟩;refine ⟨_,rfl,?_⟩))
        (try simp only [Act.put,ls_,lz_,lc_])
        go_cut [54] (fun v54 wc=>∃ (kq:Nat) (x54_27:Bool),v54=.bool x54_27∧Aside0 (impl_attribute.j1 kq a0 t310 x54_27 t307 (⟨#[]⟩:ByteArray)=some (r1,r2,r3,r4))∧Aside0 (kq≤kj8)∧Aside0 (wc.heap[gb305]? = some (.cells #[.string (⟨#[]⟩:ByteArray),.string (⟨#[]⟩:ByteArray)] 52 (0,0)))∧Aside0 (wc.heap[gb308]? = some (.cells #[.string t307,.string (⟨#[]⟩:ByteArray)] 52 (0,0)))∧Aside0 (Below w.heap.size w wc))
        case first =>
         have H:=HC28.out
         clear HC28
         by_cases c29:0≤t310
         ·rw [if_pos c29] at H
          have c29b0:decide (0≤t310)=true:=dt_ c29
          clear c29
          (first|rw [c29b0]|(simp only [i64_w,i32_w];rw [c29b0])|skip)
          by_cases c30:t310<(a0.size:Int)
          ·rw [if_pos c30] at H
           have c30b0:decide (t310<(a0.size:Int))=true:=dt_ c30
           clear c30
           by_cases c32:(bt a0 t310)=34
           ·rw [if_pos c32] at H
            have c32b0:((bt a0 t310) == 34)=true:=beq_iff_eq.mpr c32
            have c32b1:((bt a0 t310) != 34)=false:=bne_eq_false_iff_eq.mpr c32
            clear c32
            have H':=A_ H
            clear H
            have p31:0≤(t310:Int):=oa_
            have q31:t310<(a0.size:Int):=oa_
            have hx31:=bt_at a0 t310
            replace p31:=eq_true p31
            replace q31:=eq_true q31
            go_wp2
            go_meet
            case rel=>exact ⟨_,(true),rs_,H',⟨by have:=HJ8.out;first|omega|exact Nat.le_refl _⟩,⟨kq_ BK305.out⟩,⟨kq_ BK308.out⟩,⟨bq2_ HB.out GE305.out GE308.out⟩⟩
           ·rw [if_neg c32] at H
            have c32b0:((bt a0 t310) == 34)=false:=beq_eq_false_iff_ne.mpr c32
            have c32b1:((bt a0 t310) != 34)=true:=bne_iff_ne.mpr c32
            have H':=A_ H
            clear H
            have p31:0≤(t310:Int):=oa_
            have q31:t310<(a0.size:Int):=oa_
            have hx31:=bt_at a0 t310
            replace p31:=eq_true p31
            replace q31:=eq_true q31
            have p33:0≤(t310:Int):=oa_
            have q33:t310<(a0.size:Int):=oa_
            have hx33:=bt_at a0 t310
            replace p33:=eq_true p33
            replace q33:=eq_true q33
            go_wp2
            go_meet
            case rel=>exact ⟨_,(((bt a0 t310) == 39)),rs_,H',⟨by have:=HJ8.out;first|omega|exact Nat.le_refl _⟩,⟨kq_ BK305.out⟩,⟨kq_ BK308.out⟩,⟨bq2_ HB.out GE305.out GE308.out⟩⟩
          ·rw [if_neg c30] at H
           exact absurd H (by simp)
         ·rw [if_neg c29] at H
          exact absurd H (by simp)
        case rest =>
         clear HC28
         try clear c1
         try clear p1
         try clear q1
         try clear hx1
         try clear c2
         try clear p2
         try clear c3
         try clear p3
         try clear q3
         try clear hx3
         try clear c4
         try clear c4b0
         try clear c4b1
         try clear c5
         try clear c5b0
         try clear c5b1
         try clear c6
         try clear c6b0
         try clear c6b1
         try clear p6
         try clear c13
         try clear c15
         try clear c15b0
         try clear c15b1
         try clear c16
         try clear c16b0
         try clear c17
         try clear c17b0
         try clear p18
         try clear q18
         try clear hx18
         try clear c19
         try clear c20
         try clear c24
         try clear c24b0
         try clear c24b1
         try clear c25
         try clear c29
         try clear c29b0
         try clear c30
         try clear c30b0
         try clear p31
         try clear q31
         try clear hx31
         try clear c32
         try clear c32b0
         try clear c32b1
         try clear p33
         try clear q33
         try clear hx33
         try clear hcz14_0
         try clear hcz14_1
         try clear hcz21_0
         try clear hcz21_1
         try clear hcz22_0
         try clear hcz22_1
         try clear hcz26_0
         try clear hcz26_1
         try clear hcz27_0
         try clear hcz27_1
         try clear hfz14_0
         try clear hfz14_1
         try clear hfz21_0
         try clear hfz21_1
         try clear hfz22_0
         try clear hfz22_1
         try clear hfz26_0
         try clear hfz26_1
         try clear hfz27_0
         try clear hfz27_1
         try clear p1
         try clear p18
         try clear p2
         try clear p31
         try clear p33
         try clear p6
         try clear q1
         try clear q18
         try clear q31
         try clear q33
         obtain ⟨kq,x54_27,rfl,HA,HJ27,BK305,BK308,HB⟩:=hcut
         cases kq with
         | zero=>exact absurd HA.out (by simp [impl_attribute.j1])
         | succ kj27 =>
          have H:=HA.out
          clear HA
          simp only [impl_attribute.j1] at H
          by_cases c34:x54_27=true
          ·subst c34
           have H1:(if 0≤t310 then (if t310≤(wrap64 (t310+1)) then (if (wrap64 (t310+1))≤(a0.size:Int) then ((impl_upTo.f kj27 a0 (wrap64 (t310+1)) (a0.extract (t310:Int).toNat ((wrap64 (t310+1)):Int).toNat)).bind fun t311=>(if t311=(a0.size:Int) then (some (t307,(⟨#[]⟩:ByteArray),t311,false)) else (if 0≤(wrap64 (t310+1)) then (if (wrap64 (t310+1))≤t311 then (if t311≤(a0.size:Int) then ((impl_unescape.f kj27 (a0.extract ((wrap64 (t310+1)):Int).toNat (t311:Int).toNat)).bind fun t312=>(some (t307,t312,wrap64 (t311+1),true))) else (none)) else (none)) else (none)))) else (none)) else (none)) else (none))=some (r1,r2,r3,r4):=by rw [if_pos rfl] at H;exact H
           clear H
           have H:=H1
           clear H1
           by_cases c35:0≤t310
           ·rw [if_pos c35] at H
            have c35b0:=eq_true c35
            have c35b1:decide (0≤t310)=true:=dt_ c35
            clear c35
            by_cases c36:t310≤(wrap64 (t310+1))
            ·rw [if_pos c36] at H
             have c36b0:=eq_true c36
             have c36b1:decide (t310≤(wrap64 (t310+1)))=true:=dt_ c36
             by_cases c37:(wrap64 (t310+1))≤(a0.size:Int)
             ·rw [if_pos c37] at H
              have c37b0:=eq_true c37
              have c37b1:decide ((wrap64 (t310+1))≤(a0.size:Int))=true:=dt_ c37
              replace H:=ob_ H
              obtain ⟨t311,A380,H⟩:=H
              replace H:(if t311=(a0.size:Int) then (some (t307,(⟨#[]⟩:ByteArray),t311,false)) else (if 0≤(wrap64 (t310+1)) then (if (wrap64 (t310+1))≤t311 then (if t311≤(a0.size:Int) then ((impl_unescape.f kj27 (a0.extract ((wrap64 (t310+1)):Int).toNat (t311:Int).toNat)).bind fun t312=>(some (t307,t312,wrap64 (t311+1),true))) else (none)) else (none)) else (none)))=some (r1,r2,r3,r4):=H
              have A38:=A_ A380
              clear A380
              by_cases c39:t311=(a0.size:Int)
              ·rw [if_pos c39] at H
               have c39b0:(t311 == (a0.size:Int))=true:=beq_iff_eq.mpr c39
               have c39b1:(t311 != (a0.size:Int))=false:=bne_eq_false_iff_eq.mpr c39
               clear c39
               simp only [Option.some.injEq,Prod.mk.injEq] at H
               obtain ⟨rfl,rfl,rfl,rfl⟩:=H
               go_wp2_with (first|((with_reducible refine gate_callee (f:=45) rfl ?_);refine gl_ (some 63) rfl rfl Tryz.func45 (by kernel_rfl) rfl #[.string a0,.int .i64 (wrap64 (t310+1)),.string (a0.extract (t310:Int).toNat ((wrap64 (t310+1)):Int).toNat)] rfl  ?_;(with_reducible refine (impl_upTo.calls kj27 a0 (wrap64 (t310+1)) (a0.extract (t310:Int).toNat ((wrap64 (t310+1)):Int).toNat) t311 _ A38.out).mono ?_);rintro e w' ⟨rfl,⟨nd,rfl⟩⟩;refine ⟨_,rfl,?_⟩;(try (rw [drewN_self wc];generalize hq_:World.drewN wc _=wc;have n0_:Aside0 (wc.heap[gb305]? = some (.cells #[.string (⟨#[]⟩:ByteArray),.string (⟨#[]⟩:ByteArray)] 52 (0,0))):=⟨by rw [←hq_];exact (kq_ BK305.out)⟩;have n1_:Aside0 (wc.heap[gb308]? = some (.cells #[.string t307,.string (⟨#[]⟩:ByteArray)] 52 (0,0))):=⟨by rw [←hq_];exact (kq_ BK308.out)⟩;have n2_:Aside0 (Below w.heap.size w wc):=⟨by rw [←hq_];exact (bq2_ HB.out GE305.out GE308.out)⟩;clear BK305 BK308 HB hq_;have BK305:=n0_;have BK308:=n1_;have HB:=n2_;clear n0_ n1_ n2_;obtain ⟨hcygb305_0,hcygb305_1,hfygb305_0,hfygb305_1⟩:=g2_ BK305.out;obtain ⟨hcygb308_0,hcygb308_1,hfygb308_0,hfygb308_1⟩:=g2_ BK308.out));have hnb40:=NB308_305.out;have hnc40:=NB305_308.out;obtain ⟨_,_,_,_⟩:=g2_ BK308.out;obtain ⟨_,_,_,_⟩:=g2_ BK305.out))
               refine bodyPost_ret (results_ctt rfl _ _ gb305 52 #[.string t307,.string (⟨#[]⟩:ByteArray)] (0,0) _ rfl (by (with_reducible repeat first|apply kn_|apply kd_|apply ka_);refine blk_put (cs:=#[.string t307,.string (⟨#[]⟩:ByteArray)]) ?_ 1 _ rfl;(with_reducible repeat first|apply kn_|apply kd_|apply ka_);refine blk_put (cs:=#[.string (⟨#[]⟩:ByteArray),.string (⟨#[]⟩:ByteArray)]) ?_ 0 _ rfl;(with_reducible repeat first|apply kn_|apply kd_|apply ka_);exact BK305.out) Tryz.underlying52 rfl (by kernel_rfl)) rfl ?_
               exact ⟨by first|rfl|(simp [errW_none,errW_some] <;> rfl)|(simp [*,errW_none,errW_some] <;> rfl),bq2_ HB.out GE305.out GE308.out⟩
              ·rw [if_neg c39] at H
               have c39b0:(t311 == (a0.size:Int))=false:=beq_eq_false_iff_ne.mpr c39
               have c39b1:(t311 != (a0.size:Int))=true:=bne_iff_ne.mpr c39
               obtain ⟨ji43,hji43⟩:∃ j_:Int,(wrap64 (t310+1))=j_:=⟨_,rfl⟩
               replace H:(if 0≤(ji43) then (if (ji43)≤t311 then (if t311≤(a0.size:Int) then ((impl_unescape.f kj27 (a0.extract ((ji43):Int).toNat (t311:Int).toNat)).bind fun t312=>(some (t307,t312,wrap64 (t311+1),true))) else (none)) else (none)) else (none))=some (r1,r2,r3,r4):=by first|(rw [hji43] at H;exact H)|(simp only [hji43] at H ⊢;exact H)
               (try rw [hji43] at c36b0)
               (try rw [hji43] at c36b1)
               (try rw [hji43] at c36)
               (try rw [hji43] at c37b0)
               (try rw [hji43] at c37b1)
               (try rw [hji43] at c37)
               (try rw [hji43] at A38)
               have hji43w:(IntKind.i64.wrap (t310+1))=ji43:=(i64_w _).trans hji43
               by_cases c44:0≤(ji43)
               ·rw [if_pos c44] at H
                have c44b0:=eq_true c44
                have c44b1:decide (0≤(ji43))=true:=dt_ c44
                clear c44
                by_cases c45:(ji43)≤t311
                ·rw [if_pos c45] at H
                 have c45b0:=eq_true c45
                 have c45b1:decide ((ji43)≤t311)=true:=dt_ c45
                 clear c45
                 by_cases c46:t311≤(a0.size:Int)
                 ·rw [if_pos c46] at H
                  have c46b0:=eq_true c46
                  have c46b1:decide (t311≤(a0.size:Int))=true:=dt_ c46
                  clear c46
                  replace H:=ob_ H
                  obtain ⟨t312,A470,H⟩:=H
                  replace H:(some (t307,t312,wrap64 (t311+1),true))=some (r1,r2,r3,r4):=H
                  have A47:=A_ A470
                  clear A470
                  simp only [Option.some.injEq,Prod.mk.injEq] at H
                  obtain ⟨rfl,rfl,rfl,rfl⟩:=H
                  go_wp2_with (first|((with_reducible refine gate_callee (f:=45) rfl ?_);refine goesL_ (some 63) rfl rfl Tryz.func45 (by kernel_rfl) rfl #[.string a0,.int .i64 ji43,.string (a0.extract (t310:Int).toNat ((ji43):Int).toNat)] rfl (by (try simp only [List.map_toArray,List.map_cons,List.map_nil]);first|done|(simp only [hji43];rfl)|rfl|(simp only [ld_,lt_];rfl)) ?_;(with_reducible refine (impl_upTo.calls kj27 a0 ji43 (a0.extract (t310:Int).toNat ((ji43):Int).toNat) t311 _ A38.out).mono ?_);rintro e w' ⟨rfl,⟨nd,rfl⟩⟩;refine ⟨_,rfl,?_⟩;(try (rw [drewN_self wc];generalize hq_:World.drewN wc _=wc;have n0_:Aside0 (wc.heap[gb305]? = some (.cells #[.string (⟨#[]⟩:ByteArray),.string (⟨#[]⟩:ByteArray)] 52 (0,0))):=⟨by rw [←hq_];exact (kq_ BK305.out)⟩;have n1_:Aside0 (wc.heap[gb308]? = some (.cells #[.string t307,.string (⟨#[]⟩:ByteArray)] 52 (0,0))):=⟨by rw [←hq_];exact (kq_ BK308.out)⟩;have n2_:Aside0 (Below w.heap.size w wc):=⟨by rw [←hq_];exact (bq2_ HB.out GE305.out GE308.out)⟩;clear BK305 BK308 HB hq_;have BK305:=n0_;have BK308:=n1_;have HB:=n2_;clear n0_ n1_ n2_;obtain ⟨hcygb305_0,hcygb305_1,hfygb305_0,hfygb305_1⟩:=g2_ BK305.out;obtain ⟨hcygb308_0,hcygb308_1,hfygb308_0,hfygb308_1⟩:=g2_ BK308.out)))|((with_reducible refine gate_callee (f:=46) rfl ?_);refine goesL_ (some 75) rfl rfl Tryz.func46 (by kernel_rfl) rfl #[.string (a0.extract ((ji43):Int).toNat (t311:Int).toNat)] rfl (by (try simp only [List.map_toArray,List.map_cons,List.map_nil]);first|done|(simp only [hji43];rfl)|rfl|(simp only [ld_,lt_];rfl)) ?_;(with_reducible refine (impl_unescape.calls kj27 (a0.extract ((ji43):Int).toNat (t311:Int).toNat) t312 _ ?sideL A47.out).mono ?_);(case sideL=>exact HL.out.below (bq2_ HB.out GE305.out GE308.out));rintro e w48 ⟨rfl,hb⟩;refine ⟨_,rfl,?_⟩;have n0_:=A_ (kb_ (kq_ BK305.out) hb);have n1_:=A_ (kb_ (kq_ BK308.out) hb);have n2_:=A_ (bp_ (bq2_ HB.out GE305.out GE308.out) hb);clear BK305;clear BK308;clear HB;have BK305:=n0_;have BK308:=n1_;have HB:=n2_;clear n0_ n1_ n2_;(try clear hb);(try clear hb2);(try clear hk);(try clear hi);have hnb49:=NB308_305.out;have hnc49:=NB305_308.out;obtain ⟨_,_,_,_⟩:=g2_ BK308.out;obtain ⟨_,_,_,_⟩:=g2_ BK305.out))
                  refine bodyPost_ret (results_ctt rfl _ _ gb305 52 #[.string t307,.string t312] (0,0) _ rfl (by (with_reducible repeat first|apply kn_|apply kd_|apply ka_);refine blk_put (cs:=#[.string t307,.string (⟨#[]⟩:ByteArray)]) ?_ 1 _ rfl;(with_reducible repeat first|apply kn_|apply kd_|apply ka_);refine blk_put (cs:=#[.string (⟨#[]⟩:ByteArray),.string (⟨#[]⟩:ByteArray)]) ?_ 0 _ rfl;(with_reducible repeat first|apply kn_|apply kd_|apply ka_);refine blk_far ?_ NB305_308.out _;(with_reducible repeat first|apply kn_|apply kd_|apply ka_);exact BK305.out) Tryz.underlying52 rfl (by kernel_rfl)) rfl ?_
                  exact ⟨by first|rfl|(simp [errW_none,errW_some] <;> rfl)|(simp only [←hji43];first|rfl|(simp [errW_none,errW_some] <;> rfl))|(simp [*,errW_none,errW_some] <;> rfl),bq2_ HB.out GE305.out GE308.out⟩
                 ·rw [if_neg c46] at H
                  exact absurd H (by simp)
                ·rw [if_neg c45] at H
                 exact absurd H (by simp)
               ·rw [if_neg c44] at H
                exact absurd H (by simp)
             ·rw [if_neg c37] at H
              exact absurd H (by simp)
            ·rw [if_neg c36] at H
             exact absurd H (by simp)
           ·rw [if_neg c35] at H
            exact absurd H (by simp)
          ·replace c34:=bm_ c34
           subst c34
           have H1:((impl_upTo.f kj27 a0 t310 (⟨#[32,9,10,12,13,62]⟩:ByteArray)).bind fun t313=>(if 0≤t310 then (if t310≤t313 then (if t313≤(a0.size:Int) then ((impl_unescape.f kj27 (a0.extract (t310:Int).toNat (t313:Int).toNat)).bind fun t314=>(some (t307,t314,t313,true))) else (none)) else (none)) else (none)))=some (r1,r2,r3,r4):=by rw [if_neg (show ¬ (false=true) by decide)] at H;exact H
           clear H
           have H:=H1
           clear H1
           replace H:=ob_ H
           obtain ⟨t313,A520,H⟩:=H
           replace H:(if 0≤t310 then (if t310≤t313 then (if t313≤(a0.size:Int) then ((impl_unescape.f kj27 (a0.extract (t310:Int).toNat (t313:Int).toNat)).bind fun t314=>(some (t307,t314,t313,true))) else (none)) else (none)) else (none))=some (r1,r2,r3,r4):=H
           have A52:=A_ A520
           clear A520
           by_cases c53:0≤t310
           ·rw [if_pos c53] at H
            have c53b0:=eq_true c53
            have c53b1:decide (0≤t310)=true:=dt_ c53
            clear c53
            by_cases c54:t310≤t313
            ·rw [if_pos c54] at H
             have c54b0:=eq_true c54
             have c54b1:decide (t310≤t313)=true:=dt_ c54
             clear c54
             by_cases c55:t313≤(a0.size:Int)
             ·rw [if_pos c55] at H
              have c55b0:=eq_true c55
              have c55b1:decide (t313≤(a0.size:Int))=true:=dt_ c55
              clear c55
              replace H:=ob_ H
              obtain ⟨t314,A560,H⟩:=H
              replace H:(some (t307,t314,t313,true))=some (r1,r2,r3,r4):=H
              have A56:=A_ A560
              clear A560
              simp only [Option.some.injEq,Prod.mk.injEq] at H
              obtain ⟨rfl,rfl,rfl,rfl⟩:=H
              go_wp2_with (first|((with_reducible refine gate_callee (f:=45) rfl ?_);refine gl_ (some 82) rfl rfl Tryz.func45 (by kernel_rfl) rfl #[.string a0,.int .i64 t310,.string (⟨#[32,9,10,12,13,62]⟩:ByteArray)] rfl  ?_;(with_reducible refine (impl_upTo.calls kj27 a0 t310 (⟨#[32,9,10,12,13,62]⟩:ByteArray) t313 _ A52.out).mono ?_);rintro e w' ⟨rfl,⟨nd,rfl⟩⟩;refine ⟨_,rfl,?_⟩;(try (rw [drewN_self wc];generalize hq_:World.drewN wc _=wc;have n0_:Aside0 (wc.heap[gb305]? = some (.cells #[.string (⟨#[]⟩:ByteArray),.string (⟨#[]⟩:ByteArray)] 52 (0,0))):=⟨by rw [←hq_];exact (kq_ BK305.out)⟩;have n1_:Aside0 (wc.heap[gb308]? = some (.cells #[.string t307,.string (⟨#[]⟩:ByteArray)] 52 (0,0))):=⟨by rw [←hq_];exact (kq_ BK308.out)⟩;have n2_:Aside0 (Below w.heap.size w wc):=⟨by rw [←hq_];exact (bq2_ HB.out GE305.out GE308.out)⟩;clear BK305 BK308 HB hq_;have BK305:=n0_;have BK308:=n1_;have HB:=n2_;clear n0_ n1_ n2_;obtain ⟨hcygb305_0,hcygb305_1,hfygb305_0,hfygb305_1⟩:=g2_ BK305.out;obtain ⟨hcygb308_0,hcygb308_1,hfygb308_0,hfygb308_1⟩:=g2_ BK308.out)))|((with_reducible refine gate_callee (f:=46) rfl ?_);refine gl_ (some 87) rfl rfl Tryz.func46 (by kernel_rfl) rfl #[.string (a0.extract (t310:Int).toNat (t313:Int).toNat)] rfl  ?_;(with_reducible refine (impl_unescape.calls kj27 (a0.extract (t310:Int).toNat (t313:Int).toNat) t314 _ ?sideL A56.out).mono ?_);(case sideL=>exact HL.out.below (bq2_ HB.out GE305.out GE308.out));rintro e w57 ⟨rfl,hb⟩;refine ⟨_,rfl,?_⟩;have n0_:=A_ (kb_ (kq_ BK305.out) hb);have n1_:=A_ (kb_ (kq_ BK308.out) hb);have n2_:=A_ (bp_ (bq2_ HB.out GE305.out GE308.out) hb);clear BK305;clear BK308;clear HB;have BK305:=n0_;have BK308:=n1_;have HB:=n2_;clear n0_ n1_ n2_;(try clear hb);(try clear hb2);(try clear hk);(try clear hi);have hnb58:=NB308_305.out;have hnc58:=NB305_308.out;obtain ⟨_,_,_,_⟩:=g2_ BK308.out;obtain ⟨_,_,_,_⟩:=g2_ BK305.out))
              refine bodyPost_ret (results_ctt rfl _ _ gb305 52 #[.string t307,.string t314] (0,0) _ rfl (by (with_reducible repeat first|apply kn_|apply kd_|apply ka_);refine blk_put (cs:=#[.string t307,.string (⟨#[]⟩:ByteArray)]) ?_ 1 _ rfl;(with_reducible repeat first|apply kn_|apply kd_|apply ka_);refine blk_put (cs:=#[.string (⟨#[]⟩:ByteArray),.string (⟨#[]⟩:ByteArray)]) ?_ 0 _ rfl;(with_reducible repeat first|apply kn_|apply kd_|apply ka_);refine blk_far ?_ NB305_308.out _;(with_reducible repeat first|apply kn_|apply kd_|apply ka_);exact BK305.out) Tryz.underlying52 rfl (by kernel_rfl)) rfl ?_
              exact ⟨by first|rfl|(simp [errW_none,errW_some] <;> rfl)|(simp [*,errW_none,errW_some] <;> rfl),bq2_ HB.out GE305.out GE308.out⟩
             ·rw [if_neg c55] at H
              exact absurd H (by simp)
            ·rw [if_neg c54] at H
             exact absurd H (by simp)
           ·rw [if_neg c53] at H
            exact absurd H (by simp)
   ·rw [if_neg c6] at H
    exact absurd H (by simp)
  ·rw [if_neg c5] at H
   exact absurd H (by simp)
 ·rw [if_neg c4] at H
  exact absurd H (by simp)
theorem infoAt:(Tryz.prog.info? 52).map (fun i=>(i.zero,i.size,i.bytes))=some (some (.agg #[(.string ⟨#[]⟩),(.string ⟨#[]⟩)]),2,32):=by kernel_rfl
theorem nilA_none (w:World) (c:Nat):(binOp .eql 22 (.slice none 0 c) (.slice none 0 0)).run Tryz.prog w=.ok (.bool true) w:=Lib.run_eql_slice_nil w 22 52 none 0 c 0 0 Tryz.underlying22
theorem nilA_some (w:World) (A:Addr) (n c:Nat):(binOp .eql 22 (.slice (some A) n c) (.slice none 0 0)).run Tryz.prog w=.ok (.bool false) w:=Lib.run_eql_slice_nil w 22 52 (some A) n c 0 0 Tryz.underlying22
set_option maxHeartbeats 4000000 in
set_option maxRecDepth 100000 in
theorem clone_attrs (l:List S52) (A:Option Addr) (c:Nat) (W:World) (hr:Kd.C k52 W A l.length l) (hn:l.length≤1048576):Calls Tryz.prog 63 #[.slice A l.length c] W fun e w'=>∃ v,e=.returned v∧Kd.R k52 52 w' W.heap.size (fun _=>True) v l∧Below W.heap.size W w':=by
 have HB:=A_ (Below.refl W.heap.size W)
 have HC:=A_ hr
 have HN:=A_ hn
 have hz:A=none→l=[]:=fun h=>by
  subst h
  apply List.eq_nil_of_length_eq_zero
  rcases Nat.eq_zero_or_pos l.length with h0|h0
  ·exact h0
  ·obtain ⟨ad,h,_⟩:=hr.2.2 h0
   cases h
 cases A with
 | none =>
  obtain rfl:=hz rfl
  have hnil:=fun w:World=>nilA_none w c
  clear hr hn hz
  go_enter Tryz.func63,Tryz.ntmps63
  go_wp2
  go_ret
  exact ⟨_,rfl,Kd.R_nil _ _ _ _ _,HB.out⟩
 | some ad =>
  have hnil:=fun w:World=>nilA_some w ad l.length c
  clear hr hn hz
  go_enter Tryz.func63,Tryz.ntmps63
  go_wp2_with (first|((with_reducible refine gate_dst (N:=5) rfl ?_);refine Kd.R_lit k52 (w0:=W) W.heap.size 52 ?hg (N:=5) ?hd (xs:=([]:List S52)) (inner:=[]) (ok:=fun _=>True) (okp:=fun _=>True) ?hr ?hp (fun _ hk=>hk) trivial (Below.refl _ _) (Nat.le_refl _) (by simp) ?_;(case hd=>rfl);(case hg=>rfl);(case hr=>first|(go_simp;done)|(go_simp;rfl));(case hp=>exact (Reps.none _ _));intro v2 w2 ho hb _ _;(have HR2:=A_ ho);(have HB2:=A_ hb);(have HC2:=A_ (cb_ HC.out hb));clear ho hb)|((with_reducible refine gate_builtin (b:=.append) (xs:=#[.tmp 5,.tmp 6]) rfl ?_);at_builtin;refine Kd.R_append_rows k52 (w0:=W) W.heap.size rfl (.tmp 5) (.tmp 6) 22 52 (.agg #[(.string ⟨#[]⟩),(.string ⟨#[]⟩)]) 32 rfl Tryz.underlying22 infoAt rfl (by decide) (by omega) v2 ([]:List S52) l _ _ _ (fun _=>True) (fun _=>False) rfl rfl ?aO ?aR (fun _ _ h=>h) (fun _ h=>h.elim) (fun _ _=>trivial) ?aB ?aS ?aL ?_;(case aR=>exact HC2.out);(case aO=>exact HR2.out);(case aB=>exact HB2.out);(case aS=>exact HB2.out.size);(case aL=>have:=HN.out;simp only [List.length_nil];omega);intro v3 w3 ho hb _ _;rw [List.nil_append] at ho;(have HR3:=A_ ho);(have HB3:=A_ hb);clear ho hb))
  go_ret
  exact ⟨_,rfl,HR3.out,HB3.out⟩
def slices_CloneAttr.f (l0:List S52):Option (List S52):=if l0.length≤1048576 then some l0 else none
theorem slices_CloneAttr.calls (A0:Option Addr) (c0:Nat) (l0:List S52) (r:List S52) (w:World) (hr0:Kd.C k52 w A0 l0.length l0) (hc0:l0.length≤c0) (h:slices_CloneAttr.f l0=some r) :
 Calls Tryz.prog 63 #[.slice A0 l0.length c0] w fun e w'=>∃ v0_:Value,e=.returned (v0_)∧Kd.R k52 52 w' w.heap.size (fun _=>True) v0_ r∧Below w.heap.size w w':=by
 unfold slices_CloneAttr.f at h
 obtain ⟨h1,h⟩:=Option.ite_none_right_eq_some.mp h
 obtain rfl:=oi_ h
 exact clone_attrs l0 A0 c0 w hr0 h1
end Go.Proofs.YtfkanlbmgbkniaaGreatDoor.PFnExactTokensOf
