/- The machine side of a law, printed by a program. No conditions. -/
import Derived.Test.YtfkanlbmgbkniaaGreatDoorPFnExactTokensOfx0
import Derived.Test.YtfkanlbmgbkniaaGreatDoorPFnExactTokensOfx12
import Derived.Test.YtfkanlbmgbkniaaGreatDoorPFnExactTokensOfx14
import Derived.Test.YtfkanlbmgbkniaaGreatDoorPFnExactTokensOfx16
import Derived.Test.YtfkanlbmgbkniaaGreatDoorPFnExactTokensOfx17
namespace Go.Proofs.YtfkanlbmgbkniaaGreatDoor.PFnExactTokensOf
open Go.RowKit Go.Proofs.YtfkanlbmgbkniaaGreatDoorW.PrintWords Go.Proofs.YtfkanlbmgbkniaaGreatDoorW.PrintLast Go.Proofs.YtfkanlbmgbkniaaGreatDoorW.PrintMore
attribute [local go_sem] max2_int min2_int max_two min_two max_three min_three max_four min_four
set_option linter.unusedVariables false
set_option linter.unusedSimpArgs false
mutual
def impl_open.j1:Nat→Int→Int→Int→Int→Int→ByteArray→ByteArray→List (S52)→Bool→Option (Int × Int × Int × ByteArray × ByteArray × (List (S52)) × Bool)
 | 0,_,_,_,_,_,_,_,_,_=>none
 | k+1,x1,x5,x321000,x321001,x321002,x321003,x321004,x321005,x321006=>(impl_TagOK.f k x321003).bind fun t355=>(if t355=true then (some (x321000,x321001,wrap64 ((wrap64 (x5+1)) - x1),x321003,x321004,x321005,x321006)) else ((impl_nothing.f x1 (wrap64 (x5+1))).bind fun bt356=>(some (bt356.1,bt356.2.1,bt356.2.2.1,bt356.2.2.2.1,bt356.2.2.2.2.1,bt356.2.2.2.2.2.1,bt356.2.2.2.2.2.2))))
def impl_open.l0:Nat→ByteArray→Int→Int→Int→Int→Int→ByteArray→ByteArray→List (S52)→Bool→Option (Int × Int × Int × ByteArray × ByteArray × (List (S52)) × Bool)
 | 0,_,_,_,_,_,_,_,_,_,_=>none
 | k+1,x0,x1,x5,x321000,x321001,x321002,x321003,x321004,x321005,x321006=>(impl_past.f k x0 x5 (⟨#[32,9,10,12,13,47]⟩:ByteArray)).bind fun t321=>(if t321=(x0.size:Int) then ((impl_nothing.f x1 t321).bind fun bt322=>(some (bt322.1,bt322.2.1,bt322.2.2.1,bt322.2.2.2.1,bt322.2.2.2.2.1,bt322.2.2.2.2.2.1,bt322.2.2.2.2.2.2))) else (if 0≤t321 then (if t321<(x0.size:Int) then (if (bt x0 t321)=62 then (if t321>x5 then (if 0≤(wrap64 (t321 - 1)) then (if (wrap64 (t321 - 1))<(x0.size:Int) then (impl_open.j1 k x1 t321 x321000 x321001 x321002 x321003 x321004 x321005 ((bt x0 (wrap64 (t321 - 1))) == 47)) else (none)) else (none)) else (impl_open.j1 k x1 t321 x321000 x321001 x321002 x321003 x321004 x321005 false)) else ((impl_attribute.f k x0 t321).bind fun bt331=>(if bt331.2.2.2=true then ((slices_CloneAttr.f x321005).bind fun t345=>((some (([(⟨bt331.1,bt331.2.1⟩:S52)]:List (S52)):List (S52))).bind fun y348=>(if t345.length+y348.length<4398046511104 then ((some (t345++y348:List (S52))).bind fun y351=>((impl_areAttrs.f y351).bind fun t354=>(if t354=true then (impl_open.l0 k x0 x1 bt331.2.2.1 x321000 x321001 x321002 x321003 x321004 y351 x321006) else (impl_open.l0 k x0 x1 bt331.2.2.1 x321000 x321001 x321002 x321003 x321004 x321005 x321006)))) else (none)))) else ((impl_nothing.f x1 (x0.size:Int)).bind fun bt336=>(some (bt336.1,bt336.2.1,bt336.2.2.1,bt336.2.2.2.1,bt336.2.2.2.2.1,bt336.2.2.2.2.2.1,bt336.2.2.2.2.2.2)))))) else (none)) else (none)))
end
def impl_open.f (k:Nat) (a0:ByteArray) (a1:Int):Option (Int × Int × Int × ByteArray × ByteArray × (List (S52)) × Bool):=(impl_upTo.f k a0 (wrap64 (a1+1)) (⟨#[32,9,10,12,13,47,62]⟩:ByteArray)).bind fun t318=>(if 0≤(wrap64 (a1+1)) then (if (wrap64 (a1+1))≤t318 then (if t318≤(a0.size:Int) then ((impl_lower.f (a0.extract ((wrap64 (a1+1)):Int).toNat (t318:Int).toNat)).bind fun t319=>(impl_open.l0 k a0 a1 t318 2 a1 0 t319 (⟨#[]⟩:ByteArray) ([]:List (S52)) false)) else (none)) else (none)) else (none))
theorem impl_open.mono_l:∀ k,(∀ y0 y1 y2 y3 y4 y5 y6 y7 y8,LeO (impl_open.j1 k y0 y1 y2 y3 y4 y5 y6 y7 y8) (impl_open.j1 (k+1) y0 y1 y2 y3 y4 y5 y6 y7 y8))∧(∀ y0 y1 y2 y3 y4 y5 y6 y7 y8 y9,LeO (impl_open.l0 k y0 y1 y2 y3 y4 y5 y6 y7 y8 y9) (impl_open.l0 (k+1) y0 y1 y2 y3 y4 y5 y6 y7 y8 y9))
 | 0=>⟨fun _ _ _ _ _ _ _ _ _ r h=>by simp [impl_open.j1] at h,fun _ _ _ _ _ _ _ _ _ _ r h=>by simp [impl_open.l0] at h⟩
 | k+1=>by
  obtain ⟨ih0,ih1⟩:=impl_open.mono_l k
  refine ⟨?_,?_⟩
  ·intro y0 y1 y2 y3 y4 y5 y6 y7 y8
   unfold impl_open.j1
   repeat' first|(with_reducible first|exact ih0 ..|exact ih1 ..|exact impl_TagOK.mono ..|exact impl_attribute.mono ..|exact impl_past.mono ..|exact impl_upTo.mono ..|exact LeO.refl _|exact LeO.none _|refine LeO.ite ?_ ?_|refine LeO.bind ?_ (fun _=>?_))|exact ih0 ..|exact ih1 ..|exact LeO.none _|refine LeO.ite ?_ ?_|refine LeO.bind ?_ (fun _=>?_)
  ·intro y0 y1 y2 y3 y4 y5 y6 y7 y8 y9
   unfold impl_open.l0
   repeat' first|(with_reducible first|exact ih0 ..|exact ih1 ..|exact impl_TagOK.mono ..|exact impl_attribute.mono ..|exact impl_past.mono ..|exact impl_upTo.mono ..|exact LeO.refl _|exact LeO.none _|refine LeO.ite ?_ ?_|refine LeO.bind ?_ (fun _=>?_))|exact ih0 ..|exact ih1 ..|exact LeO.none _|refine LeO.ite ?_ ?_|refine LeO.bind ?_ (fun _=>?_)
theorem impl_open.mono:∀ a0 a1 k,LeO (impl_open.f k a0 a1) (impl_open.f (k+1) a0 a1):=by
 intro a0 a1 k
 obtain ⟨ih0,ih1⟩:=impl_open.mono_l k
 unfold impl_open.f
 repeat' first|(with_reducible first|exact ih0 ..|exact ih1 ..|exact impl_TagOK.mono ..|exact impl_attribute.mono ..|exact impl_past.mono ..|exact impl_upTo.mono ..|exact LeO.refl _|exact LeO.none _|refine LeO.ite ?_ ?_|refine LeO.bind ?_ (fun _=>?_))|exact ih0 ..|exact ih1 ..|exact LeO.none _|refine LeO.ite ?_ ?_|refine LeO.bind ?_ (fun _=>?_)
set_option maxHeartbeats 8000000 in
set_option maxRecDepth 100000 in
theorem impl_open.calls (k:Nat) (a0:ByteArray) (a1:Int) (r1:Int) (r2:Int) (r3:Int) (r4:ByteArray) (r5:ByteArray) (r6:List (S52)) (r7:Bool) (w:World) (hL:Laid w) (h:impl_open.f k a0 a1=some (r1,r2,r3,r4,r5,r6,r7)) :
 Calls Tryz.prog 41 #[.string a0,.int .i64 a1] w fun e w'=>∃ v5_:Value,e=.returned (.agg #[.int .i64 r1,.int .i64 r2,.int .i64 r3,.string r4,.string r5,v5_,.bool r7])∧Kd.R k52 52 w' w.heap.size (fun _=>True) v5_ r6∧Below w.heap.size w w':=by
 have hu24:=Tryz.underlying24
 have hu52:=Tryz.underlying52
 have HB:=A_ (Below.refl w.heap.size w)
 have HL:=A_ hL
 clear hL
 have H:((impl_upTo.f k a0 (wrap64 (a1+1)) (⟨#[32,9,10,12,13,47,62]⟩:ByteArray)).bind fun t318=>(if 0≤(wrap64 (a1+1)) then (if (wrap64 (a1+1))≤t318 then (if t318≤(a0.size:Int) then ((impl_lower.f (a0.extract ((wrap64 (a1+1)):Int).toNat (t318:Int).toNat)).bind fun t319=>(impl_open.l0 k a0 a1 t318 2 a1 0 t319 (⟨#[]⟩:ByteArray) ([]:List (S52)) false)) else (none)) else (none)) else (none)))=some (r1,r2,r3,r4,r5,r6,r7):=h
 clear h
 replace H:=ob_ H
 obtain ⟨t318,A30,H⟩:=H
 replace H:(if 0≤(wrap64 (a1+1)) then (if (wrap64 (a1+1))≤t318 then (if t318≤(a0.size:Int) then ((impl_lower.f (a0.extract ((wrap64 (a1+1)):Int).toNat (t318:Int).toNat)).bind fun t319=>(impl_open.l0 k a0 a1 t318 2 a1 0 t319 (⟨#[]⟩:ByteArray) ([]:List (S52)) false)) else (none)) else (none)) else (none))=some (r1,r2,r3,r4,r5,r6,r7):=H
 have A3:=A_ A30
 clear A30
 obtain ⟨ji4,hji4⟩:∃ j_:Int,(wrap64 (a1+1))=j_:=⟨_,rfl⟩
 replace H:(if 0≤(ji4) then (if (ji4)≤t318 then (if t318≤(a0.size:Int) then ((impl_lower.f (a0.extract ((ji4):Int).toNat (t318:Int).toNat)).bind fun t319=>(impl_open.l0 k a0 a1 t318 2 a1 0 t319 (⟨#[]⟩:ByteArray) ([]:List (S52)) false)) else (none)) else (none)) else (none))=some (r1,r2,r3,r4,r5,r6,r7):=by first|(rw [hji4] at H;exact H)|(simp only [hji4] at H ⊢;exact H)
 (try rw [hji4] at A3)
 have hji4w:(IntKind.i64.wrap (a1+1))=ji4:=(i64_w _).trans hji4
 by_cases c5:0≤(ji4)
 ·rw [if_pos c5] at H
  have c5b0:=eq_true c5
  have c5b1:decide (0≤(ji4))=true:=dt_ c5
  clear c5
  by_cases c6:(ji4)≤t318
  ·rw [if_pos c6] at H
   have c6b0:=eq_true c6
   have c6b1:decide ((ji4)≤t318)=true:=dt_ c6
   clear c6
   by_cases c7:t318≤(a0.size:Int)
   ·rw [if_pos c7] at H
    have c7b0:=eq_true c7
    have c7b1:decide (t318≤(a0.size:Int))=true:=dt_ c7
    clear c7
    replace H:=ob_ H
    obtain ⟨t319,A80,H⟩:=H
    replace H:(impl_open.l0 k a0 a1 t318 2 a1 0 t319 (⟨#[]⟩:ByteArray) ([]:List (S52)) false)=some (r1,r2,r3,r4,r5,r6,r7):=H
    have A8:=A_ A80
    clear A80
    have HC9:=A_ H
    clear H
    go_enter Tryz.func41,Tryz.ntmps41
    go_upto_block 0 with (first|((with_reducible refine gate_dst (N:=4) rfl ?_);refine box_event ?hg (N:=4) ?hd (cs:=#[.int .i64 0,.int .i64 0,.int .i64 0,.string (⟨#[]⟩:ByteArray),.string (⟨#[]⟩:ByteArray),.slice none 0 0,.bool false]) (t:=24) ?hr ?_;(case hd=>rfl);(case hg=>rfl);(case hr=>first|(go_simp;done)|(go_simp;rfl)|(first|(go_simp;done)|(go_simp;rfl)));intro gb317 hg w10 hbox hb;have n0_:=A_ (bp_ (bq0_ HB.out) hb);have n1_:=A_ (hbox);have n2_:=A_ ((by rw [hg];exact (bz_ (bq0_ HB.out)):w.heap.size≤gb317));have n3_:=A_ ((by rw [hg];exact (bz_ (bq0_ HB.out)):w.heap.size≤gb317));clear HB;have HB:=n0_;have BK317:=n1_;have GW317:=n2_;have GE317:=n3_;clear n0_ n1_ n2_ n3_;clear hb hbox hg)|((with_reducible refine gate_callee (f:=45) rfl ?_);refine goesL_ (some 15) rfl rfl Tryz.func45 (by kernel_rfl) rfl #[.string a0,.int .i64 ji4,.string (⟨#[32,9,10,12,13,47,62]⟩:ByteArray)] rfl (by (try simp only [List.map_toArray,List.map_cons,List.map_nil]);first|done|(simp only [hji4];rfl)|rfl|(simp only [ld_,lt_];rfl)) ?_;(with_reducible refine (impl_upTo.calls k a0 ji4 (⟨#[32,9,10,12,13,47,62]⟩:ByteArray) t318 _ A3.out).mono ?_);rintro e w' ⟨rfl,⟨nd,rfl⟩⟩;refine ⟨_,rfl,?_⟩;(try (rw [drewN_self w10];generalize hq_:World.drewN w10 _=w10;have n0_:Aside0 (w10.heap[gb317]? = some (.cells #[.int .i64 0,.int .i64 0,.int .i64 0,.string (⟨#[]⟩:ByteArray),.string (⟨#[]⟩:ByteArray),.slice none 0 0,.bool false] 24 (0,0))):=⟨by rw [←hq_];exact (kq_ BK317.out)⟩;have n1_:Aside0 (Below w.heap.size w w10):=⟨by rw [←hq_];exact (bq1_ HB.out GE317.out)⟩;clear BK317 HB hq_;have BK317:=n0_;have HB:=n1_;clear n0_ n1_;obtain ⟨hcygb317_0,hcygb317_1,hcygb317_2,hcygb317_3,hcygb317_4,hcygb317_5,hcygb317_6,hfygb317_0,hfygb317_1,hfygb317_2,hfygb317_3,hfygb317_4,hfygb317_5,hfygb317_6⟩:=g7_ BK317.out)))|((with_reducible refine gate_callee (f:=58) rfl ?_);refine goesL_ (some 22) rfl rfl Tryz.func58 (by kernel_rfl) rfl #[.string (a0.extract ((ji4):Int).toNat (t318:Int).toNat)] rfl (by (try simp only [List.map_toArray,List.map_cons,List.map_nil]);first|done|(simp only [hji4];rfl)|rfl|(simp only [ld_,lt_];rfl)) ?_;(with_reducible refine (impl_lower.calls (a0.extract ((ji4):Int).toNat (t318:Int).toNat) t319 _ A8.out).mono ?_);rintro e w11 ⟨rfl,hb⟩;refine ⟨_,rfl,?_⟩;have n0_:=A_ (kb_ (kq_ BK317.out) hb);have n1_:=A_ (bp_ (bq1_ HB.out GE317.out) hb);clear BK317;clear HB;have BK317:=n0_;have HB:=n1_;clear n0_ n1_;(try clear hb);(try clear hb2);(try clear hk);(try clear hi))|((with_reducible refine gate_dst (N:=6) rfl ?_);refine box_event ?hg (N:=6) ?hd (cs:=#[.int .i64 0,.int .i64 0,.int .i64 0,.string (⟨#[]⟩:ByteArray),.string (⟨#[]⟩:ByteArray),.slice none 0 0,.bool false]) (t:=24) ?hr ?_;(case hd=>rfl);(case hg=>rfl);(case hr=>first|(go_simp;done)|(go_simp;rfl)|(first|(go_simp;done)|(go_simp;rfl)));intro gb320 hg w12 hbox hb;have n0_:=A_ (kb_ (kq_ BK317.out) hb);have n1_:=A_ (bp_ (bq1_ HB.out GE317.out) hb);have n2_:=A_ (hbox);have n3_:=A_ ((by rw [hg];exact (bz_ (bq1_ HB.out GE317.out)):w.heap.size≤gb320));have n4_:=A_ ((by rw [hg];exact (bz_ (bq1_ HB.out GE317.out)):w.heap.size≤gb320));have n5_:=A_ ((by rw [hg];exact Nat.ne_of_lt (blk_lt (g:=gb317) (o:=.cells #[.int .i64 0,.int .i64 0,.int .i64 0,.string (⟨#[]⟩:ByteArray),.string (⟨#[]⟩:ByteArray),.slice none 0 0,.bool false] 24 (0,0)) (kq_ BK317.out)):gb317≠gb320));have n6_:=A_ ((by rw [hg];exact Nat.ne_of_gt (blk_lt (g:=gb317) (o:=.cells #[.int .i64 0,.int .i64 0,.int .i64 0,.string (⟨#[]⟩:ByteArray),.string (⟨#[]⟩:ByteArray),.slice none 0 0,.bool false] 24 (0,0)) (kq_ BK317.out)):gb320≠gb317));clear BK317;clear HB;have BK317:=n0_;have HB:=n1_;have BK320:=n2_;have GW320:=n3_;have GE320:=n4_;have NB317_320:=n5_;have NB320_317:=n6_;clear n0_ n1_ n2_ n3_ n4_ n5_ n6_;clear hb hbox hg;have hnb13:=NB320_317.out;have hnc13:=NB317_320.out;obtain ⟨hcz14_0,hcz14_1,hcz14_2,hcz14_3,hcz14_4,hcz14_5,hcz14_6,hfz14_0,hfz14_1,hfz14_2,hfz14_3,hfz14_4,hfz14_5,hfz14_6⟩:=g7_ BK320.out))
    (try simp only [Act.put,ls_,lz_,lc_])
    go_cut [5] (fun v5 wc=>∃ (kq:Nat) (x5_8:Int) (x318000_8:Int) (x318001_8:Int) (x318002_8:Int) (x318003_8:ByteArray) (x318004_8:ByteArray) (x318006_8:Bool) (x321005_8:List (S52)) (x321006_8:Bool) (u321005:Value),v5=.int .i64 x5_8∧Aside0 (impl_open.j1 kq a1 x5_8 2 a1 0 t319 (⟨#[]⟩:ByteArray) x321005_8 x321006_8=some (r1,r2,r3,r4,r5,r6,r7))∧Aside0 (kq≤k)∧Aside0 (Kd.R k52 52 wc w.heap.size (fun _=>True) u321005 x321005_8)∧Aside0 (wc.heap[gb317]? = some (.cells #[.int .i64 x318000_8,.int .i64 x318001_8,.int .i64 x318002_8,.string x318003_8,.string x318004_8,(.slice none 0 0),.bool x318006_8] 24 (0,0)))∧Aside0 (wc.heap[gb320]? = some (.cells #[.int .i64 2,.int .i64 a1,.int .i64 0,.string t319,.string (⟨#[]⟩:ByteArray),u321005,.bool x321006_8] 24 (0,0)))∧Aside0 (Below w.heap.size w wc))
    case first =>
     have H:=HC9.out
     clear HC9
     have H':=A_ H
     clear H
     go_wp2
     go_loopg [5] k (fun kq v5 w'=>∃ (x5_1:Int) (x318000_1:Int) (x318001_1:Int) (x318002_1:Int) (x318003_1:ByteArray) (x318004_1:ByteArray) (x318006_1:Bool) (x321005_1:List (S52)) (x321006_1:Bool) (u321005:Value),v5=.int .i64 x5_1∧Aside0 (impl_open.l0 kq a0 a1 x5_1 2 a1 0 t319 (⟨#[]⟩:ByteArray) x321005_1 x321006_1=some (r1,r2,r3,r4,r5,r6,r7))∧Aside0 (kq≤k)∧Aside0 (Kd.R k52 52 w' w.heap.size (fun _=>True) u321005 x321005_1)∧Aside0 (w'.heap[gb317]? = some (.cells #[.int .i64 x318000_1,.int .i64 x318001_1,.int .i64 x318002_1,.string x318003_1,.string x318004_1,(.slice none 0 0),.bool x318006_1] 24 (0,0)))∧Aside0 (w'.heap[gb320]? = some (.cells #[.int .i64 2,.int .i64 a1,.int .i64 0,.string t319,.string (⟨#[]⟩:ByteArray),u321005,.bool x321006_1] 24 (0,0)))∧Aside0 (Below w.heap.size w w'))
     case atStart=>exact ⟨(t318),(0),(0),(0),((⟨#[]⟩:ByteArray)),((⟨#[]⟩:ByteArray)),(false),(([]:List (S52))),(false),(.slice none 0 0),rs_,H',⟨Nat.le_refl _⟩,⟨by first|exact Kd.R_nil _ _ _ _ _|exact Kd.N_nil _ _ _ _ _|exact Kd.V_nil _ _ _ _ _|exact Kd.Q_nil _ _ _ _ _|exact Kd.S_nil _ _ _ _ _⟩,⟨by (repeat first|(with_reducible first|apply kn_|apply kd_|apply ka_)|refine blk_far ?_ NB317_320.out _);exact BK317.out⟩,⟨by (with_reducible repeat first|apply kn_|apply kd_|apply ka_);exact p7_ (kq_ BK320.out)⟩,⟨bq2_ HB.out GE317.out GE320.out⟩⟩
     case round =>
      clear H'
      try clear c1
      try clear p2
      try clear c4
      try clear c5
      try clear c5b0
      try clear c5b1
      try clear c6
      try clear c6b0
      try clear c6b1
      try clear p6
      try clear c7
      try clear c7b0
      try clear c7b1
      try clear c13
      try clear hcz14_0
      try clear hcz14_1
      try clear hcz14_2
      try clear hcz14_3
      try clear hcz14_4
      try clear hcz14_5
      try clear hcz14_6
      try clear hfz14_0
      try clear hfz14_1
      try clear hfz14_2
      try clear hfz14_3
      try clear hfz14_4
      try clear hfz14_5
      try clear hfz14_6
      obtain ⟨x5_1,x318000_1,x318001_1,x318002_1,x318003_1,x318004_1,x318006_1,x321005_1,x321006_1,u321005,rfl,HA,HK1,HO_321005,BK317,BK320,HB⟩:=hrel
      cases gk with
      | zero=>exact absurd HA.out (by simp [impl_open.l0])
      | succ k1 =>
       have H:=HA.out
       clear HA
       simp only [impl_open.l0] at H
       replace H:=ob_ H
       obtain ⟨t321,A150,H⟩:=H
       replace H:(if t321=(a0.size:Int) then ((impl_nothing.f a1 t321).bind fun bt322=>(some (bt322.1,bt322.2.1,bt322.2.2.1,bt322.2.2.2.1,bt322.2.2.2.2.1,bt322.2.2.2.2.2.1,bt322.2.2.2.2.2.2))) else (if 0≤t321 then (if t321<(a0.size:Int) then (if (bt a0 t321)=62 then (if t321>x5_1 then (if 0≤(wrap64 (t321 - 1)) then (if (wrap64 (t321 - 1))<(a0.size:Int) then (impl_open.j1 k1 a1 t321 2 a1 0 t319 (⟨#[]⟩:ByteArray) x321005_1 ((bt a0 (wrap64 (t321 - 1))) == 47)) else (none)) else (none)) else (impl_open.j1 k1 a1 t321 2 a1 0 t319 (⟨#[]⟩:ByteArray) x321005_1 false)) else ((impl_attribute.f k1 a0 t321).bind fun bt331=>(if bt331.2.2.2=true then ((slices_CloneAttr.f x321005_1).bind fun t345=>((some (([(⟨bt331.1,bt331.2.1⟩:S52)]:List (S52)):List (S52))).bind fun y348=>(if t345.length+y348.length<4398046511104 then ((some (t345++y348:List (S52))).bind fun y351=>((impl_areAttrs.f y351).bind fun t354=>(if t354=true then (impl_open.l0 k1 a0 a1 bt331.2.2.1 2 a1 0 t319 (⟨#[]⟩:ByteArray) y351 x321006_1) else (impl_open.l0 k1 a0 a1 bt331.2.2.1 2 a1 0 t319 (⟨#[]⟩:ByteArray) x321005_1 x321006_1)))) else (none)))) else ((impl_nothing.f a1 (a0.size:Int)).bind fun bt336=>(some (bt336.1,bt336.2.1,bt336.2.2.1,bt336.2.2.2.1,bt336.2.2.2.2.1,bt336.2.2.2.2.2.1,bt336.2.2.2.2.2.2)))))) else (none)) else (none)))=some (r1,r2,r3,r4,r5,r6,r7):=H
       have A15:=A_ A150
       clear A150
       by_cases c16:t321=(a0.size:Int)
       ·rw [if_pos c16] at H
        have c16b0:(t321 == (a0.size:Int))=true:=beq_iff_eq.mpr c16
        have c16b1:(t321 != (a0.size:Int))=false:=bne_eq_false_iff_eq.mpr c16
        clear c16
        (first|rw [c16b0]|(simp only [i64_w,i32_w];rw [c16b0])|skip)
        replace H:=ob_ H
        obtain ⟨⟨t322,t323,t324,t325,t326,t327,t330⟩,A170,H⟩:=H
        replace H:(some (t322,t323,t324,t325,t326,t327,t330))=some (r1,r2,r3,r4,r5,r6,r7):=H
        have A17:=A_ A170
        clear A170
        simp only [Option.some.injEq,Prod.mk.injEq] at H
        obtain ⟨rfl,rfl,rfl,rfl,rfl,rfl,rfl⟩:=H
        go_wp2_with (first|((with_reducible refine gate_callee (f:=60) rfl ?_);refine gl_ (some 27) rfl rfl Tryz.func60 (by kernel_rfl) rfl #[.string a0,.int .i64 x5_1,.string (⟨#[32,9,10,12,13,47]⟩:ByteArray)] rfl  ?_;(with_reducible refine (impl_past.calls k1 a0 x5_1 (⟨#[32,9,10,12,13,47]⟩:ByteArray) t321 _ A15.out).mono ?_);rintro e w' ⟨rfl,⟨nd,rfl⟩⟩;refine ⟨_,rfl,?_⟩;(try (rw [drewN_self wr];generalize hq_:World.drewN wr _=wr;have n0_:Aside0 (Kd.R k52 52 wr w.heap.size (fun _=>True) u321005 x321005_1):=⟨by rw [←hq_];exact (rq_ HO_321005.out)⟩;have n1_:Aside0 (wr.heap[gb317]? = some (.cells #[.int .i64 x318000_1,.int .i64 x318001_1,.int .i64 x318002_1,.string x318003_1,.string x318004_1,.slice none 0 0,.bool x318006_1] 24 (0,0))):=⟨by rw [←hq_];exact (kq_ BK317.out)⟩;have n2_:Aside0 (wr.heap[gb320]? = some (.cells #[.int .i64 2,.int .i64 a1,.int .i64 0,.string t319,.string (⟨#[]⟩:ByteArray),u321005,.bool x321006_1] 24 (0,0))):=⟨by rw [←hq_];exact (kq_ BK320.out)⟩;have n3_:Aside0 (Below w.heap.size w wr):=⟨by rw [←hq_];exact (bq2_ HB.out GE317.out GE320.out)⟩;clear HO_321005 BK317 BK320 HB hq_;have HO_321005:=n0_;have BK317:=n1_;have BK320:=n2_;have HB:=n3_;clear n0_ n1_ n2_ n3_;obtain ⟨hcygb317_0,hcygb317_1,hcygb317_2,hcygb317_3,hcygb317_4,hcygb317_5,hcygb317_6,hfygb317_0,hfygb317_1,hfygb317_2,hfygb317_3,hfygb317_4,hfygb317_5,hfygb317_6⟩:=g7_ BK317.out;obtain ⟨hcygb320_0,hcygb320_1,hcygb320_2,hcygb320_3,hcygb320_4,hcygb320_5,hcygb320_6,hfygb320_0,hfygb320_1,hfygb320_2,hfygb320_3,hfygb320_4,hfygb320_5,hfygb320_6⟩:=g7_ BK320.out)))|((with_reducible refine gate_callee (f:=61) rfl ?_);refine gl_ (some 34) rfl rfl Tryz.func61 (by kernel_rfl) rfl #[.int .i64 a1,.int .i64 t321] rfl  ?_;(with_reducible refine (impl_nothing.calls a1 t321 t322 t323 t324 t325 t326 t327 t330 _ A17.out).mono ?_);rintro e w18 ⟨v328,rfl,ho0,hb⟩;refine ⟨_,rfl,?_⟩;have n0_:=A_ (Kd.R_elder' (rq_ HO_321005.out) (Kd.R_base ho0) hb);have n1_:=A_ (Kd.R_lower (Kd.R_new' ho0 (Kd.R_lt (rq_ HO_321005.out))) (bz_ (bq2_ HB.out GE317.out GE320.out)));have n2_:=A_ (kb_ (kq_ BK317.out) hb);have n3_:=A_ (kb_ (kq_ BK320.out) hb);have n4_:=A_ (bp_ (bq2_ HB.out GE317.out GE320.out) hb);clear HO_321005;clear BK317;clear BK320;clear HB;have HO_321005:=n0_;have HO329:=n1_;have BK317:=n2_;have BK320:=n3_;have HB:=n4_;clear n0_ n1_ n2_ n3_ n4_;(try clear hb);(try clear hb2);(try clear hk);(try clear hi);(try clear ho0);have hnb19:=NB317_320.out;have hnc19:=NB320_317.out;obtain ⟨_,_,_,_,_,_,_,_,_,_,_,_,_,_⟩:=g7_ BK317.out;obtain ⟨Ao21,co21,eo21⟩:=Kd.R_slice HO329.out;subst eo21))
        refine bodyPost_ret (results_cell_row rfl _ _ gb317 24 #[.int .i64 t322,.int .i64 t323,.int .i64 t324,.string t325,.string t326,.slice Ao21 t327.length co21,.bool t330] (0,0) _ rfl (by (with_reducible repeat first|apply kn_|apply kd_|apply ka_);exact p7_ (kq_ BK317.out)) Tryz.underlying24 rfl (by kernel_rfl)) rfl ?_
        exact ⟨_,by first|rfl|(simp [errW_none,errW_some] <;> rfl)|(simp only [←hji4];first|rfl|(simp [errW_none,errW_some] <;> rfl))|(simp [*,errW_none,errW_some] <;> rfl),by (with_reducible repeat first|apply ra_|apply rn_|apply rd_);exact Kd.R_mono (f7_ (g:=gb317) (Kd.R_types HO329.out BK317.out (by decide)) (fun _ hk=>hk.2) (.int .i64 t322) (.int .i64 t323) (.int .i64 t324) (.string t325) (.string t326) (.slice Ao21 t327.length co21) (.bool t330)) (fun _ hk=>trivial),bq2_ HB.out GE317.out GE320.out⟩
       ·rw [if_neg c16] at H
        have c16b0:(t321 == (a0.size:Int))=false:=beq_eq_false_iff_ne.mpr c16
        have c16b1:(t321 != (a0.size:Int))=true:=bne_iff_ne.mpr c16
        (first|rw [c16b0]|(simp only [i64_w,i32_w];rw [c16b0])|skip)
        by_cases c22:0≤t321
        ·rw [if_pos c22] at H
         have c22b0:decide (0≤t321)=true:=dt_ c22
         clear c22
         by_cases c23:t321<(a0.size:Int)
         ·rw [if_pos c23] at H
          have c23b0:decide (t321<(a0.size:Int))=true:=dt_ c23
          clear c23
          by_cases c25:(bt a0 t321)=62
          ·rw [if_pos c25] at H
           have c25b0:((bt a0 t321) == 62)=true:=beq_iff_eq.mpr c25
           have c25b1:((bt a0 t321) != 62)=false:=bne_eq_false_iff_eq.mpr c25
           clear c25
           by_cases c26:t321>x5_1
           ·rw [if_pos c26] at H
            have c26b0:decide (x5_1<t321)=true:=dt_ c26
            clear c26
            obtain ⟨ji27,hji27⟩:∃ j_:Int,(wrap64 (t321 - 1))=j_:=⟨_,rfl⟩
            replace H:(if 0≤(ji27) then (if (ji27)<(a0.size:Int) then (impl_open.j1 k1 a1 t321 2 a1 0 t319 (⟨#[]⟩:ByteArray) x321005_1 ((bt a0 (ji27)) == 47)) else (none)) else (none))=some (r1,r2,r3,r4,r5,r6,r7):=by first|(rw [hji27] at H;exact H)|(simp only [hji27] at H ⊢;exact H)
            (try rw [hji27] at A15)
            have hji27w:(IntKind.i64.wrap (t321 - 1))=ji27:=(i64_w _).trans hji27
            (try rw [hji27] at hji4w)
            by_cases c28:0≤(ji27)
            ·rw [if_pos c28] at H
             have c28b0:decide (0≤(ji27))=true:=dt_ c28
             clear c28
             by_cases c29:(ji27)<(a0.size:Int)
             ·rw [if_pos c29] at H
              have c29b0:decide ((ji27)<(a0.size:Int))=true:=dt_ c29
              clear c29
              have H':=A_ H
              clear H
              go_wp2_with (first|((with_reducible refine gate_callee (f:=60) rfl ?_);refine gl_ (some 27) rfl rfl Tryz.func60 (by kernel_rfl) rfl #[.string a0,.int .i64 x5_1,.string (⟨#[32,9,10,12,13,47]⟩:ByteArray)] rfl  ?_;(with_reducible refine (impl_past.calls k1 a0 x5_1 (⟨#[32,9,10,12,13,47]⟩:ByteArray) t321 _ A15.out).mono ?_);rintro e w' ⟨rfl,⟨nd,rfl⟩⟩;refine ⟨_,rfl,?_⟩;(try (rw [drewN_self wr];generalize hq_:World.drewN wr _=wr;have n0_:Aside0 (Kd.R k52 52 wr w.heap.size (fun _=>True) u321005 x321005_1):=⟨by rw [←hq_];exact (rq_ HO_321005.out)⟩;have n1_:Aside0 (wr.heap[gb317]? = some (.cells #[.int .i64 x318000_1,.int .i64 x318001_1,.int .i64 x318002_1,.string x318003_1,.string x318004_1,.slice none 0 0,.bool x318006_1] 24 (0,0))):=⟨by rw [←hq_];exact (kq_ BK317.out)⟩;have n2_:Aside0 (wr.heap[gb320]? = some (.cells #[.int .i64 2,.int .i64 a1,.int .i64 0,.string t319,.string (⟨#[]⟩:ByteArray),u321005,.bool x321006_1] 24 (0,0))):=⟨by rw [←hq_];exact (kq_ BK320.out)⟩;have n3_:Aside0 (Below w.heap.size w wr):=⟨by rw [←hq_];exact (bq2_ HB.out GE317.out GE320.out)⟩;clear HO_321005 BK317 BK320 HB hq_;have HO_321005:=n0_;have BK317:=n1_;have BK320:=n2_;have HB:=n3_;clear n0_ n1_ n2_ n3_;obtain ⟨hcygb317_0,hcygb317_1,hcygb317_2,hcygb317_3,hcygb317_4,hcygb317_5,hcygb317_6,hfygb317_0,hfygb317_1,hfygb317_2,hfygb317_3,hfygb317_4,hfygb317_5,hfygb317_6⟩:=g7_ BK317.out;obtain ⟨hcygb320_0,hcygb320_1,hcygb320_2,hcygb320_3,hcygb320_4,hcygb320_5,hcygb320_6,hfygb320_0,hfygb320_1,hfygb320_2,hfygb320_3,hfygb320_4,hfygb320_5,hfygb320_6⟩:=g7_ BK320.out));have p24:0≤(t321:Int):=oa_;have q24:t321<(a0.size:Int):=oa_;have hx24:=bt_at a0 t321;replace p24:=eq_true p24;replace q24:=eq_true q24;have p30:0≤((ji27):Int):=oa_;have q30:(ji27)<(a0.size:Int):=oa_;have hx30:=bt_at a0 (ji27);replace p30:=eq_true p30;replace q30:=eq_true q30;have hnb31:=NB320_317.out;have hnc31:=NB317_320.out;obtain ⟨_,_,_,_,_,_,_,_,_,_,_,_,_,_⟩:=g7_ BK320.out))
              go_meet
              case rel=>exact ⟨_,(t321),(x318000_1),(x318001_1),(x318002_1),(x318003_1),(x318004_1),(x318006_1),(x321005_1),(((bt a0 (ji27)) == 47)),(u321005),rs_,H',⟨by have:=HK1.out;first|omega|exact Nat.le_refl _⟩,⟨by (with_reducible repeat first|apply ra_|apply rn_|apply rd_);exact Kd.R_mono (Kd.R_far (p:=⟨gb320,6,none⟩) (Kd.R_types HO_321005.out BK320.out (by decide)) (fun _ hk=>hk.2) (.bool ((bt a0 (ji27)) == 47))) (fun _ hk=>trivial)⟩,⟨by (with_reducible repeat first|apply kn_|apply kd_|apply ka_);refine blk_far ?_ NB317_320.out _;(with_reducible repeat first|apply kn_|apply kd_|apply ka_);exact BK317.out⟩,⟨by (with_reducible repeat first|apply kn_|apply kd_|apply ka_);refine blk_put (cs:=#[.int .i64 2,.int .i64 a1,.int .i64 0,.string t319,.string (⟨#[]⟩:ByteArray),u321005,.bool x321006_1]) ?_ 6 _ rfl;(with_reducible repeat first|apply kn_|apply kd_|apply ka_);exact BK320.out⟩,⟨bq2_ HB.out GE317.out GE320.out⟩⟩
             ·rw [if_neg c29] at H
              exact absurd H (by simp)
            ·rw [if_neg c28] at H
             exact absurd H (by simp)
           ·rw [if_neg c26] at H
            have c26b0:decide (x5_1<t321)=false:=df_ c26
            clear c26
            have H':=A_ H
            clear H
            go_wp2_with (first|((with_reducible refine gate_callee (f:=60) rfl ?_);refine gl_ (some 27) rfl rfl Tryz.func60 (by kernel_rfl) rfl #[.string a0,.int .i64 x5_1,.string (⟨#[32,9,10,12,13,47]⟩:ByteArray)] rfl  ?_;(with_reducible refine (impl_past.calls k1 a0 x5_1 (⟨#[32,9,10,12,13,47]⟩:ByteArray) t321 _ A15.out).mono ?_);rintro e w' ⟨rfl,⟨nd,rfl⟩⟩;refine ⟨_,rfl,?_⟩;(try (rw [drewN_self wr];generalize hq_:World.drewN wr _=wr;have n0_:Aside0 (Kd.R k52 52 wr w.heap.size (fun _=>True) u321005 x321005_1):=⟨by rw [←hq_];exact (rq_ HO_321005.out)⟩;have n1_:Aside0 (wr.heap[gb317]? = some (.cells #[.int .i64 x318000_1,.int .i64 x318001_1,.int .i64 x318002_1,.string x318003_1,.string x318004_1,.slice none 0 0,.bool x318006_1] 24 (0,0))):=⟨by rw [←hq_];exact (kq_ BK317.out)⟩;have n2_:Aside0 (wr.heap[gb320]? = some (.cells #[.int .i64 2,.int .i64 a1,.int .i64 0,.string t319,.string (⟨#[]⟩:ByteArray),u321005,.bool x321006_1] 24 (0,0))):=⟨by rw [←hq_];exact (kq_ BK320.out)⟩;have n3_:Aside0 (Below w.heap.size w wr):=⟨by rw [←hq_];exact (bq2_ HB.out GE317.out GE320.out)⟩;clear HO_321005 BK317 BK320 HB hq_;have HO_321005:=n0_;have BK317:=n1_;have BK320:=n2_;have HB:=n3_;clear n0_ n1_ n2_ n3_;obtain ⟨hcygb317_0,hcygb317_1,hcygb317_2,hcygb317_3,hcygb317_4,hcygb317_5,hcygb317_6,hfygb317_0,hfygb317_1,hfygb317_2,hfygb317_3,hfygb317_4,hfygb317_5,hfygb317_6⟩:=g7_ BK317.out;obtain ⟨hcygb320_0,hcygb320_1,hcygb320_2,hcygb320_3,hcygb320_4,hcygb320_5,hcygb320_6,hfygb320_0,hfygb320_1,hfygb320_2,hfygb320_3,hfygb320_4,hfygb320_5,hfygb320_6⟩:=g7_ BK320.out));have p24:0≤(t321:Int):=oa_;have q24:t321<(a0.size:Int):=oa_;have hx24:=bt_at a0 t321;replace p24:=eq_true p24;replace q24:=eq_true q24;have hnb33:=NB320_317.out;have hnc33:=NB317_320.out;obtain ⟨_,_,_,_,_,_,_,_,_,_,_,_,_,_⟩:=g7_ BK320.out))
            go_meet
            case rel=>exact ⟨_,(t321),(x318000_1),(x318001_1),(x318002_1),(x318003_1),(x318004_1),(x318006_1),(x321005_1),(false),(u321005),rs_,H',⟨by have:=HK1.out;first|omega|exact Nat.le_refl _⟩,⟨by (with_reducible repeat first|apply ra_|apply rn_|apply rd_);exact Kd.R_mono (Kd.R_far (p:=⟨gb320,6,none⟩) (Kd.R_types HO_321005.out BK320.out (by decide)) (fun _ hk=>hk.2) (.bool false)) (fun _ hk=>trivial)⟩,⟨by (with_reducible repeat first|apply kn_|apply kd_|apply ka_);refine blk_far ?_ NB317_320.out _;(with_reducible repeat first|apply kn_|apply kd_|apply ka_);exact BK317.out⟩,⟨by (with_reducible repeat first|apply kn_|apply kd_|apply ka_);refine blk_put (cs:=#[.int .i64 2,.int .i64 a1,.int .i64 0,.string t319,.string (⟨#[]⟩:ByteArray),u321005,.bool x321006_1]) ?_ 6 _ rfl;(with_reducible repeat first|apply kn_|apply kd_|apply ka_);exact BK320.out⟩,⟨bq2_ HB.out GE317.out GE320.out⟩⟩
          ·rw [if_neg c25] at H
           have c25b0:((bt a0 t321) == 62)=false:=beq_eq_false_iff_ne.mpr c25
           have c25b1:((bt a0 t321) != 62)=true:=bne_iff_ne.mpr c25
           replace H:=ob_ H
           obtain ⟨⟨t331,t332,t333,t334⟩,A350,H⟩:=H
           replace H:(if t334=true then ((slices_CloneAttr.f x321005_1).bind fun t345=>((some (([(⟨t331,t332⟩:S52)]:List (S52)):List (S52))).bind fun y348=>(if t345.length+y348.length<4398046511104 then ((some (t345++y348:List (S52))).bind fun y351=>((impl_areAttrs.f y351).bind fun t354=>(if t354=true then (impl_open.l0 k1 a0 a1 t333 2 a1 0 t319 (⟨#[]⟩:ByteArray) y351 x321006_1) else (impl_open.l0 k1 a0 a1 t333 2 a1 0 t319 (⟨#[]⟩:ByteArray) x321005_1 x321006_1)))) else (none)))) else ((impl_nothing.f a1 (a0.size:Int)).bind fun bt336=>(some (bt336.1,bt336.2.1,bt336.2.2.1,bt336.2.2.2.1,bt336.2.2.2.2.1,bt336.2.2.2.2.2.1,bt336.2.2.2.2.2.2))))=some (r1,r2,r3,r4,r5,r6,r7):=H
           have A35:=A_ A350
           clear A350
           by_cases c36:t334=true
           ·subst c36
            have H1:((slices_CloneAttr.f x321005_1).bind fun t345=>((some (([(⟨t331,t332⟩:S52)]:List (S52)):List (S52))).bind fun y348=>(if t345.length+y348.length<4398046511104 then ((some (t345++y348:List (S52))).bind fun y351=>((impl_areAttrs.f y351).bind fun t354=>(if t354=true then (impl_open.l0 k1 a0 a1 t333 2 a1 0 t319 (⟨#[]⟩:ByteArray) y351 x321006_1) else (impl_open.l0 k1 a0 a1 t333 2 a1 0 t319 (⟨#[]⟩:ByteArray) x321005_1 x321006_1)))) else (none))))=some (r1,r2,r3,r4,r5,r6,r7):=by rw [if_pos rfl] at H;exact H
            clear H
            have H:=H1
            clear H1
            replace H:=ob_ H
            obtain ⟨t345,A370,H⟩:=H
            replace H:((some (([(⟨t331,t332⟩:S52)]:List (S52)):List (S52))).bind fun y348=>(if t345.length+y348.length<4398046511104 then ((some (t345++y348:List (S52))).bind fun y351=>((impl_areAttrs.f y351).bind fun t354=>(if t354=true then (impl_open.l0 k1 a0 a1 t333 2 a1 0 t319 (⟨#[]⟩:ByteArray) y351 x321006_1) else (impl_open.l0 k1 a0 a1 t333 2 a1 0 t319 (⟨#[]⟩:ByteArray) x321005_1 x321006_1)))) else (none)))=some (r1,r2,r3,r4,r5,r6,r7):=H
            have A37:=A_ A370
            clear A370
            obtain ⟨y348,hy348⟩:∃ y_:List (S52),y_=(([(⟨t331,t332⟩:S52)]:List (S52))):=⟨_,rfl⟩
            replace H:(if t345.length+y348.length<4398046511104 then ((some (t345++y348:List (S52))).bind fun y351=>((impl_areAttrs.f y351).bind fun t354=>(if t354=true then (impl_open.l0 k1 a0 a1 t333 2 a1 0 t319 (⟨#[]⟩:ByteArray) y351 x321006_1) else (impl_open.l0 k1 a0 a1 t333 2 a1 0 t319 (⟨#[]⟩:ByteArray) x321005_1 x321006_1)))) else (none))=some (r1,r2,r3,r4,r5,r6,r7):=by first|(rw [hy348];with_reducible exact H)|(have H2_:=(Option.bind_some _ _).symm.trans H;rw [hy348];with_reducible exact H2_)|(have H2_:=(Option.bind_some _ _).symm.trans H;with_reducible exact H2_)|with_reducible exact H|(rw [hy348];exact H)|exact H
            have Ny348:=A_ hy348
            clear hy348
            by_cases c38:t345.length+y348.length<4398046511104
            ·rw [if_pos c38] at H
             have LMc38:=A_ c38
             clear c38
             obtain ⟨y351,hy351⟩:∃ y_:List (S52),y_=(t345++y348):=⟨_,rfl⟩
             replace H:((impl_areAttrs.f y351).bind fun t354=>(if t354=true then (impl_open.l0 k1 a0 a1 t333 2 a1 0 t319 (⟨#[]⟩:ByteArray) y351 x321006_1) else (impl_open.l0 k1 a0 a1 t333 2 a1 0 t319 (⟨#[]⟩:ByteArray) x321005_1 x321006_1)))=some (r1,r2,r3,r4,r5,r6,r7):=by first|(rw [hy351];with_reducible exact H)|(have H2_:=(Option.bind_some _ _).symm.trans H;rw [hy351];with_reducible exact H2_)|(have H2_:=(Option.bind_some _ _).symm.trans H;with_reducible exact H2_)|with_reducible exact H|(rw [hy351];exact H)|exact H
             have Ny351:=A_ hy351
             clear hy351
             replace H:=ob_ H
             obtain ⟨t354,A390,H⟩:=H
             replace H:(if t354=true then (impl_open.l0 k1 a0 a1 t333 2 a1 0 t319 (⟨#[]⟩:ByteArray) y351 x321006_1) else (impl_open.l0 k1 a0 a1 t333 2 a1 0 t319 (⟨#[]⟩:ByteArray) x321005_1 x321006_1))=some (r1,r2,r3,r4,r5,r6,r7):=H
             have A39:=A_ A390
             clear A390
             by_cases c40:t354=true
             ·subst c40
              have H1:(impl_open.l0 k1 a0 a1 t333 2 a1 0 t319 (⟨#[]⟩:ByteArray) y351 x321006_1)=some (r1,r2,r3,r4,r5,r6,r7):=by rw [if_pos rfl] at H;exact H
              clear H
              have H:=H1
              clear H1
              have H':=A_ H
              clear H
              try go_wp2_with (first|((with_reducible refine gate_callee (f:=60) rfl ?_);refine gl_ (some 27) rfl rfl Tryz.func60 (by kernel_rfl) rfl #[.string a0,.int .i64 x5_1,.string (⟨#[32,9,10,12,13,47]⟩:ByteArray)] rfl  ?_;(with_reducible refine (impl_past.calls k1 a0 x5_1 (⟨#[32,9,10,12,13,47]⟩:ByteArray) t321 _ A15.out).mono ?_);rintro e w' ⟨rfl,⟨nd,rfl⟩⟩;refine ⟨_,rfl,?_⟩;(try (rw [drewN_self wr];generalize hq_:World.drewN wr _=wr;have n0_:Aside0 (Kd.R k52 52 wr w.heap.size (fun _=>True) u321005 x321005_1):=⟨by rw [←hq_];exact (rq_ HO_321005.out)⟩;have n1_:Aside0 (wr.heap[gb317]? = some (.cells #[.int .i64 x318000_1,.int .i64 x318001_1,.int .i64 x318002_1,.string x318003_1,.string x318004_1,.slice none 0 0,.bool x318006_1] 24 (0,0))):=⟨by rw [←hq_];exact (kq_ BK317.out)⟩;have n2_:Aside0 (wr.heap[gb320]? = some (.cells #[.int .i64 2,.int .i64 a1,.int .i64 0,.string t319,.string (⟨#[]⟩:ByteArray),u321005,.bool x321006_1] 24 (0,0))):=⟨by rw [←hq_];exact (kq_ BK320.out)⟩;have n3_:Aside0 (Below w.heap.size w wr):=⟨by rw [←hq_];exact (bq2_ HB.out GE317.out GE320.out)⟩;clear HO_321005 BK317 BK320 HB hq_;have HO_321005:=n0_;have BK317:=n1_;have BK320:=n2_;have HB:=n3_;clear n0_ n1_ n2_ n3_;obtain ⟨hcygb317_0,hcygb317_1,hcygb317_2,hcygb317_3,hcygb317_4,hcygb317_5,hcygb317_6,hfygb317_0,hfygb317_1,hfygb317_2,hfygb317_3,hfygb317_4,hfygb317_5,hfygb317_6⟩:=g7_ BK317.out;obtain ⟨hcygb320_0,hcygb320_1,hcygb320_2,hcygb320_3,hcygb320_4,hcygb320_5,hcygb320_6,hfygb320_0,hfygb320_1,hfygb320_2,hfygb320_3,hfygb320_4,hfygb320_5,hfygb320_6⟩:=g7_ BK320.out));have p24:0≤(t321:Int):=oa_;have q24:t321<(a0.size:Int):=oa_;have hx24:=bt_at a0 t321;replace p24:=eq_true p24;replace q24:=eq_true q24)|((with_reducible refine gate_callee (f:=62) rfl ?_);refine gl_ (some 53) rfl rfl Tryz.func62 (by kernel_rfl) rfl #[.string a0,.int .i64 t321] rfl  ?_;(with_reducible refine (impl_attribute.calls k1 a0 t321 t331 t332 t333 true _ ?sideL A35.out).mono ?_);(case sideL=>exact HL.out.below (bq2_ HB.out GE317.out GE320.out));rintro e w41 ⟨rfl,hb⟩;refine ⟨_,rfl,?_⟩;have n0_:=A_ (Kd.R_below (rq_ HO_321005.out) hb);have n1_:=A_ (kb_ (kq_ BK317.out) hb);have n2_:=A_ (kb_ (kq_ BK320.out) hb);have n3_:=A_ (bp_ (bq2_ HB.out GE317.out GE320.out) hb);clear HO_321005;clear BK317;clear BK320;clear HB;have HO_321005:=n0_;have BK317:=n1_;have BK320:=n2_;have HB:=n3_;clear n0_ n1_ n2_ n3_;(try clear hb);(try clear hb2);(try clear hk);(try clear hi))|((with_reducible refine gate_dst (N:=8) rfl ?_);refine box_event ?hg (N:=8) ?hd (cs:=#[.string (⟨#[]⟩:ByteArray),.string (⟨#[]⟩:ByteArray)]) (t:=52) ?hr ?_;(case hd=>rfl);(case hg=>rfl);(case hr=>first|(go_simp;done)|(go_simp;rfl)|((first|(obtain ⟨_,_,rfl⟩:=Kd.R_slice HO329.out)|(obtain ⟨_,_,rfl⟩:=Kd.S_slice HO329.out)|skip);first|(go_simp;done)|(go_simp;rfl)));intro gb335 hg w42 hbox hb;have n0_:=A_ (Kd.R_below (Kd.R_elderB (rq_ HO_321005.out) gb335 (Nat.le_of_eq hg.symm)) hb);have n1_:=A_ (kb_ (kq_ BK317.out) hb);have n2_:=A_ (kb_ (kq_ BK320.out) hb);have n3_:=A_ (bp_ (bq2_ HB.out GE317.out GE320.out) hb);have n4_:=A_ (hbox);have n5_:=A_ ((by rw [hg];exact (bz_ (bq2_ HB.out GE317.out GE320.out)):w.heap.size≤gb335));have n6_:=A_ ((by rw [hg];exact (bz_ (bq2_ HB.out GE317.out GE320.out)):w.heap.size≤gb335));have n7_:=A_ ((by rw [hg];exact Nat.ne_of_lt (blk_lt (g:=gb317) (o:=.cells #[.int .i64 x318000_1,.int .i64 x318001_1,.int .i64 x318002_1,.string x318003_1,.string x318004_1,.slice none 0 0,.bool x318006_1] 24 (0,0)) (kq_ BK317.out)):gb317≠gb335));have n8_:=A_ ((by rw [hg];exact Nat.ne_of_gt (blk_lt (g:=gb317) (o:=.cells #[.int .i64 x318000_1,.int .i64 x318001_1,.int .i64 x318002_1,.string x318003_1,.string x318004_1,.slice none 0 0,.bool x318006_1] 24 (0,0)) (kq_ BK317.out)):gb335≠gb317));have n9_:=A_ ((by rw [hg];exact Nat.ne_of_lt (blk_lt (g:=gb320) (o:=.cells #[.int .i64 2,.int .i64 a1,.int .i64 0,.string t319,.string (⟨#[]⟩:ByteArray),u321005,.bool x321006_1] 24 (0,0)) (kq_ BK320.out)):gb320≠gb335));have n10_:=A_ ((by rw [hg];exact Nat.ne_of_gt (blk_lt (g:=gb320) (o:=.cells #[.int .i64 2,.int .i64 a1,.int .i64 0,.string t319,.string (⟨#[]⟩:ByteArray),u321005,.bool x321006_1] 24 (0,0)) (kq_ BK320.out)):gb335≠gb320));clear HO_321005;clear BK317;clear BK320;clear HB;have HO_321005:=n0_;have BK317:=n1_;have BK320:=n2_;have HB:=n3_;have BK335:=n4_;have GW335:=n5_;have GE335:=n6_;have NB317_335:=n7_;have NB335_317:=n8_;have NB320_335:=n9_;have NB335_320:=n10_;clear n0_ n1_ n2_ n3_ n4_ n5_ n6_ n7_ n8_ n9_ n10_;clear hb hbox hg;have hnb43:=NB335_317.out;have hnc43:=NB317_335.out;have hnb44:=NB335_320.out;have hnc44:=NB320_335.out;obtain ⟨_,_,_,_⟩:=g2_ BK335.out;obtain ⟨Ao46,co46,eo46⟩:=Kd.R_slice HO_321005.out;subst eo46))
              have n0_:Aside0 (Kd.R k52 52 ((w42.setCell ⟨gb335,0,none⟩ (.string t331)).setCell ⟨gb335,1,none⟩ (.string t332)) w.heap.size (fun k_=>k_≠gb335) (.slice Ao46 x321005_1.length co46) x321005_1):=⟨by (with_reducible repeat first|apply ra_|apply rn_|apply rd_);exact Kd.R_mono (Kd.R_far (p:=⟨gb335,1,none⟩) (Kd.R_far (p:=⟨gb335,0,none⟩) (Kd.R_mono HO_321005.out (fun k_ hk=>(⟨hk,hk.2⟩:_∧k_≠gb335))) (fun _ hk=>hk.2) (.string t331)) (fun _ hk=>hk.2) (.string t332)) (fun _ hk=>hk.1.2)⟩
              have n1_:Aside0 (((w42.setCell ⟨gb335,0,none⟩ (.string t331)).setCell ⟨gb335,1,none⟩ (.string t332)).heap[gb317]? = some (.cells #[.int .i64 x318000_1,.int .i64 x318001_1,.int .i64 x318002_1,.string x318003_1,.string x318004_1,.slice none 0 0,.bool x318006_1] 24 (0,0))):=⟨by (repeat first|(with_reducible first|apply kn_|apply kd_|apply ka_)|refine blk_far ?_ NB317_335.out _);exact BK317.out⟩
              have n2_:Aside0 (((w42.setCell ⟨gb335,0,none⟩ (.string t331)).setCell ⟨gb335,1,none⟩ (.string t332)).heap[gb320]? = some (.cells #[.int .i64 2,.int .i64 a1,.int .i64 0,.string t319,.string (⟨#[]⟩:ByteArray),.slice Ao46 x321005_1.length co46,.bool x321006_1] 24 (0,0))):=⟨by (repeat first|(with_reducible first|apply kn_|apply kd_|apply ka_)|refine blk_far ?_ NB320_335.out _);exact BK320.out⟩
              have n3_:Aside0 (((w42.setCell ⟨gb335,0,none⟩ (.string t331)).setCell ⟨gb335,1,none⟩ (.string t332)).heap[gb335]? = some (.cells #[.string t331,.string t332] 52 (0,0))):=⟨by (with_reducible repeat first|apply kn_|apply kd_|apply ka_);refine blk_put (cs:=#[.string t331,.string (⟨#[]⟩:ByteArray)]) ?_ 1 _ rfl;(with_reducible repeat first|apply kn_|apply kd_|apply ka_);refine blk_put (cs:=#[.string (⟨#[]⟩:ByteArray),.string (⟨#[]⟩:ByteArray)]) ?_ 0 _ rfl;(with_reducible repeat first|apply kn_|apply kd_|apply ka_);exact BK335.out⟩
              have n4_:Aside0 (Below w.heap.size w ((w42.setCell ⟨gb335,0,none⟩ (.string t331)).setCell ⟨gb335,1,none⟩ (.string t332))):=⟨bq3_ HB.out GE317.out GE320.out GE335.out⟩
              (try clear HO_321005)
              (try clear BK317)
              (try clear BK320)
              (try clear BK335)
              (try clear HB)
              generalize ((w42.setCell ⟨gb335,0,none⟩ (.string t331)).setCell ⟨gb335,1,none⟩ (.string t332))=w47 at n0_ n1_ n2_ n3_ n4_ ⊢
              have HO_321005:=n0_
              have BK317:=n1_
              have BK320:=n2_
              have BK335:=n3_
              have HB:=n4_
              clear n0_ n1_ n2_ n3_ n4_
              have n0_:=A_ (Kd.R_drew HO_321005.out)
              have n1_:=A_ (kd_ BK317.out)
              have n2_:=A_ (kd_ BK320.out)
              have n3_:=A_ (kd_ BK335.out)
              have n4_:=A_ (b1_ HB.out)
              clear HO_321005
              clear BK317
              clear BK320
              clear BK335
              clear HB
              have HO_321005:=n0_
              have BK317:=n1_
              have BK320:=n2_
              have BK335:=n3_
              have HB:=n4_
              clear n0_ n1_ n2_ n3_ n4_
              refine start_ (n:=7) (S:=fun w'=>w'.cell? ⟨gb320,0,none⟩=some (.int .i64 2)∧w'.cell? ⟨gb320,1,none⟩=some (.int .i64 a1)∧w'.cell? ⟨gb320,2,none⟩=some (.int .i64 0)∧w'.cell? ⟨gb320,3,none⟩=some (.string t319)∧w'.cell? ⟨gb320,4,none⟩=some (.string (⟨#[]⟩:ByteArray))∧w'.cell? ⟨gb320,5,none⟩=some (.slice Ao46 x321005_1.length co46)∧w'.cell? ⟨gb320,6,none⟩=some (.bool x321006_1)∧w'.cell? ⟨gb335,0,none⟩=some (.string t331)∧w'.cell? ⟨gb335,1,none⟩=some (.string t332)) (ds:=[]) #[F_,F_,F_,F_,F_,F_,F_] (by kernel_rfl) rfl rfl ⟨(bc_ BK320.out 0).trans rfl,(bc_ BK320.out 1).trans rfl,(bc_ BK320.out 2).trans rfl,(bc_ BK320.out 3).trans rfl,(bc_ BK320.out 4).trans rfl,(bc_ BK320.out 5).trans rfl,(bc_ BK320.out 6).trans rfl,(bc_ BK335.out 0).trans rfl,(bc_ BK335.out 1).trans rfl⟩ (fun hHeld=>?_)
              generalize w47.drew=w48 at HO_321005 BK317 BK320 BK335 HB hHeld ⊢
              refine pure_ (i:=0) (N:=some 63) (v:=?_) (a':=?_) #[T_,F_,F_,F_,F_,F_,F_] rfl rfl (by kernel_rfl) (fun _ _ _ h=>h) (Or.inl ⟨by rfl,?_⟩) ?_ ?_
              rotate_left
              ·intro w'
               go_simp
               with_reducible rfl
              rotate_left
              ·simp only [Act.put,ls_,lz_,lc_,i64_w,i32_w]
               rfl
              refine take_ (i:=1) (N:=some 64) (v:=?_) (a':=?_) #[T_,T_,F_,F_,F_,F_,F_] rfl rfl (by kernel_rfl) (fun _ _ _ h=>h) (Or.inl ⟨by rfl,?_⟩) hHeld ?_ ?_
              rotate_left
              ·rintro w' ⟨s0,s1,s2,s3,s4,s5,s6,s7,s8⟩
               go_simp
               with_reducible rfl
              rotate_left
              ·simp only [Act.put,ls_,lz_,lc_,i64_w,i32_w]
               rfl
              refine take_ (i:=3) (N:=some 66) (v:=?_) (a':=?_) #[T_,T_,F_,T_,F_,F_,F_] rfl rfl (by kernel_rfl) (fun _ _ _ h=>h) (Or.inl ⟨by rfl,?_⟩) hHeld ?_ ?_
              rotate_left
              ·rintro w' ⟨s0,s1,s2,s3,s4,s5,s6,s7,s8⟩
               go_simp
               with_reducible rfl
              rotate_left
              ·simp only [Act.put,ls_,lz_,lc_,i64_w,i32_w]
               rfl
              refine join_ (σ := Value × Value) 2 #[T_,T_,T_,T_,T_,F_,F_] (fun s_=>[(65,s_.1),(67,s_.2)]) (fun s_ w'=>(w'.cell? ⟨gb320,0,none⟩=some (.int .i64 2)∧w'.cell? ⟨gb320,1,none⟩=some (.int .i64 a1)∧w'.cell? ⟨gb320,2,none⟩=some (.int .i64 0)∧w'.cell? ⟨gb320,3,none⟩=some (.string t319)∧w'.cell? ⟨gb320,4,none⟩=some (.string (⟨#[]⟩:ByteArray))∧w'.cell? ⟨gb320,5,none⟩=some (.slice Ao46 x321005_1.length co46)∧w'.cell? ⟨gb320,6,none⟩=some (.bool x321006_1)∧w'.cell? ⟨gb335,0,none⟩=some (.string t331)∧w'.cell? ⟨gb335,1,none⟩=some (.string t332))∧(Kd.R k52 52 w' w.heap.size (fun k_=>some k_≠(s_.2:Value).ownBlock∧some k_≠(.slice Ao46 x321005_1.length co46:Value).ownBlock∧k_≠gb335) s_.1 t345)∧(Kd.R k52 52 w' w.heap.size (fun k_=>some k_≠(s_.1:Value).ownBlock∧some k_≠(.slice Ao46 x321005_1.length co46:Value).ownBlock∧k_≠gb335) s_.2 y348)∧(Kd.R k52 52 w' w.heap.size (fun k_=>some k_≠(s_.1:Value).ownBlock∧some k_≠(s_.2:Value).ownBlock∧k_≠gb335) (.slice Ao46 x321005_1.length co46) x321005_1)∧(w'.heap[gb317]? = some (.cells #[.int .i64 x318000_1,.int .i64 x318001_1,.int .i64 x318002_1,.string x318003_1,.string x318004_1,.slice none 0 0,.bool x318006_1] 24 (0,0)))∧(w'.heap[gb320]? = some (.cells #[.int .i64 2,.int .i64 a1,.int .i64 0,.string t319,.string (⟨#[]⟩:ByteArray),.slice Ao46 x321005_1.length co46,.bool x321006_1] 24 (0,0)))∧(w'.heap[gb335]? = some (.cells #[.string t331,.string t332] 52 (0,0)))∧(Below w.heap.size w w')) ?_ ?_
              rotate_left
              ·intro hCont
               refine two_ (i:=2) (j:=4) (Ni:=some 65) (Nj:=some 67) #[T_,T_,T_,T_,F_,F_,F_] #[T_,T_,F_,T_,T_,F_,F_] rfl rfl rfl rfl (by kernel_rfl) (by decide) (by decide) (fun K hK=>?_) (fun K hK=>?_)
               ·skip
                refine goes_ Tryz.func63 (by kernel_rfl) rfl #[.slice Ao46 x321005_1.length co46] (by rfl) rfl rfl (by (try simp only [List.map_toArray,List.map_cons,List.map_nil]);first|done|rfl|(simp only [ld_,lt_];rfl)) ?_
                with_reducible refine (slices_CloneAttr.calls _ _ x321005_1 t345 _ ?side1 ?side2 A37.out).mono ?_
                (case side1=>repeat (first|exact (Kd.R_reads' HO_321005.out).2.2|(with_reducible refine ca_ ?_ _)|(with_reducible refine cn_ ?_ _)|(with_reducible refine cd_ ?_)))
                (case side2=>exact (Kd.R_reads' HO_321005.out).2.1)
                rintro e w49 ⟨v346,rfl,ho0,hb⟩
                refine ⟨_,rfl,?_⟩
                have n0_:=A_ (Kd.R_elder' (rq_ HO_321005.out) (Kd.R_base ho0) hb)
                have n1_:=A_ (Kd.R_lower (Kd.R_newB (Kd.R_new' ho0 (Kd.R_lt (rq_ HO_321005.out))) (g:=gb335) (o:=.cells #[.string t331,.string t332] 52 (0,0)) (kq_ BK335.out)) (bz_ (bq3_ HB.out GE317.out GE320.out GE335.out)))
                have n2_:=A_ (kb_ (kq_ BK317.out) hb)
                have n3_:=A_ (kb_ (kq_ BK320.out) hb)
                have n4_:=A_ (kb_ (kq_ BK335.out) hb)
                have n5_:=A_ (bp_ (bq3_ HB.out GE317.out GE320.out GE335.out) hb)
                clear HO_321005
                clear BK317
                clear BK320
                clear BK335
                clear HB
                have HO_321005:=n0_
                have HO347:=n1_
                have BK317:=n2_
                have BK320:=n3_
                have BK335:=n4_
                have HB:=n5_
                clear n0_ n1_ n2_ n3_ n4_ n5_
                (try clear hb)
                (try clear hb2)
                (try clear hk)
                (try clear hi)
                (try clear ho0)
                refine hK.out _ _ ⟨(bc_ BK320.out 0).trans rfl,(bc_ BK320.out 1).trans rfl,(bc_ BK320.out 2).trans rfl,(bc_ BK320.out 3).trans rfl,(bc_ BK320.out 4).trans rfl,(bc_ BK320.out 5).trans rfl,(bc_ BK320.out 6).trans rfl,(bc_ BK335.out 0).trans rfl,(bc_ BK335.out 1).trans rfl⟩ (fun hHeld=>?_)
                clear hK K
                refine norm_ (a':=?_) ?_ ?_
                rotate_left
                ·show Act.put _ (some 65) _=_
                 simp only [Act.put,ls_,lz_,lc_,i64_w,i32_w]
                 rfl
                refine one_ (i:=4) (N:=some 67) #[T_,T_,T_,T_,T_,F_,F_] rfl rfl (by kernel_rfl) (by decide) (fun K hK=>?_)
                refine Kd.R_lit_step k52 _ 52 ?hg (N:=67) ?hd (xs:=([(⟨t331,t332⟩:S52)]:List (S52))) (inner:=[.string t331,.string t332]) (ok:=fun _=>True) (okp:=fun _=>True) ?hr ?hp (fun _ hk=>hk) trivial (Below.refl _ _) (Nat.le_refl _) (by simp) ?_;(case hd=>rfl);(case hg=>rfl);(case hr=>first|(go_simp;done)|(go_simp;rfl)|((first|(obtain ⟨_,_,rfl⟩:=Kd.R_slice HO329.out)|(obtain ⟨_,_,rfl⟩:=Kd.S_slice HO329.out)|skip);(first|(obtain ⟨_,_,rfl⟩:=Kd.R_slice HO347.out)|(obtain ⟨_,_,rfl⟩:=Kd.S_slice HO347.out)|skip);first|(go_simp;done)|(go_simp;rfl)));(case hp=>exact (Reps.c2 (show Kd.M k52 _ _ _ (⟨t331,t332⟩:S52) [.string t331,.string t332] from (k52_mkM _ _ _ (⟨t331,t332⟩:S52) )) (Reps.none _ _)))
                intro v349 w50 ho51 hb hg_ hnew_
                clear hg_ hnew_
                (first|rw [←Ny348.out] at ho51|(simp only [Int.reduceToNat] at ho51;rw [←Ny348.out] at ho51))
                have n0_:=A_ (Kd.R_elder' (rq_ HO_321005.out) (Kd.R_base ho51) hb)
                have n1_:=A_ (Kd.R_elder' (rq_ HO347.out) (Kd.R_base ho51) hb)
                have n2_:=A_ (Kd.R_lower (Kd.R_newB (Kd.R_new' (Kd.R_new' ho51 (Kd.R_lt (rq_ HO_321005.out))) (Kd.R_lt (rq_ HO347.out))) (g:=gb335) (o:=.cells #[.string t331,.string t332] 52 (0,0)) (kq_ BK335.out)) (bz_ (bq3_ HB.out GE317.out GE320.out GE335.out)))
                have n3_:=A_ (kb_ (kq_ BK317.out) hb)
                have n4_:=A_ (kb_ (kq_ BK320.out) hb)
                have n5_:=A_ (kb_ (kq_ BK335.out) hb)
                have n6_:=A_ (bp_ (bq3_ HB.out GE317.out GE320.out GE335.out) hb)
                clear HO_321005
                clear HO347
                clear BK317
                clear BK320
                clear BK335
                clear HB
                have HO_321005:=n0_
                have HO347:=n1_
                have HO350:=n2_
                have BK317:=n3_
                have BK320:=n4_
                have BK335:=n5_
                have HB:=n6_
                clear n0_ n1_ n2_ n3_ n4_ n5_ n6_
                clear hb ho51
                refine hK.out _ _ ⟨(bc_ BK320.out 0).trans rfl,(bc_ BK320.out 1).trans rfl,(bc_ BK320.out 2).trans rfl,(bc_ BK320.out 3).trans rfl,(bc_ BK320.out 4).trans rfl,(bc_ BK320.out 5).trans rfl,(bc_ BK320.out 6).trans rfl,(bc_ BK335.out 0).trans rfl,(bc_ BK335.out 1).trans rfl⟩ (fun hHeld=>?_)
                clear hK K
                refine norm_ (a':=?_) ?_ ?_
                rotate_left
                ·show Act.put _ (some 67) _=_
                 simp only [Act.put,ls_,lz_,lc_,i64_w,i32_w]
                 rfl
                exact norm_ (by simp only [putAll,Act.put,ls_,lz_,lc_]) (hCont (v346,v349) _ ⟨hHeld,(by (with_reducible repeat first|apply ra_|apply rn_|apply rd_);exact Kd.R_mono HO347.out (fun _ hk=>⟨hk.2,⟨hk.1.1.2,hk.1.2⟩⟩)),(by (with_reducible repeat first|apply ra_|apply rn_|apply rd_);exact Kd.R_mono HO350.out (fun _ hk=>⟨hk.1.2,⟨hk.1.1.2,hk.2⟩⟩)),(by (with_reducible repeat first|apply ra_|apply rn_|apply rd_);exact Kd.R_mono HO_321005.out (fun _ hk=>⟨hk.1.2,⟨hk.2,hk.1.1⟩⟩)),(kq_ BK317.out),(kq_ BK320.out),(kq_ BK335.out),(bq3_ HB.out GE317.out GE320.out GE335.out)⟩)
               ·skip
                refine Kd.R_lit_step k52 _ 52 ?hg (N:=67) ?hd (xs:=([(⟨t331,t332⟩:S52)]:List (S52))) (inner:=[.string t331,.string t332]) (ok:=fun _=>True) (okp:=fun _=>True) ?hr ?hp (fun _ hk=>hk) trivial (Below.refl _ _) (Nat.le_refl _) (by simp) ?_;(case hd=>rfl);(case hg=>rfl);(case hr=>first|(go_simp;done)|(go_simp;rfl)|((first|(obtain ⟨_,_,rfl⟩:=Kd.R_slice HO329.out)|(obtain ⟨_,_,rfl⟩:=Kd.S_slice HO329.out)|skip);(first|(obtain ⟨_,_,rfl⟩:=Kd.R_slice HO347.out)|(obtain ⟨_,_,rfl⟩:=Kd.S_slice HO347.out)|skip);(first|(obtain ⟨_,_,rfl⟩:=Kd.R_slice HO350.out)|(obtain ⟨_,_,rfl⟩:=Kd.S_slice HO350.out)|skip);first|(go_simp;done)|(go_simp;rfl)));(case hp=>exact (Reps.c2 (show Kd.M k52 _ _ _ (⟨t331,t332⟩:S52) [.string t331,.string t332] from (k52_mkM _ _ _ (⟨t331,t332⟩:S52) )) (Reps.none _ _)))
                intro v349 w49 ho50 hb hg_ hnew_
                clear hg_ hnew_
                (first|rw [←Ny348.out] at ho50|(simp only [Int.reduceToNat] at ho50;rw [←Ny348.out] at ho50))
                have n0_:=A_ (Kd.R_elder' (rq_ HO_321005.out) (Kd.R_base ho50) hb)
                have n1_:=A_ (Kd.R_lower (Kd.R_newB (Kd.R_new' ho50 (Kd.R_lt (rq_ HO_321005.out))) (g:=gb335) (o:=.cells #[.string t331,.string t332] 52 (0,0)) (kq_ BK335.out)) (bz_ (bq3_ HB.out GE317.out GE320.out GE335.out)))
                have n2_:=A_ (kb_ (kq_ BK317.out) hb)
                have n3_:=A_ (kb_ (kq_ BK320.out) hb)
                have n4_:=A_ (kb_ (kq_ BK335.out) hb)
                have n5_:=A_ (bp_ (bq3_ HB.out GE317.out GE320.out GE335.out) hb)
                clear HO_321005
                clear BK317
                clear BK320
                clear BK335
                clear HB
                have HO_321005:=n0_
                have HO350:=n1_
                have BK317:=n2_
                have BK320:=n3_
                have BK335:=n4_
                have HB:=n5_
                clear n0_ n1_ n2_ n3_ n4_ n5_
                clear hb ho50
                refine hK.out _ _ ⟨(bc_ BK320.out 0).trans rfl,(bc_ BK320.out 1).trans rfl,(bc_ BK320.out 2).trans rfl,(bc_ BK320.out 3).trans rfl,(bc_ BK320.out 4).trans rfl,(bc_ BK320.out 5).trans rfl,(bc_ BK320.out 6).trans rfl,(bc_ BK335.out 0).trans rfl,(bc_ BK335.out 1).trans rfl⟩ (fun hHeld=>?_)
                clear hK K
                refine norm_ (a':=?_) ?_ ?_
                rotate_left
                ·show Act.put _ (some 67) _=_
                 simp only [Act.put,ls_,lz_,lc_,i64_w,i32_w]
                 rfl
                refine one_ (i:=2) (N:=some 65) #[T_,T_,T_,T_,T_,F_,F_] rfl rfl (by kernel_rfl) (by decide) (fun K hK=>?_)
                refine goes_ Tryz.func63 (by kernel_rfl) rfl #[.slice Ao46 x321005_1.length co46] (by rfl) rfl rfl (by (try simp only [List.map_toArray,List.map_cons,List.map_nil]);first|done|rfl|(simp only [ld_,lt_];rfl)) ?_
                with_reducible refine (slices_CloneAttr.calls _ _ x321005_1 t345 _ ?side1 ?side2 A37.out).mono ?_
                (case side1=>repeat (first|exact (Kd.R_reads' HO_321005.out).2.2|(with_reducible refine ca_ ?_ _)|(with_reducible refine cn_ ?_ _)|(with_reducible refine cd_ ?_)))
                (case side2=>exact (Kd.R_reads' HO_321005.out).2.1)
                rintro e w51 ⟨v346,rfl,ho0,hb⟩
                refine ⟨_,rfl,?_⟩
                have n0_:=A_ (Kd.R_elder' (rq_ HO_321005.out) (Kd.R_base ho0) hb)
                have n1_:=A_ (Kd.R_elder' (rq_ HO350.out) (Kd.R_base ho0) hb)
                have n2_:=A_ (Kd.R_lower (Kd.R_newB (Kd.R_new' (Kd.R_new' ho0 (Kd.R_lt (rq_ HO_321005.out))) (Kd.R_lt (rq_ HO350.out))) (g:=gb335) (o:=.cells #[.string t331,.string t332] 52 (0,0)) (kq_ BK335.out)) (bz_ (bq3_ HB.out GE317.out GE320.out GE335.out)))
                have n3_:=A_ (kb_ (kq_ BK317.out) hb)
                have n4_:=A_ (kb_ (kq_ BK320.out) hb)
                have n5_:=A_ (kb_ (kq_ BK335.out) hb)
                have n6_:=A_ (bp_ (bq3_ HB.out GE317.out GE320.out GE335.out) hb)
                clear HO_321005
                clear HO350
                clear BK317
                clear BK320
                clear BK335
                clear HB
                have HO_321005:=n0_
                have HO350:=n1_
                have HO347:=n2_
                have BK317:=n3_
                have BK320:=n4_
                have BK335:=n5_
                have HB:=n6_
                clear n0_ n1_ n2_ n3_ n4_ n5_ n6_
                (try clear hb)
                (try clear hb2)
                (try clear hk)
                (try clear hi)
                (try clear ho0)
                refine hK.out _ _ ⟨(bc_ BK320.out 0).trans rfl,(bc_ BK320.out 1).trans rfl,(bc_ BK320.out 2).trans rfl,(bc_ BK320.out 3).trans rfl,(bc_ BK320.out 4).trans rfl,(bc_ BK320.out 5).trans rfl,(bc_ BK320.out 6).trans rfl,(bc_ BK335.out 0).trans rfl,(bc_ BK335.out 1).trans rfl⟩ (fun hHeld=>?_)
                clear hK K
                refine norm_ (a':=?_) ?_ ?_
                rotate_left
                ·show Act.put _ (some 65) _=_
                 simp only [Act.put,ls_,lz_,lc_,i64_w,i32_w]
                 rfl
                exact norm_ (by simp only [putAll,Act.put,ls_,lz_,lc_]) (hCont (v346,v349) _ ⟨hHeld,(by (with_reducible repeat first|apply ra_|apply rn_|apply rd_);exact Kd.R_mono HO347.out (fun _ hk=>⟨hk.1.2,⟨hk.1.1.2,hk.2⟩⟩)),(by (with_reducible repeat first|apply ra_|apply rn_|apply rd_);exact Kd.R_mono HO350.out (fun _ hk=>⟨hk.2,⟨hk.1.1.2,hk.1.2⟩⟩)),(by (with_reducible repeat first|apply ra_|apply rn_|apply rd_);exact Kd.R_mono HO_321005.out (fun _ hk=>⟨hk.2,⟨hk.1.2,hk.1.1⟩⟩)),(kq_ BK317.out),(kq_ BK320.out),(kq_ BK335.out),(bq3_ HB.out GE317.out GE320.out GE335.out)⟩)
              rintro ⟨v346,v349⟩ w52 ⟨hS_,h0_,h1_,h2_,h3_,h4_,h5_,h6_⟩
              have n0_:Aside0 (Kd.R k52 52 w52 w.heap.size (fun k_=>some k_≠(v349:Value).ownBlock∧some k_≠(.slice Ao46 x321005_1.length co46:Value).ownBlock∧k_≠gb335) v346 t345):=⟨h0_⟩
              have n1_:Aside0 (Kd.R k52 52 w52 w.heap.size (fun k_=>some k_≠(v346:Value).ownBlock∧some k_≠(.slice Ao46 x321005_1.length co46:Value).ownBlock∧k_≠gb335) v349 y348):=⟨h1_⟩
              have n2_:Aside0 (Kd.R k52 52 w52 w.heap.size (fun k_=>some k_≠(v346:Value).ownBlock∧some k_≠(v349:Value).ownBlock∧k_≠gb335) (.slice Ao46 x321005_1.length co46) x321005_1):=⟨h2_⟩
              have n3_:Aside0 (w52.heap[gb317]? = some (.cells #[.int .i64 x318000_1,.int .i64 x318001_1,.int .i64 x318002_1,.string x318003_1,.string x318004_1,.slice none 0 0,.bool x318006_1] 24 (0,0))):=⟨h3_⟩
              have n4_:Aside0 (w52.heap[gb320]? = some (.cells #[.int .i64 2,.int .i64 a1,.int .i64 0,.string t319,.string (⟨#[]⟩:ByteArray),.slice Ao46 x321005_1.length co46,.bool x321006_1] 24 (0,0))):=⟨h4_⟩
              have n5_:Aside0 (w52.heap[gb335]? = some (.cells #[.string t331,.string t332] 52 (0,0))):=⟨h5_⟩
              have n6_:Aside0 (Below w.heap.size w w52):=⟨h6_⟩
              clear HO_321005
              clear BK317
              clear BK320
              clear BK335
              clear HB
              clear h0_ h1_ h2_ h3_ h4_ h5_ h6_
              have HO347:=n0_
              have HO350:=n1_
              have HO_321005:=n2_
              have BK317:=n3_
              have BK320:=n4_
              have BK335:=n5_
              have HB:=n6_
              clear n0_ n1_ n2_ n3_ n4_ n5_ n6_
              have hHeld:w52.cell? ⟨gb320,0,none⟩=some (.int .i64 2)∧w52.cell? ⟨gb320,1,none⟩=some (.int .i64 a1)∧w52.cell? ⟨gb320,2,none⟩=some (.int .i64 0)∧w52.cell? ⟨gb320,3,none⟩=some (.string t319)∧w52.cell? ⟨gb320,4,none⟩=some (.string (⟨#[]⟩:ByteArray))∧w52.cell? ⟨gb320,5,none⟩=some (.slice Ao46 x321005_1.length co46)∧w52.cell? ⟨gb320,6,none⟩=some (.bool x321006_1)∧w52.cell? ⟨gb335,0,none⟩=some (.string t331)∧w52.cell? ⟨gb335,1,none⟩=some (.string t332):=hS_
              obtain ⟨Ao54,co54,eo54⟩:=Kd.R_slice HO350.out
              (first|subst eo54|(injection eo54 with f1_ f2_ f3_;have f4_:=f1_.symm;have f5_:=f3_.symm;clear f1_ f2_ f3_;subst f4_;subst f5_))
              refine norm_ (a':=?_) ?_ ?_
              rotate_left
              ·simp only [putAll,Act.put,ls_,lz_,lc_]
               rfl
              refine one_ (i:=5) (N:=some 68) #[T_,T_,T_,T_,T_,T_,F_] rfl rfl (by kernel_rfl) (by decide) (fun K hK=>?_)
              refine Kd.R_append_rows_step k52 (w0:=w) w.heap.size (by rfl) (.tmp 65) (.tmp 67) 22 52 (.agg #[(.string ⟨#[]⟩),(.string ⟨#[]⟩)]) 32 rfl Tryz.underlying22 info52 rfl (by decide) (by omega) v346 t345 y348 _ _ _ (fun k_=>some k_≠(.slice Ao46 x321005_1.length co46:Value).ownBlock∧some k_≠(.slice Ao54 y348.length co54:Value).ownBlock∧k_≠gb335) (fun _=>False) rfl rfl ?aO ?aR (fun _ _ h=>h) (fun _ h=>h.elim) ?aF ?aB ?aS ?aL ?_
              (case aR=>repeat (first|exact (Kd.R_reads' HO350.out).2.2|(with_reducible refine ca_ ?_ _)|(with_reducible refine cn_ ?_ _)|(with_reducible refine cd_ ?_)))
              (case aB=>exact (bq3_ HB.out GE317.out GE320.out GE335.out))
              (case aF=>exact (fun k_ hk=>⟨Kd.fresh' (Kd.R_lt (rq_ HO_321005.out)) k_ hk,Kd.fresh' (Kd.R_lt (rq_ HO350.out)) k_ hk,Kd.freshB (g:=gb335) (o:=.cells #[.string t331,.string t332] 52 (0,0)) (kq_ BK335.out) k_ hk⟩))
              (case aO=>exact (by (with_reducible repeat first|apply ra_|apply rn_|apply rd_);exact Kd.R_mono HO347.out (fun _ hk=>⟨hk.2.1,⟨hk.1,hk.2.2⟩⟩)))
              (case aS=>exact (bz_ (bq3_ HB.out GE317.out GE320.out GE335.out)))
              (case aL=>have:=LMc38.out;omega)
              intro v352 w53 ho hb hg hat
              rw [←Ny351.out] at ho
              have n0_:=A_ (Kd.R_after (ok:=(fun k_=>some k_≠(.slice Ao54 y348.length co54:Value).ownBlock∧k_≠gb335)) (by (with_reducible repeat first|apply ra_|apply rn_|apply rd_);exact Kd.R_mono HO_321005.out (fun _ hk=>⟨⟨hk.2.1,hk.2.2⟩,hk.1⟩)) hg hat)
              have n1_:=A_ (blk_grown (g:=gb317) (o:=.cells #[.int .i64 x318000_1,.int .i64 x318001_1,.int .i64 x318002_1,.string x318003_1,.string x318004_1,.slice none 0 0,.bool x318006_1] 24 (0,0)) (kq_ BK317.out) hg (Kd.R_ne HO347.out BK317.out (by decide)))
              have n2_:=A_ (blk_grown (g:=gb320) (o:=.cells #[.int .i64 2,.int .i64 a1,.int .i64 0,.string t319,.string (⟨#[]⟩:ByteArray),.slice Ao46 x321005_1.length co46,.bool x321006_1] 24 (0,0)) (kq_ BK320.out) hg (Kd.R_ne HO347.out BK320.out (by decide)))
              have n3_:=A_ (blk_grown (g:=gb335) (o:=.cells #[.string t331,.string t332] 52 (0,0)) (kq_ BK335.out) hg (Kd.R_away HO347.out (fun _ hk=>hk.2.2)))
              have n4_:=A_ (Kd.R_after (ok:=(fun k_=>some k_≠(.slice Ao46 x321005_1.length co46:Value).ownBlock∧k_≠gb335)) (by (with_reducible repeat first|apply ra_|apply rn_|apply rd_);exact Kd.R_mono HO350.out (fun _ hk=>⟨⟨hk.2.1,hk.2.2⟩,hk.1⟩)) hg hat)
              have n5_:=A_ (hb)
              have n6_:=A_ (ho)
              clear HO_321005
              clear BK317
              clear BK320
              clear BK335
              clear HO350
              clear HB
              clear HO347
              have HO_321005:=n0_
              have BK317:=n1_
              have BK320:=n2_
              have BK335:=n3_
              have HO350:=n4_
              have HB:=n5_
              have HO353:=n6_
              clear n0_ n1_ n2_ n3_ n4_ n5_ n6_
              clear ho hb hg hat
              refine hK.out _ _ ⟨(bc_ BK320.out 0).trans rfl,(bc_ BK320.out 1).trans rfl,(bc_ BK320.out 2).trans rfl,(bc_ BK320.out 3).trans rfl,(bc_ BK320.out 4).trans rfl,(bc_ BK320.out 5).trans rfl,(bc_ BK320.out 6).trans rfl,(bc_ BK335.out 0).trans rfl,(bc_ BK335.out 1).trans rfl⟩ (fun hHeld=>?_)
              clear hK K
              refine norm_ (a':=?_) ?_ ?_
              rotate_left
              ·show Act.put _ (some 68) _=_
               simp only [Act.put,ls_,lz_,lc_,i64_w,i32_w]
               rfl
              refine pure_ (i:=6) (N:=some 11) (v:=?_) (a':=?_) #[T_,T_,T_,T_,T_,T_,T_] rfl rfl (by kernel_rfl) (fun _ _ _ h=>h) (Or.inl ⟨by rfl,?_⟩) ?_ ?_
              rotate_left
              ·intro w'
               go_simp
               with_reducible rfl
              rotate_left
              ·simp only [Act.put,ls_,lz_,lc_,i64_w,i32_w]
               rfl
              refine done_ (by kernel_rfl) ?_
              obtain ⟨Ao55,co55,eo55⟩:=Kd.R_slice HO353.out
              subst eo55
              try go_wp2_with (first|((with_reducible refine gate_callee (f:=64) rfl ?_);refine gl_ (some 70) rfl rfl Tryz.func64 (by kernel_rfl) rfl #[.slice Ao55 y351.length co55] rfl  ?_;(with_reducible refine (impl_areAttrs.calls _ _ y351 true _ ?side1 ?side2 A39.out).mono ?_);(case side1=>repeat (first|exact (Kd.R_reads' HO353.out).2.2|(with_reducible refine ca_ ?_ _)|(with_reducible refine cn_ ?_ _)|(with_reducible refine cd_ ?_)));(case side2=>exact (Kd.R_reads' HO353.out).2.1);rintro e w56 ⟨rfl,hb⟩;refine ⟨_,rfl,?_⟩;have n0_:=A_ (Kd.R_below (rq_ HO_321005.out) hb);have n1_:=A_ (Kd.R_below (rq_ HO350.out) hb);have n2_:=A_ (Kd.R_below (rq_ HO353.out) hb);have n3_:=A_ (kb_ (kq_ BK317.out) hb);have n4_:=A_ (kb_ (kq_ BK320.out) hb);have n5_:=A_ (kb_ (kq_ BK335.out) hb);have n6_:=A_ (bp_ (bq3_ HB.out GE317.out GE320.out GE335.out) hb);clear HO_321005;clear HO350;clear HO353;clear BK317;clear BK320;clear BK335;clear HB;have HO_321005:=n0_;have HO350:=n1_;have HO353:=n2_;have BK317:=n3_;have BK320:=n4_;have BK335:=n5_;have HB:=n6_;clear n0_ n1_ n2_ n3_ n4_ n5_ n6_;(try clear hb);(try clear hb2);(try clear hk);(try clear hi);have hnb57:=NB320_317.out;have hnc57:=NB317_320.out;obtain ⟨hcz58_0,hcz58_1,hcz58_2,hcz58_3,hcz58_4,hcz58_5,hcz58_6,hfz58_0,hfz58_1,hfz58_2,hfz58_3,hfz58_4,hfz58_5,hfz58_6⟩:=g7_ BK320.out))
              go_roundg k1
              case measure=>have:=HK1.out;omega
              case rel=>exact ⟨(t333),(x318000_1),(x318001_1),(x318002_1),(x318003_1),(x318004_1),(x318006_1),(y351),(x321006_1),(.slice Ao55 y351.length co55),rs_,H',⟨by have:=HK1.out;omega⟩,⟨by (with_reducible repeat first|apply ra_|apply rn_|apply rd_);exact Kd.R_mono (Kd.R_far (p:=⟨gb320,5,none⟩) (Kd.R_types HO353.out BK320.out (by decide)) (fun _ hk=>hk.2) (.slice Ao55 y351.length co55)) (fun _ hk=>trivial)⟩,⟨by (with_reducible repeat first|apply kn_|apply kd_|apply ka_);refine blk_far ?_ NB317_320.out _;(with_reducible repeat first|apply kn_|apply kd_|apply ka_);exact BK317.out⟩,⟨by (with_reducible repeat first|apply kn_|apply kd_|apply ka_);refine blk_put (cs:=#[.int .i64 2,.int .i64 a1,.int .i64 0,.string t319,.string (⟨#[]⟩:ByteArray),.slice Ao46 x321005_1.length co46,.bool x321006_1]) ?_ 5 _ rfl;(with_reducible repeat first|apply kn_|apply kd_|apply ka_);exact BK320.out⟩,⟨bq3_ HB.out GE317.out GE320.out GE335.out⟩⟩
             ·replace c40:=bm_ c40
              subst c40
              have H1:(impl_open.l0 k1 a0 a1 t333 2 a1 0 t319 (⟨#[]⟩:ByteArray) x321005_1 x321006_1)=some (r1,r2,r3,r4,r5,r6,r7):=by rw [if_neg (show ¬ (false=true) by decide)] at H;exact H
              clear H
              have H:=H1
              clear H1
              have H':=A_ H
              clear H
              try go_wp2_with (first|((with_reducible refine gate_callee (f:=60) rfl ?_);refine gl_ (some 27) rfl rfl Tryz.func60 (by kernel_rfl) rfl #[.string a0,.int .i64 x5_1,.string (⟨#[32,9,10,12,13,47]⟩:ByteArray)] rfl  ?_;(with_reducible refine (impl_past.calls k1 a0 x5_1 (⟨#[32,9,10,12,13,47]⟩:ByteArray) t321 _ A15.out).mono ?_);rintro e w' ⟨rfl,⟨nd,rfl⟩⟩;refine ⟨_,rfl,?_⟩;(try (rw [drewN_self wr];generalize hq_:World.drewN wr _=wr;have n0_:Aside0 (Kd.R k52 52 wr w.heap.size (fun _=>True) u321005 x321005_1):=⟨by rw [←hq_];exact (rq_ HO_321005.out)⟩;have n1_:Aside0 (wr.heap[gb317]? = some (.cells #[.int .i64 x318000_1,.int .i64 x318001_1,.int .i64 x318002_1,.string x318003_1,.string x318004_1,.slice none 0 0,.bool x318006_1] 24 (0,0))):=⟨by rw [←hq_];exact (kq_ BK317.out)⟩;have n2_:Aside0 (wr.heap[gb320]? = some (.cells #[.int .i64 2,.int .i64 a1,.int .i64 0,.string t319,.string (⟨#[]⟩:ByteArray),u321005,.bool x321006_1] 24 (0,0))):=⟨by rw [←hq_];exact (kq_ BK320.out)⟩;have n3_:Aside0 (Below w.heap.size w wr):=⟨by rw [←hq_];exact (bq2_ HB.out GE317.out GE320.out)⟩;clear HO_321005 BK317 BK320 HB hq_;have HO_321005:=n0_;have BK317:=n1_;have BK320:=n2_;have HB:=n3_;clear n0_ n1_ n2_ n3_;obtain ⟨hcygb317_0,hcygb317_1,hcygb317_2,hcygb317_3,hcygb317_4,hcygb317_5,hcygb317_6,hfygb317_0,hfygb317_1,hfygb317_2,hfygb317_3,hfygb317_4,hfygb317_5,hfygb317_6⟩:=g7_ BK317.out;obtain ⟨hcygb320_0,hcygb320_1,hcygb320_2,hcygb320_3,hcygb320_4,hcygb320_5,hcygb320_6,hfygb320_0,hfygb320_1,hfygb320_2,hfygb320_3,hfygb320_4,hfygb320_5,hfygb320_6⟩:=g7_ BK320.out));have p24:0≤(t321:Int):=oa_;have q24:t321<(a0.size:Int):=oa_;have hx24:=bt_at a0 t321;replace p24:=eq_true p24;replace q24:=eq_true q24)|((with_reducible refine gate_callee (f:=62) rfl ?_);refine gl_ (some 53) rfl rfl Tryz.func62 (by kernel_rfl) rfl #[.string a0,.int .i64 t321] rfl  ?_;(with_reducible refine (impl_attribute.calls k1 a0 t321 t331 t332 t333 true _ ?sideL A35.out).mono ?_);(case sideL=>exact HL.out.below (bq2_ HB.out GE317.out GE320.out));rintro e w59 ⟨rfl,hb⟩;refine ⟨_,rfl,?_⟩;have n0_:=A_ (Kd.R_below (rq_ HO_321005.out) hb);have n1_:=A_ (kb_ (kq_ BK317.out) hb);have n2_:=A_ (kb_ (kq_ BK320.out) hb);have n3_:=A_ (bp_ (bq2_ HB.out GE317.out GE320.out) hb);clear HO_321005;clear BK317;clear BK320;clear HB;have HO_321005:=n0_;have BK317:=n1_;have BK320:=n2_;have HB:=n3_;clear n0_ n1_ n2_ n3_;(try clear hb);(try clear hb2);(try clear hk);(try clear hi))|((with_reducible refine gate_dst (N:=8) rfl ?_);refine box_event ?hg (N:=8) ?hd (cs:=#[.string (⟨#[]⟩:ByteArray),.string (⟨#[]⟩:ByteArray)]) (t:=52) ?hr ?_;(case hd=>rfl);(case hg=>rfl);(case hr=>first|(go_simp;done)|(go_simp;rfl)|((first|(obtain ⟨_,_,rfl⟩:=Kd.R_slice HO329.out)|(obtain ⟨_,_,rfl⟩:=Kd.S_slice HO329.out)|skip);(first|(obtain ⟨_,_,rfl⟩:=Kd.R_slice HO347.out)|(obtain ⟨_,_,rfl⟩:=Kd.S_slice HO347.out)|skip);(first|(obtain ⟨_,_,rfl⟩:=Kd.R_slice HO350.out)|(obtain ⟨_,_,rfl⟩:=Kd.S_slice HO350.out)|skip);(first|(obtain ⟨_,_,rfl⟩:=Kd.R_slice HO353.out)|(obtain ⟨_,_,rfl⟩:=Kd.S_slice HO353.out)|skip);first|(go_simp;done)|(go_simp;rfl)));intro gb335 hg w60 hbox hb;have n0_:=A_ (Kd.R_below (Kd.R_elderB (rq_ HO_321005.out) gb335 (Nat.le_of_eq hg.symm)) hb);have n1_:=A_ (kb_ (kq_ BK317.out) hb);have n2_:=A_ (kb_ (kq_ BK320.out) hb);have n3_:=A_ (bp_ (bq2_ HB.out GE317.out GE320.out) hb);have n4_:=A_ (hbox);have n5_:=A_ ((by rw [hg];exact (bz_ (bq2_ HB.out GE317.out GE320.out)):w.heap.size≤gb335));have n6_:=A_ ((by rw [hg];exact (bz_ (bq2_ HB.out GE317.out GE320.out)):w.heap.size≤gb335));have n7_:=A_ ((by rw [hg];exact Nat.ne_of_lt (blk_lt (g:=gb317) (o:=.cells #[.int .i64 x318000_1,.int .i64 x318001_1,.int .i64 x318002_1,.string x318003_1,.string x318004_1,.slice none 0 0,.bool x318006_1] 24 (0,0)) (kq_ BK317.out)):gb317≠gb335));have n8_:=A_ ((by rw [hg];exact Nat.ne_of_gt (blk_lt (g:=gb317) (o:=.cells #[.int .i64 x318000_1,.int .i64 x318001_1,.int .i64 x318002_1,.string x318003_1,.string x318004_1,.slice none 0 0,.bool x318006_1] 24 (0,0)) (kq_ BK317.out)):gb335≠gb317));have n9_:=A_ ((by rw [hg];exact Nat.ne_of_lt (blk_lt (g:=gb320) (o:=.cells #[.int .i64 2,.int .i64 a1,.int .i64 0,.string t319,.string (⟨#[]⟩:ByteArray),u321005,.bool x321006_1] 24 (0,0)) (kq_ BK320.out)):gb320≠gb335));have n10_:=A_ ((by rw [hg];exact Nat.ne_of_gt (blk_lt (g:=gb320) (o:=.cells #[.int .i64 2,.int .i64 a1,.int .i64 0,.string t319,.string (⟨#[]⟩:ByteArray),u321005,.bool x321006_1] 24 (0,0)) (kq_ BK320.out)):gb335≠gb320));clear HO_321005;clear BK317;clear BK320;clear HB;have HO_321005:=n0_;have BK317:=n1_;have BK320:=n2_;have HB:=n3_;have BK335:=n4_;have GW335:=n5_;have GE335:=n6_;have NB317_335:=n7_;have NB335_317:=n8_;have NB320_335:=n9_;have NB335_320:=n10_;clear n0_ n1_ n2_ n3_ n4_ n5_ n6_ n7_ n8_ n9_ n10_;clear hb hbox hg;have hnb61:=NB335_317.out;have hnc61:=NB317_335.out;have hnb62:=NB335_320.out;have hnc62:=NB320_335.out;obtain ⟨hcz63_0,hcz63_1,hfz63_0,hfz63_1⟩:=g2_ BK335.out;obtain ⟨Ao64,co64,eo64⟩:=Kd.R_slice HO_321005.out;subst eo64))
              have n0_:Aside0 (Kd.R k52 52 ((w60.setCell ⟨gb335,0,none⟩ (.string t331)).setCell ⟨gb335,1,none⟩ (.string t332)) w.heap.size (fun k_=>k_≠gb335) (.slice Ao64 x321005_1.length co64) x321005_1):=⟨by (with_reducible repeat first|apply ra_|apply rn_|apply rd_);exact Kd.R_mono (Kd.R_far (p:=⟨gb335,1,none⟩) (Kd.R_far (p:=⟨gb335,0,none⟩) (Kd.R_mono HO_321005.out (fun k_ hk=>(⟨hk,hk.2⟩:_∧k_≠gb335))) (fun _ hk=>hk.2) (.string t331)) (fun _ hk=>hk.2) (.string t332)) (fun _ hk=>hk.1.2)⟩
              have n1_:Aside0 (((w60.setCell ⟨gb335,0,none⟩ (.string t331)).setCell ⟨gb335,1,none⟩ (.string t332)).heap[gb317]? = some (.cells #[.int .i64 x318000_1,.int .i64 x318001_1,.int .i64 x318002_1,.string x318003_1,.string x318004_1,.slice none 0 0,.bool x318006_1] 24 (0,0))):=⟨by (repeat first|(with_reducible first|apply kn_|apply kd_|apply ka_)|refine blk_far ?_ NB317_335.out _);exact BK317.out⟩
              have n2_:Aside0 (((w60.setCell ⟨gb335,0,none⟩ (.string t331)).setCell ⟨gb335,1,none⟩ (.string t332)).heap[gb320]? = some (.cells #[.int .i64 2,.int .i64 a1,.int .i64 0,.string t319,.string (⟨#[]⟩:ByteArray),.slice Ao64 x321005_1.length co64,.bool x321006_1] 24 (0,0))):=⟨by (repeat first|(with_reducible first|apply kn_|apply kd_|apply ka_)|refine blk_far ?_ NB320_335.out _);exact BK320.out⟩
              have n3_:Aside0 (((w60.setCell ⟨gb335,0,none⟩ (.string t331)).setCell ⟨gb335,1,none⟩ (.string t332)).heap[gb335]? = some (.cells #[.string t331,.string t332] 52 (0,0))):=⟨by (with_reducible repeat first|apply kn_|apply kd_|apply ka_);refine blk_put (cs:=#[.string t331,.string (⟨#[]⟩:ByteArray)]) ?_ 1 _ rfl;(with_reducible repeat first|apply kn_|apply kd_|apply ka_);refine blk_put (cs:=#[.string (⟨#[]⟩:ByteArray),.string (⟨#[]⟩:ByteArray)]) ?_ 0 _ rfl;(with_reducible repeat first|apply kn_|apply kd_|apply ka_);exact BK335.out⟩
              have n4_:Aside0 (Below w.heap.size w ((w60.setCell ⟨gb335,0,none⟩ (.string t331)).setCell ⟨gb335,1,none⟩ (.string t332))):=⟨bq3_ HB.out GE317.out GE320.out GE335.out⟩
              (try clear HO_321005)
              (try clear BK317)
              (try clear BK320)
              (try clear BK335)
              (try clear HB)
              generalize ((w60.setCell ⟨gb335,0,none⟩ (.string t331)).setCell ⟨gb335,1,none⟩ (.string t332))=w65 at n0_ n1_ n2_ n3_ n4_ ⊢
              have HO_321005:=n0_
              have BK317:=n1_
              have BK320:=n2_
              have BK335:=n3_
              have HB:=n4_
              clear n0_ n1_ n2_ n3_ n4_
              have n0_:=A_ (Kd.R_drew HO_321005.out)
              have n1_:=A_ (kd_ BK317.out)
              have n2_:=A_ (kd_ BK320.out)
              have n3_:=A_ (kd_ BK335.out)
              have n4_:=A_ (b1_ HB.out)
              clear HO_321005
              clear BK317
              clear BK320
              clear BK335
              clear HB
              have HO_321005:=n0_
              have BK317:=n1_
              have BK320:=n2_
              have BK335:=n3_
              have HB:=n4_
              clear n0_ n1_ n2_ n3_ n4_
              refine start_ (n:=7) (S:=fun w'=>w'.cell? ⟨gb320,0,none⟩=some (.int .i64 2)∧w'.cell? ⟨gb320,1,none⟩=some (.int .i64 a1)∧w'.cell? ⟨gb320,2,none⟩=some (.int .i64 0)∧w'.cell? ⟨gb320,3,none⟩=some (.string t319)∧w'.cell? ⟨gb320,4,none⟩=some (.string (⟨#[]⟩:ByteArray))∧w'.cell? ⟨gb320,5,none⟩=some (.slice Ao64 x321005_1.length co64)∧w'.cell? ⟨gb320,6,none⟩=some (.bool x321006_1)∧w'.cell? ⟨gb335,0,none⟩=some (.string t331)∧w'.cell? ⟨gb335,1,none⟩=some (.string t332)) (ds:=[]) #[F_,F_,F_,F_,F_,F_,F_] (by kernel_rfl) rfl rfl ⟨(bc_ BK320.out 0).trans rfl,(bc_ BK320.out 1).trans rfl,(bc_ BK320.out 2).trans rfl,(bc_ BK320.out 3).trans rfl,(bc_ BK320.out 4).trans rfl,(bc_ BK320.out 5).trans rfl,(bc_ BK320.out 6).trans rfl,(bc_ BK335.out 0).trans rfl,(bc_ BK335.out 1).trans rfl⟩ (fun hHeld=>?_)
              generalize w65.drew=w66 at HO_321005 BK317 BK320 BK335 HB hHeld ⊢
              refine pure_ (i:=0) (N:=some 63) (v:=?_) (a':=?_) #[T_,F_,F_,F_,F_,F_,F_] rfl rfl (by kernel_rfl) (fun _ _ _ h=>h) (Or.inl ⟨by rfl,?_⟩) ?_ ?_
              rotate_left
              ·intro w'
               go_simp
               with_reducible rfl
              rotate_left
              ·simp only [Act.put,ls_,lz_,lc_,i64_w,i32_w]
               rfl
              refine take_ (i:=1) (N:=some 64) (v:=?_) (a':=?_) #[T_,T_,F_,F_,F_,F_,F_] rfl rfl (by kernel_rfl) (fun _ _ _ h=>h) (Or.inl ⟨by rfl,?_⟩) hHeld ?_ ?_
              rotate_left
              ·rintro w' ⟨s0,s1,s2,s3,s4,s5,s6,s7,s8⟩
               go_simp
               with_reducible rfl
              rotate_left
              ·simp only [Act.put,ls_,lz_,lc_,i64_w,i32_w]
               rfl
              refine take_ (i:=3) (N:=some 66) (v:=?_) (a':=?_) #[T_,T_,F_,T_,F_,F_,F_] rfl rfl (by kernel_rfl) (fun _ _ _ h=>h) (Or.inl ⟨by rfl,?_⟩) hHeld ?_ ?_
              rotate_left
              ·rintro w' ⟨s0,s1,s2,s3,s4,s5,s6,s7,s8⟩
               go_simp
               with_reducible rfl
              rotate_left
              ·simp only [Act.put,ls_,lz_,lc_,i64_w,i32_w]
               rfl
              refine join_ (σ := Value × Value) 2 #[T_,T_,T_,T_,T_,F_,F_] (fun s_=>[(65,s_.1),(67,s_.2)]) (fun s_ w'=>(w'.cell? ⟨gb320,0,none⟩=some (.int .i64 2)∧w'.cell? ⟨gb320,1,none⟩=some (.int .i64 a1)∧w'.cell? ⟨gb320,2,none⟩=some (.int .i64 0)∧w'.cell? ⟨gb320,3,none⟩=some (.string t319)∧w'.cell? ⟨gb320,4,none⟩=some (.string (⟨#[]⟩:ByteArray))∧w'.cell? ⟨gb320,5,none⟩=some (.slice Ao64 x321005_1.length co64)∧w'.cell? ⟨gb320,6,none⟩=some (.bool x321006_1)∧w'.cell? ⟨gb335,0,none⟩=some (.string t331)∧w'.cell? ⟨gb335,1,none⟩=some (.string t332))∧(Kd.R k52 52 w' w.heap.size (fun k_=>some k_≠(s_.2:Value).ownBlock∧some k_≠(.slice Ao64 x321005_1.length co64:Value).ownBlock∧k_≠gb335) s_.1 t345)∧(Kd.R k52 52 w' w.heap.size (fun k_=>some k_≠(s_.1:Value).ownBlock∧some k_≠(.slice Ao64 x321005_1.length co64:Value).ownBlock∧k_≠gb335) s_.2 y348)∧(Kd.R k52 52 w' w.heap.size (fun k_=>some k_≠(s_.1:Value).ownBlock∧some k_≠(s_.2:Value).ownBlock∧k_≠gb335) (.slice Ao64 x321005_1.length co64) x321005_1)∧(w'.heap[gb317]? = some (.cells #[.int .i64 x318000_1,.int .i64 x318001_1,.int .i64 x318002_1,.string x318003_1,.string x318004_1,.slice none 0 0,.bool x318006_1] 24 (0,0)))∧(w'.heap[gb320]? = some (.cells #[.int .i64 2,.int .i64 a1,.int .i64 0,.string t319,.string (⟨#[]⟩:ByteArray),.slice Ao64 x321005_1.length co64,.bool x321006_1] 24 (0,0)))∧(w'.heap[gb335]? = some (.cells #[.string t331,.string t332] 52 (0,0)))∧(Below w.heap.size w w')) ?_ ?_
              rotate_left
              ·intro hCont
               refine two_ (i:=2) (j:=4) (Ni:=some 65) (Nj:=some 67) #[T_,T_,T_,T_,F_,F_,F_] #[T_,T_,F_,T_,T_,F_,F_] rfl rfl rfl rfl (by kernel_rfl) (by decide) (by decide) (fun K hK=>?_) (fun K hK=>?_)
               ·skip
                refine goes_ Tryz.func63 (by kernel_rfl) rfl #[.slice Ao64 x321005_1.length co64] (by rfl) rfl rfl (by (try simp only [List.map_toArray,List.map_cons,List.map_nil]);first|done|rfl|(simp only [ld_,lt_];rfl)) ?_
                with_reducible refine (slices_CloneAttr.calls _ _ x321005_1 t345 _ ?side1 ?side2 A37.out).mono ?_
                (case side1=>repeat (first|exact (Kd.R_reads' HO_321005.out).2.2|(with_reducible refine ca_ ?_ _)|(with_reducible refine cn_ ?_ _)|(with_reducible refine cd_ ?_)))
                (case side2=>exact (Kd.R_reads' HO_321005.out).2.1)
                rintro e w67 ⟨v346,rfl,ho0,hb⟩
                refine ⟨_,rfl,?_⟩
                have n0_:=A_ (Kd.R_elder' (rq_ HO_321005.out) (Kd.R_base ho0) hb)
                have n1_:=A_ (Kd.R_lower (Kd.R_newB (Kd.R_new' ho0 (Kd.R_lt (rq_ HO_321005.out))) (g:=gb335) (o:=.cells #[.string t331,.string t332] 52 (0,0)) (kq_ BK335.out)) (bz_ (bq3_ HB.out GE317.out GE320.out GE335.out)))
                have n2_:=A_ (kb_ (kq_ BK317.out) hb)
                have n3_:=A_ (kb_ (kq_ BK320.out) hb)
                have n4_:=A_ (kb_ (kq_ BK335.out) hb)
                have n5_:=A_ (bp_ (bq3_ HB.out GE317.out GE320.out GE335.out) hb)
                clear HO_321005
                clear BK317
                clear BK320
                clear BK335
                clear HB
                have HO_321005:=n0_
                have HO347:=n1_
                have BK317:=n2_
                have BK320:=n3_
                have BK335:=n4_
                have HB:=n5_
                clear n0_ n1_ n2_ n3_ n4_ n5_
                (try clear hb)
                (try clear hb2)
                (try clear hk)
                (try clear hi)
                (try clear ho0)
                refine hK.out _ _ ⟨(bc_ BK320.out 0).trans rfl,(bc_ BK320.out 1).trans rfl,(bc_ BK320.out 2).trans rfl,(bc_ BK320.out 3).trans rfl,(bc_ BK320.out 4).trans rfl,(bc_ BK320.out 5).trans rfl,(bc_ BK320.out 6).trans rfl,(bc_ BK335.out 0).trans rfl,(bc_ BK335.out 1).trans rfl⟩ (fun hHeld=>?_)
                clear hK K
                refine norm_ (a':=?_) ?_ ?_
                rotate_left
                ·show Act.put _ (some 65) _=_
                 simp only [Act.put,ls_,lz_,lc_,i64_w,i32_w]
                 rfl
                refine one_ (i:=4) (N:=some 67) #[T_,T_,T_,T_,T_,F_,F_] rfl rfl (by kernel_rfl) (by decide) (fun K hK=>?_)
                refine Kd.R_lit_step k52 _ 52 ?hg (N:=67) ?hd (xs:=([(⟨t331,t332⟩:S52)]:List (S52))) (inner:=[.string t331,.string t332]) (ok:=fun _=>True) (okp:=fun _=>True) ?hr ?hp (fun _ hk=>hk) trivial (Below.refl _ _) (Nat.le_refl _) (by simp) ?_;(case hd=>rfl);(case hg=>rfl);(case hr=>first|(go_simp;done)|(go_simp;rfl)|((first|(obtain ⟨_,_,rfl⟩:=Kd.R_slice HO329.out)|(obtain ⟨_,_,rfl⟩:=Kd.S_slice HO329.out)|skip);(first|(obtain ⟨_,_,rfl⟩:=Kd.R_slice HO347.out)|(obtain ⟨_,_,rfl⟩:=Kd.S_slice HO347.out)|skip);(first|(obtain ⟨_,_,rfl⟩:=Kd.R_slice HO350.out)|(obtain ⟨_,_,rfl⟩:=Kd.S_slice HO350.out)|skip);(first|(obtain ⟨_,_,rfl⟩:=Kd.R_slice HO353.out)|(obtain ⟨_,_,rfl⟩:=Kd.S_slice HO353.out)|skip);first|(go_simp;done)|(go_simp;rfl)));(case hp=>exact (Reps.c2 (show Kd.M k52 _ _ _ (⟨t331,t332⟩:S52) [.string t331,.string t332] from (k52_mkM _ _ _ (⟨t331,t332⟩:S52) )) (Reps.none _ _)))
                intro v349 w68 ho69 hb hg_ hnew_
                clear hg_ hnew_
                (first|rw [←Ny348.out] at ho69|(simp only [Int.reduceToNat] at ho69;rw [←Ny348.out] at ho69))
                have n0_:=A_ (Kd.R_elder' (rq_ HO_321005.out) (Kd.R_base ho69) hb)
                have n1_:=A_ (Kd.R_elder' (rq_ HO347.out) (Kd.R_base ho69) hb)
                have n2_:=A_ (Kd.R_lower (Kd.R_newB (Kd.R_new' (Kd.R_new' ho69 (Kd.R_lt (rq_ HO_321005.out))) (Kd.R_lt (rq_ HO347.out))) (g:=gb335) (o:=.cells #[.string t331,.string t332] 52 (0,0)) (kq_ BK335.out)) (bz_ (bq3_ HB.out GE317.out GE320.out GE335.out)))
                have n3_:=A_ (kb_ (kq_ BK317.out) hb)
                have n4_:=A_ (kb_ (kq_ BK320.out) hb)
                have n5_:=A_ (kb_ (kq_ BK335.out) hb)
                have n6_:=A_ (bp_ (bq3_ HB.out GE317.out GE320.out GE335.out) hb)
                clear HO_321005
                clear HO347
                clear BK317
                clear BK320
                clear BK335
                clear HB
                have HO_321005:=n0_
                have HO347:=n1_
                have HO350:=n2_
                have BK317:=n3_
                have BK320:=n4_
                have BK335:=n5_
                have HB:=n6_
                clear n0_ n1_ n2_ n3_ n4_ n5_ n6_
                clear hb ho69
                refine hK.out _ _ ⟨(bc_ BK320.out 0).trans rfl,(bc_ BK320.out 1).trans rfl,(bc_ BK320.out 2).trans rfl,(bc_ BK320.out 3).trans rfl,(bc_ BK320.out 4).trans rfl,(bc_ BK320.out 5).trans rfl,(bc_ BK320.out 6).trans rfl,(bc_ BK335.out 0).trans rfl,(bc_ BK335.out 1).trans rfl⟩ (fun hHeld=>?_)
                clear hK K
                refine norm_ (a':=?_) ?_ ?_
                rotate_left
                ·show Act.put _ (some 67) _=_
                 simp only [Act.put,ls_,lz_,lc_,i64_w,i32_w]
                 rfl
                exact norm_ (by simp only [putAll,Act.put,ls_,lz_,lc_]) (hCont (v346,v349) _ ⟨hHeld,(by (with_reducible repeat first|apply ra_|apply rn_|apply rd_);exact Kd.R_mono HO347.out (fun _ hk=>⟨hk.2,⟨hk.1.1.2,hk.1.2⟩⟩)),(by (with_reducible repeat first|apply ra_|apply rn_|apply rd_);exact Kd.R_mono HO350.out (fun _ hk=>⟨hk.1.2,⟨hk.1.1.2,hk.2⟩⟩)),(by (with_reducible repeat first|apply ra_|apply rn_|apply rd_);exact Kd.R_mono HO_321005.out (fun _ hk=>⟨hk.1.2,⟨hk.2,hk.1.1⟩⟩)),(kq_ BK317.out),(kq_ BK320.out),(kq_ BK335.out),(bq3_ HB.out GE317.out GE320.out GE335.out)⟩)
               ·skip
                refine Kd.R_lit_step k52 _ 52 ?hg (N:=67) ?hd (xs:=([(⟨t331,t332⟩:S52)]:List (S52))) (inner:=[.string t331,.string t332]) (ok:=fun _=>True) (okp:=fun _=>True) ?hr ?hp (fun _ hk=>hk) trivial (Below.refl _ _) (Nat.le_refl _) (by simp) ?_;(case hd=>rfl);(case hg=>rfl);(case hr=>first|(go_simp;done)|(go_simp;rfl)|((first|(obtain ⟨_,_,rfl⟩:=Kd.R_slice HO329.out)|(obtain ⟨_,_,rfl⟩:=Kd.S_slice HO329.out)|skip);(first|(obtain ⟨_,_,rfl⟩:=Kd.R_slice HO347.out)|(obtain ⟨_,_,rfl⟩:=Kd.S_slice HO347.out)|skip);(first|(obtain ⟨_,_,rfl⟩:=Kd.R_slice HO350.out)|(obtain ⟨_,_,rfl⟩:=Kd.S_slice HO350.out)|skip);(first|(obtain ⟨_,_,rfl⟩:=Kd.R_slice HO353.out)|(obtain ⟨_,_,rfl⟩:=Kd.S_slice HO353.out)|skip);first|(go_simp;done)|(go_simp;rfl)));(case hp=>exact (Reps.c2 (show Kd.M k52 _ _ _ (⟨t331,t332⟩:S52) [.string t331,.string t332] from (k52_mkM _ _ _ (⟨t331,t332⟩:S52) )) (Reps.none _ _)))
                intro v349 w67 ho68 hb hg_ hnew_
                clear hg_ hnew_
                (first|rw [←Ny348.out] at ho68|(simp only [Int.reduceToNat] at ho68;rw [←Ny348.out] at ho68))
                have n0_:=A_ (Kd.R_elder' (rq_ HO_321005.out) (Kd.R_base ho68) hb)
                have n1_:=A_ (Kd.R_lower (Kd.R_newB (Kd.R_new' ho68 (Kd.R_lt (rq_ HO_321005.out))) (g:=gb335) (o:=.cells #[.string t331,.string t332] 52 (0,0)) (kq_ BK335.out)) (bz_ (bq3_ HB.out GE317.out GE320.out GE335.out)))
                have n2_:=A_ (kb_ (kq_ BK317.out) hb)
                have n3_:=A_ (kb_ (kq_ BK320.out) hb)
                have n4_:=A_ (kb_ (kq_ BK335.out) hb)
                have n5_:=A_ (bp_ (bq3_ HB.out GE317.out GE320.out GE335.out) hb)
                clear HO_321005
                clear BK317
                clear BK320
                clear BK335
                clear HB
                have HO_321005:=n0_
                have HO350:=n1_
                have BK317:=n2_
                have BK320:=n3_
                have BK335:=n4_
                have HB:=n5_
                clear n0_ n1_ n2_ n3_ n4_ n5_
                clear hb ho68
                refine hK.out _ _ ⟨(bc_ BK320.out 0).trans rfl,(bc_ BK320.out 1).trans rfl,(bc_ BK320.out 2).trans rfl,(bc_ BK320.out 3).trans rfl,(bc_ BK320.out 4).trans rfl,(bc_ BK320.out 5).trans rfl,(bc_ BK320.out 6).trans rfl,(bc_ BK335.out 0).trans rfl,(bc_ BK335.out 1).trans rfl⟩ (fun hHeld=>?_)
                clear hK K
                refine norm_ (a':=?_) ?_ ?_
                rotate_left
                ·show Act.put _ (some 67) _=_
                 simp only [Act.put,ls_,lz_,lc_,i64_w,i32_w]
                 rfl
                refine one_ (i:=2) (N:=some 65) #[T_,T_,T_,T_,T_,F_,F_] rfl rfl (by kernel_rfl) (by decide) (fun K hK=>?_)
                refine goes_ Tryz.func63 (by kernel_rfl) rfl #[.slice Ao64 x321005_1.length co64] (by rfl) rfl rfl (by (try simp only [List.map_toArray,List.map_cons,List.map_nil]);first|done|rfl|(simp only [ld_,lt_];rfl)) ?_
                with_reducible refine (slices_CloneAttr.calls _ _ x321005_1 t345 _ ?side1 ?side2 A37.out).mono ?_
                (case side1=>repeat (first|exact (Kd.R_reads' HO_321005.out).2.2|(with_reducible refine ca_ ?_ _)|(with_reducible refine cn_ ?_ _)|(with_reducible refine cd_ ?_)))
                (case side2=>exact (Kd.R_reads' HO_321005.out).2.1)
                rintro e w69 ⟨v346,rfl,ho0,hb⟩
                refine ⟨_,rfl,?_⟩
                have n0_:=A_ (Kd.R_elder' (rq_ HO_321005.out) (Kd.R_base ho0) hb)
                have n1_:=A_ (Kd.R_elder' (rq_ HO350.out) (Kd.R_base ho0) hb)
                have n2_:=A_ (Kd.R_lower (Kd.R_newB (Kd.R_new' (Kd.R_new' ho0 (Kd.R_lt (rq_ HO_321005.out))) (Kd.R_lt (rq_ HO350.out))) (g:=gb335) (o:=.cells #[.string t331,.string t332] 52 (0,0)) (kq_ BK335.out)) (bz_ (bq3_ HB.out GE317.out GE320.out GE335.out)))
                have n3_:=A_ (kb_ (kq_ BK317.out) hb)
                have n4_:=A_ (kb_ (kq_ BK320.out) hb)
                have n5_:=A_ (kb_ (kq_ BK335.out) hb)
                have n6_:=A_ (bp_ (bq3_ HB.out GE317.out GE320.out GE335.out) hb)
                clear HO_321005
                clear HO350
                clear BK317
                clear BK320
                clear BK335
                clear HB
                have HO_321005:=n0_
                have HO350:=n1_
                have HO347:=n2_
                have BK317:=n3_
                have BK320:=n4_
                have BK335:=n5_
                have HB:=n6_
                clear n0_ n1_ n2_ n3_ n4_ n5_ n6_
                (try clear hb)
                (try clear hb2)
                (try clear hk)
                (try clear hi)
                (try clear ho0)
                refine hK.out _ _ ⟨(bc_ BK320.out 0).trans rfl,(bc_ BK320.out 1).trans rfl,(bc_ BK320.out 2).trans rfl,(bc_ BK320.out 3).trans rfl,(bc_ BK320.out 4).trans rfl,(bc_ BK320.out 5).trans rfl,(bc_ BK320.out 6).trans rfl,(bc_ BK335.out 0).trans rfl,(bc_ BK335.out 1).trans rfl⟩ (fun hHeld=>?_)
                clear hK K
                refine norm_ (a':=?_) ?_ ?_
                rotate_left
                ·show Act.put _ (some 65) _=_
                 simp only [Act.put,ls_,lz_,lc_,i64_w,i32_w]
                 rfl
                exact norm_ (by simp only [putAll,Act.put,ls_,lz_,lc_]) (hCont (v346,v349) _ ⟨hHeld,(by (with_reducible repeat first|apply ra_|apply rn_|apply rd_);exact Kd.R_mono HO347.out (fun _ hk=>⟨hk.1.2,⟨hk.1.1.2,hk.2⟩⟩)),(by (with_reducible repeat first|apply ra_|apply rn_|apply rd_);exact Kd.R_mono HO350.out (fun _ hk=>⟨hk.2,⟨hk.1.1.2,hk.1.2⟩⟩)),(by (with_reducible repeat first|apply ra_|apply rn_|apply rd_);exact Kd.R_mono HO_321005.out (fun _ hk=>⟨hk.2,⟨hk.1.2,hk.1.1⟩⟩)),(kq_ BK317.out),(kq_ BK320.out),(kq_ BK335.out),(bq3_ HB.out GE317.out GE320.out GE335.out)⟩)
              rintro ⟨v346,v349⟩ w70 ⟨hS_,h0_,h1_,h2_,h3_,h4_,h5_,h6_⟩
              have n0_:Aside0 (Kd.R k52 52 w70 w.heap.size (fun k_=>some k_≠(v349:Value).ownBlock∧some k_≠(.slice Ao64 x321005_1.length co64:Value).ownBlock∧k_≠gb335) v346 t345):=⟨h0_⟩
              have n1_:Aside0 (Kd.R k52 52 w70 w.heap.size (fun k_=>some k_≠(v346:Value).ownBlock∧some k_≠(.slice Ao64 x321005_1.length co64:Value).ownBlock∧k_≠gb335) v349 y348):=⟨h1_⟩
              have n2_:Aside0 (Kd.R k52 52 w70 w.heap.size (fun k_=>some k_≠(v346:Value).ownBlock∧some k_≠(v349:Value).ownBlock∧k_≠gb335) (.slice Ao64 x321005_1.length co64) x321005_1):=⟨h2_⟩
              have n3_:Aside0 (w70.heap[gb317]? = some (.cells #[.int .i64 x318000_1,.int .i64 x318001_1,.int .i64 x318002_1,.string x318003_1,.string x318004_1,.slice none 0 0,.bool x318006_1] 24 (0,0))):=⟨h3_⟩
              have n4_:Aside0 (w70.heap[gb320]? = some (.cells #[.int .i64 2,.int .i64 a1,.int .i64 0,.string t319,.string (⟨#[]⟩:ByteArray),.slice Ao64 x321005_1.length co64,.bool x321006_1] 24 (0,0))):=⟨h4_⟩
              have n5_:Aside0 (w70.heap[gb335]? = some (.cells #[.string t331,.string t332] 52 (0,0))):=⟨h5_⟩
              have n6_:Aside0 (Below w.heap.size w w70):=⟨h6_⟩
              clear HO_321005
              clear BK317
              clear BK320
              clear BK335
              clear HB
              clear h0_ h1_ h2_ h3_ h4_ h5_ h6_
              have HO347:=n0_
              have HO350:=n1_
              have HO_321005:=n2_
              have BK317:=n3_
              have BK320:=n4_
              have BK335:=n5_
              have HB:=n6_
              clear n0_ n1_ n2_ n3_ n4_ n5_ n6_
              have hHeld:w70.cell? ⟨gb320,0,none⟩=some (.int .i64 2)∧w70.cell? ⟨gb320,1,none⟩=some (.int .i64 a1)∧w70.cell? ⟨gb320,2,none⟩=some (.int .i64 0)∧w70.cell? ⟨gb320,3,none⟩=some (.string t319)∧w70.cell? ⟨gb320,4,none⟩=some (.string (⟨#[]⟩:ByteArray))∧w70.cell? ⟨gb320,5,none⟩=some (.slice Ao64 x321005_1.length co64)∧w70.cell? ⟨gb320,6,none⟩=some (.bool x321006_1)∧w70.cell? ⟨gb335,0,none⟩=some (.string t331)∧w70.cell? ⟨gb335,1,none⟩=some (.string t332):=hS_
              obtain ⟨Ao72,co72,eo72⟩:=Kd.R_slice HO350.out
              (first|subst eo72|(injection eo72 with f1_ f2_ f3_;have f4_:=f1_.symm;have f5_:=f3_.symm;clear f1_ f2_ f3_;subst f4_;subst f5_))
              refine norm_ (a':=?_) ?_ ?_
              rotate_left
              ·simp only [putAll,Act.put,ls_,lz_,lc_]
               rfl
              refine one_ (i:=5) (N:=some 68) #[T_,T_,T_,T_,T_,T_,F_] rfl rfl (by kernel_rfl) (by decide) (fun K hK=>?_)
              refine Kd.R_append_rows_step k52 (w0:=w) w.heap.size (by rfl) (.tmp 65) (.tmp 67) 22 52 (.agg #[(.string ⟨#[]⟩),(.string ⟨#[]⟩)]) 32 rfl Tryz.underlying22 info52 rfl (by decide) (by omega) v346 t345 y348 _ _ _ (fun k_=>some k_≠(.slice Ao64 x321005_1.length co64:Value).ownBlock∧some k_≠(.slice Ao72 y348.length co72:Value).ownBlock∧k_≠gb335) (fun _=>False) rfl rfl ?aO ?aR (fun _ _ h=>h) (fun _ h=>h.elim) ?aF ?aB ?aS ?aL ?_
              (case aR=>repeat (first|exact (Kd.R_reads' HO350.out).2.2|(with_reducible refine ca_ ?_ _)|(with_reducible refine cn_ ?_ _)|(with_reducible refine cd_ ?_)))
              (case aB=>exact (bq3_ HB.out GE317.out GE320.out GE335.out))
              (case aF=>exact (fun k_ hk=>⟨Kd.fresh' (Kd.R_lt (rq_ HO_321005.out)) k_ hk,Kd.fresh' (Kd.R_lt (rq_ HO350.out)) k_ hk,Kd.freshB (g:=gb335) (o:=.cells #[.string t331,.string t332] 52 (0,0)) (kq_ BK335.out) k_ hk⟩))
              (case aO=>exact (by (with_reducible repeat first|apply ra_|apply rn_|apply rd_);exact Kd.R_mono HO347.out (fun _ hk=>⟨hk.2.1,⟨hk.1,hk.2.2⟩⟩)))
              (case aS=>exact (bz_ (bq3_ HB.out GE317.out GE320.out GE335.out)))
              (case aL=>have:=LMc38.out;omega)
              intro v352 w71 ho hb hg hat
              rw [←Ny351.out] at ho
              have n0_:=A_ (Kd.R_after (ok:=(fun k_=>some k_≠(.slice Ao72 y348.length co72:Value).ownBlock∧k_≠gb335)) (by (with_reducible repeat first|apply ra_|apply rn_|apply rd_);exact Kd.R_mono HO_321005.out (fun _ hk=>⟨⟨hk.2.1,hk.2.2⟩,hk.1⟩)) hg hat)
              have n1_:=A_ (blk_grown (g:=gb317) (o:=.cells #[.int .i64 x318000_1,.int .i64 x318001_1,.int .i64 x318002_1,.string x318003_1,.string x318004_1,.slice none 0 0,.bool x318006_1] 24 (0,0)) (kq_ BK317.out) hg (Kd.R_ne HO347.out BK317.out (by decide)))
              have n2_:=A_ (blk_grown (g:=gb320) (o:=.cells #[.int .i64 2,.int .i64 a1,.int .i64 0,.string t319,.string (⟨#[]⟩:ByteArray),.slice Ao64 x321005_1.length co64,.bool x321006_1] 24 (0,0)) (kq_ BK320.out) hg (Kd.R_ne HO347.out BK320.out (by decide)))
              have n3_:=A_ (blk_grown (g:=gb335) (o:=.cells #[.string t331,.string t332] 52 (0,0)) (kq_ BK335.out) hg (Kd.R_away HO347.out (fun _ hk=>hk.2.2)))
              have n4_:=A_ (Kd.R_after (ok:=(fun k_=>some k_≠(.slice Ao64 x321005_1.length co64:Value).ownBlock∧k_≠gb335)) (by (with_reducible repeat first|apply ra_|apply rn_|apply rd_);exact Kd.R_mono HO350.out (fun _ hk=>⟨⟨hk.2.1,hk.2.2⟩,hk.1⟩)) hg hat)
              have n5_:=A_ (hb)
              have n6_:=A_ (ho)
              clear HO_321005
              clear BK317
              clear BK320
              clear BK335
              clear HO350
              clear HB
              clear HO347
              have HO_321005:=n0_
              have BK317:=n1_
              have BK320:=n2_
              have BK335:=n3_
              have HO350:=n4_
              have HB:=n5_
              have HO353:=n6_
              clear n0_ n1_ n2_ n3_ n4_ n5_ n6_
              clear ho hb hg hat
              refine hK.out _ _ ⟨(bc_ BK320.out 0).trans rfl,(bc_ BK320.out 1).trans rfl,(bc_ BK320.out 2).trans rfl,(bc_ BK320.out 3).trans rfl,(bc_ BK320.out 4).trans rfl,(bc_ BK320.out 5).trans rfl,(bc_ BK320.out 6).trans rfl,(bc_ BK335.out 0).trans rfl,(bc_ BK335.out 1).trans rfl⟩ (fun hHeld=>?_)
              clear hK K
              refine norm_ (a':=?_) ?_ ?_
              rotate_left
              ·show Act.put _ (some 68) _=_
               simp only [Act.put,ls_,lz_,lc_,i64_w,i32_w]
               rfl
              refine pure_ (i:=6) (N:=some 11) (v:=?_) (a':=?_) #[T_,T_,T_,T_,T_,T_,T_] rfl rfl (by kernel_rfl) (fun _ _ _ h=>h) (Or.inl ⟨by rfl,?_⟩) ?_ ?_
              rotate_left
              ·intro w'
               go_simp
               with_reducible rfl
              rotate_left
              ·simp only [Act.put,ls_,lz_,lc_,i64_w,i32_w]
               rfl
              refine done_ (by kernel_rfl) ?_
              obtain ⟨Ao73,co73,eo73⟩:=Kd.R_slice HO353.out
              subst eo73
              try go_wp2_with (first|((with_reducible refine gate_callee (f:=64) rfl ?_);refine gl_ (some 70) rfl rfl Tryz.func64 (by kernel_rfl) rfl #[.slice Ao73 y351.length co73] rfl  ?_;(with_reducible refine (impl_areAttrs.calls _ _ y351 false _ ?side1 ?side2 A39.out).mono ?_);(case side1=>repeat (first|exact (Kd.R_reads' HO353.out).2.2|(with_reducible refine ca_ ?_ _)|(with_reducible refine cn_ ?_ _)|(with_reducible refine cd_ ?_)));(case side2=>exact (Kd.R_reads' HO353.out).2.1);rintro e w74 ⟨rfl,hb⟩;refine ⟨_,rfl,?_⟩;have n0_:=A_ (Kd.R_below (rq_ HO_321005.out) hb);have n1_:=A_ (Kd.R_below (rq_ HO350.out) hb);have n2_:=A_ (Kd.R_below (rq_ HO353.out) hb);have n3_:=A_ (kb_ (kq_ BK317.out) hb);have n4_:=A_ (kb_ (kq_ BK320.out) hb);have n5_:=A_ (kb_ (kq_ BK335.out) hb);have n6_:=A_ (bp_ (bq3_ HB.out GE317.out GE320.out GE335.out) hb);clear HO_321005;clear HO350;clear HO353;clear BK317;clear BK320;clear BK335;clear HB;have HO_321005:=n0_;have HO350:=n1_;have HO353:=n2_;have BK317:=n3_;have BK320:=n4_;have BK335:=n5_;have HB:=n6_;clear n0_ n1_ n2_ n3_ n4_ n5_ n6_;(try clear hb);(try clear hb2);(try clear hk);(try clear hi)))
              go_roundg k1
              case measure=>have:=HK1.out;omega
              case rel=>exact ⟨(t333),(x318000_1),(x318001_1),(x318002_1),(x318003_1),(x318004_1),(x318006_1),(x321005_1),(x321006_1),(.slice Ao64 x321005_1.length co64),rs_,H',⟨by have:=HK1.out;omega⟩,⟨by (with_reducible repeat first|apply ra_|apply rn_|apply rd_);exact Kd.R_mono HO_321005.out (fun _ hk=>trivial)⟩,⟨kq_ BK317.out⟩,⟨kq_ BK320.out⟩,⟨bq3_ HB.out GE317.out GE320.out GE335.out⟩⟩
            ·rw [if_neg c38] at H
             exact absurd H (by simp)
           ·replace c36:=bm_ c36
            subst c36
            have H1:((impl_nothing.f a1 (a0.size:Int)).bind fun bt336=>(some (bt336.1,bt336.2.1,bt336.2.2.1,bt336.2.2.2.1,bt336.2.2.2.2.1,bt336.2.2.2.2.2.1,bt336.2.2.2.2.2.2)))=some (r1,r2,r3,r4,r5,r6,r7):=by rw [if_neg (show ¬ (false=true) by decide)] at H;exact H
            clear H
            have H:=H1
            clear H1
            replace H:=ob_ H
            obtain ⟨⟨t336,t337,t338,t339,t340,t341,t344⟩,A750,H⟩:=H
            replace H:(some (t336,t337,t338,t339,t340,t341,t344))=some (r1,r2,r3,r4,r5,r6,r7):=H
            have A75:=A_ A750
            clear A750
            simp only [Option.some.injEq,Prod.mk.injEq] at H
            obtain ⟨rfl,rfl,rfl,rfl,rfl,rfl,rfl⟩:=H
            go_wp2_with (first|((with_reducible refine gate_callee (f:=60) rfl ?_);refine gl_ (some 27) rfl rfl Tryz.func60 (by kernel_rfl) rfl #[.string a0,.int .i64 x5_1,.string (⟨#[32,9,10,12,13,47]⟩:ByteArray)] rfl  ?_;(with_reducible refine (impl_past.calls k1 a0 x5_1 (⟨#[32,9,10,12,13,47]⟩:ByteArray) t321 _ A15.out).mono ?_);rintro e w' ⟨rfl,⟨nd,rfl⟩⟩;refine ⟨_,rfl,?_⟩;(try (rw [drewN_self wr];generalize hq_:World.drewN wr _=wr;have n0_:Aside0 (Kd.R k52 52 wr w.heap.size (fun _=>True) u321005 x321005_1):=⟨by rw [←hq_];exact (rq_ HO_321005.out)⟩;have n1_:Aside0 (wr.heap[gb317]? = some (.cells #[.int .i64 x318000_1,.int .i64 x318001_1,.int .i64 x318002_1,.string x318003_1,.string x318004_1,.slice none 0 0,.bool x318006_1] 24 (0,0))):=⟨by rw [←hq_];exact (kq_ BK317.out)⟩;have n2_:Aside0 (wr.heap[gb320]? = some (.cells #[.int .i64 2,.int .i64 a1,.int .i64 0,.string t319,.string (⟨#[]⟩:ByteArray),u321005,.bool x321006_1] 24 (0,0))):=⟨by rw [←hq_];exact (kq_ BK320.out)⟩;have n3_:Aside0 (Below w.heap.size w wr):=⟨by rw [←hq_];exact (bq2_ HB.out GE317.out GE320.out)⟩;clear HO_321005 BK317 BK320 HB hq_;have HO_321005:=n0_;have BK317:=n1_;have BK320:=n2_;have HB:=n3_;clear n0_ n1_ n2_ n3_;obtain ⟨hcygb317_0,hcygb317_1,hcygb317_2,hcygb317_3,hcygb317_4,hcygb317_5,hcygb317_6,hfygb317_0,hfygb317_1,hfygb317_2,hfygb317_3,hfygb317_4,hfygb317_5,hfygb317_6⟩:=g7_ BK317.out;obtain ⟨hcygb320_0,hcygb320_1,hcygb320_2,hcygb320_3,hcygb320_4,hcygb320_5,hcygb320_6,hfygb320_0,hfygb320_1,hfygb320_2,hfygb320_3,hfygb320_4,hfygb320_5,hfygb320_6⟩:=g7_ BK320.out));have p24:0≤(t321:Int):=oa_;have q24:t321<(a0.size:Int):=oa_;have hx24:=bt_at a0 t321;replace p24:=eq_true p24;replace q24:=eq_true q24)|((with_reducible refine gate_callee (f:=62) rfl ?_);refine gl_ (some 53) rfl rfl Tryz.func62 (by kernel_rfl) rfl #[.string a0,.int .i64 t321] rfl  ?_;(with_reducible refine (impl_attribute.calls k1 a0 t321 t331 t332 t333 false _ ?sideL A35.out).mono ?_);(case sideL=>exact HL.out.below (bq2_ HB.out GE317.out GE320.out));rintro e w76 ⟨rfl,hb⟩;refine ⟨_,rfl,?_⟩;have n0_:=A_ (Kd.R_below (rq_ HO_321005.out) hb);have n1_:=A_ (kb_ (kq_ BK317.out) hb);have n2_:=A_ (kb_ (kq_ BK320.out) hb);have n3_:=A_ (bp_ (bq2_ HB.out GE317.out GE320.out) hb);clear HO_321005;clear BK317;clear BK320;clear HB;have HO_321005:=n0_;have BK317:=n1_;have BK320:=n2_;have HB:=n3_;clear n0_ n1_ n2_ n3_;(try clear hb);(try clear hb2);(try clear hk);(try clear hi))|((with_reducible refine gate_dst (N:=8) rfl ?_);refine box_event ?hg (N:=8) ?hd (cs:=#[.string (⟨#[]⟩:ByteArray),.string (⟨#[]⟩:ByteArray)]) (t:=52) ?hr ?_;(case hd=>rfl);(case hg=>rfl);(case hr=>first|(go_simp;done)|(go_simp;rfl)|((first|(obtain ⟨_,_,rfl⟩:=Kd.R_slice HO329.out)|(obtain ⟨_,_,rfl⟩:=Kd.S_slice HO329.out)|skip);(first|(obtain ⟨_,_,rfl⟩:=Kd.R_slice HO347.out)|(obtain ⟨_,_,rfl⟩:=Kd.S_slice HO347.out)|skip);(first|(obtain ⟨_,_,rfl⟩:=Kd.R_slice HO350.out)|(obtain ⟨_,_,rfl⟩:=Kd.S_slice HO350.out)|skip);(first|(obtain ⟨_,_,rfl⟩:=Kd.R_slice HO353.out)|(obtain ⟨_,_,rfl⟩:=Kd.S_slice HO353.out)|skip);first|(go_simp;done)|(go_simp;rfl)));intro gb335 hg w77 hbox hb;have n0_:=A_ (Kd.R_below (Kd.R_elderB (rq_ HO_321005.out) gb335 (Nat.le_of_eq hg.symm)) hb);have n1_:=A_ (kb_ (kq_ BK317.out) hb);have n2_:=A_ (kb_ (kq_ BK320.out) hb);have n3_:=A_ (bp_ (bq2_ HB.out GE317.out GE320.out) hb);have n4_:=A_ (hbox);have n5_:=A_ ((by rw [hg];exact (bz_ (bq2_ HB.out GE317.out GE320.out)):w.heap.size≤gb335));have n6_:=A_ ((by rw [hg];exact (bz_ (bq2_ HB.out GE317.out GE320.out)):w.heap.size≤gb335));have n7_:=A_ ((by rw [hg];exact Nat.ne_of_lt (blk_lt (g:=gb317) (o:=.cells #[.int .i64 x318000_1,.int .i64 x318001_1,.int .i64 x318002_1,.string x318003_1,.string x318004_1,.slice none 0 0,.bool x318006_1] 24 (0,0)) (kq_ BK317.out)):gb317≠gb335));have n8_:=A_ ((by rw [hg];exact Nat.ne_of_gt (blk_lt (g:=gb317) (o:=.cells #[.int .i64 x318000_1,.int .i64 x318001_1,.int .i64 x318002_1,.string x318003_1,.string x318004_1,.slice none 0 0,.bool x318006_1] 24 (0,0)) (kq_ BK317.out)):gb335≠gb317));have n9_:=A_ ((by rw [hg];exact Nat.ne_of_lt (blk_lt (g:=gb320) (o:=.cells #[.int .i64 2,.int .i64 a1,.int .i64 0,.string t319,.string (⟨#[]⟩:ByteArray),u321005,.bool x321006_1] 24 (0,0)) (kq_ BK320.out)):gb320≠gb335));have n10_:=A_ ((by rw [hg];exact Nat.ne_of_gt (blk_lt (g:=gb320) (o:=.cells #[.int .i64 2,.int .i64 a1,.int .i64 0,.string t319,.string (⟨#[]⟩:ByteArray),u321005,.bool x321006_1] 24 (0,0)) (kq_ BK320.out)):gb335≠gb320));clear HO_321005;clear BK317;clear BK320;clear HB;have HO_321005:=n0_;have BK317:=n1_;have BK320:=n2_;have HB:=n3_;have BK335:=n4_;have GW335:=n5_;have GE335:=n6_;have NB317_335:=n7_;have NB335_317:=n8_;have NB320_335:=n9_;have NB335_320:=n10_;clear n0_ n1_ n2_ n3_ n4_ n5_ n6_ n7_ n8_ n9_ n10_;clear hb hbox hg;have hnb78:=NB335_317.out;have hnc78:=NB317_335.out;have hnb79:=NB335_320.out;have hnc79:=NB320_335.out;obtain ⟨hcz80_0,hcz80_1,hfz80_0,hfz80_1⟩:=g2_ BK335.out)|((with_reducible refine gate_callee (f:=61) rfl ?_);refine gl_ (some 62) rfl rfl Tryz.func61 (by kernel_rfl) rfl #[.int .i64 a1,.int .i64 (a0.size:Int)] rfl  ?_;(with_reducible refine (impl_nothing.calls a1 (a0.size:Int) t336 t337 t338 t339 t340 t341 t344 _ A75.out).mono ?_);rintro e w81 ⟨v342,rfl,ho0,hb⟩;refine ⟨_,rfl,?_⟩;have n0_:=A_ (Kd.R_elder' (by (with_reducible repeat first|apply ra_|apply rn_|apply rd_);exact (Kd.R_mono (Kd.R_far (p:=⟨gb335,1,none⟩) (Kd.R_far (p:=⟨gb335,0,none⟩) (Kd.R_mono HO_321005.out (fun k_ hk=>(⟨hk,hk.2⟩:_∧k_≠gb335))) (fun _ hk=>hk.2) (.string t331)) (fun _ hk=>hk.2) (.string t332)) (fun _ h_=>h_.1))) (Kd.R_base ho0) hb);have n1_:=A_ (Kd.R_lower (Kd.R_newB (Kd.R_new' ho0 (Kd.R_lt (by (with_reducible repeat first|apply ra_|apply rn_|apply rd_);exact (Kd.R_mono (Kd.R_far (p:=⟨gb335,1,none⟩) (Kd.R_far (p:=⟨gb335,0,none⟩) (Kd.R_mono HO_321005.out (fun k_ hk=>(⟨hk,hk.2⟩:_∧k_≠gb335))) (fun _ hk=>hk.2) (.string t331)) (fun _ hk=>hk.2) (.string t332)) (fun _ h_=>h_.1))))) (g:=gb335) (o:=.cells #[.string t331,.string t332] 52 (0,0)) (by (with_reducible repeat first|apply kn_|apply kd_|apply ka_);refine blk_put (cs:=#[.string t331,.string (⟨#[]⟩:ByteArray)]) ?_ 1 _ rfl;(with_reducible repeat first|apply kn_|apply kd_|apply ka_);refine blk_put (cs:=#[.string (⟨#[]⟩:ByteArray),.string (⟨#[]⟩:ByteArray)]) ?_ 0 _ rfl;(with_reducible repeat first|apply kn_|apply kd_|apply ka_);exact BK335.out)) (bz_ (bq3_ HB.out GE317.out GE320.out GE335.out)));have n2_:=A_ (kb_ (g:=gb317) (o:=.cells #[.int .i64 x318000_1,.int .i64 x318001_1,.int .i64 x318002_1,.string x318003_1,.string x318004_1,.slice none 0 0,.bool x318006_1] 24 (0,0)) (by (repeat first|(with_reducible first|apply kn_|apply kd_|apply ka_)|refine blk_far ?_ NB317_335.out _);exact BK317.out) hb);have n3_:=A_ (kb_ (g:=gb320) (o:=.cells #[.int .i64 2,.int .i64 a1,.int .i64 0,.string t319,.string (⟨#[]⟩:ByteArray),u321005,.bool x321006_1] 24 (0,0)) (by (repeat first|(with_reducible first|apply kn_|apply kd_|apply ka_)|refine blk_far ?_ NB320_335.out _);exact BK320.out) hb);have n4_:=A_ (kb_ (g:=gb335) (o:=.cells #[.string t331,.string t332] 52 (0,0)) (by (with_reducible repeat first|apply kn_|apply kd_|apply ka_);refine blk_put (cs:=#[.string t331,.string (⟨#[]⟩:ByteArray)]) ?_ 1 _ rfl;(with_reducible repeat first|apply kn_|apply kd_|apply ka_);refine blk_put (cs:=#[.string (⟨#[]⟩:ByteArray),.string (⟨#[]⟩:ByteArray)]) ?_ 0 _ rfl;(with_reducible repeat first|apply kn_|apply kd_|apply ka_);exact BK335.out) hb);have n5_:=A_ (bp_ (bq3_ HB.out GE317.out GE320.out GE335.out) hb);clear HO_321005;clear BK317;clear BK320;clear BK335;clear HB;have HO_321005:=n0_;have HO343:=n1_;have BK317:=n2_;have BK320:=n3_;have BK335:=n4_;have HB:=n5_;clear n0_ n1_ n2_ n3_ n4_ n5_;(try clear hb);(try clear hb2);(try clear hk);(try clear hi);(try clear ho0);have hnb82:=NB317_320.out;have hnc82:=NB320_317.out;obtain ⟨hcz83_0,hcz83_1,hcz83_2,hcz83_3,hcz83_4,hcz83_5,hcz83_6,hfz83_0,hfz83_1,hfz83_2,hfz83_3,hfz83_4,hfz83_5,hfz83_6⟩:=g7_ BK317.out;obtain ⟨Ao84,co84,eo84⟩:=Kd.R_slice HO343.out;subst eo84))
            refine bodyPost_ret (results_cell_row rfl _ _ gb317 24 #[.int .i64 t336,.int .i64 t337,.int .i64 t338,.string t339,.string t340,.slice Ao84 t341.length co84,.bool t344] (0,0) _ rfl (by (with_reducible repeat first|apply kn_|apply kd_|apply ka_);exact p7_ (kq_ BK317.out)) Tryz.underlying24 rfl (by kernel_rfl)) rfl ?_
            exact ⟨_,by first|rfl|(simp [errW_none,errW_some] <;> rfl)|(simp only [←hji4];first|rfl|(simp [errW_none,errW_some] <;> rfl))|(simp [*,errW_none,errW_some] <;> rfl),by (with_reducible repeat first|apply ra_|apply rn_|apply rd_);exact Kd.R_mono (f7_ (g:=gb317) (Kd.R_types HO343.out BK317.out (by decide)) (fun _ hk=>hk.2) (.int .i64 t336) (.int .i64 t337) (.int .i64 t338) (.string t339) (.string t340) (.slice Ao84 t341.length co84) (.bool t344)) (fun _ hk=>trivial),bq3_ HB.out GE317.out GE320.out GE335.out⟩
         ·rw [if_neg c23] at H
          exact absurd H (by simp)
        ·rw [if_neg c22] at H
         exact absurd H (by simp)
    case rest =>
     clear HC9
     try clear c2
     try clear p2
     try clear q2
     try clear hx2
     try clear c3
     try clear c4
     try clear c5
     try clear c6
     try clear c7
     try clear c8
     try clear c22
     try clear c23
     try clear p24
     try clear q24
     try clear hx24
     try clear c36
     try clear c38
     try clear c40
     try clear c57
     try clear c60
     try clear c61
     try clear c62
     try clear c63
     try clear c64
     try clear c78
     try clear c79
     try clear c82
     try clear hcz58_0
     try clear hcz58_1
     try clear hcz58_2
     try clear hcz58_3
     try clear hcz58_4
     try clear hcz58_5
     try clear hcz58_6
     try clear hcz63_0
     try clear hcz63_1
     try clear hcz80_0
     try clear hcz80_1
     try clear hcz83_0
     try clear hcz83_1
     try clear hcz83_2
     try clear hcz83_3
     try clear hcz83_4
     try clear hcz83_5
     try clear hcz83_6
     try clear hfz58_0
     try clear hfz58_1
     try clear hfz58_2
     try clear hfz58_3
     try clear hfz58_4
     try clear hfz58_5
     try clear hfz58_6
     try clear hfz63_0
     try clear hfz63_1
     try clear hfz80_0
     try clear hfz80_1
     try clear hfz83_0
     try clear hfz83_1
     try clear hfz83_2
     try clear hfz83_3
     try clear hfz83_4
     try clear hfz83_5
     try clear hfz83_6
     try clear p24
     try clear q24
     obtain ⟨kq,x5_8,x318000_8,x318001_8,x318002_8,x318003_8,x318004_8,x318006_8,x321005_8,x321006_8,u321005,rfl,HA,HJ8,HO_321005,BK317,BK320,HB⟩:=hcut
     cases kq with
     | zero=>exact absurd HA.out (by simp [impl_open.j1])
     | succ kj8 =>
      have H:=HA.out
      clear HA
      simp only [impl_open.j1] at H
      replace H:=ob_ H
      obtain ⟨t355,A850,H⟩:=H
      replace H:(if t355=true then (some (2,a1,wrap64 ((wrap64 (x5_8+1)) - a1),t319,(⟨#[]⟩:ByteArray),x321005_8,x321006_8)) else ((impl_nothing.f a1 (wrap64 (x5_8+1))).bind fun bt356=>(some (bt356.1,bt356.2.1,bt356.2.2.1,bt356.2.2.2.1,bt356.2.2.2.2.1,bt356.2.2.2.2.2.1,bt356.2.2.2.2.2.2))))=some (r1,r2,r3,r4,r5,r6,r7):=H
      have A85:=A_ A850
      clear A850
      by_cases c86:t355=true
      ·subst c86
       have H1:(some (2,a1,wrap64 ((wrap64 (x5_8+1)) - a1),t319,(⟨#[]⟩:ByteArray),x321005_8,x321006_8))=some (r1,r2,r3,r4,r5,r6,r7):=by rw [if_pos rfl] at H;exact H
       clear H
       have H:=H1
       clear H1
       simp only [Option.some.injEq,Prod.mk.injEq] at H
       obtain ⟨rfl,rfl,rfl,rfl,rfl,rfl,rfl⟩:=H
       have hnb87:=NB320_317.out
       have hnc87:=NB317_320.out
       obtain ⟨_,_,_,_,_,_,_,_,_,_,_,_,_,_⟩:=g7_ BK320.out
       go_wp2_with (first|((with_reducible refine gate_callee (f:=20) rfl ?_);refine gl_ (some 76) rfl rfl Tryz.func20 (by kernel_rfl) rfl #[.string t319] rfl  ?_;(with_reducible refine (impl_TagOK.calls kj8 t319 true _ A85.out).mono ?_);rintro e w' ⟨rfl,⟨nd,rfl⟩⟩;refine ⟨_,rfl,?_⟩;(try (rw [drewN_self wc];generalize hq_:World.drewN wc _=wc;have n0_:Aside0 (Kd.R k52 52 wc w.heap.size (fun _=>True) u321005 x321005_8):=⟨by rw [←hq_];exact (rq_ HO_321005.out)⟩;have n1_:Aside0 (wc.heap[gb317]? = some (.cells #[.int .i64 x318000_8,.int .i64 x318001_8,.int .i64 x318002_8,.string x318003_8,.string x318004_8,.slice none 0 0,.bool x318006_8] 24 (0,0))):=⟨by rw [←hq_];exact (kq_ BK317.out)⟩;have n2_:Aside0 (wc.heap[gb320]? = some (.cells #[.int .i64 2,.int .i64 a1,.int .i64 0,.string t319,.string (⟨#[]⟩:ByteArray),u321005,.bool x321006_8] 24 (0,0))):=⟨by rw [←hq_];exact (kq_ BK320.out)⟩;have n3_:Aside0 (Below w.heap.size w wc):=⟨by rw [←hq_];exact (bq2_ HB.out GE317.out GE320.out)⟩;clear HO_321005 BK317 BK320 HB hq_;have HO_321005:=n0_;have BK317:=n1_;have BK320:=n2_;have HB:=n3_;clear n0_ n1_ n2_ n3_;obtain ⟨hcygb317_0,hcygb317_1,hcygb317_2,hcygb317_3,hcygb317_4,hcygb317_5,hcygb317_6,hfygb317_0,hfygb317_1,hfygb317_2,hfygb317_3,hfygb317_4,hfygb317_5,hfygb317_6⟩:=g7_ BK317.out;obtain ⟨hcygb320_0,hcygb320_1,hcygb320_2,hcygb320_3,hcygb320_4,hcygb320_5,hcygb320_6,hfygb320_0,hfygb320_1,hfygb320_2,hfygb320_3,hfygb320_4,hfygb320_5,hfygb320_6⟩:=g7_ BK320.out));obtain ⟨_,_,_,_,_,_,_,_,_,_,_,_,_,_⟩:=g7_ BK317.out;obtain ⟨Ao90,co90,eo90⟩:=Kd.R_slice HO_321005.out;subst eo90))
       refine bodyPost_ret (results_cell_row rfl _ _ gb317 24 #[.int .i64 2,.int .i64 a1,.int .i64 (wrap64 ((wrap64 (x5_8+1)) - a1)),.string t319,.string (⟨#[]⟩:ByteArray),.slice Ao90 x321005_8.length co90,.bool x321006_8] (0,0) _ rfl (by (with_reducible repeat first|apply kn_|apply kd_|apply ka_);apply p7_;(with_reducible repeat first|apply kn_|apply kd_|apply ka_);refine blk_far ?_ NB317_320.out _;(with_reducible repeat first|apply kn_|apply kd_|apply ka_);exact BK317.out) Tryz.underlying24 rfl (by kernel_rfl)) rfl ?_
       exact ⟨_,by first|rfl|(simp [errW_none,errW_some] <;> rfl)|(simp only [←hji4];first|rfl|(simp [errW_none,errW_some] <;> rfl))|(simp [*,errW_none,errW_some] <;> rfl),by (with_reducible repeat first|apply ra_|apply rn_|apply rd_);exact Kd.R_mono (f7_ (g:=gb317) (Kd.R_far (p:=⟨gb320,2,none⟩) (Kd.R_types (Kd.R_types HO_321005.out BK320.out (by decide)) BK317.out (by decide)) (fun _ hk=>hk.1.2) (.int .i64 (wrap64 ((wrap64 (x5_8+1)) - a1)))) (fun _ hk=>hk.2) (.int .i64 2) (.int .i64 a1) (.int .i64 (wrap64 ((wrap64 (x5_8+1)) - a1))) (.string t319) (.string (⟨#[]⟩:ByteArray)) (.slice Ao90 x321005_8.length co90) (.bool x321006_8)) (fun _ hk=>trivial),bq2_ HB.out GE317.out GE320.out⟩
      ·replace c86:=bm_ c86
       subst c86
       have H1:((impl_nothing.f a1 (wrap64 (x5_8+1))).bind fun bt356=>(some (bt356.1,bt356.2.1,bt356.2.2.1,bt356.2.2.2.1,bt356.2.2.2.2.1,bt356.2.2.2.2.2.1,bt356.2.2.2.2.2.2)))=some (r1,r2,r3,r4,r5,r6,r7):=by rw [if_neg (show ¬ (false=true) by decide)] at H;exact H
       clear H
       have H:=H1
       clear H1
       replace H:=ob_ H
       obtain ⟨⟨t356,t357,t358,t359,t360,t361,t364⟩,A910,H⟩:=H
       replace H:(some (t356,t357,t358,t359,t360,t361,t364))=some (r1,r2,r3,r4,r5,r6,r7):=H
       have A91:=A_ A910
       clear A910
       simp only [Option.some.injEq,Prod.mk.injEq] at H
       obtain ⟨rfl,rfl,rfl,rfl,rfl,rfl,rfl⟩:=H
       have hnb92:=NB320_317.out
       have hnc92:=NB317_320.out
       obtain ⟨_,_,_,_,_,_,_,_,_,_,_,_,_,_⟩:=g7_ BK320.out
       go_wp2_with (first|((with_reducible refine gate_callee (f:=20) rfl ?_);refine gl_ (some 76) rfl rfl Tryz.func20 (by kernel_rfl) rfl #[.string t319] rfl  ?_;(with_reducible refine (impl_TagOK.calls kj8 t319 false _ A85.out).mono ?_);rintro e w' ⟨rfl,⟨nd,rfl⟩⟩;refine ⟨_,rfl,?_⟩;(try (rw [drewN_self wc];generalize hq_:World.drewN wc _=wc;have n0_:Aside0 (Kd.R k52 52 wc w.heap.size (fun _=>True) u321005 x321005_8):=⟨by rw [←hq_];exact (rq_ HO_321005.out)⟩;have n1_:Aside0 (wc.heap[gb317]? = some (.cells #[.int .i64 x318000_8,.int .i64 x318001_8,.int .i64 x318002_8,.string x318003_8,.string x318004_8,.slice none 0 0,.bool x318006_8] 24 (0,0))):=⟨by rw [←hq_];exact (kq_ BK317.out)⟩;have n2_:Aside0 (wc.heap[gb320]? = some (.cells #[.int .i64 2,.int .i64 a1,.int .i64 0,.string t319,.string (⟨#[]⟩:ByteArray),u321005,.bool x321006_8] 24 (0,0))):=⟨by rw [←hq_];exact (kq_ BK320.out)⟩;have n3_:Aside0 (Below w.heap.size w wc):=⟨by rw [←hq_];exact (bq2_ HB.out GE317.out GE320.out)⟩;clear HO_321005 BK317 BK320 HB hq_;have HO_321005:=n0_;have BK317:=n1_;have BK320:=n2_;have HB:=n3_;clear n0_ n1_ n2_ n3_;obtain ⟨hcygb317_0,hcygb317_1,hcygb317_2,hcygb317_3,hcygb317_4,hcygb317_5,hcygb317_6,hfygb317_0,hfygb317_1,hfygb317_2,hfygb317_3,hfygb317_4,hfygb317_5,hfygb317_6⟩:=g7_ BK317.out;obtain ⟨hcygb320_0,hcygb320_1,hcygb320_2,hcygb320_3,hcygb320_4,hcygb320_5,hcygb320_6,hfygb320_0,hfygb320_1,hfygb320_2,hfygb320_3,hfygb320_4,hfygb320_5,hfygb320_6⟩:=g7_ BK320.out)))|((with_reducible refine gate_callee (f:=61) rfl ?_);refine gl_ (some 81) rfl rfl Tryz.func61 (by kernel_rfl) rfl #[.int .i64 a1,.int .i64 (wrap64 (x5_8+1))] rfl  ?_;(with_reducible refine (impl_nothing.calls a1 (wrap64 (x5_8+1)) t356 t357 t358 t359 t360 t361 t364 _ A91.out).mono ?_);rintro e w94 ⟨v362,rfl,ho0,hb⟩;refine ⟨_,rfl,?_⟩;have n0_:=A_ (Kd.R_elder' (rq_ HO_321005.out) (Kd.R_base ho0) hb);have n1_:=A_ (Kd.R_lower (Kd.R_new' ho0 (Kd.R_lt (rq_ HO_321005.out))) (bz_ (bq2_ HB.out GE317.out GE320.out)));have n2_:=A_ (kb_ (kq_ BK317.out) hb);have n3_:=A_ (kb_ (kq_ BK320.out) hb);have n4_:=A_ (bp_ (bq2_ HB.out GE317.out GE320.out) hb);clear HO_321005;clear BK317;clear BK320;clear HB;have HO_321005:=n0_;have HO363:=n1_;have BK317:=n2_;have BK320:=n3_;have HB:=n4_;clear n0_ n1_ n2_ n3_ n4_;(try clear hb);(try clear hb2);(try clear hk);(try clear hi);(try clear ho0);obtain ⟨_,_,_,_,_,_,_,_,_,_,_,_,_,_⟩:=g7_ BK317.out;obtain ⟨Ao96,co96,eo96⟩:=Kd.R_slice HO363.out;subst eo96))
       refine bodyPost_ret (results_cell_row rfl _ _ gb317 24 #[.int .i64 t356,.int .i64 t357,.int .i64 t358,.string t359,.string t360,.slice Ao96 t361.length co96,.bool t364] (0,0) _ rfl (by (with_reducible repeat first|apply kn_|apply kd_|apply ka_);exact p7_ (kq_ BK317.out)) Tryz.underlying24 rfl (by kernel_rfl)) rfl ?_
       exact ⟨_,by first|rfl|(simp [errW_none,errW_some] <;> rfl)|(simp only [←hji4];first|rfl|(simp [errW_none,errW_some] <;> rfl))|(simp [*,errW_none,errW_some] <;> rfl),by (with_reducible repeat first|apply ra_|apply rn_|apply rd_);exact Kd.R_mono (f7_ (g:=gb317) (Kd.R_types HO363.out BK317.out (by decide)) (fun _ hk=>hk.2) (.int .i64 t356) (.int .i64 t357) (.int .i64 t358) (.string t359) (.string t360) (.slice Ao96 t361.length co96) (.bool t364)) (fun _ hk=>trivial),bq2_ HB.out GE317.out GE320.out⟩
   ·rw [if_neg c7] at H
    exact absurd H (by simp)
  ·rw [if_neg c6] at H
   exact absurd H (by simp)
 ·rw [if_neg c5] at H
  exact absurd H (by simp)
end Go.Proofs.YtfkanlbmgbkniaaGreatDoor.PFnExactTokensOf
