/- The machine side of a law, printed by a program. No conditions. -/
import Derived.Test.YtfkanlbmgbkniaaGreatDoorPFnExactTokensOfx0
import Derived.Test.YtfkanlbmgbkniaaGreatDoorPFnExactTokensOfx12
import Derived.Test.YtfkanlbmgbkniaaGreatDoorPFnExactTokensOfx14
import Derived.Test.YtfkanlbmgbkniaaGreatDoorPFnExactTokensOfx15
namespace Go.Proofs.YtfkanlbmgbkniaaGreatDoor.PFnExactTokensOf
open Go.RowKit Go.Proofs.YtfkanlbmgbkniaaGreatDoorW.PrintWords Go.Proofs.YtfkanlbmgbkniaaGreatDoorW.PrintLast Go.Proofs.YtfkanlbmgbkniaaGreatDoorW.PrintMore
attribute [local go_sem] max2_int min2_int max_two min_two max_three min_three max_four min_four
set_option linter.unusedVariables false
set_option linter.unusedSimpArgs false
def strings_Index.f (a0 a1:ByteArray):Option Int:=if a0.size≤1048576 then some (Lib.index a0.data.toList a1.data.toList) else none
theorem strings_Index.calls (a0:ByteArray) (a1:ByteArray) (r:Int) (w:World) (hL:Laid w) (h:strings_Index.f a0 a1=some r) :
 Calls Tryz.prog 75 #[.string a0,.string a1] w fun e w'=>e=.returned (.int .i64 r)∧Drawn0 w w':=by
 unfold strings_Index.f at h
 obtain ⟨h1,h⟩:=Option.ite_none_right_eq_some.mp h
 obtain rfl:=oi_ h
 obtain ⟨⟨m,hm⟩,-,-⟩:=hL
 exact (Tryz.strings_Index a0 a1 m w (by omega) hm).mono fun e w' ⟨he,hw⟩=>⟨he,⟨0,hw⟩⟩
def impl_endOf.f (a0:ByteArray) (a1:Int) (a2:ByteArray):Option (Int × Int):=if a1>(a0.size:Int) then (some ((a0.size:Int),(a0.size:Int))) else (if 0≤a1 then (if a1≤(a0.size:Int) then ((strings_Index.f (a0.extract (a1:Int).toNat a0.size) a2).bind fun t365=>(if t365<0 then (some ((a0.size:Int),(a0.size:Int))) else (some (wrap64 (a1+t365),wrap64 ((wrap64 (a1+t365))+(a2.size:Int)))))) else (none)) else (none))
set_option maxHeartbeats 8000000 in
set_option maxRecDepth 100000 in
theorem impl_endOf.calls (a0:ByteArray) (a1:Int) (a2:ByteArray) (r1:Int) (r2:Int) (w:World) (hL:Laid w) (h:impl_endOf.f a0 a1 a2=some (r1,r2)) :
 Calls Tryz.prog 65 #[.string a0,.int .i64 a1,.string a2] w fun e w'=>e=.returned (.tuple #[.int .i64 r1,.int .i64 r2])∧Drawn0 w w':=by
 have HB:=A_ (Below.refl w.heap.size w)
 have HL:=A_ hL
 clear hL
 have H:(if a1>(a0.size:Int) then (some ((a0.size:Int),(a0.size:Int))) else (if 0≤a1 then (if a1≤(a0.size:Int) then ((strings_Index.f (a0.extract (a1:Int).toNat a0.size) a2).bind fun t365=>(if t365<0 then (some ((a0.size:Int),(a0.size:Int))) else (some (wrap64 (a1+t365),wrap64 ((wrap64 (a1+t365))+(a2.size:Int)))))) else (none)) else (none)))=some (r1,r2):=h
 clear h
 by_cases c4:a1>(a0.size:Int)
 ·rw [if_pos c4] at H
  have c4b0:decide ((a0.size:Int)<a1)=true:=dt_ c4
  clear c4
  simp only [Option.some.injEq,Prod.mk.injEq] at H
  obtain ⟨rfl,rfl⟩:=H
  go_enter Tryz.func65,Tryz.ntmps65
  go_wp2
  go_ret2
  exact ⟨by first|rfl|(simp;done)|(simp [*];done),by repeat (first|exact dr_ _|apply dp_)⟩
 ·rw [if_neg c4] at H
  have c4b0:decide ((a0.size:Int)<a1)=false:=df_ c4
  clear c4
  by_cases c5:0≤a1
  ·rw [if_pos c5] at H
   have c5b0:=eq_true c5
   have c5b1:decide (0≤a1)=true:=dt_ c5
   clear c5
   by_cases c6:a1≤(a0.size:Int)
   ·rw [if_pos c6] at H
    have c6b0:=eq_true c6
    have c6b1:decide (a1≤(a0.size:Int))=true:=dt_ c6
    clear c6
    replace H:=ob_ H
    obtain ⟨t365,A70,H⟩:=H
    replace H:(if t365<0 then (some ((a0.size:Int),(a0.size:Int))) else (some (wrap64 (a1+t365),wrap64 ((wrap64 (a1+t365))+(a2.size:Int)))))=some (r1,r2):=H
    have A7:=A_ A70
    clear A70
    by_cases c8:t365<0
    ·rw [if_pos c8] at H
     have c8b0:decide (t365<0)=true:=dt_ c8
     clear c8
     simp only [Option.some.injEq,Prod.mk.injEq] at H
     obtain ⟨rfl,rfl⟩:=H
     go_enter Tryz.func65,Tryz.ntmps65
     go_wp2_with (first|((with_reducible refine gate_callee (f:=75) rfl ?_);refine gl_ (some 21) rfl rfl Tryz.func75 (by kernel_rfl) rfl #[.string (a0.extract (a1:Int).toNat a0.size),.string a2] rfl  ?_;(with_reducible refine (strings_Index.calls (a0.extract (a1:Int).toNat a0.size) a2 t365 _ ?sideL A7.out).mono ?_);(case sideL=>exact HL.out.below (bq0_ HB.out));rintro e w' ⟨rfl,⟨nd,rfl⟩⟩;refine ⟨_,rfl,?_⟩))
     go_ret2
     exact ⟨by first|rfl|(simp;done)|(simp [*];done),by repeat (first|exact dr_ _|apply dp_)⟩
    ·rw [if_neg c8] at H
     have c8b0:decide (t365<0)=false:=df_ c8
     clear c8
     simp only [Option.some.injEq,Prod.mk.injEq] at H
     obtain ⟨rfl,rfl⟩:=H
     go_enter Tryz.func65,Tryz.ntmps65
     go_wp2_with (first|((with_reducible refine gate_callee (f:=75) rfl ?_);refine gl_ (some 21) rfl rfl Tryz.func75 (by kernel_rfl) rfl #[.string (a0.extract (a1:Int).toNat a0.size),.string a2] rfl  ?_;(with_reducible refine (strings_Index.calls (a0.extract (a1:Int).toNat a0.size) a2 t365 _ ?sideL A7.out).mono ?_);(case sideL=>exact HL.out.below (bq0_ HB.out));rintro e w' ⟨rfl,⟨nd,rfl⟩⟩;refine ⟨_,rfl,?_⟩))
     go_ret2
     exact ⟨by first|rfl|(simp;done)|(simp [*];done),by repeat (first|exact dr_ _|apply dp_)⟩
   ·rw [if_neg c6] at H
    exact absurd H (by simp)
  ·rw [if_neg c5] at H
   exact absurd H (by simp)
def impl_closes.f (k:Nat) (a0:ByteArray) (a1:Int):Option (Int × Int × Int × ByteArray × ByteArray × (List (S52)) × Bool):=(impl_upTo.f k a0 (wrap64 (a1+2)) (⟨#[32,9,10,12,13,47,62]⟩:ByteArray)).bind fun t367=>(if 0≤(wrap64 (a1+2)) then (if (wrap64 (a1+2))≤t367 then (if t367≤(a0.size:Int) then ((impl_lower.f (a0.extract ((wrap64 (a1+2)):Int).toNat (t367:Int).toNat)).bind fun t368=>((impl_endOf.f a0 t367 (⟨#[62]⟩:ByteArray)).bind fun bt369=>(if bt369.1=bt369.2 then ((impl_nothing.f a1 bt369.2).bind fun bt371=>(some (bt371.1,bt371.2.1,bt371.2.2.1,bt371.2.2.2.1,bt371.2.2.2.2.1,bt371.2.2.2.2.2.1,bt371.2.2.2.2.2.2))) else ((impl_TagOK.f k t368).bind fun t380=>(if t380=true then (some (3,a1,wrap64 (bt369.2 - a1),t368,(⟨#[]⟩:ByteArray),([]:List (S52)),false)) else ((impl_nothing.f a1 bt369.2).bind fun bt381=>(some (bt381.1,bt381.2.1,bt381.2.2.1,bt381.2.2.2.1,bt381.2.2.2.2.1,bt381.2.2.2.2.2.1,bt381.2.2.2.2.2.2)))))))) else (none)) else (none)) else (none))
theorem impl_closes.mono:∀ a0 a1 k,LeO (impl_closes.f k a0 a1) (impl_closes.f (k+1) a0 a1):=by
 intro a0 a1 k
 unfold impl_closes.f
 repeat' first|(with_reducible first|exact impl_TagOK.mono ..|exact impl_upTo.mono ..|exact LeO.refl _|exact LeO.none _|refine LeO.ite ?_ ?_|refine LeO.bind ?_ (fun _=>?_))|exact LeO.none _|refine LeO.ite ?_ ?_|refine LeO.bind ?_ (fun _=>?_)
set_option maxHeartbeats 8000000 in
set_option maxRecDepth 100000 in
theorem impl_closes.calls (k:Nat) (a0:ByteArray) (a1:Int) (r1:Int) (r2:Int) (r3:Int) (r4:ByteArray) (r5:ByteArray) (r6:List (S52)) (r7:Bool) (w:World) (hL:Laid w) (h:impl_closes.f k a0 a1=some (r1,r2,r3,r4,r5,r6,r7)) :
 Calls Tryz.prog 42 #[.string a0,.int .i64 a1] w fun e w'=>∃ v5_:Value,e=.returned (.agg #[.int .i64 r1,.int .i64 r2,.int .i64 r3,.string r4,.string r5,v5_,.bool r7])∧Kd.R k52 52 w' w.heap.size (fun _=>True) v5_ r6∧Below w.heap.size w w':=by
 have hu24:=Tryz.underlying24
 have HB:=A_ (Below.refl w.heap.size w)
 have HL:=A_ hL
 clear hL
 have H:((impl_upTo.f k a0 (wrap64 (a1+2)) (⟨#[32,9,10,12,13,47,62]⟩:ByteArray)).bind fun t367=>(if 0≤(wrap64 (a1+2)) then (if (wrap64 (a1+2))≤t367 then (if t367≤(a0.size:Int) then ((impl_lower.f (a0.extract ((wrap64 (a1+2)):Int).toNat (t367:Int).toNat)).bind fun t368=>((impl_endOf.f a0 t367 (⟨#[62]⟩:ByteArray)).bind fun bt369=>(if bt369.1=bt369.2 then ((impl_nothing.f a1 bt369.2).bind fun bt371=>(some (bt371.1,bt371.2.1,bt371.2.2.1,bt371.2.2.2.1,bt371.2.2.2.2.1,bt371.2.2.2.2.2.1,bt371.2.2.2.2.2.2))) else ((impl_TagOK.f k t368).bind fun t380=>(if t380=true then (some (3,a1,wrap64 (bt369.2 - a1),t368,(⟨#[]⟩:ByteArray),([]:List (S52)),false)) else ((impl_nothing.f a1 bt369.2).bind fun bt381=>(some (bt381.1,bt381.2.1,bt381.2.2.1,bt381.2.2.2.1,bt381.2.2.2.2.1,bt381.2.2.2.2.2.1,bt381.2.2.2.2.2.2)))))))) else (none)) else (none)) else (none)))=some (r1,r2,r3,r4,r5,r6,r7):=h
 clear h
 replace H:=ob_ H
 obtain ⟨t367,A30,H⟩:=H
 replace H:(if 0≤(wrap64 (a1+2)) then (if (wrap64 (a1+2))≤t367 then (if t367≤(a0.size:Int) then ((impl_lower.f (a0.extract ((wrap64 (a1+2)):Int).toNat (t367:Int).toNat)).bind fun t368=>((impl_endOf.f a0 t367 (⟨#[62]⟩:ByteArray)).bind fun bt369=>(if bt369.1=bt369.2 then ((impl_nothing.f a1 bt369.2).bind fun bt371=>(some (bt371.1,bt371.2.1,bt371.2.2.1,bt371.2.2.2.1,bt371.2.2.2.2.1,bt371.2.2.2.2.2.1,bt371.2.2.2.2.2.2))) else ((impl_TagOK.f k t368).bind fun t380=>(if t380=true then (some (3,a1,wrap64 (bt369.2 - a1),t368,(⟨#[]⟩:ByteArray),([]:List (S52)),false)) else ((impl_nothing.f a1 bt369.2).bind fun bt381=>(some (bt381.1,bt381.2.1,bt381.2.2.1,bt381.2.2.2.1,bt381.2.2.2.2.1,bt381.2.2.2.2.2.1,bt381.2.2.2.2.2.2)))))))) else (none)) else (none)) else (none))=some (r1,r2,r3,r4,r5,r6,r7):=H
 have A3:=A_ A30
 clear A30
 obtain ⟨ji4,hji4⟩:∃ j_:Int,(wrap64 (a1+2))=j_:=⟨_,rfl⟩
 replace H:(if 0≤(ji4) then (if (ji4)≤t367 then (if t367≤(a0.size:Int) then ((impl_lower.f (a0.extract ((ji4):Int).toNat (t367:Int).toNat)).bind fun t368=>((impl_endOf.f a0 t367 (⟨#[62]⟩:ByteArray)).bind fun bt369=>(if bt369.1=bt369.2 then ((impl_nothing.f a1 bt369.2).bind fun bt371=>(some (bt371.1,bt371.2.1,bt371.2.2.1,bt371.2.2.2.1,bt371.2.2.2.2.1,bt371.2.2.2.2.2.1,bt371.2.2.2.2.2.2))) else ((impl_TagOK.f k t368).bind fun t380=>(if t380=true then (some (3,a1,wrap64 (bt369.2 - a1),t368,(⟨#[]⟩:ByteArray),([]:List (S52)),false)) else ((impl_nothing.f a1 bt369.2).bind fun bt381=>(some (bt381.1,bt381.2.1,bt381.2.2.1,bt381.2.2.2.1,bt381.2.2.2.2.1,bt381.2.2.2.2.2.1,bt381.2.2.2.2.2.2)))))))) else (none)) else (none)) else (none))=some (r1,r2,r3,r4,r5,r6,r7):=by first|(rw [hji4] at H;exact H)|(simp only [hji4] at H ⊢;exact H)
 (try rw [hji4] at A3)
 have hji4w:(IntKind.i64.wrap (a1+2))=ji4:=(i64_w _).trans hji4
 by_cases c5:0≤(ji4)
 ·rw [if_pos c5] at H
  have c5b0:=eq_true c5
  have c5b1:decide (0≤(ji4))=true:=dt_ c5
  clear c5
  by_cases c6:(ji4)≤t367
  ·rw [if_pos c6] at H
   have c6b0:=eq_true c6
   have c6b1:decide ((ji4)≤t367)=true:=dt_ c6
   clear c6
   by_cases c7:t367≤(a0.size:Int)
   ·rw [if_pos c7] at H
    have c7b0:=eq_true c7
    have c7b1:decide (t367≤(a0.size:Int))=true:=dt_ c7
    clear c7
    replace H:=ob_ H
    obtain ⟨t368,A80,H⟩:=H
    replace H:((impl_endOf.f a0 t367 (⟨#[62]⟩:ByteArray)).bind fun bt369=>(if bt369.1=bt369.2 then ((impl_nothing.f a1 bt369.2).bind fun bt371=>(some (bt371.1,bt371.2.1,bt371.2.2.1,bt371.2.2.2.1,bt371.2.2.2.2.1,bt371.2.2.2.2.2.1,bt371.2.2.2.2.2.2))) else ((impl_TagOK.f k t368).bind fun t380=>(if t380=true then (some (3,a1,wrap64 (bt369.2 - a1),t368,(⟨#[]⟩:ByteArray),([]:List (S52)),false)) else ((impl_nothing.f a1 bt369.2).bind fun bt381=>(some (bt381.1,bt381.2.1,bt381.2.2.1,bt381.2.2.2.1,bt381.2.2.2.2.1,bt381.2.2.2.2.2.1,bt381.2.2.2.2.2.2)))))))=some (r1,r2,r3,r4,r5,r6,r7):=H
    have A8:=A_ A80
    clear A80
    replace H:=ob_ H
    obtain ⟨⟨t369,t370⟩,A90,H⟩:=H
    replace H:(if t369=t370 then ((impl_nothing.f a1 t370).bind fun bt371=>(some (bt371.1,bt371.2.1,bt371.2.2.1,bt371.2.2.2.1,bt371.2.2.2.2.1,bt371.2.2.2.2.2.1,bt371.2.2.2.2.2.2))) else ((impl_TagOK.f k t368).bind fun t380=>(if t380=true then (some (3,a1,wrap64 (t370 - a1),t368,(⟨#[]⟩:ByteArray),([]:List (S52)),false)) else ((impl_nothing.f a1 t370).bind fun bt381=>(some (bt381.1,bt381.2.1,bt381.2.2.1,bt381.2.2.2.1,bt381.2.2.2.2.1,bt381.2.2.2.2.2.1,bt381.2.2.2.2.2.2))))))=some (r1,r2,r3,r4,r5,r6,r7):=H
    have A9:=A_ A90
    clear A90
    by_cases c10:t369=t370
    ·rw [if_pos c10] at H
     have c10b0:(t369 == t370)=true:=beq_iff_eq.mpr c10
     have c10b1:(t369 != t370)=false:=bne_eq_false_iff_eq.mpr c10
     clear c10
     replace H:=ob_ H
     obtain ⟨⟨t371,t372,t373,t374,t375,t376,t379⟩,A110,H⟩:=H
     replace H:(some (t371,t372,t373,t374,t375,t376,t379))=some (r1,r2,r3,r4,r5,r6,r7):=H
     have A11:=A_ A110
     clear A110
     simp only [Option.some.injEq,Prod.mk.injEq] at H
     obtain ⟨rfl,rfl,rfl,rfl,rfl,rfl,rfl⟩:=H
     go_enter Tryz.func42,Tryz.ntmps42
     go_wp2_with (first|((with_reducible refine gate_dst (N:=4) rfl ?_);refine box_event ?hg (N:=4) ?hd (cs:=#[.int .i64 0,.int .i64 0,.int .i64 0,.string (⟨#[]⟩:ByteArray),.string (⟨#[]⟩:ByteArray),.slice none 0 0,.bool false]) (t:=24) ?hr ?_;(case hd=>rfl);(case hg=>rfl);(case hr=>first|(go_simp;done)|(go_simp;rfl)|(first|(go_simp;done)|(go_simp;rfl)));intro gb366 hg w12 hbox hb;have n0_:=A_ (bp_ (bq0_ HB.out) hb);have n1_:=A_ (hbox);have n2_:=A_ ((by rw [hg];exact (bz_ (bq0_ HB.out)):w.heap.size≤gb366));have n3_:=A_ ((by rw [hg];exact (bz_ (bq0_ HB.out)):w.heap.size≤gb366));clear HB;have HB:=n0_;have BK366:=n1_;have GW366:=n2_;have GE366:=n3_;clear n0_ n1_ n2_ n3_;clear hb hbox hg)|((with_reducible refine gate_callee (f:=45) rfl ?_);refine goesL_ (some 12) rfl rfl Tryz.func45 (by kernel_rfl) rfl #[.string a0,.int .i64 ji4,.string (⟨#[32,9,10,12,13,47,62]⟩:ByteArray)] rfl (by (try simp only [List.map_toArray,List.map_cons,List.map_nil]);first|done|(simp only [hji4];rfl)|rfl|(simp only [ld_,lt_];rfl)) ?_;(with_reducible refine (impl_upTo.calls k a0 ji4 (⟨#[32,9,10,12,13,47,62]⟩:ByteArray) t367 _ A3.out).mono ?_);rintro e w' ⟨rfl,⟨nd,rfl⟩⟩;refine ⟨_,rfl,?_⟩;(try (rw [drewN_self w12];generalize hq_:World.drewN w12 _=w12;have n0_:Aside0 (w12.heap[gb366]? = some (.cells #[.int .i64 0,.int .i64 0,.int .i64 0,.string (⟨#[]⟩:ByteArray),.string (⟨#[]⟩:ByteArray),.slice none 0 0,.bool false] 24 (0,0))):=⟨by rw [←hq_];exact (kq_ BK366.out)⟩;have n1_:Aside0 (Below w.heap.size w w12):=⟨by rw [←hq_];exact (bq1_ HB.out GE366.out)⟩;clear BK366 HB hq_;have BK366:=n0_;have HB:=n1_;clear n0_ n1_;obtain ⟨hcygb366_0,hcygb366_1,hcygb366_2,hcygb366_3,hcygb366_4,hcygb366_5,hcygb366_6,hfygb366_0,hfygb366_1,hfygb366_2,hfygb366_3,hfygb366_4,hfygb366_5,hfygb366_6⟩:=g7_ BK366.out)))|((with_reducible refine gate_callee (f:=58) rfl ?_);refine goesL_ (some 18) rfl rfl Tryz.func58 (by kernel_rfl) rfl #[.string (a0.extract ((ji4):Int).toNat (t367:Int).toNat)] rfl (by (try simp only [List.map_toArray,List.map_cons,List.map_nil]);first|done|(simp only [hji4];rfl)|rfl|(simp only [ld_,lt_];rfl)) ?_;(with_reducible refine (impl_lower.calls (a0.extract ((ji4):Int).toNat (t367:Int).toNat) t368 _ A8.out).mono ?_);rintro e w13 ⟨rfl,hb⟩;refine ⟨_,rfl,?_⟩;have n0_:=A_ (kb_ (kq_ BK366.out) hb);have n1_:=A_ (bp_ (bq1_ HB.out GE366.out) hb);clear BK366;clear HB;have BK366:=n0_;have HB:=n1_;clear n0_ n1_;(try clear hb);(try clear hb2);(try clear hk);(try clear hi))|((with_reducible refine gate_callee (f:=65) rfl ?_);refine gl_ (some 22) rfl rfl Tryz.func65 (by kernel_rfl) rfl #[.string a0,.int .i64 t367,.string (⟨#[62]⟩:ByteArray)] rfl  ?_;(with_reducible refine (impl_endOf.calls a0 t367 (⟨#[62]⟩:ByteArray) t369 t370 _ ?sideL A9.out).mono ?_);(case sideL=>exact HL.out.below (bq0_ HB.out));rintro e w' ⟨rfl,⟨nd,rfl⟩⟩;refine ⟨_,rfl,?_⟩;(try (rw [drewN_self w13];generalize hq_:World.drewN w13 _=w13;have n0_:Aside0 (w13.heap[gb366]? = some (.cells #[.int .i64 0,.int .i64 0,.int .i64 0,.string (⟨#[]⟩:ByteArray),.string (⟨#[]⟩:ByteArray),.slice none 0 0,.bool false] 24 (0,0))):=⟨by rw [←hq_];exact (kq_ BK366.out)⟩;have n1_:Aside0 (Below w.heap.size w w13):=⟨by rw [←hq_];exact (bq1_ HB.out GE366.out)⟩;clear BK366 HB hq_;have BK366:=n0_;have HB:=n1_;clear n0_ n1_;obtain ⟨hcygb366_0,hcygb366_1,hcygb366_2,hcygb366_3,hcygb366_4,hcygb366_5,hcygb366_6,hfygb366_0,hfygb366_1,hfygb366_2,hfygb366_3,hfygb366_4,hfygb366_5,hfygb366_6⟩:=g7_ BK366.out)))|((with_reducible refine gate_callee (f:=61) rfl ?_);refine gl_ (some 35) rfl rfl Tryz.func61 (by kernel_rfl) rfl #[.int .i64 a1,.int .i64 t370] rfl  ?_;(with_reducible refine (impl_nothing.calls a1 t370 t371 t372 t373 t374 t375 t376 t379 _ A11.out).mono ?_);rintro e w14 ⟨v377,rfl,ho0,hb⟩;refine ⟨_,rfl,?_⟩;have n0_:=A_ (Kd.R_lower ho0 (bz_ (bq1_ HB.out GE366.out)));have n1_:=A_ (kb_ (kq_ BK366.out) hb);have n2_:=A_ (bp_ (bq1_ HB.out GE366.out) hb);clear BK366;clear HB;have HO378:=n0_;have BK366:=n1_;have HB:=n2_;clear n0_ n1_ n2_;(try clear hb);(try clear hb2);(try clear hk);(try clear hi);(try clear ho0);obtain ⟨_,_,_,_,_,_,_,_,_,_,_,_,_,_⟩:=g7_ BK366.out;obtain ⟨Ao16,co16,eo16⟩:=Kd.R_slice HO378.out;subst eo16))
     refine bodyPost_ret (results_cell_row rfl _ _ gb366 24 #[.int .i64 t371,.int .i64 t372,.int .i64 t373,.string t374,.string t375,.slice Ao16 t376.length co16,.bool t379] (0,0) _ rfl (by (with_reducible repeat first|apply kn_|apply kd_|apply ka_);exact p7_ (kq_ BK366.out)) Tryz.underlying24 rfl (by kernel_rfl)) rfl ?_
     exact ⟨_,by first|rfl|(simp [errW_none,errW_some] <;> rfl)|(simp only [←hji4];first|rfl|(simp [errW_none,errW_some] <;> rfl))|(simp [*,errW_none,errW_some] <;> rfl),by (with_reducible repeat first|apply ra_|apply rn_|apply rd_);exact Kd.R_mono (f7_ (g:=gb366) (Kd.R_types HO378.out BK366.out (by decide)) (fun _ hk=>hk.2) (.int .i64 t371) (.int .i64 t372) (.int .i64 t373) (.string t374) (.string t375) (.slice Ao16 t376.length co16) (.bool t379)) (fun _ hk=>trivial),bq1_ HB.out GE366.out⟩
    ·rw [if_neg c10] at H
     have c10b0:(t369 == t370)=false:=beq_eq_false_iff_ne.mpr c10
     have c10b1:(t369 != t370)=true:=bne_iff_ne.mpr c10
     replace H:=ob_ H
     obtain ⟨t380,A170,H⟩:=H
     replace H:(if t380=true then (some (3,a1,wrap64 (t370 - a1),t368,(⟨#[]⟩:ByteArray),([]:List (S52)),false)) else ((impl_nothing.f a1 t370).bind fun bt381=>(some (bt381.1,bt381.2.1,bt381.2.2.1,bt381.2.2.2.1,bt381.2.2.2.2.1,bt381.2.2.2.2.2.1,bt381.2.2.2.2.2.2))))=some (r1,r2,r3,r4,r5,r6,r7):=H
     have A17:=A_ A170
     clear A170
     by_cases c18:t380=true
     ·subst c18
      have H1:(some (3,a1,wrap64 (t370 - a1),t368,(⟨#[]⟩:ByteArray),([]:List (S52)),false))=some (r1,r2,r3,r4,r5,r6,r7):=by rw [if_pos rfl] at H;exact H
      clear H
      have H:=H1
      clear H1
      simp only [Option.some.injEq,Prod.mk.injEq] at H
      obtain ⟨rfl,rfl,rfl,rfl,rfl,rfl,rfl⟩:=H
      go_enter Tryz.func42,Tryz.ntmps42
      go_wp2_with (first|((with_reducible refine gate_dst (N:=4) rfl ?_);refine box_event ?hg (N:=4) ?hd (cs:=#[.int .i64 0,.int .i64 0,.int .i64 0,.string (⟨#[]⟩:ByteArray),.string (⟨#[]⟩:ByteArray),.slice none 0 0,.bool false]) (t:=24) ?hr ?_;(case hd=>rfl);(case hg=>rfl);(case hr=>first|(go_simp;done)|(go_simp;rfl)|((first|(obtain ⟨_,_,rfl⟩:=Kd.R_slice HO378.out)|(obtain ⟨_,_,rfl⟩:=Kd.S_slice HO378.out)|skip);first|(go_simp;done)|(go_simp;rfl)));intro gb366 hg w19 hbox hb;have n0_:=A_ (bp_ (bq0_ HB.out) hb);have n1_:=A_ (hbox);have n2_:=A_ ((by rw [hg];exact (bz_ (bq0_ HB.out)):w.heap.size≤gb366));have n3_:=A_ ((by rw [hg];exact (bz_ (bq0_ HB.out)):w.heap.size≤gb366));clear HB;have HB:=n0_;have BK366:=n1_;have GW366:=n2_;have GE366:=n3_;clear n0_ n1_ n2_ n3_;clear hb hbox hg)|((with_reducible refine gate_callee (f:=45) rfl ?_);refine goesL_ (some 12) rfl rfl Tryz.func45 (by kernel_rfl) rfl #[.string a0,.int .i64 ji4,.string (⟨#[32,9,10,12,13,47,62]⟩:ByteArray)] rfl (by (try simp only [List.map_toArray,List.map_cons,List.map_nil]);first|done|(simp only [hji4];rfl)|rfl|(simp only [ld_,lt_];rfl)) ?_;(with_reducible refine (impl_upTo.calls k a0 ji4 (⟨#[32,9,10,12,13,47,62]⟩:ByteArray) t367 _ A3.out).mono ?_);rintro e w' ⟨rfl,⟨nd,rfl⟩⟩;refine ⟨_,rfl,?_⟩;(try (rw [drewN_self w19];generalize hq_:World.drewN w19 _=w19;have n0_:Aside0 (w19.heap[gb366]? = some (.cells #[.int .i64 0,.int .i64 0,.int .i64 0,.string (⟨#[]⟩:ByteArray),.string (⟨#[]⟩:ByteArray),.slice none 0 0,.bool false] 24 (0,0))):=⟨by rw [←hq_];exact (kq_ BK366.out)⟩;have n1_:Aside0 (Below w.heap.size w w19):=⟨by rw [←hq_];exact (bq1_ HB.out GE366.out)⟩;clear BK366 HB hq_;have BK366:=n0_;have HB:=n1_;clear n0_ n1_;obtain ⟨hcygb366_0,hcygb366_1,hcygb366_2,hcygb366_3,hcygb366_4,hcygb366_5,hcygb366_6,hfygb366_0,hfygb366_1,hfygb366_2,hfygb366_3,hfygb366_4,hfygb366_5,hfygb366_6⟩:=g7_ BK366.out)))|((with_reducible refine gate_callee (f:=58) rfl ?_);refine goesL_ (some 18) rfl rfl Tryz.func58 (by kernel_rfl) rfl #[.string (a0.extract ((ji4):Int).toNat (t367:Int).toNat)] rfl (by (try simp only [List.map_toArray,List.map_cons,List.map_nil]);first|done|(simp only [hji4];rfl)|rfl|(simp only [ld_,lt_];rfl)) ?_;(with_reducible refine (impl_lower.calls (a0.extract ((ji4):Int).toNat (t367:Int).toNat) t368 _ A8.out).mono ?_);rintro e w20 ⟨rfl,hb⟩;refine ⟨_,rfl,?_⟩;have n0_:=A_ (kb_ (kq_ BK366.out) hb);have n1_:=A_ (bp_ (bq1_ HB.out GE366.out) hb);clear BK366;clear HB;have BK366:=n0_;have HB:=n1_;clear n0_ n1_;(try clear hb);(try clear hb2);(try clear hk);(try clear hi))|((with_reducible refine gate_callee (f:=65) rfl ?_);refine gl_ (some 22) rfl rfl Tryz.func65 (by kernel_rfl) rfl #[.string a0,.int .i64 t367,.string (⟨#[62]⟩:ByteArray)] rfl  ?_;(with_reducible refine (impl_endOf.calls a0 t367 (⟨#[62]⟩:ByteArray) t369 t370 _ ?sideL A9.out).mono ?_);(case sideL=>exact HL.out.below (bq0_ HB.out));rintro e w' ⟨rfl,⟨nd,rfl⟩⟩;refine ⟨_,rfl,?_⟩;(try (rw [drewN_self w20];generalize hq_:World.drewN w20 _=w20;have n0_:Aside0 (w20.heap[gb366]? = some (.cells #[.int .i64 0,.int .i64 0,.int .i64 0,.string (⟨#[]⟩:ByteArray),.string (⟨#[]⟩:ByteArray),.slice none 0 0,.bool false] 24 (0,0))):=⟨by rw [←hq_];exact (kq_ BK366.out)⟩;have n1_:Aside0 (Below w.heap.size w w20):=⟨by rw [←hq_];exact (bq1_ HB.out GE366.out)⟩;clear BK366 HB hq_;have BK366:=n0_;have HB:=n1_;clear n0_ n1_;obtain ⟨hcygb366_0,hcygb366_1,hcygb366_2,hcygb366_3,hcygb366_4,hcygb366_5,hcygb366_6,hfygb366_0,hfygb366_1,hfygb366_2,hfygb366_3,hfygb366_4,hfygb366_5,hfygb366_6⟩:=g7_ BK366.out)))|(go_at_call 20;(with_reducible refine (impl_TagOK.calls k t368 true _ A17.out).mono ?_);rintro e w' ⟨rfl,⟨nd,rfl⟩⟩;(try (rw [drewN_self w20];generalize hq_:World.drewN w20 _=w20;have n0_:Aside0 (w20.heap[gb366]? = some (.cells #[.int .i64 0,.int .i64 0,.int .i64 0,.string (⟨#[]⟩:ByteArray),.string (⟨#[]⟩:ByteArray),.slice none 0 0,.bool false] 24 (0,0))):=⟨by rw [←hq_];exact (kq_ BK366.out)⟩;have n1_:Aside0 (Below w.heap.size w w20):=⟨by rw [←hq_];exact (bq1_ HB.out GE366.out)⟩;clear BK366 HB hq_;have BK366:=n0_;have HB:=n1_;clear n0_ n1_;obtain ⟨hcygb366_0,hcygb366_1,hcygb366_2,hcygb366_3,hcygb366_4,hcygb366_5,hcygb366_6,hfygb366_0,hfygb366_1,hfygb366_2,hfygb366_3,hfygb366_4,hfygb366_5,hfygb366_6⟩:=g7_ BK366.out));obtain ⟨_,_,_,_,_,_,_,_,_,_,_,_,_,_⟩:=g7_ BK366.out))
      refine bodyPost_ret (results_cell_row rfl _ _ gb366 24 #[.int .i64 3,.int .i64 a1,.int .i64 (wrap64 (t370 - a1)),.string t368,.string (⟨#[]⟩:ByteArray),.slice none 0 0,.bool false] (0,0) _ rfl (by (with_reducible repeat first|apply kn_|apply kd_|apply ka_);exact p7_ (kq_ BK366.out)) Tryz.underlying24 rfl (by kernel_rfl)) rfl ?_
      exact ⟨_,by first|rfl|(simp [errW_none,errW_some] <;> rfl)|(simp only [←hji4];first|rfl|(simp [errW_none,errW_some] <;> rfl))|(simp [*,errW_none,errW_some] <;> rfl),by first|exact Kd.R_nil _ _ _ _ _|exact Kd.N_nil _ _ _ _ _|exact Kd.V_nil _ _ _ _ _|exact Kd.Q_nil _ _ _ _ _|exact Kd.S_nil _ _ _ _ _,bq1_ HB.out GE366.out⟩
     ·replace c18:=bm_ c18
      subst c18
      have H1:((impl_nothing.f a1 t370).bind fun bt381=>(some (bt381.1,bt381.2.1,bt381.2.2.1,bt381.2.2.2.1,bt381.2.2.2.2.1,bt381.2.2.2.2.2.1,bt381.2.2.2.2.2.2)))=some (r1,r2,r3,r4,r5,r6,r7):=by rw [if_neg (show ¬ (false=true) by decide)] at H;exact H
      clear H
      have H:=H1
      clear H1
      replace H:=ob_ H
      obtain ⟨⟨t381,t382,t383,t384,t385,t386,t389⟩,A220,H⟩:=H
      replace H:(some (t381,t382,t383,t384,t385,t386,t389))=some (r1,r2,r3,r4,r5,r6,r7):=H
      have A22:=A_ A220
      clear A220
      simp only [Option.some.injEq,Prod.mk.injEq] at H
      obtain ⟨rfl,rfl,rfl,rfl,rfl,rfl,rfl⟩:=H
      go_enter Tryz.func42,Tryz.ntmps42
      go_wp2_with (first|((with_reducible refine gate_dst (N:=4) rfl ?_);refine box_event ?hg (N:=4) ?hd (cs:=#[.int .i64 0,.int .i64 0,.int .i64 0,.string (⟨#[]⟩:ByteArray),.string (⟨#[]⟩:ByteArray),.slice none 0 0,.bool false]) (t:=24) ?hr ?_;(case hd=>rfl);(case hg=>rfl);(case hr=>first|(go_simp;done)|(go_simp;rfl)|((first|(obtain ⟨_,_,rfl⟩:=Kd.R_slice HO378.out)|(obtain ⟨_,_,rfl⟩:=Kd.S_slice HO378.out)|skip);first|(go_simp;done)|(go_simp;rfl)));intro gb366 hg w23 hbox hb;have n0_:=A_ (bp_ (bq0_ HB.out) hb);have n1_:=A_ (hbox);have n2_:=A_ ((by rw [hg];exact (bz_ (bq0_ HB.out)):w.heap.size≤gb366));have n3_:=A_ ((by rw [hg];exact (bz_ (bq0_ HB.out)):w.heap.size≤gb366));clear HB;have HB:=n0_;have BK366:=n1_;have GW366:=n2_;have GE366:=n3_;clear n0_ n1_ n2_ n3_;clear hb hbox hg)|((with_reducible refine gate_callee (f:=45) rfl ?_);refine goesL_ (some 12) rfl rfl Tryz.func45 (by kernel_rfl) rfl #[.string a0,.int .i64 ji4,.string (⟨#[32,9,10,12,13,47,62]⟩:ByteArray)] rfl (by (try simp only [List.map_toArray,List.map_cons,List.map_nil]);first|done|(simp only [hji4];rfl)|rfl|(simp only [ld_,lt_];rfl)) ?_;(with_reducible refine (impl_upTo.calls k a0 ji4 (⟨#[32,9,10,12,13,47,62]⟩:ByteArray) t367 _ A3.out).mono ?_);rintro e w' ⟨rfl,⟨nd,rfl⟩⟩;refine ⟨_,rfl,?_⟩;(try (rw [drewN_self w23];generalize hq_:World.drewN w23 _=w23;have n0_:Aside0 (w23.heap[gb366]? = some (.cells #[.int .i64 0,.int .i64 0,.int .i64 0,.string (⟨#[]⟩:ByteArray),.string (⟨#[]⟩:ByteArray),.slice none 0 0,.bool false] 24 (0,0))):=⟨by rw [←hq_];exact (kq_ BK366.out)⟩;have n1_:Aside0 (Below w.heap.size w w23):=⟨by rw [←hq_];exact (bq1_ HB.out GE366.out)⟩;clear BK366 HB hq_;have BK366:=n0_;have HB:=n1_;clear n0_ n1_;obtain ⟨hcygb366_0,hcygb366_1,hcygb366_2,hcygb366_3,hcygb366_4,hcygb366_5,hcygb366_6,hfygb366_0,hfygb366_1,hfygb366_2,hfygb366_3,hfygb366_4,hfygb366_5,hfygb366_6⟩:=g7_ BK366.out)))|((with_reducible refine gate_callee (f:=58) rfl ?_);refine goesL_ (some 18) rfl rfl Tryz.func58 (by kernel_rfl) rfl #[.string (a0.extract ((ji4):Int).toNat (t367:Int).toNat)] rfl (by (try simp only [List.map_toArray,List.map_cons,List.map_nil]);first|done|(simp only [hji4];rfl)|rfl|(simp only [ld_,lt_];rfl)) ?_;(with_reducible refine (impl_lower.calls (a0.extract ((ji4):Int).toNat (t367:Int).toNat) t368 _ A8.out).mono ?_);rintro e w24 ⟨rfl,hb⟩;refine ⟨_,rfl,?_⟩;have n0_:=A_ (kb_ (kq_ BK366.out) hb);have n1_:=A_ (bp_ (bq1_ HB.out GE366.out) hb);clear BK366;clear HB;have BK366:=n0_;have HB:=n1_;clear n0_ n1_;(try clear hb);(try clear hb2);(try clear hk);(try clear hi))|((with_reducible refine gate_callee (f:=65) rfl ?_);refine gl_ (some 22) rfl rfl Tryz.func65 (by kernel_rfl) rfl #[.string a0,.int .i64 t367,.string (⟨#[62]⟩:ByteArray)] rfl  ?_;(with_reducible refine (impl_endOf.calls a0 t367 (⟨#[62]⟩:ByteArray) t369 t370 _ ?sideL A9.out).mono ?_);(case sideL=>exact HL.out.below (bq0_ HB.out));rintro e w' ⟨rfl,⟨nd,rfl⟩⟩;refine ⟨_,rfl,?_⟩;(try (rw [drewN_self w24];generalize hq_:World.drewN w24 _=w24;have n0_:Aside0 (w24.heap[gb366]? = some (.cells #[.int .i64 0,.int .i64 0,.int .i64 0,.string (⟨#[]⟩:ByteArray),.string (⟨#[]⟩:ByteArray),.slice none 0 0,.bool false] 24 (0,0))):=⟨by rw [←hq_];exact (kq_ BK366.out)⟩;have n1_:Aside0 (Below w.heap.size w w24):=⟨by rw [←hq_];exact (bq1_ HB.out GE366.out)⟩;clear BK366 HB hq_;have BK366:=n0_;have HB:=n1_;clear n0_ n1_;obtain ⟨hcygb366_0,hcygb366_1,hcygb366_2,hcygb366_3,hcygb366_4,hcygb366_5,hcygb366_6,hfygb366_0,hfygb366_1,hfygb366_2,hfygb366_3,hfygb366_4,hfygb366_5,hfygb366_6⟩:=g7_ BK366.out)))|(go_at_call 20;(with_reducible refine (impl_TagOK.calls k t368 false _ A17.out).mono ?_);rintro e w' ⟨rfl,⟨nd,rfl⟩⟩;(try (rw [drewN_self w24];generalize hq_:World.drewN w24 _=w24;have n0_:Aside0 (w24.heap[gb366]? = some (.cells #[.int .i64 0,.int .i64 0,.int .i64 0,.string (⟨#[]⟩:ByteArray),.string (⟨#[]⟩:ByteArray),.slice none 0 0,.bool false] 24 (0,0))):=⟨by rw [←hq_];exact (kq_ BK366.out)⟩;have n1_:Aside0 (Below w.heap.size w w24):=⟨by rw [←hq_];exact (bq1_ HB.out GE366.out)⟩;clear BK366 HB hq_;have BK366:=n0_;have HB:=n1_;clear n0_ n1_;obtain ⟨hcygb366_0,hcygb366_1,hcygb366_2,hcygb366_3,hcygb366_4,hcygb366_5,hcygb366_6,hfygb366_0,hfygb366_1,hfygb366_2,hfygb366_3,hfygb366_4,hfygb366_5,hfygb366_6⟩:=g7_ BK366.out)))|((with_reducible refine gate_callee (f:=61) rfl ?_);refine gl_ (some 35) rfl rfl Tryz.func61 (by kernel_rfl) rfl #[.int .i64 a1,.int .i64 t370] rfl  ?_;(with_reducible refine (impl_nothing.calls a1 t370 t381 t382 t383 t384 t385 t386 t389 _ A22.out).mono ?_);rintro e w25 ⟨v387,rfl,ho0,hb⟩;refine ⟨_,rfl,?_⟩;have n0_:=A_ (Kd.R_lower ho0 (bz_ (bq1_ HB.out GE366.out)));have n1_:=A_ (kb_ (kq_ BK366.out) hb);have n2_:=A_ (bp_ (bq1_ HB.out GE366.out) hb);clear BK366;clear HB;have HO388:=n0_;have BK366:=n1_;have HB:=n2_;clear n0_ n1_ n2_;(try clear hb);(try clear hb2);(try clear hk);(try clear hi);(try clear ho0);obtain ⟨_,_,_,_,_,_,_,_,_,_,_,_,_,_⟩:=g7_ BK366.out;obtain ⟨Ao27,co27,eo27⟩:=Kd.R_slice HO388.out;subst eo27))
      refine bodyPost_ret (results_cell_row rfl _ _ gb366 24 #[.int .i64 t381,.int .i64 t382,.int .i64 t383,.string t384,.string t385,.slice Ao27 t386.length co27,.bool t389] (0,0) _ rfl (by (with_reducible repeat first|apply kn_|apply kd_|apply ka_);exact p7_ (kq_ BK366.out)) Tryz.underlying24 rfl (by kernel_rfl)) rfl ?_
      exact ⟨_,by first|rfl|(simp [errW_none,errW_some] <;> rfl)|(simp only [←hji4];first|rfl|(simp [errW_none,errW_some] <;> rfl))|(simp [*,errW_none,errW_some] <;> rfl),by (with_reducible repeat first|apply ra_|apply rn_|apply rd_);exact Kd.R_mono (f7_ (g:=gb366) (Kd.R_types HO388.out BK366.out (by decide)) (fun _ hk=>hk.2) (.int .i64 t381) (.int .i64 t382) (.int .i64 t383) (.string t384) (.string t385) (.slice Ao27 t386.length co27) (.bool t389)) (fun _ hk=>trivial),bq1_ HB.out GE366.out⟩
   ·rw [if_neg c7] at H
    exact absurd H (by simp)
  ·rw [if_neg c6] at H
   exact absurd H (by simp)
 ·rw [if_neg c5] at H
  exact absurd H (by simp)
def stringslite_HasPrefix.f (a0:ByteArray) (a1:ByteArray):Option (Bool):=if (a0.size:Int)≥(a1.size:Int) then (if 0≤(a1.size:Int) then (if (a1.size:Int)≤(a0.size:Int) then (some ((a0.extract 0 ((a1.size:Int):Int).toNat).toList == a1.toList)) else (none)) else (none)) else (some false)
set_option maxHeartbeats 8000000 in
set_option maxRecDepth 100000 in
theorem stringslite_HasPrefix.calls (a0:ByteArray) (a1:ByteArray) (r:Bool) (w:World) (h:stringslite_HasPrefix.f a0 a1=some r) :
 Calls Tryz.prog 66 #[.string a0,.string a1] w fun e w'=>e=.returned (.bool r)∧Drawn0 w w':=by
 have H:(if (a0.size:Int)≥(a1.size:Int) then (if 0≤(a1.size:Int) then (if (a1.size:Int)≤(a0.size:Int) then (some ((a0.extract 0 ((a1.size:Int):Int).toNat).toList == a1.toList)) else (none)) else (none)) else (some false))=some r:=h
 clear h
 by_cases c3:(a0.size:Int)≥(a1.size:Int)
 ·rw [if_pos c3] at H
  have c3b0:decide ((a1.size:Int)≤(a0.size:Int))=true:=dt_ c3
  have c3b1:decide (a1.size≤a0.size)=true:=dt_ (Int.ofNat_le.mp c3)
  clear c3
  by_cases c4:0≤(a1.size:Int)
  ·rw [if_pos c4] at H
   have c4b0:=eq_true c4
   have c4b1:decide (0≤(a1.size:Int))=true:=dt_ c4
   clear c4
   by_cases c5:(a1.size:Int)≤(a0.size:Int)
   ·rw [if_pos c5] at H
    have c5b0:=eq_true c5
    have c5b1:decide ((a1.size:Int)≤(a0.size:Int))=true:=dt_ c5
    clear c5
    obtain rfl:=oi_ H
    go_enter Tryz.func66,Tryz.ntmps66
    go_wp2
    go_ret
    exact ⟨by first|rfl|(simp;done)|(simp [*];done),by repeat (first|exact dr_ _|apply dp_)⟩
   ·rw [if_neg c5] at H
    exact absurd H (by simp)
  ·rw [if_neg c4] at H
   exact absurd H (by simp)
 ·rw [if_neg c3] at H
  have c3b0:decide ((a1.size:Int)≤(a0.size:Int))=false:=df_ c3
  have c3b1:decide (a1.size≤a0.size)=false:=df_ (fun h=>c3 (Int.ofNat_le.mpr h))
  clear c3
  obtain rfl:=oi_ H
  go_enter Tryz.func66,Tryz.ntmps66
  go_wp2
  go_ret
  exact ⟨by first|rfl|(simp;done)|(simp [*];done),by repeat (first|exact dr_ _|apply dp_)⟩
def strings_HasPrefix.f (a0:ByteArray) (a1:ByteArray):Option (Bool):=(stringslite_HasPrefix.f a0 a1).bind fun t390=>(some t390)
set_option maxHeartbeats 8000000 in
set_option maxRecDepth 100000 in
theorem strings_HasPrefix.calls (a0:ByteArray) (a1:ByteArray) (r:Bool) (w:World) (h:strings_HasPrefix.f a0 a1=some r) :
 Calls Tryz.prog 43 #[.string a0,.string a1] w fun e w'=>e=.returned (.bool r)∧Drawn0 w w':=by
 have H:((stringslite_HasPrefix.f a0 a1).bind fun t390=>(some t390))=some r:=h
 clear h
 replace H:=ob_ H
 obtain ⟨t390,A30,H⟩:=H
 replace H:(some t390)=some r:=H
 have A3:=A_ A30
 clear A30
 obtain rfl:=oi_ H
 go_enter Tryz.func43,Tryz.ntmps43
 go_wp2_with (first|((with_reducible refine gate_callee (f:=66) rfl ?_);refine gl_ (some 7) rfl rfl Tryz.func66 (by kernel_rfl) rfl #[.string a0,.string a1] rfl  ?_;(with_reducible refine (stringslite_HasPrefix.calls a0 a1 t390 _ A3.out).mono ?_);rintro e w' ⟨rfl,⟨nd,rfl⟩⟩;refine ⟨_,rfl,?_⟩))
 go_ret
 exact ⟨by first|rfl|(simp;done)|(simp [*];done),by repeat (first|exact dr_ _|apply dp_)⟩
def impl_comment.f (a0:ByteArray) (a1:Int) (a2:Int) (a3:ByteArray):Option (Int × Int × Int × ByteArray × ByteArray × (List (S52)) × Bool):=(impl_endOf.f a0 a2 a3).bind fun bt392=>(if 0≤(mn a2 (a0.size:Int)) then (if (mn a2 (a0.size:Int))≤bt392.1 then (if bt392.1≤(a0.size:Int) then (some (4,a1,wrap64 (bt392.2 - a1),(⟨#[]⟩:ByteArray),a0.extract ((mn a2 (a0.size:Int)):Int).toNat (bt392.1:Int).toNat,([]:List (S52)),false)) else (none)) else (none)) else (none))
set_option maxHeartbeats 8000000 in
set_option maxRecDepth 100000 in
theorem impl_comment.calls (a0:ByteArray) (a1:Int) (a2:Int) (a3:ByteArray) (r1:Int) (r2:Int) (r3:Int) (r4:ByteArray) (r5:ByteArray) (r6:List (S52)) (r7:Bool) (w:World) (hL:Laid w) (h:impl_comment.f a0 a1 a2 a3=some (r1,r2,r3,r4,r5,r6,r7)) :
 Calls Tryz.prog 44 #[.string a0,.int .i64 a1,.int .i64 a2,.string a3] w fun e w'=>∃ v5_:Value,e=.returned (.agg #[.int .i64 r1,.int .i64 r2,.int .i64 r3,.string r4,.string r5,v5_,.bool r7])∧Kd.R k52 52 w' w.heap.size (fun _=>True) v5_ r6∧Below w.heap.size w w':=by
 have hu24:=Tryz.underlying24
 have HB:=A_ (Below.refl w.heap.size w)
 have HL:=A_ hL
 clear hL
 have H:((impl_endOf.f a0 a2 a3).bind fun bt392=>(if 0≤(mn a2 (a0.size:Int)) then (if (mn a2 (a0.size:Int))≤bt392.1 then (if bt392.1≤(a0.size:Int) then (some (4,a1,wrap64 (bt392.2 - a1),(⟨#[]⟩:ByteArray),a0.extract ((mn a2 (a0.size:Int)):Int).toNat (bt392.1:Int).toNat,([]:List (S52)),false)) else (none)) else (none)) else (none)))=some (r1,r2,r3,r4,r5,r6,r7):=h
 clear h
 replace H:=ob_ H
 obtain ⟨⟨t392,t393⟩,A50,H⟩:=H
 replace H:(if 0≤(mn a2 (a0.size:Int)) then (if (mn a2 (a0.size:Int))≤t392 then (if t392≤(a0.size:Int) then (some (4,a1,wrap64 (t393 - a1),(⟨#[]⟩:ByteArray),a0.extract ((mn a2 (a0.size:Int)):Int).toNat (t392:Int).toNat,([]:List (S52)),false)) else (none)) else (none)) else (none))=some (r1,r2,r3,r4,r5,r6,r7):=H
 have A5:=A_ A50
 clear A50
 obtain ⟨ji6,hji6⟩:∃ j_:Int,(mn a2 (a0.size:Int))=j_:=⟨_,rfl⟩
 replace H:(if 0≤(ji6) then (if (ji6)≤t392 then (if t392≤(a0.size:Int) then (some (4,a1,wrap64 (t393 - a1),(⟨#[]⟩:ByteArray),a0.extract ((ji6):Int).toNat (t392:Int).toNat,([]:List (S52)),false)) else (none)) else (none)) else (none))=some (r1,r2,r3,r4,r5,r6,r7):=by first|(rw [hji6] at H;exact H)|(simp only [hji6] at H ⊢;exact H)
 (try rw [hji6] at A5)
 have hji6_:(if (a0.size:Int)<a2 then (a0.size:Int) else a2)=ji6:=hji6
 by_cases c7:0≤(ji6)
 ·rw [if_pos c7] at H
  have c7b0:=eq_true c7
  have c7b1:decide (0≤(ji6))=true:=dt_ c7
  clear c7
  by_cases c8:(ji6)≤t392
  ·rw [if_pos c8] at H
   have c8b0:=eq_true c8
   have c8b1:decide ((ji6)≤t392)=true:=dt_ c8
   clear c8
   by_cases c9:t392≤(a0.size:Int)
   ·rw [if_pos c9] at H
    have c9b0:=eq_true c9
    have c9b1:decide (t392≤(a0.size:Int))=true:=dt_ c9
    clear c9
    simp only [Option.some.injEq,Prod.mk.injEq] at H
    obtain ⟨rfl,rfl,rfl,rfl,rfl,rfl,rfl⟩:=H
    go_enter Tryz.func44,Tryz.ntmps44
    go_wp2_with (first|((with_reducible refine gate_dst (N:=8) rfl ?_);refine box_event ?hg (N:=8) ?hd (cs:=#[.int .i64 0,.int .i64 0,.int .i64 0,.string (⟨#[]⟩:ByteArray),.string (⟨#[]⟩:ByteArray),.slice none 0 0,.bool false]) (t:=24) ?hr ?_;(case hd=>rfl);(case hg=>rfl);(case hr=>first|(go_simp;done)|(go_simp;rfl));intro gb391 hg w10 hbox hb;have n0_:=A_ (bp_ (bq0_ HB.out) hb);have n1_:=A_ (hbox);have n2_:=A_ ((by rw [hg];exact (bz_ (bq0_ HB.out)):w.heap.size≤gb391));have n3_:=A_ ((by rw [hg];exact (bz_ (bq0_ HB.out)):w.heap.size≤gb391));clear HB;have HB:=n0_;have BK391:=n1_;have GW391:=n2_;have GE391:=n3_;clear n0_ n1_ n2_ n3_;clear hb hbox hg)|((with_reducible refine gate_callee (f:=65) rfl ?_);refine gl_ (some 15) rfl rfl Tryz.func65 (by kernel_rfl) rfl #[.string a0,.int .i64 a2,.string a3] rfl  ?_;(with_reducible refine (impl_endOf.calls a0 a2 a3 t392 t393 _ ?sideL A5.out).mono ?_);(case sideL=>exact HL.out.below (bq0_ HB.out));rintro e w' ⟨rfl,⟨nd,rfl⟩⟩;refine ⟨_,rfl,?_⟩;(try (rw [drewN_self w10];generalize hq_:World.drewN w10 _=w10;have n0_:Aside0 (w10.heap[gb391]? = some (.cells #[.int .i64 0,.int .i64 0,.int .i64 0,.string (⟨#[]⟩:ByteArray),.string (⟨#[]⟩:ByteArray),.slice none 0 0,.bool false] 24 (0,0))):=⟨by rw [←hq_];exact (kq_ BK391.out)⟩;have n1_:Aside0 (Below w.heap.size w w10):=⟨by rw [←hq_];exact (bq1_ HB.out GE391.out)⟩;clear BK391 HB hq_;have BK391:=n0_;have HB:=n1_;clear n0_ n1_;obtain ⟨_,_,_,_,_,_,_,_,_,_,_,_,_,_⟩:=g7_ BK391.out));obtain ⟨_,_,_,_,_,_,_,_,_,_,_,_,_,_⟩:=g7_ BK391.out))
    refine bodyPost_ret (results_cell_row rfl _ _ gb391 24 #[.int .i64 4,.int .i64 a1,.int .i64 (wrap64 (t393 - a1)),.string (⟨#[]⟩:ByteArray),.string (a0.extract ((ji6):Int).toNat (t392:Int).toNat),.slice none 0 0,.bool false] (0,0) _ rfl (by (with_reducible repeat first|apply kn_|apply kd_|apply ka_);exact p7_ (kq_ BK391.out)) Tryz.underlying24 rfl (by kernel_rfl)) rfl ?_
    exact ⟨_,by first|rfl|(simp [errW_none,errW_some] <;> rfl)|(simp only [←hji6];first|rfl|(simp [errW_none,errW_some] <;> rfl))|(simp [*,errW_none,errW_some] <;> rfl),by first|exact Kd.R_nil _ _ _ _ _|exact Kd.N_nil _ _ _ _ _|exact Kd.V_nil _ _ _ _ _|exact Kd.Q_nil _ _ _ _ _|exact Kd.S_nil _ _ _ _ _,bq1_ HB.out GE391.out⟩
   ·rw [if_neg c9] at H
    exact absurd H (by simp)
  ·rw [if_neg c8] at H
   exact absurd H (by simp)
 ·rw [if_neg c7] at H
  exact absurd H (by simp)
end Go.Proofs.YtfkanlbmgbkniaaGreatDoor.PFnExactTokensOf
