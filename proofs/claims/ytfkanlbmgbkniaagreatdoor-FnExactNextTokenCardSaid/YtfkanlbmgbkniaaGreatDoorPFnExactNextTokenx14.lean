/- By a program of this session, out of the kit's print and contracts made by hand: the machine side of a law; Lean checks it. No conditions. -/
import Derived.Test.YtfkanlbmgbkniaaGreatDoorPFnExactNextTokenx0
import Derived.Test.YtfkanlbmgbkniaaGreatDoorPFnExactNextTokenx1
import Derived.Test.YtfkanlbmgbkniaaGreatDoorPFnExactNextTokenx13
namespace Go.Proofs.YtfkanlbmgbkniaaGreatDoor.PFnExactNextToken
open Go.RowKit Go.Proofs.YtfkanlbmgbkniaaGreatDoorW.PrintWords Go.Proofs.YtfkanlbmgbkniaaGreatDoorW.PrintLast Go.Proofs.YtfkanlbmgbkniaaGreatDoorW.PrintMore
attribute [local go_sem] max2_int min2_int max_two min_two max_three min_three max_four min_four
set_option linter.unusedVariables false
set_option linter.unusedSimpArgs false
/-! ### spec_NextToken: function 5 -/
def spec_NextToken.j0:Nat→ByteArray→Int→ByteArray→Bool→Option (Int × Int × Int × ByteArray × ByteArray × (List (S52)) × Bool × Int)
 | 0,_,_,_,_=>none
 | k+1,x0,x1,x2,x15=>if x15=true then (some (0,0,0,(⟨#[]⟩:ByteArray),(⟨#[]⟩:ByteArray),([]:List (S52)),false,2)) else ((spec_l01In.f x1 0 (wrap64 ((x0.size:Int) - 1))).bind fun t257=>(if t257=true then (if x2.toList=([]:List UInt8) then ((spec_l04Next.f k x0 x1 x2).bind fun bt258=>(some (bt258.1,bt258.2.1,bt258.2.2.1,bt258.2.2.2.1,bt258.2.2.2.2.1,bt258.2.2.2.2.2.1,bt258.2.2.2.2.2.2,0))) else ((spec_l01Tag.f k x2).bind fun t267=>(if t267=true then ((spec_l04Next.f k x0 x1 x2).bind fun bt268=>(some (bt268.1,bt268.2.1,bt268.2.2.1,bt268.2.2.2.1,bt268.2.2.2.2.1,bt268.2.2.2.2.2.1,bt268.2.2.2.2.2.2,0))) else (some (0,0,0,(⟨#[]⟩:ByteArray),(⟨#[]⟩:ByteArray),([]:List (S52)),false,10))))) else (some (0,0,0,(⟨#[]⟩:ByteArray),(⟨#[]⟩:ByteArray),([]:List (S52)),false,8))))
def spec_NextToken.f (k:Nat) (a0:ByteArray) (a1:Int) (a2:ByteArray):Option (Int × Int × Int × ByteArray × ByteArray × (List (S52)) × Bool × Int):=if (a0.size:Int)>65536 then (spec_NextToken.j0 k a0 a1 a2 true) else (spec_NextToken.j0 k a0 a1 a2 (decide ((a2.size:Int)>65536)))
theorem spec_NextToken.mono_l:∀ k,(∀ y0 y1 y2 y3,LeO (spec_NextToken.j0 k y0 y1 y2 y3) (spec_NextToken.j0 (k+1) y0 y1 y2 y3))
 | 0=>fun _ _ _ _ r h=>by simp [spec_NextToken.j0] at h
 | k+1=>by
  have ih0:=spec_NextToken.mono_l k
  ·intro y0 y1 y2 y3
   unfold spec_NextToken.j0
   repeat' first
   | (with_reducible exact ih0 _ _ _ _)
   | (with_reducible exact spec_l01Tag.mono _ _)
   | (with_reducible exact spec_l04Next.mono _ _ _ _)
   | (with_reducible exact LeO.refl _)
   | (with_reducible exact LeO.none _)
   | (with_reducible refine LeO.ite ?_ ?_)
   | (with_reducible refine LeO.bind ?_ (fun _=>?_))
   | exact ih0 _ _ _ _
   | exact spec_l01Tag.mono _ _
   | exact spec_l04Next.mono _ _ _ _
   | exact LeO.none _
   | refine LeO.ite ?_ ?_
   | refine LeO.bind ?_ (fun _=>?_)
theorem spec_NextToken.mono:∀ a0 a1 a2 k,LeO (spec_NextToken.f k a0 a1 a2) (spec_NextToken.f (k+1) a0 a1 a2):=by
 intro a0 a1 a2 k
 have ih0:=spec_NextToken.mono_l k
 unfold spec_NextToken.f
 repeat' first
  | (with_reducible exact ih0 _ _ _ _)
  | (with_reducible exact spec_l01Tag.mono _ _)
  | (with_reducible exact spec_l04Next.mono _ _ _ _)
  | (with_reducible exact LeO.refl _)
  | (with_reducible exact LeO.none _)
  | (with_reducible refine LeO.ite ?_ ?_)
  | (with_reducible refine LeO.bind ?_ (fun _=>?_))
  | exact ih0 _ _ _ _
  | exact spec_l01Tag.mono _ _
  | exact spec_l04Next.mono _ _ _ _
  | exact LeO.none _
  | refine LeO.ite ?_ ?_
  | refine LeO.bind ?_ (fun _=>?_)
set_option maxHeartbeats 8000000 in
set_option maxRecDepth 100000 in
theorem spec_NextToken.calls (k:Nat) (a0:ByteArray) (a1:Int) (a2:ByteArray) (r1:Int) (r2:Int) (r3:Int) (r4:ByteArray) (r5:ByteArray) (r6:List (S52)) (r7:Bool) (r8:Int) (w:World) (h:spec_NextToken.f k a0 a1 a2=some (r1,r2,r3,r4,r5,r6,r7,r8)) :
 Calls Tryz.prog 5 #[.string a0,.int .i64 a1,.string a2] w fun e w'=>∃ v5_:Value,e=.returned (.tuple #[.agg #[.int .i64 r1,.int .i64 r2,.int .i64 r3,.string r4,.string r5,v5_,.bool r7],.int .i64 r8])∧Kd.R k52 52 w' w.heap.size (fun _=>True) v5_ r6∧Below w.heap.size w w':=by
 have hu24:=Tryz.underlying24
 have HB:=A_ (Below.refl w.heap.size w)
 have H:(if (a0.size:Int)>65536 then (spec_NextToken.j0 k a0 a1 a2 true) else (spec_NextToken.j0 k a0 a1 a2 (decide ((a2.size:Int)>65536))))=some (r1,r2,r3,r4,r5,r6,r7,r8):=h
 clear h
 have HC4:=A_ H
 clear H
 go_enter Tryz.func5,Tryz.ntmps5
 go_upto_region 1 with (first|((with_reducible refine gate_dst (N:=6) rfl ?_);(try (refine gate_guard (by rfl) ?_;dsimp only));refine box_event ?hg (N:=6) ?hd (cs:=#[.int .i64 0,.int .i64 0,.int .i64 0,.string (⟨#[]⟩:ByteArray),.string (⟨#[]⟩:ByteArray),.slice none 0 0,.bool false]) (t:=24) ?hr ?_;(case hd=>rfl);(case hg=>rfl);(case hr=>first|(go_simp;done)|(go_simp;rfl)|(first|(go_simp;done)|(go_simp;rfl)));intro gb256 hg w5 hbox hb;have n0_:=A_ (bp_ (bq0_ HB.out) hb);have n1_:=A_ (hbox);have n2_:=A_ ((by rw [hg];exact (bz_ (bq0_ HB.out)):w.heap.size≤gb256));have n3_:=A_ ((by rw [hg];exact (bz_ (bq0_ HB.out)):w.heap.size≤gb256));clear HB;have HB:=n0_;have BK256:=n1_;have GW256:=n2_;have GE256:=n3_;clear n0_ n1_ n2_ n3_;clear hb hbox hg))
 (try simp only [Act.put,ls_,lz_,lc_])
 go_cut [15] (fun v15 wc=>∃ (kq:Nat) (x15_3:Bool),v15=.bool x15_3∧Aside0 (spec_NextToken.j0 kq a0 a1 a2 x15_3=some (r1,r2,r3,r4,r5,r6,r7,r8))∧Aside0 (kq≤k)∧Aside0 (wc.heap[gb256]? = some (.cells #[.int .i64 0,.int .i64 0,.int .i64 0,.string (⟨#[]⟩:ByteArray),.string (⟨#[]⟩:ByteArray),(.slice none 0 0),.bool false] 24 (0,0)))∧Aside0 (Below w.heap.size w wc))
 case first =>
  have H:=HC4.out
  clear HC4
  by_cases c6:(a0.size:Int)>65536
  ·rw [if_pos c6] at H
   have c6b0:decide (65536<(a0.size:Int))=true:=dt_ c6
   have c6b1:decide (65536<a0.size)=true:=dt_ (by omega)
   clear c6
   (first|rw [c6b0]|(simp only [i64_w,i32_w];rw [c6b0])|skip)
   have H':=A_ H
   clear H
   go_wp2
   go_meet
   case rel=>exact ⟨_,(true),(by first|rfl|(simp;done)|(simp [*];done)),H',⟨by first|omega|exact Nat.le_refl _⟩,⟨kq_ BK256.out⟩,⟨bq1_ HB.out GE256.out⟩⟩
  ·rw [if_neg c6] at H
   have c6b0:decide (65536<(a0.size:Int))=false:=df_ c6
   have c6b1:decide (65536<a0.size)=false:=df_ (by omega)
   clear c6
   (first|rw [c6b0]|(simp only [i64_w,i32_w];rw [c6b0])|skip)
   have H':=A_ H
   clear H
   go_wp2
   go_meet
   case rel=>exact ⟨_,(decide ((a2.size:Int)>65536)),(by first|rfl|(simp;done)|(simp [*];done)),H',⟨by first|omega|exact Nat.le_refl _⟩,⟨kq_ BK256.out⟩,⟨bq1_ HB.out GE256.out⟩⟩
 case rest =>
  clear HC4
  try clear p2
  try clear c5
  try clear c6
  try clear c6b0
  try clear c6b1
  obtain ⟨kq,x15_3,rfl,HA,HJ3,BK256,HB⟩:=hcut
  cases kq with
  | zero=>exact absurd HA.out (by simp [spec_NextToken.j0])
  | succ kj3 =>
   have H:=HA.out
   clear HA
   simp only [spec_NextToken.j0] at H
   by_cases c7:x15_3=true
   ·subst c7
    have H1:(some (0,0,0,(⟨#[]⟩:ByteArray),(⟨#[]⟩:ByteArray),([]:List (S52)),false,2))=some (r1,r2,r3,r4,r5,r6,r7,r8):=by rw [if_pos rfl] at H;exact H
    clear H
    have H:=H1
    clear H1
    simp only [Option.some.injEq,Prod.mk.injEq] at H
    obtain ⟨rfl,rfl,rfl,rfl,rfl,rfl,rfl,rfl⟩:=H
    obtain ⟨_,_,_,_,_,_,_,_,_,_,_,_,_,_⟩:=g7_ BK256.out
    go_wp2
    refine bodyPost_ret (results_ct rfl _ _ gb256 24 #[.int .i64 0,.int .i64 0,.int .i64 0,.string (⟨#[]⟩:ByteArray),.string (⟨#[]⟩:ByteArray),.slice none 0 0,.bool false] (0,0) _ rfl (by (with_reducible repeat first|apply kn_|apply kd_|apply ka_);exact p7_ (kq_ BK256.out)) Tryz.underlying24 rfl (by kernel_rfl)) rfl ?_
    exact ⟨_,by first|rfl|(simp [errW_none,errW_some] <;> rfl)|(simp [*,errW_none,errW_some] <;> rfl),by first|exact Kd.R_nil _ _ _ _ _|exact Kd.N_nil _ _ _ _ _|exact Kd.V_nil _ _ _ _ _|exact Kd.Q_nil _ _ _ _ _|exact Kd.S_nil _ _ _ _ _,bq1_ HB.out GE256.out⟩
   ·replace c7:=bm_ c7
    subst c7
    have H1:((spec_l01In.f a1 0 (wrap64 ((a0.size:Int) - 1))).bind fun t257=>(if t257=true then (if a2.toList=([]:List UInt8) then ((spec_l04Next.f kj3 a0 a1 a2).bind fun bt258=>(some (bt258.1,bt258.2.1,bt258.2.2.1,bt258.2.2.2.1,bt258.2.2.2.2.1,bt258.2.2.2.2.2.1,bt258.2.2.2.2.2.2,0))) else ((spec_l01Tag.f kj3 a2).bind fun t267=>(if t267=true then ((spec_l04Next.f kj3 a0 a1 a2).bind fun bt268=>(some (bt268.1,bt268.2.1,bt268.2.2.1,bt268.2.2.2.1,bt268.2.2.2.2.1,bt268.2.2.2.2.2.1,bt268.2.2.2.2.2.2,0))) else (some (0,0,0,(⟨#[]⟩:ByteArray),(⟨#[]⟩:ByteArray),([]:List (S52)),false,10))))) else (some (0,0,0,(⟨#[]⟩:ByteArray),(⟨#[]⟩:ByteArray),([]:List (S52)),false,8))))=some (r1,r2,r3,r4,r5,r6,r7,r8):=by rw [if_neg (show ¬ (false=true) by decide)] at H;exact H
    clear H
    have H:=H1
    clear H1
    replace H:=ob_ H
    obtain ⟨t257,A90,H⟩:=H
    replace H:(if t257=true then (if a2.toList=([]:List UInt8) then ((spec_l04Next.f kj3 a0 a1 a2).bind fun bt258=>(some (bt258.1,bt258.2.1,bt258.2.2.1,bt258.2.2.2.1,bt258.2.2.2.2.1,bt258.2.2.2.2.2.1,bt258.2.2.2.2.2.2,0))) else ((spec_l01Tag.f kj3 a2).bind fun t267=>(if t267=true then ((spec_l04Next.f kj3 a0 a1 a2).bind fun bt268=>(some (bt268.1,bt268.2.1,bt268.2.2.1,bt268.2.2.2.1,bt268.2.2.2.2.1,bt268.2.2.2.2.2.1,bt268.2.2.2.2.2.2,0))) else (some (0,0,0,(⟨#[]⟩:ByteArray),(⟨#[]⟩:ByteArray),([]:List (S52)),false,10))))) else (some (0,0,0,(⟨#[]⟩:ByteArray),(⟨#[]⟩:ByteArray),([]:List (S52)),false,8)))=some (r1,r2,r3,r4,r5,r6,r7,r8):=H
    have A9:=A_ A90
    clear A90
    by_cases c10:t257=true
    ·subst c10
     have H1:(if a2.toList=([]:List UInt8) then ((spec_l04Next.f kj3 a0 a1 a2).bind fun bt258=>(some (bt258.1,bt258.2.1,bt258.2.2.1,bt258.2.2.2.1,bt258.2.2.2.2.1,bt258.2.2.2.2.2.1,bt258.2.2.2.2.2.2,0))) else ((spec_l01Tag.f kj3 a2).bind fun t267=>(if t267=true then ((spec_l04Next.f kj3 a0 a1 a2).bind fun bt268=>(some (bt268.1,bt268.2.1,bt268.2.2.1,bt268.2.2.2.1,bt268.2.2.2.2.1,bt268.2.2.2.2.2.1,bt268.2.2.2.2.2.2,0))) else (some (0,0,0,(⟨#[]⟩:ByteArray),(⟨#[]⟩:ByteArray),([]:List (S52)),false,10)))))=some (r1,r2,r3,r4,r5,r6,r7,r8):=by rw [if_pos rfl] at H;exact H
     clear H
     have H:=H1
     clear H1
     by_cases c11:a2.toList=([]:List UInt8)
     ·rw [if_pos c11] at H
      have c11b0:(a2.toList == ([]:List UInt8))=true:=beq_iff_eq.mpr c11
      have c11b1:(a2.toList != ([]:List UInt8))=false:=bne_eq_false_iff_eq.mpr c11
      have c11b5:(a2.toList).isEmpty=true:=by simpa using c11b0
      have c11b6:(!(a2.toList).isEmpty)=false:=by rw [c11b5];rfl
      clear c11
      replace H:=ob_ H
      obtain ⟨⟨t258,t259,t260,t261,t262,t263,t266⟩,A120,H⟩:=H
      replace H:(some (t258,t259,t260,t261,t262,t263,t266,0))=some (r1,r2,r3,r4,r5,r6,r7,r8):=H
      have A12:=A_ A120
      clear A120
      simp only [Option.some.injEq,Prod.mk.injEq] at H
      obtain ⟨rfl,rfl,rfl,rfl,rfl,rfl,rfl,rfl⟩:=H
      go_wp2_with (first|((with_reducible refine gate_callee (f:=15) rfl ?_);refine gl_ (some 21) rfl rfl Tryz.func15 (by kernel_rfl) rfl #[.int .i64 a1,.int .i64 0,.int .i64 (wrap64 ((a0.size:Int) - 1))] rfl  ?_;(with_reducible refine (spec_l01In.calls a1 0 (wrap64 ((a0.size:Int) - 1)) true _ A9.out).mono ?_);rintro e w' ⟨rfl,⟨nd,rfl⟩⟩;refine ⟨_,rfl,?_⟩;(try (rw [drewN_self wc];generalize hq_:World.drewN wc _=wc;have n0_:Aside0 (wc.heap[gb256]? = some (.cells #[.int .i64 0,.int .i64 0,.int .i64 0,.string (⟨#[]⟩:ByteArray),.string (⟨#[]⟩:ByteArray),.slice none 0 0,.bool false] 24 (0,0))):=⟨by rw [←hq_];exact (kq_ BK256.out)⟩;have n1_:Aside0 (Below w.heap.size w wc):=⟨by rw [←hq_];exact (bq1_ HB.out GE256.out)⟩;clear BK256 HB hq_;have BK256:=n0_;have HB:=n1_;clear n0_ n1_;obtain ⟨hcygb256_0,hcygb256_1,hcygb256_2,hcygb256_3,hcygb256_4,hcygb256_5,hcygb256_6,hfygb256_0,hfygb256_1,hfygb256_2,hfygb256_3,hfygb256_4,hfygb256_5,hfygb256_6⟩:=g7_ BK256.out)))|((with_reducible refine gate_callee (f:=17) rfl ?_);refine gl_ (some 35) rfl rfl Tryz.func17 (by kernel_rfl) rfl #[.string a0,.int .i64 a1,.string a2] rfl  ?_;(with_reducible refine (spec_l04Next.calls kj3 a0 a1 a2 t258 t259 t260 t261 t262 t263 t266 _ A12.out).mono ?_);rintro e w13 ⟨v264,rfl,ho0,hb⟩;refine ⟨_,rfl,?_⟩;have n0_:=A_ (Kd.R_lower ho0 (bz_ (bq1_ HB.out GE256.out)));have n1_:=A_ (kb_ (g:=gb256) (o:=.cells #[.int .i64 0,.int .i64 0,.int .i64 0,.string (⟨#[]⟩:ByteArray),.string (⟨#[]⟩:ByteArray),.slice none 0 0,.bool false] 24 (0,0)) (kq_ BK256.out) hb);have n2_:=A_ (bp_ (bq1_ HB.out GE256.out) hb);clear BK256;clear HB;have HO265:=n0_;have BK256:=n1_;have HB:=n2_;clear n0_ n1_ n2_;(try clear hb);(try clear hb2);(try clear hk);(try clear hi);(try clear ho0);obtain ⟨_,_,_,_,_,_,_,_,_,_,_,_,_,_⟩:=g7_ BK256.out;obtain ⟨Ao15,co15,eo15⟩:=Kd.R_slice HO265.out;subst eo15))
      refine bodyPost_ret (results_ct rfl _ _ gb256 24 #[.int .i64 t258,.int .i64 t259,.int .i64 t260,.string t261,.string t262,.slice Ao15 t263.length co15,.bool t266] (0,0) _ rfl (by (with_reducible repeat first|apply kn_|apply kd_|apply ka_);exact p7_ (kq_ BK256.out)) Tryz.underlying24 rfl (by kernel_rfl)) rfl ?_
      exact ⟨_,by first|rfl|(simp [errW_none,errW_some] <;> rfl)|(simp [*,errW_none,errW_some] <;> rfl),by (with_reducible repeat (first|apply Kd.R_alloc|apply Kd.R_drewN|apply Kd.R_drew));exact Kd.R_mono (f7_ (g:=gb256) (Kd.R_types HO265.out BK256.out (by decide)) (fun _ hk=>hk.2) (.int .i64 t258) (.int .i64 t259) (.int .i64 t260) (.string t261) (.string t262) (.slice Ao15 t263.length co15) (.bool t266)) (fun _ hk=>trivial),bq1_ HB.out GE256.out⟩
     ·rw [if_neg c11] at H
      have c11b0:(a2.toList == ([]:List UInt8))=false:=beq_eq_false_iff_ne.mpr c11
      have c11b1:(a2.toList != ([]:List UInt8))=true:=bne_iff_ne.mpr c11
      have c11b5:(a2.toList).isEmpty=false:=by simpa using c11b0
      have c11b6:(!(a2.toList).isEmpty)=true:=by rw [c11b5];rfl
      replace H:=ob_ H
      obtain ⟨t267,A160,H⟩:=H
      replace H:(if t267=true then ((spec_l04Next.f kj3 a0 a1 a2).bind fun bt268=>(some (bt268.1,bt268.2.1,bt268.2.2.1,bt268.2.2.2.1,bt268.2.2.2.2.1,bt268.2.2.2.2.2.1,bt268.2.2.2.2.2.2,0))) else (some (0,0,0,(⟨#[]⟩:ByteArray),(⟨#[]⟩:ByteArray),([]:List (S52)),false,10)))=some (r1,r2,r3,r4,r5,r6,r7,r8):=H
      have A16:=A_ A160
      clear A160
      by_cases c17:t267=true
      ·subst c17
       have H1:((spec_l04Next.f kj3 a0 a1 a2).bind fun bt268=>(some (bt268.1,bt268.2.1,bt268.2.2.1,bt268.2.2.2.1,bt268.2.2.2.2.1,bt268.2.2.2.2.2.1,bt268.2.2.2.2.2.2,0)))=some (r1,r2,r3,r4,r5,r6,r7,r8):=by rw [if_pos rfl] at H;exact H
       clear H
       have H:=H1
       clear H1
       replace H:=ob_ H
       obtain ⟨⟨t268,t269,t270,t271,t272,t273,t276⟩,A180,H⟩:=H
       replace H:(some (t268,t269,t270,t271,t272,t273,t276,0))=some (r1,r2,r3,r4,r5,r6,r7,r8):=H
       have A18:=A_ A180
       clear A180
       simp only [Option.some.injEq,Prod.mk.injEq] at H
       obtain ⟨rfl,rfl,rfl,rfl,rfl,rfl,rfl,rfl⟩:=H
       go_wp2_with (first|((with_reducible refine gate_callee (f:=15) rfl ?_);refine gl_ (some 21) rfl rfl Tryz.func15 (by kernel_rfl) rfl #[.int .i64 a1,.int .i64 0,.int .i64 (wrap64 ((a0.size:Int) - 1))] rfl  ?_;(with_reducible refine (spec_l01In.calls a1 0 (wrap64 ((a0.size:Int) - 1)) true _ A9.out).mono ?_);rintro e w' ⟨rfl,⟨nd,rfl⟩⟩;refine ⟨_,rfl,?_⟩;(try (rw [drewN_self wc];generalize hq_:World.drewN wc _=wc;have n0_:Aside0 (wc.heap[gb256]? = some (.cells #[.int .i64 0,.int .i64 0,.int .i64 0,.string (⟨#[]⟩:ByteArray),.string (⟨#[]⟩:ByteArray),.slice none 0 0,.bool false] 24 (0,0))):=⟨by rw [←hq_];exact (kq_ BK256.out)⟩;have n1_:Aside0 (Below w.heap.size w wc):=⟨by rw [←hq_];exact (bq1_ HB.out GE256.out)⟩;clear BK256 HB hq_;have BK256:=n0_;have HB:=n1_;clear n0_ n1_;obtain ⟨hcygb256_0,hcygb256_1,hcygb256_2,hcygb256_3,hcygb256_4,hcygb256_5,hcygb256_6,hfygb256_0,hfygb256_1,hfygb256_2,hfygb256_3,hfygb256_4,hfygb256_5,hfygb256_6⟩:=g7_ BK256.out)))|(go_at_call 16;(with_reducible refine (spec_l01Tag.calls kj3 a2 true _ A16.out).mono ?_);rintro e w' ⟨rfl,⟨nd,rfl⟩⟩;(try (rw [drewN_self wc];generalize hq_:World.drewN wc _=wc;have n0_:Aside0 (wc.heap[gb256]? = some (.cells #[.int .i64 0,.int .i64 0,.int .i64 0,.string (⟨#[]⟩:ByteArray),.string (⟨#[]⟩:ByteArray),.slice none 0 0,.bool false] 24 (0,0))):=⟨by rw [←hq_];exact (kq_ BK256.out)⟩;have n1_:Aside0 (Below w.heap.size w wc):=⟨by rw [←hq_];exact (bq1_ HB.out GE256.out)⟩;clear BK256 HB hq_;have BK256:=n0_;have HB:=n1_;clear n0_ n1_;obtain ⟨hcygb256_0,hcygb256_1,hcygb256_2,hcygb256_3,hcygb256_4,hcygb256_5,hcygb256_6,hfygb256_0,hfygb256_1,hfygb256_2,hfygb256_3,hfygb256_4,hfygb256_5,hfygb256_6⟩:=g7_ BK256.out)))|((with_reducible refine gate_callee (f:=17) rfl ?_);refine gl_ (some 35) rfl rfl Tryz.func17 (by kernel_rfl) rfl #[.string a0,.int .i64 a1,.string a2] rfl  ?_;(with_reducible refine (spec_l04Next.calls kj3 a0 a1 a2 t268 t269 t270 t271 t272 t273 t276 _ A18.out).mono ?_);rintro e w19 ⟨v274,rfl,ho0,hb⟩;refine ⟨_,rfl,?_⟩;have n0_:=A_ (Kd.R_lower ho0 (bz_ (bq1_ HB.out GE256.out)));have n1_:=A_ (kb_ (g:=gb256) (o:=.cells #[.int .i64 0,.int .i64 0,.int .i64 0,.string (⟨#[]⟩:ByteArray),.string (⟨#[]⟩:ByteArray),.slice none 0 0,.bool false] 24 (0,0)) (kq_ BK256.out) hb);have n2_:=A_ (bp_ (bq1_ HB.out GE256.out) hb);clear BK256;clear HB;have HO275:=n0_;have BK256:=n1_;have HB:=n2_;clear n0_ n1_ n2_;(try clear hb);(try clear hb2);(try clear hk);(try clear hi);(try clear ho0);obtain ⟨_,_,_,_,_,_,_,_,_,_,_,_,_,_⟩:=g7_ BK256.out;obtain ⟨Ao21,co21,eo21⟩:=Kd.R_slice HO275.out;subst eo21))
       refine bodyPost_ret (results_ct rfl _ _ gb256 24 #[.int .i64 t268,.int .i64 t269,.int .i64 t270,.string t271,.string t272,.slice Ao21 t273.length co21,.bool t276] (0,0) _ rfl (by (with_reducible repeat first|apply kn_|apply kd_|apply ka_);exact p7_ (kq_ BK256.out)) Tryz.underlying24 rfl (by kernel_rfl)) rfl ?_
       exact ⟨_,by first|rfl|(simp [errW_none,errW_some] <;> rfl)|(simp [*,errW_none,errW_some] <;> rfl),by (with_reducible repeat (first|apply Kd.R_alloc|apply Kd.R_drewN|apply Kd.R_drew));exact Kd.R_mono (f7_ (g:=gb256) (Kd.R_types HO275.out BK256.out (by decide)) (fun _ hk=>hk.2) (.int .i64 t268) (.int .i64 t269) (.int .i64 t270) (.string t271) (.string t272) (.slice Ao21 t273.length co21) (.bool t276)) (fun _ hk=>trivial),bq1_ HB.out GE256.out⟩
      ·replace c17:=bm_ c17
       subst c17
       have H1:(some (0,0,0,(⟨#[]⟩:ByteArray),(⟨#[]⟩:ByteArray),([]:List (S52)),false,10))=some (r1,r2,r3,r4,r5,r6,r7,r8):=by rw [if_neg (show ¬ (false=true) by decide)] at H;exact H
       clear H
       have H:=H1
       clear H1
       simp only [Option.some.injEq,Prod.mk.injEq] at H
       obtain ⟨rfl,rfl,rfl,rfl,rfl,rfl,rfl,rfl⟩:=H
       go_wp2_with (first|((with_reducible refine gate_callee (f:=15) rfl ?_);refine gl_ (some 21) rfl rfl Tryz.func15 (by kernel_rfl) rfl #[.int .i64 a1,.int .i64 0,.int .i64 (wrap64 ((a0.size:Int) - 1))] rfl  ?_;(with_reducible refine (spec_l01In.calls a1 0 (wrap64 ((a0.size:Int) - 1)) true _ A9.out).mono ?_);rintro e w' ⟨rfl,⟨nd,rfl⟩⟩;refine ⟨_,rfl,?_⟩;(try (rw [drewN_self wc];generalize hq_:World.drewN wc _=wc;have n0_:Aside0 (wc.heap[gb256]? = some (.cells #[.int .i64 0,.int .i64 0,.int .i64 0,.string (⟨#[]⟩:ByteArray),.string (⟨#[]⟩:ByteArray),.slice none 0 0,.bool false] 24 (0,0))):=⟨by rw [←hq_];exact (kq_ BK256.out)⟩;have n1_:Aside0 (Below w.heap.size w wc):=⟨by rw [←hq_];exact (bq1_ HB.out GE256.out)⟩;clear BK256 HB hq_;have BK256:=n0_;have HB:=n1_;clear n0_ n1_;obtain ⟨hcygb256_0,hcygb256_1,hcygb256_2,hcygb256_3,hcygb256_4,hcygb256_5,hcygb256_6,hfygb256_0,hfygb256_1,hfygb256_2,hfygb256_3,hfygb256_4,hfygb256_5,hfygb256_6⟩:=g7_ BK256.out)))|(go_at_call 16;(with_reducible refine (spec_l01Tag.calls kj3 a2 false _ A16.out).mono ?_);rintro e w' ⟨rfl,⟨nd,rfl⟩⟩;(try (rw [drewN_self wc];generalize hq_:World.drewN wc _=wc;have n0_:Aside0 (wc.heap[gb256]? = some (.cells #[.int .i64 0,.int .i64 0,.int .i64 0,.string (⟨#[]⟩:ByteArray),.string (⟨#[]⟩:ByteArray),.slice none 0 0,.bool false] 24 (0,0))):=⟨by rw [←hq_];exact (kq_ BK256.out)⟩;have n1_:Aside0 (Below w.heap.size w wc):=⟨by rw [←hq_];exact (bq1_ HB.out GE256.out)⟩;clear BK256 HB hq_;have BK256:=n0_;have HB:=n1_;clear n0_ n1_;obtain ⟨hcygb256_0,hcygb256_1,hcygb256_2,hcygb256_3,hcygb256_4,hcygb256_5,hcygb256_6,hfygb256_0,hfygb256_1,hfygb256_2,hfygb256_3,hfygb256_4,hfygb256_5,hfygb256_6⟩:=g7_ BK256.out));obtain ⟨_,_,_,_,_,_,_,_,_,_,_,_,_,_⟩:=g7_ BK256.out))
       refine bodyPost_ret (results_ct rfl _ _ gb256 24 #[.int .i64 0,.int .i64 0,.int .i64 0,.string (⟨#[]⟩:ByteArray),.string (⟨#[]⟩:ByteArray),.slice none 0 0,.bool false] (0,0) _ rfl (by (with_reducible repeat first|apply kn_|apply kd_|apply ka_);exact p7_ (kq_ BK256.out)) Tryz.underlying24 rfl (by kernel_rfl)) rfl ?_
       exact ⟨_,by first|rfl|(simp [errW_none,errW_some] <;> rfl)|(simp [*,errW_none,errW_some] <;> rfl),by first|exact Kd.R_nil _ _ _ _ _|exact Kd.N_nil _ _ _ _ _|exact Kd.V_nil _ _ _ _ _|exact Kd.Q_nil _ _ _ _ _|exact Kd.S_nil _ _ _ _ _,bq1_ HB.out GE256.out⟩
    ·replace c10:=bm_ c10
     subst c10
     have H1:(some (0,0,0,(⟨#[]⟩:ByteArray),(⟨#[]⟩:ByteArray),([]:List (S52)),false,8))=some (r1,r2,r3,r4,r5,r6,r7,r8):=by rw [if_neg (show ¬ (false=true) by decide)] at H;exact H
     clear H
     have H:=H1
     clear H1
     simp only [Option.some.injEq,Prod.mk.injEq] at H
     obtain ⟨rfl,rfl,rfl,rfl,rfl,rfl,rfl,rfl⟩:=H
     go_wp2_with (first|((with_reducible refine gate_callee (f:=15) rfl ?_);refine gl_ (some 21) rfl rfl Tryz.func15 (by kernel_rfl) rfl #[.int .i64 a1,.int .i64 0,.int .i64 (wrap64 ((a0.size:Int) - 1))] rfl  ?_;(with_reducible refine (spec_l01In.calls a1 0 (wrap64 ((a0.size:Int) - 1)) false _ A9.out).mono ?_);rintro e w' ⟨rfl,⟨nd,rfl⟩⟩;refine ⟨_,rfl,?_⟩;(try (rw [drewN_self wc];generalize hq_:World.drewN wc _=wc;have n0_:Aside0 (wc.heap[gb256]? = some (.cells #[.int .i64 0,.int .i64 0,.int .i64 0,.string (⟨#[]⟩:ByteArray),.string (⟨#[]⟩:ByteArray),.slice none 0 0,.bool false] 24 (0,0))):=⟨by rw [←hq_];exact (kq_ BK256.out)⟩;have n1_:Aside0 (Below w.heap.size w wc):=⟨by rw [←hq_];exact (bq1_ HB.out GE256.out)⟩;clear BK256 HB hq_;have BK256:=n0_;have HB:=n1_;clear n0_ n1_;obtain ⟨hcygb256_0,hcygb256_1,hcygb256_2,hcygb256_3,hcygb256_4,hcygb256_5,hcygb256_6,hfygb256_0,hfygb256_1,hfygb256_2,hfygb256_3,hfygb256_4,hfygb256_5,hfygb256_6⟩:=g7_ BK256.out));obtain ⟨_,_,_,_,_,_,_,_,_,_,_,_,_,_⟩:=g7_ BK256.out))
     refine bodyPost_ret (results_ct rfl _ _ gb256 24 #[.int .i64 0,.int .i64 0,.int .i64 0,.string (⟨#[]⟩:ByteArray),.string (⟨#[]⟩:ByteArray),.slice none 0 0,.bool false] (0,0) _ rfl (by (with_reducible repeat first|apply kn_|apply kd_|apply ka_);exact p7_ (kq_ BK256.out)) Tryz.underlying24 rfl (by kernel_rfl)) rfl ?_
     exact ⟨_,by first|rfl|(simp [errW_none,errW_some] <;> rfl)|(simp [*,errW_none,errW_some] <;> rfl),by first|exact Kd.R_nil _ _ _ _ _|exact Kd.N_nil _ _ _ _ _|exact Kd.V_nil _ _ _ _ _|exact Kd.Q_nil _ _ _ _ _|exact Kd.S_nil _ _ _ _ _,bq1_ HB.out GE256.out⟩
/-! ### IndexFunc_string: function 57, by hand -/
set_option maxHeartbeats 1000000 in
/-- slices.IndexFunc at this type, whatever the predicate: the first place at which it holds. -/
theorem IndexFunc_string.holds (A:Option Addr) (n c:Nat) (v:Nat→Value) (p:Nat→Bool) (g:Nat) (lb:Array Value) (eg:∀ args w,(callFunc g args).run Tryz.prog w=.ok (.enter g args) w) (w:World)
 (hp:∀ j,j<n→∀ W,Below w.heap.size w W→Calls Tryz.prog g (#[v j]++lb) W fun e w'=>e=.returned (.bool (p j))∧Below w.heap.size w w')
 (hbig:n≤9223372036854775807) (hc:∀ j,j<n→∃ ad,A=some ad∧w.cell? (ad.add j)=some (v j)) :
 Calls Tryz.prog 57 #[.slice A n c,.func (.func g) #[] lb] w fun e w'=>e=.returned (.int .i64 (Mach.idxP p n))∧Below w.heap.size w w':=by
 have HC:=A_ hc
 have HP:=A_ hp
 clear hc hp
 go_enter Tryz.func57,Tryz.ntmps57
 go_wp2
 go_loopg [5,8] n (fun gg _ s8 wr=>∃ kk:Nat,kk≤n∧n - kk≤gg∧s8=.int .i64 kk∧Aside0 (Below w.heap.size w wr)∧Aside0 (∀ j,j<kk→p j=false))
 case atStart=>exact ⟨0,Nat.zero_le _,by omega,rfl,⟨Below.refl _ w⟩,⟨fun j hj=>absurd hj (Nat.not_lt_zero _)⟩⟩
 case round =>
  obtain ⟨kk,hkk,hg,rfl,BW,AA⟩:=hrel
  by_cases hlt:kk<n
  ·have hltz:(kk:Int)<(n:Int):=by omega
   obtain ⟨ad,e,l1⟩:=HC.out kk hlt
   cases e
   have l2:wr.cell? (ad.add kk)=some (v kk):=pw_cell_below BW.out l1
   clear l1
   have hcall:=HP.out kk hlt wr BW.out
   cases hq:p kk with
   | true =>
    rw [hq] at hcall
    go_wp2_with ((with_reducible refine hcall.mono ?_);rintro e w' ⟨rfl,hb'⟩)
    go_ret
    refine ⟨?_,hb'⟩
    rw [Mach.idxP_hit p n kk hlt hq AA.out]
    rfl
   | false =>
    rw [hq] at hcall
    go_wp2_with ((with_reducible refine hcall.mono ?_);rintro e w' ⟨rfl,hb'⟩)
    go_roundg (n - (kk+1))
    case measure=>omega
    case rel =>
     refine ⟨kk+1,by omega,by omega,by go_num,⟨hb'⟩,⟨fun j hj=>?_⟩⟩
     by_cases e:j=kk
     ·subst e;exact hq
     ·exact AA.out j (by omega)
  ·have hltz:¬ (kk:Int)<(n:Int):=by omega
   have:kk=n:=by omega
   subst this
   go_wp2
   go_ret
   refine ⟨?_,BW.out⟩
   rw [Mach.idxP_miss p kk AA.out]
   rfl
/-! ### ContainsFunc_string: function 35, by hand -/
/-- slices.ContainsFunc at this type, whatever the predicate. -/
theorem ContainsFunc_string.holds (A:Option Addr) (n c:Nat) (v:Nat→Value) (p:Nat→Bool) (g:Nat) (lb:Array Value) (eg:∀ args w,(callFunc g args).run Tryz.prog w=.ok (.enter g args) w) (w:World)
 (hp:∀ j,j<n→∀ W,Below w.heap.size w W→Calls Tryz.prog g (#[v j]++lb) W fun e w'=>e=.returned (.bool (p j))∧Below w.heap.size w w')
 (hbig:n≤9223372036854775807) (hc:∀ j,j<n→∃ ad,A=some ad∧w.cell? (ad.add j)=some (v j)) :
 Calls Tryz.prog 35 #[.slice A n c,.func (.func g) #[] lb] w fun e w'=>e=.returned (.bool (Mach.anyP p n))∧Below w.heap.size w w':=by
 rw [←Mach.idxP_any]
 have hcall:=IndexFunc_string.holds A n c v p g lb eg w hp hbig hc
 clear hc hp
 go_enter Tryz.func35,Tryz.ntmps35
 go_wp2_with (go_at_call 57;refine hcall.mono ?_;rintro e w' ⟨rfl,hb'⟩)
 go_ret
 exact ⟨rfl,hb'⟩
/-! ### impl_isLong: function 18, by hand -/
def impl_isLong.f (l0:List ByteArray):Option Bool:=if l0.length≤9223372036854775807 then some (l0.any fun t=>decide (65536<(t.size:Int))) else none
theorem impl_isLong.lit (t:ByteArray) (w:World):Calls Tryz.prog 36 #[.string t] w fun e w'=>e=.returned (.bool (decide (65536<(t.size:Int))))∧Below w.heap.size w w':=by
 go_enter Tryz.func36,Tryz.ntmps36
 go_wp2
 go_ret
 exact ⟨rfl,Below.refl _ _⟩
theorem impl_isLong.calls (A0:Option Addr) (c0:Nat) (l0:List ByteArray) (r:Bool) (w:World) (hr0:Kd.C Kd.string w A0 l0.length l0) (hc0:l0.length≤c0) (h:impl_isLong.f l0=some r) :
 Calls Tryz.prog 18 #[.slice A0 l0.length c0] w fun e w'=>e=.returned (.bool r)∧Below w.heap.size w w':=by
 unfold impl_isLong.f at h
 obtain ⟨hn,h⟩:=Option.ite_none_right_eq_some.mp h
 obtain rfl:=oi_ h
 have hcall:=ContainsFunc_string.holds A0 l0.length c0 (fun j=>.string (l0.getD j ByteArray.empty)) (fun j=>decide (65536<((l0.getD j ByteArray.empty).size:Int))) 36 #[] (Mach.enters_of Tryz.func36 (by kernel_rfl) rfl) w
  (fun j _ W hb=>(impl_isLong.lit _ W).mono fun e w' ⟨he,hb'⟩=>⟨he,hb.trans (hb'.mono hb.size)⟩) hn
  (fun j hj=>by
   obtain ⟨ad,e,hx⟩:=Kd.at_string hr0 (j:Int) (by omega) (by omega)
   exact ⟨ad,e,by simpa [rdOf] using hx⟩)
 rw [Mach.anyP_list (fun t:ByteArray=>decide (65536<(t.size:Int)))] at hcall
 clear hr0
 go_enter Tryz.func18,Tryz.ntmps18
 go_wp2_with (go_at_call 35;refine hcall.mono ?_;rintro e w' ⟨rfl,hb'⟩)
 go_ret
 exact ⟨rfl,hb'⟩
/-- One text, in the slice that its caller has just built. -/
theorem impl_isLong.one (a1:ByteArray) (W:World):Calls Tryz.prog 18 #[.slice (some ⟨W.heap.size,0,none⟩) 1 1] (W.alloc (.cells #[.string a1] 9)) fun e w'=>e=.returned (.bool (decide (65536<(a1.size:Int))))∧Below (W.alloc (.cells #[.string a1] 9)).heap.size (W.alloc (.cells #[.string a1] 9)) w' :=
 impl_isLong.calls (some ⟨W.heap.size,0,none⟩) 1 [a1] (decide (65536<(a1.size:Int))) (W.alloc (.cells #[.string a1] 9)) ⟨rfl,by simp,fun _=>⟨_,rfl,fun j p hj=>by
  cases j with
  | succ j=>simp at hj
  | zero =>
   obtain rfl:a1=p:=by simpa using hj
   exact ⟨[.string a1],rfl,rfl,fun i u hi=>by
    cases i with
    | succ i=>simp at hi
    | zero =>
     simp at hi
     rw [←hi,add_plain]
     simp⟩⟩⟩ (Nat.le_refl _) (by unfold impl_isLong.f;rw [if_pos (by simp)];simp)
/-! ### impl_within: function 19 -/
def impl_within.f (a0:Int) (a1:Int) (a2:Int):Option (Bool):=if a0≥a1 then (some (decide (a0≤a2))) else (some false)
set_option maxHeartbeats 8000000 in
set_option maxRecDepth 100000 in
theorem impl_within.calls (a0:Int) (a1:Int) (a2:Int) (r:Bool) (w:World) (h:impl_within.f a0 a1 a2=some r) :
 Calls Tryz.prog 19 #[.int .i64 a0,.int .i64 a1,.int .i64 a2] w fun e w'=>e=.returned (.bool r)∧Drawn0 w w':=by
 have H:(if a0≥a1 then (some (decide (a0≤a2))) else (some false))=some r:=h
 clear h
 by_cases c4:a0≥a1
 ·rw [if_pos c4] at H
  have c4b0:decide (a1≤a0)=true:=dt_ c4
  clear c4
  obtain rfl:=oi_ H
  go_enter Tryz.func19,Tryz.ntmps19
  go_wp2
  go_ret
  exact ⟨by first|rfl|(simp;done)|(simp [*];done),by repeat (first|exact dr_ _|apply dp_)⟩
 ·rw [if_neg c4] at H
  have c4b0:decide (a1≤a0)=false:=df_ c4
  clear c4
  obtain rfl:=oi_ H
  go_enter Tryz.func19,Tryz.ntmps19
  go_wp2
  go_ret
  exact ⟨by first|rfl|(simp;done)|(simp [*];done),by repeat (first|exact dr_ _|apply dp_)⟩
theorem impl_within.pure (n a b:Int) (W:World):Calls Tryz.prog 19 #[.int .i64 n,.int .i64 a,.int .i64 b] W fun e w'=>e=.returned (.bool (decide (a≤n∧n≤b)))∧Drawn0 W w':=by
 refine impl_within.calls n a b _ W ?_
 unfold impl_within.f
 by_cases h:n≥a
 ·rw [if_pos h];simp [h]
 ·rw [if_neg h];simp;omega
/-! ### impl_isSmall: function 37 -/
def impl_isSmall.f (a0:Int):Option (Bool):=if a0≥97 then (some (decide (a0≤122))) else (some false)
set_option maxHeartbeats 8000000 in
set_option maxRecDepth 100000 in
theorem impl_isSmall.calls (a0:Int) (r:Bool) (w:World) (h:impl_isSmall.f a0=some r) :
 Calls Tryz.prog 37 #[.int .u8 a0] w fun e w'=>e=.returned (.bool r)∧Drawn0 w w':=by
 have H:(if a0≥97 then (some (decide (a0≤122))) else (some false))=some r:=h
 clear h
 by_cases c2:a0≥97
 ·rw [if_pos c2] at H
  have c2b0:decide (97≤a0)=true:=dt_ c2
  clear c2
  obtain rfl:=oi_ H
  go_enter Tryz.func37,Tryz.ntmps37
  go_wp2
  go_ret
  exact ⟨by first|rfl|(simp;done)|(simp [*];done),by repeat (first|exact dr_ _|apply dp_)⟩
 ·rw [if_neg c2] at H
  have c2b0:decide (97≤a0)=false:=df_ c2
  clear c2
  obtain rfl:=oi_ H
  go_enter Tryz.func37,Tryz.ntmps37
  go_wp2
  go_ret
  exact ⟨by first|rfl|(simp;done)|(simp [*];done),by repeat (first|exact dr_ _|apply dp_)⟩
/-! ### impl_isDigit: function 38 -/
def impl_isDigit.f (a0:Int):Option (Bool):=if a0≥48 then (some (decide (a0≤57))) else (some false)
set_option maxHeartbeats 8000000 in
set_option maxRecDepth 100000 in
theorem impl_isDigit.calls (a0:Int) (r:Bool) (w:World) (h:impl_isDigit.f a0=some r) :
 Calls Tryz.prog 38 #[.int .u8 a0] w fun e w'=>e=.returned (.bool r)∧Drawn0 w w':=by
 have H:(if a0≥48 then (some (decide (a0≤57))) else (some false))=some r:=h
 clear h
 by_cases c2:a0≥48
 ·rw [if_pos c2] at H
  have c2b0:decide (48≤a0)=true:=dt_ c2
  clear c2
  obtain rfl:=oi_ H
  go_enter Tryz.func38,Tryz.ntmps38
  go_wp2
  go_ret
  exact ⟨by first|rfl|(simp;done)|(simp [*];done),by repeat (first|exact dr_ _|apply dp_)⟩
 ·rw [if_neg c2] at H
  have c2b0:decide (48≤a0)=false:=df_ c2
  clear c2
  obtain rfl:=oi_ H
  go_enter Tryz.func38,Tryz.ntmps38
  go_wp2
  go_ret
  exact ⟨by first|rfl|(simp;done)|(simp [*];done),by repeat (first|exact dr_ _|apply dp_)⟩
end Go.Proofs.YtfkanlbmgbkniaaGreatDoor.PFnExactNextToken
