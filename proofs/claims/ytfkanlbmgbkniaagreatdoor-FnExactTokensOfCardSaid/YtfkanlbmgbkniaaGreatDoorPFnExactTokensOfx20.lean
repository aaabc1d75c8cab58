/- The machine side of a law, printed by a program. No conditions. -/
import Derived.Test.YtfkanlbmgbkniaaGreatDoorPFnExactTokensOfx0
import Derived.Test.YtfkanlbmgbkniaaGreatDoorPFnExactTokensOfx13
import Derived.Test.YtfkanlbmgbkniaaGreatDoorPFnExactTokensOfx14
import Derived.Test.YtfkanlbmgbkniaaGreatDoorPFnExactTokensOfx15
import Derived.Test.YtfkanlbmgbkniaaGreatDoorPFnExactTokensOfx18
import Derived.Test.YtfkanlbmgbkniaaGreatDoorPFnExactTokensOfx19
namespace Go.Proofs.YtfkanlbmgbkniaaGreatDoor.PFnExactTokensOf
open Go.RowKit Go.Proofs.YtfkanlbmgbkniaaGreatDoorW.PrintWords Go.Proofs.YtfkanlbmgbkniaaGreatDoorW.PrintLast Go.Proofs.YtfkanlbmgbkniaaGreatDoorW.PrintMore
attribute [local go_sem] max2_int min2_int max_two min_two max_three min_three max_four min_four
set_option linter.unusedVariables false
set_option linter.unusedSimpArgs false
mutual
def impl_nextToken.j0:Nat→ByteArray→Int→Option (Int × Int × Int × ByteArray × ByteArray × (List (S52)) × Bool)
 | 0,_,_=>none
 | k+1,x0,x1=>if 0≤x1 then (if x1≤(x0.size:Int) then (if 0<((x0.extract (x1:Int).toNat x0.size).size:Int) then (if (bt (x0.extract (x1:Int).toNat x0.size) 0)=60 then (impl_nextToken.j1 k x0 x1 (x0.extract (x1:Int).toNat x0.size) (decide (((x0.extract (x1:Int).toNat x0.size).size:Int)>1))) else (impl_nextToken.j1 k x0 x1 (x0.extract (x1:Int).toNat x0.size) false)) else (none)) else (none)) else (none)
def impl_nextToken.j1:Nat→ByteArray→Int→ByteArray→Bool→Option (Int × Int × Int × ByteArray × ByteArray × (List (S52)) × Bool)
 | 0,_,_,_,_=>none
 | k+1,x0,x1,x8,x39=>if x39=true then (if 1<(x8.size:Int) then ((impl_isLetter.f (bt x8 1)).bind fun t396=>(if t396=true then ((impl_open.f k x0 x1).bind fun bt397=>(some (bt397.1,bt397.2.1,bt397.2.2.1,bt397.2.2.2.1,bt397.2.2.2.2.1,bt397.2.2.2.2.2.1,bt397.2.2.2.2.2.2))) else (if (bt x8 1)=47 then (if (x8.size:Int)>2 then (if 2<(x8.size:Int) then ((impl_isLetter.f (bt x8 2)).bind fun t406=>(impl_nextToken.j2 k x0 x1 x8 (bt x8 1) t406)) else (none)) else (impl_nextToken.j2 k x0 x1 x8 (bt x8 1) false)) else (impl_nextToken.j2 k x0 x1 x8 (bt x8 1) false)))) else (none)) else ((impl_upTo.f k x0 (wrap64 (x1+1)) (⟨#[60]⟩:ByteArray)).bind fun t437=>(if 0≤x1 then (if x1≤t437 then (if t437≤(x0.size:Int) then ((impl_unescape.f k (x0.extract (x1:Int).toNat (t437:Int).toNat)).bind fun t438=>(some (1,x1,wrap64 (t437 - x1),(⟨#[]⟩:ByteArray),t438,([]:List (S52)),false))) else (none)) else (none)) else (none)))
def impl_nextToken.j2:Nat→ByteArray→Int→ByteArray→Int→Bool→Option (Int × Int × Int × ByteArray × ByteArray × (List (S52)) × Bool)
 | 0,_,_,_,_,_=>none
 | k+1,x0,x1,x8,x9,x48=>if x48=true then ((impl_closes.f k x0 x1).bind fun bt407=>(some (bt407.1,bt407.2.1,bt407.2.2.1,bt407.2.2.2.1,bt407.2.2.2.2.1,bt407.2.2.2.2.2.1,bt407.2.2.2.2.2.2))) else ((strings_HasPrefix.f x8 (⟨#[60,33,45,45]⟩:ByteArray)).bind fun t416=>(if t416=true then ((impl_comment.f x0 x1 (wrap64 (x1+4)) (⟨#[45,45,62]⟩:ByteArray)).bind fun bt417=>(some (bt417.1,bt417.2.1,bt417.2.2.1,bt417.2.2.2.1,bt417.2.2.2.2.1,bt417.2.2.2.2.2.1,bt417.2.2.2.2.2.2))) else (if x9=33 then (impl_nextToken.j3 k x0 x1 true) else (if x9=63 then (impl_nextToken.j3 k x0 x1 true) else (impl_nextToken.j3 k x0 x1 (x9 == 47))))))
def impl_nextToken.j3:Nat→ByteArray→Int→Bool→Option (Int × Int × Int × ByteArray × ByteArray × (List (S52)) × Bool)
 | 0,_,_,_=>none
 | k+1,x0,x1,x72=>if x72=true then ((impl_comment.f x0 x1 (wrap64 (x1+2)) (⟨#[62]⟩:ByteArray)).bind fun bt426=>(some (bt426.1,bt426.2.1,bt426.2.2.1,bt426.2.2.2.1,bt426.2.2.2.2.1,bt426.2.2.2.2.2.1,bt426.2.2.2.2.2.2))) else ((impl_upTo.f k x0 (wrap64 (x1+1)) (⟨#[60]⟩:ByteArray)).bind fun t435=>(if 0≤x1 then (if x1≤t435 then (if t435≤(x0.size:Int) then ((impl_unescape.f k (x0.extract (x1:Int).toNat (t435:Int).toNat)).bind fun t436=>(some (1,x1,wrap64 (t435 - x1),(⟨#[]⟩:ByteArray),t436,([]:List (S52)),false))) else (none)) else (none)) else (none)))
end
def impl_nextToken.f (k:Nat) (a0:ByteArray) (a1:Int) (a2:ByteArray):Option (Int × Int × Int × ByteArray × ByteArray × (List (S52)) × Bool):=if a2.toList=([]:List UInt8) then (impl_nextToken.j0 k a0 a1) else ((impl_rawEnd.f k a0 a1 a2).bind fun t395=>(if t395>a1 then (if 0≤a1 then (if a1≤t395 then (if t395≤(a0.size:Int) then (some (1,a1,wrap64 (t395 - a1),(⟨#[]⟩:ByteArray),a0.extract (a1:Int).toNat (t395:Int).toNat,([]:List (S52)),false)) else (none)) else (none)) else (none)) else (impl_nextToken.j0 k a0 a1)))
theorem impl_nextToken.mono_l:∀ k,(∀ y0 y1,LeO (impl_nextToken.j0 k y0 y1) (impl_nextToken.j0 (k+1) y0 y1))∧(∀ y0 y1 y2 y3,LeO (impl_nextToken.j1 k y0 y1 y2 y3) (impl_nextToken.j1 (k+1) y0 y1 y2 y3))∧(∀ y0 y1 y2 y3 y4,LeO (impl_nextToken.j2 k y0 y1 y2 y3 y4) (impl_nextToken.j2 (k+1) y0 y1 y2 y3 y4))∧(∀ y0 y1 y2,LeO (impl_nextToken.j3 k y0 y1 y2) (impl_nextToken.j3 (k+1) y0 y1 y2))
 | 0=>⟨fun _ _ r h=>by simp [impl_nextToken.j0] at h,fun _ _ _ _ r h=>by simp [impl_nextToken.j1] at h,fun _ _ _ _ _ r h=>by simp [impl_nextToken.j2] at h,fun _ _ _ r h=>by simp [impl_nextToken.j3] at h⟩
 | k+1=>by
  obtain ⟨ih0,ih1,ih2,ih3⟩:=impl_nextToken.mono_l k
  refine ⟨?_,?_,?_,?_⟩
  ·intro y0 y1
   unfold impl_nextToken.j0
   repeat' first|(with_reducible first|exact ih0 ..|exact ih1 ..|exact ih2 ..|exact ih3 ..|exact impl_closes.mono ..|exact impl_open.mono ..|exact impl_rawEnd.mono ..|exact impl_unescape.mono ..|exact impl_upTo.mono ..|exact LeO.refl _|exact LeO.none _|refine LeO.ite ?_ ?_|refine LeO.bind ?_ (fun _=>?_))|exact ih0 ..|exact ih1 ..|exact ih2 ..|exact ih3 ..|exact LeO.none _|refine LeO.ite ?_ ?_|refine LeO.bind ?_ (fun _=>?_)
  ·intro y0 y1 y2 y3
   unfold impl_nextToken.j1
   repeat' first|(with_reducible first|exact ih0 ..|exact ih1 ..|exact ih2 ..|exact ih3 ..|exact impl_closes.mono ..|exact impl_open.mono ..|exact impl_rawEnd.mono ..|exact impl_unescape.mono ..|exact impl_upTo.mono ..|exact LeO.refl _|exact LeO.none _|refine LeO.ite ?_ ?_|refine LeO.bind ?_ (fun _=>?_))|exact ih0 ..|exact ih1 ..|exact ih2 ..|exact ih3 ..|exact LeO.none _|refine LeO.ite ?_ ?_|refine LeO.bind ?_ (fun _=>?_)
  ·intro y0 y1 y2 y3 y4
   unfold impl_nextToken.j2
   repeat' first|(with_reducible first|exact ih0 ..|exact ih1 ..|exact ih2 ..|exact ih3 ..|exact impl_closes.mono ..|exact impl_open.mono ..|exact impl_rawEnd.mono ..|exact impl_unescape.mono ..|exact impl_upTo.mono ..|exact LeO.refl _|exact LeO.none _|refine LeO.ite ?_ ?_|refine LeO.bind ?_ (fun _=>?_))|exact ih0 ..|exact ih1 ..|exact ih2 ..|exact ih3 ..|exact LeO.none _|refine LeO.ite ?_ ?_|refine LeO.bind ?_ (fun _=>?_)
  ·intro y0 y1 y2
   unfold impl_nextToken.j3
   repeat' first|(with_reducible first|exact ih0 ..|exact ih1 ..|exact ih2 ..|exact ih3 ..|exact impl_closes.mono ..|exact impl_open.mono ..|exact impl_rawEnd.mono ..|exact impl_unescape.mono ..|exact impl_upTo.mono ..|exact LeO.refl _|exact LeO.none _|refine LeO.ite ?_ ?_|refine LeO.bind ?_ (fun _=>?_))|exact ih0 ..|exact ih1 ..|exact ih2 ..|exact ih3 ..|exact LeO.none _|refine LeO.ite ?_ ?_|refine LeO.bind ?_ (fun _=>?_)
theorem impl_nextToken.mono:∀ a0 a1 a2 k,LeO (impl_nextToken.f k a0 a1 a2) (impl_nextToken.f (k+1) a0 a1 a2):=by
 intro a0 a1 a2 k
 obtain ⟨ih0,ih1,ih2,ih3⟩:=impl_nextToken.mono_l k
 unfold impl_nextToken.f
 repeat' first|(with_reducible first|exact ih0 ..|exact ih1 ..|exact ih2 ..|exact ih3 ..|exact impl_closes.mono ..|exact impl_open.mono ..|exact impl_rawEnd.mono ..|exact impl_unescape.mono ..|exact impl_upTo.mono ..|exact LeO.refl _|exact LeO.none _|refine LeO.ite ?_ ?_|refine LeO.bind ?_ (fun _=>?_))|exact ih0 ..|exact ih1 ..|exact ih2 ..|exact ih3 ..|exact LeO.none _|refine LeO.ite ?_ ?_|refine LeO.bind ?_ (fun _=>?_)
set_option maxHeartbeats 8000000 in
set_option maxRecDepth 100000 in
theorem impl_nextToken.calls (k:Nat) (a0:ByteArray) (a1:Int) (a2:ByteArray) (r1:Int) (r2:Int) (r3:Int) (r4:ByteArray) (r5:ByteArray) (r6:List (S52)) (r7:Bool) (w:World) (hL:Laid w) (h:impl_nextToken.f k a0 a1 a2=some (r1,r2,r3,r4,r5,r6,r7)) :
 Calls Tryz.prog 21 #[.string a0,.int .i64 a1,.string a2] w fun e w'=>∃ v5_:Value,e=.returned (.agg #[.int .i64 r1,.int .i64 r2,.int .i64 r3,.string r4,.string r5,v5_,.bool r7])∧Kd.R k52 52 w' w.heap.size (fun _=>True) v5_ r6∧Below w.heap.size w w':=by
 have hu24:=Tryz.underlying24
 have HB:=A_ (Below.refl w.heap.size w)
 have HL:=A_ hL
 clear hL
 have H:(if a2.toList=([]:List UInt8) then (impl_nextToken.j0 k a0 a1) else ((impl_rawEnd.f k a0 a1 a2).bind fun t395=>(if t395>a1 then (if 0≤a1 then (if a1≤t395 then (if t395≤(a0.size:Int) then (some (1,a1,wrap64 (t395 - a1),(⟨#[]⟩:ByteArray),a0.extract (a1:Int).toNat (t395:Int).toNat,([]:List (S52)),false)) else (none)) else (none)) else (none)) else (impl_nextToken.j0 k a0 a1))))=some (r1,r2,r3,r4,r5,r6,r7):=h
 clear h
 have HC4:=A_ H
 clear H
 go_enter Tryz.func21,Tryz.ntmps21
 go_upto_if 12 with (first|((with_reducible refine gate_dst (N:=6) rfl ?_);(try (refine gate_guard (by rfl) ?_;dsimp only));refine box_event ?hg (N:=6) ?hd (cs:=#[.int .i64 0,.int .i64 0,.int .i64 0,.string (⟨#[]⟩:ByteArray),.string (⟨#[]⟩:ByteArray),.slice none 0 0,.bool false]) (t:=24) ?hr ?_;(case hd=>rfl);(case hg=>rfl);(case hr=>first|(go_simp;done)|(go_simp;rfl)|(first|(go_simp;done)|(go_simp;rfl)));intro gb394 hg w5 hbox hb;have n0_:=A_ (bp_ (bq0_ HB.out) hb);have n1_:=A_ (hbox);have n2_:=A_ ((by rw [hg];exact (bz_ (bq0_ HB.out)):w.heap.size≤gb394));have n3_:=A_ ((by rw [hg];exact (bz_ (bq0_ HB.out)):w.heap.size≤gb394));clear HB;have HB:=n0_;have BK394:=n1_;have GW394:=n2_;have GE394:=n3_;clear n0_ n1_ n2_ n3_;clear hb hbox hg))
 (try simp only [Act.put,ls_,lz_,lc_])
 go_cut [] (fun wc=>∃ (kq:Nat) (x395000_3:Int) (x395001_3:Int) (x395002_3:Int) (x395003_3:ByteArray) (x395004_3:ByteArray) (x395006_3:Bool),Aside0 (impl_nextToken.j0 kq a0 a1=some (r1,r2,r3,r4,r5,r6,r7))∧Aside0 (kq≤k)∧Aside0 (wc.heap[gb394]? = some (.cells #[.int .i64 x395000_3,.int .i64 x395001_3,.int .i64 x395002_3,.string x395003_3,.string x395004_3,(.slice none 0 0),.bool x395006_3] 24 (0,0)))∧Aside0 (Below w.heap.size w wc))
 case first =>
  have H:=HC4.out
  clear HC4
  by_cases c6:a2.toList=([]:List UInt8)
  ·rw [if_pos c6] at H
   have c6b0:(a2.toList == ([]:List UInt8))=true:=beq_iff_eq.mpr c6
   have c6b1:(a2.toList != ([]:List UInt8))=false:=bne_eq_false_iff_eq.mpr c6
   have c6b5:(a2.toList).isEmpty=true:=by simpa using c6b0
   have c6b6:(!(a2.toList).isEmpty)=false:=by rw [c6b5];rfl
   clear c6
   (first|rw [c6b0]|(simp only [i64_w,i32_w];rw [c6b0])|rw [c6b6]|skip)
   have H':=A_ H
   clear H
   go_wp2
   go_meet
   case rel=>exact ⟨_,(0),(0),(0),((⟨#[]⟩:ByteArray)),((⟨#[]⟩:ByteArray)),(false),H',⟨by first|omega|exact Nat.le_refl _⟩,⟨kq_ BK394.out⟩,⟨bq1_ HB.out GE394.out⟩⟩
  ·rw [if_neg c6] at H
   have c6b0:(a2.toList == ([]:List UInt8))=false:=beq_eq_false_iff_ne.mpr c6
   have c6b1:(a2.toList != ([]:List UInt8))=true:=bne_iff_ne.mpr c6
   have c6b5:(a2.toList).isEmpty=false:=by simpa using c6b0
   have c6b6:(!(a2.toList).isEmpty)=true:=by rw [c6b5];rfl
   (first|rw [c6b0]|(simp only [i64_w,i32_w];rw [c6b0])|rw [c6b6]|skip)
   replace H:=ob_ H
   obtain ⟨t395,A70,H⟩:=H
   replace H:(if t395>a1 then (if 0≤a1 then (if a1≤t395 then (if t395≤(a0.size:Int) then (some (1,a1,wrap64 (t395 - a1),(⟨#[]⟩:ByteArray),a0.extract (a1:Int).toNat (t395:Int).toNat,([]:List (S52)),false)) else (none)) else (none)) else (none)) else (impl_nextToken.j0 k a0 a1))=some (r1,r2,r3,r4,r5,r6,r7):=H
   have A7:=A_ A70
   clear A70
   by_cases c8:t395>a1
   ·rw [if_pos c8] at H
    have c8b0:decide (a1<t395)=true:=dt_ c8
    clear c8
    by_cases c9:0≤a1
    ·rw [if_pos c9] at H
     have c9b0:=eq_true c9
     have c9b1:decide (0≤a1)=true:=dt_ c9
     clear c9
     by_cases c10:a1≤t395
     ·rw [if_pos c10] at H
      have c10b0:=eq_true c10
      have c10b1:decide (a1≤t395)=true:=dt_ c10
      clear c10
      by_cases c11:t395≤(a0.size:Int)
      ·rw [if_pos c11] at H
       have c11b0:=eq_true c11
       have c11b1:decide (t395≤(a0.size:Int))=true:=dt_ c11
       clear c11
       simp only [Option.some.injEq,Prod.mk.injEq] at H
       obtain ⟨rfl,rfl,rfl,rfl,rfl,rfl,rfl⟩:=H
       go_wp2_with (first|((with_reducible refine gate_callee (f:=39) rfl ?_);refine gl_ (some 16) rfl rfl Tryz.func39 (by kernel_rfl) rfl #[.string a0,.int .i64 a1,.string a2] rfl  ?_;(with_reducible refine (impl_rawEnd.calls k a0 a1 a2 t395 _ A7.out).mono ?_);rintro e w12 ⟨rfl,hb⟩;refine ⟨_,rfl,?_⟩;have n0_:=A_ (kb_ (kq_ BK394.out) hb);have n1_:=A_ (bp_ (bq1_ HB.out GE394.out) hb);clear BK394;clear HB;have BK394:=n0_;have HB:=n1_;clear n0_ n1_;(try clear hb);(try clear hb2);(try clear hk);(try clear hi);obtain ⟨hcz13_0,hcz13_1,hcz13_2,hcz13_3,hcz13_4,hcz13_5,hcz13_6,hfz13_0,hfz13_1,hfz13_2,hfz13_3,hfz13_4,hfz13_5,hfz13_6⟩:=g7_ BK394.out))
       refine bodyPost_ret (results_cell_row rfl _ _ gb394 24 #[.int .i64 1,.int .i64 a1,.int .i64 (wrap64 (t395 - a1)),.string (⟨#[]⟩:ByteArray),.string (a0.extract (a1:Int).toNat (t395:Int).toNat),.slice none 0 0,.bool false] (0,0) _ rfl (by (with_reducible repeat first|apply kn_|apply kd_|apply ka_);exact p7_ (kq_ BK394.out)) Tryz.underlying24 rfl (by kernel_rfl)) rfl ?_
       exact ⟨_,by first|rfl|(simp [errW_none,errW_some] <;> rfl)|(simp [*,errW_none,errW_some] <;> rfl),by first|exact Kd.R_nil _ _ _ _ _|exact Kd.N_nil _ _ _ _ _|exact Kd.V_nil _ _ _ _ _|exact Kd.Q_nil _ _ _ _ _|exact Kd.S_nil _ _ _ _ _,bq1_ HB.out GE394.out⟩
      ·rw [if_neg c11] at H
       exact absurd H (by simp)
     ·rw [if_neg c10] at H
      exact absurd H (by simp)
    ·rw [if_neg c9] at H
     exact absurd H (by simp)
   ·rw [if_neg c8] at H
    have c8b0:decide (a1<t395)=false:=df_ c8
    clear c8
    have H':=A_ H
    clear H
    go_wp2_with (first|((with_reducible refine gate_callee (f:=39) rfl ?_);refine gl_ (some 16) rfl rfl Tryz.func39 (by kernel_rfl) rfl #[.string a0,.int .i64 a1,.string a2] rfl  ?_;(with_reducible refine (impl_rawEnd.calls k a0 a1 a2 t395 _ A7.out).mono ?_);rintro e w14 ⟨rfl,hb⟩;refine ⟨_,rfl,?_⟩;have n0_:=A_ (kb_ (kq_ BK394.out) hb);have n1_:=A_ (bp_ (bq1_ HB.out GE394.out) hb);clear BK394;clear HB;have BK394:=n0_;have HB:=n1_;clear n0_ n1_;(try clear hb);(try clear hb2);(try clear hk);(try clear hi)))
    go_meet
    case rel=>exact ⟨_,(0),(0),(0),((⟨#[]⟩:ByteArray)),((⟨#[]⟩:ByteArray)),(false),H',⟨by first|omega|exact Nat.le_refl _⟩,⟨kq_ BK394.out⟩,⟨bq1_ HB.out GE394.out⟩⟩
 case rest =>
  clear HC4
  try clear c1
  try clear c2
  try clear p2
  try clear c3
  try clear c6
  try clear c6b0
  try clear c6b1
  try clear p6
  try clear c8
  try clear c8b0
  try clear c9
  try clear c9b0
  try clear c9b1
  try clear c10
  try clear c10b0
  try clear c10b1
  try clear c11
  try clear c11b0
  try clear c11b1
  try clear hcz13_0
  try clear hcz13_1
  try clear hcz13_2
  try clear hcz13_3
  try clear hcz13_4
  try clear hcz13_5
  try clear hcz13_6
  try clear hfz13_0
  try clear hfz13_1
  try clear hfz13_2
  try clear hfz13_3
  try clear hfz13_4
  try clear hfz13_5
  try clear hfz13_6
  obtain ⟨kq,x395000_3,x395001_3,x395002_3,x395003_3,x395004_3,x395006_3,HA,HJ3,BK394,HB⟩:=hcut
  cases kq with
  | zero=>exact absurd HA.out (by simp [impl_nextToken.j0])
  | succ kj3 =>
   have H:=HA.out
   clear HA
   simp only [impl_nextToken.j0] at H
   by_cases c15:0≤a1
   ·rw [if_pos c15] at H
    have c15b0:=eq_true c15
    have c15b1:decide (0≤a1)=true:=dt_ c15
    clear c15
    by_cases c16:a1≤(a0.size:Int)
    ·rw [if_pos c16] at H
     have c16b0:=eq_true c16
     have c16b1:decide (a1≤(a0.size:Int))=true:=dt_ c16
     clear c16
     have HC17:=A_ H
     clear H
     go_upto_region 6 with (fail)
     generalize hx9_:a0.extract (a1:Int).toNat a0.size=ext_ at HC17 ⊢
     have HX9_:=A_ hx9_
     clear hx9_
     go_cut [39] (fun v39 wc=>∃ (kq:Nat) (x39_16:Bool),v39=.bool x39_16∧Aside0 (impl_nextToken.j1 kq a0 a1 ext_ x39_16=some (r1,r2,r3,r4,r5,r6,r7))∧Aside0 (kq≤kj3)∧Aside0 (wc.heap[gb394]? = some (.cells #[.int .i64 x395000_3,.int .i64 x395001_3,.int .i64 x395002_3,.string x395003_3,.string x395004_3,(.slice none 0 0),.bool x395006_3] 24 (0,0)))∧Aside0 (Below w.heap.size w wc))
     case first =>
      have H:=HC17.out
      clear HC17
      by_cases c18:0<(ext_.size:Int)
      ·rw [if_pos c18] at H
       have c18b0:decide (0<(ext_.size:Int))=true:=dt_ c18
       have c18b1:decide (0<ext_.size)=true:=dt_ (by omega)
       clear c18
       (first|rw [c18b0]|(simp only [i64_w,i32_w];rw [c18b0])|skip)
       by_cases c20:(bt ext_ 0)=60
       ·rw [if_pos c20] at H
        have c20b0:((bt ext_ 0) == 60)=true:=beq_iff_eq.mpr c20
        have c20b1:((bt ext_ 0) != 60)=false:=bne_eq_false_iff_eq.mpr c20
        clear c20
        have H':=A_ H
        clear H
        have p19:0≤(0:Int):=(by omega)
        have q19:0<ext_.size:=(by have:(0:Int)<(ext_.size:Int):=oa_;omega)
        have hx19:∀ h:0<ext_.size,((ext_[0]'h).toNat:Int)=bt ext_ 0:=bt_at ext_ 0
        clear p19
        have qi19:(0<(ext_.size:Int))=True:=eq_true (oa_)
        replace q19:=eq_true q19
        go_wp2
        go_meet
        case rel=>exact ⟨_,(decide ((ext_.size:Int)>1)),rs_,H',⟨by have:=HJ3.out;first|omega|exact Nat.le_refl _⟩,⟨kq_ BK394.out⟩,⟨bq1_ HB.out GE394.out⟩⟩
       ·rw [if_neg c20] at H
        have c20b0:((bt ext_ 0) == 60)=false:=beq_eq_false_iff_ne.mpr c20
        have c20b1:((bt ext_ 0) != 60)=true:=bne_iff_ne.mpr c20
        have H':=A_ H
        clear H
        have p19:0≤(0:Int):=(by omega)
        have q19:0<ext_.size:=(by have:(0:Int)<(ext_.size:Int):=oa_;omega)
        have hx19:∀ h:0<ext_.size,((ext_[0]'h).toNat:Int)=bt ext_ 0:=bt_at ext_ 0
        clear p19
        have qi19:(0<(ext_.size:Int))=True:=eq_true (oa_)
        replace q19:=eq_true q19
        go_wp2
        go_meet
        case rel=>exact ⟨_,(false),rs_,H',⟨by have:=HJ3.out;first|omega|exact Nat.le_refl _⟩,⟨kq_ BK394.out⟩,⟨bq1_ HB.out GE394.out⟩⟩
      ·rw [if_neg c18] at H
       exact absurd H (by simp)
     case rest =>
      clear HC17
      try clear c1
      try clear p1
      try clear q1
      try clear hx1
      try clear qi1
      try clear c2
      try clear p2
      try clear c3
      try clear c6
      try clear c6b0
      try clear c6b1
      try clear p6
      try clear c8
      try clear c8b0
      try clear c9
      try clear c9b0
      try clear c9b1
      try clear c10
      try clear c10b0
      try clear c10b1
      try clear c11
      try clear c11b0
      try clear c11b1
      try clear c15
      try clear c15b0
      try clear c15b1
      try clear c16
      try clear c16b0
      try clear c16b1
      try clear c18
      try clear c18b0
      try clear c18b1
      try clear p19
      try clear q19
      try clear hx19
      try clear qi19
      try clear c20
      try clear c20b0
      try clear c20b1
      try clear hcz13_0
      try clear hcz13_1
      try clear hcz13_2
      try clear hcz13_3
      try clear hcz13_4
      try clear hcz13_5
      try clear hcz13_6
      try clear hfz13_0
      try clear hfz13_1
      try clear hfz13_2
      try clear hfz13_3
      try clear hfz13_4
      try clear hfz13_5
      try clear hfz13_6
      try clear p19
      try clear p2
      try clear p6
      try clear q19
      obtain ⟨kq,x39_16,rfl,HA,HJ16,BK394,HB⟩:=hcut
      cases kq with
      | zero=>exact absurd HA.out (by simp [impl_nextToken.j1])
      | succ kj16 =>
       have H:=HA.out
       clear HA
       simp only [impl_nextToken.j1] at H
       by_cases c21:x39_16=true
       ·subst c21
        have H1:(if 1<(ext_.size:Int) then ((impl_isLetter.f (bt ext_ 1)).bind fun t396=>(if t396=true then ((impl_open.f kj16 a0 a1).bind fun bt397=>(some (bt397.1,bt397.2.1,bt397.2.2.1,bt397.2.2.2.1,bt397.2.2.2.2.1,bt397.2.2.2.2.2.1,bt397.2.2.2.2.2.2))) else (if (bt ext_ 1)=47 then (if (ext_.size:Int)>2 then (if 2<(ext_.size:Int) then ((impl_isLetter.f (bt ext_ 2)).bind fun t406=>(impl_nextToken.j2 kj16 a0 a1 ext_ (bt ext_ 1) t406)) else (none)) else (impl_nextToken.j2 kj16 a0 a1 ext_ (bt ext_ 1) false)) else (impl_nextToken.j2 kj16 a0 a1 ext_ (bt ext_ 1) false)))) else (none))=some (r1,r2,r3,r4,r5,r6,r7):=by rw [if_pos rfl] at H;exact H
        clear H
        have H:=H1
        clear H1
        by_cases c22:1<(ext_.size:Int)
        ·rw [if_pos c22] at H
         have c22b0:decide (1<(ext_.size:Int))=true:=dt_ c22
         have c22b1:decide (1<ext_.size)=true:=dt_ (by omega)
         clear c22
         replace H:=ob_ H
         obtain ⟨t396,A240,H⟩:=H
         replace H:(if t396=true then ((impl_open.f kj16 a0 a1).bind fun bt397=>(some (bt397.1,bt397.2.1,bt397.2.2.1,bt397.2.2.2.1,bt397.2.2.2.2.1,bt397.2.2.2.2.2.1,bt397.2.2.2.2.2.2))) else (if (bt ext_ 1)=47 then (if (ext_.size:Int)>2 then (if 2<(ext_.size:Int) then ((impl_isLetter.f (bt ext_ 2)).bind fun t406=>(impl_nextToken.j2 kj16 a0 a1 ext_ (bt ext_ 1) t406)) else (none)) else (impl_nextToken.j2 kj16 a0 a1 ext_ (bt ext_ 1) false)) else (impl_nextToken.j2 kj16 a0 a1 ext_ (bt ext_ 1) false)))=some (r1,r2,r3,r4,r5,r6,r7):=H
         have A24:=A_ A240
         clear A240
         by_cases c25:t396=true
         ·subst c25
          have H1:((impl_open.f kj16 a0 a1).bind fun bt397=>(some (bt397.1,bt397.2.1,bt397.2.2.1,bt397.2.2.2.1,bt397.2.2.2.2.1,bt397.2.2.2.2.2.1,bt397.2.2.2.2.2.2)))=some (r1,r2,r3,r4,r5,r6,r7):=by rw [if_pos rfl] at H;exact H
          clear H
          have H:=H1
          clear H1
          replace H:=ob_ H
          obtain ⟨⟨t397,t398,t399,t400,t401,t402,t405⟩,A260,H⟩:=H
          replace H:(some (t397,t398,t399,t400,t401,t402,t405))=some (r1,r2,r3,r4,r5,r6,r7):=H
          have A26:=A_ A260
          clear A260
          simp only [Option.some.injEq,Prod.mk.injEq] at H
          obtain ⟨rfl,rfl,rfl,rfl,rfl,rfl,rfl⟩:=H
          have p23:0≤(1:Int):=(by omega)
          have q23:1<ext_.size:=(by have:(1:Int)<(ext_.size:Int):=oa_;omega)
          have hx23:∀ h:1<ext_.size,((ext_[1]'h).toNat:Int)=bt ext_ 1:=bt_at ext_ 1
          clear p23
          have qi23:(1<(ext_.size:Int))=True:=eq_true (oa_)
          replace q23:=eq_true q23
          go_wp2_with (first|((with_reducible refine gate_callee (f:=40) rfl ?_);refine gl_ (some 44) rfl rfl Tryz.func40 (by kernel_rfl) rfl #[.int .u8 (bt ext_ 1)] rfl  ?_;(with_reducible refine (impl_isLetter.calls (bt ext_ 1) true _ A24.out).mono ?_);rintro e w' ⟨rfl,⟨nd,rfl⟩⟩;refine ⟨_,rfl,?_⟩;(try (rw [drewN_self wc];generalize hq_:World.drewN wc _=wc;have n0_:Aside0 (wc.heap[gb394]? = some (.cells #[.int .i64 x395000_3,.int .i64 x395001_3,.int .i64 x395002_3,.string x395003_3,.string x395004_3,.slice none 0 0,.bool x395006_3] 24 (0,0))):=⟨by rw [←hq_];exact (kq_ BK394.out)⟩;have n1_:Aside0 (Below w.heap.size w wc):=⟨by rw [←hq_];exact (bq1_ HB.out GE394.out)⟩;clear BK394 HB hq_;have BK394:=n0_;have HB:=n1_;clear n0_ n1_;obtain ⟨hcygb394_0,hcygb394_1,hcygb394_2,hcygb394_3,hcygb394_4,hcygb394_5,hcygb394_6,hfygb394_0,hfygb394_1,hfygb394_2,hfygb394_3,hfygb394_4,hfygb394_5,hfygb394_6⟩:=g7_ BK394.out)))|((with_reducible refine gate_callee (f:=41) rfl ?_);refine gl_ (some 47) rfl rfl Tryz.func41 (by kernel_rfl) rfl #[.string a0,.int .i64 a1] rfl  ?_;(with_reducible refine (impl_open.calls kj16 a0 a1 t397 t398 t399 t400 t401 t402 t405 _ ?sideL A26.out).mono ?_);(case sideL=>exact HL.out.below (bq1_ HB.out GE394.out));rintro e w27 ⟨v403,rfl,ho0,hb⟩;refine ⟨_,rfl,?_⟩;have n0_:=A_ (Kd.R_lower ho0 (bz_ (bq1_ HB.out GE394.out)));have n1_:=A_ (kb_ (kq_ BK394.out) hb);have n2_:=A_ (bp_ (bq1_ HB.out GE394.out) hb);clear BK394;clear HB;have HO404:=n0_;have BK394:=n1_;have HB:=n2_;clear n0_ n1_ n2_;(try clear hb);(try clear hb2);(try clear hk);(try clear hi);(try clear ho0);obtain ⟨hcz28_0,hcz28_1,hcz28_2,hcz28_3,hcz28_4,hcz28_5,hcz28_6,hfz28_0,hfz28_1,hfz28_2,hfz28_3,hfz28_4,hfz28_5,hfz28_6⟩:=g7_ BK394.out;obtain ⟨Ao29,co29,eo29⟩:=Kd.R_slice HO404.out;subst eo29))
          refine bodyPost_ret (results_cell_row rfl _ _ gb394 24 #[.int .i64 t397,.int .i64 t398,.int .i64 t399,.string t400,.string t401,.slice Ao29 t402.length co29,.bool t405] (0,0) _ rfl (by (with_reducible repeat first|apply kn_|apply kd_|apply ka_);exact p7_ (kq_ BK394.out)) Tryz.underlying24 rfl (by kernel_rfl)) rfl ?_
          exact ⟨_,by first|rfl|(simp [errW_none,errW_some] <;> rfl)|(simp [*,errW_none,errW_some] <;> rfl),by (with_reducible repeat first|apply ra_|apply rn_|apply rd_);exact Kd.R_mono (f7_ (g:=gb394) (Kd.R_types HO404.out BK394.out (by decide)) (fun _ hk=>hk.2) (.int .i64 t397) (.int .i64 t398) (.int .i64 t399) (.string t400) (.string t401) (.slice Ao29 t402.length co29) (.bool t405)) (fun _ hk=>trivial),bq1_ HB.out GE394.out⟩
         ·replace c25:=bm_ c25
          subst c25
          have H1:(if (bt ext_ 1)=47 then (if (ext_.size:Int)>2 then (if 2<(ext_.size:Int) then ((impl_isLetter.f (bt ext_ 2)).bind fun t406=>(impl_nextToken.j2 kj16 a0 a1 ext_ (bt ext_ 1) t406)) else (none)) else (impl_nextToken.j2 kj16 a0 a1 ext_ (bt ext_ 1) false)) else (impl_nextToken.j2 kj16 a0 a1 ext_ (bt ext_ 1) false))=some (r1,r2,r3,r4,r5,r6,r7):=by rw [if_neg (show ¬ (false=true) by decide)] at H;exact H
          clear H
          have H:=H1
          clear H1
          have HC30:=A_ H
          clear H
          have p23:0≤(1:Int):=(by omega)
          have q23:1<ext_.size:=(by have:(1:Int)<(ext_.size:Int):=oa_;omega)
          have hx23:∀ h:1<ext_.size,((ext_[1]'h).toNat:Int)=bt ext_ 1:=bt_at ext_ 1
          clear p23
          have qi23:(1<(ext_.size:Int))=True:=eq_true (oa_)
          replace q23:=eq_true q23
          go_upto_region 10 with (first|((with_reducible refine gate_callee (f:=40) rfl ?_);refine gl_ (some 44) rfl rfl Tryz.func40 (by kernel_rfl) rfl #[.int .u8 (bt ext_ 1)] rfl  ?_;(with_reducible refine (impl_isLetter.calls (bt ext_ 1) false _ A24.out).mono ?_);rintro e w' ⟨rfl,⟨nd,rfl⟩⟩;refine ⟨_,rfl,?_⟩))
          (try simp only [Act.put,ls_,lz_,lc_])
          go_cut [48] (fun v48 wc=>∃ (kq:Nat) (x48_29:Bool),v48=.bool x48_29∧Aside0 (impl_nextToken.j2 kq a0 a1 ext_ (bt ext_ 1) x48_29=some (r1,r2,r3,r4,r5,r6,r7))∧Aside0 (kq≤kj16)∧Aside0 (wc.heap[gb394]? = some (.cells #[.int .i64 x395000_3,.int .i64 x395001_3,.int .i64 x395002_3,.string x395003_3,.string x395004_3,(.slice none 0 0),.bool x395006_3] 24 (0,0)))∧Aside0 (Below w.heap.size w wc))
          case first =>
           have H:=HC30.out
           clear HC30
           by_cases c31:(bt ext_ 1)=47
           ·rw [if_pos c31] at H
            have c31b0:((bt ext_ 1) == 47)=true:=beq_iff_eq.mpr c31
            have c31b1:((bt ext_ 1) != 47)=false:=bne_eq_false_iff_eq.mpr c31
            clear c31
            (first|rw [c31b0]|(simp only [i64_w,i32_w];rw [c31b0])|skip)
            by_cases c32:(ext_.size:Int)>2
            ·rw [if_pos c32] at H
             have c32b0:decide (2<(ext_.size:Int))=true:=dt_ c32
             have c32b1:decide (2<ext_.size)=true:=dt_ (by omega)
             clear c32
             by_cases c33:2<(ext_.size:Int)
             ·rw [if_pos c33] at H
              have c33b0:decide (2<(ext_.size:Int))=true:=dt_ c33
              have c33b1:decide (2<ext_.size)=true:=dt_ (by omega)
              clear c33
              replace H:=ob_ H
              obtain ⟨t406,A350,H⟩:=H
              replace H:(impl_nextToken.j2 kj16 a0 a1 ext_ (bt ext_ 1) t406)=some (r1,r2,r3,r4,r5,r6,r7):=H
              have A35:=A_ A350
              clear A350
              have H':=A_ H
              clear H
              have p34:0≤(2:Int):=(by omega)
              have q34:2<ext_.size:=(by have:(2:Int)<(ext_.size:Int):=oa_;omega)
              have hx34:∀ h:2<ext_.size,((ext_[2]'h).toNat:Int)=bt ext_ 2:=bt_at ext_ 2
              clear p34
              have qi34:(2<(ext_.size:Int))=True:=eq_true (oa_)
              replace q34:=eq_true q34
              go_wp2_with (first|(go_at_call 40;(with_reducible refine (impl_isLetter.calls (bt ext_ 2) t406 _ A35.out).mono ?_);rintro e w' ⟨rfl,⟨nd,rfl⟩⟩))
              go_meet
              case rel=>exact ⟨_,(t406),rs_,H',⟨by have:=HJ3.out;have:=HJ16.out;first|omega|exact Nat.le_refl _⟩,⟨kq_ BK394.out⟩,⟨bq1_ HB.out GE394.out⟩⟩
             ·rw [if_neg c33] at H
              exact absurd H (by simp)
            ·rw [if_neg c32] at H
             have c32b0:decide (2<(ext_.size:Int))=false:=df_ c32
             have c32b1:decide (2<ext_.size)=false:=df_ (by omega)
             clear c32
             have H':=A_ H
             clear H
             go_wp2
             go_meet
             case rel=>exact ⟨_,(false),rs_,H',⟨by have:=HJ3.out;have:=HJ16.out;first|omega|exact Nat.le_refl _⟩,⟨kq_ BK394.out⟩,⟨bq1_ HB.out GE394.out⟩⟩
           ·rw [if_neg c31] at H
            have c31b0:((bt ext_ 1) == 47)=false:=beq_eq_false_iff_ne.mpr c31
            have c31b1:((bt ext_ 1) != 47)=true:=bne_iff_ne.mpr c31
            (first|rw [c31b0]|(simp only [i64_w,i32_w];rw [c31b0])|skip)
            have H':=A_ H
            clear H
            go_wp2
            go_meet
            case rel=>exact ⟨_,(false),rs_,H',⟨by have:=HJ3.out;have:=HJ16.out;first|omega|exact Nat.le_refl _⟩,⟨kq_ BK394.out⟩,⟨bq1_ HB.out GE394.out⟩⟩
          case rest =>
           clear HC30
           try clear c1
           try clear p1
           try clear q1
           try clear hx1
           try clear qi1
           try clear c2
           try clear p2
           try clear q2
           try clear hx2
           try clear qi2
           try clear c3
           try clear p3
           try clear q3
           try clear hx3
           try clear qi3
           try clear c4
           try clear c6
           try clear c6b0
           try clear c6b1
           try clear p6
           try clear c8
           try clear c8b0
           try clear c9
           try clear c9b0
           try clear c9b1
           try clear c10
           try clear c10b0
           try clear c10b1
           try clear c11
           try clear c11b0
           try clear c11b1
           try clear c15
           try clear c15b0
           try clear c15b1
           try clear c16
           try clear c16b0
           try clear c16b1
           try clear c18
           try clear c18b0
           try clear c18b1
           try clear p19
           try clear q19
           try clear hx19
           try clear qi19
           try clear c20
           try clear c20b0
           try clear c20b1
           try clear c21
           try clear c22
           try clear c22b0
           try clear c22b1
           try clear p23
           try clear q23
           try clear hx23
           try clear qi23
           try clear c25
           try clear c31
           try clear c31b0
           try clear c31b1
           try clear c32
           try clear c32b0
           try clear c32b1
           try clear c33
           try clear c33b0
           try clear c33b1
           try clear p34
           try clear q34
           try clear hx34
           try clear qi34
           try clear hcz13_0
           try clear hcz13_1
           try clear hcz13_2
           try clear hcz13_3
           try clear hcz13_4
           try clear hcz13_5
           try clear hcz13_6
           try clear hcz28_0
           try clear hcz28_1
           try clear hcz28_2
           try clear hcz28_3
           try clear hcz28_4
           try clear hcz28_5
           try clear hcz28_6
           try clear hfz13_0
           try clear hfz13_1
           try clear hfz13_2
           try clear hfz13_3
           try clear hfz13_4
           try clear hfz13_5
           try clear hfz13_6
           try clear hfz28_0
           try clear hfz28_1
           try clear hfz28_2
           try clear hfz28_3
           try clear hfz28_4
           try clear hfz28_5
           try clear hfz28_6
           try clear p1
           try clear p19
           try clear p2
           try clear p23
           try clear p34
           try clear p6
           try clear q1
           try clear q19
           try clear q23
           try clear q34
           obtain ⟨kq,x48_29,rfl,HA,HJ29,BK394,HB⟩:=hcut
           cases kq with
           | zero=>exact absurd HA.out (by simp [impl_nextToken.j2])
           | succ kj29 =>
            have H:=HA.out
            clear HA
            simp only [impl_nextToken.j2] at H
            by_cases c36:x48_29=true
            ·subst c36
             have H1:((impl_closes.f kj29 a0 a1).bind fun bt407=>(some (bt407.1,bt407.2.1,bt407.2.2.1,bt407.2.2.2.1,bt407.2.2.2.2.1,bt407.2.2.2.2.2.1,bt407.2.2.2.2.2.2)))=some (r1,r2,r3,r4,r5,r6,r7):=by rw [if_pos rfl] at H;exact H
             clear H
             have H:=H1
             clear H1
             replace H:=ob_ H
             obtain ⟨⟨t407,t408,t409,t410,t411,t412,t415⟩,A370,H⟩:=H
             replace H:(some (t407,t408,t409,t410,t411,t412,t415))=some (r1,r2,r3,r4,r5,r6,r7):=H
             have A37:=A_ A370
             clear A370
             simp only [Option.some.injEq,Prod.mk.injEq] at H
             obtain ⟨rfl,rfl,rfl,rfl,rfl,rfl,rfl⟩:=H
             go_wp2_with (first|((with_reducible refine gate_callee (f:=42) rfl ?_);refine gl_ (some 63) rfl rfl Tryz.func42 (by kernel_rfl) rfl #[.string a0,.int .i64 a1] rfl  ?_;(with_reducible refine (impl_closes.calls kj29 a0 a1 t407 t408 t409 t410 t411 t412 t415 _ ?sideL A37.out).mono ?_);(case sideL=>exact HL.out.below (bq1_ HB.out GE394.out));rintro e w38 ⟨v413,rfl,ho0,hb⟩;refine ⟨_,rfl,?_⟩;have n0_:=A_ (Kd.R_lower ho0 (bz_ (bq1_ HB.out GE394.out)));have n1_:=A_ (kb_ (kq_ BK394.out) hb);have n2_:=A_ (bp_ (bq1_ HB.out GE394.out) hb);clear BK394;clear HB;have HO414:=n0_;have BK394:=n1_;have HB:=n2_;clear n0_ n1_ n2_;(try clear hb);(try clear hb2);(try clear hk);(try clear hi);(try clear ho0);obtain ⟨hcz39_0,hcz39_1,hcz39_2,hcz39_3,hcz39_4,hcz39_5,hcz39_6,hfz39_0,hfz39_1,hfz39_2,hfz39_3,hfz39_4,hfz39_5,hfz39_6⟩:=g7_ BK394.out;obtain ⟨Ao40,co40,eo40⟩:=Kd.R_slice HO414.out;subst eo40))
             refine bodyPost_ret (results_cell_row rfl _ _ gb394 24 #[.int .i64 t407,.int .i64 t408,.int .i64 t409,.string t410,.string t411,.slice Ao40 t412.length co40,.bool t415] (0,0) _ rfl (by (with_reducible repeat first|apply kn_|apply kd_|apply ka_);exact p7_ (kq_ BK394.out)) Tryz.underlying24 rfl (by kernel_rfl)) rfl ?_
             exact ⟨_,by first|rfl|(simp [errW_none,errW_some] <;> rfl)|(simp [*,errW_none,errW_some] <;> rfl),by (with_reducible repeat first|apply ra_|apply rn_|apply rd_);exact Kd.R_mono (f7_ (g:=gb394) (Kd.R_types HO414.out BK394.out (by decide)) (fun _ hk=>hk.2) (.int .i64 t407) (.int .i64 t408) (.int .i64 t409) (.string t410) (.string t411) (.slice Ao40 t412.length co40) (.bool t415)) (fun _ hk=>trivial),bq1_ HB.out GE394.out⟩
            ·replace c36:=bm_ c36
             subst c36
             have H1:((strings_HasPrefix.f ext_ (⟨#[60,33,45,45]⟩:ByteArray)).bind fun t416=>(if t416=true then ((impl_comment.f a0 a1 (wrap64 (a1+4)) (⟨#[45,45,62]⟩:ByteArray)).bind fun bt417=>(some (bt417.1,bt417.2.1,bt417.2.2.1,bt417.2.2.2.1,bt417.2.2.2.2.1,bt417.2.2.2.2.2.1,bt417.2.2.2.2.2.2))) else (if (bt ext_ 1)=33 then (impl_nextToken.j3 kj29 a0 a1 true) else (if (bt ext_ 1)=63 then (impl_nextToken.j3 kj29 a0 a1 true) else (impl_nextToken.j3 kj29 a0 a1 ((bt ext_ 1) == 47))))))=some (r1,r2,r3,r4,r5,r6,r7):=by rw [if_neg (show ¬ (false=true) by decide)] at H;exact H
             clear H
             have H:=H1
             clear H1
             replace H:=ob_ H
             obtain ⟨t416,A410,H⟩:=H
             replace H:(if t416=true then ((impl_comment.f a0 a1 (wrap64 (a1+4)) (⟨#[45,45,62]⟩:ByteArray)).bind fun bt417=>(some (bt417.1,bt417.2.1,bt417.2.2.1,bt417.2.2.2.1,bt417.2.2.2.2.1,bt417.2.2.2.2.2.1,bt417.2.2.2.2.2.2))) else (if (bt ext_ 1)=33 then (impl_nextToken.j3 kj29 a0 a1 true) else (if (bt ext_ 1)=63 then (impl_nextToken.j3 kj29 a0 a1 true) else (impl_nextToken.j3 kj29 a0 a1 ((bt ext_ 1) == 47)))))=some (r1,r2,r3,r4,r5,r6,r7):=H
             have A41:=A_ A410
             clear A410
             by_cases c42:t416=true
             ·subst c42
              have H1:((impl_comment.f a0 a1 (wrap64 (a1+4)) (⟨#[45,45,62]⟩:ByteArray)).bind fun bt417=>(some (bt417.1,bt417.2.1,bt417.2.2.1,bt417.2.2.2.1,bt417.2.2.2.2.1,bt417.2.2.2.2.2.1,bt417.2.2.2.2.2.2)))=some (r1,r2,r3,r4,r5,r6,r7):=by rw [if_pos rfl] at H;exact H
              clear H
              have H:=H1
              clear H1
              replace H:=ob_ H
              obtain ⟨⟨t417,t418,t419,t420,t421,t422,t425⟩,A430,H⟩:=H
              replace H:(some (t417,t418,t419,t420,t421,t422,t425))=some (r1,r2,r3,r4,r5,r6,r7):=H
              have A43:=A_ A430
              clear A430
              simp only [Option.some.injEq,Prod.mk.injEq] at H
              obtain ⟨rfl,rfl,rfl,rfl,rfl,rfl,rfl⟩:=H
              go_wp2_with (first|((with_reducible refine gate_callee (f:=43) rfl ?_);refine gl_ (some 66) rfl rfl Tryz.func43 (by kernel_rfl) rfl #[.string ext_,.string (⟨#[60,33,45,45]⟩:ByteArray)] rfl  ?_;(with_reducible refine (strings_HasPrefix.calls ext_ (⟨#[60,33,45,45]⟩:ByteArray) true _ A41.out).mono ?_);rintro e w' ⟨rfl,⟨nd,rfl⟩⟩;refine ⟨_,rfl,?_⟩;(try (rw [drewN_self wc];generalize hq_:World.drewN wc _=wc;have n0_:Aside0 (wc.heap[gb394]? = some (.cells #[.int .i64 x395000_3,.int .i64 x395001_3,.int .i64 x395002_3,.string x395003_3,.string x395004_3,.slice none 0 0,.bool x395006_3] 24 (0,0))):=⟨by rw [←hq_];exact (kq_ BK394.out)⟩;have n1_:Aside0 (Below w.heap.size w wc):=⟨by rw [←hq_];exact (bq1_ HB.out GE394.out)⟩;clear BK394 HB hq_;have BK394:=n0_;have HB:=n1_;clear n0_ n1_;obtain ⟨hcygb394_0,hcygb394_1,hcygb394_2,hcygb394_3,hcygb394_4,hcygb394_5,hcygb394_6,hfygb394_0,hfygb394_1,hfygb394_2,hfygb394_3,hfygb394_4,hfygb394_5,hfygb394_6⟩:=g7_ BK394.out)))|((with_reducible refine gate_callee (f:=44) rfl ?_);refine gl_ (some 71) rfl rfl Tryz.func44 (by kernel_rfl) rfl #[.string a0,.int .i64 a1,.int .i64 (wrap64 (a1+4)),.string (⟨#[45,45,62]⟩:ByteArray)] rfl  ?_;(with_reducible refine (impl_comment.calls a0 a1 (wrap64 (a1+4)) (⟨#[45,45,62]⟩:ByteArray) t417 t418 t419 t420 t421 t422 t425 _ ?sideL A43.out).mono ?_);(case sideL=>exact HL.out.below (bq1_ HB.out GE394.out));rintro e w44 ⟨v423,rfl,ho0,hb⟩;refine ⟨_,rfl,?_⟩;have n0_:=A_ (Kd.R_lower ho0 (bz_ (bq1_ HB.out GE394.out)));have n1_:=A_ (kb_ (kq_ BK394.out) hb);have n2_:=A_ (bp_ (bq1_ HB.out GE394.out) hb);clear BK394;clear HB;have HO424:=n0_;have BK394:=n1_;have HB:=n2_;clear n0_ n1_ n2_;(try clear hb);(try clear hb2);(try clear hk);(try clear hi);(try clear ho0);obtain ⟨hcz45_0,hcz45_1,hcz45_2,hcz45_3,hcz45_4,hcz45_5,hcz45_6,hfz45_0,hfz45_1,hfz45_2,hfz45_3,hfz45_4,hfz45_5,hfz45_6⟩:=g7_ BK394.out;obtain ⟨Ao46,co46,eo46⟩:=Kd.R_slice HO424.out;subst eo46))
              refine bodyPost_ret (results_cell_row rfl _ _ gb394 24 #[.int .i64 t417,.int .i64 t418,.int .i64 t419,.string t420,.string t421,.slice Ao46 t422.length co46,.bool t425] (0,0) _ rfl (by (with_reducible repeat first|apply kn_|apply kd_|apply ka_);exact p7_ (kq_ BK394.out)) Tryz.underlying24 rfl (by kernel_rfl)) rfl ?_
              exact ⟨_,by first|rfl|(simp [errW_none,errW_some] <;> rfl)|(simp [*,errW_none,errW_some] <;> rfl),by (with_reducible repeat first|apply ra_|apply rn_|apply rd_);exact Kd.R_mono (f7_ (g:=gb394) (Kd.R_types HO424.out BK394.out (by decide)) (fun _ hk=>hk.2) (.int .i64 t417) (.int .i64 t418) (.int .i64 t419) (.string t420) (.string t421) (.slice Ao46 t422.length co46) (.bool t425)) (fun _ hk=>trivial),bq1_ HB.out GE394.out⟩
             ·replace c42:=bm_ c42
              subst c42
              have H1:(if (bt ext_ 1)=33 then (impl_nextToken.j3 kj29 a0 a1 true) else (if (bt ext_ 1)=63 then (impl_nextToken.j3 kj29 a0 a1 true) else (impl_nextToken.j3 kj29 a0 a1 ((bt ext_ 1) == 47))))=some (r1,r2,r3,r4,r5,r6,r7):=by rw [if_neg (show ¬ (false=true) by decide)] at H;exact H
              clear H
              have H:=H1
              clear H1
              have HC47:=A_ H
              clear H
              go_upto_region 14 with (first|((with_reducible refine gate_callee (f:=43) rfl ?_);refine gl_ (some 66) rfl rfl Tryz.func43 (by kernel_rfl) rfl #[.string ext_,.string (⟨#[60,33,45,45]⟩:ByteArray)] rfl  ?_;(with_reducible refine (strings_HasPrefix.calls ext_ (⟨#[60,33,45,45]⟩:ByteArray) false _ A41.out).mono ?_);rintro e w' ⟨rfl,⟨nd,rfl⟩⟩;refine ⟨_,rfl,?_⟩))
              (try simp only [Act.put,ls_,lz_,lc_])
              go_cut [72] (fun v72 wc=>∃ (kq:Nat) (x72_46:Bool),v72=.bool x72_46∧Aside0 (impl_nextToken.j3 kq a0 a1 x72_46=some (r1,r2,r3,r4,r5,r6,r7))∧Aside0 (kq≤kj29)∧Aside0 (wc.heap[gb394]? = some (.cells #[.int .i64 x395000_3,.int .i64 x395001_3,.int .i64 x395002_3,.string x395003_3,.string x395004_3,(.slice none 0 0),.bool x395006_3] 24 (0,0)))∧Aside0 (Below w.heap.size w wc))
              case first =>
               have H:=HC47.out
               clear HC47
               by_cases c48:(bt ext_ 1)=33
               ·rw [if_pos c48] at H
                have c48b0:((bt ext_ 1) == 33)=true:=beq_iff_eq.mpr c48
                have c48b1:((bt ext_ 1) != 33)=false:=bne_eq_false_iff_eq.mpr c48
                clear c48
                (first|rw [c48b0]|(simp only [i64_w,i32_w];rw [c48b0])|skip)
                have H':=A_ H
                clear H
                go_wp2
                go_meet
                case rel=>exact ⟨_,(true),rs_,H',⟨by have:=HJ3.out;have:=HJ16.out;have:=HJ29.out;first|omega|exact Nat.le_refl _⟩,⟨kq_ BK394.out⟩,⟨bq1_ HB.out GE394.out⟩⟩
               ·rw [if_neg c48] at H
                have c48b0:((bt ext_ 1) == 33)=false:=beq_eq_false_iff_ne.mpr c48
                have c48b1:((bt ext_ 1) != 33)=true:=bne_iff_ne.mpr c48
                (first|rw [c48b0]|(simp only [i64_w,i32_w];rw [c48b0])|skip)
                by_cases c49:(bt ext_ 1)=63
                ·rw [if_pos c49] at H
                 have c49b0:((bt ext_ 1) == 63)=true:=beq_iff_eq.mpr c49
                 have c49b1:((bt ext_ 1) != 63)=false:=bne_eq_false_iff_eq.mpr c49
                 clear c49
                 have H':=A_ H
                 clear H
                 go_wp2
                 go_meet
                 case rel=>exact ⟨_,(true),rs_,H',⟨by have:=HJ3.out;have:=HJ16.out;have:=HJ29.out;first|omega|exact Nat.le_refl _⟩,⟨kq_ BK394.out⟩,⟨bq1_ HB.out GE394.out⟩⟩
                ·rw [if_neg c49] at H
                 have c49b0:((bt ext_ 1) == 63)=false:=beq_eq_false_iff_ne.mpr c49
                 have c49b1:((bt ext_ 1) != 63)=true:=bne_iff_ne.mpr c49
                 have H':=A_ H
                 clear H
                 go_wp2
                 go_meet
                 case rel=>exact ⟨_,(((bt ext_ 1) == 47)),rs_,H',⟨by have:=HJ3.out;have:=HJ16.out;have:=HJ29.out;first|omega|exact Nat.le_refl _⟩,⟨kq_ BK394.out⟩,⟨bq1_ HB.out GE394.out⟩⟩
              case rest =>
               clear HC47
               try clear c1
               try clear p1
               try clear q1
               try clear hx1
               try clear qi1
               try clear c2
               try clear p2
               try clear q2
               try clear hx2
               try clear qi2
               try clear c3
               try clear p3
               try clear q3
               try clear hx3
               try clear qi3
               try clear c4
               try clear c6
               try clear c6b0
               try clear c6b1
               try clear p6
               try clear c8
               try clear c8b0
               try clear c9
               try clear c9b0
               try clear c9b1
               try clear c10
               try clear c10b0
               try clear c10b1
               try clear c11
               try clear c11b0
               try clear c11b1
               try clear c15
               try clear c15b0
               try clear c15b1
               try clear c16
               try clear c16b0
               try clear c16b1
               try clear c18
               try clear c18b0
               try clear c18b1
               try clear p19
               try clear q19
               try clear hx19
               try clear qi19
               try clear c20
               try clear c20b0
               try clear c20b1
               try clear c21
               try clear c22
               try clear c22b0
               try clear c22b1
               try clear p23
               try clear q23
               try clear hx23
               try clear qi23
               try clear c25
               try clear c31
               try clear c31b0
               try clear c31b1
               try clear c32
               try clear c32b0
               try clear c32b1
               try clear c33
               try clear c33b0
               try clear c33b1
               try clear p34
               try clear q34
               try clear hx34
               try clear qi34
               try clear c36
               try clear c39
               try clear c40
               try clear c41
               try clear c42
               try clear c43
               try clear c44
               try clear c48
               try clear c48b0
               try clear c48b1
               try clear c49
               try clear c49b0
               try clear c49b1
               try clear hcz13_0
               try clear hcz13_1
               try clear hcz13_2
               try clear hcz13_3
               try clear hcz13_4
               try clear hcz13_5
               try clear hcz13_6
               try clear hcz28_0
               try clear hcz28_1
               try clear hcz28_2
               try clear hcz28_3
               try clear hcz28_4
               try clear hcz28_5
               try clear hcz28_6
               try clear hcz39_0
               try clear hcz39_1
               try clear hcz39_2
               try clear hcz39_3
               try clear hcz39_4
               try clear hcz39_5
               try clear hcz39_6
               try clear hcz45_0
               try clear hcz45_1
               try clear hcz45_2
               try clear hcz45_3
               try clear hcz45_4
               try clear hcz45_5
               try clear hcz45_6
               try clear hfz13_0
               try clear hfz13_1
               try clear hfz13_2
               try clear hfz13_3
               try clear hfz13_4
               try clear hfz13_5
               try clear hfz13_6
               try clear hfz28_0
               try clear hfz28_1
               try clear hfz28_2
               try clear hfz28_3
               try clear hfz28_4
               try clear hfz28_5
               try clear hfz28_6
               try clear hfz39_0
               try clear hfz39_1
               try clear hfz39_2
               try clear hfz39_3
               try clear hfz39_4
               try clear hfz39_5
               try clear hfz39_6
               try clear hfz45_0
               try clear hfz45_1
               try clear hfz45_2
               try clear hfz45_3
               try clear hfz45_4
               try clear hfz45_5
               try clear hfz45_6
               try clear p1
               try clear p19
               try clear p2
               try clear p23
               try clear p3
               try clear p34
               try clear p6
               try clear q1
               try clear q19
               try clear q2
               try clear q23
               try clear q3
               try clear q34
               obtain ⟨kq,x72_46,rfl,HA,HJ46,BK394,HB⟩:=hcut
               cases kq with
               | zero=>exact absurd HA.out (by simp [impl_nextToken.j3])
               | succ kj46 =>
                have H:=HA.out
                clear HA
                simp only [impl_nextToken.j3] at H
                by_cases c50:x72_46=true
                ·subst c50
                 have H1:((impl_comment.f a0 a1 (wrap64 (a1+2)) (⟨#[62]⟩:ByteArray)).bind fun bt426=>(some (bt426.1,bt426.2.1,bt426.2.2.1,bt426.2.2.2.1,bt426.2.2.2.2.1,bt426.2.2.2.2.2.1,bt426.2.2.2.2.2.2)))=some (r1,r2,r3,r4,r5,r6,r7):=by rw [if_pos rfl] at H;exact H
                 clear H
                 have H:=H1
                 clear H1
                 replace H:=ob_ H
                 obtain ⟨⟨t426,t427,t428,t429,t430,t431,t434⟩,A510,H⟩:=H
                 replace H:(some (t426,t427,t428,t429,t430,t431,t434))=some (r1,r2,r3,r4,r5,r6,r7):=H
                 have A51:=A_ A510
                 clear A510
                 simp only [Option.some.injEq,Prod.mk.injEq] at H
                 obtain ⟨rfl,rfl,rfl,rfl,rfl,rfl,rfl⟩:=H
                 go_wp2_with (first|((with_reducible refine gate_callee (f:=44) rfl ?_);refine gl_ (some 87) rfl rfl Tryz.func44 (by kernel_rfl) rfl #[.string a0,.int .i64 a1,.int .i64 (wrap64 (a1+2)),.string (⟨#[62]⟩:ByteArray)] rfl  ?_;(with_reducible refine (impl_comment.calls a0 a1 (wrap64 (a1+2)) (⟨#[62]⟩:ByteArray) t426 t427 t428 t429 t430 t431 t434 _ ?sideL A51.out).mono ?_);(case sideL=>exact HL.out.below (bq1_ HB.out GE394.out));rintro e w52 ⟨v432,rfl,ho0,hb⟩;refine ⟨_,rfl,?_⟩;have n0_:=A_ (Kd.R_lower ho0 (bz_ (bq1_ HB.out GE394.out)));have n1_:=A_ (kb_ (kq_ BK394.out) hb);have n2_:=A_ (bp_ (bq1_ HB.out GE394.out) hb);clear BK394;clear HB;have HO433:=n0_;have BK394:=n1_;have HB:=n2_;clear n0_ n1_ n2_;(try clear hb);(try clear hb2);(try clear hk);(try clear hi);(try clear ho0);obtain ⟨_,_,_,_,_,_,_,_,_,_,_,_,_,_⟩:=g7_ BK394.out;obtain ⟨Ao54,co54,eo54⟩:=Kd.R_slice HO433.out;subst eo54))
                 refine bodyPost_ret (results_cell_row rfl _ _ gb394 24 #[.int .i64 t426,.int .i64 t427,.int .i64 t428,.string t429,.string t430,.slice Ao54 t431.length co54,.bool t434] (0,0) _ rfl (by (with_reducible repeat first|apply kn_|apply kd_|apply ka_);exact p7_ (kq_ BK394.out)) Tryz.underlying24 rfl (by kernel_rfl)) rfl ?_
                 exact ⟨_,by first|rfl|(simp [errW_none,errW_some] <;> rfl)|(simp [*,errW_none,errW_some] <;> rfl),by (with_reducible repeat first|apply ra_|apply rn_|apply rd_);exact Kd.R_mono (f7_ (g:=gb394) (Kd.R_types HO433.out BK394.out (by decide)) (fun _ hk=>hk.2) (.int .i64 t426) (.int .i64 t427) (.int .i64 t428) (.string t429) (.string t430) (.slice Ao54 t431.length co54) (.bool t434)) (fun _ hk=>trivial),bq1_ HB.out GE394.out⟩
                ·replace c50:=bm_ c50
                 subst c50
                 have H1:((impl_upTo.f kj46 a0 (wrap64 (a1+1)) (⟨#[60]⟩:ByteArray)).bind fun t435=>(if 0≤a1 then (if a1≤t435 then (if t435≤(a0.size:Int) then ((impl_unescape.f kj46 (a0.extract (a1:Int).toNat (t435:Int).toNat)).bind fun t436=>(some (1,a1,wrap64 (t435 - a1),(⟨#[]⟩:ByteArray),t436,([]:List (S52)),false))) else (none)) else (none)) else (none)))=some (r1,r2,r3,r4,r5,r6,r7):=by rw [if_neg (show ¬ (false=true) by decide)] at H;exact H
                 clear H
                 have H:=H1
                 clear H1
                 replace H:=ob_ H
                 obtain ⟨t435,A550,H⟩:=H
                 replace H:(if 0≤a1 then (if a1≤t435 then (if t435≤(a0.size:Int) then ((impl_unescape.f kj46 (a0.extract (a1:Int).toNat (t435:Int).toNat)).bind fun t436=>(some (1,a1,wrap64 (t435 - a1),(⟨#[]⟩:ByteArray),t436,([]:List (S52)),false))) else (none)) else (none)) else (none))=some (r1,r2,r3,r4,r5,r6,r7):=H
                 have A55:=A_ A550
                 clear A550
                 by_cases c56:0≤a1
                 ·rw [if_pos c56] at H
                  have c56b0:=eq_true c56
                  have c56b1:decide (0≤a1)=true:=dt_ c56
                  clear c56
                  by_cases c57:a1≤t435
                  ·rw [if_pos c57] at H
                   have c57b0:=eq_true c57
                   have c57b1:decide (a1≤t435)=true:=dt_ c57
                   clear c57
                   by_cases c58:t435≤(a0.size:Int)
                   ·rw [if_pos c58] at H
                    have c58b0:=eq_true c58
                    have c58b1:decide (t435≤(a0.size:Int))=true:=dt_ c58
                    clear c58
                    replace H:=ob_ H
                    obtain ⟨t436,A590,H⟩:=H
                    replace H:(some (1,a1,wrap64 (t435 - a1),(⟨#[]⟩:ByteArray),t436,([]:List (S52)),false))=some (r1,r2,r3,r4,r5,r6,r7):=H
                    have A59:=A_ A590
                    clear A590
                    simp only [Option.some.injEq,Prod.mk.injEq] at H
                    obtain ⟨rfl,rfl,rfl,rfl,rfl,rfl,rfl⟩:=H
                    go_wp2_with (first|((with_reducible refine gate_callee (f:=45) rfl ?_);refine gl_ (some 91) rfl rfl Tryz.func45 (by kernel_rfl) rfl #[.string a0,.int .i64 (wrap64 (a1+1)),.string (⟨#[60]⟩:ByteArray)] rfl  ?_;(with_reducible refine (impl_upTo.calls kj46 a0 (wrap64 (a1+1)) (⟨#[60]⟩:ByteArray) t435 _ A55.out).mono ?_);rintro e w' ⟨rfl,⟨nd,rfl⟩⟩;refine ⟨_,rfl,?_⟩;(try (rw [drewN_self wc];generalize hq_:World.drewN wc _=wc;have n0_:Aside0 (wc.heap[gb394]? = some (.cells #[.int .i64 x395000_3,.int .i64 x395001_3,.int .i64 x395002_3,.string x395003_3,.string x395004_3,.slice none 0 0,.bool x395006_3] 24 (0,0))):=⟨by rw [←hq_];exact (kq_ BK394.out)⟩;have n1_:Aside0 (Below w.heap.size w wc):=⟨by rw [←hq_];exact (bq1_ HB.out GE394.out)⟩;clear BK394 HB hq_;have BK394:=n0_;have HB:=n1_;clear n0_ n1_;obtain ⟨hcygb394_0,hcygb394_1,hcygb394_2,hcygb394_3,hcygb394_4,hcygb394_5,hcygb394_6,hfygb394_0,hfygb394_1,hfygb394_2,hfygb394_3,hfygb394_4,hfygb394_5,hfygb394_6⟩:=g7_ BK394.out)))|((with_reducible refine gate_callee (f:=46) rfl ?_);refine gl_ (some 100) rfl rfl Tryz.func46 (by kernel_rfl) rfl #[.string (a0.extract (a1:Int).toNat (t435:Int).toNat)] rfl  ?_;(with_reducible refine (impl_unescape.calls kj46 (a0.extract (a1:Int).toNat (t435:Int).toNat) t436 _ ?sideL A59.out).mono ?_);(case sideL=>exact HL.out.below (bq1_ HB.out GE394.out));rintro e w60 ⟨rfl,hb⟩;refine ⟨_,rfl,?_⟩;have n0_:=A_ (kb_ (kq_ BK394.out) hb);have n1_:=A_ (bp_ (bq1_ HB.out GE394.out) hb);clear BK394;clear HB;have BK394:=n0_;have HB:=n1_;clear n0_ n1_;(try clear hb);(try clear hb2);(try clear hk);(try clear hi);obtain ⟨_,_,_,_,_,_,_,_,_,_,_,_,_,_⟩:=g7_ BK394.out))
                    refine bodyPost_ret (results_cell_row rfl _ _ gb394 24 #[.int .i64 1,.int .i64 a1,.int .i64 (wrap64 (t435 - a1)),.string (⟨#[]⟩:ByteArray),.string t436,.slice none 0 0,.bool false] (0,0) _ rfl (by (with_reducible repeat first|apply kn_|apply kd_|apply ka_);exact p7_ (kq_ BK394.out)) Tryz.underlying24 rfl (by kernel_rfl)) rfl ?_
                    exact ⟨_,by first|rfl|(simp [errW_none,errW_some] <;> rfl)|(simp [*,errW_none,errW_some] <;> rfl),by first|exact Kd.R_nil _ _ _ _ _|exact Kd.N_nil _ _ _ _ _|exact Kd.V_nil _ _ _ _ _|exact Kd.Q_nil _ _ _ _ _|exact Kd.S_nil _ _ _ _ _,bq1_ HB.out GE394.out⟩
                   ·rw [if_neg c58] at H
                    exact absurd H (by simp)
                  ·rw [if_neg c57] at H
                   exact absurd H (by simp)
                 ·rw [if_neg c56] at H
                  exact absurd H (by simp)
        ·rw [if_neg c22] at H
         exact absurd H (by simp)
       ·replace c21:=bm_ c21
        subst c21
        have H1:((impl_upTo.f kj16 a0 (wrap64 (a1+1)) (⟨#[60]⟩:ByteArray)).bind fun t437=>(if 0≤a1 then (if a1≤t437 then (if t437≤(a0.size:Int) then ((impl_unescape.f kj16 (a0.extract (a1:Int).toNat (t437:Int).toNat)).bind fun t438=>(some (1,a1,wrap64 (t437 - a1),(⟨#[]⟩:ByteArray),t438,([]:List (S52)),false))) else (none)) else (none)) else (none)))=some (r1,r2,r3,r4,r5,r6,r7):=by rw [if_neg (show ¬ (false=true) by decide)] at H;exact H
        clear H
        have H:=H1
        clear H1
        replace H:=ob_ H
        obtain ⟨t437,A620,H⟩:=H
        replace H:(if 0≤a1 then (if a1≤t437 then (if t437≤(a0.size:Int) then ((impl_unescape.f kj16 (a0.extract (a1:Int).toNat (t437:Int).toNat)).bind fun t438=>(some (1,a1,wrap64 (t437 - a1),(⟨#[]⟩:ByteArray),t438,([]:List (S52)),false))) else (none)) else (none)) else (none))=some (r1,r2,r3,r4,r5,r6,r7):=H
        have A62:=A_ A620
        clear A620
        by_cases c63:0≤a1
        ·rw [if_pos c63] at H
         have c63b0:=eq_true c63
         have c63b1:decide (0≤a1)=true:=dt_ c63
         clear c63
         by_cases c64:a1≤t437
         ·rw [if_pos c64] at H
          have c64b0:=eq_true c64
          have c64b1:decide (a1≤t437)=true:=dt_ c64
          clear c64
          by_cases c65:t437≤(a0.size:Int)
          ·rw [if_pos c65] at H
           have c65b0:=eq_true c65
           have c65b1:decide (t437≤(a0.size:Int))=true:=dt_ c65
           clear c65
           replace H:=ob_ H
           obtain ⟨t438,A660,H⟩:=H
           replace H:(some (1,a1,wrap64 (t437 - a1),(⟨#[]⟩:ByteArray),t438,([]:List (S52)),false))=some (r1,r2,r3,r4,r5,r6,r7):=H
           have A66:=A_ A660
           clear A660
           simp only [Option.some.injEq,Prod.mk.injEq] at H
           obtain ⟨rfl,rfl,rfl,rfl,rfl,rfl,rfl⟩:=H
           go_wp2_with (first|((with_reducible refine gate_callee (f:=45) rfl ?_);refine gl_ (some 91) rfl rfl Tryz.func45 (by kernel_rfl) rfl #[.string a0,.int .i64 (wrap64 (a1+1)),.string (⟨#[60]⟩:ByteArray)] rfl  ?_;(with_reducible refine (impl_upTo.calls kj16 a0 (wrap64 (a1+1)) (⟨#[60]⟩:ByteArray) t437 _ A62.out).mono ?_);rintro e w' ⟨rfl,⟨nd,rfl⟩⟩;refine ⟨_,rfl,?_⟩;(try (rw [drewN_self wc];generalize hq_:World.drewN wc _=wc;have n0_:Aside0 (wc.heap[gb394]? = some (.cells #[.int .i64 x395000_3,.int .i64 x395001_3,.int .i64 x395002_3,.string x395003_3,.string x395004_3,.slice none 0 0,.bool x395006_3] 24 (0,0))):=⟨by rw [←hq_];exact (kq_ BK394.out)⟩;have n1_:Aside0 (Below w.heap.size w wc):=⟨by rw [←hq_];exact (bq1_ HB.out GE394.out)⟩;clear BK394 HB hq_;have BK394:=n0_;have HB:=n1_;clear n0_ n1_;obtain ⟨hcygb394_0,hcygb394_1,hcygb394_2,hcygb394_3,hcygb394_4,hcygb394_5,hcygb394_6,hfygb394_0,hfygb394_1,hfygb394_2,hfygb394_3,hfygb394_4,hfygb394_5,hfygb394_6⟩:=g7_ BK394.out)))|((with_reducible refine gate_callee (f:=46) rfl ?_);refine gl_ (some 100) rfl rfl Tryz.func46 (by kernel_rfl) rfl #[.string (a0.extract (a1:Int).toNat (t437:Int).toNat)] rfl  ?_;(with_reducible refine (impl_unescape.calls kj16 (a0.extract (a1:Int).toNat (t437:Int).toNat) t438 _ ?sideL A66.out).mono ?_);(case sideL=>exact HL.out.below (bq1_ HB.out GE394.out));rintro e w67 ⟨rfl,hb⟩;refine ⟨_,rfl,?_⟩;have n0_:=A_ (kb_ (kq_ BK394.out) hb);have n1_:=A_ (bp_ (bq1_ HB.out GE394.out) hb);clear BK394;clear HB;have BK394:=n0_;have HB:=n1_;clear n0_ n1_;(try clear hb);(try clear hb2);(try clear hk);(try clear hi);obtain ⟨_,_,_,_,_,_,_,_,_,_,_,_,_,_⟩:=g7_ BK394.out))
           refine bodyPost_ret (results_cell_row rfl _ _ gb394 24 #[.int .i64 1,.int .i64 a1,.int .i64 (wrap64 (t437 - a1)),.string (⟨#[]⟩:ByteArray),.string t438,.slice none 0 0,.bool false] (0,0) _ rfl (by (with_reducible repeat first|apply kn_|apply kd_|apply ka_);exact p7_ (kq_ BK394.out)) Tryz.underlying24 rfl (by kernel_rfl)) rfl ?_
           exact ⟨_,by first|rfl|(simp [errW_none,errW_some] <;> rfl)|(simp [*,errW_none,errW_some] <;> rfl),by first|exact Kd.R_nil _ _ _ _ _|exact Kd.N_nil _ _ _ _ _|exact Kd.V_nil _ _ _ _ _|exact Kd.Q_nil _ _ _ _ _|exact Kd.S_nil _ _ _ _ _,bq1_ HB.out GE394.out⟩
          ·rw [if_neg c65] at H
           exact absurd H (by simp)
         ·rw [if_neg c64] at H
          exact absurd H (by simp)
        ·rw [if_neg c63] at H
         exact absurd H (by simp)
    ·rw [if_neg c16] at H
     exact absurd H (by simp)
   ·rw [if_neg c15] at H
    exact absurd H (by simp)
end Go.Proofs.YtfkanlbmgbkniaaGreatDoor.PFnExactTokensOf
