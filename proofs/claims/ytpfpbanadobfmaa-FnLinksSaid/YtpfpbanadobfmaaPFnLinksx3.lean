/- By a program of this session, out of the kit's print and contracts made by hand: the machine side of a law; Lean checks it. No conditions. -/
import Derived.Test.YtpfpbanadobfmaaPFnLinksx0
import Derived.Test.YtpfpbanadobfmaaPFnLinksx2
namespace Go.Proofs.Ytpfpbanadobfmaa.PFnLinks
open Go.RowKit Go.Proofs.YtpfpbanadobfmaaW.PrintWords Go.Proofs.YtpfpbanadobfmaaW.PrintLast Go.Proofs.YtpfpbanadobfmaaW.PrintMore
attribute [local go_sem] max2_int min2_int max_two min_two max_three min_three max_four min_four
set_option linter.unusedVariables false
set_option linter.unusedSimpArgs false
/-! ### impl_BadLink: function 6 -/
mutual
def impl_BadLink.j1:Nat→ByteArray→Option (Bool)
 | 0,_=>none
 | k+1,x0=>impl_BadLink.l1 k x0 (([]:List Int)) (x0.size:Int) 0
def impl_BadLink.l1:Nat→ByteArray→List Int→Int→Int→Option (Bool)
 | 0,_,_,_,_=>none
 | k+1,x0,x3,x20,x21=>if x21<x20 then (if 0≤x21 then (if x21<(x0.size:Int) then (if (bt x0 x21)=9 then (impl_BadLink.l1 k x0 x3 x20 (wrap64 (x21+1))) else (if (bt x0 x21)=10 then (impl_BadLink.l1 k x0 x3 x20 (wrap64 (x21+1))) else (if (bt x0 x21)=13 then (impl_BadLink.l1 k x0 x3 x20 (wrap64 (x21+1))) else (if x3.length<140737488355328 then (impl_BadLink.l1 k x0 (x3++[bt x0 x21]) x20 (wrap64 (x21+1))) else (none))))) else (none)) else (none)) else ((impl_lower.f (strOfNums x3)).bind fun t144=>((strings_HasPrefix.f t144 (⟨#[106,97,118,97,115,99,114,105,112,116,58]⟩:ByteArray)).bind fun t145=>(some t145)))
def impl_BadLink.l0:Nat→ByteArray→Option (Bool)
 | 0,_=>none
 | k+1,x0=>if x0.toList=([]:List UInt8) then (impl_BadLink.j1 k x0) else (if 0<(x0.size:Int) then (if (bt x0 0)≤32 then (if 1≤(x0.size:Int) then (impl_BadLink.l0 k (x0.extract 1 x0.size)) else (none)) else (impl_BadLink.j1 k x0)) else (none))
end
def impl_BadLink.f (k:Nat) (a0:ByteArray):Option (Bool):=(impl_isLong.f (([a0]:List ByteArray))).bind fun t137=>(if t137=true then (some false) else (impl_BadLink.l0 k a0))
theorem impl_BadLink.mono_l:∀ k,(∀ y0,LeO (impl_BadLink.j1 k y0) (impl_BadLink.j1 (k+1) y0))∧(∀ y0 y1 y2 y3,LeO (impl_BadLink.l1 k y0 y1 y2 y3) (impl_BadLink.l1 (k+1) y0 y1 y2 y3))∧(∀ y0,LeO (impl_BadLink.l0 k y0) (impl_BadLink.l0 (k+1) y0))
 | 0=>⟨fun _ r h=>by simp [impl_BadLink.j1] at h,fun _ _ _ _ r h=>by simp [impl_BadLink.l1] at h,fun _ r h=>by simp [impl_BadLink.l0] at h⟩
 | k+1=>by
  obtain ⟨ih0,ih1,ih2⟩:=impl_BadLink.mono_l k
  refine ⟨?_,?_,?_⟩
  ·intro y0
   unfold impl_BadLink.j1
   repeat' first
   | (with_reducible exact ih0 _)
   | (with_reducible exact ih1 _ _ _ _)
   | (with_reducible exact ih2 _)
   | (with_reducible exact LeO.refl _)
   | (with_reducible exact LeO.none _)
   | (with_reducible refine LeO.ite ?_ ?_)
   | (with_reducible refine LeO.bind ?_ (fun _=>?_))
   | exact ih0 _
   | exact ih1 _ _ _ _
   | exact ih2 _
   | exact LeO.none _
   | refine LeO.ite ?_ ?_
   | refine LeO.bind ?_ (fun _=>?_)
  ·intro y0 y1 y2 y3
   unfold impl_BadLink.l1
   repeat' first
   | (with_reducible exact ih0 _)
   | (with_reducible exact ih1 _ _ _ _)
   | (with_reducible exact ih2 _)
   | (with_reducible exact LeO.refl _)
   | (with_reducible exact LeO.none _)
   | (with_reducible refine LeO.ite ?_ ?_)
   | (with_reducible refine LeO.bind ?_ (fun _=>?_))
   | exact ih0 _
   | exact ih1 _ _ _ _
   | exact ih2 _
   | exact LeO.none _
   | refine LeO.ite ?_ ?_
   | refine LeO.bind ?_ (fun _=>?_)
  ·intro y0
   unfold impl_BadLink.l0
   repeat' first
   | (with_reducible exact ih0 _)
   | (with_reducible exact ih1 _ _ _ _)
   | (with_reducible exact ih2 _)
   | (with_reducible exact LeO.refl _)
   | (with_reducible exact LeO.none _)
   | (with_reducible refine LeO.ite ?_ ?_)
   | (with_reducible refine LeO.bind ?_ (fun _=>?_))
   | exact ih0 _
   | exact ih1 _ _ _ _
   | exact ih2 _
   | exact LeO.none _
   | refine LeO.ite ?_ ?_
   | refine LeO.bind ?_ (fun _=>?_)
theorem impl_BadLink.mono:∀ a0 k,LeO (impl_BadLink.f k a0) (impl_BadLink.f (k+1) a0):=by
 intro a0 k
 obtain ⟨ih0,ih1,ih2⟩:=impl_BadLink.mono_l k
 unfold impl_BadLink.f
 repeat' first
  | (with_reducible exact ih0 _)
  | (with_reducible exact ih1 _ _ _ _)
  | (with_reducible exact ih2 _)
  | (with_reducible exact LeO.refl _)
  | (with_reducible exact LeO.none _)
  | (with_reducible refine LeO.ite ?_ ?_)
  | (with_reducible refine LeO.bind ?_ (fun _=>?_))
  | exact ih0 _
  | exact ih1 _ _ _ _
  | exact ih2 _
  | exact LeO.none _
  | refine LeO.ite ?_ ?_
  | refine LeO.bind ?_ (fun _=>?_)
set_option maxHeartbeats 8000000 in
set_option maxRecDepth 100000 in
theorem impl_BadLink.calls (k:Nat) (a0:ByteArray) (r:Bool) (w:World) (h:impl_BadLink.f k a0=some r) :
 Calls Try.prog 6 #[.string a0] w fun e w'=>e=.returned (.bool r)∧Below w.heap.size w w':=by
 have HB:=A_ (Below.refl w.heap.size w)
 have H:((impl_isLong.f (([a0]:List ByteArray))).bind fun t137=>(if t137=true then (some false) else (impl_BadLink.l0 k a0)))=some r:=h
 clear h
 obtain ⟨y134,hy134⟩:∃ y_:List ByteArray,y_=(([a0]:List ByteArray)):=⟨_,rfl⟩
 replace H:((impl_isLong.f y134).bind fun t137=>(if t137=true then (some false) else (impl_BadLink.l0 k a0)))=some r:=by first|(rw [hy134];with_reducible exact H)|(have H2_:=(Option.bind_some _ _).symm.trans H;rw [hy134];with_reducible exact H2_)|(have H2_:=(Option.bind_some _ _).symm.trans H;with_reducible exact H2_)|with_reducible exact H|(rw [hy134];exact H)|exact H
 have Ny134:=A_ hy134
 clear hy134
 replace H:=ob_ H
 obtain ⟨t137,A20,H⟩:=H
 replace H:(if t137=true then (some false) else (impl_BadLink.l0 k a0))=some r:=H
 have A2:=A_ A20
 clear A20
 by_cases c3:t137=true
 ·subst c3
  have H1:(some false)=some r:=by rw [if_pos rfl] at H;exact H
  clear H
  have H:=H1
  clear H1
  obtain rfl:=oi_ H
  go_enter Try.func6,Try.ntmps6
  go_wp2_with (first|((with_reducible refine gate_dst (N:=7) rfl ?_);refine Kd.R_lit Kd.string _ 9 ?hg (N:=7) ?hd (xs:=([a0]:List ByteArray)) (inner:=[.string a0]) (ok:=fun _=>True) (okp:=fun _=>True) ?hr ?hp (fun _ hk=>hk) trivial (Below.refl _ _) (Nat.le_refl _) (by simp) ?_;(case hd=>rfl);(case hg=>rfl);(case hr=>first|(go_simp;done)|(go_simp;rfl)|(first|(go_simp;done)|(go_simp;rfl)));(case hp=>exact (Reps.one (show Kd.M Kd.string _ _ _ a0 [.string a0] from rfl) (Reps.none _ _)));intro v135 w4 ho5 hb hg_ hnew_;clear hg_ hnew_;(first|rw [←Ny134.out] at ho5|(simp only [Int.reduceToNat] at ho5;rw [←Ny134.out] at ho5));have n0_:=A_ (Kd.R_lower ho5 (bz_ (by repeat (first|(with_reducible first|exact HB.out|apply ba_|apply pd_|apply b1_)|exact HB.out))));have n1_:=A_ (bp_ (by repeat (first|(with_reducible first|exact HB.out|apply ba_|apply pd_|apply b1_)|exact HB.out)) hb);clear HB;have HO136:=n0_;have HB:=n1_;clear n0_ n1_;clear hb ho5;obtain ⟨Ao6,co6,eo6⟩:=Kd.R_slice HO136.out;subst eo6)|((with_reducible refine gate_callee (f:=10) rfl ?_);refine goesL_ (some 8) rfl rfl Try.func10 (by kernel_rfl) rfl #[.slice Ao6 y134.length co6] rfl (by (try simp only [List.map_toArray,List.map_cons,List.map_nil]);first|done|rfl|(simp only [ld_,lt_];rfl)) ?_;(with_reducible refine (impl_isLong.calls _ _ y134 true _ ?side1 ?side2 A2.out).mono ?_);(case side1=>repeat (first|exact (Kd.R_reads' HO136.out).2.2|(with_reducible refine ca_ ?_ _)|(with_reducible refine cn_ ?_ _)|(with_reducible refine cd_ ?_)));(case side2=>exact (Kd.R_reads' HO136.out).2.1);rintro e w7 ⟨rfl,hb⟩;refine ⟨_,rfl,?_⟩;have n0_:=A_ (Kd.R_below (by (with_reducible repeat (first|apply Kd.R_alloc|apply Kd.R_drewN|apply Kd.R_drew));exact HO136.out) hb);have n1_:=A_ (bp_ (by repeat (first|(with_reducible first|exact HB.out|apply ba_|apply pd_|apply b1_)|exact HB.out)) hb);clear HO136;clear HB;have HO136:=n0_;have HB:=n1_;clear n0_ n1_;(try clear hb);(try clear hb2);(try clear hk);(try clear hi)))
  go_ret
  exact ⟨by first|rfl|(simp [errW_none,errW_some] <;> rfl)|(simp [*,errW_none,errW_some] <;> rfl),by repeat (first|(with_reducible first|exact HB.out|apply ba_|apply pd_|apply b1_)|exact HB.out)⟩
 ·replace c3:=Bool.eq_false_iff.mpr c3
  subst c3
  have H1:(impl_BadLink.l0 k a0)=some r:=by rw [if_neg (show ¬ (false=true) by decide)] at H;exact H
  clear H
  have H:=H1
  clear H1
  have HC8:=A_ H
  clear H
  go_enter Try.func6,Try.ntmps6
  go_upto_block 0 with (first|((with_reducible refine gate_dst (N:=7) rfl ?_);refine Kd.R_lit Kd.string _ 9 ?hg (N:=7) ?hd (xs:=([a0]:List ByteArray)) (inner:=[.string a0]) (ok:=fun _=>True) (okp:=fun _=>True) ?hr ?hp (fun _ hk=>hk) trivial (Below.refl _ _) (Nat.le_refl _) (by simp) ?_;(case hd=>rfl);(case hg=>rfl);(case hr=>first|(go_simp;done)|(go_simp;rfl)|((first|(obtain ⟨_,_,rfl⟩:=Kd.R_slice HO136.out)|(obtain ⟨_,_,rfl⟩:=Kd.S_slice HO136.out)|skip);first|(go_simp;done)|(go_simp;rfl)));(case hp=>exact (Reps.one (show Kd.M Kd.string _ _ _ a0 [.string a0] from rfl) (Reps.none _ _)));intro v135 w9 ho10 hb hg_ hnew_;clear hg_ hnew_;(first|rw [←Ny134.out] at ho10|(simp only [Int.reduceToNat] at ho10;rw [←Ny134.out] at ho10));have n0_:=A_ (Kd.R_lower ho10 (bz_ (by repeat (first|(with_reducible first|exact HB.out|apply ba_|apply pd_|apply b1_)|exact HB.out))));have n1_:=A_ (bp_ (by repeat (first|(with_reducible first|exact HB.out|apply ba_|apply pd_|apply b1_)|exact HB.out)) hb);clear HB;have HO136:=n0_;have HB:=n1_;clear n0_ n1_;clear hb ho10;obtain ⟨Ao11,co11,eo11⟩:=Kd.R_slice HO136.out;subst eo11)|((with_reducible refine gate_callee (f:=10) rfl ?_);refine goesL_ (some 8) rfl rfl Try.func10 (by kernel_rfl) rfl #[.slice Ao11 y134.length co11] rfl (by (try simp only [List.map_toArray,List.map_cons,List.map_nil]);first|done|rfl|(simp only [ld_,lt_];rfl)) ?_;(with_reducible refine (impl_isLong.calls _ _ y134 false _ ?side1 ?side2 A2.out).mono ?_);(case side1=>repeat (first|exact (Kd.R_reads' HO136.out).2.2|(with_reducible refine ca_ ?_ _)|(with_reducible refine cn_ ?_ _)|(with_reducible refine cd_ ?_)));(case side2=>exact (Kd.R_reads' HO136.out).2.1);rintro e w12 ⟨rfl,hb⟩;refine ⟨_,rfl,?_⟩;have n0_:=A_ (Kd.R_below (by (with_reducible repeat (first|apply Kd.R_alloc|apply Kd.R_drewN|apply Kd.R_drew));exact HO136.out) hb);have n1_:=A_ (bp_ (by repeat (first|(with_reducible first|exact HB.out|apply ba_|apply pd_|apply b1_)|exact HB.out)) hb);clear HO136;clear HB;have HO136:=n0_;have HB:=n1_;clear n0_ n1_;(try clear hb);(try clear hb2);(try clear hk);(try clear hi)))
  (try simp only [Act.put,ls_,lz_,lc_])
  go_cut [0] (fun v0 wc=>∃ (kq:Nat) (x0_7:ByteArray),v0=.string x0_7∧Aside0 (impl_BadLink.j1 kq x0_7=some r)∧Aside0 (kq≤k)∧Aside0 (Below w.heap.size w wc))
  case first =>
   have H:=HC8.out
   clear HC8
   have H':=A_ H
   clear H
   go_wp2
   go_loopg [0] k (fun kq v0 w'=>∃ (x0_1:ByteArray),v0=.string x0_1∧Aside0 (impl_BadLink.l0 kq x0_1=some r)∧Aside0 (kq≤k)∧Aside0 (Below w.heap.size w w'))
   case atStart=>exact ⟨(a0),(by first|rfl|(simp;done)|(simp [*];done)),H',⟨Nat.le_refl _⟩,⟨by repeat (first|(with_reducible first|exact HB.out|apply ba_|apply pd_|apply b1_)|exact HB.out)⟩⟩
   case round =>
    clear H'
    try clear c1
    try clear p2
    try clear c3
    try clear c6
    try clear c10
    obtain ⟨x0_1,rfl,HA,HK1,HB⟩:=hrel
    cases gk with
    | zero=>exact absurd HA.out (by simp [impl_BadLink.l0])
    | succ k1 =>
     have H:=HA.out
     clear HA
     simp only [impl_BadLink.l0] at H
     by_cases c13:x0_1.toList=([]:List UInt8)
     ·rw [if_pos c13] at H
      have c13b0:(x0_1.toList == ([]:List UInt8))=true:=beq_iff_eq.mpr c13
      have c13b1:(x0_1.toList != ([]:List UInt8))=false:=bne_eq_false_iff_eq.mpr c13
      clear c13
      (first|rw [c13b0]|(simp only [i64_w,i32_w];rw [c13b0])|skip)
      have H':=A_ H
      clear H
      go_wp2
      go_meet
      case rel=>exact ⟨_,(x0_1),(by first|rfl|(simp;done)|(simp [*];done)),H',⟨by have:=HK1.out;first|omega|exact Nat.le_refl _⟩,⟨by repeat (first|(with_reducible first|exact HB.out|apply ba_|apply pd_|apply b1_)|exact HB.out)⟩⟩
     ·rw [if_neg c13] at H
      have c13b0:(x0_1.toList == ([]:List UInt8))=false:=beq_eq_false_iff_ne.mpr c13
      have c13b1:(x0_1.toList != ([]:List UInt8))=true:=bne_iff_ne.mpr c13
      (first|rw [c13b0]|(simp only [i64_w,i32_w];rw [c13b0])|skip)
      by_cases c14:0<(x0_1.size:Int)
      ·rw [if_pos c14] at H
       have c14b0:decide (0<(x0_1.size:Int))=true:=dt_ c14
       have c14b1:decide (0<x0_1.size)=true:=dt_ (by omega)
       clear c14
       by_cases c16:(bt x0_1 0)≤32
       ·rw [if_pos c16] at H
        have c16b0:decide ((bt x0_1 0)≤32)=true:=dt_ c16
        clear c16
        by_cases c17:1≤(x0_1.size:Int)
        ·rw [if_pos c17] at H
         have c17b0:=eq_true c17
         have c17b1:decide (1≤(x0_1.size:Int))=true:=dt_ c17
         clear c17
         have H':=A_ H
         clear H
         have p15:0≤(0:Int):=(by omega)
         have q15:0<x0_1.size:=(by have:(0:Int)<(x0_1.size:Int):=od_ (by first|(with_reducible assumption)|assumption);omega)
         have hx15:∀ h:0<x0_1.size,((x0_1[0]'h).toNat:Int)=bt x0_1 0:=bt_at x0_1 0
         clear p15
         have qi15:(0<(x0_1.size:Int))=True:=eq_true (od_ (by first|(with_reducible assumption)|assumption))
         replace q15:=eq_true q15
         go_wp2
         go_roundg k1
         case measure=>have:=HK1.out;omega
         case rel=>exact ⟨(x0_1.extract 1 x0_1.size),(by first|rfl|(simp;done)|(simp [*];done)),H',⟨by have:=HK1.out;omega⟩,⟨by repeat (first|(with_reducible first|exact HB.out|apply ba_|apply pd_|apply b1_)|exact HB.out)⟩⟩
        ·rw [if_neg c17] at H
         exact absurd H (by simp)
       ·rw [if_neg c16] at H
        have c16b0:decide ((bt x0_1 0)≤32)=false:=df_ c16
        clear c16
        have H':=A_ H
        clear H
        have p15:0≤(0:Int):=(by omega)
        have q15:0<x0_1.size:=(by have:(0:Int)<(x0_1.size:Int):=od_ (by first|(with_reducible assumption)|assumption);omega)
        have hx15:∀ h:0<x0_1.size,((x0_1[0]'h).toNat:Int)=bt x0_1 0:=bt_at x0_1 0
        clear p15
        have qi15:(0<(x0_1.size:Int))=True:=eq_true (od_ (by first|(with_reducible assumption)|assumption))
        replace q15:=eq_true q15
        go_wp2
        go_meet
        case rel=>exact ⟨_,(x0_1),(by first|rfl|(simp;done)|(simp [*];done)),H',⟨by have:=HK1.out;first|omega|exact Nat.le_refl _⟩,⟨by repeat (first|(with_reducible first|exact HB.out|apply ba_|apply pd_|apply b1_)|exact HB.out)⟩⟩
      ·rw [if_neg c14] at H
       exact absurd H (by simp)
  case rest =>
   clear HC8
   try clear c1
   try clear p1
   try clear q1
   try clear hx1
   try clear qi1
   try clear p2
   try clear c3
   try clear c6
   try clear c10
   try clear c13
   try clear c13b0
   try clear c13b1
   try clear c14
   try clear c14b0
   try clear c14b1
   try clear p15
   try clear q15
   try clear hx15
   try clear qi15
   try clear c16
   try clear c16b0
   try clear c17
   try clear c17b0
   try clear c17b1
   try clear p15
   try clear p2
   try clear q15
   obtain ⟨kq,x0_7,rfl,HA,HJ7,HB⟩:=hcut
   cases kq with
   | zero=>exact absurd HA.out (by simp [impl_BadLink.j1])
   | succ kj7 =>
    have H:=HA.out
    clear HA
    simp only [impl_BadLink.j1] at H
    obtain ⟨y138,hy138⟩:∃ y_:List Int,y_=(([]:List Int)):=⟨_,rfl⟩
    replace H:(impl_BadLink.l1 kj7 x0_7 y138 (x0_7.size:Int) 0)=some r:=by first|(rw [hy138];with_reducible exact H)|(have H2_:=(Option.bind_some _ _).symm.trans H;rw [hy138];with_reducible exact H2_)|(have H2_:=(Option.bind_some _ _).symm.trans H;with_reducible exact H2_)|with_reducible exact H|(rw [hy138];exact H)|exact H
    have Ny138:=A_ hy138
    clear hy138
    have H':=A_ H
    clear H
    go_wp2_with (first|((with_reducible refine gate_dst (N:=18) rfl ?_);refine Kd.R_lit (Kd.int .u8) _ 5 ?hg (N:=18) ?hd (xs:=([]:List Int)) (inner:=[]) (ok:=fun _=>True) (okp:=fun _=>True) ?hr ?hp (fun _ hk=>hk) trivial (Below.refl _ _) (Nat.le_refl _) (by simp) ?_;(case hd=>rfl);(case hg=>rfl);(case hr=>first|(go_simp;done)|(go_simp;rfl)|((first|(obtain ⟨_,_,rfl⟩:=Kd.R_slice HO136.out)|(obtain ⟨_,_,rfl⟩:=Kd.S_slice HO136.out)|skip);first|(go_simp;done)|(go_simp;rfl)));(case hp=>exact (Reps.none _ _));intro v139 w18 ho19 hb hg_ hnew_;clear hg_ hnew_;(first|rw [←Ny138.out] at ho19|(simp only [Int.reduceToNat] at ho19;rw [←Ny138.out] at ho19));have n0_:=A_ (Kd.R_lower ho19 (bz_ (by repeat (first|(with_reducible first|exact HB.out|apply ba_|apply pd_|apply b1_)|exact HB.out))));have n1_:=A_ (bp_ (by repeat (first|(with_reducible first|exact HB.out|apply ba_|apply pd_|apply b1_)|exact HB.out)) hb);clear HB;have HO140:=n0_;have HB:=n1_;clear n0_ n1_;clear hb ho19))
    go_loopg [3,21] kj7 (fun kq v3 v21 w'=>∃ (x3_2:List Int) (x21_2:Int),v21=.int .i64 x21_2∧Aside0 (impl_BadLink.l1 kq x0_7 x3_2 (x0_7.size:Int) x21_2=some r)∧Aside0 (kq≤kj7)∧Aside0 (Kd.R (Kd.int .u8) 5 w' w.heap.size (fun _=>True) v3 x3_2)∧Aside0 (Below w.heap.size w w'))
    case atStart=>exact ⟨(y138),(0),(by first|rfl|(simp;done)|(simp [*];done)),H',⟨Nat.le_refl _⟩,⟨by (with_reducible repeat (first|apply Kd.R_alloc|apply Kd.R_drewN|apply Kd.R_drew));exact HO140.out⟩,⟨by repeat (first|(with_reducible first|exact HB.out|apply ba_|apply pd_|apply b1_)|exact HB.out)⟩⟩
    case round =>
     clear H'
     try clear c1
     try clear p1
     try clear q1
     try clear hx1
     try clear qi1
     try clear p2
     try clear c3
     try clear c6
     try clear c10
     try clear c13
     try clear c13b0
     try clear c13b1
     try clear c14
     try clear c14b0
     try clear c14b1
     try clear p15
     try clear q15
     try clear hx15
     try clear qi15
     try clear c16
     try clear c16b0
     try clear c17
     try clear c17b0
     try clear c17b1
     try clear p1
     try clear p15
     try clear p2
     try clear q1
     try clear q15
     obtain ⟨x3_2,x21_2,rfl,HA,HK2,HO_3,HB⟩:=hrel
     cases gk with
     | zero=>exact absurd HA.out (by simp [impl_BadLink.l1])
     | succ k2 =>
      have H:=HA.out
      clear HA
      simp only [impl_BadLink.l1] at H
      by_cases c20:x21_2<(x0_7.size:Int)
      ·rw [if_pos c20] at H
       have c20b0:decide (x21_2<(x0_7.size:Int))=true:=dt_ c20
       clear c20
       by_cases c21:0≤x21_2
       ·rw [if_pos c21] at H
        have c21b0:decide (0≤x21_2)=true:=dt_ c21
        clear c21
        by_cases c22:x21_2<(x0_7.size:Int)
        ·rw [if_pos c22] at H
         have c22b0:decide (x21_2<(x0_7.size:Int))=true:=dt_ c22
         clear c22
         by_cases c24:(bt x0_7 x21_2)=9
         ·rw [if_pos c24] at H
          have c24b0:((bt x0_7 x21_2) == 9)=true:=beq_iff_eq.mpr c24
          have c24b1:((bt x0_7 x21_2) != 9)=false:=bne_eq_false_iff_eq.mpr c24
          clear c24
          have H':=A_ H
          clear H
          have p23:0≤(x21_2:Int):=od_ (by first|(with_reducible assumption)|assumption)
          have q23:x21_2<(x0_7.size:Int):=od_ (by first|(with_reducible assumption)|assumption)
          have hx23:=bt_at x0_7 x21_2
          replace p23:=eq_true p23
          replace q23:=eq_true q23
          go_wp2
          go_roundg k2
          case measure=>have:=HJ7.out;have:=HK2.out;omega
          case rel=>exact ⟨(x3_2),(wrap64 (x21_2+1)),(by first|rfl|(simp;done)|(simp [*];done)),H',⟨by have:=HJ7.out;have:=HK2.out;omega⟩,⟨by (with_reducible repeat (first|apply Kd.R_alloc|apply Kd.R_drewN|apply Kd.R_drew));exact HO_3.out⟩,⟨by repeat (first|(with_reducible first|exact HB.out|apply ba_|apply pd_|apply b1_)|exact HB.out)⟩⟩
         ·rw [if_neg c24] at H
          have c24b0:((bt x0_7 x21_2) == 9)=false:=beq_eq_false_iff_ne.mpr c24
          have c24b1:((bt x0_7 x21_2) != 9)=true:=bne_iff_ne.mpr c24
          by_cases c25:(bt x0_7 x21_2)=10
          ·rw [if_pos c25] at H
           have c25b0:((bt x0_7 x21_2) == 10)=true:=beq_iff_eq.mpr c25
           have c25b1:((bt x0_7 x21_2) != 10)=false:=bne_eq_false_iff_eq.mpr c25
           clear c25
           have H':=A_ H
           clear H
           have p23:0≤(x21_2:Int):=od_ (by first|(with_reducible assumption)|assumption)
           have q23:x21_2<(x0_7.size:Int):=od_ (by first|(with_reducible assumption)|assumption)
           have hx23:=bt_at x0_7 x21_2
           replace p23:=eq_true p23
           replace q23:=eq_true q23
           go_wp2
           go_roundg k2
           case measure=>have:=HJ7.out;have:=HK2.out;omega
           case rel=>exact ⟨(x3_2),(wrap64 (x21_2+1)),(by first|rfl|(simp;done)|(simp [*];done)),H',⟨by have:=HJ7.out;have:=HK2.out;omega⟩,⟨by (with_reducible repeat (first|apply Kd.R_alloc|apply Kd.R_drewN|apply Kd.R_drew));exact HO_3.out⟩,⟨by repeat (first|(with_reducible first|exact HB.out|apply ba_|apply pd_|apply b1_)|exact HB.out)⟩⟩
          ·rw [if_neg c25] at H
           have c25b0:((bt x0_7 x21_2) == 10)=false:=beq_eq_false_iff_ne.mpr c25
           have c25b1:((bt x0_7 x21_2) != 10)=true:=bne_iff_ne.mpr c25
           by_cases c26:(bt x0_7 x21_2)=13
           ·rw [if_pos c26] at H
            have c26b0:((bt x0_7 x21_2) == 13)=true:=beq_iff_eq.mpr c26
            have c26b1:((bt x0_7 x21_2) != 13)=false:=bne_eq_false_iff_eq.mpr c26
            clear c26
            have H':=A_ H
            clear H
            have p23:0≤(x21_2:Int):=od_ (by first|(with_reducible assumption)|assumption)
            have q23:x21_2<(x0_7.size:Int):=od_ (by first|(with_reducible assumption)|assumption)
            have hx23:=bt_at x0_7 x21_2
            replace p23:=eq_true p23
            replace q23:=eq_true q23
            go_wp2
            go_roundg k2
            case measure=>have:=HJ7.out;have:=HK2.out;omega
            case rel=>exact ⟨(x3_2),(wrap64 (x21_2+1)),(by first|rfl|(simp;done)|(simp [*];done)),H',⟨by have:=HJ7.out;have:=HK2.out;omega⟩,⟨by (with_reducible repeat (first|apply Kd.R_alloc|apply Kd.R_drewN|apply Kd.R_drew));exact HO_3.out⟩,⟨by repeat (first|(with_reducible first|exact HB.out|apply ba_|apply pd_|apply b1_)|exact HB.out)⟩⟩
           ·rw [if_neg c26] at H
            have c26b0:((bt x0_7 x21_2) == 13)=false:=beq_eq_false_iff_ne.mpr c26
            have c26b1:((bt x0_7 x21_2) != 13)=true:=bne_iff_ne.mpr c26
            by_cases c27:x3_2.length<140737488355328
            ·rw [if_pos c27] at H
             have LMc27:=A_ c27
             clear c27
             obtain ⟨y141,hy141⟩:∃ y_:List Int,y_=(x3_2++[bt x0_7 x21_2]):=⟨_,rfl⟩
             replace H:(impl_BadLink.l1 k2 x0_7 y141 (x0_7.size:Int) (wrap64 (x21_2+1)))=some r:=by first|(rw [hy141];with_reducible exact H)|(have H2_:=(Option.bind_some _ _).symm.trans H;rw [hy141];with_reducible exact H2_)|(have H2_:=(Option.bind_some _ _).symm.trans H;with_reducible exact H2_)|with_reducible exact H|(rw [hy141];exact H)|exact H
             have Ny141:=A_ hy141
             clear hy141
             have H':=A_ H
             clear H
             have p23:0≤(x21_2:Int):=od_ (by first|(with_reducible assumption)|assumption)
             have q23:x21_2<(x0_7.size:Int):=od_ (by first|(with_reducible assumption)|assumption)
             have hx23:=bt_at x0_7 x21_2
             replace p23:=eq_true p23
             replace q23:=eq_true q23
             go_wp2_with (first|((with_reducible refine gate_builtin (b:=.append) (xs:=#[.tmp 37,.tmp 39]) rfl ?_);at_builtin;refine Kd.R_append (Kd.int .u8) (w0:=w) w.heap.size rfl (.tmp 37) (.tmp 39) 22 5 (.int .u8 0) 1 rfl Try.underlying22 info5 rfl (by decide) (by omega) u3 x3_2 (bt x0_7 x21_2) [.int .u8 (bt x0_7 x21_2)] (fun _=>True) (fun _=>False) rfl rfl ?aP (fun _ hk=>hk.elim) ?aF ?aO ?aB ?aS ?aL ?_;(case aP=>exact rfl);(case aB=>exact (by repeat (first|(with_reducible first|exact HB.out|apply ba_|apply pd_|apply b1_)|exact HB.out)));(case aF=>exact (fun _ _=>trivial));(case aO=>exact (by (with_reducible repeat (first|apply Kd.R_alloc|apply Kd.R_drewN|apply Kd.R_drew));exact HO_3.out));(case aS=>exact (bz_ (by repeat (first|(with_reducible first|exact HB.out|apply ba_|apply pd_|apply b1_)|exact HB.out))));(case aL=>have:=LMc27.out;omega);intro v142 w28 ho hb hg hat;rw [←Ny141.out] at ho;have n0_:=A_ (hb);have n1_:=A_ (ho);clear HB;clear HO_3;have HB:=n0_;have HO143:=n1_;clear n0_ n1_;clear ho hb hg hat))
             go_roundg k2
             case measure=>have:=HJ7.out;have:=HK2.out;omega
             case rel=>exact ⟨(y141),(wrap64 (x21_2+1)),(by first|rfl|(simp;done)|(simp [*];done)),H',⟨by have:=HJ7.out;have:=HK2.out;omega⟩,⟨by (with_reducible repeat (first|apply Kd.R_alloc|apply Kd.R_drewN|apply Kd.R_drew));exact HO143.out⟩,⟨by repeat (first|(with_reducible first|exact HB.out|apply ba_|apply pd_|apply b1_)|exact HB.out)⟩⟩
            ·rw [if_neg c27] at H
             exact absurd H (by simp)
        ·rw [if_neg c22] at H
         exact absurd H (by simp)
       ·rw [if_neg c21] at H
        exact absurd H (by simp)
      ·rw [if_neg c20] at H
       have c20b0:decide (x21_2<(x0_7.size:Int))=false:=df_ c20
       clear c20
       replace H:=ob_ H
       obtain ⟨t144,A290,H⟩:=H
       replace H:((strings_HasPrefix.f t144 (⟨#[106,97,118,97,115,99,114,105,112,116,58]⟩:ByteArray)).bind fun t145=>(some t145))=some r:=H
       have A29:=A_ A290
       clear A290
       replace H:=ob_ H
       obtain ⟨t145,A300,H⟩:=H
       replace H:(some t145)=some r:=H
       have A30:=A_ A300
       clear A300
       obtain rfl:=oi_ H
       have hcv31:=own_string (P:=Try.prog) Try.underlying22 Try.underlying5 Try.underlying9 (Kd.own_of_R HO_3.out)
       go_wp2_with (first|((with_reducible refine gate_callee (f:=12) rfl ?_);refine goesL_ (some 44) rfl rfl Try.func12 (by kernel_rfl) rfl #[.string (strOfNums x3_2)] rfl (by (try simp only [List.map_toArray,List.map_cons,List.map_nil]);first|done|rfl|(simp only [ld_,lt_];rfl)) ?_;(with_reducible refine (impl_lower.calls (strOfNums x3_2) t144 _ A29.out).mono ?_);rintro e w32 ⟨rfl,hb⟩;refine ⟨_,rfl,?_⟩;have n0_:=A_ (Kd.R_below (by (with_reducible repeat (first|apply Kd.R_alloc|apply Kd.R_drewN|apply Kd.R_drew));exact HO_3.out) hb);have n1_:=A_ (bp_ (by repeat (first|(with_reducible first|exact HB.out|apply ba_|apply pd_|apply b1_)|exact HB.out)) hb);clear HO_3;clear HB;have HO_3:=n0_;have HB:=n1_;clear n0_ n1_;(try clear hb);(try clear hb2);(try clear hk);(try clear hi))|((with_reducible refine gate_callee (f:=11) rfl ?_);refine goesL_ (some 45) rfl rfl Try.func11 (by kernel_rfl) rfl #[.string t144,.string (⟨#[106,97,118,97,115,99,114,105,112,116,58]⟩:ByteArray)] rfl (by (try simp only [List.map_toArray,List.map_cons,List.map_nil]);first|done|rfl|(simp only [ld_,lt_];rfl)) ?_;(with_reducible refine (strings_HasPrefix.calls t144 (⟨#[106,97,118,97,115,99,114,105,112,116,58]⟩:ByteArray) t145 _ A30.out).mono ?_);rintro e w' ⟨rfl,⟨nd,rfl⟩⟩;refine ⟨_,rfl,?_⟩))
       go_ret
       exact ⟨by first|rfl|(simp [errW_none,errW_some] <;> rfl)|(simp [*,errW_none,errW_some] <;> rfl),by repeat (first|(with_reducible first|exact HB.out|apply ba_|apply pd_|apply b1_)|exact HB.out)⟩
end Go.Proofs.Ytpfpbanadobfmaa.PFnLinks
