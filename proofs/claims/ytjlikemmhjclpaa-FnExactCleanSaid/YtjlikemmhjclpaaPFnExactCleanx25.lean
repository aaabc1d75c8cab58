/- By a program of this session, out of the kit's print and contracts made by hand: the machine side of a law; Lean checks it. No conditions. -/
import Derived.Test.YtjlikemmhjclpaaPFnExactCleanx0
import Derived.Test.YtjlikemmhjclpaaPFnExactCleanx18
import Derived.Test.YtjlikemmhjclpaaPFnExactCleanx24
namespace Go.Proofs.Ytjlikemmhjclpaa.PFnExactClean
open Go.RowKit Go.Proofs.YtjlikemmhjclpaaW.PrintWords Go.Proofs.YtjlikemmhjclpaaW.PrintLast Go.Proofs.YtjlikemmhjclpaaW.PrintMore
attribute [local go_sem] max2_int min2_int max_two min_two max_three min_three max_four min_four
set_option linter.unusedVariables false
set_option linter.unusedSimpArgs false
/-! ### stringslite_HasPrefix: function 88 -/
def stringslite_HasPrefix.f (a0:ByteArray) (a1:ByteArray):Option (Bool):=if (a0.size:Int)≥(a1.size:Int) then (if 0≤(a1.size:Int) then (if (a1.size:Int)≤(a0.size:Int) then (some ((a0.extract 0 ((a1.size:Int):Int).toNat).toList == a1.toList)) else (none)) else (none)) else (some false)
set_option maxHeartbeats 8000000 in
set_option maxRecDepth 100000 in
theorem stringslite_HasPrefix.calls (a0:ByteArray) (a1:ByteArray) (r:Bool) (w:World) (h:stringslite_HasPrefix.f a0 a1=some r) :
 Calls Try.prog 88 #[.string a0,.string a1] w fun e w'=>e=.returned (.bool r)∧Drawn0 w w':=by
 have H:(if (a0.size:Int)≥(a1.size:Int) then (if 0≤(a1.size:Int) then (if (a1.size:Int)≤(a0.size:Int) then (some ((a0.extract 0 ((a1.size:Int):Int).toNat).toList == a1.toList)) else (none)) else (none)) else (some false))=some r:=h
 clear h
 by_cases c3:(a0.size:Int)≥(a1.size:Int)
 ·rw [if_pos c3] at H
  have c3b0:decide ((a1.size:Int)≤(a0.size:Int))=true:=dt_ c3
  have c3b1:decide (a1.size≤a0.size)=true:=dt_ (Int.ofNat_le.mp c3)
  clear c3
  by_cases c4:0≤(a1.size:Int)
  ·rw [if_pos c4] at H
   have c4b0:=eq_true c4
   have c4b1:decide (0≤(a1.size:Int))=true:=dt_ c4
   clear c4
   by_cases c5:(a1.size:Int)≤(a0.size:Int)
   ·rw [if_pos c5] at H
    have c5b0:=eq_true c5
    have c5b1:decide ((a1.size:Int)≤(a0.size:Int))=true:=dt_ c5
    clear c5
    obtain rfl:=oi_ H
    go_enter Try.func88,Try.ntmps88
    go_wp2
    go_ret
    exact ⟨by first|rfl|(simp;done)|(simp [*];done),by repeat (first|exact dr_ _|apply dp_)⟩
   ·rw [if_neg c5] at H
    exact absurd H (by simp)
  ·rw [if_neg c4] at H
   exact absurd H (by simp)
 ·rw [if_neg c3] at H
  have c3b0:decide ((a1.size:Int)≤(a0.size:Int))=false:=df_ c3
  have c3b1:decide (a1.size≤a0.size)=false:=df_ (fun h=>c3 (Int.ofNat_le.mpr h))
  clear c3
  obtain rfl:=oi_ H
  go_enter Try.func88,Try.ntmps88
  go_wp2
  go_ret
  exact ⟨by first|rfl|(simp;done)|(simp [*];done),by repeat (first|exact dr_ _|apply dp_)⟩
/-! ### strings_HasPrefix: function 58 -/
def strings_HasPrefix.f (a0:ByteArray) (a1:ByteArray):Option (Bool):=(stringslite_HasPrefix.f a0 a1).bind fun t235=>(some t235)
set_option maxHeartbeats 8000000 in
set_option maxRecDepth 100000 in
theorem strings_HasPrefix.calls (a0:ByteArray) (a1:ByteArray) (r:Bool) (w:World) (h:strings_HasPrefix.f a0 a1=some r) :
 Calls Try.prog 58 #[.string a0,.string a1] w fun e w'=>e=.returned (.bool r)∧Drawn0 w w':=by
 have H:((stringslite_HasPrefix.f a0 a1).bind fun t235=>(some t235))=some r:=h
 clear h
 replace H:=ob_ H
 obtain ⟨t235,A30,H⟩:=H
 replace H:(some t235)=some r:=H
 have A3:=A_ A30
 clear A30
 obtain rfl:=oi_ H
 go_enter Try.func58,Try.ntmps58
 go_wp2_with (first|((with_reducible refine gate_callee (f:=88) rfl ?_);refine goesL_ (some 7) rfl rfl Try.func88 (by kernel_rfl) rfl #[.string a0,.string a1] rfl (by (try simp only [List.map_toArray,List.map_cons,List.map_nil]);first|done|rfl|(simp only [ld_,lt_];rfl)) ?_;(with_reducible refine (stringslite_HasPrefix.calls a0 a1 t235 _ A3.out).mono ?_);rintro e w' ⟨rfl,⟨nd,rfl⟩⟩;refine ⟨_,rfl,?_⟩))
 go_ret
 exact ⟨by first|rfl|(simp;done)|(simp [*];done),by repeat (first|exact dr_ _|apply dp_)⟩
/-! ### impl_IsHandler: function 116 -/
def impl_IsHandler.f (a0:ByteArray):Option (Bool):=(impl_isLong.f (([a0]:List ByteArray))).bind fun t239=>(if t239=true then (some false) else (if (a0.size:Int)>2 then ((strings_HasPrefix.f a0 (⟨#[111,110]⟩:ByteArray)).bind fun t240=>(some t240)) else (some false)))
set_option maxHeartbeats 8000000 in
set_option maxRecDepth 100000 in
theorem impl_IsHandler.calls (a0:ByteArray) (r:Bool) (w:World) (h:impl_IsHandler.f a0=some r) :
 Calls Try.prog 116 #[.string a0] w fun e w'=>e=.returned (.bool r)∧Below w.heap.size w w':=by
 have HB:=A_ (Below.refl w.heap.size w)
 have H:((impl_isLong.f (([a0]:List ByteArray))).bind fun t239=>(if t239=true then (some false) else (if (a0.size:Int)>2 then ((strings_HasPrefix.f a0 (⟨#[111,110]⟩:ByteArray)).bind fun t240=>(some t240)) else (some false))))=some r:=h
 clear h
 obtain ⟨y236,hy236⟩:∃ y_:List ByteArray,y_=(([a0]:List ByteArray)):=⟨_,rfl⟩
 replace H:((impl_isLong.f y236).bind fun t239=>(if t239=true then (some false) else (if (a0.size:Int)>2 then ((strings_HasPrefix.f a0 (⟨#[111,110]⟩:ByteArray)).bind fun t240=>(some t240)) else (some false))))=some r:=by first|(rw [hy236];with_reducible exact H)|(have H2_:=(Option.bind_some _ _).symm.trans H;rw [hy236];with_reducible exact H2_)|(have H2_:=(Option.bind_some _ _).symm.trans H;with_reducible exact H2_)|with_reducible exact H|(rw [hy236];exact H)|exact H
 have Ny236:=A_ hy236
 clear hy236
 replace H:=ob_ H
 obtain ⟨t239,A20,H⟩:=H
 replace H:(if t239=true then (some false) else (if (a0.size:Int)>2 then ((strings_HasPrefix.f a0 (⟨#[111,110]⟩:ByteArray)).bind fun t240=>(some t240)) else (some false)))=some r:=H
 have A2:=A_ A20
 clear A20
 by_cases c3:t239=true
 ·subst c3
  have H1:(some false)=some r:=by rw [if_pos rfl] at H;exact H
  clear H
  have H:=H1
  clear H1
  obtain rfl:=oi_ H
  go_enter Try.func116,Try.ntmps116
  go_wp2_with (first|((with_reducible refine gate_dst (N:=4) rfl ?_);(try (refine gate_guard (by rfl) ?_;dsimp only));refine Kd.R_lit Kd.string _ 9 ?hg (N:=4) ?hd (xs:=([a0]:List ByteArray)) (inner:=[.string a0]) (ok:=fun _=>True) (okp:=fun _=>True) ?hr ?hp (fun _ hk=>hk) trivial (Below.refl _ _) (Nat.le_refl _) (by simp) ?_;(case hd=>rfl);(case hg=>rfl);(case hr=>first|(go_simp;done)|(go_simp;rfl)|(first|(go_simp;done)|(go_simp;rfl)));(case hp=>exact (Reps.one (show Kd.M Kd.string _ _ _ a0 [.string a0] from rfl) (Reps.none _ _)));intro v237 w4 ho5 hb hg_ hnew_;clear hg_ hnew_;(first|rw [←Ny236.out] at ho5|(simp only [Int.reduceToNat] at ho5;rw [←Ny236.out] at ho5));have n0_:=A_ (Kd.R_lower ho5 (bz_ (by repeat (first|(with_reducible first|exact HB.out|apply ba_|apply pd_|apply b1_)|exact HB.out))));have n1_:=A_ (bp_ (by repeat (first|(with_reducible first|exact HB.out|apply ba_|apply pd_|apply b1_)|exact HB.out)) hb);clear HB;have HO238:=n0_;have HB:=n1_;clear n0_ n1_;clear hb ho5;obtain ⟨Ao6,co6,eo6⟩:=Kd.R_slice HO238.out;subst eo6)|((with_reducible refine gate_callee (f:=55) rfl ?_);refine goesL_ (some 5) rfl rfl Try.func55 (by kernel_rfl) rfl #[.slice Ao6 y236.length co6] rfl (by (try simp only [List.map_toArray,List.map_cons,List.map_nil]);first|done|rfl|(simp only [ld_,lt_];rfl)) ?_;(with_reducible refine (impl_isLong.calls _ _ y236 true _ ?side1 ?side2 A2.out).mono ?_);(case side1=>repeat (first|exact (Kd.R_reads' HO238.out).2.2|(with_reducible refine ca_ ?_ _)|(with_reducible refine cn_ ?_ _)|(with_reducible refine cd_ ?_)));(case side2=>exact (Kd.R_reads' HO238.out).2.1);rintro e w7 ⟨rfl,hb⟩;refine ⟨_,rfl,?_⟩;have n0_:=A_ (Kd.R_below (by (with_reducible repeat (first|apply Kd.R_alloc|apply Kd.R_drewN|apply Kd.R_drew));exact HO238.out) hb);have n1_:=A_ (bp_ (by repeat (first|(with_reducible first|exact HB.out|apply ba_|apply pd_|apply b1_)|exact HB.out)) hb);clear HO238;clear HB;have HO238:=n0_;have HB:=n1_;clear n0_ n1_;(try clear hb);(try clear hb2);(try clear hk);(try clear hi)))
  go_ret
  exact ⟨by first|rfl|(simp [errW_none,errW_some] <;> rfl)|(simp [*,errW_none,errW_some] <;> rfl),by repeat (first|(with_reducible first|exact HB.out|apply ba_|apply pd_|apply b1_)|exact HB.out)⟩
 ·replace c3:=bm_ c3
  subst c3
  have H1:(if (a0.size:Int)>2 then ((strings_HasPrefix.f a0 (⟨#[111,110]⟩:ByteArray)).bind fun t240=>(some t240)) else (some false))=some r:=by rw [if_neg (show ¬ (false=true) by decide)] at H;exact H
  clear H
  have H:=H1
  clear H1
  by_cases c8:(a0.size:Int)>2
  ·rw [if_pos c8] at H
   have c8b0:decide (2<(a0.size:Int))=true:=dt_ c8
   have c8b1:decide (2<a0.size)=true:=dt_ (by omega)
   clear c8
   replace H:=ob_ H
   obtain ⟨t240,A90,H⟩:=H
   replace H:(some t240)=some r:=H
   have A9:=A_ A90
   clear A90
   obtain rfl:=oi_ H
   go_enter Try.func116,Try.ntmps116
   go_wp2_with (first|((with_reducible refine gate_dst (N:=4) rfl ?_);(try (refine gate_guard (by rfl) ?_;dsimp only));refine Kd.R_lit Kd.string _ 9 ?hg (N:=4) ?hd (xs:=([a0]:List ByteArray)) (inner:=[.string a0]) (ok:=fun _=>True) (okp:=fun _=>True) ?hr ?hp (fun _ hk=>hk) trivial (Below.refl _ _) (Nat.le_refl _) (by simp) ?_;(case hd=>rfl);(case hg=>rfl);(case hr=>first|(go_simp;done)|(go_simp;rfl)|((first|(obtain ⟨_,_,rfl⟩:=Kd.R_slice HO238.out)|(obtain ⟨_,_,rfl⟩:=Kd.S_slice HO238.out)|skip);first|(go_simp;done)|(go_simp;rfl)));(case hp=>exact (Reps.one (show Kd.M Kd.string _ _ _ a0 [.string a0] from rfl) (Reps.none _ _)));intro v237 w10 ho11 hb hg_ hnew_;clear hg_ hnew_;(first|rw [←Ny236.out] at ho11|(simp only [Int.reduceToNat] at ho11;rw [←Ny236.out] at ho11));have n0_:=A_ (Kd.R_lower ho11 (bz_ (by repeat (first|(with_reducible first|exact HB.out|apply ba_|apply pd_|apply b1_)|exact HB.out))));have n1_:=A_ (bp_ (by repeat (first|(with_reducible first|exact HB.out|apply ba_|apply pd_|apply b1_)|exact HB.out)) hb);clear HB;have HO238:=n0_;have HB:=n1_;clear n0_ n1_;clear hb ho11;obtain ⟨Ao12,co12,eo12⟩:=Kd.R_slice HO238.out;subst eo12)|((with_reducible refine gate_callee (f:=55) rfl ?_);refine goesL_ (some 5) rfl rfl Try.func55 (by kernel_rfl) rfl #[.slice Ao12 y236.length co12] rfl (by (try simp only [List.map_toArray,List.map_cons,List.map_nil]);first|done|rfl|(simp only [ld_,lt_];rfl)) ?_;(with_reducible refine (impl_isLong.calls _ _ y236 false _ ?side1 ?side2 A2.out).mono ?_);(case side1=>repeat (first|exact (Kd.R_reads' HO238.out).2.2|(with_reducible refine ca_ ?_ _)|(with_reducible refine cn_ ?_ _)|(with_reducible refine cd_ ?_)));(case side2=>exact (Kd.R_reads' HO238.out).2.1);rintro e w13 ⟨rfl,hb⟩;refine ⟨_,rfl,?_⟩;have n0_:=A_ (Kd.R_below (by (with_reducible repeat (first|apply Kd.R_alloc|apply Kd.R_drewN|apply Kd.R_drew));exact HO238.out) hb);have n1_:=A_ (bp_ (by repeat (first|(with_reducible first|exact HB.out|apply ba_|apply pd_|apply b1_)|exact HB.out)) hb);clear HO238;clear HB;have HO238:=n0_;have HB:=n1_;clear n0_ n1_;(try clear hb);(try clear hb2);(try clear hk);(try clear hi))|(go_at_call 58;(with_reducible refine (strings_HasPrefix.calls a0 (⟨#[111,110]⟩:ByteArray) t240 _ A9.out).mono ?_);rintro e w' ⟨rfl,⟨nd,rfl⟩⟩))
   go_ret
   exact ⟨by first|rfl|(simp [errW_none,errW_some] <;> rfl)|(simp [*,errW_none,errW_some] <;> rfl),by repeat (first|(with_reducible first|exact HB.out|apply ba_|apply pd_|apply b1_)|exact HB.out)⟩
  ·rw [if_neg c8] at H
   have c8b0:decide (2<(a0.size:Int))=false:=df_ c8
   have c8b1:decide (2<a0.size)=false:=df_ (by omega)
   clear c8
   obtain rfl:=oi_ H
   go_enter Try.func116,Try.ntmps116
   go_wp2_with (first|((with_reducible refine gate_dst (N:=4) rfl ?_);(try (refine gate_guard (by rfl) ?_;dsimp only));refine Kd.R_lit Kd.string _ 9 ?hg (N:=4) ?hd (xs:=([a0]:List ByteArray)) (inner:=[.string a0]) (ok:=fun _=>True) (okp:=fun _=>True) ?hr ?hp (fun _ hk=>hk) trivial (Below.refl _ _) (Nat.le_refl _) (by simp) ?_;(case hd=>rfl);(case hg=>rfl);(case hr=>first|(go_simp;done)|(go_simp;rfl)|((first|(obtain ⟨_,_,rfl⟩:=Kd.R_slice HO238.out)|(obtain ⟨_,_,rfl⟩:=Kd.S_slice HO238.out)|skip);first|(go_simp;done)|(go_simp;rfl)));(case hp=>exact (Reps.one (show Kd.M Kd.string _ _ _ a0 [.string a0] from rfl) (Reps.none _ _)));intro v237 w14 ho15 hb hg_ hnew_;clear hg_ hnew_;(first|rw [←Ny236.out] at ho15|(simp only [Int.reduceToNat] at ho15;rw [←Ny236.out] at ho15));have n0_:=A_ (Kd.R_lower ho15 (bz_ (by repeat (first|(with_reducible first|exact HB.out|apply ba_|apply pd_|apply b1_)|exact HB.out))));have n1_:=A_ (bp_ (by repeat (first|(with_reducible first|exact HB.out|apply ba_|apply pd_|apply b1_)|exact HB.out)) hb);clear HB;have HO238:=n0_;have HB:=n1_;clear n0_ n1_;clear hb ho15;obtain ⟨Ao16,co16,eo16⟩:=Kd.R_slice HO238.out;subst eo16)|((with_reducible refine gate_callee (f:=55) rfl ?_);refine goesL_ (some 5) rfl rfl Try.func55 (by kernel_rfl) rfl #[.slice Ao16 y236.length co16] rfl (by (try simp only [List.map_toArray,List.map_cons,List.map_nil]);first|done|rfl|(simp only [ld_,lt_];rfl)) ?_;(with_reducible refine (impl_isLong.calls _ _ y236 false _ ?side1 ?side2 A2.out).mono ?_);(case side1=>repeat (first|exact (Kd.R_reads' HO238.out).2.2|(with_reducible refine ca_ ?_ _)|(with_reducible refine cn_ ?_ _)|(with_reducible refine cd_ ?_)));(case side2=>exact (Kd.R_reads' HO238.out).2.1);rintro e w17 ⟨rfl,hb⟩;refine ⟨_,rfl,?_⟩;have n0_:=A_ (Kd.R_below (by (with_reducible repeat (first|apply Kd.R_alloc|apply Kd.R_drewN|apply Kd.R_drew));exact HO238.out) hb);have n1_:=A_ (bp_ (by repeat (first|(with_reducible first|exact HB.out|apply ba_|apply pd_|apply b1_)|exact HB.out)) hb);clear HO238;clear HB;have HO238:=n0_;have HB:=n1_;clear n0_ n1_;(try clear hb);(try clear hb2);(try clear hk);(try clear hi)))
   go_ret
   exact ⟨by first|rfl|(simp [errW_none,errW_some] <;> rfl)|(simp [*,errW_none,errW_some] <;> rfl),by repeat (first|(with_reducible first|exact HB.out|apply ba_|apply pd_|apply b1_)|exact HB.out)⟩
/-! ### impl_IsLink: function 117 -/
def impl_IsLink.f (k:Nat) (a0:ByteArray):Option (Bool):=(slices_Contains_string_string.f k (([(⟨#[104,114,101,102]⟩:ByteArray),(⟨#[115,114,99]⟩:ByteArray),(⟨#[97,99,116,105,111,110]⟩:ByteArray),(⟨#[102,111,114,109,97,99,116,105,111,110]⟩:ByteArray),(⟨#[120,108,105,110,107,45,104,114,101,102]⟩:ByteArray)]:List ByteArray)) a0).bind fun t244=>(some t244)
theorem impl_IsLink.mono:∀ a0 k,LeO (impl_IsLink.f k a0) (impl_IsLink.f (k+1) a0):=by
 intro a0 k
 unfold impl_IsLink.f
 repeat' first
  | (with_reducible exact slices_Contains_string_string.mono _ _ _)
  | (with_reducible exact LeO.refl _)
  | (with_reducible exact LeO.none _)
  | (with_reducible refine LeO.ite ?_ ?_)
  | (with_reducible refine LeO.bind ?_ (fun _=>?_))
  | exact slices_Contains_string_string.mono _ _ _
  | exact LeO.none _
  | refine LeO.ite ?_ ?_
  | refine LeO.bind ?_ (fun _=>?_)
set_option maxHeartbeats 8000000 in
set_option maxRecDepth 100000 in
theorem impl_IsLink.calls (k:Nat) (a0:ByteArray) (r:Bool) (w:World) (h:impl_IsLink.f k a0=some r) :
 Calls Try.prog 117 #[.string a0] w fun e w'=>e=.returned (.bool r)∧Below w.heap.size w w':=by
 have HB:=A_ (Below.refl w.heap.size w)
 have H:((slices_Contains_string_string.f k (([(⟨#[104,114,101,102]⟩:ByteArray),(⟨#[115,114,99]⟩:ByteArray),(⟨#[97,99,116,105,111,110]⟩:ByteArray),(⟨#[102,111,114,109,97,99,116,105,111,110]⟩:ByteArray),(⟨#[120,108,105,110,107,45,104,114,101,102]⟩:ByteArray)]:List ByteArray)) a0).bind fun t244=>(some t244))=some r:=h
 clear h
 obtain ⟨y241,hy241⟩:∃ y_:List ByteArray,y_=(([(⟨#[104,114,101,102]⟩:ByteArray),(⟨#[115,114,99]⟩:ByteArray),(⟨#[97,99,116,105,111,110]⟩:ByteArray),(⟨#[102,111,114,109,97,99,116,105,111,110]⟩:ByteArray),(⟨#[120,108,105,110,107,45,104,114,101,102]⟩:ByteArray)]:List ByteArray)):=⟨_,rfl⟩
 replace H:((slices_Contains_string_string.f k y241 a0).bind fun t244=>(some t244))=some r:=by first|(rw [hy241];with_reducible exact H)|(have H2_:=(Option.bind_some _ _).symm.trans H;rw [hy241];with_reducible exact H2_)|(have H2_:=(Option.bind_some _ _).symm.trans H;with_reducible exact H2_)|with_reducible exact H|(rw [hy241];exact H)|exact H
 have Ny241:=A_ hy241
 clear hy241
 replace H:=ob_ H
 obtain ⟨t244,A20,H⟩:=H
 replace H:(some t244)=some r:=H
 have A2:=A_ A20
 clear A20
 obtain rfl:=oi_ H
 go_enter Try.func117,Try.ntmps117
 go_wp2_with (first|((with_reducible refine gate_dst (N:=3) rfl ?_);refine Kd.R_lit Kd.string _ 9 ?hg (N:=3) ?hd (xs:=([(⟨#[104,114,101,102]⟩:ByteArray),(⟨#[115,114,99]⟩:ByteArray),(⟨#[97,99,116,105,111,110]⟩:ByteArray),(⟨#[102,111,114,109,97,99,116,105,111,110]⟩:ByteArray),(⟨#[120,108,105,110,107,45,104,114,101,102]⟩:ByteArray)]:List ByteArray)) (inner:=[.string (⟨#[104,114,101,102]⟩:ByteArray),.string (⟨#[115,114,99]⟩:ByteArray),.string (⟨#[97,99,116,105,111,110]⟩:ByteArray),.string (⟨#[102,111,114,109,97,99,116,105,111,110]⟩:ByteArray),.string (⟨#[120,108,105,110,107,45,104,114,101,102]⟩:ByteArray)]) (ok:=fun _=>True) (okp:=fun _=>True) ?hr ?hp (fun _ hk=>hk) trivial (Below.refl _ _) (Nat.le_refl _) (by simp) ?_;(case hd=>rfl);(case hg=>rfl);(case hr=>first|(go_simp;done)|(go_simp;rfl)|(first|(go_simp;done)|(go_simp;rfl)));(case hp=>exact (Reps.one (show Kd.M Kd.string _ _ _ (⟨#[104,114,101,102]⟩:ByteArray) [.string (⟨#[104,114,101,102]⟩:ByteArray)] from rfl) (Reps.one (show Kd.M Kd.string _ _ _ (⟨#[115,114,99]⟩:ByteArray) [.string (⟨#[115,114,99]⟩:ByteArray)] from rfl) (Reps.one (show Kd.M Kd.string _ _ _ (⟨#[97,99,116,105,111,110]⟩:ByteArray) [.string (⟨#[97,99,116,105,111,110]⟩:ByteArray)] from rfl) (Reps.one (show Kd.M Kd.string _ _ _ (⟨#[102,111,114,109,97,99,116,105,111,110]⟩:ByteArray) [.string (⟨#[102,111,114,109,97,99,116,105,111,110]⟩:ByteArray)] from rfl) (Reps.one (show Kd.M Kd.string _ _ _ (⟨#[120,108,105,110,107,45,104,114,101,102]⟩:ByteArray) [.string (⟨#[120,108,105,110,107,45,104,114,101,102]⟩:ByteArray)] from rfl) (Reps.none _ _)))))));intro v242 w3 ho4 hb hg_ hnew_;clear hg_ hnew_;(first|rw [←Ny241.out] at ho4|(simp only [Int.reduceToNat] at ho4;rw [←Ny241.out] at ho4));have n0_:=A_ (Kd.R_lower ho4 (bz_ (by repeat (first|(with_reducible first|exact HB.out|apply ba_|apply pd_|apply b1_)|exact HB.out))));have n1_:=A_ (bp_ (by repeat (first|(with_reducible first|exact HB.out|apply ba_|apply pd_|apply b1_)|exact HB.out)) hb);clear HB;have HO243:=n0_;have HB:=n1_;clear n0_ n1_;clear hb ho4;obtain ⟨Ao5,co5,eo5⟩:=Kd.R_slice HO243.out;subst eo5)|((with_reducible refine gate_callee (f:=90) rfl ?_);refine goesL_ (some 5) rfl rfl Try.func90 (by kernel_rfl) rfl #[.slice Ao5 y241.length co5,.string a0] rfl (by (try simp only [List.map_toArray,List.map_cons,List.map_nil]);first|done|rfl|(simp only [ld_,lt_];rfl)) ?_;(with_reducible refine (slices_Contains_string_string.calls k _ _ y241 a0 t244 _ ?side1 ?side2 A2.out).mono ?_);(case side1=>repeat (first|exact (Kd.R_reads' HO243.out).2.2|(with_reducible refine ca_ ?_ _)|(with_reducible refine cn_ ?_ _)|(with_reducible refine cd_ ?_)));(case side2=>exact (Kd.R_reads' HO243.out).2.1);rintro e w' ⟨rfl,⟨nd,rfl⟩⟩;refine ⟨_,rfl,?_⟩))
 go_ret
 exact ⟨by first|rfl|(simp [errW_none,errW_some] <;> rfl)|(simp [*,errW_none,errW_some] <;> rfl),by repeat (first|(with_reducible first|exact HB.out|apply ba_|apply pd_|apply b1_)|exact HB.out)⟩
/-! ### impl_lower: function 125, by hand -/
open Go.Proofs.Ytjlikemmhjclpaa.Kit (lowC lowS)
def impl_lower.f (a0:ByteArray):Option ByteArray:=if a0.size≤9223372036854775807 then some (lowS a0) else none
theorem lower_start (w:World) (s:ByteArray) (j:Nat) (hj:j<s.size):(Lib.bytesWorld w 5 s).cell? ⟨w.heap.size,j,none⟩=some (.int .u8 (bt s (j:Int))):=by
 rw [Lib.bytesWorld_cell w 5 s j hj]
 have:j<s.data.toList.length:=by rw [data_length];exact hj
 simp only [bt,Int.toNat_natCast,dif_pos hj,List.getD_eq_getElem?_getD,List.getElem?_eq_getElem this,Option.getD_some]
 rfl
theorem lower_free (w:World) (s:ByteArray) (j:Nat) (hj:j<s.size):(Lib.bytesWorld w 5 s).frozen? ⟨w.heap.size,j,none⟩=false:=by
 have hsz:s.size≤(Lib.bytesCells w 5 s).size:=by
  unfold Lib.bytesCells
  rw [Array.size_append,Array.size_map]
  have:s.data.size=s.size:=rfl
  omega
 simp only [World.frozen?,Lib.bytesWorld_at_new]
 simp
 omega
/-- The row behind k rounds. -/
def LowRow (W:World) (B:Nat) (s:ByteArray) (k:Nat):Prop :=
 (∀ j:Nat,j<s.size→W.cell? ⟨B,j,none⟩=some (.int .u8 (if j<k then lowC (bt s (j:Int)) else bt s (j:Int))))∧∀ j,j<s.size→W.frozen? ⟨B,j,none⟩=false
theorem LowRow.start (w:World) (s:ByteArray):LowRow (Lib.bytesWorld w 5 s) w.heap.size s 0 :=
 ⟨fun j hj=>by rw [if_neg (Nat.not_lt_zero _)];exact lower_start w s j hj,lower_free w s⟩
theorem LowRow.stay {W:World} {B:Nat} {s:ByteArray} {k:Nat} (h:LowRow W B s k) (hk:k<s.size) (hc:¬ (65≤bt s (k:Int)∧bt s (k:Int)≤90)):LowRow W B s (k+1):=by
 refine ⟨fun j hj=>?_,h.2⟩
 rw [h.1 j hj]
 by_cases e:j=k
 ·subst e
  rw [if_neg (Nat.lt_irrefl _),if_pos (Nat.lt_succ_self _)]
  unfold lowC
  rw [if_neg hc]
 ·by_cases h1:j<k
  ·rw [if_pos h1,if_pos (by omega)]
  ·rw [if_neg h1,if_neg (by omega)]
theorem LowRow.turn {W:World} {B:Nat} {s:ByteArray} {k:Nat} (h:LowRow W B s k) (hk:k<s.size) (hc:65≤bt s (k:Int)∧bt s (k:Int)≤90):LowRow (W.setCell ⟨B,k,none⟩ (.int .u8 (bt s (k:Int)+32))) B s (k+1):=by
 refine ⟨fun j hj=>?_,fun j hj=>by rw [World.frozen?_setCell];exact h.2 j hj⟩
 by_cases e:j=k
 ·subst e
  rw [if_pos (Nat.lt_succ_self _)]
  unfold lowC
  rw [if_pos hc]
  have h3:=h.1 j hj
  apply World.cell?_setCell_same
  exact h3
 ·rw [World.cell?_setCell_other (h:=fun h=>by injection h;omega),h.1 j hj]
  by_cases h1:j<k
  ·rw [if_pos h1,if_pos (by omega)]
  ·rw [if_neg h1,if_neg (by omega)]
set_option maxHeartbeats 1000000 in
theorem impl_lower.calls (a0:ByteArray) (r:ByteArray) (w:World) (h:impl_lower.f a0=some r) :
 Calls Try.prog 125 #[.string a0] w fun e w'=>e=.returned (.string r)∧Below w.heap.size w w':=by
 unfold impl_lower.f at h
 obtain ⟨hn,h⟩:=Option.ite_none_right_eq_some.mp h
 obtain rfl:=oi_ h
 have conv:=fun W=>Lib.run_convert_string_bytes (P:=Try.prog) W 9 73 5 a0 Try.underlying9 Try.underlying73 Try.underlying5
 go_enter Try.func125,Try.ntmps125
 go_wp2
 have HS:=A_ (LowRow.start w a0)
 have HB:Below w.heap.size w (Lib.bytesWorld w 5 a0):=bytes_below (Below.refl _ w) (Nat.le_refl _) 5 a0
 generalize Lib.bytesWorld w 5 a0=W0 at HS HB
 have HB:=A_ HB
 go_loopg [10] a0.size (fun gg s10 wr=>∃ k:Nat,k≤a0.size∧a0.size - k≤gg∧s10=.int .i64 k∧Aside0 (LowRow wr w.heap.size a0 k)∧Aside0 (Below w.heap.size w wr))
 case atStart=>exact ⟨0,Nat.zero_le _,by omega,rfl,HS,HB⟩
 case round =>
  obtain ⟨k,hk,hg,rfl,HR,HB2⟩:=hrel
  clear HS HB
  by_cases hlt:k<a0.size
  ·have hltz:(k:Int)<(a0.size:Int):=by omega
   have l1:=HR.out.1 k hlt
   rw [if_neg (Nat.lt_irrefl _)] at l1
   have l2:=HR.out.2 k hlt
   have b1:=(bt_range a0 (k:Int)).1
   have b2:=(bt_range a0 (k:Int)).2
   by_cases hc:65≤bt a0 (k:Int)∧bt a0 (k:Int)≤90
   ·have HR':=A_ (HR.out.turn hlt hc)
    obtain ⟨c1,c2⟩:=hc
    have c3:decide (bt a0 (k:Int)≥65)=true:=dt_ c1
    have c4:decide (bt a0 (k:Int)≤90)=true:=dt_ c2
    have HB3:=A_ (HB2.out.setCell (p:=⟨w.heap.size,k,none⟩) (Nat.le_refl _) (.int .u8 (bt a0 (k:Int)+32)))
    generalize bt a0 (k:Int)=c at *
    go_wp2
    go_roundg (a0.size - (k+1))
    case measure=>omega
    case rel =>
     have e:c+97 - 65=c+32:=by omega
     first|exact ⟨k+1,by omega,by omega,by go_num,HR',HB3⟩|(simp only [e];exact ⟨k+1,by omega,by omega,by go_num,HR',HB3⟩)
   ·have HR':=A_ (HR.out.stay hlt hc)
    generalize bt a0 (k:Int)=c at *
    by_cases c1:65≤c
    ·have c3:decide (c≥65)=true:=dt_ c1
     have c4:decide (c≤90)=false:=df_ (by omega)
     go_wp2
     go_roundg (a0.size - (k+1))
     case measure=>omega
     case rel=>exact ⟨k+1,by omega,by omega,by go_num,HR',HB2⟩
    ·have c3:decide (c≥65)=false:=df_ c1
     go_wp2
     go_roundg (a0.size - (k+1))
     case measure=>omega
     case rel=>exact ⟨k+1,by omega,by omega,by go_num,HR',HB2⟩
  ·have hltz:¬ (k:Int)<(a0.size:Int):=by omega
   have hke:k=a0.size:=by omega
   have back:=run_convert_bytes_arg (P:=Try.prog) (w:=wr) 73 5 Try.underlying73 Try.underlying5 w.heap.size 0 a0.size (grownCap w a0.size 0 5) ((List.range a0.size).map fun (i:Nat)=>lowC (bt a0 (i:Int))) (by simp) (fun i hi=>by
    have:=HR.out.1 i hi
    rw [hke,if_pos hi] at this
    rw [Nat.zero_add,this]
    simp [List.getD_eq_getElem?_getD,hi]) 9 Try.underlying9
   clear hke
   go_wp2
   go_ret
   exact ⟨rfl,HB2.out⟩
end Go.Proofs.Ytjlikemmhjclpaa.PFnExactClean
