/- By a program of this session, out of the kit's print and contracts made by hand: the machine side of a law; Lean checks it. No conditions. -/
import Derived.Test.YtjlikemmhjclpaaPFnExactCleanx0
import Derived.Test.YtjlikemmhjclpaaPFnExactCleanx22
import Derived.Test.YtjlikemmhjclpaaPFnExactCleanx24
import Derived.Test.YtjlikemmhjclpaaPFnExactCleanx27
import Derived.Test.YtjlikemmhjclpaaPFnExactCleanx28
namespace Go.Proofs.Ytjlikemmhjclpaa.PFnExactClean
open Go.RowKit Go.Proofs.YtjlikemmhjclpaaW.PrintWords Go.Proofs.YtjlikemmhjclpaaW.PrintLast Go.Proofs.YtjlikemmhjclpaaW.PrintMore
attribute [local go_sem] max2_int min2_int max_two min_two max_three min_three max_four min_four
set_option linter.unusedVariables false
set_option linter.unusedSimpArgs false
/-! ### impl_HasMarkup: function 63 -/
def impl_HasMarkup.f (a0:ByteArray):Option (Bool):=(impl_isLong.f (([a0]:List ByteArray))).bind fun t269=>(if t269=true then (some false) else ((strings_Contains.f a0 (⟨#[60]⟩:ByteArray)).bind fun t270=>(some t270)))
set_option maxHeartbeats 8000000 in
set_option maxRecDepth 100000 in
theorem impl_HasMarkup.calls (a0:ByteArray) (r:Bool) (w:World) (h:impl_HasMarkup.f a0=some r) :
 Calls Try.prog 63 #[.string a0] w fun e w'=>e=.returned (.bool r)∧Below w.heap.size w w':=by
 have HB:=A_ (Below.refl w.heap.size w)
 have H:((impl_isLong.f (([a0]:List ByteArray))).bind fun t269=>(if t269=true then (some false) else ((strings_Contains.f a0 (⟨#[60]⟩:ByteArray)).bind fun t270=>(some t270))))=some r:=h
 clear h
 obtain ⟨y266,hy266⟩:∃ y_:List ByteArray,y_=(([a0]:List ByteArray)):=⟨_,rfl⟩
 replace H:((impl_isLong.f y266).bind fun t269=>(if t269=true then (some false) else ((strings_Contains.f a0 (⟨#[60]⟩:ByteArray)).bind fun t270=>(some t270))))=some r:=by first|(rw [hy266];with_reducible exact H)|(have H2_:=(Option.bind_some _ _).symm.trans H;rw [hy266];with_reducible exact H2_)|(have H2_:=(Option.bind_some _ _).symm.trans H;with_reducible exact H2_)|with_reducible exact H|(rw [hy266];exact H)|exact H
 have Ny266:=A_ hy266
 clear hy266
 replace H:=ob_ H
 obtain ⟨t269,A20,H⟩:=H
 replace H:(if t269=true then (some false) else ((strings_Contains.f a0 (⟨#[60]⟩:ByteArray)).bind fun t270=>(some t270)))=some r:=H
 have A2:=A_ A20
 clear A20
 by_cases c3:t269=true
 ·subst c3
  have H1:(some false)=some r:=by rw [if_pos rfl] at H;exact H
  clear H
  have H:=H1
  clear H1
  obtain rfl:=oi_ H
  go_enter Try.func63,Try.ntmps63
  go_wp2_with (first|((with_reducible refine gate_dst (N:=4) rfl ?_);refine Kd.R_lit Kd.string _ 9 ?hg (N:=4) ?hd (xs:=([a0]:List ByteArray)) (inner:=[.string a0]) (ok:=fun _=>True) (okp:=fun _=>True) ?hr ?hp (fun _ hk=>hk) trivial (Below.refl _ _) (Nat.le_refl _) (by simp) ?_;(case hd=>rfl);(case hg=>rfl);(case hr=>first|(go_simp;done)|(go_simp;rfl)|(first|(go_simp;done)|(go_simp;rfl)));(case hp=>exact (Reps.one (show Kd.M Kd.string _ _ _ a0 [.string a0] from rfl) (Reps.none _ _)));intro v267 w4 ho5 hb hg_ hnew_;clear hg_ hnew_;(first|rw [←Ny266.out] at ho5|(simp only [Int.reduceToNat] at ho5;rw [←Ny266.out] at ho5));have n0_:=A_ (Kd.R_lower ho5 (bz_ (by repeat (first|(with_reducible first|exact HB.out|apply ba_|apply pd_|apply b1_)|exact HB.out))));have n1_:=A_ (bp_ (by repeat (first|(with_reducible first|exact HB.out|apply ba_|apply pd_|apply b1_)|exact HB.out)) hb);clear HB;have HO268:=n0_;have HB:=n1_;clear n0_ n1_;clear hb ho5;obtain ⟨Ao6,co6,eo6⟩:=Kd.R_slice HO268.out;subst eo6)|((with_reducible refine gate_callee (f:=55) rfl ?_);refine goesL_ (some 5) rfl rfl Try.func55 (by kernel_rfl) rfl #[.slice Ao6 y266.length co6] rfl (by (try simp only [List.map_toArray,List.map_cons,List.map_nil]);first|done|rfl|(simp only [ld_,lt_];rfl)) ?_;(with_reducible refine (impl_isLong.calls _ _ y266 true _ ?side1 ?side2 A2.out).mono ?_);(case side1=>repeat (first|exact (Kd.R_reads' HO268.out).2.2|(with_reducible refine ca_ ?_ _)|(with_reducible refine cn_ ?_ _)|(with_reducible refine cd_ ?_)));(case side2=>exact (Kd.R_reads' HO268.out).2.1);rintro e w7 ⟨rfl,hb⟩;refine ⟨_,rfl,?_⟩;have n0_:=A_ (Kd.R_below (by (with_reducible repeat (first|apply Kd.R_alloc|apply Kd.R_drewN|apply Kd.R_drew));exact HO268.out) hb);have n1_:=A_ (bp_ (by repeat (first|(with_reducible first|exact HB.out|apply ba_|apply pd_|apply b1_)|exact HB.out)) hb);clear HO268;clear HB;have HO268:=n0_;have HB:=n1_;clear n0_ n1_;(try clear hb);(try clear hb2);(try clear hk);(try clear hi)))
  go_ret
  exact ⟨by first|rfl|(simp [errW_none,errW_some] <;> rfl)|(simp [*,errW_none,errW_some] <;> rfl),by repeat (first|(with_reducible first|exact HB.out|apply ba_|apply pd_|apply b1_)|exact HB.out)⟩
 ·replace c3:=bm_ c3
  subst c3
  have H1:((strings_Contains.f a0 (⟨#[60]⟩:ByteArray)).bind fun t270=>(some t270))=some r:=by rw [if_neg (show ¬ (false=true) by decide)] at H;exact H
  clear H
  have H:=H1
  clear H1
  replace H:=ob_ H
  obtain ⟨t270,A80,H⟩:=H
  replace H:(some t270)=some r:=H
  have A8:=A_ A80
  clear A80
  obtain rfl:=oi_ H
  go_enter Try.func63,Try.ntmps63
  go_wp2_with (first|((with_reducible refine gate_dst (N:=4) rfl ?_);refine Kd.R_lit Kd.string _ 9 ?hg (N:=4) ?hd (xs:=([a0]:List ByteArray)) (inner:=[.string a0]) (ok:=fun _=>True) (okp:=fun _=>True) ?hr ?hp (fun _ hk=>hk) trivial (Below.refl _ _) (Nat.le_refl _) (by simp) ?_;(case hd=>rfl);(case hg=>rfl);(case hr=>first|(go_simp;done)|(go_simp;rfl)|((first|(obtain ⟨_,_,rfl⟩:=Kd.R_slice HO268.out)|(obtain ⟨_,_,rfl⟩:=Kd.S_slice HO268.out)|skip);first|(go_simp;done)|(go_simp;rfl)));(case hp=>exact (Reps.one (show Kd.M Kd.string _ _ _ a0 [.string a0] from rfl) (Reps.none _ _)));intro v267 w9 ho10 hb hg_ hnew_;clear hg_ hnew_;(first|rw [←Ny266.out] at ho10|(simp only [Int.reduceToNat] at ho10;rw [←Ny266.out] at ho10));have n0_:=A_ (Kd.R_lower ho10 (bz_ (by repeat (first|(with_reducible first|exact HB.out|apply ba_|apply pd_|apply b1_)|exact HB.out))));have n1_:=A_ (bp_ (by repeat (first|(with_reducible first|exact HB.out|apply ba_|apply pd_|apply b1_)|exact HB.out)) hb);clear HB;have HO268:=n0_;have HB:=n1_;clear n0_ n1_;clear hb ho10;obtain ⟨Ao11,co11,eo11⟩:=Kd.R_slice HO268.out;subst eo11)|((with_reducible refine gate_callee (f:=55) rfl ?_);refine goesL_ (some 5) rfl rfl Try.func55 (by kernel_rfl) rfl #[.slice Ao11 y266.length co11] rfl (by (try simp only [List.map_toArray,List.map_cons,List.map_nil]);first|done|rfl|(simp only [ld_,lt_];rfl)) ?_;(with_reducible refine (impl_isLong.calls _ _ y266 false _ ?side1 ?side2 A2.out).mono ?_);(case side1=>repeat (first|exact (Kd.R_reads' HO268.out).2.2|(with_reducible refine ca_ ?_ _)|(with_reducible refine cn_ ?_ _)|(with_reducible refine cd_ ?_)));(case side2=>exact (Kd.R_reads' HO268.out).2.1);rintro e w12 ⟨rfl,hb⟩;refine ⟨_,rfl,?_⟩;have n0_:=A_ (Kd.R_below (by (with_reducible repeat (first|apply Kd.R_alloc|apply Kd.R_drewN|apply Kd.R_drew));exact HO268.out) hb);have n1_:=A_ (bp_ (by repeat (first|(with_reducible first|exact HB.out|apply ba_|apply pd_|apply b1_)|exact HB.out)) hb);clear HO268;clear HB;have HO268:=n0_;have HB:=n1_;clear n0_ n1_;(try clear hb);(try clear hb2);(try clear hk);(try clear hi))|(go_at_call 57;(with_reducible refine (strings_Contains.calls a0 (⟨#[60]⟩:ByteArray) t270 _ A8.out).mono ?_);rintro e w' ⟨rfl,⟨nd,rfl⟩⟩))
  go_ret
  exact ⟨by first|rfl|(simp [errW_none,errW_some] <;> rfl)|(simp [*,errW_none,errW_some] <;> rfl),by repeat (first|(with_reducible first|exact HB.out|apply ba_|apply pd_|apply b1_)|exact HB.out)⟩
/-! ### impl_hasMarkup: function 39, by hand -/
open Go.Proofs.Ytjlikemmhjclpaa.Kit (small digit big pos_eq neg_eq tagB isTag nameB isName lowC lowS lowS_bytes handler wantJ wantJ_eq keepC badL badFrom badFrom_zero badFrom_full badFrom_nil badFrom_skip badFrom_take indexByte_any markB namesAt namesOK)
theorem contains_mark (s:ByteArray):strings_Contains.f s (⟨#[60]⟩:ByteArray)=some (markB s):=by
 show some (decide (0≤Lib.indexByte s.data.toList 60))=some (markB s)
 rw [indexByte_any]
 unfold markB bytesOf
 rw [List.any_map]
 congr 2
 funext b
 simp only [Function.comp]
 rw [Bool.eq_iff_iff,beq_iff_eq,decide_eq_true_iff]
 constructor
 ·rintro rfl;rfl
 ·intro h
  apply UInt8.toNat_inj.1
  exact Int.ofNat.inj h
theorem HasMarkup_eq (s:ByteArray):impl_HasMarkup.f s=some (!decide (65536<(s.size:Int)) && markB s):=by
 unfold impl_HasMarkup.f
 rw [isLong1,Option.bind_some]
 by_cases h:65536<(s.size:Int)
 ·rw [if_pos (dt_ h),dt_ h];rfl
 ·rw [if_neg (by simpa using h),contains_mark,df_ h];rfl
/-- The node's text has a mark of markup. -/
def markN (x:S44):Bool:=!decide (65536<(x.f3.size:Int)) && markB x.f3
def impl_hasMarkup.f (l0:List S44):Option Bool:=some (l0.any markN)
theorem impl_hasMarkup.lit (x:S44) (A4 A5:Option Addr) (c4 c5:Nat) (w:World):Calls Try.prog 62 #[.agg #[.int .i64 x.f0,.int .i64 x.f1,.string x.f2,.string x.f3,.slice A4 x.f4.length c4,.slice A5 x.f5.length c5]] w fun e w'=>e=.returned (.bool (markN x))∧Below w.heap.size w w':=by
 have QM:=A_ (fun W=>impl_HasMarkup.calls x.f3 (markN x) W (HasMarkup_eq x.f3))
 have HB:=A_ (ba_ (Below.refl w.heap.size w) (.cells #[.int .i64 x.f0,.int .i64 x.f1,.string x.f2,.string x.f3,.slice A4 x.f4.length c4,.slice A5 x.f5.length c5] 44 (0,0)))
 generalize markN x=b at *
 go_enter Try.func62,Try.ntmps62
 go_wp2_with (go_at_call 63;(with_reducible refine (QM.out _).mono ?_);rintro e w1 ⟨rfl,hb⟩;(have HB1:=A_ (bp_ HB.out hb));clear hb)
 go_ret
 exact ⟨rfl,HB1.out⟩
theorem impl_hasMarkup.calls (A0:Option Addr) (c0:Nat) (l0:List S44) (r:Bool) (w:World) (hr0:Kd.C k44 w A0 l0.length l0) (h:impl_hasMarkup.f l0=some r) :
 Calls Try.prog 39 #[.slice A0 l0.length c0] w fun e w'=>e=.returned (.bool r)∧Below w.heap.size w w':=by
 obtain rfl:=oi_ h
 have hcells:∀ j,j<l0.length→∃ (A4 A5:Option Addr) (c4 c5:Nat) (ad:Addr),A0=some ad∧∀ i u,([.int .i64 (l0.getD j z44).f0,.int .i64 (l0.getD j z44).f1,.string (l0.getD j z44).f2,.string (l0.getD j z44).f3,.slice A4 (l0.getD j z44).f4.length c4,.slice A5 (l0.getD j z44).f5.length c5]:List Value)[i]? = some u→w.cell? (ad.add (j * 6+i))=some u:=by
  intro j hj
  obtain ⟨ad,c,e,hcl,hK,hc⟩:=Kd.C_get hr0 z44 (j:Int) (by omega) (by omega)
  rw [Int.toNat_natCast] at hK hc
  obtain ⟨A4,c4,A5,c5,rfl,_,_,_,_⟩:=k44_open hK
  exact ⟨A4,A5,c4,c5,ad,e,hc⟩
 have hch:∃ F:Nat→Option Addr × Option Addr × Nat × Nat,∀ j,j<l0.length→∃ ad,A0=some ad∧∀ i u,([.int .i64 (l0.getD j z44).f0,.int .i64 (l0.getD j z44).f1,.string (l0.getD j z44).f2,.string (l0.getD j z44).f3,.slice (F j).1 (l0.getD j z44).f4.length (F j).2.2.1,.slice (F j).2.1 (l0.getD j z44).f5.length (F j).2.2.2]:List Value)[i]? = some u→w.cell? (ad.add (j * 6+i))=some u:=by
  refine ⟨fun j=>if hj:j<l0.length then ⟨(hcells j hj).choose,(hcells j hj).choose_spec.choose,(hcells j hj).choose_spec.choose_spec.choose,(hcells j hj).choose_spec.choose_spec.choose_spec.choose⟩ else ⟨none,none,0,0⟩,fun j hj=>?_⟩
  simp only [dif_pos hj]
  exact (hcells j hj).choose_spec.choose_spec.choose_spec.choose_spec
 obtain ⟨F,hF⟩:=hch
 have hcall:=ContainsFunc_Node.holds A0 l0.length c0 (fun j=>[.int .i64 (l0.getD j z44).f0,.int .i64 (l0.getD j z44).f1,.string (l0.getD j z44).f2,.string (l0.getD j z44).f3,.slice (F j).1 (l0.getD j z44).f4.length (F j).2.2.1,.slice (F j).2.1 (l0.getD j z44).f5.length (F j).2.2.2]) (fun j=>markN (l0.getD j z44)) 62 #[] (Mach.enters_of Try.func62 (by kernel_rfl) rfl) w
  (fun j hj W hb=>(impl_hasMarkup.lit (l0.getD j z44) (F j).1 (F j).2.1 (F j).2.2.1 (F j).2.2.2 W).mono fun e w' ⟨he,hb'⟩=>⟨he,hb.trans (hb'.mono hb.size)⟩) hr0.2.1
  (fun j hj=>by
   obtain ⟨ad,e,hc⟩:=hF j hj
   exact ⟨ad,e,rfl,hc⟩)
 rw [Mach.anyP_list markN] at hcall
 clear hr0 hcells hF
 generalize l0.any markN=b at *
 go_enter Try.func39,Try.ntmps39
 go_wp2_with (go_at_call 61;(with_reducible refine hcall.mono ?_);rintro e w' ⟨rfl,hb'⟩)
 go_ret
 exact ⟨rfl,hb'⟩
end Go.Proofs.Ytjlikemmhjclpaa.PFnExactClean
