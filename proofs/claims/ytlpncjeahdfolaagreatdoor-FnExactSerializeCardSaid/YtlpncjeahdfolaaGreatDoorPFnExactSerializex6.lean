/- By a program of this session, out of the kit's print and contracts made by hand: the machine side of a law; Lean checks it. No conditions. -/
import Derived.Test.YtlpncjeahdfolaaGreatDoorPFnExactSerializex0
import Derived.Test.YtlpncjeahdfolaaGreatDoorPFnExactSerializex5
namespace Go.Proofs.YtlpncjeahdfolaaGreatDoor.PFnExactSerialize
open Go.RowKit Go.Proofs.YtlpncjeahdfolaaGreatDoorW.PrintWords Go.Proofs.YtlpncjeahdfolaaGreatDoorW.PrintLast Go.Proofs.YtlpncjeahdfolaaGreatDoorW.PrintMore
attribute [local go_sem] max2_int min2_int max_two min_two max_three min_three max_four min_four
set_option linter.unusedVariables false
set_option linter.unusedSimpArgs false
/-! ### spec_l01Raw: function 21 -/
def spec_l01Raw.f (k:Nat) (a0:ByteArray):Option (Bool):=(spec_l01Has.f k (([(⟨#[115,116,121,108,101]⟩:ByteArray),(⟨#[115,99,114,105,112,116]⟩:ByteArray),(⟨#[120,109,112]⟩:ByteArray),(⟨#[105,102,114,97,109,101]⟩:ByteArray)]:List ByteArray)) a0).bind fun t130=>(some t130)
theorem spec_l01Raw.mono:∀ a0 k,LeO (spec_l01Raw.f k a0) (spec_l01Raw.f (k+1) a0):=by
 intro a0 k
 unfold spec_l01Raw.f
 repeat' first
  | (with_reducible exact spec_l01Has.mono _ _ _)
  | (with_reducible exact LeO.refl _)
  | (with_reducible exact LeO.none _)
  | (with_reducible refine LeO.ite ?_ ?_)
  | (with_reducible refine LeO.bind ?_ (fun _=>?_))
  | exact spec_l01Has.mono _ _ _
  | exact LeO.none _
  | refine LeO.ite ?_ ?_
  | refine LeO.bind ?_ (fun _=>?_)
set_option maxHeartbeats 8000000 in
set_option maxRecDepth 100000 in
theorem spec_l01Raw.calls (k:Nat) (a0:ByteArray) (r:Bool) (w:World) (h:spec_l01Raw.f k a0=some r) :
 Calls Tryz.prog 21 #[.string a0] w fun e w'=>e=.returned (.bool r)∧Below w.heap.size w w':=by
 have HB:=A_ (Below.refl w.heap.size w)
 have H:((spec_l01Has.f k (([(⟨#[115,116,121,108,101]⟩:ByteArray),(⟨#[115,99,114,105,112,116]⟩:ByteArray),(⟨#[120,109,112]⟩:ByteArray),(⟨#[105,102,114,97,109,101]⟩:ByteArray)]:List ByteArray)) a0).bind fun t130=>(some t130))=some r:=h
 clear h
 obtain ⟨y127,hy127⟩:∃ y_:List ByteArray,y_=(([(⟨#[115,116,121,108,101]⟩:ByteArray),(⟨#[115,99,114,105,112,116]⟩:ByteArray),(⟨#[120,109,112]⟩:ByteArray),(⟨#[105,102,114,97,109,101]⟩:ByteArray)]:List ByteArray)):=⟨_,rfl⟩
 replace H:((spec_l01Has.f k y127 a0).bind fun t130=>(some t130))=some r:=by first|(rw [hy127];with_reducible exact H)|(have H2_:=(Option.bind_some _ _).symm.trans H;rw [hy127];with_reducible exact H2_)|(have H2_:=(Option.bind_some _ _).symm.trans H;with_reducible exact H2_)|with_reducible exact H|(rw [hy127];exact H)|exact H
 have Ny127:=A_ hy127
 clear hy127
 replace H:=ob_ H
 obtain ⟨t130,A20,H⟩:=H
 replace H:(some t130)=some r:=H
 have A2:=A_ A20
 clear A20
 obtain rfl:=oi_ H
 go_enter Tryz.func21,Tryz.ntmps21
 go_wp2_with (first|((with_reducible refine gate_dst (N:=3) rfl ?_);refine Kd.R_lit Kd.string _ 9 ?hg (N:=3) ?hd (xs:=([(⟨#[115,116,121,108,101]⟩:ByteArray),(⟨#[115,99,114,105,112,116]⟩:ByteArray),(⟨#[120,109,112]⟩:ByteArray),(⟨#[105,102,114,97,109,101]⟩:ByteArray)]:List ByteArray)) (inner:=[.string (⟨#[115,116,121,108,101]⟩:ByteArray),.string (⟨#[115,99,114,105,112,116]⟩:ByteArray),.string (⟨#[120,109,112]⟩:ByteArray),.string (⟨#[105,102,114,97,109,101]⟩:ByteArray)]) (ok:=fun _=>True) (okp:=fun _=>True) ?hr ?hp (fun _ hk=>hk) trivial (Below.refl _ _) (Nat.le_refl _) (by simp) ?_;(case hd=>rfl);(case hg=>rfl);(case hr=>first|(go_simp;done)|(go_simp;rfl)|(first|(go_simp;done)|(go_simp;rfl)));(case hp=>exact (Reps.one (show Kd.M Kd.string _ _ _ (⟨#[115,116,121,108,101]⟩:ByteArray) [.string (⟨#[115,116,121,108,101]⟩:ByteArray)] from rfl) (Reps.one (show Kd.M Kd.string _ _ _ (⟨#[115,99,114,105,112,116]⟩:ByteArray) [.string (⟨#[115,99,114,105,112,116]⟩:ByteArray)] from rfl) (Reps.one (show Kd.M Kd.string _ _ _ (⟨#[120,109,112]⟩:ByteArray) [.string (⟨#[120,109,112]⟩:ByteArray)] from rfl) (Reps.one (show Kd.M Kd.string _ _ _ (⟨#[105,102,114,97,109,101]⟩:ByteArray) [.string (⟨#[105,102,114,97,109,101]⟩:ByteArray)] from rfl) (Reps.none _ _))))));intro v128 w3 ho4 hb hg_ hnew_;clear hg_ hnew_;(first|rw [←Ny127.out] at ho4|(simp only [Int.reduceToNat] at ho4;rw [←Ny127.out] at ho4));have n0_:=A_ (Kd.R_lower ho4 (bz_ (by repeat (first|(with_reducible first|exact HB.out|apply ba_|apply pd_|apply b1_)|exact HB.out))));have n1_:=A_ (bp_ (by repeat (first|(with_reducible first|exact HB.out|apply ba_|apply pd_|apply b1_)|exact HB.out)) hb);clear HB;have HO129:=n0_;have HB:=n1_;clear n0_ n1_;clear hb ho4;obtain ⟨Ao5,co5,eo5⟩:=Kd.R_slice HO129.out;subst eo5)|((with_reducible refine gate_callee (f:=34) rfl ?_);refine goesL_ (some 5) rfl rfl Tryz.func34 (by kernel_rfl) rfl #[.slice Ao5 y127.length co5,.string a0] rfl (by (try simp only [List.map_toArray,List.map_cons,List.map_nil]);first|done|rfl|(simp only [ld_,lt_];rfl)) ?_;(with_reducible refine (spec_l01Has.calls k _ _ y127 a0 t130 _ ?side1 ?side2 A2.out).mono ?_);(case side1=>repeat (first|exact (Kd.R_reads' HO129.out).2.2|(with_reducible refine ca_ ?_ _)|(with_reducible refine cn_ ?_ _)|(with_reducible refine cd_ ?_)));(case side2=>exact (Kd.R_reads' HO129.out).2.1);rintro e w' ⟨rfl,⟨nd,rfl⟩⟩;refine ⟨_,rfl,?_⟩))
 go_ret
 exact ⟨by first|rfl|(simp [errW_none,errW_some] <;> rfl)|(simp [*,errW_none,errW_some] <;> rfl),by repeat (first|(with_reducible first|exact HB.out|apply ba_|apply pd_|apply b1_)|exact HB.out)⟩
end Go.Proofs.YtlpncjeahdfolaaGreatDoor.PFnExactSerialize
