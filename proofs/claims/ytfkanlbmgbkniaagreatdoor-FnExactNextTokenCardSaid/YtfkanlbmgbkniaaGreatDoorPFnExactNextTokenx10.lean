/- By a program of this session, out of the kit's print and contracts made by hand: the machine side of a law; Lean checks it. No conditions. -/
import Derived.Test.YtfkanlbmgbkniaaGreatDoorPFnExactNextTokenx0
import Derived.Test.YtfkanlbmgbkniaaGreatDoorPFnExactNextTokenx9
namespace Go.Proofs.YtfkanlbmgbkniaaGreatDoor.PFnExactNextToken
open Go.RowKit Go.Proofs.YtfkanlbmgbkniaaGreatDoorW.PrintWords Go.Proofs.YtfkanlbmgbkniaaGreatDoorW.PrintLast Go.Proofs.YtfkanlbmgbkniaaGreatDoorW.PrintMore
attribute [local go_sem] max2_int min2_int max_two min_two max_three min_three max_four min_four
set_option linter.unusedVariables false
set_option linter.unusedSimpArgs false
/-! ### spec_l04Keep: function 55 -/
def spec_l04Keep.f (k:Nat) (l0:List (S52)) (a1:ByteArray) (a2:ByteArray):Option ((List (S52))):=(some (([]:List (S52)):List (S52))).bind fun y164=>(if y164.length+l0.length<4398046511104 then ((some (y164++l0:List (S52))).bind fun y167=>(if y167.length<4398046511104 then ((some (y167++[(⟨a1,a2⟩:S52)]:List (S52))).bind fun y170=>((spec_l03Attrs.f k y170).bind fun t173=>(if t173=true then (some y170) else (some l0)))) else (none))) else (none))
theorem spec_l04Keep.mono:∀ a0 a1 a2 k,LeO (spec_l04Keep.f k a0 a1 a2) (spec_l04Keep.f (k+1) a0 a1 a2):=by
 intro a0 a1 a2 k
 unfold spec_l04Keep.f
 repeat' first
  | (with_reducible exact spec_l03Attrs.mono _ _)
  | (with_reducible exact LeO.refl _)
  | (with_reducible exact LeO.none _)
  | (with_reducible refine LeO.ite ?_ ?_)
  | (with_reducible refine LeO.bind ?_ (fun _=>?_))
  | exact spec_l03Attrs.mono _ _
  | exact LeO.none _
  | refine LeO.ite ?_ ?_
  | refine LeO.bind ?_ (fun _=>?_)
set_option maxHeartbeats 8000000 in
set_option maxRecDepth 100000 in
theorem spec_l04Keep.calls (k:Nat) (P0_:Nat→Prop) (u9000_:Value) (l0:List (S52)) (a1:ByteArray) (a2:ByteArray) (r:List (S52)) (w0 w:World) (hB:Below w0.heap.size w0 w) (ho0:Kd.R k52 52 w w0.heap.size P0_ u9000_ l0) (h:spec_l04Keep.f k l0 a1 a2=some r) :
 Calls Tryz.prog 55 #[u9000_,.string a1,.string a2] w fun e w'=>∃ v0_:Value,e=.returned (v0_)∧Kd.R k52 52 w' w0.heap.size (fun k_=>(P0_ k_∨w.heap.size≤k_)) v0_ r∧Below w0.heap.size w0 w'∧Kept w w' (fun k_=>P0_ k_):=by
 have hu52:=Tryz.underlying52
 have HO0:=A_ (show Kd.R k52 52 w w0.heap.size (fun k_=>(P0_ k_∨w.heap.size≤k_)) u9000_ l0 from Kd.R_mono ho0 (fun k_ hk=>(.inl hk)))
 have HK:=A_ (Kept.refl w (fun k_=>P0_ k_))
 have HW0:=A_ hB.size
 have HB:=A_ hB
 clear hB
 have H:((some (([]:List (S52)):List (S52))).bind fun y164=>(if y164.length+l0.length<4398046511104 then ((some (y164++l0:List (S52))).bind fun y167=>(if y167.length<4398046511104 then ((some (y167++[(⟨a1,a2⟩:S52)]:List (S52))).bind fun y170=>((spec_l03Attrs.f k y170).bind fun t173=>(if t173=true then (some y170) else (some l0)))) else (none))) else (none)))=some r:=h
 clear h
 obtain ⟨y164,hy164⟩:∃ y_:List (S52),y_=(([]:List (S52))):=⟨_,rfl⟩
 replace H:(if y164.length+l0.length<4398046511104 then ((some (y164++l0:List (S52))).bind fun y167=>(if y167.length<4398046511104 then ((some (y167++[(⟨a1,a2⟩:S52)]:List (S52))).bind fun y170=>((spec_l03Attrs.f k y170).bind fun t173=>(if t173=true then (some y170) else (some l0)))) else (none))) else (none))=some r:=by first|(rw [hy164];with_reducible exact H)|(have H2_:=(Option.bind_some _ _).symm.trans H;rw [hy164];with_reducible exact H2_)|(have H2_:=(Option.bind_some _ _).symm.trans H;with_reducible exact H2_)|with_reducible exact H|(rw [hy164];exact H)|exact H
 have Ny164:=A_ hy164
 clear hy164
 by_cases c4:y164.length+l0.length<4398046511104
 ·rw [if_pos c4] at H
  have LMc4:=A_ c4
  clear c4
  obtain ⟨y167,hy167⟩:∃ y_:List (S52),y_=(y164++l0):=⟨_,rfl⟩
  replace H:(if y167.length<4398046511104 then ((some (y167++[(⟨a1,a2⟩:S52)]:List (S52))).bind fun y170=>((spec_l03Attrs.f k y170).bind fun t173=>(if t173=true then (some y170) else (some l0)))) else (none))=some r:=by first|(rw [hy167];with_reducible exact H)|(have H2_:=(Option.bind_some _ _).symm.trans H;rw [hy167];with_reducible exact H2_)|(have H2_:=(Option.bind_some _ _).symm.trans H;with_reducible exact H2_)|with_reducible exact H|(rw [hy167];exact H)|exact H
  have Ny167:=A_ hy167
  clear hy167
  by_cases c5:y167.length<4398046511104
  ·rw [if_pos c5] at H
   have LMc5:=A_ c5
   clear c5
   obtain ⟨y170,hy170⟩:∃ y_:List (S52),y_=(y167++[(⟨a1,a2⟩:S52)]):=⟨_,rfl⟩
   replace H:((spec_l03Attrs.f k y170).bind fun t173=>(if t173=true then (some y170) else (some l0)))=some r:=by first|(rw [hy170];with_reducible exact H)|(have H2_:=(Option.bind_some _ _).symm.trans H;rw [hy170];with_reducible exact H2_)|(have H2_:=(Option.bind_some _ _).symm.trans H;with_reducible exact H2_)|with_reducible exact H|(rw [hy170];exact H)|exact H
   have Ny170:=A_ hy170
   clear hy170
   replace H:=ob_ H
   obtain ⟨t173,A60,H⟩:=H
   replace H:(if t173=true then (some y170) else (some l0))=some r:=H
   have A6:=A_ A60
   clear A60
   by_cases c7:t173=true
   ·subst c7
    have H1:(some y170)=some r:=by rw [if_pos rfl] at H;exact H
    clear H
    have H:=H1
    clear H1
    obtain rfl:=oi_ H
    go_enter Tryz.func55,Tryz.ntmps55
    go_wp2_with (first|((with_reducible refine gate_dst (N:=8) rfl ?_);refine Kd.R_lit k52 _ 52 ?hg (N:=8) ?hd (xs:=([]:List (S52))) (inner:=[]) (ok:=fun _=>True) (okp:=fun _=>True) ?hr ?hp (fun _ hk=>hk) trivial (Below.refl _ _) (Nat.le_refl _) (by simp) ?_;(case hd=>rfl);(case hg=>rfl);(case hr=>first|(go_simp;done)|(go_simp;rfl)|((first|(obtain ⟨_,_,rfl⟩:=Kd.R_slice HO0.out)|(obtain ⟨_,_,rfl⟩:=Kd.S_slice HO0.out)|skip);first|(go_simp;done)|(go_simp;rfl)));(case hp=>exact (Reps.none _ _));intro v165 w8 ho9 hb hg_ hnew_;clear hg_ hnew_;(first|rw [←Ny164.out] at ho9|(simp only [Int.reduceToNat] at ho9;rw [←Ny164.out] at ho9));have n0_:=A_ (Kd.R_elder' (rq_ HO0.out) (Kd.R_base ho9) hb);have n1_:=A_ (Kd.R_lower (Kd.R_new' (Kd.R_newM (M:=fun k_=>(P0_ k_∨w.heap.size≤k_)) ho9 (by first|exact HK.out.1|exact (show Kept w _ (fun k_=>P0_ k_) from by repeat (first|(with_reducible first|exact HK.out|apply Kept.alloc|apply Kept.drewN|apply Kept.drew)|exact HK.out)).1) (fun k_ h_=>.inr h_)) (Kd.R_lt (rq_ HO0.out))) (bz_ (bq0_ HB.out)));have n2_:=A_ (Kept.below (S:=(fun k_=>P0_ k_)) (by repeat (first|(with_reducible first|exact HK.out|apply Kept.alloc|apply Kept.drewN|apply Kept.drew)|exact HK.out)) hb);have n3_:=A_ (bp_ (bq0_ HB.out) hb);clear HO0;clear HK;clear HB;have HO0:=n0_;have HO166:=n1_;have HK:=n2_;have HB:=n3_;clear n0_ n1_ n2_ n3_;clear hb ho9;obtain ⟨Ao11,co11,eo11⟩:=Kd.R_slice HO0.out;subst eo11)|((with_reducible refine gate_builtin (b:=.append) (xs:=#[.tmp 8,.tmp 9]) rfl ?_);at_builtin;refine Kd.R_append_rows k52 (w0:=w0) w0.heap.size rfl (.tmp 8) (.tmp 9) 22 52 (.agg #[(.string ⟨#[]⟩),(.string ⟨#[]⟩)]) 32 rfl Tryz.underlying22 info52 rfl (by decide) (by omega) v165 y164 l0 _ _ _ (fun k_=>(P0_ k_∨w.heap.size≤k_)∧some k_≠(.slice Ao11 l0.length co11:Value).ownBlock) (fun _=>False) rfl rfl ?aO ?aR (fun _ _ h=>h) (fun _ h=>h.elim) ?aF ?aB ?aS ?aL ?_;(case aR=>repeat (first|exact (Kd.R_reads' HO0.out).2.2|(with_reducible refine ca_ ?_ _)|(with_reducible refine cn_ ?_ _)|(with_reducible refine cd_ ?_)));(case aB=>exact (bq0_ HB.out));(case aF=>exact (fun k_ hk=>⟨(.inr (Nat.le_trans (by first|exact HK.out.1|exact (show Kept w _ (fun k_=>P0_ k_) from by repeat (first|(with_reducible first|exact HK.out|apply Kept.alloc|apply Kept.drewN|apply Kept.drew)|exact HK.out)).1) hk)),Kd.fresh' (Kd.R_lt (rq_ HO0.out)) k_ hk⟩));(case aO=>exact (by (with_reducible repeat (first|apply Kd.R_alloc|apply Kd.R_drewN|apply Kd.R_drew));exact Kd.R_mono HO166.out (fun _ hk=>⟨hk.1.1,hk.2⟩)));(case aS=>exact (bz_ (bq0_ HB.out)));(case aL=>have:=LMc4.out;omega);intro v168 w10 ho hb hg hat;rw [←Ny167.out] at ho;have n0_:=A_ (Kd.R_after (ok:=(fun k_=>(P0_ k_∨w.heap.size≤k_))) (rq_ HO0.out) hg hat);have n1_:=A_ (hb);have n2_:=A_ (Kept.of_grown (S:=(fun k_=>P0_ k_)) hg (by repeat (first|(with_reducible first|exact HK.out|apply Kept.alloc|apply Kept.drewN|apply Kept.drew)|exact HK.out)) (fun k_ e_=>(HO166.out.1 k_ e_).1.1));have n3_:=A_ (ho);clear HO0;clear HB;clear HK;clear HO166;have HO0:=n0_;have HB:=n1_;have HK:=n2_;have HO169:=n3_;clear n0_ n1_ n2_ n3_;clear ho hb hg hat)|((with_reducible refine gate_builtin (b:=.append) (xs:=#[.tmp 10,.tmp 14]) rfl ?_);at_builtin;refine Kd.R_append k52 (w0:=w0) w0.heap.size rfl (.tmp 10) (.tmp 14) 22 52 (.agg #[(.string ⟨#[]⟩),(.string ⟨#[]⟩)]) 32 rfl Tryz.underlying22 info52 rfl (by decide) (by omega) v168 y167 (⟨a1,a2⟩:S52) [.string a1,.string a2] (fun k_=>(P0_ k_∨w.heap.size≤k_)∧some k_≠(.slice Ao11 l0.length co11:Value).ownBlock) (fun _=>False) rfl rfl ?aP (fun _ hk=>hk.elim) ?aF ?aO ?aB ?aS ?aL ?_;(case aP=>exact k52_mkM _ _ _ (⟨a1,a2⟩:S52));(case aB=>exact (bq0_ HB.out));(case aF=>exact (fun k_ hk=>⟨(.inr (Nat.le_trans (by first|exact HK.out.1|exact (show Kept w _ (fun k_=>P0_ k_) from by repeat (first|(with_reducible first|exact HK.out|apply Kept.alloc|apply Kept.drewN|apply Kept.drew)|exact HK.out)).1) hk)),Kd.fresh' (Kd.R_lt (rq_ HO0.out)) k_ hk⟩));(case aO=>exact (rq_ HO169.out));(case aS=>exact (bz_ (bq0_ HB.out)));(case aL=>have:=LMc5.out;omega);intro v171 w12 ho hb hg hat;rw [←Ny170.out] at ho;have n0_:=A_ (Kd.R_after (ok:=(fun k_=>(P0_ k_∨w.heap.size≤k_))) (rq_ HO0.out) hg hat);have n1_:=A_ (hb);have n2_:=A_ (Kept.of_grown (S:=(fun k_=>P0_ k_)) hg (by repeat (first|(with_reducible first|exact HK.out|apply Kept.alloc|apply Kept.drewN|apply Kept.drew)|exact HK.out)) (fun k_ e_=>(HO169.out.1 k_ e_).1));have n3_:=A_ (ho);clear HO0;clear HB;clear HK;clear HO169;have HO0:=n0_;have HB:=n1_;have HK:=n2_;have HO172:=n3_;clear n0_ n1_ n2_ n3_;clear ho hb hg hat;obtain ⟨Ao13,co13,eo13⟩:=Kd.R_slice HO172.out;subst eo13)|((with_reducible refine gate_callee (f:=71) rfl ?_);refine gl_ (some 17) rfl rfl Tryz.func71 (by kernel_rfl) rfl #[.slice Ao13 y170.length co13] rfl  ?_;(with_reducible refine (spec_l03Attrs.calls k _ _ y170 true _ ?side1 ?side2 A6.out).mono ?_);(case side1=>repeat (first|exact (Kd.R_reads' HO172.out).2.2|(with_reducible refine ca_ ?_ _)|(with_reducible refine cn_ ?_ _)|(with_reducible refine cd_ ?_)));(case side2=>exact (Kd.R_reads' HO172.out).2.1);rintro e w' ⟨rfl,⟨nd,rfl⟩⟩;refine ⟨_,rfl,?_⟩))
    go_ret
    exact ⟨_,by first|rfl|(simp [errW_none,errW_some] <;> rfl)|(simp [*,errW_none,errW_some] <;> rfl),by (with_reducible repeat (first|apply Kd.R_alloc|apply Kd.R_drewN|apply Kd.R_drew));exact Kd.R_mono HO172.out (fun _ hk=>hk.1),bq0_ HB.out,by repeat (first|(with_reducible first|exact HK.out|apply Kept.alloc|apply Kept.drewN|apply Kept.drew)|exact HK.out)⟩
   ·replace c7:=bm_ c7
    subst c7
    have H1:(some l0)=some r:=by rw [if_neg (show ¬ (false=true) by decide)] at H;exact H
    clear H
    have H:=H1
    clear H1
    obtain rfl:=oi_ H
    go_enter Tryz.func55,Tryz.ntmps55
    go_wp2_with (first|((with_reducible refine gate_dst (N:=8) rfl ?_);refine Kd.R_lit k52 _ 52 ?hg (N:=8) ?hd (xs:=([]:List (S52))) (inner:=[]) (ok:=fun _=>True) (okp:=fun _=>True) ?hr ?hp (fun _ hk=>hk) trivial (Below.refl _ _) (Nat.le_refl _) (by simp) ?_;(case hd=>rfl);(case hg=>rfl);(case hr=>first|(go_simp;done)|(go_simp;rfl)|((first|(obtain ⟨_,_,rfl⟩:=Kd.R_slice HO0.out)|(obtain ⟨_,_,rfl⟩:=Kd.S_slice HO0.out)|skip);(first|(obtain ⟨_,_,rfl⟩:=Kd.R_slice HO166.out)|(obtain ⟨_,_,rfl⟩:=Kd.S_slice HO166.out)|skip);(first|(obtain ⟨_,_,rfl⟩:=Kd.R_slice HO169.out)|(obtain ⟨_,_,rfl⟩:=Kd.S_slice HO169.out)|skip);(first|(obtain ⟨_,_,rfl⟩:=Kd.R_slice HO172.out)|(obtain ⟨_,_,rfl⟩:=Kd.S_slice HO172.out)|skip);first|(go_simp;done)|(go_simp;rfl)));(case hp=>exact (Reps.none _ _));intro v165 w14 ho15 hb hg_ hnew_;clear hg_ hnew_;(first|rw [←Ny164.out] at ho15|(simp only [Int.reduceToNat] at ho15;rw [←Ny164.out] at ho15));have n0_:=A_ (Kd.R_elder' (rq_ HO0.out) (Kd.R_base ho15) hb);have n1_:=A_ (Kd.R_lower (Kd.R_new' (Kd.R_newM (M:=fun k_=>(P0_ k_∨w.heap.size≤k_)) ho15 (by first|exact HK.out.1|exact (show Kept w _ (fun k_=>P0_ k_) from by repeat (first|(with_reducible first|exact HK.out|apply Kept.alloc|apply Kept.drewN|apply Kept.drew)|exact HK.out)).1) (fun k_ h_=>.inr h_)) (Kd.R_lt (rq_ HO0.out))) (bz_ (bq0_ HB.out)));have n2_:=A_ (Kept.below (S:=(fun k_=>P0_ k_)) (by repeat (first|(with_reducible first|exact HK.out|apply Kept.alloc|apply Kept.drewN|apply Kept.drew)|exact HK.out)) hb);have n3_:=A_ (bp_ (bq0_ HB.out) hb);clear HO0;clear HK;clear HB;have HO0:=n0_;have HO166:=n1_;have HK:=n2_;have HB:=n3_;clear n0_ n1_ n2_ n3_;clear hb ho15;obtain ⟨Ao17,co17,eo17⟩:=Kd.R_slice HO0.out;subst eo17)|((with_reducible refine gate_builtin (b:=.append) (xs:=#[.tmp 8,.tmp 9]) rfl ?_);at_builtin;refine Kd.R_append_rows k52 (w0:=w0) w0.heap.size rfl (.tmp 8) (.tmp 9) 22 52 (.agg #[(.string ⟨#[]⟩),(.string ⟨#[]⟩)]) 32 rfl Tryz.underlying22 info52 rfl (by decide) (by omega) v165 y164 l0 _ _ _ (fun k_=>(P0_ k_∨w.heap.size≤k_)∧some k_≠(.slice Ao17 l0.length co17:Value).ownBlock) (fun _=>False) rfl rfl ?aO ?aR (fun _ _ h=>h) (fun _ h=>h.elim) ?aF ?aB ?aS ?aL ?_;(case aR=>repeat (first|exact (Kd.R_reads' HO0.out).2.2|(with_reducible refine ca_ ?_ _)|(with_reducible refine cn_ ?_ _)|(with_reducible refine cd_ ?_)));(case aB=>exact (bq0_ HB.out));(case aF=>exact (fun k_ hk=>⟨(.inr (Nat.le_trans (by first|exact HK.out.1|exact (show Kept w _ (fun k_=>P0_ k_) from by repeat (first|(with_reducible first|exact HK.out|apply Kept.alloc|apply Kept.drewN|apply Kept.drew)|exact HK.out)).1) hk)),Kd.fresh' (Kd.R_lt (rq_ HO0.out)) k_ hk⟩));(case aO=>exact (by (with_reducible repeat (first|apply Kd.R_alloc|apply Kd.R_drewN|apply Kd.R_drew));exact Kd.R_mono HO166.out (fun _ hk=>⟨hk.1.1,hk.2⟩)));(case aS=>exact (bz_ (bq0_ HB.out)));(case aL=>have:=LMc4.out;omega);intro v168 w16 ho hb hg hat;rw [←Ny167.out] at ho;have n0_:=A_ (Kd.R_after (ok:=(fun k_=>(P0_ k_∨w.heap.size≤k_))) (rq_ HO0.out) hg hat);have n1_:=A_ (hb);have n2_:=A_ (Kept.of_grown (S:=(fun k_=>P0_ k_)) hg (by repeat (first|(with_reducible first|exact HK.out|apply Kept.alloc|apply Kept.drewN|apply Kept.drew)|exact HK.out)) (fun k_ e_=>(HO166.out.1 k_ e_).1.1));have n3_:=A_ (ho);clear HO0;clear HB;clear HK;clear HO166;have HO0:=n0_;have HB:=n1_;have HK:=n2_;have HO169:=n3_;clear n0_ n1_ n2_ n3_;clear ho hb hg hat)|((with_reducible refine gate_builtin (b:=.append) (xs:=#[.tmp 10,.tmp 14]) rfl ?_);at_builtin;refine Kd.R_append k52 (w0:=w0) w0.heap.size rfl (.tmp 10) (.tmp 14) 22 52 (.agg #[(.string ⟨#[]⟩),(.string ⟨#[]⟩)]) 32 rfl Tryz.underlying22 info52 rfl (by decide) (by omega) v168 y167 (⟨a1,a2⟩:S52) [.string a1,.string a2] (fun k_=>(P0_ k_∨w.heap.size≤k_)∧some k_≠(.slice Ao17 l0.length co17:Value).ownBlock) (fun _=>False) rfl rfl ?aP (fun _ hk=>hk.elim) ?aF ?aO ?aB ?aS ?aL ?_;(case aP=>exact k52_mkM _ _ _ (⟨a1,a2⟩:S52));(case aB=>exact (bq0_ HB.out));(case aF=>exact (fun k_ hk=>⟨(.inr (Nat.le_trans (by first|exact HK.out.1|exact (show Kept w _ (fun k_=>P0_ k_) from by repeat (first|(with_reducible first|exact HK.out|apply Kept.alloc|apply Kept.drewN|apply Kept.drew)|exact HK.out)).1) hk)),Kd.fresh' (Kd.R_lt (rq_ HO0.out)) k_ hk⟩));(case aO=>exact (rq_ HO169.out));(case aS=>exact (bz_ (bq0_ HB.out)));(case aL=>have:=LMc5.out;omega);intro v171 w18 ho hb hg hat;rw [←Ny170.out] at ho;have n0_:=A_ (Kd.R_after (ok:=(fun k_=>(P0_ k_∨w.heap.size≤k_))) (rq_ HO0.out) hg hat);have n1_:=A_ (hb);have n2_:=A_ (Kept.of_grown (S:=(fun k_=>P0_ k_)) hg (by repeat (first|(with_reducible first|exact HK.out|apply Kept.alloc|apply Kept.drewN|apply Kept.drew)|exact HK.out)) (fun k_ e_=>(HO169.out.1 k_ e_).1));have n3_:=A_ (ho);clear HO0;clear HB;clear HK;clear HO169;have HO0:=n0_;have HB:=n1_;have HK:=n2_;have HO172:=n3_;clear n0_ n1_ n2_ n3_;clear ho hb hg hat;obtain ⟨Ao19,co19,eo19⟩:=Kd.R_slice HO172.out;subst eo19)|((with_reducible refine gate_callee (f:=71) rfl ?_);refine gl_ (some 17) rfl rfl Tryz.func71 (by kernel_rfl) rfl #[.slice Ao19 y170.length co19] rfl  ?_;(with_reducible refine (spec_l03Attrs.calls k _ _ y170 false _ ?side1 ?side2 A6.out).mono ?_);(case side1=>repeat (first|exact (Kd.R_reads' HO172.out).2.2|(with_reducible refine ca_ ?_ _)|(with_reducible refine cn_ ?_ _)|(with_reducible refine cd_ ?_)));(case side2=>exact (Kd.R_reads' HO172.out).2.1);rintro e w' ⟨rfl,⟨nd,rfl⟩⟩;refine ⟨_,rfl,?_⟩))
    go_ret
    exact ⟨_,by first|rfl|(simp [errW_none,errW_some] <;> rfl)|(simp [*,errW_none,errW_some] <;> rfl),by (with_reducible repeat (first|apply Kd.R_alloc|apply Kd.R_drewN|apply Kd.R_drew));exact Kd.R_mono HO0.out (fun _ hk=>hk.1),bq0_ HB.out,by repeat (first|(with_reducible first|exact HK.out|apply Kept.alloc|apply Kept.drewN|apply Kept.drew)|exact HK.out)⟩
  ·rw [if_neg c5] at H
   exact absurd H (by simp)
 ·rw [if_neg c4] at H
  exact absurd H (by simp)
end Go.Proofs.YtfkanlbmgbkniaaGreatDoor.PFnExactNextToken
