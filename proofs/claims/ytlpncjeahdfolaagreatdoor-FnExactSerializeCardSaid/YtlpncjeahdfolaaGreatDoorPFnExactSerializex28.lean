/- By a program of this session, out of the kit's print and contracts made by hand: the machine side of a law; Lean checks it. No conditions. -/
import Derived.Test.YtlpncjeahdfolaaGreatDoorPFnExactSerializex0
import Derived.Test.YtlpncjeahdfolaaGreatDoorPFnExactSerializex2
import Derived.Test.YtlpncjeahdfolaaGreatDoorPFnExactSerializex12
import Derived.Test.YtlpncjeahdfolaaGreatDoorPFnExactSerializex13
import Derived.Test.YtlpncjeahdfolaaGreatDoorPFnExactSerializex25
import Derived.Test.YtlpncjeahdfolaaGreatDoorPFnExactSerializex27
namespace Go.Proofs.YtlpncjeahdfolaaGreatDoor.PFnExactSerialize
open Go.RowKit Go.Proofs.YtlpncjeahdfolaaGreatDoorW.PrintWords Go.Proofs.YtlpncjeahdfolaaGreatDoorW.PrintLast Go.Proofs.YtlpncjeahdfolaaGreatDoorW.PrintMore
attribute [local go_sem] max2_int min2_int max_two min_two max_three min_three max_four min_four
set_option linter.unusedVariables false
set_option linter.unusedSimpArgs false
/-! ### laws_FnExactSerialize: function 3 -/
def laws_FnExactSerialize.j0:Nat→List (S33)→List (S38)→Bool→Option (Bool)
 | 0,_,_,_=>none
 | k+1,x0,x6,x34=>if x34=true then (some false) else ((laws_toNodeS.f k x0).bind fun t261=>((laws_eqNodeS.f k x6 t261).bind fun t264=>(if t264=true then (some true) else (some false))))
def laws_FnExactSerialize.f (k:Nat) (l0:List (S33)):Option (Bool):=(laws_szNodeS.f k l0 1048576).bind fun t250=>(if t250<0 then (some true) else ((laws_toNodeS.f k l0).bind fun t251=>((spec_Serialize.f k t251).bind fun bt254=>((laws_toNodeS.f k l0).bind fun t256=>((impl_Serialize.f t256).bind fun bt259=>(if bt259.1.toList=bt254.1.toList then (laws_FnExactSerialize.j0 k l0 t256 (bt259.2 != bt254.2)) else (laws_FnExactSerialize.j0 k l0 t256 true)))))))
theorem laws_FnExactSerialize.mono_l:∀ k,(∀ y0 y1 y2,LeO (laws_FnExactSerialize.j0 k y0 y1 y2) (laws_FnExactSerialize.j0 (k+1) y0 y1 y2))
 | 0=>fun _ _ _ r h=>by simp [laws_FnExactSerialize.j0] at h
 | k+1=>by
  have ih0:=laws_FnExactSerialize.mono_l k
  ·intro y0 y1 y2
   unfold laws_FnExactSerialize.j0
   repeat' first
   | (with_reducible exact ih0 _ _ _)
   | (with_reducible exact laws_eqNodeS.mono _ _ _)
   | (with_reducible exact laws_szNodeS.mono _ _ _)
   | (with_reducible exact laws_toNodeS.mono _ _)
   | (with_reducible exact spec_Serialize.mono _ _)
   | (with_reducible exact LeO.refl _)
   | (with_reducible exact LeO.none _)
   | (with_reducible refine LeO.ite ?_ ?_)
   | (with_reducible refine LeO.bind ?_ (fun _=>?_))
   | exact ih0 _ _ _
   | exact laws_eqNodeS.mono _ _ _
   | exact laws_szNodeS.mono _ _ _
   | exact laws_toNodeS.mono _ _
   | exact spec_Serialize.mono _ _
   | exact LeO.none _
   | refine LeO.ite ?_ ?_
   | refine LeO.bind ?_ (fun _=>?_)
theorem laws_FnExactSerialize.mono:∀ a0 k,LeO (laws_FnExactSerialize.f k a0) (laws_FnExactSerialize.f (k+1) a0):=by
 intro a0 k
 have ih0:=laws_FnExactSerialize.mono_l k
 unfold laws_FnExactSerialize.f
 repeat' first
  | (with_reducible exact ih0 _ _ _)
  | (with_reducible exact laws_eqNodeS.mono _ _ _)
  | (with_reducible exact laws_szNodeS.mono _ _ _)
  | (with_reducible exact laws_toNodeS.mono _ _)
  | (with_reducible exact spec_Serialize.mono _ _)
  | (with_reducible exact LeO.refl _)
  | (with_reducible exact LeO.none _)
  | (with_reducible refine LeO.ite ?_ ?_)
  | (with_reducible refine LeO.bind ?_ (fun _=>?_))
  | exact ih0 _ _ _
  | exact laws_eqNodeS.mono _ _ _
  | exact laws_szNodeS.mono _ _ _
  | exact laws_toNodeS.mono _ _
  | exact spec_Serialize.mono _ _
  | exact LeO.none _
  | refine LeO.ite ?_ ?_
  | refine LeO.bind ?_ (fun _=>?_)
set_option maxHeartbeats 8000000 in
set_option maxRecDepth 100000 in
theorem laws_FnExactSerialize.calls (k:Nat) (A0:Option Addr) (c0:Nat) (l0:List (S33)) (r:Bool) (w:World) (hr0:Kd.C k33 w A0 l0.length l0) (hc0:l0.length≤c0) (h:laws_FnExactSerialize.f k l0=some r) (HRT:Aside0 (r=true)) :
 Calls Tryz.prog 3 #[.slice A0 l0.length c0] w fun e w'=>e=.returned (.bool r)∧Below w.heap.size w w':=by
 have HR0:=A_ hr0
 have HC0:=A_ hc0
 clear hr0 hc0
 have HB:=A_ (Below.refl w.heap.size w)
 have H:((laws_szNodeS.f k l0 1048576).bind fun t250=>(if t250<0 then (some true) else ((laws_toNodeS.f k l0).bind fun t251=>((spec_Serialize.f k t251).bind fun bt254=>((laws_toNodeS.f k l0).bind fun t256=>((impl_Serialize.f t256).bind fun bt259=>(if bt259.1.toList=bt254.1.toList then (laws_FnExactSerialize.j0 k l0 t256 (bt259.2 != bt254.2)) else (laws_FnExactSerialize.j0 k l0 t256 true))))))))=some r:=h
 clear h
 replace H:=ob_ H
 obtain ⟨t250,A20,H⟩:=H
 replace H:(if t250<0 then (some true) else ((laws_toNodeS.f k l0).bind fun t251=>((spec_Serialize.f k t251).bind fun bt254=>((laws_toNodeS.f k l0).bind fun t256=>((impl_Serialize.f t256).bind fun bt259=>(if bt259.1.toList=bt254.1.toList then (laws_FnExactSerialize.j0 k l0 t256 (bt259.2 != bt254.2)) else (laws_FnExactSerialize.j0 k l0 t256 true)))))))=some r:=H
 have A2:=A_ A20
 clear A20
 by_cases c3:t250<0
 ·rw [if_pos c3] at H
  have c3b0:decide (t250<0)=true:=dt_ c3
  clear c3
  obtain rfl:=oi_ H
  go_enter Tryz.func3,Tryz.ntmps3
  go_wp2_with (first|((with_reducible refine gate_callee (f:=4) rfl ?_);refine goesL_ (some 11) rfl rfl Tryz.func4 (by kernel_rfl) rfl #[.slice A0 l0.length c0,.int .i64 1048576] rfl (by (try simp only [List.map_toArray,List.map_cons,List.map_nil]);first|done|rfl|(simp only [ld_,lt_];rfl)) ?_;(with_reducible refine (laws_szNodeS.calls k _ _ l0 1048576 t250 _ ?side1 ?side2 A2.out).mono ?_);(case side1=>repeat (first|exact HR0.out|(with_reducible refine ca_ ?_ _)|(with_reducible refine cn_ ?_ _)|(with_reducible refine cd_ ?_)));(case side2=>exact HC0.out);rintro e w4 ⟨rfl,hb⟩;refine ⟨_,rfl,?_⟩;have n0_:=A_ (bp_ (by repeat (first|(with_reducible first|exact HB.out|apply ba_|apply pd_|apply b1_)|exact HB.out)) hb);clear HB;have HB:=n0_;clear n0_;(try clear hb);(try clear hb2);(try clear hk);(try clear hi)))
  go_ret
  exact ⟨by first|rfl|(simp [errW_none,errW_some] <;> rfl)|(simp [*,errW_none,errW_some] <;> rfl),by repeat (first|(with_reducible first|exact HB.out|apply ba_|apply pd_|apply b1_)|exact HB.out)⟩
 ·rw [if_neg c3] at H
  have c3b0:decide (t250<0)=false:=df_ c3
  clear c3
  replace H:=ob_ H
  obtain ⟨t251,A50,H⟩:=H
  replace H:((spec_Serialize.f k t251).bind fun bt254=>((laws_toNodeS.f k l0).bind fun t256=>((impl_Serialize.f t256).bind fun bt259=>(if bt259.1.toList=bt254.1.toList then (laws_FnExactSerialize.j0 k l0 t256 (bt259.2 != bt254.2)) else (laws_FnExactSerialize.j0 k l0 t256 true)))))=some r:=H
  have A5:=A_ A50
  clear A50
  replace H:=ob_ H
  obtain ⟨⟨t254,t255⟩,A60,H⟩:=H
  replace H:((laws_toNodeS.f k l0).bind fun t256=>((impl_Serialize.f t256).bind fun bt259=>(if bt259.1.toList=t254.toList then (laws_FnExactSerialize.j0 k l0 t256 (bt259.2 != t255)) else (laws_FnExactSerialize.j0 k l0 t256 true))))=some r:=H
  have A6:=A_ A60
  clear A60
  replace H:=ob_ H
  obtain ⟨t256,A70,H⟩:=H
  replace H:((impl_Serialize.f t256).bind fun bt259=>(if bt259.1.toList=t254.toList then (laws_FnExactSerialize.j0 k l0 t256 (bt259.2 != t255)) else (laws_FnExactSerialize.j0 k l0 t256 true)))=some r:=H
  have A7:=A_ A70
  clear A70
  replace H:=ob_ H
  obtain ⟨⟨t259,t260⟩,A80,H⟩:=H
  replace H:(if t259.toList=t254.toList then (laws_FnExactSerialize.j0 k l0 t256 (t260 != t255)) else (laws_FnExactSerialize.j0 k l0 t256 true))=some r:=H
  have A8:=A_ A80
  clear A80
  have HC9:=A_ H
  clear H
  go_enter Tryz.func3,Tryz.ntmps3
  go_upto_region 8 with (first|((with_reducible refine gate_callee (f:=4) rfl ?_);refine goesL_ (some 11) rfl rfl Tryz.func4 (by kernel_rfl) rfl #[.slice A0 l0.length c0,.int .i64 1048576] rfl (by (try simp only [List.map_toArray,List.map_cons,List.map_nil]);first|done|rfl|(simp only [ld_,lt_];rfl)) ?_;(with_reducible refine (laws_szNodeS.calls k _ _ l0 1048576 t250 _ ?side1 ?side2 A2.out).mono ?_);(case side1=>repeat (first|exact HR0.out|(with_reducible refine ca_ ?_ _)|(with_reducible refine cn_ ?_ _)|(with_reducible refine cd_ ?_)));(case side2=>exact HC0.out);rintro e w10 ⟨rfl,hb⟩;refine ⟨_,rfl,?_⟩;have n0_:=A_ (bp_ (by repeat (first|(with_reducible first|exact HB.out|apply ba_|apply pd_|apply b1_)|exact HB.out)) hb);clear HB;have HB:=n0_;clear n0_;(try clear hb);(try clear hb2);(try clear hk);(try clear hi))|((with_reducible refine gate_callee (f:=6) rfl ?_);refine goesL_ (some 16) rfl rfl Tryz.func6 (by kernel_rfl) rfl #[.slice A0 l0.length c0] rfl (by (try simp only [List.map_toArray,List.map_cons,List.map_nil]);first|done|rfl|(simp only [ld_,lt_];rfl)) ?_;(with_reducible refine (laws_toNodeS.calls k _ _ l0 t251 _ ?side1 ?side2 A5.out).mono ?_);(case side1=>repeat (first|exact (cb_ HR0.out HB.out)|(with_reducible refine ca_ ?_ _)|(with_reducible refine cn_ ?_ _)|(with_reducible refine cd_ ?_)));(case side2=>exact HC0.out);rintro e w11 ⟨v252,rfl,ho0,hb⟩;refine ⟨_,rfl,?_⟩;have n0_:=A_ (Kd.N_lower (Kd.N_mono (ok':=fun k_=>True) ho0 (fun k_ hk_=>trivial)) (bz_ (by repeat (first|(with_reducible first|exact HB.out|apply ba_|apply pd_|apply b1_)|exact HB.out))));have n1_:=A_ (bp_ (by repeat (first|(with_reducible first|exact HB.out|apply ba_|apply pd_|apply b1_)|exact HB.out)) hb);clear HB;have HO253:=n0_;have HB:=n1_;clear n0_ n1_;(try clear hb);(try clear hb2);(try clear hk);(try clear hi);(try clear ho0);obtain ⟨Ao12,co12,eo12⟩:=Kd.N_slice HO253.out;subst eo12)|((with_reducible refine gate_callee (f:=5) rfl ?_);refine goesL_ (some 17) rfl rfl Tryz.func5 (by kernel_rfl) rfl #[.slice Ao12 t251.length co12] rfl (by (try simp only [List.map_toArray,List.map_cons,List.map_nil]);first|done|rfl|(simp only [ld_,lt_];rfl)) ?_;(with_reducible refine (spec_Serialize.calls k _ _ t251 t254 t255 _ ?side1 ?side2 A6.out).mono ?_);(case side1=>repeat (first|exact (Kd.N_reads' HO253.out).2.2|(with_reducible refine ca_ ?_ _)|(with_reducible refine cn_ ?_ _)|(with_reducible refine cd_ ?_)));(case side2=>exact (Kd.N_reads' HO253.out).2.1);rintro e w13 ⟨rfl,hb⟩;refine ⟨_,rfl,?_⟩;have n0_:=A_ (Kd.N_below (by (with_reducible repeat (first|apply Kd.N_alloc|apply Kd.N_drewN|apply Kd.N_drew));exact HO253.out) hb);have n1_:=A_ (bp_ (by repeat (first|(with_reducible first|exact HB.out|apply ba_|apply pd_|apply b1_)|exact HB.out)) hb);clear HO253;clear HB;have HO253:=n0_;have HB:=n1_;clear n0_ n1_;(try clear hb);(try clear hb2);(try clear hk);(try clear hi))|((with_reducible refine gate_callee (f:=6) rfl ?_);refine goesL_ (some 21) rfl rfl Tryz.func6 (by kernel_rfl) rfl #[.slice A0 l0.length c0] rfl (by (try simp only [List.map_toArray,List.map_cons,List.map_nil]);first|done|rfl|(simp only [ld_,lt_];rfl)) ?_;(with_reducible refine (laws_toNodeS.calls k _ _ l0 t256 _ ?side1 ?side2 A7.out).mono ?_);(case side1=>repeat (first|exact (cb_ HR0.out HB.out)|(with_reducible refine ca_ ?_ _)|(with_reducible refine cn_ ?_ _)|(with_reducible refine cd_ ?_)));(case side2=>exact HC0.out);rintro e w14 ⟨v257,rfl,ho0,hb⟩;refine ⟨_,rfl,?_⟩;have n0_:=A_ (Kd.N_elder' (by (with_reducible repeat (first|apply Kd.N_alloc|apply Kd.N_drewN|apply Kd.N_drew));exact HO253.out) (Kd.N_base ho0) hb);have n1_:=A_ (Kd.N_lower (Kd.N_mono (ok':=fun k_=>some k_≠(.slice Ao12 t251.length co12:Value).ownBlock) ho0 (fun k_ hk_=>(Kd.fresh' (Kd.N_lt (by (with_reducible repeat (first|apply Kd.N_alloc|apply Kd.N_drewN|apply Kd.N_drew));exact HO253.out)) k_ hk_))) (bz_ (by repeat (first|(with_reducible first|exact HB.out|apply ba_|apply pd_|apply b1_)|exact HB.out))));have n2_:=A_ (bp_ (by repeat (first|(with_reducible first|exact HB.out|apply ba_|apply pd_|apply b1_)|exact HB.out)) hb);clear HO253;clear HB;have HO253:=n0_;have HO258:=n1_;have HB:=n2_;clear n0_ n1_ n2_;(try clear hb);(try clear hb2);(try clear hk);(try clear hi);(try clear ho0);obtain ⟨Ao15,co15,eo15⟩:=Kd.N_slice HO258.out;subst eo15)|((with_reducible refine gate_callee (f:=7) rfl ?_);refine goesL_ (some 24) rfl rfl Tryz.func7 (by kernel_rfl) rfl #[.slice Ao15 t256.length co15] rfl (by (try simp only [List.map_toArray,List.map_cons,List.map_nil]);first|done|rfl|(simp only [ld_,lt_];rfl)) ?_;(with_reducible refine (impl_Serialize.calls _ _ t256 t259 t260 _ ?side1 ?side2 A8.out).mono ?_);(case side1=>repeat (first|exact (Kd.N_reads' HO258.out).2.2|(with_reducible refine ca_ ?_ _)|(with_reducible refine cn_ ?_ _)|(with_reducible refine cd_ ?_)));(case side2=>exact (Kd.N_reads' HO258.out).2.1);rintro e w16 ⟨rfl,hb⟩;refine ⟨_,rfl,?_⟩;have n0_:=A_ (Kd.N_below (by (with_reducible repeat (first|apply Kd.N_alloc|apply Kd.N_drewN|apply Kd.N_drew));exact HO253.out) hb);have n1_:=A_ (Kd.N_below (by (with_reducible repeat (first|apply Kd.N_alloc|apply Kd.N_drewN|apply Kd.N_drew));exact HO258.out) hb);have n2_:=A_ (bp_ (by repeat (first|(with_reducible first|exact HB.out|apply ba_|apply pd_|apply b1_)|exact HB.out)) hb);clear HO253;clear HO258;clear HB;have HO253:=n0_;have HO258:=n1_;have HB:=n2_;clear n0_ n1_ n2_;(try clear hb);(try clear hb2);(try clear hk);(try clear hi)))
  (try simp only [Act.put,ls_,lz_,lc_])
  go_cut [34] (fun v34 wc=>∃ (kq:Nat) (x34_8:Bool),v34=.bool x34_8∧Aside0 (laws_FnExactSerialize.j0 kq l0 t256 x34_8=some r)∧Aside0 (kq≤k)∧Aside0 (Kd.N k38 38 wc w.heap.size (fun _=>True) (.slice Ao15 t256.length co15) t256)∧Aside0 (Below w.heap.size w wc))
  case first =>
   have H:=HC9.out
   clear HC9
   by_cases c17:t259.toList=t254.toList
   ·rw [if_pos c17] at H
    have c17b0:(t259.toList == t254.toList)=true:=beq_iff_eq.mpr c17
    have c17b1:(t259.toList != t254.toList)=false:=bne_eq_false_iff_eq.mpr c17
    clear c17
    (first|rw [c17b0]|(simp only [i64_w,i32_w];rw [c17b0])|skip)
    have H':=A_ H
    clear H
    go_wp2
    go_meet
    case rel=>exact ⟨_,((t260 != t255)),(by first|rfl|(simp;done)|(simp [*];done)),H',⟨by first|omega|exact Nat.le_refl _⟩,⟨by (with_reducible repeat (first|apply Kd.N_alloc|apply Kd.N_drewN|apply Kd.N_drew));exact Kd.N_mono HO258.out (fun _ hk=>trivial)⟩,⟨by repeat (first|(with_reducible first|exact HB.out|apply ba_|apply pd_|apply b1_)|exact HB.out)⟩⟩
   ·rw [if_neg c17] at H
    have c17b0:(t259.toList == t254.toList)=false:=beq_eq_false_iff_ne.mpr c17
    have c17b1:(t259.toList != t254.toList)=true:=bne_iff_ne.mpr c17
    (first|rw [c17b0]|(simp only [i64_w,i32_w];rw [c17b0])|skip)
    have H':=A_ H
    clear H
    go_wp2
    go_meet
    case rel=>exact ⟨_,(true),(by first|rfl|(simp;done)|(simp [*];done)),H',⟨by first|omega|exact Nat.le_refl _⟩,⟨by (with_reducible repeat (first|apply Kd.N_alloc|apply Kd.N_drewN|apply Kd.N_drew));exact Kd.N_mono HO258.out (fun _ hk=>trivial)⟩,⟨by repeat (first|(with_reducible first|exact HB.out|apply ba_|apply pd_|apply b1_)|exact HB.out)⟩⟩
  case rest =>
   clear HC9
   try clear c1
   try clear p2
   try clear c3
   try clear c3b0
   try clear c4
   try clear c5
   try clear c6
   try clear c7
   try clear c17
   try clear c17b0
   try clear c17b1
   obtain ⟨kq,x34_8,rfl,HA,HJ8,HO_6,HB⟩:=hcut
   cases kq with
   | zero=>exact absurd HA.out (by simp [laws_FnExactSerialize.j0])
   | succ kj8 =>
    have H:=HA.out
    clear HA
    simp only [laws_FnExactSerialize.j0] at H
    by_cases c18:x34_8=true
    ·subst c18
     have H1:(some false)=some r:=by rw [if_pos rfl] at H;exact H
     clear H
     have H:=H1
     clear H1
     exact absurd ((oi_ H).trans HRT.out) (by decide)
    ·replace c18:=bm_ c18
     subst c18
     have H1:((laws_toNodeS.f kj8 l0).bind fun t261=>((laws_eqNodeS.f kj8 t256 t261).bind fun t264=>(if t264=true then (some true) else (some false))))=some r:=by rw [if_neg (show ¬ (false=true) by decide)] at H;exact H
     clear H
     have H:=H1
     clear H1
     replace H:=ob_ H
     obtain ⟨t261,A190,H⟩:=H
     replace H:((laws_eqNodeS.f kj8 t256 t261).bind fun t264=>(if t264=true then (some true) else (some false)))=some r:=H
     have A19:=A_ A190
     clear A190
     replace H:=ob_ H
     obtain ⟨t264,A200,H⟩:=H
     replace H:(if t264=true then (some true) else (some false))=some r:=H
     have A20:=A_ A200
     clear A200
     by_cases c21:t264=true
     ·subst c21
      have H1:(some true)=some r:=by rw [if_pos rfl] at H;exact H
      clear H
      have H:=H1
      clear H1
      obtain rfl:=oi_ H
      go_wp2_with (first|((with_reducible refine gate_callee (f:=6) rfl ?_);refine goesL_ (some 37) rfl rfl Tryz.func6 (by kernel_rfl) rfl #[.slice A0 l0.length c0] rfl (by (try simp only [List.map_toArray,List.map_cons,List.map_nil]);first|done|rfl|(simp only [ld_,lt_];rfl)) ?_;(with_reducible refine (laws_toNodeS.calls kj8 _ _ l0 t261 _ ?side1 ?side2 A19.out).mono ?_);(case side1=>repeat (first|exact (cb_ HR0.out HB.out)|(with_reducible refine ca_ ?_ _)|(with_reducible refine cn_ ?_ _)|(with_reducible refine cd_ ?_)));(case side2=>exact HC0.out);rintro e w22 ⟨v262,rfl,ho0,hb⟩;refine ⟨_,rfl,?_⟩;have n0_:=A_ (Kd.N_elder' (by (with_reducible repeat (first|apply Kd.N_alloc|apply Kd.N_drewN|apply Kd.N_drew));exact HO_6.out) (Kd.N_base ho0) hb);have n1_:=A_ (Kd.N_lower (Kd.N_mono (ok':=fun k_=>some k_≠(.slice Ao15 t256.length co15:Value).ownBlock) ho0 (fun k_ hk_=>(Kd.fresh' (Kd.N_lt (by (with_reducible repeat (first|apply Kd.N_alloc|apply Kd.N_drewN|apply Kd.N_drew));exact HO_6.out)) k_ hk_))) (bz_ (by repeat (first|(with_reducible first|exact HB.out|apply ba_|apply pd_|apply b1_)|exact HB.out))));have n2_:=A_ (bp_ (by repeat (first|(with_reducible first|exact HB.out|apply ba_|apply pd_|apply b1_)|exact HB.out)) hb);clear HO_6;clear HB;have HO_6:=n0_;have HO263:=n1_;have HB:=n2_;clear n0_ n1_ n2_;(try clear hb);(try clear hb2);(try clear hk);(try clear hi);(try clear ho0);obtain ⟨Ao23,co23,eo23⟩:=Kd.N_slice HO263.out;subst eo23)|((with_reducible refine gate_callee (f:=8) rfl ?_);refine goesL_ (some 38) rfl rfl Tryz.func8 (by kernel_rfl) rfl #[.slice Ao15 t256.length co15,.slice Ao23 t261.length co23] rfl (by (try simp only [List.map_toArray,List.map_cons,List.map_nil]);first|done|rfl|(simp only [ld_,lt_];rfl)) ?_;(with_reducible refine (laws_eqNodeS.calls kj8 _ _ t256 _ _ t261 true _ ?side1 ?side2 ?side3 ?side4 A20.out).mono ?_);(case side1=>repeat (first|exact (Kd.N_reads' HO_6.out).2.2|(with_reducible refine ca_ ?_ _)|(with_reducible refine cn_ ?_ _)|(with_reducible refine cd_ ?_)));(case side2=>exact (Kd.N_reads' HO_6.out).2.1);(case side3=>repeat (first|exact (Kd.N_reads' HO263.out).2.2|(with_reducible refine ca_ ?_ _)|(with_reducible refine cn_ ?_ _)|(with_reducible refine cd_ ?_)));(case side4=>exact (Kd.N_reads' HO263.out).2.1);rintro e w24 ⟨rfl,hb⟩;refine ⟨_,rfl,?_⟩;have n0_:=A_ (Kd.N_below (by (with_reducible repeat (first|apply Kd.N_alloc|apply Kd.N_drewN|apply Kd.N_drew));exact HO_6.out) hb);have n1_:=A_ (Kd.N_below (by (with_reducible repeat (first|apply Kd.N_alloc|apply Kd.N_drewN|apply Kd.N_drew));exact HO263.out) hb);have n2_:=A_ (bp_ (by repeat (first|(with_reducible first|exact HB.out|apply ba_|apply pd_|apply b1_)|exact HB.out)) hb);clear HO_6;clear HO263;clear HB;have HO_6:=n0_;have HO263:=n1_;have HB:=n2_;clear n0_ n1_ n2_;(try clear hb);(try clear hb2);(try clear hk);(try clear hi)))
      go_ret
      exact ⟨by first|rfl|(simp [errW_none,errW_some] <;> rfl)|(simp [*,errW_none,errW_some] <;> rfl),by repeat (first|(with_reducible first|exact HB.out|apply ba_|apply pd_|apply b1_)|exact HB.out)⟩
     ·replace c21:=bm_ c21
      subst c21
      have H1:(some false)=some r:=by rw [if_neg (show ¬ (false=true) by decide)] at H;exact H
      clear H
      have H:=H1
      clear H1
      exact absurd ((oi_ H).trans HRT.out) (by decide)
end Go.Proofs.YtlpncjeahdfolaaGreatDoor.PFnExactSerialize
