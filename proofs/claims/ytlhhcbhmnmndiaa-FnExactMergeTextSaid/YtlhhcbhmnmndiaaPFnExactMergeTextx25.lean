/- By a program of this session, out of the kit's print and contracts made by hand: the machine side of a law; Lean checks it. No conditions. -/
import Derived.Test.YtlhhcbhmnmndiaaPFnExactMergeTextx0
import Derived.Test.YtlhhcbhmnmndiaaPFnExactMergeTextx2
import Derived.Test.YtlhhcbhmnmndiaaPFnExactMergeTextx3
import Derived.Test.YtlhhcbhmnmndiaaPFnExactMergeTextx5
import Derived.Test.YtlhhcbhmnmndiaaPFnExactMergeTextx6
import Derived.Test.YtlhhcbhmnmndiaaPFnExactMergeTextx15
import Derived.Test.YtlhhcbhmnmndiaaPFnExactMergeTextx22
import Derived.Test.YtlhhcbhmnmndiaaPFnExactMergeTextx24
namespace Go.Proofs.Ytlhhcbhmnmndiaa.PFnExactMergeText
open Go.RowKit Go.Proofs.YtlhhcbhmnmndiaaW.PrintWords Go.Proofs.YtlhhcbhmnmndiaaW.PrintLast Go.Proofs.YtlhhcbhmnmndiaaW.PrintMore
attribute [local go_sem] max2_int min2_int max_two min_two max_three min_three max_four min_four
set_option linter.unusedVariables false
set_option linter.unusedSimpArgs false
/-! ### laws_FnExactMergeText: function 5, by hand -/
def laws_FnExactMergeText.f (k:Nat) (x0:List S44):Option Bool :=
 (laws_szNodeS.f k x0 1048576).bind fun q0=>if q0<0 then some true else (laws_toNodeS.f k x0).bind fun y0=>(spec_MergeText.f k y0).bind fun b=>(impl_MergeText.f y0).bind fun g =>
  if ((g.2 == b.2) && (laws_eqNodeS.f k g.1 b.1 == some true) && (laws_eqNodeS.f k y0 y0 == some true))=true then
   (laws_markNodeS.f k y0 1).bind fun m0=>if 0≤m0.1 then (laws_markNodeS.f k g.1 1).bind fun n=>if (decide (0≤n.1) && (laws_heldNodeS.f k n.2 1 == some n.1))=true then some true else none else none
  else none
set_option maxHeartbeats 32000000 in
set_option maxRecDepth 1000000 in
theorem laws_FnExactMergeText.calls (k:Nat) (A0:Option Addr) (c0:Nat) (x0:List S44) (r:Bool) (w:World) (hr0:Kd.C k44 w A0 x0.length x0) (hc0:x0.length≤c0) (h:laws_FnExactMergeText.f k x0=some r) (hr:Aside0 (r=true)) :
 Calls Try.prog 5 #[.slice A0 x0.length c0] w fun e w'=>e=.returned (.bool r)∧Below w.heap.size w w':=by
 obtain rfl:=hr.out
 clear hr
 unfold laws_FnExactMergeText.f at h
 have HB0:=A_ (Below.refl w.heap.size w)
 obtain ⟨q0,hq0,h⟩:=ob_ h
 have QS0:Aside0 (∀ V,Below w.heap.size w V→Calls Try.prog 6 #[.slice A0 x0.length c0,.int .i64 1048576] V fun e w'=>e=.returned (.int .i64 q0)∧Below V.heap.size V w'):=⟨fun V hV=>laws_szNodeS.calls k A0 c0 x0 1048576 q0 V (cb_ hr0 hV) hc0 hq0⟩
 by_cases c0n:q0<0
 ·have z0n:decide (q0<0)=true:=dt_ c0n
  clear h hq0 hr0 hc0
  generalize x0.length=nx0 at *
  go_enter Try.func5,Try.ntmps5
  go_wp2_with (first|(go_at_call 6;(with_reducible refine (QS0.out _ HB0.out).mono ?_);rintro e ws0 ⟨rfl,hb⟩;(have HBs0:=A_ (bp_ HB0.out hb));clear hb QS0))
  go_ret
  exact ⟨rfl,HBs0.out⟩
 rw [if_neg c0n] at h
 have z0n:decide (q0<0)=false:=df_ c0n
 obtain ⟨y0,hy0,h⟩:=ob_ h
 obtain ⟨⟨b1,b2⟩,hb,h⟩:=ob_ h
 obtain ⟨⟨g,g2⟩,hi,h⟩:=ob_ h
 split at h
 case isFalse=>cases h
 rename_i hc
 simp only [Bool.and_eq_true,beq_iff_eq] at hc
 obtain ⟨⟨he2,heq⟩,hec0⟩:=hc
 obtain ⟨⟨m0,u0⟩,hmk0,h⟩:=ob_ h
 split at h
 case isFalse=>cases h
 rename_i hpos
 obtain ⟨⟨mm,g'⟩,hg,h⟩:=ob_ h
 split at h
 case isFalse=>cases h
 rename_i hh
 clear h
 simp only [Bool.and_eq_true,decide_eq_true_eq,beq_iff_eq] at hh
 obtain ⟨hmm0,hheld⟩:=hh
 have he3:b2=g2:=he2.symm
 subst he3
 clear he2
 have QT0:Aside0 (∀ V,Below w.heap.size w V→Calls Try.prog 8 #[.slice A0 x0.length c0] V fun e w'=>∃ A c,e=.returned (.slice A y0.length c)∧Kd.S kTN 49 w' V.heap.size (fun k=>V.heap.size≤k∧k<w'.heap.size) (.slice A y0.length c) y0∧Below V.heap.size V w'):=⟨fun V hV=>(laws_toNodeS.callsT k A0 c0 x0 y0 V (cb_ hr0 hV) hc0 hy0).mono fun e w' ⟨A,c,he,hs,hb⟩=>⟨A,c,he,Kd.S_mono (Kd.S_bound hs) (fun k hk=>⟨hk.2.1,hk.2.2.1⟩),hb⟩⟩
 have QP:Aside0 (∀ V A0 c0 B0 P0,Kd.S kTN 49 V B0 P0 (.slice A0 y0.length c0) y0→Calls Try.prog 20 #[.slice A0 y0.length c0] V fun e w'=>∃ A c,e=.returned (.tuple #[.slice A b1.length c,.int .i64 b2])∧(Kd.C k49 w' A b1.length b1∧b1.length≤c)∧Below V.heap.size V w'):=⟨fun V A0 c0 B0 P0 h0=>(spec_MergeText.calls k A0 c0 y0 b1 b2 V ((S_readsT h0).2.2) ((S_readsT h0).2.1) hb).mono fun e w' ⟨A,c,he,hs,hl,hb⟩=>⟨A,c,he,⟨hs,hl⟩,hb⟩⟩
 have QI:Aside0 (∀ V A0 c0 B0 P0,Kd.S kTN 49 V B0 P0 (.slice A0 y0.length c0) y0→Calls Try.prog 21 #[.slice A0 y0.length c0] V fun e w'=>∃ A c,e=.returned (.tuple #[.slice A g.length c,.int .i64 b2])∧Kd.S kTN 49 w' V.heap.size (fun k=>V.heap.size≤k∧k<w'.heap.size) (.slice A g.length c) g∧Below V.heap.size V w'):=⟨fun V A0 c0 B0 P0 h0=>(impl_MergeText.calls A0 c0 y0 g b2 V ((S_readsT h0).2.2) ((S_readsT h0).2.1) hi).mono fun e w' ⟨A,c,he,hs,hb⟩=>⟨A,c,he,Kd.S_mono (Kd.S_bound hs) (fun k hk=>⟨hk.2.1,hk.2.2.1⟩),hb⟩⟩
 have QE:Aside0 (∀ V A c A' c' B P,Kd.S kTN 49 V B P (.slice A g.length c) g→(Kd.C k49 V A' b1.length b1∧b1.length≤c')→Calls Try.prog 11 #[.slice A g.length c,.slice A' b1.length c'] V fun e w'=>e=.returned (.bool true)∧Below V.heap.size V w'):=⟨fun V A c A' c' B P h1 h2=>(laws_eqNodeS.calls k A c g A' c' b1 true V ((S_readsT h1).2.2) ((S_readsT h1).2.1) h2.1 h2.2 heq).mono fun e w' ⟨he,hd⟩=>⟨he,hd⟩⟩
 have QC0:Aside0 (∀ V A c A' c' B P B' P',Kd.S kTN 49 V B P (.slice A y0.length c) y0→Kd.S kTN 49 V B' P' (.slice A' y0.length c') y0→Calls Try.prog 11 #[.slice A y0.length c,.slice A' y0.length c'] V fun e w'=>e=.returned (.bool true)∧Below V.heap.size V w'):=⟨fun V A c A' c' B P B' P' h1 h2=>(laws_eqNodeS.calls k A c y0 A' c' y0 true V ((S_readsT h1).2.2) ((S_readsT h1).2.1) ((S_readsT h2).2.2) ((S_readsT h2).2.1) hec0).mono fun e w' ⟨he,hd⟩=>⟨he,hd⟩⟩
 have QH:Aside0 (∀ V A c B P,Kd.S kTN 49 V B P (.slice A g.length c) g'→Calls Try.prog 22 #[.slice A g.length c,.int .i64 1] V fun e w'=>e=.returned (.int .i64 mm)∧Below V.heap.size V w'):=⟨fun V A c B P h1=>by
  have hl:=(S_readsT h1).1
  rw [hl]
  exact (laws_heldNodeS.calls k A c g' 1 mm V (S_readsT h1).2.2 (hl ▸ (S_readsT h1).2.1) hheld).mono fun e w' ⟨he,hd⟩=>⟨he,hd⟩⟩
 have QM0:=A_ hmk0
 have QB:=A_ hg
 have zm:decide (m0<0)=false:=df_ (by omega)
 have zn:decide (mm<0)=false:=df_ (by omega)
 clear hg hheld hmm0 hpos heq hb hi hmk0 hec0 hy0 hq0 c0n hr0 hc0
 generalize x0.length=nx0 at *
 generalize hny0:y0.length=ny0 at *
 generalize hnb:b1.length=nb at *
 generalize hng:g.length=ng at *
 have HT0:=A_ True.intro
 go_enter Try.func5,Try.ntmps5
 go_wp2_with (first|(go_at_call 6;(have HT_:=HT0.out);clear HT0 HT_;(with_reducible refine (QS0.out _ HB0.out).mono ?_);rintro e w1 ⟨rfl,hb⟩;(have HBs0:=A_ (bp_ HB0.out hb));clear hb QS0 HB0;(have HT1:=A_ True.intro))|(go_at_call 8;(have HT_:=HT1.out);clear HT1 HT_;(with_reducible refine (QT0.out _ HBs0.out).mono ?_);rintro e w2 ⟨Y0A,Y0c,rfl,hs,hb⟩;(have HY0_w2:=A_ hs);(have HB_w2:=A_ (bp_ HBs0.out hb));clear hs hb HBs0;(have HT2:=A_ True.intro))|(go_at_call 20;(have HT_:=HT2.out);clear HT2 HT_;(with_reducible refine (QP.out _ _ _ _ _ HY0_w2.out).mono ?_);rintro e w3 ⟨VA,Vc,rfl,hs,hb⟩;(have HV:=A_ hs);(have HB3:=A_ (bp_ HB_w2.out hb));(have HD_w3:=A_ (Below.refl w3.heap.size w3));clear hs hb HB_w2 HY0_w2;(have HT3:=A_ True.intro))|(go_at_call 8;(have HT_:=HT3.out);clear HT3 HT_;(with_reducible refine (QT0.out _ (HB3.out.trans (HD_w3.out.mono HB3.out.size))).mono ?_);rintro e w4 ⟨X0A,X0c,rfl,hs,hb⟩;(have HX0_w4:=A_ (Kd.S_lower hs HD_w3.out.size));(have HD_w4:=A_ (bp_ HD_w3.out hb));clear HD_w3;(have SZ_w4:=A_ hb.size);clear hs hb;(have HT4:=A_ True.intro))|(go_at_call 21;(have HT_:=HT4.out);clear HT4 HT_;(with_reducible refine (QI.out _ _ _ _ _ HX0_w4.out).mono ?_);rintro e w5 ⟨GA,Gc,rfl,hs,hb⟩;(have HG_w5:=A_ (Kd.S_lower hs HD_w4.out.size));(have HX0_w5:=A_ (Kd.S_below HX0_w4.out hb));clear HX0_w4;(have HD_w5:=A_ (bp_ HD_w4.out hb));clear HD_w4;(have SZ_w5:=A_ hb.size);clear hs hb;(have HT5:=A_ True.intro))|(go_at_call 11;(have HT_:=HT5.out);clear HT5 HT_;(with_reducible refine (QE.out _ _ _ _ _ _ _ HG_w5.out (show Kd.C k49 _ _ _ _∧_ from ⟨cb_ HV.out.1 HD_w5.out,HV.out.2⟩)).mono ?_);rintro e w6 ⟨rfl,hb⟩;(have HX0_w6:=A_ (Kd.S_below HX0_w5.out hb));clear HX0_w5;(have HG_w6:=A_ (Kd.S_below HG_w5.out hb));clear HG_w5;(have HD_w6:=A_ (bp_ HD_w5.out hb));clear HD_w5;(have SZ_w6:=A_ hb.size);clear hb;(have HT6:=A_ True.intro))|(go_at_call 8;(have HT_:=HT6.out);clear HT6 HT_;(with_reducible refine (QT0.out _ (HB3.out.trans (HD_w6.out.mono HB3.out.size))).mono ?_);rintro e w7 ⟨TA,Tc,rfl,hs,hb⟩;(have HTmp:=A_ hs);(have HX0_w7:=A_ (Kd.S_below HX0_w6.out hb));clear HX0_w6;(have HG_w7:=A_ (Kd.S_below HG_w6.out hb));clear HG_w6;(have HD_w7:=A_ (bp_ HD_w6.out hb));clear HD_w6;(have SZ_w7:=A_ hb.size);clear hs hb;(have HT7:=A_ True.intro))|(go_at_call 11;(have HT_:=HT7.out);clear HT7 HT_;(with_reducible refine (QC0.out _ _ _ _ _ _ _ _ _ HX0_w7.out HTmp.out).mono ?_);rintro e w8 ⟨rfl,hb⟩;(have HX0_w8:=A_ (Kd.S_below HX0_w7.out hb));clear HX0_w7;(have HG_w8:=A_ (Kd.S_below HG_w7.out hb));clear HG_w7;(have HD_w8:=A_ (bp_ HD_w7.out hb));clear HD_w7;(have SZ_w8:=A_ hb.size);clear hb HTmp;(have HT8:=A_ True.intro))|(go_at_call 12;(have HT_:=HT8.out);clear HT8 HT_;(with_reducible refine (laws_markNodeS.callsT k _ _ _ _ y0 u0 1 m0 w3 _ HD_w8.out HX0_w8.out QM0.out).mono ?_);rintro e w9 ⟨rfl,hs,hb,hk⟩;(have HD_w9:=A_ hb);(have SZ_w9:=A_ hk.1);(have HG_w9:=A_ (Kd.S_kept HG_w8.out hk (fun k_ h1_ h2_=>by ((have:=SZ_w4.out);(have:=SZ_w5.out);(have:=SZ_w6.out);(have:=SZ_w7.out);(have:=SZ_w8.out);(have h1a:=h1_.1);(have h1b:=h1_.2);(have h2a:=h2_.1);(have h2b:=h2_.2);omega))));clear HG_w8;clear hs hb hk HX0_w8 HD_w8;(have HT9:=A_ True.intro))|(go_at_call 11;(have HT_:=HT9.out);clear HT9 HT_;(with_reducible refine (QE.out _ _ _ _ _ _ _ HG_w9.out (show Kd.C k49 _ _ _ _∧_ from ⟨cb_ HV.out.1 HD_w9.out,HV.out.2⟩)).mono ?_);rintro e w10 ⟨rfl,hb⟩;(have HG_w10:=A_ (Kd.S_below HG_w9.out hb));clear HG_w9;(have HD_w10:=A_ (bp_ HD_w9.out hb));clear HD_w9;(have SZ_w10:=A_ hb.size);clear hb;(have HT10:=A_ True.intro))|(go_at_call 12;(have HT_:=HT10.out);clear HT10 HT_;(with_reducible refine (laws_markNodeS.callsT k _ _ _ _ g g' 1 mm w3 _ HD_w10.out HG_w10.out QB.out).mono ?_);rintro e w11 ⟨rfl,hs,hb,hk⟩;(have HG_w11:=A_ hs);(have HD_w11:=A_ hb);(have SZ_w11:=A_ hk.1);clear hs hb hk HG_w10 HD_w10;(have HT11:=A_ True.intro))|(go_at_call 22;(have HT_:=HT11.out);clear HT11 HT_;(with_reducible refine (QH.out _ _ _ _ _ HG_w11.out).mono ?_);rintro e w12 ⟨rfl,hb⟩;(have HG_w12:=A_ (Kd.S_below HG_w11.out hb));clear HG_w11;(have HD_w12:=A_ (bp_ HD_w11.out hb));clear HD_w11;(have SZ_w12:=A_ hb.size);clear hb;(have HT12:=A_ True.intro))|(go_at_call 8;(have HT_:=HT12.out);clear HT12 HT_;(with_reducible refine (QT0.out _ (HB3.out.trans (HD_w12.out.mono HB3.out.size))).mono ?_);rintro e w13 ⟨Z0A,Z0c,rfl,hs,hb⟩;(have HZ0_w13:=A_ hs);(have HG_w13:=A_ (Kd.S_below HG_w12.out hb));clear HG_w12;(have HD_w13:=A_ (bp_ HD_w12.out hb));clear HD_w12;(have SZ_w13:=A_ hb.size);clear hs hb;(have HT13:=A_ True.intro))|(go_at_call 21;(have HT_:=HT13.out);clear HT13 HT_;(with_reducible refine (QI.out _ _ _ _ _ HZ0_w13.out).mono ?_);rintro e w14 ⟨HA_,Hc_,rfl,hs,hb⟩;(have HH:=A_ hs);(have HG_w14:=A_ (Kd.S_below HG_w13.out hb));clear HG_w13;(have HD_w14:=A_ (bp_ HD_w13.out hb));clear HD_w13;(have SZ_w14:=A_ hb.size);clear hs hb HZ0_w13;(have HT14:=A_ True.intro))|(go_at_call 11;(have HT_:=HT14.out);clear HT14 HT_;(with_reducible refine (QE.out _ _ _ _ _ _ _ HH.out (show Kd.C k49 _ _ _ _∧_ from ⟨cb_ HV.out.1 HD_w14.out,HV.out.2⟩)).mono ?_);rintro e w15 ⟨rfl,hb⟩;(have HG_w15:=A_ (Kd.S_below HG_w14.out hb));clear HG_w14;(have HD_w15:=A_ (bp_ HD_w14.out hb));clear HD_w14;(have SZ_w15:=A_ hb.size);clear hb HH;(have HT15:=A_ True.intro))|(go_at_call 22;(have HT_:=HT15.out);clear HT15 HT_;(with_reducible refine (QH.out _ _ _ _ _ HG_w15.out).mono ?_);rintro e w16 ⟨rfl,hb⟩;(have HG_w16:=A_ (Kd.S_below HG_w15.out hb));clear HG_w15;(have HD_w16:=A_ (bp_ HD_w15.out hb));clear HD_w15;(have SZ_w16:=A_ hb.size);clear hb;(have HT16:=A_ True.intro)))
 go_ret
 exact ⟨rfl,HB3.out.trans (HD_w16.out.mono HB3.out.size)⟩
end Go.Proofs.Ytlhhcbhmnmndiaa.PFnExactMergeText
