/- By a program of this session, out of the kit's print and contracts made by hand: the machine side of a law; Lean checks it. No conditions. -/
import Derived.Test.YtbeplhbkoaopgaaPFnExactSetWordsx0
import Derived.Test.YtbeplhbkoaopgaaPFnExactSetWordsx2
import Derived.Test.YtbeplhbkoaopgaaPFnExactSetWordsx3
import Derived.Test.YtbeplhbkoaopgaaPFnExactSetWordsx4
import Derived.Test.YtbeplhbkoaopgaaPFnExactSetWordsx6
import Derived.Test.YtbeplhbkoaopgaaPFnExactSetWordsx7
import Derived.Test.YtbeplhbkoaopgaaPFnExactSetWordsx8
import Derived.Test.YtbeplhbkoaopgaaPFnExactSetWordsx18
import Derived.Test.YtbeplhbkoaopgaaPFnExactSetWordsx26
import Derived.Test.YtbeplhbkoaopgaaPFnExactSetWordsx28
namespace Go.Proofs.Ytbeplhbkoaopgaa.PFnExactSetWords
open Go.RowKit Go.Proofs.YtbeplhbkoaopgaaW.PrintWords Go.Proofs.YtbeplhbkoaopgaaW.PrintLast Go.Proofs.YtbeplhbkoaopgaaW.PrintMore
attribute [local go_sem] max2_int min2_int max_two min_two max_three min_three max_four min_four
set_option linter.unusedVariables false
set_option linter.unusedSimpArgs false
/-! ### laws_FnExactSetWords: function 4, by hand -/
def laws_FnExactSetWords.f (k:Nat) (x0:List S47) (x1:List Int) (x2:ByteArray):Option Bool :=
 if 1048576<x1.length then some true else if 1048576<x2.size then some true else (laws_szNodeS.f k x0 1048576).bind fun q0=>if q0<0 then some true else (laws_toNodeS.f k x0).bind fun y0=>(laws_toIntS.f k x1).bind fun y1=>(spec_SetWords.f k y0 y1 x2).bind fun b=>(impl_SetWords.f y0 y1 x2).bind fun g =>
  if ((g.2 == b.2) && (laws_eqNodeS.f k g.1 b.1 == some true) && (laws_eqNodeS.f k y0 y0 == some true) && (laws_eqIntS.f k y1 y1 == some true))=true then
   (laws_markNodeS.f k y0 1).bind fun m0=>(laws_markIntS.f k y1 m0.1).bind fun m1=>if 0≤m1.1 then (laws_markNodeS.f k g.1 1).bind fun n=>if (decide (0≤n.1) && (laws_heldNodeS.f k n.2 1 == some n.1))=true then some true else none else none
  else none
set_option maxHeartbeats 32000000 in
set_option maxRecDepth 1000000 in
theorem laws_FnExactSetWords.calls (k:Nat) (A0:Option Addr) (c0:Nat) (x0:List S47) (A1:Option Addr) (c1:Nat) (x1:List Int) (x2:ByteArray) (r:Bool) (w:World) (hr0:Kd.C k47 w A0 x0.length x0) (hc0:x0.length≤c0) (hr1:Kd.C (Kd.int .i64) w A1 x1.length x1) (hc1:x1.length≤c1) (h:laws_FnExactSetWords.f k x0 x1 x2=some r) (hr:Aside0 (r=true)) :
 Calls Try.prog 4 #[.slice A0 x0.length c0,.slice A1 x1.length c1,.string x2] w fun e w'=>e=.returned (.bool r)∧Below w.heap.size w w':=by
 obtain rfl:=hr.out
 clear hr
 unfold laws_FnExactSetWords.f at h
 have HB0:=A_ (Below.refl w.heap.size w)
 by_cases cl1:1048576<x1.length
 ·have zl1:decide ((1048576:Int)<(x1.length:Int))=true:=dt_ (by omega)
  clear h
  go_enter Try.func4,Try.ntmps4
  go_wp2
  go_ret
  exact ⟨rfl,HB0.out⟩
 rw [if_neg cl1] at h
 have zl1:decide ((1048576:Int)<(x1.length:Int))=false:=df_ (by omega)
 by_cases cl2:1048576<x2.size
 ·have zl2:decide ((1048576:Int)<(x2.size:Int))=true:=dt_ (by omega)
  clear h
  go_enter Try.func4,Try.ntmps4
  go_wp2
  go_ret
  exact ⟨rfl,HB0.out⟩
 rw [if_neg cl2] at h
 have zl2:decide ((1048576:Int)<(x2.size:Int))=false:=df_ (by omega)
 obtain ⟨q0,hq0,h⟩:=ob_ h
 have QS0:Aside0 (∀ V,Below w.heap.size w V→Calls Try.prog 6 #[.slice A0 x0.length c0,.int .i64 1048576] V fun e w'=>e=.returned (.int .i64 q0)∧Below V.heap.size V w'):=⟨fun V hV=>laws_szNodeS.calls k A0 c0 x0 1048576 q0 V (cb_ hr0 hV) hc0 hq0⟩
 by_cases c0n:q0<0
 ·have z0n:decide (q0<0)=true:=dt_ c0n
  clear h hq0 hr0 hc0 hr1 hc1
  generalize x0.length=nx0 at *
  generalize x1.length=nx1 at *
  go_enter Try.func4,Try.ntmps4
  go_wp2_with (first|(go_at_call 6;(with_reducible refine (QS0.out _ HB0.out).mono ?_);rintro e ws0 ⟨rfl,hb⟩;(have HBs0:=A_ (bp_ HB0.out hb));clear hb QS0))
  go_ret
  exact ⟨rfl,HBs0.out⟩
 rw [if_neg c0n] at h
 have z0n:decide (q0<0)=false:=df_ c0n
 obtain ⟨y0,hy0,h⟩:=ob_ h
 obtain ⟨y1,hy1,h⟩:=ob_ h
 obtain ⟨⟨b1,b2⟩,hb,h⟩:=ob_ h
 obtain ⟨⟨g,g2⟩,hi,h⟩:=ob_ h
 split at h
 case isFalse=>cases h
 rename_i hc
 simp only [Bool.and_eq_true,beq_iff_eq] at hc
 obtain ⟨⟨⟨he2,heq⟩,hec0⟩,hec1⟩:=hc
 obtain ⟨⟨m0,u0⟩,hmk0,h⟩:=ob_ h
 obtain ⟨⟨m1,u1⟩,hmk1,h⟩:=ob_ h
 split at h
 case isFalse=>cases h
 rename_i hpos
 obtain ⟨⟨mm,g'⟩,hg,h⟩:=ob_ h
 split at h
 case isFalse=>cases h
 rename_i hh
 clear h
 simp only [Bool.and_eq_true,decide_eq_true_eq,beq_iff_eq] at hh
 obtain ⟨hmm0,hheld⟩:=hh
 have he3:b2=g2:=he2.symm
 subst he3
 clear he2
 have QT0:Aside0 (∀ V,Below w.heap.size w V→Calls Try.prog 8 #[.slice A0 x0.length c0] V fun e w'=>∃ A c,e=.returned (.slice A y0.length c)∧Kd.S kTN 28 w' V.heap.size (fun k=>V.heap.size≤k∧k<w'.heap.size) (.slice A y0.length c) y0∧Below V.heap.size V w'):=⟨fun V hV=>(laws_toNodeS.callsT k A0 c0 x0 y0 V (cb_ hr0 hV) hc0 hy0).mono fun e w' ⟨A,c,he,hs,hb⟩=>⟨A,c,he,Kd.S_mono (Kd.S_bound hs) (fun k hk=>⟨hk.2.1,hk.2.2.1⟩),hb⟩⟩
 have QT1:Aside0 (∀ V,Below w.heap.size w V→Calls Try.prog 9 #[.slice A1 x1.length c1] V fun e w'=>∃ A c,e=.returned (.slice A y1.length c)∧Kd.R (Kd.int .i64) 3 w' V.heap.size (fun k=>V.heap.size≤k∧k<w'.heap.size) (.slice A y1.length c) y1∧Below V.heap.size V w'):=⟨fun V hV=>(laws_toIntS.calls k A1 c1 x1 y1 V (cb_ hr1 hV) hc1 hy1).mono fun e w' ⟨v,he,hs,hb⟩=>by
  obtain ⟨A,c,rfl⟩:=Kd.R_slice hs
  exact ⟨A,c,he,Kd.R_mono (Kd.R_bound hs) (fun k hk=>⟨hk.2.1,hk.2.2.1⟩),hb⟩⟩
 have QP:Aside0 (∀ V A0 c0 A1 c1 B0 P0 B1 P1,Kd.S kTN 28 V B0 P0 (.slice A0 y0.length c0) y0→Kd.R (Kd.int .i64) 3 V B1 P1 (.slice A1 y1.length c1) y1→Calls Try.prog 18 #[.slice A0 y0.length c0,.slice A1 y1.length c1,.string x2] V fun e w'=>∃ A c,e=.returned (.tuple #[.slice A b1.length c,.int .i64 b2])∧(Kd.C k28 w' A b1.length b1∧b1.length≤c)∧Below V.heap.size V w'):=⟨fun V A0 c0 A1 c1 B0 P0 B1 P1 h0 h1=>(spec_SetWords.calls k A0 c0 y0 A1 c1 y1 x2 b1 b2 V ((S_readsT h0).2.2) ((S_readsT h0).2.1) ((Kd.R_reads' h1).2.2) ((Kd.R_reads' h1).2.1) hb).mono fun e w' ⟨A,c,he,hs,hl,hb⟩=>⟨A,c,he,⟨hs,hl⟩,hb⟩⟩
 have QI:Aside0 (∀ V A0 c0 A1 c1 B0 P0 B1 P1,Kd.S kTN 28 V B0 P0 (.slice A0 y0.length c0) y0→Kd.R (Kd.int .i64) 3 V B1 P1 (.slice A1 y1.length c1) y1→Calls Try.prog 19 #[.slice A0 y0.length c0,.slice A1 y1.length c1,.string x2] V fun e w'=>∃ A c,e=.returned (.tuple #[.slice A g.length c,.int .i64 b2])∧Kd.S kTN 28 w' V.heap.size (fun k=>V.heap.size≤k∧k<w'.heap.size) (.slice A g.length c) g∧Below V.heap.size V w'):=⟨fun V A0 c0 A1 c1 B0 P0 B1 P1 h0 h1=>(impl_SetWords.calls A0 c0 y0 A1 c1 y1 x2 g b2 V ((S_readsT h0).2.2) ((S_readsT h0).2.1) ((Kd.R_reads' h1).2.2) ((Kd.R_reads' h1).2.1) hi).mono fun e w' ⟨A,c,he,hs,hb⟩=>⟨A,c,he,Kd.S_mono (Kd.S_bound hs) (fun k hk=>⟨hk.2.1,hk.2.2.1⟩),hb⟩⟩
 have QE:Aside0 (∀ V A c A' c' B P,Kd.S kTN 28 V B P (.slice A g.length c) g→(Kd.C k28 V A' b1.length b1∧b1.length≤c')→Calls Try.prog 12 #[.slice A g.length c,.slice A' b1.length c'] V fun e w'=>e=.returned (.bool true)∧Below V.heap.size V w'):=⟨fun V A c A' c' B P h1 h2=>(laws_eqNodeS.calls k A c g A' c' b1 true V ((S_readsT h1).2.2) ((S_readsT h1).2.1) h2.1 h2.2 heq).mono fun e w' ⟨he,hd⟩=>⟨he,hd⟩⟩
 have QC0:Aside0 (∀ V A c A' c' B P B' P',Kd.S kTN 28 V B P (.slice A y0.length c) y0→Kd.S kTN 28 V B' P' (.slice A' y0.length c') y0→Calls Try.prog 12 #[.slice A y0.length c,.slice A' y0.length c'] V fun e w'=>e=.returned (.bool true)∧Below V.heap.size V w'):=⟨fun V A c A' c' B P B' P' h1 h2=>(laws_eqNodeS.calls k A c y0 A' c' y0 true V ((S_readsT h1).2.2) ((S_readsT h1).2.1) ((S_readsT h2).2.2) ((S_readsT h2).2.1) hec0).mono fun e w' ⟨he,hd⟩=>⟨he,hd⟩⟩
 have QC1:Aside0 (∀ V A c A' c' B P B' P',Kd.R (Kd.int .i64) 3 V B P (.slice A y1.length c) y1→Kd.R (Kd.int .i64) 3 V B' P' (.slice A' y1.length c') y1→Calls Try.prog 13 #[.slice A y1.length c,.slice A' y1.length c'] V fun e w'=>e=.returned (.bool true)∧Below V.heap.size V w'):=⟨fun V A c A' c' B P B' P' h1 h2=>(laws_eqIntS.calls k A c y1 A' c' y1 true V ((Kd.R_reads' h1).2.2) ((Kd.R_reads' h1).2.1) ((Kd.R_reads' h2).2.2) ((Kd.R_reads' h2).2.1) hec1).mono fun e w' ⟨he,hd⟩=>⟨he,hd.below⟩⟩
 have QH:Aside0 (∀ V A c B P,Kd.S kTN 28 V B P (.slice A g.length c) g'→Calls Try.prog 20 #[.slice A g.length c,.int .i64 1] V fun e w'=>e=.returned (.int .i64 mm)∧Below V.heap.size V w'):=⟨fun V A c B P h1=>by
  have hl:=(S_readsT h1).1
  rw [hl]
  exact (laws_heldNodeS.calls k A c g' 1 mm V (S_readsT h1).2.2 (hl ▸ (S_readsT h1).2.1) hheld).mono fun e w' ⟨he,hd⟩=>⟨he,hd⟩⟩
 have QM0:=A_ hmk0
 have QM1:=A_ hmk1
 have QB:=A_ hg
 have zm:decide (m1<0)=false:=df_ (by omega)
 have zn:decide (mm<0)=false:=df_ (by omega)
 clear hg hheld hmm0 hpos heq hb hi hmk0 hec0 hy0 hmk1 hec1 hy1 hq0 c0n hr0 hc0 hr1 hc1
 generalize x0.length=nx0 at *
 generalize hny0:y0.length=ny0 at *
 generalize x1.length=nx1 at *
 generalize hny1:y1.length=ny1 at *
 generalize hnb:b1.length=nb at *
 generalize hng:g.length=ng at *
 have HT0:=A_ True.intro
 go_enter Try.func4,Try.ntmps4
 go_wp2_with (first|(go_at_call 6;(have HT_:=HT0.out);clear HT0 HT_;(with_reducible refine (QS0.out _ HB0.out).mono ?_);rintro e w1 ⟨rfl,hb⟩;(have HBs0:=A_ (bp_ HB0.out hb));clear hb QS0 HB0;(have HT1:=A_ True.intro))|(go_at_call 8;(have HT_:=HT1.out);clear HT1 HT_;(with_reducible refine (QT0.out _ HBs0.out).mono ?_);rintro e w2 ⟨Y0A,Y0c,rfl,hs,hb⟩;(have HY0_w2:=A_ hs);(have HB_w2:=A_ (bp_ HBs0.out hb));clear hs hb HBs0;(have HT2:=A_ True.intro))|(go_at_call 9;(have HT_:=HT2.out);clear HT2 HT_;(with_reducible refine (QT1.out _ HB_w2.out).mono ?_);rintro e w3 ⟨Y1A,Y1c,rfl,hs,hb⟩;(have HY1_w3:=A_ hs);(have HB_w3:=A_ (bp_ HB_w2.out hb));(have HY0_w3:=A_ (Kd.S_below HY0_w2.out hb));clear HY0_w2;clear hs hb HB_w2;(have HT3:=A_ True.intro))|(go_at_call 18;(have HT_:=HT3.out);clear HT3 HT_;(with_reducible refine (QP.out _ _ _ _ _ _ _ _ _ HY0_w3.out HY1_w3.out).mono ?_);rintro e w4 ⟨VA,Vc,rfl,hs,hb⟩;(have HV:=A_ hs);(have HB3:=A_ (bp_ HB_w3.out hb));(have HD_w4:=A_ (Below.refl w4.heap.size w4));clear hs hb HB_w3 HY0_w3 HY1_w3;(have HT4:=A_ True.intro))|(go_at_call 8;(have HT_:=HT4.out);clear HT4 HT_;(with_reducible refine (QT0.out _ (HB3.out.trans (HD_w4.out.mono HB3.out.size))).mono ?_);rintro e w5 ⟨X0A,X0c,rfl,hs,hb⟩;(have HX0_w5:=A_ (Kd.S_lower hs HD_w4.out.size));(have HD_w5:=A_ (bp_ HD_w4.out hb));clear HD_w4;(have SZ_w5:=A_ hb.size);clear hs hb;(have HT5:=A_ True.intro))|(go_at_call 9;(have HT_:=HT5.out);clear HT5 HT_;(with_reducible refine (QT1.out _ (HB3.out.trans (HD_w5.out.mono HB3.out.size))).mono ?_);rintro e w6 ⟨X1A,X1c,rfl,hs,hb⟩;(have HX1_w6:=A_ (Kd.R_lower hs HD_w5.out.size));(have HX0_w6:=A_ (Kd.S_below HX0_w5.out hb));clear HX0_w5;(have HD_w6:=A_ (bp_ HD_w5.out hb));clear HD_w5;(have SZ_w6:=A_ hb.size);clear hs hb;(have HT6:=A_ True.intro))|(go_at_call 19;(have HT_:=HT6.out);clear HT6 HT_;(with_reducible refine (QI.out _ _ _ _ _ _ _ _ _ HX0_w6.out HX1_w6.out).mono ?_);rintro e w7 ⟨GA,Gc,rfl,hs,hb⟩;(have HG_w7:=A_ (Kd.S_lower hs HD_w6.out.size));(have HX0_w7:=A_ (Kd.S_below HX0_w6.out hb));clear HX0_w6;(have HX1_w7:=A_ (Kd.R_below HX1_w6.out hb));clear HX1_w6;(have HD_w7:=A_ (bp_ HD_w6.out hb));clear HD_w6;(have SZ_w7:=A_ hb.size);clear hs hb;(have HT7:=A_ True.intro))|(go_at_call 12;(have HT_:=HT7.out);clear HT7 HT_;(with_reducible refine (QE.out _ _ _ _ _ _ _ HG_w7.out (show Kd.C k28 _ _ _ _∧_ from ⟨cb_ HV.out.1 HD_w7.out,HV.out.2⟩)).mono ?_);rintro e w8 ⟨rfl,hb⟩;(have HX0_w8:=A_ (Kd.S_below HX0_w7.out hb));clear HX0_w7;(have HX1_w8:=A_ (Kd.R_below HX1_w7.out hb));clear HX1_w7;(have HG_w8:=A_ (Kd.S_below HG_w7.out hb));clear HG_w7;(have HD_w8:=A_ (bp_ HD_w7.out hb));clear HD_w7;(have SZ_w8:=A_ hb.size);clear hb;(have HT8:=A_ True.intro))|(go_at_call 8;(have HT_:=HT8.out);clear HT8 HT_;(with_reducible refine (QT0.out _ (HB3.out.trans (HD_w8.out.mono HB3.out.size))).mono ?_);rintro e w9 ⟨TA,Tc,rfl,hs,hb⟩;(have HTmp:=A_ hs);(have HX0_w9:=A_ (Kd.S_below HX0_w8.out hb));clear HX0_w8;(have HX1_w9:=A_ (Kd.R_below HX1_w8.out hb));clear HX1_w8;(have HG_w9:=A_ (Kd.S_below HG_w8.out hb));clear HG_w8;(have HD_w9:=A_ (bp_ HD_w8.out hb));clear HD_w8;(have SZ_w9:=A_ hb.size);clear hs hb;(have HT9:=A_ True.intro))|(go_at_call 12;(have HT_:=HT9.out);clear HT9 HT_;(with_reducible refine (QC0.out _ _ _ _ _ _ _ _ _ HX0_w9.out HTmp.out).mono ?_);rintro e w10 ⟨rfl,hb⟩;(have HX0_w10:=A_ (Kd.S_below HX0_w9.out hb));clear HX0_w9;(have HX1_w10:=A_ (Kd.R_below HX1_w9.out hb));clear HX1_w9;(have HG_w10:=A_ (Kd.S_below HG_w9.out hb));clear HG_w9;(have HD_w10:=A_ (bp_ HD_w9.out hb));clear HD_w9;(have SZ_w10:=A_ hb.size);clear hb HTmp;(have HT10:=A_ True.intro))|(go_at_call 9;(have HT_:=HT10.out);clear HT10 HT_;(with_reducible refine (QT1.out _ (HB3.out.trans (HD_w10.out.mono HB3.out.size))).mono ?_);rintro e w11 ⟨TA,Tc,rfl,hs,hb⟩;(have HTmp:=A_ hs);(have HX0_w11:=A_ (Kd.S_below HX0_w10.out hb));clear HX0_w10;(have HX1_w11:=A_ (Kd.R_below HX1_w10.out hb));clear HX1_w10;(have HG_w11:=A_ (Kd.S_below HG_w10.out hb));clear HG_w10;(have HD_w11:=A_ (bp_ HD_w10.out hb));clear HD_w10;(have SZ_w11:=A_ hb.size);clear hs hb;(have HT11:=A_ True.intro))|(go_at_call 13;(have HT_:=HT11.out);clear HT11 HT_;(with_reducible refine (QC1.out _ _ _ _ _ _ _ _ _ HX1_w11.out HTmp.out).mono ?_);rintro e w12 ⟨rfl,hb⟩;(have HX0_w12:=A_ (Kd.S_below HX0_w11.out hb));clear HX0_w11;(have HX1_w12:=A_ (Kd.R_below HX1_w11.out hb));clear HX1_w11;(have HG_w12:=A_ (Kd.S_below HG_w11.out hb));clear HG_w11;(have HD_w12:=A_ (bp_ HD_w11.out hb));clear HD_w11;(have SZ_w12:=A_ hb.size);clear hb HTmp;(have HT12:=A_ True.intro))|(go_at_call 14;(have HT_:=HT12.out);clear HT12 HT_;(with_reducible refine (laws_markNodeS.callsT k _ _ _ _ y0 u0 1 m0 w4 _ HD_w12.out HX0_w12.out QM0.out).mono ?_);rintro e w13 ⟨rfl,hs,hb,hk⟩;(have HD_w13:=A_ hb);(have SZ_w13:=A_ hk.1);(have HX1_w13:=A_ (Kd.R_kept HX1_w12.out hk (fun k_ h1_ h2_=>by ((have:=SZ_w5.out);(have:=SZ_w6.out);(have:=SZ_w7.out);(have:=SZ_w8.out);(have:=SZ_w9.out);(have:=SZ_w10.out);(have:=SZ_w11.out);(have:=SZ_w12.out);(have h1a:=h1_.1);(have h1b:=h1_.2);(have h2a:=h2_.1);(have h2b:=h2_.2);omega))));clear HX1_w12;(have HG_w13:=A_ (Kd.S_kept HG_w12.out hk (fun k_ h1_ h2_=>by ((have:=SZ_w5.out);(have:=SZ_w6.out);(have:=SZ_w7.out);(have:=SZ_w8.out);(have:=SZ_w9.out);(have:=SZ_w10.out);(have:=SZ_w11.out);(have:=SZ_w12.out);(have h1a:=h1_.1);(have h1b:=h1_.2);(have h2a:=h2_.1);(have h2b:=h2_.2);omega))));clear HG_w12;clear hs hb hk HX0_w12 HD_w12;(have HT13:=A_ True.intro))|(go_at_call 15;(have HT_:=HT13.out);clear HT13 HT_;(with_reducible refine (laws_markIntS.calls k _ _ y1 m0 m1 u1 w4 _ HD_w13.out HX1_w13.out QM1.out).mono ?_);rintro e w14 ⟨rfl,hs,hb,hk⟩;(have HD_w14:=A_ hb);(have SZ_w14:=A_ hk.1);(have HG_w14:=A_ (Kd.S_kept HG_w13.out hk (fun k_ h1_ h2_=>by ((have:=SZ_w5.out);(have:=SZ_w6.out);(have:=SZ_w7.out);(have:=SZ_w8.out);(have:=SZ_w9.out);(have:=SZ_w10.out);(have:=SZ_w11.out);(have:=SZ_w12.out);(have:=SZ_w13.out);(have h1a:=h1_.1);(have h1b:=h1_.2);(have h2a:=h2_.1);(have h2b:=h2_.2);omega))));clear HG_w13;clear hs hb hk HX1_w13 HD_w13;(have HT14:=A_ True.intro))|(go_at_call 12;(have HT_:=HT14.out);clear HT14 HT_;(with_reducible refine (QE.out _ _ _ _ _ _ _ HG_w14.out (show Kd.C k28 _ _ _ _∧_ from ⟨cb_ HV.out.1 HD_w14.out,HV.out.2⟩)).mono ?_);rintro e w15 ⟨rfl,hb⟩;(have HG_w15:=A_ (Kd.S_below HG_w14.out hb));clear HG_w14;(have HD_w15:=A_ (bp_ HD_w14.out hb));clear HD_w14;(have SZ_w15:=A_ hb.size);clear hb;(have HT15:=A_ True.intro))|(go_at_call 14;(have HT_:=HT15.out);clear HT15 HT_;(with_reducible refine (laws_markNodeS.callsT k _ _ _ _ g g' 1 mm w4 _ HD_w15.out HG_w15.out QB.out).mono ?_);rintro e w16 ⟨rfl,hs,hb,hk⟩;(have HG_w16:=A_ hs);(have HD_w16:=A_ hb);(have SZ_w16:=A_ hk.1);clear hs hb hk HG_w15 HD_w15;(have HT16:=A_ True.intro))|(go_at_call 20;(have HT_:=HT16.out);clear HT16 HT_;(with_reducible refine (QH.out _ _ _ _ _ HG_w16.out).mono ?_);rintro e w17 ⟨rfl,hb⟩;(have HG_w17:=A_ (Kd.S_below HG_w16.out hb));clear HG_w16;(have HD_w17:=A_ (bp_ HD_w16.out hb));clear HD_w16;(have SZ_w17:=A_ hb.size);clear hb;(have HT17:=A_ True.intro))|(go_at_call 8;(have HT_:=HT17.out);clear HT17 HT_;(with_reducible refine (QT0.out _ (HB3.out.trans (HD_w17.out.mono HB3.out.size))).mono ?_);rintro e w18 ⟨Z0A,Z0c,rfl,hs,hb⟩;(have HZ0_w18:=A_ hs);(have HG_w18:=A_ (Kd.S_below HG_w17.out hb));clear HG_w17;(have HD_w18:=A_ (bp_ HD_w17.out hb));clear HD_w17;(have SZ_w18:=A_ hb.size);clear hs hb;(have HT18:=A_ True.intro))|(go_at_call 9;(have HT_:=HT18.out);clear HT18 HT_;(with_reducible refine (QT1.out _ (HB3.out.trans (HD_w18.out.mono HB3.out.size))).mono ?_);rintro e w19 ⟨Z1A,Z1c,rfl,hs,hb⟩;(have HZ1_w19:=A_ hs);(have HZ0_w19:=A_ (Kd.S_below HZ0_w18.out hb));clear HZ0_w18;(have HG_w19:=A_ (Kd.S_below HG_w18.out hb));clear HG_w18;(have HD_w19:=A_ (bp_ HD_w18.out hb));clear HD_w18;(have SZ_w19:=A_ hb.size);clear hs hb;(have HT19:=A_ True.intro))|(go_at_call 19;(have HT_:=HT19.out);clear HT19 HT_;(with_reducible refine (QI.out _ _ _ _ _ _ _ _ _ HZ0_w19.out HZ1_w19.out).mono ?_);rintro e w20 ⟨HA_,Hc_,rfl,hs,hb⟩;(have HH:=A_ hs);(have HG_w20:=A_ (Kd.S_below HG_w19.out hb));clear HG_w19;(have HD_w20:=A_ (bp_ HD_w19.out hb));clear HD_w19;(have SZ_w20:=A_ hb.size);clear hs hb HZ0_w19 HZ1_w19;(have HT20:=A_ True.intro))|(go_at_call 12;(have HT_:=HT20.out);clear HT20 HT_;(with_reducible refine (QE.out _ _ _ _ _ _ _ HH.out (show Kd.C k28 _ _ _ _∧_ from ⟨cb_ HV.out.1 HD_w20.out,HV.out.2⟩)).mono ?_);rintro e w21 ⟨rfl,hb⟩;(have HG_w21:=A_ (Kd.S_below HG_w20.out hb));clear HG_w20;(have HD_w21:=A_ (bp_ HD_w20.out hb));clear HD_w20;(have SZ_w21:=A_ hb.size);clear hb HH;(have HT21:=A_ True.intro))|(go_at_call 20;(have HT_:=HT21.out);clear HT21 HT_;(with_reducible refine (QH.out _ _ _ _ _ HG_w21.out).mono ?_);rintro e w22 ⟨rfl,hb⟩;(have HG_w22:=A_ (Kd.S_below HG_w21.out hb));clear HG_w21;(have HD_w22:=A_ (bp_ HD_w21.out hb));clear HD_w21;(have SZ_w22:=A_ hb.size);clear hb;(have HT22:=A_ True.intro)))
 go_ret
 exact ⟨rfl,HB3.out.trans (HD_w22.out.mono HB3.out.size)⟩
end Go.Proofs.Ytbeplhbkoaopgaa.PFnExactSetWords
