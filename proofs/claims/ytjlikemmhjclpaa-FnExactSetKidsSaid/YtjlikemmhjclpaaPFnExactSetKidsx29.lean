/- By a program of this session, out of the kit's print and contracts made by hand: the machine side of a law; Lean checks it. No conditions. -/
import Derived.Test.YtjlikemmhjclpaaPFnExactSetKidsx0
import Derived.Test.YtjlikemmhjclpaaPFnExactSetKidsx2
import Derived.Test.YtjlikemmhjclpaaPFnExactSetKidsx13
import Derived.Test.YtjlikemmhjclpaaPFnExactSetKidsx14
import Derived.Test.YtjlikemmhjclpaaPFnExactSetKidsx15
import Derived.Test.YtjlikemmhjclpaaPFnExactSetKidsx23
import Derived.Test.YtjlikemmhjclpaaPFnExactSetKidsx25
import Derived.Test.YtjlikemmhjclpaaPFnExactSetKidsx26
import Derived.Test.YtjlikemmhjclpaaPFnExactSetKidsx28
namespace Go.Proofs.Ytjlikemmhjclpaa.PFnExactSetKids
open Go.RowKit Go.Proofs.YtjlikemmhjclpaaW.PrintWords Go.Proofs.YtjlikemmhjclpaaW.PrintLast Go.Proofs.YtjlikemmhjclpaaW.PrintMore
attribute [local go_sem] max2_int min2_int max_two min_two max_three min_three max_four min_four
set_option linter.unusedVariables false
set_option linter.unusedSimpArgs false
/-! ### laws_FnExactSetKids: function 3, by hand -/
def laws_FnExactSetKids.f (k:Nat) (x0:List S40) (x1:List Int) (x2:List S40):Option Bool :=
 if 1048576<x1.length then some true else (laws_szNodeS.f k x0 1048576).bind fun q0=>if q0<0 then some true else (laws_szNodeS.f k x2 q0).bind fun q2=>if q2<0 then some true else (laws_toNodeS.f k x0).bind fun y0=>(laws_toIntS.f k x1).bind fun y1=>(laws_toNodeS.f k x2).bind fun y2=>(spec_SetKids.f k y0 y1 y2).bind fun b=>(impl_SetKids.f y0 y1 y2).bind fun g =>
  if ((g.2 == b.2) && (laws_eqNodeS.f k g.1 b.1 == some true) && (laws_eqNodeS.f k y0 y0 == some true) && (laws_eqIntS.f k y1 y1 == some true) && (laws_eqNodeS.f k y2 y2 == some true))=true then
   (laws_markNodeS.f k y0 1).bind fun m0=>(laws_markIntS.f k y1 m0.1).bind fun m1=>(laws_markNodeS.f k y2 m1.1).bind fun m2=>if 0≤m2.1 then (laws_markNodeS.f k g.1 1).bind fun n=>if (decide (0≤n.1) && (laws_heldNodeS.f k n.2 1 == some n.1))=true then some true else none else none
  else none
set_option maxHeartbeats 32000000 in
set_option maxRecDepth 1000000 in
theorem laws_FnExactSetKids.calls (k:Nat) (A0:Option Addr) (c0:Nat) (x0:List S40) (A1:Option Addr) (c1:Nat) (x1:List Int) (A2:Option Addr) (c2:Nat) (x2:List S40) (r:Bool) (w:World) (hr0:Kd.C k40 w A0 x0.length x0) (hc0:x0.length≤c0) (hr1:Kd.C (Kd.int .i64) w A1 x1.length x1) (hc1:x1.length≤c1) (hr2:Kd.C k40 w A2 x2.length x2) (hc2:x2.length≤c2) (h:laws_FnExactSetKids.f k x0 x1 x2=some r) (hr:Aside0 (r=true)) :
 Calls Try.prog 3 #[.slice A0 x0.length c0,.slice A1 x1.length c1,.slice A2 x2.length c2] w fun e w'=>e=.returned (.bool r)∧Below w.heap.size w w':=by
 obtain rfl:=hr.out
 clear hr
 unfold laws_FnExactSetKids.f at h
 have HB0:=A_ (Below.refl w.heap.size w)
 by_cases cl1:1048576<x1.length
 ·have zl1:decide ((1048576:Int)<(x1.length:Int))=true:=dt_ (by omega)
  clear h
  go_enter Try.func3,Try.ntmps3
  go_wp2
  go_ret
  exact ⟨rfl,HB0.out⟩
 rw [if_neg cl1] at h
 have zl1:decide ((1048576:Int)<(x1.length:Int))=false:=df_ (by omega)
 obtain ⟨q0,hq0,h⟩:=ob_ h
 have QS0:Aside0 (∀ V,Below w.heap.size w V→Calls Try.prog 5 #[.slice A0 x0.length c0,.int .i64 1048576] V fun e w'=>e=.returned (.int .i64 q0)∧Below V.heap.size V w'):=⟨fun V hV=>laws_szNodeS.calls k A0 c0 x0 1048576 q0 V (cb_ hr0 hV) hc0 hq0⟩
 by_cases c0n:q0<0
 ·have z0n:decide (q0<0)=true:=dt_ c0n
  clear h hq0 hr0 hc0 hr1 hc1 hr2 hc2
  generalize x0.length=nx0 at *
  generalize x1.length=nx1 at *
  generalize x2.length=nx2 at *
  go_enter Try.func3,Try.ntmps3
  go_wp2_with (first|(go_at_call 5;(with_reducible refine (QS0.out _ HB0.out).mono ?_);rintro e ws0 ⟨rfl,hb⟩;(have HBs0:=A_ (bp_ HB0.out hb));clear hb QS0))
  go_ret
  exact ⟨rfl,HBs0.out⟩
 rw [if_neg c0n] at h
 have z0n:decide (q0<0)=false:=df_ c0n
 obtain ⟨q2,hq2,h⟩:=ob_ h
 have QS2:Aside0 (∀ V,Below w.heap.size w V→Calls Try.prog 5 #[.slice A2 x2.length c2,.int .i64 q0] V fun e w'=>e=.returned (.int .i64 q2)∧Below V.heap.size V w'):=⟨fun V hV=>laws_szNodeS.calls k A2 c2 x2 q0 q2 V (cb_ hr2 hV) hc2 hq2⟩
 by_cases c2n:q2<0
 ·have z2n:decide (q2<0)=true:=dt_ c2n
  clear h hq0 hq2 hr0 hc0 hr1 hc1 hr2 hc2
  generalize x0.length=nx0 at *
  generalize x1.length=nx1 at *
  generalize x2.length=nx2 at *
  go_enter Try.func3,Try.ntmps3
  go_wp2_with (first|(go_at_call 5;(with_reducible refine (QS0.out _ HB0.out).mono ?_);rintro e ws0 ⟨rfl,hb⟩;(have HBs0:=A_ (bp_ HB0.out hb));clear hb QS0)|(go_at_call 5;(with_reducible refine (QS2.out _ HBs0.out).mono ?_);rintro e ws1 ⟨rfl,hb⟩;(have HBs1:=A_ (bp_ HBs0.out hb));clear hb QS2))
  go_ret
  exact ⟨rfl,HBs1.out⟩
 rw [if_neg c2n] at h
 have z2n:decide (q2<0)=false:=df_ c2n
 obtain ⟨y0,hy0,h⟩:=ob_ h
 obtain ⟨y1,hy1,h⟩:=ob_ h
 obtain ⟨y2,hy2,h⟩:=ob_ h
 obtain ⟨⟨b1,b2⟩,hb,h⟩:=ob_ h
 obtain ⟨⟨g,g2⟩,hi,h⟩:=ob_ h
 split at h
 case isFalse=>cases h
 rename_i hc
 simp only [Bool.and_eq_true,beq_iff_eq] at hc
 obtain ⟨⟨⟨⟨he2,heq⟩,hec0⟩,hec1⟩,hec2⟩:=hc
 obtain ⟨⟨m0,u0⟩,hmk0,h⟩:=ob_ h
 obtain ⟨⟨m1,u1⟩,hmk1,h⟩:=ob_ h
 obtain ⟨⟨m2,u2⟩,hmk2,h⟩:=ob_ h
 split at h
 case isFalse=>cases h
 rename_i hpos
 obtain ⟨⟨mm,g'⟩,hg,h⟩:=ob_ h
 split at h
 case isFalse=>cases h
 rename_i hh
 clear h
 simp only [Bool.and_eq_true,decide_eq_true_eq,beq_iff_eq] at hh
 obtain ⟨hmm0,hheld⟩:=hh
 have he3:b2=g2:=he2.symm
 subst he3
 clear he2
 have QT0:Aside0 (∀ V,Below w.heap.size w V→Calls Try.prog 7 #[.slice A0 x0.length c0] V fun e w'=>∃ A c,e=.returned (.slice A y0.length c)∧Kd.S kTN 44 w' V.heap.size (fun k=>V.heap.size≤k∧k<w'.heap.size) (.slice A y0.length c) y0∧Below V.heap.size V w'):=⟨fun V hV=>(laws_toNodeS.callsT k A0 c0 x0 y0 V (cb_ hr0 hV) hc0 hy0).mono fun e w' ⟨A,c,he,hs,hb⟩=>⟨A,c,he,Kd.S_mono (Kd.S_bound hs) (fun k hk=>⟨hk.2.1,hk.2.2.1⟩),hb⟩⟩
 have QT1:Aside0 (∀ V,Below w.heap.size w V→Calls Try.prog 8 #[.slice A1 x1.length c1] V fun e w'=>∃ A c,e=.returned (.slice A y1.length c)∧Kd.R (Kd.int .i64) 3 w' V.heap.size (fun k=>V.heap.size≤k∧k<w'.heap.size) (.slice A y1.length c) y1∧Below V.heap.size V w'):=⟨fun V hV=>(laws_toIntS.calls k A1 c1 x1 y1 V (cb_ hr1 hV) hc1 hy1).mono fun e w' ⟨v,he,hs,hb⟩=>by
  obtain ⟨A,c,rfl⟩:=Kd.R_slice hs
  exact ⟨A,c,he,Kd.R_mono (Kd.R_bound hs) (fun k hk=>⟨hk.2.1,hk.2.2.1⟩),hb⟩⟩
 have QT2:Aside0 (∀ V,Below w.heap.size w V→Calls Try.prog 7 #[.slice A2 x2.length c2] V fun e w'=>∃ A c,e=.returned (.slice A y2.length c)∧Kd.S kTN 44 w' V.heap.size (fun k=>V.heap.size≤k∧k<w'.heap.size) (.slice A y2.length c) y2∧Below V.heap.size V w'):=⟨fun V hV=>(laws_toNodeS.callsT k A2 c2 x2 y2 V (cb_ hr2 hV) hc2 hy2).mono fun e w' ⟨A,c,he,hs,hb⟩=>⟨A,c,he,Kd.S_mono (Kd.S_bound hs) (fun k hk=>⟨hk.2.1,hk.2.2.1⟩),hb⟩⟩
 have QP:Aside0 (∀ V A0 c0 A1 c1 A2 c2 B0 P0 B1 P1 B2 P2,Kd.S kTN 44 V B0 P0 (.slice A0 y0.length c0) y0→Kd.R (Kd.int .i64) 3 V B1 P1 (.slice A1 y1.length c1) y1→Kd.S kTN 44 V B2 P2 (.slice A2 y2.length c2) y2→Calls Try.prog 6 #[.slice A0 y0.length c0,.slice A1 y1.length c1,.slice A2 y2.length c2] V fun e w'=>∃ A c,e=.returned (.tuple #[.slice A b1.length c,.int .i64 b2])∧(Kd.C k44 w' A b1.length b1∧b1.length≤c)∧Below V.heap.size V w'):=⟨fun V A0 c0 A1 c1 A2 c2 B0 P0 B1 P1 B2 P2 h0 h1 h2=>(spec_SetKids.calls k A0 c0 y0 A1 c1 y1 A2 c2 y2 b1 b2 V ((S_readsT h0).2.2) ((S_readsT h0).2.1) ((Kd.R_reads' h1).2.2) ((Kd.R_reads' h1).2.1) ((S_readsT h2).2.2) ((S_readsT h2).2.1) hb).mono fun e w' ⟨A,c,he,hs,hl,hb⟩=>⟨A,c,he,⟨hs,hl⟩,hb⟩⟩
 have QI:Aside0 (∀ V A0 c0 A1 c1 A2 c2 B0 P0 B1 P1 B2 P2,Kd.S kTN 44 V B0 P0 (.slice A0 y0.length c0) y0→Kd.R (Kd.int .i64) 3 V B1 P1 (.slice A1 y1.length c1) y1→Kd.S kTN 44 V B2 P2 (.slice A2 y2.length c2) y2→Calls Try.prog 9 #[.slice A0 y0.length c0,.slice A1 y1.length c1,.slice A2 y2.length c2] V fun e w'=>∃ A c,e=.returned (.tuple #[.slice A g.length c,.int .i64 b2])∧Kd.S kTN 44 w' V.heap.size (fun k=>V.heap.size≤k∧k<w'.heap.size) (.slice A g.length c) g∧Below V.heap.size V w'):=⟨fun V A0 c0 A1 c1 A2 c2 B0 P0 B1 P1 B2 P2 h0 h1 h2=>(impl_SetKids.calls A0 c0 y0 A1 c1 y1 A2 c2 y2 g b2 V ((S_readsT h0).2.2) ((S_readsT h0).2.1) ((Kd.R_reads' h1).2.2) ((Kd.R_reads' h1).2.1) ((S_readsT h2).2.2) ((S_readsT h2).2.1) hi).mono fun e w' ⟨A,c,he,hs,hb⟩=>⟨A,c,he,Kd.S_mono (Kd.S_bound hs) (fun k hk=>⟨hk.2.1,hk.2.2.1⟩),hb⟩⟩
 have QE:Aside0 (∀ V A c A' c' B P,Kd.S kTN 44 V B P (.slice A g.length c) g→(Kd.C k44 V A' b1.length b1∧b1.length≤c')→Calls Try.prog 10 #[.slice A g.length c,.slice A' b1.length c'] V fun e w'=>e=.returned (.bool true)∧Below V.heap.size V w'):=⟨fun V A c A' c' B P h1 h2=>(laws_eqNodeS.calls k A c g A' c' b1 true V ((S_readsT h1).2.2) ((S_readsT h1).2.1) h2.1 h2.2 heq).mono fun e w' ⟨he,hd⟩=>⟨he,hd⟩⟩
 have QC0:Aside0 (∀ V A c A' c' B P B' P',Kd.S kTN 44 V B P (.slice A y0.length c) y0→Kd.S kTN 44 V B' P' (.slice A' y0.length c') y0→Calls Try.prog 10 #[.slice A y0.length c,.slice A' y0.length c'] V fun e w'=>e=.returned (.bool true)∧Below V.heap.size V w'):=⟨fun V A c A' c' B P B' P' h1 h2=>(laws_eqNodeS.calls k A c y0 A' c' y0 true V ((S_readsT h1).2.2) ((S_readsT h1).2.1) ((S_readsT h2).2.2) ((S_readsT h2).2.1) hec0).mono fun e w' ⟨he,hd⟩=>⟨he,hd⟩⟩
 have QC1:Aside0 (∀ V A c A' c' B P B' P',Kd.R (Kd.int .i64) 3 V B P (.slice A y1.length c) y1→Kd.R (Kd.int .i64) 3 V B' P' (.slice A' y1.length c') y1→Calls Try.prog 11 #[.slice A y1.length c,.slice A' y1.length c'] V fun e w'=>e=.returned (.bool true)∧Below V.heap.size V w'):=⟨fun V A c A' c' B P B' P' h1 h2=>(laws_eqIntS.calls k A c y1 A' c' y1 true V ((Kd.R_reads' h1).2.2) ((Kd.R_reads' h1).2.1) ((Kd.R_reads' h2).2.2) ((Kd.R_reads' h2).2.1) hec1).mono fun e w' ⟨he,hd⟩=>⟨he,hd.below⟩⟩
 have QC2:Aside0 (∀ V A c A' c' B P B' P',Kd.S kTN 44 V B P (.slice A y2.length c) y2→Kd.S kTN 44 V B' P' (.slice A' y2.length c') y2→Calls Try.prog 10 #[.slice A y2.length c,.slice A' y2.length c'] V fun e w'=>e=.returned (.bool true)∧Below V.heap.size V w'):=⟨fun V A c A' c' B P B' P' h1 h2=>(laws_eqNodeS.calls k A c y2 A' c' y2 true V ((S_readsT h1).2.2) ((S_readsT h1).2.1) ((S_readsT h2).2.2) ((S_readsT h2).2.1) hec2).mono fun e w' ⟨he,hd⟩=>⟨he,hd⟩⟩
 have QH:Aside0 (∀ V A c B P,Kd.S kTN 44 V B P (.slice A g.length c) g'→Calls Try.prog 14 #[.slice A g.length c,.int .i64 1] V fun e w'=>e=.returned (.int .i64 mm)∧Below V.heap.size V w'):=⟨fun V A c B P h1=>by
  have hl:=(S_readsT h1).1
  rw [hl]
  exact (laws_heldNodeS.calls k A c g' 1 mm V (S_readsT h1).2.2 (hl ▸ (S_readsT h1).2.1) hheld).mono fun e w' ⟨he,hd⟩=>⟨he,hd⟩⟩
 have QM0:=A_ hmk0
 have QM1:=A_ hmk1
 have QM2:=A_ hmk2
 have QB:=A_ hg
 have zm:decide (m2<0)=false:=df_ (by omega)
 have zn:decide (mm<0)=false:=df_ (by omega)
 clear hg hheld hmm0 hpos heq hb hi hmk0 hec0 hy0 hmk1 hec1 hy1 hmk2 hec2 hy2 hq0 c0n hq2 c2n hr0 hc0 hr1 hc1 hr2 hc2
 generalize x0.length=nx0 at *
 generalize hny0:y0.length=ny0 at *
 generalize x1.length=nx1 at *
 generalize hny1:y1.length=ny1 at *
 generalize x2.length=nx2 at *
 generalize hny2:y2.length=ny2 at *
 generalize hnb:b1.length=nb at *
 generalize hng:g.length=ng at *
 have HT0:=A_ True.intro
 go_enter Try.func3,Try.ntmps3
 go_wp2_with (first|(go_at_call 5;(have HT_:=HT0.out);clear HT0 HT_;(with_reducible refine (QS0.out _ HB0.out).mono ?_);rintro e w1 ⟨rfl,hb⟩;(have HBs0:=A_ (bp_ HB0.out hb));clear hb QS0 HB0;(have HT1:=A_ True.intro))|(go_at_call 5;(have HT_:=HT1.out);clear HT1 HT_;(with_reducible refine (QS2.out _ HBs0.out).mono ?_);rintro e w2 ⟨rfl,hb⟩;(have HBs1:=A_ (bp_ HBs0.out hb));clear hb QS2 HBs0;(have HT2:=A_ True.intro))|(go_at_call 7;(have HT_:=HT2.out);clear HT2 HT_;(with_reducible refine (QT0.out _ HBs1.out).mono ?_);rintro e w3 ⟨Y0A,Y0c,rfl,hs,hb⟩;(have HY0_w3:=A_ hs);(have HB_w3:=A_ (bp_ HBs1.out hb));clear hs hb HBs1;(have HT3:=A_ True.intro))|(go_at_call 8;(have HT_:=HT3.out);clear HT3 HT_;(with_reducible refine (QT1.out _ HB_w3.out).mono ?_);rintro e w4 ⟨Y1A,Y1c,rfl,hs,hb⟩;(have HY1_w4:=A_ hs);(have HB_w4:=A_ (bp_ HB_w3.out hb));(have HY0_w4:=A_ (Kd.S_below HY0_w3.out hb));clear HY0_w3;clear hs hb HB_w3;(have HT4:=A_ True.intro))|(go_at_call 7;(have HT_:=HT4.out);clear HT4 HT_;(with_reducible refine (QT2.out _ HB_w4.out).mono ?_);rintro e w5 ⟨Y2A,Y2c,rfl,hs,hb⟩;(have HY2_w5:=A_ hs);(have HB_w5:=A_ (bp_ HB_w4.out hb));(have HY0_w5:=A_ (Kd.S_below HY0_w4.out hb));clear HY0_w4;(have HY1_w5:=A_ (Kd.R_below HY1_w4.out hb));clear HY1_w4;clear hs hb HB_w4;(have HT5:=A_ True.intro))|(go_at_call 6;(have HT_:=HT5.out);clear HT5 HT_;(with_reducible refine (QP.out _ _ _ _ _ _ _ _ _ _ _ _ _ HY0_w5.out HY1_w5.out HY2_w5.out).mono ?_);rintro e w6 ⟨VA,Vc,rfl,hs,hb⟩;(have HV:=A_ hs);(have HB3:=A_ (bp_ HB_w5.out hb));(have HD_w6:=A_ (Below.refl w6.heap.size w6));clear hs hb HB_w5 HY0_w5 HY1_w5 HY2_w5;(have HT6:=A_ True.intro))|(go_at_call 7;(have HT_:=HT6.out);clear HT6 HT_;(with_reducible refine (QT0.out _ (HB3.out.trans (HD_w6.out.mono HB3.out.size))).mono ?_);rintro e w7 ⟨X0A,X0c,rfl,hs,hb⟩;(have HX0_w7:=A_ (Kd.S_lower hs HD_w6.out.size));(have HD_w7:=A_ (bp_ HD_w6.out hb));clear HD_w6;(have SZ_w7:=A_ hb.size);clear hs hb;(have HT7:=A_ True.intro))|(go_at_call 8;(have HT_:=HT7.out);clear HT7 HT_;(with_reducible refine (QT1.out _ (HB3.out.trans (HD_w7.out.mono HB3.out.size))).mono ?_);rintro e w8 ⟨X1A,X1c,rfl,hs,hb⟩;(have HX1_w8:=A_ (Kd.R_lower hs HD_w7.out.size));(have HX0_w8:=A_ (Kd.S_below HX0_w7.out hb));clear HX0_w7;(have HD_w8:=A_ (bp_ HD_w7.out hb));clear HD_w7;(have SZ_w8:=A_ hb.size);clear hs hb;(have HT8:=A_ True.intro))|(go_at_call 7;(have HT_:=HT8.out);clear HT8 HT_;(with_reducible refine (QT2.out _ (HB3.out.trans (HD_w8.out.mono HB3.out.size))).mono ?_);rintro e w9 ⟨X2A,X2c,rfl,hs,hb⟩;(have HX2_w9:=A_ (Kd.S_lower hs HD_w8.out.size));(have HX0_w9:=A_ (Kd.S_below HX0_w8.out hb));clear HX0_w8;(have HX1_w9:=A_ (Kd.R_below HX1_w8.out hb));clear HX1_w8;(have HD_w9:=A_ (bp_ HD_w8.out hb));clear HD_w8;(have SZ_w9:=A_ hb.size);clear hs hb;(have HT9:=A_ True.intro))|(go_at_call 9;(have HT_:=HT9.out);clear HT9 HT_;(with_reducible refine (QI.out _ _ _ _ _ _ _ _ _ _ _ _ _ HX0_w9.out HX1_w9.out HX2_w9.out).mono ?_);rintro e w10 ⟨GA,Gc,rfl,hs,hb⟩;(have HG_w10:=A_ (Kd.S_lower hs HD_w9.out.size));(have HX0_w10:=A_ (Kd.S_below HX0_w9.out hb));clear HX0_w9;(have HX1_w10:=A_ (Kd.R_below HX1_w9.out hb));clear HX1_w9;(have HX2_w10:=A_ (Kd.S_below HX2_w9.out hb));clear HX2_w9;(have HD_w10:=A_ (bp_ HD_w9.out hb));clear HD_w9;(have SZ_w10:=A_ hb.size);clear hs hb;(have HT10:=A_ True.intro))|(go_at_call 10;(have HT_:=HT10.out);clear HT10 HT_;(with_reducible refine (QE.out _ _ _ _ _ _ _ HG_w10.out (show Kd.C k44 _ _ _ _∧_ from ⟨cb_ HV.out.1 HD_w10.out,HV.out.2⟩)).mono ?_);rintro e w11 ⟨rfl,hb⟩;(have HX0_w11:=A_ (Kd.S_below HX0_w10.out hb));clear HX0_w10;(have HX1_w11:=A_ (Kd.R_below HX1_w10.out hb));clear HX1_w10;(have HX2_w11:=A_ (Kd.S_below HX2_w10.out hb));clear HX2_w10;(have HG_w11:=A_ (Kd.S_below HG_w10.out hb));clear HG_w10;(have HD_w11:=A_ (bp_ HD_w10.out hb));clear HD_w10;(have SZ_w11:=A_ hb.size);clear hb;(have HT11:=A_ True.intro))|(go_at_call 7;(have HT_:=HT11.out);clear HT11 HT_;(with_reducible refine (QT0.out _ (HB3.out.trans (HD_w11.out.mono HB3.out.size))).mono ?_);rintro e w12 ⟨TA,Tc,rfl,hs,hb⟩;(have HTmp:=A_ hs);(have HX0_w12:=A_ (Kd.S_below HX0_w11.out hb));clear HX0_w11;(have HX1_w12:=A_ (Kd.R_below HX1_w11.out hb));clear HX1_w11;(have HX2_w12:=A_ (Kd.S_below HX2_w11.out hb));clear HX2_w11;(have HG_w12:=A_ (Kd.S_below HG_w11.out hb));clear HG_w11;(have HD_w12:=A_ (bp_ HD_w11.out hb));clear HD_w11;(have SZ_w12:=A_ hb.size);clear hs hb;(have HT12:=A_ True.intro))|(go_at_call 10;(have HT_:=HT12.out);clear HT12 HT_;(with_reducible refine (QC0.out _ _ _ _ _ _ _ _ _ HX0_w12.out HTmp.out).mono ?_);rintro e w13 ⟨rfl,hb⟩;(have HX0_w13:=A_ (Kd.S_below HX0_w12.out hb));clear HX0_w12;(have HX1_w13:=A_ (Kd.R_below HX1_w12.out hb));clear HX1_w12;(have HX2_w13:=A_ (Kd.S_below HX2_w12.out hb));clear HX2_w12;(have HG_w13:=A_ (Kd.S_below HG_w12.out hb));clear HG_w12;(have HD_w13:=A_ (bp_ HD_w12.out hb));clear HD_w12;(have SZ_w13:=A_ hb.size);clear hb HTmp;(have HT13:=A_ True.intro))|(go_at_call 8;(have HT_:=HT13.out);clear HT13 HT_;(with_reducible refine (QT1.out _ (HB3.out.trans (HD_w13.out.mono HB3.out.size))).mono ?_);rintro e w14 ⟨TA,Tc,rfl,hs,hb⟩;(have HTmp:=A_ hs);(have HX0_w14:=A_ (Kd.S_below HX0_w13.out hb));clear HX0_w13;(have HX1_w14:=A_ (Kd.R_below HX1_w13.out hb));clear HX1_w13;(have HX2_w14:=A_ (Kd.S_below HX2_w13.out hb));clear HX2_w13;(have HG_w14:=A_ (Kd.S_below HG_w13.out hb));clear HG_w13;(have HD_w14:=A_ (bp_ HD_w13.out hb));clear HD_w13;(have SZ_w14:=A_ hb.size);clear hs hb;(have HT14:=A_ True.intro))|(go_at_call 11;(have HT_:=HT14.out);clear HT14 HT_;(with_reducible refine (QC1.out _ _ _ _ _ _ _ _ _ HX1_w14.out HTmp.out).mono ?_);rintro e w15 ⟨rfl,hb⟩;(have HX0_w15:=A_ (Kd.S_below HX0_w14.out hb));clear HX0_w14;(have HX1_w15:=A_ (Kd.R_below HX1_w14.out hb));clear HX1_w14;(have HX2_w15:=A_ (Kd.S_below HX2_w14.out hb));clear HX2_w14;(have HG_w15:=A_ (Kd.S_below HG_w14.out hb));clear HG_w14;(have HD_w15:=A_ (bp_ HD_w14.out hb));clear HD_w14;(have SZ_w15:=A_ hb.size);clear hb HTmp;(have HT15:=A_ True.intro))|(go_at_call 7;(have HT_:=HT15.out);clear HT15 HT_;(with_reducible refine (QT2.out _ (HB3.out.trans (HD_w15.out.mono HB3.out.size))).mono ?_);rintro e w16 ⟨TA,Tc,rfl,hs,hb⟩;(have HTmp:=A_ hs);(have HX0_w16:=A_ (Kd.S_below HX0_w15.out hb));clear HX0_w15;(have HX1_w16:=A_ (Kd.R_below HX1_w15.out hb));clear HX1_w15;(have HX2_w16:=A_ (Kd.S_below HX2_w15.out hb));clear HX2_w15;(have HG_w16:=A_ (Kd.S_below HG_w15.out hb));clear HG_w15;(have HD_w16:=A_ (bp_ HD_w15.out hb));clear HD_w15;(have SZ_w16:=A_ hb.size);clear hs hb;(have HT16:=A_ True.intro))|(go_at_call 10;(have HT_:=HT16.out);clear HT16 HT_;(with_reducible refine (QC2.out _ _ _ _ _ _ _ _ _ HX2_w16.out HTmp.out).mono ?_);rintro e w17 ⟨rfl,hb⟩;(have HX0_w17:=A_ (Kd.S_below HX0_w16.out hb));clear HX0_w16;(have HX1_w17:=A_ (Kd.R_below HX1_w16.out hb));clear HX1_w16;(have HX2_w17:=A_ (Kd.S_below HX2_w16.out hb));clear HX2_w16;(have HG_w17:=A_ (Kd.S_below HG_w16.out hb));clear HG_w16;(have HD_w17:=A_ (bp_ HD_w16.out hb));clear HD_w16;(have SZ_w17:=A_ hb.size);clear hb HTmp;(have HT17:=A_ True.intro))|(go_at_call 12;(have HT_:=HT17.out);clear HT17 HT_;(with_reducible refine (laws_markNodeS.callsT k _ _ _ _ y0 u0 1 m0 w6 _ HD_w17.out HX0_w17.out QM0.out).mono ?_);rintro e w18 ⟨rfl,hs,hb,hk⟩;(have HD_w18:=A_ hb);(have SZ_w18:=A_ hk.1);(have HX1_w18:=A_ (Kd.R_kept HX1_w17.out hk (fun k_ h1_ h2_=>by ((have:=SZ_w7.out);(have:=SZ_w8.out);(have:=SZ_w9.out);(have:=SZ_w10.out);(have:=SZ_w11.out);(have:=SZ_w12.out);(have:=SZ_w13.out);(have:=SZ_w14.out);(have:=SZ_w15.out);(have:=SZ_w16.out);(have:=SZ_w17.out);(have h1a:=h1_.1);(have h1b:=h1_.2);(have h2a:=h2_.1);(have h2b:=h2_.2);omega))));clear HX1_w17;(have HX2_w18:=A_ (Kd.S_kept HX2_w17.out hk (fun k_ h1_ h2_=>by ((have:=SZ_w7.out);(have:=SZ_w8.out);(have:=SZ_w9.out);(have:=SZ_w10.out);(have:=SZ_w11.out);(have:=SZ_w12.out);(have:=SZ_w13.out);(have:=SZ_w14.out);(have:=SZ_w15.out);(have:=SZ_w16.out);(have:=SZ_w17.out);(have h1a:=h1_.1);(have h1b:=h1_.2);(have h2a:=h2_.1);(have h2b:=h2_.2);omega))));clear HX2_w17;(have HG_w18:=A_ (Kd.S_kept HG_w17.out hk (fun k_ h1_ h2_=>by ((have:=SZ_w7.out);(have:=SZ_w8.out);(have:=SZ_w9.out);(have:=SZ_w10.out);(have:=SZ_w11.out);(have:=SZ_w12.out);(have:=SZ_w13.out);(have:=SZ_w14.out);(have:=SZ_w15.out);(have:=SZ_w16.out);(have:=SZ_w17.out);(have h1a:=h1_.1);(have h1b:=h1_.2);(have h2a:=h2_.1);(have h2b:=h2_.2);omega))));clear HG_w17;clear hs hb hk HX0_w17 HD_w17;(have HT18:=A_ True.intro))|(go_at_call 13;(have HT_:=HT18.out);clear HT18 HT_;(with_reducible refine (laws_markIntS.calls k _ _ y1 m0 m1 u1 w6 _ HD_w18.out HX1_w18.out QM1.out).mono ?_);rintro e w19 ⟨rfl,hs,hb,hk⟩;(have HD_w19:=A_ hb);(have SZ_w19:=A_ hk.1);(have HX2_w19:=A_ (Kd.S_kept HX2_w18.out hk (fun k_ h1_ h2_=>by ((have:=SZ_w7.out);(have:=SZ_w8.out);(have:=SZ_w9.out);(have:=SZ_w10.out);(have:=SZ_w11.out);(have:=SZ_w12.out);(have:=SZ_w13.out);(have:=SZ_w14.out);(have:=SZ_w15.out);(have:=SZ_w16.out);(have:=SZ_w17.out);(have:=SZ_w18.out);(have h1a:=h1_.1);(have h1b:=h1_.2);(have h2a:=h2_.1);(have h2b:=h2_.2);omega))));clear HX2_w18;(have HG_w19:=A_ (Kd.S_kept HG_w18.out hk (fun k_ h1_ h2_=>by ((have:=SZ_w7.out);(have:=SZ_w8.out);(have:=SZ_w9.out);(have:=SZ_w10.out);(have:=SZ_w11.out);(have:=SZ_w12.out);(have:=SZ_w13.out);(have:=SZ_w14.out);(have:=SZ_w15.out);(have:=SZ_w16.out);(have:=SZ_w17.out);(have:=SZ_w18.out);(have h1a:=h1_.1);(have h1b:=h1_.2);(have h2a:=h2_.1);(have h2b:=h2_.2);omega))));clear HG_w18;clear hs hb hk HX1_w18 HD_w18;(have HT19:=A_ True.intro))|(go_at_call 12;(have HT_:=HT19.out);clear HT19 HT_;(with_reducible refine (laws_markNodeS.callsT k _ _ _ _ y2 u2 m1 m2 w6 _ HD_w19.out HX2_w19.out QM2.out).mono ?_);rintro e w20 ⟨rfl,hs,hb,hk⟩;(have HD_w20:=A_ hb);(have SZ_w20:=A_ hk.1);(have HG_w20:=A_ (Kd.S_kept HG_w19.out hk (fun k_ h1_ h2_=>by ((have:=SZ_w7.out);(have:=SZ_w8.out);(have:=SZ_w9.out);(have:=SZ_w10.out);(have:=SZ_w11.out);(have:=SZ_w12.out);(have:=SZ_w13.out);(have:=SZ_w14.out);(have:=SZ_w15.out);(have:=SZ_w16.out);(have:=SZ_w17.out);(have:=SZ_w18.out);(have:=SZ_w19.out);(have h1a:=h1_.1);(have h1b:=h1_.2);(have h2a:=h2_.1);(have h2b:=h2_.2);omega))));clear HG_w19;clear hs hb hk HX2_w19 HD_w19;(have HT20:=A_ True.intro))|(go_at_call 10;(have HT_:=HT20.out);clear HT20 HT_;(with_reducible refine (QE.out _ _ _ _ _ _ _ HG_w20.out (show Kd.C k44 _ _ _ _∧_ from ⟨cb_ HV.out.1 HD_w20.out,HV.out.2⟩)).mono ?_);rintro e w21 ⟨rfl,hb⟩;(have HG_w21:=A_ (Kd.S_below HG_w20.out hb));clear HG_w20;(have HD_w21:=A_ (bp_ HD_w20.out hb));clear HD_w20;(have SZ_w21:=A_ hb.size);clear hb;(have HT21:=A_ True.intro))|(go_at_call 12;(have HT_:=HT21.out);clear HT21 HT_;(with_reducible refine (laws_markNodeS.callsT k _ _ _ _ g g' 1 mm w6 _ HD_w21.out HG_w21.out QB.out).mono ?_);rintro e w22 ⟨rfl,hs,hb,hk⟩;(have HG_w22:=A_ hs);(have HD_w22:=A_ hb);(have SZ_w22:=A_ hk.1);clear hs hb hk HG_w21 HD_w21;(have HT22:=A_ True.intro))|(go_at_call 14;(have HT_:=HT22.out);clear HT22 HT_;(with_reducible refine (QH.out _ _ _ _ _ HG_w22.out).mono ?_);rintro e w23 ⟨rfl,hb⟩;(have HG_w23:=A_ (Kd.S_below HG_w22.out hb));clear HG_w22;(have HD_w23:=A_ (bp_ HD_w22.out hb));clear HD_w22;(have SZ_w23:=A_ hb.size);clear hb;(have HT23:=A_ True.intro))|(go_at_call 7;(have HT_:=HT23.out);clear HT23 HT_;(with_reducible refine (QT0.out _ (HB3.out.trans (HD_w23.out.mono HB3.out.size))).mono ?_);rintro e w24 ⟨Z0A,Z0c,rfl,hs,hb⟩;(have HZ0_w24:=A_ hs);(have HG_w24:=A_ (Kd.S_below HG_w23.out hb));clear HG_w23;(have HD_w24:=A_ (bp_ HD_w23.out hb));clear HD_w23;(have SZ_w24:=A_ hb.size);clear hs hb;(have HT24:=A_ True.intro))|(go_at_call 8;(have HT_:=HT24.out);clear HT24 HT_;(with_reducible refine (QT1.out _ (HB3.out.trans (HD_w24.out.mono HB3.out.size))).mono ?_);rintro e w25 ⟨Z1A,Z1c,rfl,hs,hb⟩;(have HZ1_w25:=A_ hs);(have HZ0_w25:=A_ (Kd.S_below HZ0_w24.out hb));clear HZ0_w24;(have HG_w25:=A_ (Kd.S_below HG_w24.out hb));clear HG_w24;(have HD_w25:=A_ (bp_ HD_w24.out hb));clear HD_w24;(have SZ_w25:=A_ hb.size);clear hs hb;(have HT25:=A_ True.intro))|(go_at_call 7;(have HT_:=HT25.out);clear HT25 HT_;(with_reducible refine (QT2.out _ (HB3.out.trans (HD_w25.out.mono HB3.out.size))).mono ?_);rintro e w26 ⟨Z2A,Z2c,rfl,hs,hb⟩;(have HZ2_w26:=A_ hs);(have HZ0_w26:=A_ (Kd.S_below HZ0_w25.out hb));clear HZ0_w25;(have HZ1_w26:=A_ (Kd.R_below HZ1_w25.out hb));clear HZ1_w25;(have HG_w26:=A_ (Kd.S_below HG_w25.out hb));clear HG_w25;(have HD_w26:=A_ (bp_ HD_w25.out hb));clear HD_w25;(have SZ_w26:=A_ hb.size);clear hs hb;(have HT26:=A_ True.intro))|(go_at_call 9;(have HT_:=HT26.out);clear HT26 HT_;(with_reducible refine (QI.out _ _ _ _ _ _ _ _ _ _ _ _ _ HZ0_w26.out HZ1_w26.out HZ2_w26.out).mono ?_);rintro e w27 ⟨HA_,Hc_,rfl,hs,hb⟩;(have HH:=A_ hs);(have HG_w27:=A_ (Kd.S_below HG_w26.out hb));clear HG_w26;(have HD_w27:=A_ (bp_ HD_w26.out hb));clear HD_w26;(have SZ_w27:=A_ hb.size);clear hs hb HZ0_w26 HZ1_w26 HZ2_w26;(have HT27:=A_ True.intro))|(go_at_call 10;(have HT_:=HT27.out);clear HT27 HT_;(with_reducible refine (QE.out _ _ _ _ _ _ _ HH.out (show Kd.C k44 _ _ _ _∧_ from ⟨cb_ HV.out.1 HD_w27.out,HV.out.2⟩)).mono ?_);rintro e w28 ⟨rfl,hb⟩;(have HG_w28:=A_ (Kd.S_below HG_w27.out hb));clear HG_w27;(have HD_w28:=A_ (bp_ HD_w27.out hb));clear HD_w27;(have SZ_w28:=A_ hb.size);clear hb HH;(have HT28:=A_ True.intro))|(go_at_call 14;(have HT_:=HT28.out);clear HT28 HT_;(with_reducible refine (QH.out _ _ _ _ _ HG_w28.out).mono ?_);rintro e w29 ⟨rfl,hb⟩;(have HG_w29:=A_ (Kd.S_below HG_w28.out hb));clear HG_w28;(have HD_w29:=A_ (bp_ HD_w28.out hb));clear HD_w28;(have SZ_w29:=A_ hb.size);clear hb;(have HT29:=A_ True.intro)))
 go_ret
 exact ⟨rfl,HB3.out.trans (HD_w29.out.mono HB3.out.size)⟩
end Go.Proofs.Ytjlikemmhjclpaa.PFnExactSetKids
