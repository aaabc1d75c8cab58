/- The machine side of a law, printed by a program. No conditions. -/
import Derived.Test.YtfkanlbmgbkniaaGreatDoorPFnExactTokensOfx0
import Derived.Test.YtfkanlbmgbkniaaGreatDoorPFnExactTokensOfx12
import Derived.Test.YtfkanlbmgbkniaaGreatDoorPFnExactTokensOfx15
import Derived.Test.YtfkanlbmgbkniaaGreatDoorPFnExactTokensOfx22
import Derived.Test.YtfkanlbmgbkniaaGreatDoorPFnExactTokensOfx24
import Derived.Test.YtfkanlbmgbkniaaGreatDoorPFnExactTokensOfx25
import Derived.Test.YtfkanlbmgbkniaaGreatDoorPFnExactTokensOfx27
namespace Go.Proofs.YtfkanlbmgbkniaaGreatDoor.PFnExactTokensOf
open Go.RowKit Go.Proofs.YtfkanlbmgbkniaaGreatDoorW.PrintWords Go.Proofs.YtfkanlbmgbkniaaGreatDoorW.PrintLast Go.Proofs.YtfkanlbmgbkniaaGreatDoorW.PrintMore
attribute [local go_sem] max2_int min2_int max_two min_two max_three min_three max_four min_four
set_option linter.unusedVariables false
set_option linter.unusedSimpArgs false
def laws_FnExactTokensOf.f (k:Nat) (a0:ByteArray):Option Bool:=if 1048576<a0.size then some true else (spec_TokensOf.f k a0).bind fun b=>(impl_TokensOf.f k a0).bind fun g=>if ((g.2 == b.2) && (laws_eqTokenS.f k g.1 b.1 == some true))=true then (laws_markTokenS.f k g.1 1).bind fun n=>if (decide (0≤n.1) && (laws_heldTokenS.f k n.2 1 == some n.1))=true then some true else none else none
set_option maxHeartbeats 32000000 in
set_option maxRecDepth 1000000 in
theorem laws_FnExactTokensOf.calls (k:Nat) (a0:ByteArray) (r:Bool) (w:World) (hL:Laid w) (h:laws_FnExactTokensOf.f k a0=some r) (hr:Aside0 (r=true)) :
 Calls Tryz.prog 4 #[.string a0] w fun e w'=>e=.returned (.bool r)∧Below w.heap.size w w':=by
 obtain rfl:=hr.out
 clear hr
 unfold laws_FnExactTokensOf.f at h
 have HB0:=A_ (Below.refl w.heap.size w)
 have HL:=A_ hL
 clear hL
 by_cases c1:1048576<a0.size
 ·have z1:decide ((1048576:Int)<(a0.size:Int))=true:=dt_ (by omega)
  clear h c1
  go_enter Tryz.func4,Tryz.ntmps4
  go_wp2
  go_ret
  exact ⟨rfl,HB0.out⟩
 rw [if_neg c1] at h
 have z1:decide ((1048576:Int)<(a0.size:Int))=false:=df_ (by omega)
 obtain ⟨⟨b1,b2⟩,hb,h⟩:=ob_ h
 obtain ⟨⟨g,g2⟩,hi,h⟩:=ob_ h
 split at h
 case isFalse=>cases h
 rename_i hc
 simp only [Bool.and_eq_true,beq_iff_eq] at hc
 obtain ⟨he2,heq⟩:=hc
 obtain ⟨⟨mm,g'⟩,hg,h⟩:=ob_ h
 split at h
 case isFalse=>cases h
 rename_i hh
 clear h
 simp only [Bool.and_eq_true,decide_eq_true_eq,beq_iff_eq] at hh
 obtain ⟨hmm0,hheld⟩:=hh
 have he3:b2=g2:=he2.symm
 subst he3
 clear he2
 have QS:Aside0 (∀ V,Below w.heap.size w V→Calls Tryz.prog 10 #[.string a0] V fun e w'=>∃ A c,e=.returned (.tuple #[.slice A b1.length c,.int .i64 b2])∧(Kd.C k24 w' A b1.length b1∧b1.length≤c)∧Below V.heap.size V w'):=⟨fun V hV=>(spec_TokensOf.calls k a0 b1 b2 V hb).mono fun e w' ⟨v,he,hs,hd⟩=>by
  obtain ⟨A,c,rfl⟩:=Kd.S_slice hs
  exact ⟨A,c,he,⟨(Kd.S_reads' hs).2.2,(Kd.S_reads' hs).2.1⟩,hd⟩⟩
 have QI:Aside0 (∀ V,Below w.heap.size w V→Calls Tryz.prog 11 #[.string a0] V fun e w'=>∃ A c,e=.returned (.tuple #[.slice A g.length c,.int .i64 b2])∧Kd.S k24 24 w' V.heap.size (fun k=>V.heap.size≤k∧k<w'.heap.size) (.slice A g.length c) g∧Below V.heap.size V w'):=⟨fun V hV=>(impl_TokensOf.calls k a0 g b2 V (HL.out.below hV) hi).mono fun e w' ⟨v,he,hs,hd⟩=>by
  obtain ⟨A,c,rfl⟩:=Kd.S_slice hs
  exact ⟨A,c,he,Kd.S_mono (Kd.S_bound hs) (fun k hk=>⟨hk.2.1,hk.2.2.1⟩),hd⟩⟩
 have QE:Aside0 (∀ V A c A' c' B P,Kd.S k24 24 V B P (.slice A g.length c) g→(Kd.C k24 V A' b1.length b1∧b1.length≤c')→Calls Tryz.prog 12 #[.slice A g.length c,.slice A' b1.length c'] V fun e w'=>e=.returned (.bool true)∧Below V.heap.size V w'):=⟨fun V A c A' c' B P h1 h2=>(laws_eqTokenS.calls k A c g A' c' b1 true V (Kd.S_reads' h1).2.2 (Kd.S_reads' h1).2.1 h2.1 h2.2 heq).mono fun e w' ⟨he,hd⟩=>⟨he,hd⟩⟩
 have QH:Aside0 (∀ V A c B P,Kd.S k24 24 V B P (.slice A g.length c) g'→Calls Tryz.prog 14 #[.slice A g.length c,.int .i64 1] V fun e w'=>e=.returned (.int .i64 mm)∧Below V.heap.size V w'):=⟨fun V A c B P h1=>by
  have hl:=(Kd.S_reads' h1).1
  rw [hl]
  exact (laws_heldTokenS.calls k A c g' 1 mm V (Kd.S_reads' h1).2.2 (hl ▸ (Kd.S_reads' h1).2.1) hheld).mono fun e w' ⟨he,hd⟩=>⟨he,hd⟩⟩
 have QB:=A_ hg
 have zn:decide (mm<0)=false:=df_ (by omega)
 clear hg hheld hmm0 heq hb hi HL c1
 generalize hnb:b1.length=nb at *
 generalize hng:g.length=ng at *
 have HT0:=A_ True.intro
 go_enter Tryz.func4,Tryz.ntmps4
 go_wp2_with (first|(go_at_call 10;(have HT_:=HT0.out);clear HT0 HT_;(with_reducible refine (QS.out _ HB0.out).mono ?_);rintro e w1 ⟨VA,Vc,rfl,hs,hb⟩;(have HV:=A_ hs);(have HB1:=A_ (bp_ HB0.out hb));(have HD1:=A_ (Below.refl w1.heap.size w1));clear hs hb HB0 QS;(have HT1:=A_ True.intro))|(go_at_call 11;(have HT_:=HT1.out);clear HT1 HT_;(with_reducible refine (QI.out _ (HB1.out.trans (HD1.out.mono HB1.out.size))).mono ?_);rintro e w2 ⟨GA,Gc,rfl,hs,hb⟩;(have HG2:=A_ (Kd.S_lower hs HD1.out.size));(have HD2:=A_ (bp_ HD1.out hb));clear HD1;clear hs hb;(have HT2:=A_ True.intro))|(go_at_call 12;(have HT_:=HT2.out);clear HT2 HT_;(with_reducible refine (QE.out _ _ _ _ _ _ _ HG2.out (show Kd.C k24 _ _ _ _∧_ from ⟨cb_ HV.out.1 HD2.out,HV.out.2⟩)).mono ?_);rintro e w3 ⟨rfl,hb⟩;(have HG3:=A_ (Kd.S_below HG2.out hb));clear HG2;(have HD3:=A_ (bp_ HD2.out hb));clear HD2;clear hb;(have HT3:=A_ True.intro))|(go_at_call 13;(have HT_:=HT3.out);clear HT3 HT_;(with_reducible refine (markTok_row k _ _ _ _ g g' 1 mm w1 _ HD3.out HG3.out QB.out).mono ?_);rintro e w4 ⟨rfl,hs,hb,hk⟩;(have HG4:=A_ hs);(have HD4:=A_ hb);clear hs hb hk HG3 HD3;(have HT4:=A_ True.intro))|(go_at_call 14;(have HT_:=HT4.out);clear HT4 HT_;(with_reducible refine (QH.out _ _ _ _ _ HG4.out).mono ?_);rintro e w5 ⟨rfl,hb⟩;(have HG5:=A_ (Kd.S_below HG4.out hb));clear HG4;(have HD5:=A_ (bp_ HD4.out hb));clear HD4;clear hb;(have HT5:=A_ True.intro))|(go_at_call 11;(have HT_:=HT5.out);clear HT5 HT_;(with_reducible refine (QI.out _ (HB1.out.trans (HD5.out.mono HB1.out.size))).mono ?_);rintro e w6 ⟨HA_,Hc_,rfl,hs,hb⟩;(have HH:=A_ hs);(have HG6:=A_ (Kd.S_below HG5.out hb));clear HG5;(have HD6:=A_ (bp_ HD5.out hb));clear HD5;clear hs hb;(have HT6:=A_ True.intro))|(go_at_call 12;(have HT_:=HT6.out);clear HT6 HT_;(with_reducible refine (QE.out _ _ _ _ _ _ _ HH.out (show Kd.C k24 _ _ _ _∧_ from ⟨cb_ HV.out.1 HD6.out,HV.out.2⟩)).mono ?_);rintro e w7 ⟨rfl,hb⟩;(have HG7:=A_ (Kd.S_below HG6.out hb));clear HG6;(have HD7:=A_ (bp_ HD6.out hb));clear HD6;clear hb HH;(have HT7:=A_ True.intro))|(go_at_call 14;(have HT_:=HT7.out);clear HT7 HT_;(with_reducible refine (QH.out _ _ _ _ _ HG7.out).mono ?_);rintro e w8 ⟨rfl,hb⟩;(have HG8:=A_ (Kd.S_below HG7.out hb));clear HG7;(have HD8:=A_ (bp_ HD7.out hb));clear HD7;clear hb;(have HT8:=A_ True.intro)))
 go_ret
 exact ⟨rfl,HB1.out.trans (HD8.out.mono HB1.out.size)⟩
end Go.Proofs.YtfkanlbmgbkniaaGreatDoor.PFnExactTokensOf
