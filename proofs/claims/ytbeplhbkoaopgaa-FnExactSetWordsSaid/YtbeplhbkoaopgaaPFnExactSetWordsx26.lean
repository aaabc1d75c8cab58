/- By a program of this session, out of the kit's print and contracts made by hand: the machine side of a law; Lean checks it. No conditions. -/
import Derived.Test.YtbeplhbkoaopgaaPFnExactSetWordsx0
import Derived.Test.YtbeplhbkoaopgaaPFnExactSetWordsx22
import Derived.Test.YtbeplhbkoaopgaaPFnExactSetWordsx25
namespace Go.Proofs.Ytbeplhbkoaopgaa.PFnExactSetWords
open Go.RowKit Go.Proofs.YtbeplhbkoaopgaaW.PrintWords Go.Proofs.YtbeplhbkoaopgaaW.PrintLast Go.Proofs.YtbeplhbkoaopgaaW.PrintMore
attribute [local go_sem] max2_int min2_int max_two min_two max_three min_three max_four min_four
set_option linter.unusedVariables false
set_option linter.unusedSimpArgs false
/-! ### impl_SetWords: function 19, by hand -/
def impl_SetWords.f (x0:List S28) (path:List Int) (t:ByteArray):Option (List S28 × Int) :=
 if 65536<t.size then some ([],2) else (impl_faultEdit.f x0 path).bind fun c=>if c=0 then (if x0.all (fewB 10)=true∧x0.length≤1048576 then (match atPath x0 path with
  | none=>some ([],16)
  | some x=>if x.f0=1 then some ([],9) else (impl_TreeOK.f (putAt x0 path ⟨x.f0,x.f1,x.f2,t,x.f4,x.f5⟩)).bind fun b2=>if b2=true then some ((putAt x0 path ⟨x.f0,x.f1,x.f2,t,x.f4,x.f5⟩),0) else some ([],7)) else none) else some ([],c)
set_option maxHeartbeats 16000000 in
set_option maxRecDepth 1000000 in
theorem impl_SetWords.calls (A0:Option Addr) (c0:Nat) (x0:List S28) (A1:Option Addr) (c1:Nat) (path:List Int) (t:ByteArray) (r1:List S28) (r2:Int) (w:World) (hr0:Kd.C k28 w A0 x0.length x0) (hc0:x0.length≤c0) (hr1:Kd.C (Kd.int .i64) w A1 path.length path) (hc1:path.length≤c1) (h:impl_SetWords.f x0 path t=some (r1,r2)) :
 Calls Try.prog 19 #[.slice A0 x0.length c0,.slice A1 path.length c1,.string t] w fun e w'=>∃ A c,e=.returned (.tuple #[.slice A r1.length c,.int .i64 r2])∧Kd.S kTN 28 w' w.heap.size (fun _=>True) (.slice A r1.length c) r1∧Below w.heap.size w w':=by
 unfold impl_SetWords.f at h
 have QI:=A_ (impl_isLong.one t w)
 have HBA:=A_ (ba_ (Below.refl w.heap.size w) (.cells #[.string t] 9 (0,0)))
 by_cases h4:65536<t.size
 ·rw [if_pos h4] at h
  rw [show decide (65536<(t.size:Int))=true from dt_ (by omega)] at QI
  obtain ⟨rfl,rfl⟩:=Prod.mk.inj (oi_ h)
  clear h h4 hr0 hc0 hr1 hc1
  generalize x0.length=n0 at *
  generalize path.length=n1 at *
  go_enter Try.func19,Try.ntmps19
  go_wp2_with (first|(go_at_call 38;(with_reducible refine QI.out.mono ?_);rintro e w0 ⟨rfl,hb⟩;(have HB0:=A_ (bp_ HBA.out hb));clear hb))
  go_ret2
  exact ⟨none,0,rfl,Kd.S_nil _ _ _ _ _,HB0.out⟩
 rw [if_neg h4] at h
 rw [show decide (65536<(t.size:Int))=false from df_ (by omega)] at QI
 obtain ⟨cd,hcd,h⟩:=ob_ h
 have QF:=A_ (fun V (hV:Below w.heap.size w V)=>impl_faultEdit.calls A0 c0 x0 A1 c1 path cd V (cb_ hr0 hV) hc0 (cb_ hr1 hV) hc1 hcd)
 by_cases hz:cd=0
 case neg =>
  rw [if_neg hz] at h
  obtain ⟨rfl,rfl⟩:=Prod.mk.inj (oi_ h)
  have hz1:(cd == 0)=false:=by simpa using hz
  have hz2:(cd != 0)=true:=by simpa using hz
  clear h hcd hr0 hc0 hr1 hc1 h4
  generalize x0.length=n0 at *
  generalize path.length=n1 at *
  go_enter Try.func19,Try.ntmps19
  go_wp2_with (first|(go_at_call 38;(with_reducible refine QI.out.mono ?_);rintro e w0 ⟨rfl,hb⟩;(have HB0:=A_ (bp_ HBA.out hb));clear hb)|(go_at_call 39;(with_reducible refine (QF.out _ HB0.out).mono ?_);rintro e w1 ⟨rfl,hb⟩;(have HB1:=A_ (bp_ HB0.out hb));clear hb))
  go_ret2
  exact ⟨none,0,rfl,Kd.S_nil _ _ _ _ _,HB1.out⟩
 subst hz
 rw [if_pos rfl] at h
 obtain ⟨⟨hd,hl⟩,h⟩:=Option.ite_none_right_eq_some.mp h
 have QC:Aside0 (∀ V,Below w.heap.size w V→Calls Try.prog 40 #[.slice A0 x0.length c0] V fun e w'=>∃ A c,e=.returned (.slice A x0.length c)∧Kd.S kTN 28 w' V.heap.size (fun k=>V.heap.size≤k) (.slice A x0.length c) x0∧Below V.heap.size V w'):=⟨fun V hV=>((cloned_both 10).2 A0 c0 x0 V hd hl (cb_ hr0 hV)).mono fun e w' ⟨v,he,hs,hb⟩=>by
  obtain ⟨A,c,rfl⟩:=Kd.S_slice hs
  exact ⟨A,c,he,hs,hb⟩⟩
 have QE:Aside0 (∀ V A c base ok,Below w.heap.size w V→Kd.S kTN 28 V base ok (.slice A x0.length c) x0→Calls Try.prog 29 #[.slice A x0.length c,.slice A1 path.length c1] V fun e w'=>∃ r,e=.returned r∧findRes V base ok (.slice A x0.length c) x0 path r (atPath x0 path)∧Below V.heap.size V w'):=⟨fun V A c base ok hV hs=>find_calls A c x0 A1 c1 path base ok V hs (cb_ hr1 hV)⟩
 clear hcd hr0 hc0 hr1 hc1 h4 hd hl
 generalize hR:atPath x0 path=R at *
 cases R with
 | none =>
  obtain ⟨rfl,rfl⟩:=Prod.mk.inj (oi_ h)
  clear h
  go_enter Try.func19,Try.ntmps19
  go_wp2_with (first|(go_at_call 38;(with_reducible refine QI.out.mono ?_);rintro e w0 ⟨rfl,hb⟩;(have HB0:=A_ (bp_ HBA.out hb));clear hb)|(go_at_call 39;(with_reducible refine (QF.out _ HB0.out).mono ?_);rintro e w1 ⟨rfl,hb⟩;(have HB1:=A_ (bp_ HB0.out hb));clear hb)|(go_at_call 40;(with_reducible refine (QC.out _ HB1.out).mono ?_);rintro e w3 ⟨A3,c3,rfl,hs,hb⟩;(have HS3:=A_ hs);(have HB3:=A_ (bp_ HB1.out hb));(have HZ3:=A_ HB1.out.size);clear hs hb)|(go_at_call 29;(with_reducible refine (QE.out _ _ _ _ _ HB3.out HS3.out).mono ?_);rintro e w4 ⟨r,rfl,rfl,hb⟩;(have HB4:=A_ (bp_ HB3.out hb));clear hb))
  go_ret2
  exact ⟨none,0,rfl,Kd.S_nil _ _ _ _ _,HB4.out⟩
 | some x =>
 by_cases h1:x.f0=1
 case pos =>
  replace h:=(if_pos h1).symm.trans h
  obtain ⟨rfl,rfl⟩:=Prod.mk.inj (oi_ h)
  have h11:(x.f0 == 1)=true:=by simpa using h1
  clear h h1
  go_enter Try.func19,Try.ntmps19
  go_wp2_with (first|(go_at_call 38;(with_reducible refine QI.out.mono ?_);rintro e w0 ⟨rfl,hb⟩;(have HB0:=A_ (bp_ HBA.out hb));clear hb)|(go_at_call 39;(with_reducible refine (QF.out _ HB0.out).mono ?_);rintro e w1 ⟨rfl,hb⟩;(have HB1:=A_ (bp_ HB0.out hb));clear hb)|(go_at_call 40;(with_reducible refine (QC.out _ HB1.out).mono ?_);rintro e w3 ⟨A3,c3,rfl,hs,hb⟩;(have HS3:=A_ hs);(have HB3:=A_ (bp_ HB1.out hb));(have HZ3:=A_ HB1.out.size);clear hs hb)|(go_at_call 29;(with_reducible refine (QE.out _ _ _ _ _ HB3.out HS3.out).mono ?_);rintro e w4 ⟨r,rfl,hel,hb⟩;obtain ⟨p,rfl,hf⟩:=hel;obtain ⟨g,i,B4,d4,B5,d5,rfl,u0,u1,u2,u3,u4,u5,f3,f5,hgl,_,_,_,_,wt,_⟩:=focCells hf hb;(have HS5:=A_ (wt t));(have HGE:=A_ (Nat.le_trans HZ3.out hgl.2));clear hf u1 u2 u4 u5 f5 wt hgl;(have HB4:=A_ (bp_ HB3.out hb));clear hb))
  go_ret2
  exact ⟨none,0,rfl,Kd.S_nil _ _ _ _ _,HB4.out⟩
 case neg =>
  replace h:=(if_neg h1).symm.trans h
  have h11:(x.f0 == 1)=false:=by simpa using h1
  obtain ⟨b2,hb2,h⟩:=ob_ h
  have QD:Aside0 (∀ V A n c base ok,Kd.S kTN 28 V base ok (.slice A n c) (putAt x0 path ⟨x.f0,x.f1,x.f2,t,x.f4,x.f5⟩)→Calls Try.prog 41 #[.slice A n c] V fun e w'=>e=.returned (.tuple #[edRes b2 (.slice A n c),.int .i64 (if b2 then 0 else 7)])∧Below V.heap.size V w'):=⟨fun V A n c base ok hs=>by
   obtain ⟨rfl,hle,hC⟩:=S_readsT hs
   exact edited_calls A c (putAt x0 path ⟨x.f0,x.f1,x.f2,t,x.f4,x.f5⟩) b2 V hC hle hb2⟩
  clear hb2
  cases b2 with
  | false =>
   replace h:=(if_neg Bool.false_ne_true).symm.trans h
   obtain ⟨rfl,rfl⟩:=Prod.mk.inj (oi_ h)
   clear h
   go_enter Try.func19,Try.ntmps19
   go_wp2_with (first|(go_at_call 38;(with_reducible refine QI.out.mono ?_);rintro e w0 ⟨rfl,hb⟩;(have HB0:=A_ (bp_ HBA.out hb));clear hb)|(go_at_call 39;(with_reducible refine (QF.out _ HB0.out).mono ?_);rintro e w1 ⟨rfl,hb⟩;(have HB1:=A_ (bp_ HB0.out hb));clear hb)|(go_at_call 29;(with_reducible refine (QE.out _ _ _ _ _ HB3.out HS3.out).mono ?_);rintro e w4 ⟨r,rfl,hel,hb⟩;obtain ⟨p,rfl,hf⟩:=hel;obtain ⟨g,i,B4,d4,B5,d5,rfl,u0,u1,u2,u3,u4,u5,f3,f5,hgl,_,_,_,_,wt,_⟩:=focCells hf hb;(have HS5:=A_ (wt t));(have HGE:=A_ (Nat.le_trans HZ3.out hgl.2));clear hf u1 u2 u4 u5 f5 wt hgl;(have HB4:=A_ (bp_ HB3.out hb));clear hb)|(go_at_call 41;(with_reducible refine (QD.out _ _ _ _ _ _ HS5.out).mono ?_);rintro e w6 ⟨rfl,hb⟩;(have HB6:=A_ (bp_ (bs_ HB4.out HGE.out) hb));(have HS6:=A_ (Kd.S_below HS5.out hb));clear hb)|(go_at_call 40;(with_reducible refine (QC.out _ HB1.out).mono ?_);rintro e w3 ⟨A3,c3,rfl,hs,hb⟩;(have HS3:=A_ hs);(have HB3:=A_ (bp_ HB1.out hb));(have HZ3:=A_ HB1.out.size);clear hs hb))
   go_ret2
   exact ⟨none,0,rfl,Kd.S_nil _ _ _ _ _,HB6.out⟩
  | true =>
   replace h:=(if_pos rfl).symm.trans h
   obtain ⟨rfl,rfl⟩:=Prod.mk.inj (oi_ h)
   clear h
   go_enter Try.func19,Try.ntmps19
   go_wp2_with (first|(go_at_call 38;(with_reducible refine QI.out.mono ?_);rintro e w0 ⟨rfl,hb⟩;(have HB0:=A_ (bp_ HBA.out hb));clear hb)|(go_at_call 39;(with_reducible refine (QF.out _ HB0.out).mono ?_);rintro e w1 ⟨rfl,hb⟩;(have HB1:=A_ (bp_ HB0.out hb));clear hb)|(go_at_call 29;(with_reducible refine (QE.out _ _ _ _ _ HB3.out HS3.out).mono ?_);rintro e w4 ⟨r,rfl,hel,hb⟩;obtain ⟨p,rfl,hf⟩:=hel;obtain ⟨g,i,B4,d4,B5,d5,rfl,u0,u1,u2,u3,u4,u5,f3,f5,hgl,_,_,_,_,wt,_⟩:=focCells hf hb;(have HS5:=A_ (wt t));(have HGE:=A_ (Nat.le_trans HZ3.out hgl.2));clear hf u1 u2 u4 u5 f5 wt hgl;(have HB4:=A_ (bp_ HB3.out hb));clear hb)|(go_at_call 41;(with_reducible refine (QD.out _ _ _ _ _ _ HS5.out).mono ?_);rintro e w6 ⟨rfl,hb⟩;(have HB6:=A_ (bp_ (bs_ HB4.out HGE.out) hb));(have HS6:=A_ (Kd.S_below HS5.out hb));clear hb)|(go_at_call 40;(with_reducible refine (QC.out _ HB1.out).mono ?_);rintro e w3 ⟨A3,c3,rfl,hs,hb⟩;(have HS3:=A_ hs);(have HB3:=A_ (bp_ HB1.out hb));(have HZ3:=A_ HB1.out.size);clear hs hb))
   go_ret2
   have hlen:=(Kd.S_reads' HS6.out).1
   refine ⟨A3,c3,by rw [←hlen];rfl,?_,HB6.out⟩
   rw [←hlen]
   exact Kd.S_mono (Kd.S_lower HS6.out HZ3.out) (fun _ _=>trivial)
end Go.Proofs.Ytbeplhbkoaopgaa.PFnExactSetWords
