/- By a program of this session, out of the kit's print and contracts made by hand: the machine side of a law; Lean checks it. No conditions. -/
import Derived.Test.YtlhhcbhmnmndiaaPFnExactMergeTextx0
import Derived.Test.YtlhhcbhmnmndiaaPFnExactMergeTextx13
import Derived.Test.YtlhhcbhmnmndiaaPFnExactMergeTextx14
import Derived.Test.YtlhhcbhmnmndiaaPFnExactMergeTextx21
namespace Go.Proofs.Ytlhhcbhmnmndiaa.PFnExactMergeText
open Go.RowKit Go.Proofs.YtlhhcbhmnmndiaaW.PrintWords Go.Proofs.YtlhhcbhmnmndiaaW.PrintLast Go.Proofs.YtlhhcbhmnmndiaaW.PrintMore
attribute [local go_sem] max2_int min2_int max_two min_two max_three min_three max_four min_four
set_option linter.unusedVariables false
set_option linter.unusedSimpArgs false
/-! ### impl_TreeOK: function 41, by hand -/
def treeB (l:List S49):Bool:=(kidsI (nodeI 10) l 0).1
def impl_TreeOK.f (l0:List S49):Option Bool:=if ∀ y∈l0,fitB 10 y=true then some (treeB l0) else none
theorem impl_TreeOK.fit {l0:List S49} (h:∀ y∈l0,fitB 10 y=true):impl_TreeOK.f l0=some (treeB l0):=by
 unfold impl_TreeOK.f
 rw [if_pos h]
set_option maxHeartbeats 1000000 in
theorem impl_TreeOK.calls (A0:Option Addr) (c0:Nat) (l0:List S49) (r:Bool) (w:World) (hr0:Kd.C k49 w A0 l0.length l0) (hc0:l0.length≤c0) (h:impl_TreeOK.f l0=some r) :
 Calls Try.prog 41 #[.slice A0 l0.length c0] w fun e w'=>e=.returned (.bool r)∧Below w.heap.size w w':=by
 by_cases hfit:∀ y∈l0,fitB 10 y=true
 case neg =>
  unfold impl_TreeOK.f at h
  rw [if_neg hfit] at h
  cases h
 case pos =>
  rw [impl_TreeOK.fit hfit] at h
  obtain rfl:=oi_ h
  unfold treeB
  obtain ⟨R,hR⟩:∃ R,kidsI (nodeI 10) l0 0=R:=⟨_,rfl⟩
  rw [hR]
  have HR:=A_ hR
  have hL:l0.length≤9223372036854775807:=hr0.2.1
  have HFIT:=A_ hfit
  have HR0:=A_ hr0
  clear hR h hfit hr0 hc0
  have HG0:Aside0 ((w.alloc (.cells #[.int .i64 0] 3)).heap[w.heap.size]? = some (.cells #[.int .i64 0] 3 (0,0))):=⟨blk_new w _⟩
  have HB0:Aside0 (Below w.heap.size w (w.alloc (.cells #[.int .i64 0] 3))):=⟨ba_ (Below.refl _ _) _⟩
  go_enter Try.func41,Try.ntmps41
  go_wp2
  go_loopg [5,8] l0.length (fun gg _ s8 wr=>∃ (kk:Nat) (cc:Int),kk≤l0.length∧l0.length - kk≤gg∧s8=.int .i64 kk∧0≤cc∧cc≤60∧Aside0 (kidsI (nodeI 10) (l0.drop kk) cc=R)∧Aside0 (wr.heap[w.heap.size]? = some (.cells #[.int .i64 cc] 3 (0,0)))∧Aside0 (Below w.heap.size w wr))
  case atStart=>exact ⟨0,0,Nat.zero_le _,by omega,rfl,by omega,by omega,HR,HG0,HB0⟩
  case round =>
   obtain ⟨kk,cc,hkk,hgg,rfl,z0,z1,KI,HG,BW⟩:=hrel
   by_cases hlt:kk<l0.length
   case pos =>
    have hltz:(kk:Int)<(l0.length:Int):=by omega
    obtain ⟨ad,cs,e,hcl,hK,hc⟩:=Kd.C_get HR0.out z49 (kk:Int) (by omega) (by omega)
    rw [Int.toNat_natCast] at hK hc
    have hdr:l0.drop kk=l0.getD kk z49 :: l0.drop (kk+1):=by rw [List.getD_eq_getElem?_getD,List.getElem?_eq_getElem hlt];exact List.drop_eq_getElem_cons hlt
    have hmem:l0.getD kk z49∈l0:=by rw [List.getD_eq_getElem?_getD,List.getElem?_eq_getElem hlt];exact List.getElem_mem hlt
    have KI2:=KI.out
    rw [hdr,kidsI] at KI2
    have hky:=HFIT.out _ hmem
    clear KI hdr hmem
    generalize l0.getD kk z49=y at *
    obtain ⟨yA4,yc4,yA5,yc5,rfl,m4,q4,m5,q5⟩:=k49_open hK
    subst e
    have r0:wr.cell? (ad.add (kk * 6))=some (.int .i64 y.f0):=pc_ BW.out (hc 0 _ rfl)
    have r1:wr.cell? ⟨(ad.add (kk * 6)).block,(ad.add (kk * 6)).off+1,none⟩=some (.int .i64 y.f1):=pc_ BW.out (by rw [←add_field _ _ 1 (by omega)];exact hc 1 _ rfl)
    have r2:wr.cell? ⟨(ad.add (kk * 6)).block,(ad.add (kk * 6)).off+2,none⟩=some (.string y.f2):=pc_ BW.out (by rw [←add_field _ _ 2 (by omega)];exact hc 2 _ rfl)
    have r3:wr.cell? ⟨(ad.add (kk * 6)).block,(ad.add (kk * 6)).off+3,none⟩=some (.string y.f3):=pc_ BW.out (by rw [←add_field _ _ 3 (by omega)];exact hc 3 _ rfl)
    have r4:wr.cell? ⟨(ad.add (kk * 6)).block,(ad.add (kk * 6)).off+4,none⟩=some (.slice yA4 y.f4.length yc4):=pc_ BW.out (by rw [←add_field _ _ 4 (by omega)];exact hc 4 _ rfl)
    have r5:wr.cell? ⟨(ad.add (kk * 6)).block,(ad.add (kk * 6)).off+5,none⟩=some (.slice yA5 y.f5.length yc5):=pc_ BW.out (by rw [←add_field _ _ 5 (by omega)];exact hc 5 _ rfl)
    have QN:=A_ (impl_Node_isNode.holds 10 y yA4 yc4 yA5 yc5 1 cc w (wr.alloc (.cells #[.int .i64 y.f0,.int .i64 y.f1,.string y.f2,.string y.f3,.slice yA4 y.f4.length yc4,.slice yA5 y.f5.length yc5] 49)) w.heap.size (by omega) (by omega) hky z0 z1 (ba_ BW.out _) (Nat.le_refl _) (ka_ HG.out _) q4 m4 q5 m5)
    have hbd:=nodeI_bd 10 y cc z0 z1
    clear hc hK hcl hky q4 q5 m4 m5
    obtain ⟨b,hb⟩:∃ b,(nodeI 10 y cc).1=b:=⟨_,rfl⟩
    rw [hb] at QN hbd KI2
    generalize (nodeI 10 y cc).2=c2 at *
    have KI3:=A_ KI2
    clear KI2 hb
    have HBD:=A_ hbd
    clear hbd
    cases b with
    | false =>
     have KI4:Aside0 ((false,c2)=R):=⟨by have h:=KI3.out;rwa [if_neg Bool.false_ne_true] at h⟩
     clear KI3 HBD
     go_wp2_with (go_at_call 53;(with_reducible refine QN.out.mono ?_);rintro e v9 ⟨rfl,hg9,hv9⟩;have HG9:=A_ hg9;have HV9:=A_ hv9;clear hg9 hv9)
     go_ret
     obtain rfl:=KI4.out
     exact ⟨rfl,HV9.out⟩
    | true =>
     have KI4:Aside0 (kidsI (nodeI 10) (l0.drop (kk+1)) c2=R):=⟨by have h:=KI3.out;rwa [if_pos rfl] at h⟩
     have B0:=(HBD.out rfl).1
     have B1:=(HBD.out rfl).2
     clear KI3 HBD
     go_wp2_with (go_at_call 53;(with_reducible refine QN.out.mono ?_);rintro e v9 ⟨rfl,hg9,hv9⟩;have HG9:=A_ hg9;have HV9:=A_ hv9;clear hg9 hv9)
     go_roundg (l0.length - (kk+1))
     case measure=>omega
     case rel=>exact ⟨kk+1,c2,by omega,by omega,by go_num,B0,B1,KI4,HG9,HV9⟩
   case neg =>
    have hltz:¬ (kk:Int)<(l0.length:Int):=by omega
    have KI2:=KI.out
    rw [List.drop_eq_nil_of_le (by omega),kidsI] at KI2
    have KI3:=A_ KI2
    clear KI2
    go_wp2
    go_ret
    obtain rfl:=KI3.out
    exact ⟨rfl,BW.out⟩
/-! ### impl_fault: function 27 -/
def impl_fault.f (l0:List (S49)):Option (Int):=if (l0.length:Int)>4096 then (some 2) else ((impl_TreeOK.f l0).bind fun t207=>(if t207=true then (some 0) else (some 1)))
set_option maxHeartbeats 8000000 in
set_option maxRecDepth 100000 in
theorem impl_fault.calls (A0:Option Addr) (c0:Nat) (l0:List (S49)) (r:Int) (w:World) (hr0:Kd.C k49 w A0 l0.length l0) (hc0:l0.length≤c0) (h:impl_fault.f l0=some r) :
 Calls Try.prog 27 #[.slice A0 l0.length c0] w fun e w'=>e=.returned (.int .i64 r)∧Below w.heap.size w w':=by
 have HR0:=A_ hr0
 have HC0:=A_ hc0
 clear hr0 hc0
 have HB:=A_ (Below.refl w.heap.size w)
 have H:(if (l0.length:Int)>4096 then (some 2) else ((impl_TreeOK.f l0).bind fun t207=>(if t207=true then (some 0) else (some 1))))=some r:=h
 clear h
 by_cases c2:(l0.length:Int)>4096
 ·rw [if_pos c2] at H
  have c2b0:decide (4096<(l0.length:Int))=true:=dt_ c2
  have c2b1:decide (4096<l0.length)=true:=dt_ (by omega)
  clear c2
  obtain rfl:=oi_ H
  go_enter Try.func27,Try.ntmps27
  go_wp2
  go_ret
  exact ⟨by first|rfl|(simp [errW_none,errW_some] <;> rfl)|(simp [*,errW_none,errW_some] <;> rfl),by repeat (first|(with_reducible first|exact HB.out|apply ba_|apply pd_|apply b1_)|exact HB.out)⟩
 ·rw [if_neg c2] at H
  have c2b0:decide (4096<(l0.length:Int))=false:=df_ c2
  have c2b1:decide (4096<l0.length)=false:=df_ (by omega)
  clear c2
  replace H:=ob_ H
  obtain ⟨t207,A30,H⟩:=H
  replace H:(if t207=true then (some 0) else (some 1))=some r:=H
  have A3:=A_ A30
  clear A30
  by_cases c4:t207=true
  ·subst c4
   have H1:(some 0)=some r:=by rw [if_pos rfl] at H;exact H
   clear H
   have H:=H1
   clear H1
   obtain rfl:=oi_ H
   go_enter Try.func27,Try.ntmps27
   go_wp2_with (first|((with_reducible refine gate_callee (f:=41) rfl ?_);refine goesL_ (some 9) rfl rfl Try.func41 (by kernel_rfl) rfl #[.slice A0 l0.length c0] rfl (by (try simp only [List.map_toArray,List.map_cons,List.map_nil]);first|done|rfl|(simp only [ld_,lt_];rfl)) ?_;(with_reducible refine (impl_TreeOK.calls _ _ l0 true _ ?side1 ?side2 A3.out).mono ?_);(case side1=>repeat (first|exact HR0.out|(with_reducible refine ca_ ?_ _)|(with_reducible refine cn_ ?_ _)|(with_reducible refine cd_ ?_)));(case side2=>exact HC0.out);rintro e w5 ⟨rfl,hb⟩;refine ⟨_,rfl,?_⟩;have n0_:=A_ (bp_ (by repeat (first|(with_reducible first|exact HB.out|apply ba_|apply pd_|apply b1_)|exact HB.out)) hb);clear HB;have HB:=n0_;clear n0_;(try clear hb);(try clear hb2);(try clear hk);(try clear hi)))
   go_ret
   exact ⟨by first|rfl|(simp [errW_none,errW_some] <;> rfl)|(simp [*,errW_none,errW_some] <;> rfl),by repeat (first|(with_reducible first|exact HB.out|apply ba_|apply pd_|apply b1_)|exact HB.out)⟩
  ·replace c4:=bm_ c4
   subst c4
   have H1:(some 1)=some r:=by rw [if_neg (show ¬ (false=true) by decide)] at H;exact H
   clear H
   have H:=H1
   clear H1
   obtain rfl:=oi_ H
   go_enter Try.func27,Try.ntmps27
   go_wp2_with (first|((with_reducible refine gate_callee (f:=41) rfl ?_);refine goesL_ (some 9) rfl rfl Try.func41 (by kernel_rfl) rfl #[.slice A0 l0.length c0] rfl (by (try simp only [List.map_toArray,List.map_cons,List.map_nil]);first|done|rfl|(simp only [ld_,lt_];rfl)) ?_;(with_reducible refine (impl_TreeOK.calls _ _ l0 false _ ?side1 ?side2 A3.out).mono ?_);(case side1=>repeat (first|exact HR0.out|(with_reducible refine ca_ ?_ _)|(with_reducible refine cn_ ?_ _)|(with_reducible refine cd_ ?_)));(case side2=>exact HC0.out);rintro e w6 ⟨rfl,hb⟩;refine ⟨_,rfl,?_⟩;have n0_:=A_ (bp_ (by repeat (first|(with_reducible first|exact HB.out|apply ba_|apply pd_|apply b1_)|exact HB.out)) hb);clear HB;have HB:=n0_;clear n0_;(try clear hb);(try clear hb2);(try clear hk);(try clear hi)))
   go_ret
   exact ⟨by first|rfl|(simp [errW_none,errW_some] <;> rfl)|(simp [*,errW_none,errW_some] <;> rfl),by repeat (first|(with_reducible first|exact HB.out|apply ba_|apply pd_|apply b1_)|exact HB.out)⟩
/-! ### impl_MergeText: function 21, by hand -/
def impl_MergeText.f (l0:List S49):Option (List S49 × Int):=(impl_fault.f l0).bind fun c=>if c=0 then (if l0.all (fewB 10)=true∧l0.length≤1048576 then some (mergeE 11 l0,0) else none) else some ([],c)
set_option maxHeartbeats 4000000 in
theorem impl_MergeText.calls (A0:Option Addr) (c0:Nat) (l0:List S49) (r1:List S49) (r2:Int) (w:World) (hr0:Kd.C k49 w A0 l0.length l0) (hc0:l0.length≤c0) (h:impl_MergeText.f l0=some (r1,r2)) :
 Calls Try.prog 21 #[.slice A0 l0.length c0] w fun e w'=>∃ A c,e=.returned (.tuple #[.slice A r1.length c,.int .i64 r2])∧Kd.S kTN 49 w' w.heap.size (fun _=>True) (.slice A r1.length c) r1∧Below w.heap.size w w':=by
 unfold impl_MergeText.f at h
 obtain ⟨cd,hcd,h⟩:=ob_ h
 have QF:=A_ (impl_fault.calls A0 c0 l0 cd w hr0 hc0 hcd)
 by_cases hz:cd=0
 case neg =>
  rw [if_neg hz] at h
  obtain ⟨rfl,rfl⟩:=Prod.mk.inj (oi_ h)
  have hz1:(cd == 0)=false:=by simpa using hz
  have hz2:(cd != 0)=true:=by simpa using hz
  clear h hcd hr0 hc0
  generalize l0.length=n0 at *
  go_enter Try.func21,Try.ntmps21
  go_wp2_with (go_at_call 27;(with_reducible refine QF.out.mono ?_);rintro e w1 ⟨rfl,hb1⟩;have HB1:=A_ hb1;clear hb1)
  go_ret2
  exact ⟨none,0,rfl,Kd.S_nil _ _ _ _ _,HB1.out⟩
 case pos =>
  subst hz
  rw [if_pos rfl] at h
  obtain ⟨hd,h⟩:=Option.ite_none_right_eq_some.mp h
  obtain ⟨rfl,rfl⟩:=Prod.mk.inj (oi_ h)
  have QN:Aside0 (∀ V,Below w.heap.size w V→Calls Try.prog 35 #[.slice A0 l0.length c0] V fun e w'=>∃ A c,e=.returned (.slice A (mergeE 11 l0).length c)∧Kd.S kTN 49 w' V.heap.size (fun k=>V.heap.size≤k) (.slice A (mergeE 11 l0).length c) (mergeE 11 l0)∧Below V.heap.size V w'):=⟨fun V hV=>merged_all 10 A0 c0 l0 V hd.1 hd.2 (cb_ hr0 hV)⟩
  clear h hcd hr0 hc0 hd
  generalize mergeE 11 l0=R at *
  generalize l0.length=n0 at *
  go_enter Try.func21,Try.ntmps21
  go_wp2_with (first|(go_at_call 27;(with_reducible refine QF.out.mono ?_);rintro e w1 ⟨rfl,hb1⟩;have HB1:=A_ hb1;clear hb1)|(go_at_call 35;(with_reducible refine (QN.out w1 HB1.out).mono ?_);rintro e w3 ⟨A3,c3,rfl,hs,hb3⟩;(have HS:=A_ (Kd.S_lower hs HB1.out.size));(have HB3:=A_ (bp_ HB1.out hb3));clear hs hb3))
  go_ret2
  exact ⟨A3,c3,rfl,Kd.S_mono HS.out (fun _ _=>trivial),HB3.out⟩
end Go.Proofs.Ytlhhcbhmnmndiaa.PFnExactMergeText
