/- By a program of this session, out of the kit's print and contracts made by hand: the machine side of a law; Lean checks it. No conditions. -/
import Derived.Test.YtbeplhbkoaopgaaPFnExactRemoveAtx0
import Derived.Test.YtbeplhbkoaopgaaPFnExactRemoveAtx8
import Derived.Test.YtbeplhbkoaopgaaPFnExactRemoveAtx21
import Derived.Test.YtbeplhbkoaopgaaPFnExactRemoveAtx23
import Derived.Test.YtbeplhbkoaopgaaPFnExactRemoveAtx26
namespace Go.Proofs.Ytbeplhbkoaopgaa.PFnExactRemoveAt
open Go.RowKit Go.Proofs.YtbeplhbkoaopgaaW.PrintWords Go.Proofs.YtbeplhbkoaopgaaW.PrintLast Go.Proofs.YtbeplhbkoaopgaaW.PrintMore
attribute [local go_sem] max2_int min2_int max_two min_two max_three min_three max_four min_four
set_option linter.unusedVariables false
set_option linter.unusedSimpArgs false
/-! ### impl_TreeOK: function 47, by hand -/
def treeB (l:List S28):Bool:=(kidsI (nodeI 10) l 0).1
def impl_TreeOK.f (l0:List S28):Option Bool:=if ∀ y∈l0,fitB 10 y=true then some (treeB l0) else none
theorem impl_TreeOK.fit {l0:List S28} (h:∀ y∈l0,fitB 10 y=true):impl_TreeOK.f l0=some (treeB l0):=by
 unfold impl_TreeOK.f
 rw [if_pos h]
set_option maxHeartbeats 1000000 in
theorem impl_TreeOK.calls (A0:Option Addr) (c0:Nat) (l0:List S28) (r:Bool) (w:World) (hr0:Kd.C k28 w A0 l0.length l0) (hc0:l0.length≤c0) (h:impl_TreeOK.f l0=some r) :
 Calls Try.prog 47 #[.slice A0 l0.length c0] w fun e w'=>e=.returned (.bool r)∧Below w.heap.size w w':=by
 by_cases hfit:∀ y∈l0,fitB 10 y=true
 case neg =>
  unfold impl_TreeOK.f at h
  rw [if_neg hfit] at h
  cases h
 case pos =>
  rw [impl_TreeOK.fit hfit] at h
  obtain rfl:=oi_ h
  unfold treeB
  obtain ⟨R,hR⟩:∃ R,kidsI (nodeI 10) l0 0=R:=⟨_,rfl⟩
  rw [hR]
  have HR:=A_ hR
  have hL:l0.length≤9223372036854775807:=hr0.2.1
  have HFIT:=A_ hfit
  have HR0:=A_ hr0
  clear hR h hfit hr0 hc0
  have HG0:Aside0 ((w.alloc (.cells #[.int .i64 0] 3)).heap[w.heap.size]? = some (.cells #[.int .i64 0] 3 (0,0))):=⟨blk_new w _⟩
  have HB0:Aside0 (Below w.heap.size w (w.alloc (.cells #[.int .i64 0] 3))):=⟨ba_ (Below.refl _ _) _⟩
  go_enter Try.func47,Try.ntmps47
  go_wp2
  go_loopg [5,8] l0.length (fun gg _ s8 wr=>∃ (kk:Nat) (cc:Int),kk≤l0.length∧l0.length - kk≤gg∧s8=.int .i64 kk∧0≤cc∧cc≤60∧Aside0 (kidsI (nodeI 10) (l0.drop kk) cc=R)∧Aside0 (wr.heap[w.heap.size]? = some (.cells #[.int .i64 cc] 3 (0,0)))∧Aside0 (Below w.heap.size w wr))
  case atStart=>exact ⟨0,0,Nat.zero_le _,by omega,rfl,by omega,by omega,HR,HG0,HB0⟩
  case round =>
   obtain ⟨kk,cc,hkk,hgg,rfl,z0,z1,KI,HG,BW⟩:=hrel
   by_cases hlt:kk<l0.length
   case pos =>
    have hltz:(kk:Int)<(l0.length:Int):=by omega
    obtain ⟨ad,cs,e,hcl,hK,hc⟩:=Kd.C_get HR0.out z28 (kk:Int) (by omega) (by omega)
    rw [Int.toNat_natCast] at hK hc
    have hdr:l0.drop kk=l0.getD kk z28 :: l0.drop (kk+1):=by rw [List.getD_eq_getElem?_getD,List.getElem?_eq_getElem hlt];exact List.drop_eq_getElem_cons hlt
    have hmem:l0.getD kk z28∈l0:=by rw [List.getD_eq_getElem?_getD,List.getElem?_eq_getElem hlt];exact List.getElem_mem hlt
    have KI2:=KI.out
    rw [hdr,kidsI] at KI2
    have hky:=HFIT.out _ hmem
    clear KI hdr hmem
    generalize l0.getD kk z28=y at *
    obtain ⟨yA4,yc4,yA5,yc5,rfl,m4,q4,m5,q5⟩:=k28_open hK
    subst e
    have r0:wr.cell? (ad.add (kk * 6))=some (.int .i64 y.f0):=pc_ BW.out (hc 0 _ rfl)
    have r1:wr.cell? ⟨(ad.add (kk * 6)).block,(ad.add (kk * 6)).off+1,none⟩=some (.int .i64 y.f1):=pc_ BW.out (by rw [←add_field _ _ 1 (by omega)];exact hc 1 _ rfl)
    have r2:wr.cell? ⟨(ad.add (kk * 6)).block,(ad.add (kk * 6)).off+2,none⟩=some (.string y.f2):=pc_ BW.out (by rw [←add_field _ _ 2 (by omega)];exact hc 2 _ rfl)
    have r3:wr.cell? ⟨(ad.add (kk * 6)).block,(ad.add (kk * 6)).off+3,none⟩=some (.string y.f3):=pc_ BW.out (by rw [←add_field _ _ 3 (by omega)];exact hc 3 _ rfl)
    have r4:wr.cell? ⟨(ad.add (kk * 6)).block,(ad.add (kk * 6)).off+4,none⟩=some (.slice yA4 y.f4.length yc4):=pc_ BW.out (by rw [←add_field _ _ 4 (by omega)];exact hc 4 _ rfl)
    have r5:wr.cell? ⟨(ad.add (kk * 6)).block,(ad.add (kk * 6)).off+5,none⟩=some (.slice yA5 y.f5.length yc5):=pc_ BW.out (by rw [←add_field _ _ 5 (by omega)];exact hc 5 _ rfl)
    have QN:=A_ (impl_Node_isNode.holds 10 y yA4 yc4 yA5 yc5 1 cc w (wr.alloc (.cells #[.int .i64 y.f0,.int .i64 y.f1,.string y.f2,.string y.f3,.slice yA4 y.f4.length yc4,.slice yA5 y.f5.length yc5] 28)) w.heap.size (by omega) (by omega) hky z0 z1 (ba_ BW.out _) (Nat.le_refl _) (ka_ HG.out _) q4 m4 q5 m5)
    have hbd:=nodeI_bd 10 y cc z0 z1
    clear hc hK hcl hky q4 q5 m4 m5
    obtain ⟨b,hb⟩:∃ b,(nodeI 10 y cc).1=b:=⟨_,rfl⟩
    rw [hb] at QN hbd KI2
    generalize (nodeI 10 y cc).2=c2 at *
    have KI3:=A_ KI2
    clear KI2 hb
    have HBD:=A_ hbd
    clear hbd
    cases b with
    | false =>
     have KI4:Aside0 ((false,c2)=R):=⟨by have h:=KI3.out;rwa [if_neg Bool.false_ne_true] at h⟩
     clear KI3 HBD
     go_wp2_with (go_at_call 59;(with_reducible refine QN.out.mono ?_);rintro e v9 ⟨rfl,hg9,hv9⟩;have HG9:=A_ hg9;have HV9:=A_ hv9;clear hg9 hv9)
     go_ret
     obtain rfl:=KI4.out
     exact ⟨rfl,HV9.out⟩
    | true =>
     have KI4:Aside0 (kidsI (nodeI 10) (l0.drop (kk+1)) c2=R):=⟨by have h:=KI3.out;rwa [if_pos rfl] at h⟩
     have B0:=(HBD.out rfl).1
     have B1:=(HBD.out rfl).2
     clear KI3 HBD
     go_wp2_with (go_at_call 59;(with_reducible refine QN.out.mono ?_);rintro e v9 ⟨rfl,hg9,hv9⟩;have HG9:=A_ hg9;have HV9:=A_ hv9;clear hg9 hv9)
     go_roundg (l0.length - (kk+1))
     case measure=>omega
     case rel=>exact ⟨kk+1,c2,by omega,by omega,by go_num,B0,B1,KI4,HG9,HV9⟩
   case neg =>
    have hltz:¬ (kk:Int)<(l0.length:Int):=by omega
    have KI2:=KI.out
    rw [List.drop_eq_nil_of_le (by omega),kidsI] at KI2
    have KI3:=A_ KI2
    clear KI2
    go_wp2
    go_ret
    obtain rfl:=KI3.out
    exact ⟨rfl,BW.out⟩
/-! ### impl_fault: function 28 -/
def impl_fault.f (l0:List (S28)):Option (Int):=if (l0.length:Int)>4096 then (some 2) else ((impl_TreeOK.f l0).bind fun t297=>(if t297=true then (some 0) else (some 1)))
set_option maxHeartbeats 8000000 in
set_option maxRecDepth 100000 in
theorem impl_fault.calls (A0:Option Addr) (c0:Nat) (l0:List (S28)) (r:Int) (w:World) (hr0:Kd.C k28 w A0 l0.length l0) (hc0:l0.length≤c0) (h:impl_fault.f l0=some r) :
 Calls Try.prog 28 #[.slice A0 l0.length c0] w fun e w'=>e=.returned (.int .i64 r)∧Below w.heap.size w w':=by
 have HR0:=A_ hr0
 have HC0:=A_ hc0
 clear hr0 hc0
 have HB:=A_ (Below.refl w.heap.size w)
 have H:(if (l0.length:Int)>4096 then (some 2) else ((impl_TreeOK.f l0).bind fun t297=>(if t297=true then (some 0) else (some 1))))=some r:=h
 clear h
 by_cases c2:(l0.length:Int)>4096
 ·rw [if_pos c2] at H
  have c2b0:decide (4096<(l0.length:Int))=true:=dt_ c2
  have c2b1:decide (4096<l0.length)=true:=dt_ (by omega)
  clear c2
  obtain rfl:=oi_ H
  go_enter Try.func28,Try.ntmps28
  go_wp2
  go_ret
  exact ⟨by first|rfl|(simp [errW_none,errW_some] <;> rfl)|(simp [*,errW_none,errW_some] <;> rfl),by repeat (first|(with_reducible first|exact HB.out|apply ba_|apply pd_|apply b1_)|exact HB.out)⟩
 ·rw [if_neg c2] at H
  have c2b0:decide (4096<(l0.length:Int))=false:=df_ c2
  have c2b1:decide (4096<l0.length)=false:=df_ (by omega)
  clear c2
  replace H:=ob_ H
  obtain ⟨t297,A30,H⟩:=H
  replace H:(if t297=true then (some 0) else (some 1))=some r:=H
  have A3:=A_ A30
  clear A30
  by_cases c4:t297=true
  ·subst c4
   have H1:(some 0)=some r:=by rw [if_pos rfl] at H;exact H
   clear H
   have H:=H1
   clear H1
   obtain rfl:=oi_ H
   go_enter Try.func28,Try.ntmps28
   go_wp2_with (first|((with_reducible refine gate_callee (f:=47) rfl ?_);refine goesL_ (some 9) rfl rfl Try.func47 (by kernel_rfl) rfl #[.slice A0 l0.length c0] rfl (by (try simp only [List.map_toArray,List.map_cons,List.map_nil]);first|done|rfl|(simp only [ld_,lt_];rfl)) ?_;(with_reducible refine (impl_TreeOK.calls _ _ l0 true _ ?side1 ?side2 A3.out).mono ?_);(case side1=>repeat (first|exact HR0.out|(with_reducible refine ca_ ?_ _)|(with_reducible refine cn_ ?_ _)|(with_reducible refine cd_ ?_)));(case side2=>exact HC0.out);rintro e w5 ⟨rfl,hb⟩;refine ⟨_,rfl,?_⟩;have n0_:=A_ (bp_ (by repeat (first|(with_reducible first|exact HB.out|apply ba_|apply pd_|apply b1_)|exact HB.out)) hb);clear HB;have HB:=n0_;clear n0_;(try clear hb);(try clear hb2);(try clear hk);(try clear hi)))
   go_ret
   exact ⟨by first|rfl|(simp [errW_none,errW_some] <;> rfl)|(simp [*,errW_none,errW_some] <;> rfl),by repeat (first|(with_reducible first|exact HB.out|apply ba_|apply pd_|apply b1_)|exact HB.out)⟩
  ·replace c4:=bm_ c4
   subst c4
   have H1:(some 1)=some r:=by rw [if_neg (show ¬ (false=true) by decide)] at H;exact H
   clear H
   have H:=H1
   clear H1
   obtain rfl:=oi_ H
   go_enter Try.func28,Try.ntmps28
   go_wp2_with (first|((with_reducible refine gate_callee (f:=47) rfl ?_);refine goesL_ (some 9) rfl rfl Try.func47 (by kernel_rfl) rfl #[.slice A0 l0.length c0] rfl (by (try simp only [List.map_toArray,List.map_cons,List.map_nil]);first|done|rfl|(simp only [ld_,lt_];rfl)) ?_;(with_reducible refine (impl_TreeOK.calls _ _ l0 false _ ?side1 ?side2 A3.out).mono ?_);(case side1=>repeat (first|exact HR0.out|(with_reducible refine ca_ ?_ _)|(with_reducible refine cn_ ?_ _)|(with_reducible refine cd_ ?_)));(case side2=>exact HC0.out);rintro e w6 ⟨rfl,hb⟩;refine ⟨_,rfl,?_⟩;have n0_:=A_ (bp_ (by repeat (first|(with_reducible first|exact HB.out|apply ba_|apply pd_|apply b1_)|exact HB.out)) hb);clear HB;have HB:=n0_;clear n0_;(try clear hb);(try clear hb2);(try clear hk);(try clear hi)))
   go_ret
   exact ⟨by first|rfl|(simp [errW_none,errW_some] <;> rfl)|(simp [*,errW_none,errW_some] <;> rfl),by repeat (first|(with_reducible first|exact HB.out|apply ba_|apply pd_|apply b1_)|exact HB.out)⟩
/-! ### impl_faultEdit: function 39 -/
def impl_faultEdit.f (l0:List (S28)) (l1:List Int):Option (Int):=if (l1.length:Int)>4096 then (some 2) else ((impl_fault.f l0).bind fun t298=>(some t298))
set_option maxHeartbeats 8000000 in
set_option maxRecDepth 100000 in
theorem impl_faultEdit.calls (A0:Option Addr) (c0:Nat) (l0:List (S28)) (A1:Option Addr) (c1:Nat) (l1:List Int) (r:Int) (w:World) (hr0:Kd.C k28 w A0 l0.length l0) (hc0:l0.length≤c0) (hr1:Kd.C (Kd.int .i64) w A1 l1.length l1) (hc1:l1.length≤c1) (h:impl_faultEdit.f l0 l1=some r) :
 Calls Try.prog 39 #[.slice A0 l0.length c0,.slice A1 l1.length c1] w fun e w'=>e=.returned (.int .i64 r)∧Below w.heap.size w w':=by
 have HR0:=A_ hr0
 have HC0:=A_ hc0
 clear hr0 hc0
 have HR1:=A_ hr1
 have HC1:=A_ hc1
 clear hr1 hc1
 have HB:=A_ (Below.refl w.heap.size w)
 have H:(if (l1.length:Int)>4096 then (some 2) else ((impl_fault.f l0).bind fun t298=>(some t298)))=some r:=h
 clear h
 by_cases c3:(l1.length:Int)>4096
 ·rw [if_pos c3] at H
  have c3b0:decide (4096<(l1.length:Int))=true:=dt_ c3
  have c3b1:decide (4096<l1.length)=true:=dt_ (by omega)
  clear c3
  obtain rfl:=oi_ H
  go_enter Try.func39,Try.ntmps39
  go_wp2
  go_ret
  exact ⟨by first|rfl|(simp [errW_none,errW_some] <;> rfl)|(simp [*,errW_none,errW_some] <;> rfl),by repeat (first|(with_reducible first|exact HB.out|apply ba_|apply pd_|apply b1_)|exact HB.out)⟩
 ·rw [if_neg c3] at H
  have c3b0:decide (4096<(l1.length:Int))=false:=df_ c3
  have c3b1:decide (4096<l1.length)=false:=df_ (by omega)
  clear c3
  replace H:=ob_ H
  obtain ⟨t298,A40,H⟩:=H
  replace H:(some t298)=some r:=H
  have A4:=A_ A40
  clear A40
  obtain rfl:=oi_ H
  go_enter Try.func39,Try.ntmps39
  go_wp2_with (first|((with_reducible refine gate_callee (f:=28) rfl ?_);refine goesL_ (some 9) rfl rfl Try.func28 (by kernel_rfl) rfl #[.slice A0 l0.length c0] rfl (by (try simp only [List.map_toArray,List.map_cons,List.map_nil]);first|done|rfl|(simp only [ld_,lt_];rfl)) ?_;(with_reducible refine (impl_fault.calls _ _ l0 t298 _ ?side1 ?side2 A4.out).mono ?_);(case side1=>repeat (first|exact HR0.out|(with_reducible refine ca_ ?_ _)|(with_reducible refine cn_ ?_ _)|(with_reducible refine cd_ ?_)));(case side2=>exact HC0.out);rintro e w5 ⟨rfl,hb⟩;refine ⟨_,rfl,?_⟩;have n0_:=A_ (bp_ (by repeat (first|(with_reducible first|exact HB.out|apply ba_|apply pd_|apply b1_)|exact HB.out)) hb);clear HB;have HB:=n0_;clear n0_;(try clear hb);(try clear hb2);(try clear hk);(try clear hi)))
  go_ret
  exact ⟨by first|rfl|(simp [errW_none,errW_some] <;> rfl)|(simp [*,errW_none,errW_some] <;> rfl),by repeat (first|(with_reducible first|exact HB.out|apply ba_|apply pd_|apply b1_)|exact HB.out)⟩
/-! ### impl_find: function 29, by hand -/
/-- The node at a path; the row in which it lies; the tree with that row changed. -/
def atPath:List S28→List Int→Option S28
 | _,[]=>none
 | xs,[i]=>if 0≤i∧i<(xs.length:Int) then some (xs.getD i.toNat z28) else none
 | xs,i :: j :: ps=>if 0≤i∧i<(xs.length:Int) then atPath (xs.getD i.toNat z28).f5 (j :: ps) else none
def rowAt:List S28→List Int→List S28
 | xs,[]=>xs
 | xs,[_]=>xs
 | xs,i :: j :: ps=>rowAt (xs.getD i.toNat z28).f5 (j :: ps)
def updAt:List S28→List Int→List S28→List S28
 | _,[],ys=>ys
 | _,[_],ys=>ys
 | xs,i :: j :: ps,ys=>xs.set i.toNat ⟨(xs.getD i.toNat z28).f0,(xs.getD i.toNat z28).f1,(xs.getD i.toNat z28).f2,(xs.getD i.toNat z28).f3,(xs.getD i.toNat z28).f4,updAt (xs.getD i.toNat z28).f5 (j :: ps) ys⟩
/-- The kids of element i lent, and put back changed, with new blocks (fr) of their own. -/
theorem nodeKids {base g n cap:Nat} {ok:Nat→Prop} {W:World} {xs:List S28} (h:Kd.S kTN 28 W base ok (.slice (some ⟨g,0,none⟩) n cap) xs) (i:Int) (h0:0≤i) (h1:i<n) (x:S28) (hx:rd_T28 xs i=x) :
 ∃ (A5:Option Addr) (c5:Nat) (q:Nat→Prop),W.cell? ⟨g,i.toNat * 6+5,none⟩=some (.slice A5 x.f5.length c5)∧Kd.S kTN 28 W base q (.slice A5 x.f5.length c5) x.f5∧(∀ k,q k→ok k∧k≠g) ∧
  ∀ (W1:World) (ys:List S28) (fr:Nat→Prop),(∀ k,fr k→W.heap.size≤k)→Kept W W1 q→Kd.S kTN 28 W1 base (fun k=>q k∨fr k) (.slice A5 x.f5.length c5) ys→Kd.S kTN 28 W1 base (fun k=>ok k∨fr k) (.slice (some ⟨g,0,none⟩) n cap) (xs.set i.toNat ⟨x.f0,x.f1,x.f2,x.f3,x.f4,ys⟩):=by
 have hB:=Kd.S_mono (Kd.S_bound h) (ok':=fun k=>ok k∧k<W.heap.size) (fun k hk=>⟨hk.1,hk.2.2.1⟩)
 obtain ⟨oki,c,hcl,hM,hcc,hfr,hoki,hH⟩:=Kd.S_elem hB z28 i h0 h1
 have hx':xs.getD i.toNat z28=x:=hx
 rw [hx'] at hM
 obtain ⟨v4,v5,pp,rfl,g4,g5⟩:=kTN_openM hM
 obtain ⟨A4,c4,rfl⟩:=Kd.R_slice g4
 obtain ⟨A5,c5,rfl⟩:=Kd.S_slice g5
 refine ⟨A5,c5,_,hcc 5 _ rfl,g5,fun k hk=>⟨(hoki k hk.1).1.1,(hoki k hk.1).2⟩,fun W1 ys fr hf hk hr=>?_⟩
 have nf:∀ k,oki k→¬ fr k:=fun k hk h2=>by have h3:=(hoki k hk).1.2;have h4:=hf k h2;omega
 have hH2:Kd.H kTN 28 W base (fun k=>ok k∨fr k) (.slice (some ⟨g,0,none⟩) n cap) xs i (fun k=>oki k∨fr k) [.int .i64 x.f0,.int .i64 x.f1,.string x.f2,.string x.f3,.slice A4 x.f4.length c4,.slice A5 x.f5.length c5] :=
  Kd.H_more (okg:=fr) (Kd.H_mono hH (fun k hk=>⟨.inl hk.1,fun h2=>by have h3:=hk.2;have h4:=hf k h2;omega⟩)) (fun k hk=>.inr hk)
 refine Kd.H_back (Kd.H_step hH2 (fun k _ hn hlt=>hk.2 k hlt (fun h2=>hn (.inl h2.1)))) (x':=(⟨x.f0,x.f1,x.f2,x.f3,x.f4,ys⟩:S28)) (okp:=fun k=>oki k∨fr k) (kTN_mkM _ _ _ (fun k=>pp k∧¬ fr k) (⟨x.f0,x.f1,x.f2,x.f3,x.f4,ys⟩:S28) ?_ ?_) (fun k hk=>hk)
 ·exact Kd.R_mono (Kd.R_kept g4 hk (fun k h2 h3=>h3.2 h2.2)) (fun k h2=>⟨.inl h2.1,h2.2,nf k h2.1⟩)
 ·exact Kd.S_mono hr (fun k h2=>h2.elim (fun h3=>⟨.inl h3.1,fun h4=>h3.2 h4.1⟩) (fun h3=>⟨.inr h3,fun h4=>h4.2 h3⟩))
theorem atPath_none (xs:List S28) (i:Int) (ps:List Int) (h:¬ (0≤i∧i<(xs.length:Int))):atPath xs (i :: ps)=none:=by
 cases ps with
 | nil=>rw [atPath,if_neg h]
 | cons j ps=>rw [atPath,if_neg h]
/-- The node's row is one of the tree's own; the node's place in it; a changed row put back. -/
def Foc (W:World) (base:Nat) (ok:Nat→Prop) (v:Value) (xs:List S28) (path:List Int) (p:Addr) (x:S28):Prop :=
 ∃ (g n cap:Nat) (okq:Nat→Prop) (i:Nat),p=⟨g,i * 6,none⟩∧i<n∧okq g∧(∀ k,okq k→ok k)∧Kd.S kTN 28 W base okq (.slice (some ⟨g,0,none⟩) n cap) (rowAt xs path)∧path.getLast? = some (i:Int)∧(rowAt xs path).getD i z28=x∧∀ (W1:World) (ys:List S28) (fr:Nat→Prop),(∀ k,fr k→W.heap.size≤k)→Kept W W1 okq→Kd.S kTN 28 W1 base (fun k=>okq k∨fr k) (.slice (some ⟨g,0,none⟩) n cap) ys→Kd.S kTN 28 W1 base (fun k=>ok k∨fr k) v (updAt xs path ys)
def findRes (W:World) (base:Nat) (ok:Nat→Prop) (v:Value) (xs:List S28) (path:List Int) (r:Value):Option S28→Prop
 | none=>r=.pointer none
 | some x=>∃ p,r=.pointer (some p)∧Foc W base ok v xs path p x
/-- Where the walk stands: the row at hand, what puts it back, what is left of the path. -/
def findInv (w:World) (base:Nat) (ok:Nat→Prop) (v:Value) (xs:List S28) (path:List Int) (cur:List S28) (A:Option Addr) (c:Nat) (rest:List Int) (pv:Value):Prop :=
 ∃ (okq:Nat→Prop) (plug:List S28→List S28),Kd.S kTN 28 w base okq (.slice A cur.length c) cur∧(∀ k,okq k→ok k)∧(∀ (W1:World) (ys:List S28) (fr:Nat→Prop),(∀ k,fr k→w.heap.size≤k)→Kept w W1 okq→Kd.S kTN 28 W1 base (fun k=>okq k∨fr k) (.slice A cur.length c) ys→Kd.S kTN 28 W1 base (fun k=>ok k∨fr k) v (plug ys)) ∧
  (rest≠[]→atPath xs path=atPath cur rest∧rowAt xs path=rowAt cur rest∧path.getLast? = rest.getLast? ∧ ∀ ys,updAt xs path ys=plug (updAt cur rest ys)) ∧
  (rest=[]→findRes w base ok v xs path pv (atPath xs path))
theorem findInv_end {w:World} {base:Nat} {ok:Nat→Prop} {v:Value} {xs:List S28} {path:List Int} {cur:List S28} {A:Option Addr} {c:Nat} {rest:List Int} {pv:Value} (h:findInv w base ok v xs path cur A c rest pv) (hr:rest=[]):findRes w base ok v xs path pv (atPath xs path):=by
 obtain ⟨_,_,_,_,_,_,h⟩:=h
 exact h hr
set_option maxHeartbeats 4000000 in
theorem find_step (w:World) (base:Nat) (ok:Nat→Prop) (v:Value) (xs:List S28) (path:List Int) (cur:List S28) (A:Option Addr) (c:Nat) (i:Int) (ps:List Int) (pv:Value) (h:findInv w base ok v xs path cur A c (i :: ps) pv) (h0:0≤i) (h1:i<(cur.length:Int)) :
 ∃ (g:Nat) (A5:Option Addr) (c5:Nat),A=some ⟨g,0,none⟩∧w.cell? ⟨g,i.toNat * 6+5,none⟩=some (.slice A5 (rd_T28 cur i).f5.length c5)∧findInv w base ok v xs path (rd_T28 cur i).f5 A5 c5 ps (.pointer (some ⟨g,i.toNat * 6,none⟩)):=by
 obtain ⟨okq,plug,hS,hok,hwand,hrest,_⟩:=h
 obtain ⟨e1,e2,e3,e4⟩:=hrest (by simp)
 obtain ⟨g,cap,ev,_,_,_⟩:=Kd.S_form hS (by omega)
 injection ev with ev1 _ ev2
 subst ev1
 have hgq:okq g:=(Kd.S_R hS).1 g (by simp [Value.ownBlock])
 obtain ⟨x,hx⟩:∃ x,rd_T28 cur i=x:=⟨_,rfl⟩
 obtain ⟨A5,c5,q,u5,hq,hqk,hqw⟩:=nodeKids hS i h0 h1 x hx
 have hxd:cur.getD i.toNat z28=x:=hx
 rw [hx]
 refine ⟨g,A5,c5,rfl,u5,q,fun ys=>plug (cur.set i.toNat ⟨x.f0,x.f1,x.f2,x.f3,x.f4,ys⟩),hq,fun k hk=>hok k (hqk k hk).1,fun W1 ys fr hf hk hs=>hwand W1 _ fr hf (hk.mono (fun k hk2=>(hqk k hk2).1)) (hqw W1 ys fr hf hk hs),?_,?_⟩
 ·intro hne
  cases ps with
  | nil=>exact absurd rfl hne
  | cons j ps =>
   rw [e1,e2,e3,atPath,if_pos ⟨h0,h1⟩,rowAt,hxd]
   refine ⟨rfl,rfl,List.getLast?_cons_cons,fun ys=>?_⟩
   rw [e4,updAt,hxd]
 ·intro hps
  subst hps
  rw [e1,atPath,if_pos ⟨h0,h1⟩,hxd]
  refine ⟨_,rfl,g,cur.length,c,okq,i.toNat,rfl,by omega,hgq,hok,?_,?_,?_,?_⟩
  ·rw [e2];exact hS
  ·rw [e3];simp;omega
  ·rw [e2];exact hxd
  ·intro W1 ys fr hf hk hs
   rw [e4]
   exact hwand W1 ys fr hf hk hs
set_option maxHeartbeats 8000000 in
set_option maxRecDepth 100000 in
theorem find_calls (A0:Option Addr) (c0:Nat) (xs:List S28) (A1:Option Addr) (c1:Nat) (path:List Int) (base:Nat) (ok:Nat→Prop) (w:World) (hS:Kd.S kTN 28 w base ok (.slice A0 xs.length c0) xs) (hp:Kd.C (Kd.int .i64) w A1 path.length path) :
 Calls Try.prog 29 #[.slice A0 xs.length c0,.slice A1 path.length c1] w fun e w'=>∃ r,e=.returned r∧findRes w base ok (.slice A0 xs.length c0) xs path r (atPath xs path)∧Below w.heap.size w w':=by
 obtain ⟨R,hR⟩:∃ R,atPath xs path=R:=⟨_,rfl⟩
 have HI:Aside0 (findInv w base ok (.slice A0 xs.length c0) xs path xs A0 c0 path (.pointer none)):=⟨ok,fun ys=>ys,hS,fun _ h=>h,fun W1 ys _ _ _ hs=>hs,fun _=>⟨rfl,rfl,rfl,fun _=>rfl⟩,fun he=>by rw [he,atPath];rfl⟩
 have HP:=A_ hp
 have HB0:=A_ (Below.refl w.heap.size w)
 have hL:path.length≤9223372036854775807:=hp.2.1
 have HLX:Aside0 (xs.length≤9223372036854775807):=⟨(S_readsT hS).2.2.2.1⟩
 clear hS hp hR
 go_enter Try.func29,Try.ntmps29
 go_wp2
 go_loopg [0,5,7,10] path.length (fun gg s0 s5 _ s10 wr=>∃ (kk:Nat) (cur:List S28) (A:Option Addr) (c:Nat) (pv:Value),kk≤path.length∧path.length - kk≤gg∧s0=.slice A cur.length c∧s5=pv∧s10=.int .i64 kk∧Aside0 (findInv w base ok (.slice A0 xs.length c0) xs path cur A c (path.drop kk) pv)∧Aside0 (Below w.heap.size w wr))
 case atStart=>exact ⟨0,xs,A0,c0,_,Nat.zero_le _,by omega,rfl,rfl,rfl,⟨by rw [List.drop_zero];exact HI.out⟩,HB0⟩
 case round =>
  obtain ⟨kk,cur,A,c,pv,hkk,hgg,rfl,rfl,rfl,HJ,BW⟩:=hrel
  by_cases hlt:kk<path.length
  case neg =>
   have hltz:¬ (kk:Int)<(path.length:Int):=by omega
   have HR:=A_ (findInv_end HJ.out (List.drop_eq_nil_of_le (by omega)))
   go_wp2
   go_ret
   exact ⟨_,rfl,HR.out,BW.out⟩
  case pos =>
   have hltz:(kk:Int)<(path.length:Int):=by omega
   obtain ⟨ad,e,hx⟩:=Kd.at_int HP.out (kk:Int) (by omega) (by omega)
   rw [Int.toNat_natCast] at hx
   subst e
   have r0:=pc_ BW.out hx
   obtain ⟨i,hi⟩:∃ i,rd path (kk:Int)=i:=⟨_,rfl⟩
   rw [hi] at r0 hx
   have hdr:path.drop kk=i :: path.drop (kk+1):=by
    rw [Kit.drop_getD 0 path kk hlt,←hi]
    simp [rd]
   have HJ2:=HJ.out
   rw [hdr] at HJ2
   have HLT:=A_ hlt
   have hcl:cur.length≤9223372036854775807:=by obtain ⟨_,_,h,_⟩:=HJ2;exact (S_readsT h).2.2.2.1
   have hw:wrap64 ((cur.length:Int) - 1)=(cur.length:Int) - 1:=Kit.wrap_of (by omega) (by omega)
   have QW:=A_ (fun W=>impl_within.calls i 0 ((cur.length:Int) - 1) _ W (within_now i 0 ((cur.length:Int) - 1)))
   by_cases hin:0≤i∧i<(cur.length:Int)
   case neg =>
    have hd:decide (0≤i∧i≤(cur.length:Int) - 1)=false:=df_ (by omega)
    rw [hd] at QW
    have HN:Aside0 (atPath xs path=none):=⟨by obtain ⟨_,_,_,_,_,h,_⟩:=HJ2;rw [(h (by simp)).1];exact atPath_none _ _ _ hin⟩
    clear HJ HJ2 hdr hx hd hlt hcl hin
    go_wp2_with (first|(go_at_call 48;(with_reducible refine (QW.out _).mono ?_);rintro e w2 ⟨rfl,⟨nd,rfl⟩⟩))
    go_ret
    exact ⟨_,rfl,by rw [HN.out];rfl,by first|exact BW.out|exact pd_ BW.out _⟩
   case pos =>
    have hd:decide (0≤i∧i≤(cur.length:Int) - 1)=true:=dt_ (by omega)
    rw [hd] at QW
    obtain ⟨g,A5,c5,rfl,hc5,hinv⟩:=find_step w base ok _ xs path cur A c i _ _ HJ2 hin.1 hin.2
    have HINV:=A_ hinv
    have h5:=pc_ BW.out hc5
    have p0:=eq_true hin.1
    have p1:=eq_true hin.2
    have p2:decide (0≤i)=true:=dt_ hin.1
    have p3:decide (i<(cur.length:Int))=true:=dt_ hin.2
    clear HJ HJ2 hdr hx hd hinv hc5 hlt hcl hin
    go_wp2_with (first|(go_at_call 48;(with_reducible refine (QW.out _).mono ?_);rintro e w2 ⟨rfl,⟨nd,rfl⟩⟩))
    go_roundg (path.length - (kk+1))
    case measure=>have:=HLT.out;omega
    case rel=>exact ⟨kk+1,(rd_T28 cur i).f5,A5,c5,_,by have:=HLT.out;omega,by omega,rfl,rfl,by go_num,HINV,by first|exact BW|exact ⟨pd_ BW.out _⟩⟩
/-- The tree with another node at a path. -/
def putAt (xs:List S28) (path:List Int) (x':S28):List S28:=updAt xs path ((rowAt xs path).set (path.getLast?.getD 0).toNat x')
theorem focCells {W W1:World} {base:Nat} {ok:Nat→Prop} {v:Value} {xs:List S28} {path:List Int} {p:Addr} {x:S28} (h:Foc W base ok v xs path p x) (hb:Below W.heap.size W W1) :
 ∃ (g i:Nat) (A4:Option Addr) (c4:Nat) (A5:Option Addr) (c5:Nat),p=⟨g,i * 6,none⟩∧W1.cell? ⟨g,i * 6,none⟩=some (.int .i64 x.f0)∧W1.cell? ⟨g,i * 6+1,none⟩=some (.int .i64 x.f1)∧W1.cell? ⟨g,i * 6+2,none⟩=some (.string x.f2)∧W1.cell? ⟨g,i * 6+3,none⟩=some (.string x.f3)∧W1.cell? ⟨g,i * 6+4,none⟩=some (.slice A4 x.f4.length c4)∧W1.cell? ⟨g,i * 6+5,none⟩=some (.slice A5 x.f5.length c5)∧W1.frozen? ⟨g,i * 6+3,none⟩=false∧W1.frozen? ⟨g,i * 6+5,none⟩=false∧(g<W.heap.size∧ok g) ∧
  Kd.C k71 W1 A4 x.f4.length x.f4∧x.f4.length≤c4∧Kd.C k28 W1 A5 x.f5.length x.f5∧x.f5.length≤c5 ∧
  (∀ m:ByteArray,Kd.S kTN 28 (W1.setCell ⟨g,i * 6+3,none⟩ (.string m)) base ok v (putAt xs path ⟨x.f0,x.f1,x.f2,m,x.f4,x.f5⟩)) ∧
  (∀ (A:Option Addr) (n c:Nat) (ks:List S28) (fr:Nat→Prop),(∀ k,fr k→W.heap.size≤k)→Kd.S kTN 28 W1 base fr (.slice A n c) ks→Kd.S kTN 28 (W1.setCell ⟨g,i * 6+5,none⟩ (.slice A n c)) base (fun k=>ok k∨fr k) v (putAt xs path ⟨x.f0,x.f1,x.f2,x.f3,x.f4,ks⟩)):=by
 obtain ⟨g,n,cap,okq,i,rfl,hin,hgq,hokq,hS,hlast,hx,hwand⟩:=h
 have hS1:=Kd.S_below hS hb
 have hgl:g<W.heap.size:=by
  obtain ⟨g',c',ev,_,h3,_⟩:=Kd.S_form hS (by have:=(Kd.S_reads' hS).1;omega)
  injection ev with ev _ _
  injection ev with ev
  injection ev with ev _ _
  rw [ev];exact h3
 have hrd:rd_T28 (rowAt xs path) (i:Int)=x:=by rw [←hx];simp [rd_T28]
 have hput:∀ x',putAt xs path x'=updAt xs path ((rowAt xs path).set i x'):=fun x'=>by unfold putAt;rw [hlast];simp
 obtain ⟨A4,c4,A5,c5,⟨u0,u1,u2,u3,u4,u5⟩,⟨f0,f1,f2,f3,f4,f5⟩,⟨_,_,_,hw3⟩,⟨pA,hA,_⟩,⟨qA,hK,_⟩⟩:=nodeCells (xs0:=rowAt xs path) hS1 (i:Int) (by omega) (by omega) (fun _=>rfl) x hrd
 rw [Int.toNat_natCast] at u0 u1 u2 u3 u4 u5 f3 f5
 refine ⟨g,i,A4,c4,A5,c5,rfl,u0,u1,u2,u3,u4,u5,f3,f5,⟨hgl,hokq g hgq⟩,(Kd.R_reads' hA).2.2,(Kd.R_reads' hA).2.1,(S_readsT hK).2.2,(S_readsT hK).2.1,fun m=>?_,fun A m c ks fr hfr hs=>?_⟩
 ·have h1:=(hw3 m).1
  rw [Int.toNat_natCast] at h1
  rw [hput]
  exact Kd.S_mono (hwand _ _ (fun _=>False) (fun _ hf=>hf.elim) ((Kept.of_below hb okq).setCell (p:=⟨g,i * 6+3,none⟩) (.inl hgq) _) (Kd.S_mono h1 (fun _ hk=>.inl hk))) (fun _ hk=>hk.elim (fun h=>h) (fun h=>h.elim))
 ·have hS2:=Kd.S_mono (Kd.S_bound (Kd.S_below (Kd.S_bound hS) hb)) (ok':=fun k=>(okq k∨fr k)∧¬ fr k) (fun k hk=>⟨.inl hk.1.1,fun hf=>by have h1:=hk.1.2.2.1;have h2:=hfr k hf;omega⟩)
  obtain ⟨oki,c',hcl,hM,hcc,hfz,hoki,hH⟩:=Kd.S_elem hS2 z28 (i:Int) (by omega) (by omega)
  have hx':(rowAt xs path).getD (i:Int).toNat z28=x:=by rw [Int.toNat_natCast];exact hx
  rw [hx'] at hM
  obtain ⟨v4,v5,pp,rfl,g4,_⟩:=kTN_openM hM
  have hM2:kTN.M W1 base (fun k=>oki k∨fr k) (⟨x.f0,x.f1,x.f2,x.f3,x.f4,ks⟩:S28) [.int .i64 x.f0,.int .i64 x.f1,.string x.f2,.string x.f3,v4,.slice A m c] :=
   kTN_mkM _ _ _ (fun k=>pp k∧¬ fr k) (⟨x.f0,x.f1,x.f2,x.f3,x.f4,ks⟩:S28) (Kd.R_mono g4 (fun k hk=>⟨.inl hk.1,hk.2,(hoki k hk.1).1.2⟩)) (Kd.S_mono hs (fun k hk=>⟨.inr hk,fun h=>h.2 hk⟩))
  have hseg:=(Kd.S_seg (okg:=fr) (okp:=fun k=>oki k∨fr k) hH (by omega) (by omega) (seg:=[.slice A m c]) (j:=5) (show 5+1≤6 from Nat.le_refl 6) (x':=(⟨x.f0,x.f1,x.f2,x.f3,x.f4,ks⟩:S28)) hM2 (fun k hk=>hk) (fun k hk=>⟨.inr hk,fun e=>by have h2:=hfr k hk;omega⟩)).1
  rw [hput]
  rw [Int.toNat_natCast] at hseg
  exact hwand _ _ fr hfr ((Kept.of_below hb okq).setCell (p:=⟨g,i * 6+5,none⟩) (.inl hgq) _) hseg
/-! ### slices_Clone_Attr: function 49, by hand -/
theorem infoAt:(Try.prog.info? 71).map (fun i=>(i.zero,i.size,i.bytes))=some (some (.agg #[(.string ⟨#[]⟩),(.string ⟨#[]⟩)]),2,32):=by kernel_rfl
theorem nilA_none (w:World) (c:Nat):(binOp .eql 25 (.slice none 0 c) (.slice none 0 0)).run Try.prog w=.ok (.bool true) w:=Lib.run_eql_slice_nil w 25 71 none 0 c 0 0 Try.underlying25
theorem nilA_some (w:World) (A:Addr) (n c:Nat):(binOp .eql 25 (.slice (some A) n c) (.slice none 0 0)).run Try.prog w=.ok (.bool false) w:=Lib.run_eql_slice_nil w 25 71 (some A) n c 0 0 Try.underlying25
set_option maxHeartbeats 4000000 in
set_option maxRecDepth 100000 in
theorem clone_attrs (l:List S71) (A:Option Addr) (c:Nat) (W:World) (hr:Kd.C k71 W A l.length l) (hn:l.length≤1048576):Calls Try.prog 49 #[.slice A l.length c] W fun e w'=>∃ v,e=.returned v∧Kd.R k71 71 w' W.heap.size (fun _=>True) v l∧Below W.heap.size W w':=by
 have HB:=A_ (Below.refl W.heap.size W)
 have HC:=A_ hr
 have HN:=A_ hn
 have hz:A=none→l=[]:=fun h=>by
  subst h
  apply List.eq_nil_of_length_eq_zero
  rcases Nat.eq_zero_or_pos l.length with h0|h0
  ·exact h0
  ·obtain ⟨ad,h,_⟩:=hr.2.2 h0
   cases h
 cases A with
 | none =>
  obtain rfl:=hz rfl
  have hnil:=fun w:World=>nilA_none w c
  clear hr hn hz
  go_enter Try.func49,Try.ntmps49
  go_wp2
  go_ret
  exact ⟨_,rfl,Kd.R_nil _ _ _ _ _,HB.out⟩
 | some ad =>
  have hnil:=fun w:World=>nilA_some w ad l.length c
  clear hr hn hz
  go_enter Try.func49,Try.ntmps49
  go_wp2_with (first|((with_reducible refine gate_dst (N:=5) rfl ?_);refine Kd.R_lit k71 (w0:=W) W.heap.size 71 ?hg (N:=5) ?hd (xs:=([]:List S71)) (inner:=[]) (ok:=fun _=>True) (okp:=fun _=>True) ?hr ?hp (fun _ hk=>hk) trivial (Below.refl _ _) (Nat.le_refl _) (by simp) ?_;(case hd=>rfl);(case hg=>rfl);(case hr=>first|(go_simp;done)|(go_simp;rfl));(case hp=>exact (Reps.none _ _));intro v2 w2 ho hb _ _;(have HR2:=A_ ho);(have HB2:=A_ hb);(have HC2:=A_ (cb_ HC.out hb));clear ho hb)|((with_reducible refine gate_builtin (b:=.append) (xs:=#[.tmp 5,.tmp 6]) rfl ?_);at_builtin;refine Kd.R_append_rows k71 (w0:=W) W.heap.size rfl (.tmp 5) (.tmp 6) 25 71 (.agg #[(.string ⟨#[]⟩),(.string ⟨#[]⟩)]) 32 rfl Try.underlying25 infoAt rfl (by decide) (by omega) v2 ([]:List S71) l _ _ _ (fun _=>True) (fun _=>False) rfl rfl ?aO ?aR (fun _ _ h=>h) (fun _ h=>h.elim) (fun _ _=>trivial) ?aB ?aS ?aL ?_;(case aR=>exact HC2.out);(case aO=>exact HR2.out);(case aB=>exact HB2.out);(case aS=>exact HB2.out.size);(case aL=>have:=HN.out;simp only [List.length_nil];omega);intro v3 w3 ho hb _ _;rw [List.nil_append] at ho;(have HR3:=A_ ho);(have HB3:=A_ hb);clear ho hb))
  go_ret
  exact ⟨_,rfl,HR3.out,HB3.out⟩
end Go.Proofs.Ytbeplhbkoaopgaa.PFnExactRemoveAt
