/- By a program of this session, out of the kit's print and contracts made by hand: the machine side of a law; Lean checks it. No conditions. -/
import Derived.Test.YtbeplhbkoaopgaaPFnExactSetWordsx0
import Derived.Test.YtbeplhbkoaopgaaPFnExactSetWordsx24
namespace Go.Proofs.Ytbeplhbkoaopgaa.PFnExactSetWords
open Go.RowKit Go.Proofs.YtbeplhbkoaopgaaW.PrintWords Go.Proofs.YtbeplhbkoaopgaaW.PrintLast Go.Proofs.YtbeplhbkoaopgaaW.PrintMore
attribute [local go_sem] max2_int min2_int max_two min_two max_three min_three max_four min_four
set_option linter.unusedVariables false
set_option linter.unusedSimpArgs false
/-! ### impl_TreeOK: function 47, by hand -/
def treeB (l:List S28):Bool:=(kidsI (nodeI 10) l 0).1
def impl_TreeOK.f (l0:List S28):Option Bool:=if ∀ y∈l0,fitB 10 y=true then some (treeB l0) else none
theorem impl_TreeOK.fit {l0:List S28} (h:∀ y∈l0,fitB 10 y=true):impl_TreeOK.f l0=some (treeB l0):=by
 unfold impl_TreeOK.f
 rw [if_pos h]
set_option maxHeartbeats 1000000 in
theorem impl_TreeOK.calls (A0:Option Addr) (c0:Nat) (l0:List S28) (r:Bool) (w:World) (hr0:Kd.C k28 w A0 l0.length l0) (hc0:l0.length≤c0) (h:impl_TreeOK.f l0=some r) :
 Calls Try.prog 47 #[.slice A0 l0.length c0] w fun e w'=>e=.returned (.bool r)∧Below w.heap.size w w':=by
 by_cases hfit:∀ y∈l0,fitB 10 y=true
 case neg =>
  unfold impl_TreeOK.f at h
  rw [if_neg hfit] at h
  cases h
 case pos =>
  rw [impl_TreeOK.fit hfit] at h
  obtain rfl:=oi_ h
  unfold treeB
  obtain ⟨R,hR⟩:∃ R,kidsI (nodeI 10) l0 0=R:=⟨_,rfl⟩
  rw [hR]
  have HR:=A_ hR
  have hL:l0.length≤9223372036854775807:=hr0.2.1
  have HFIT:=A_ hfit
  have HR0:=A_ hr0
  clear hR h hfit hr0 hc0
  have HG0:Aside0 ((w.alloc (.cells #[.int .i64 0] 3)).heap[w.heap.size]? = some (.cells #[.int .i64 0] 3 (0,0))):=⟨blk_new w _⟩
  have HB0:Aside0 (Below w.heap.size w (w.alloc (.cells #[.int .i64 0] 3))):=⟨ba_ (Below.refl _ _) _⟩
  go_enter Try.func47,Try.ntmps47
  go_wp2
  go_loopg [5,8] l0.length (fun gg _ s8 wr=>∃ (kk:Nat) (cc:Int),kk≤l0.length∧l0.length - kk≤gg∧s8=.int .i64 kk∧0≤cc∧cc≤60∧Aside0 (kidsI (nodeI 10) (l0.drop kk) cc=R)∧Aside0 (wr.heap[w.heap.size]? = some (.cells #[.int .i64 cc] 3 (0,0)))∧Aside0 (Below w.heap.size w wr))
  case atStart=>exact ⟨0,0,Nat.zero_le _,by omega,rfl,by omega,by omega,HR,HG0,HB0⟩
  case round =>
   obtain ⟨kk,cc,hkk,hgg,rfl,z0,z1,KI,HG,BW⟩:=hrel
   by_cases hlt:kk<l0.length
   case pos =>
    have hltz:(kk:Int)<(l0.length:Int):=by omega
    obtain ⟨ad,cs,e,hcl,hK,hc⟩:=Kd.C_get HR0.out z28 (kk:Int) (by omega) (by omega)
    rw [Int.toNat_natCast] at hK hc
    have hdr:l0.drop kk=l0.getD kk z28 :: l0.drop (kk+1):=by rw [List.getD_eq_getElem?_getD,List.getElem?_eq_getElem hlt];exact List.drop_eq_getElem_cons hlt
    have hmem:l0.getD kk z28∈l0:=by rw [List.getD_eq_getElem?_getD,List.getElem?_eq_getElem hlt];exact List.getElem_mem hlt
    have KI2:=KI.out
    rw [hdr,kidsI] at KI2
    have hky:=HFIT.out _ hmem
    clear KI hdr hmem
    generalize l0.getD kk z28=y at *
    obtain ⟨yA4,yc4,yA5,yc5,rfl,m4,q4,m5,q5⟩:=k28_open hK
    subst e
    have r0:wr.cell? (ad.add (kk * 6))=some (.int .i64 y.f0):=pc_ BW.out (hc 0 _ rfl)
    have r1:wr.cell? ⟨(ad.add (kk * 6)).block,(ad.add (kk * 6)).off+1,none⟩=some (.int .i64 y.f1):=pc_ BW.out (by rw [←add_field _ _ 1 (by omega)];exact hc 1 _ rfl)
    have r2:wr.cell? ⟨(ad.add (kk * 6)).block,(ad.add (kk * 6)).off+2,none⟩=some (.string y.f2):=pc_ BW.out (by rw [←add_field _ _ 2 (by omega)];exact hc 2 _ rfl)
    have r3:wr.cell? ⟨(ad.add (kk * 6)).block,(ad.add (kk * 6)).off+3,none⟩=some (.string y.f3):=pc_ BW.out (by rw [←add_field _ _ 3 (by omega)];exact hc 3 _ rfl)
    have r4:wr.cell? ⟨(ad.add (kk * 6)).block,(ad.add (kk * 6)).off+4,none⟩=some (.slice yA4 y.f4.length yc4):=pc_ BW.out (by rw [←add_field _ _ 4 (by omega)];exact hc 4 _ rfl)
    have r5:wr.cell? ⟨(ad.add (kk * 6)).block,(ad.add (kk * 6)).off+5,none⟩=some (.slice yA5 y.f5.length yc5):=pc_ BW.out (by rw [←add_field _ _ 5 (by omega)];exact hc 5 _ rfl)
    have QN:=A_ (impl_Node_isNode.holds 10 y yA4 yc4 yA5 yc5 1 cc w (wr.alloc (.cells #[.int .i64 y.f0,.int .i64 y.f1,.string y.f2,.string y.f3,.slice yA4 y.f4.length yc4,.slice yA5 y.f5.length yc5] 28)) w.heap.size (by omega) (by omega) hky z0 z1 (ba_ BW.out _) (Nat.le_refl _) (ka_ HG.out _) q4 m4 q5 m5)
    have hbd:=nodeI_bd 10 y cc z0 z1
    clear hc hK hcl hky q4 q5 m4 m5
    obtain ⟨b,hb⟩:∃ b,(nodeI 10 y cc).1=b:=⟨_,rfl⟩
    rw [hb] at QN hbd KI2
    generalize (nodeI 10 y cc).2=c2 at *
    have KI3:=A_ KI2
    clear KI2 hb
    have HBD:=A_ hbd
    clear hbd
    cases b with
    | false =>
     have KI4:Aside0 ((false,c2)=R):=⟨by have h:=KI3.out;rwa [if_neg Bool.false_ne_true] at h⟩
     clear KI3 HBD
     go_wp2_with (go_at_call 59;(with_reducible refine QN.out.mono ?_);rintro e v9 ⟨rfl,hg9,hv9⟩;have HG9:=A_ hg9;have HV9:=A_ hv9;clear hg9 hv9)
     go_ret
     obtain rfl:=KI4.out
     exact ⟨rfl,HV9.out⟩
    | true =>
     have KI4:Aside0 (kidsI (nodeI 10) (l0.drop (kk+1)) c2=R):=⟨by have h:=KI3.out;rwa [if_pos rfl] at h⟩
     have B0:=(HBD.out rfl).1
     have B1:=(HBD.out rfl).2
     clear KI3 HBD
     go_wp2_with (go_at_call 59;(with_reducible refine QN.out.mono ?_);rintro e v9 ⟨rfl,hg9,hv9⟩;have HG9:=A_ hg9;have HV9:=A_ hv9;clear hg9 hv9)
     go_roundg (l0.length - (kk+1))
     case measure=>omega
     case rel=>exact ⟨kk+1,c2,by omega,by omega,by go_num,B0,B1,KI4,HG9,HV9⟩
   case neg =>
    have hltz:¬ (kk:Int)<(l0.length:Int):=by omega
    have KI2:=KI.out
    rw [List.drop_eq_nil_of_le (by omega),kidsI] at KI2
    have KI3:=A_ KI2
    clear KI2
    go_wp2
    go_ret
    obtain rfl:=KI3.out
    exact ⟨rfl,BW.out⟩
/-! ### impl_fault: function 28 -/
def impl_fault.f (l0:List (S28)):Option (Int):=if (l0.length:Int)>4096 then (some 2) else ((impl_TreeOK.f l0).bind fun t283=>(if t283=true then (some 0) else (some 1)))
set_option maxHeartbeats 8000000 in
set_option maxRecDepth 100000 in
theorem impl_fault.calls (A0:Option Addr) (c0:Nat) (l0:List (S28)) (r:Int) (w:World) (hr0:Kd.C k28 w A0 l0.length l0) (hc0:l0.length≤c0) (h:impl_fault.f l0=some r) :
 Calls Try.prog 28 #[.slice A0 l0.length c0] w fun e w'=>e=.returned (.int .i64 r)∧Below w.heap.size w w':=by
 have HR0:=A_ hr0
 have HC0:=A_ hc0
 clear hr0 hc0
 have HB:=A_ (Below.refl w.heap.size w)
 have H:(if (l0.length:Int)>4096 then (some 2) else ((impl_TreeOK.f l0).bind fun t283=>(if t283=true then (some 0) else (some 1))))=some r:=h
 clear h
 by_cases c2:(l0.length:Int)>4096
 ·rw [if_pos c2] at H
  have c2b0:decide (4096<(l0.length:Int))=true:=dt_ c2
  have c2b1:decide (4096<l0.length)=true:=dt_ (by omega)
  clear c2
  obtain rfl:=oi_ H
  go_enter Try.func28,Try.ntmps28
  go_wp2
  go_ret
  exact ⟨by first|rfl|(simp [errW_none,errW_some] <;> rfl)|(simp [*,errW_none,errW_some] <;> rfl),by repeat (first|(with_reducible first|exact HB.out|apply ba_|apply pd_|apply b1_)|exact HB.out)⟩
 ·rw [if_neg c2] at H
  have c2b0:decide (4096<(l0.length:Int))=false:=df_ c2
  have c2b1:decide (4096<l0.length)=false:=df_ (by omega)
  clear c2
  replace H:=ob_ H
  obtain ⟨t283,A30,H⟩:=H
  replace H:(if t283=true then (some 0) else (some 1))=some r:=H
  have A3:=A_ A30
  clear A30
  by_cases c4:t283=true
  ·subst c4
   have H1:(some 0)=some r:=by rw [if_pos rfl] at H;exact H
   clear H
   have H:=H1
   clear H1
   obtain rfl:=oi_ H
   go_enter Try.func28,Try.ntmps28
   go_wp2_with (first|((with_reducible refine gate_callee (f:=47) rfl ?_);refine goesL_ (some 9) rfl rfl Try.func47 (by kernel_rfl) rfl #[.slice A0 l0.length c0] rfl (by (try simp only [List.map_toArray,List.map_cons,List.map_nil]);first|done|rfl|(simp only [ld_,lt_];rfl)) ?_;(with_reducible refine (impl_TreeOK.calls _ _ l0 true _ ?side1 ?side2 A3.out).mono ?_);(case side1=>repeat (first|exact HR0.out|(with_reducible refine ca_ ?_ _)|(with_reducible refine cn_ ?_ _)|(with_reducible refine cd_ ?_)));(case side2=>exact HC0.out);rintro e w5 ⟨rfl,hb⟩;refine ⟨_,rfl,?_⟩;have n0_:=A_ (bp_ (by repeat (first|(with_reducible first|exact HB.out|apply ba_|apply pd_|apply b1_)|exact HB.out)) hb);clear HB;have HB:=n0_;clear n0_;(try clear hb);(try clear hb2);(try clear hk);(try clear hi)))
   go_ret
   exact ⟨by first|rfl|(simp [errW_none,errW_some] <;> rfl)|(simp [*,errW_none,errW_some] <;> rfl),by repeat (first|(with_reducible first|exact HB.out|apply ba_|apply pd_|apply b1_)|exact HB.out)⟩
  ·replace c4:=bm_ c4
   subst c4
   have H1:(some 1)=some r:=by rw [if_neg (show ¬ (false=true) by decide)] at H;exact H
   clear H
   have H:=H1
   clear H1
   obtain rfl:=oi_ H
   go_enter Try.func28,Try.ntmps28
   go_wp2_with (first|((with_reducible refine gate_callee (f:=47) rfl ?_);refine goesL_ (some 9) rfl rfl Try.func47 (by kernel_rfl) rfl #[.slice A0 l0.length c0] rfl (by (try simp only [List.map_toArray,List.map_cons,List.map_nil]);first|done|rfl|(simp only [ld_,lt_];rfl)) ?_;(with_reducible refine (impl_TreeOK.calls _ _ l0 false _ ?side1 ?side2 A3.out).mono ?_);(case side1=>repeat (first|exact HR0.out|(with_reducible refine ca_ ?_ _)|(with_reducible refine cn_ ?_ _)|(with_reducible refine cd_ ?_)));(case side2=>exact HC0.out);rintro e w6 ⟨rfl,hb⟩;refine ⟨_,rfl,?_⟩;have n0_:=A_ (bp_ (by repeat (first|(with_reducible first|exact HB.out|apply ba_|apply pd_|apply b1_)|exact HB.out)) hb);clear HB;have HB:=n0_;clear n0_;(try clear hb);(try clear hb2);(try clear hk);(try clear hi)))
   go_ret
   exact ⟨by first|rfl|(simp [errW_none,errW_some] <;> rfl)|(simp [*,errW_none,errW_some] <;> rfl),by repeat (first|(with_reducible first|exact HB.out|apply ba_|apply pd_|apply b1_)|exact HB.out)⟩
/-! ### impl_faultEdit: function 39 -/
def impl_faultEdit.f (l0:List (S28)) (l1:List Int):Option (Int):=if (l1.length:Int)>4096 then (some 2) else ((impl_fault.f l0).bind fun t284=>(some t284))
set_option maxHeartbeats 8000000 in
set_option maxRecDepth 100000 in
theorem impl_faultEdit.calls (A0:Option Addr) (c0:Nat) (l0:List (S28)) (A1:Option Addr) (c1:Nat) (l1:List Int) (r:Int) (w:World) (hr0:Kd.C k28 w A0 l0.length l0) (hc0:l0.length≤c0) (hr1:Kd.C (Kd.int .i64) w A1 l1.length l1) (hc1:l1.length≤c1) (h:impl_faultEdit.f l0 l1=some r) :
 Calls Try.prog 39 #[.slice A0 l0.length c0,.slice A1 l1.length c1] w fun e w'=>e=.returned (.int .i64 r)∧Below w.heap.size w w':=by
 have HR0:=A_ hr0
 have HC0:=A_ hc0
 clear hr0 hc0
 have HR1:=A_ hr1
 have HC1:=A_ hc1
 clear hr1 hc1
 have HB:=A_ (Below.refl w.heap.size w)
 have H:(if (l1.length:Int)>4096 then (some 2) else ((impl_fault.f l0).bind fun t284=>(some t284)))=some r:=h
 clear h
 by_cases c3:(l1.length:Int)>4096
 ·rw [if_pos c3] at H
  have c3b0:decide (4096<(l1.length:Int))=true:=dt_ c3
  have c3b1:decide (4096<l1.length)=true:=dt_ (by omega)
  clear c3
  obtain rfl:=oi_ H
  go_enter Try.func39,Try.ntmps39
  go_wp2
  go_ret
  exact ⟨by first|rfl|(simp [errW_none,errW_some] <;> rfl)|(simp [*,errW_none,errW_some] <;> rfl),by repeat (first|(with_reducible first|exact HB.out|apply ba_|apply pd_|apply b1_)|exact HB.out)⟩
 ·rw [if_neg c3] at H
  have c3b0:decide (4096<(l1.length:Int))=false:=df_ c3
  have c3b1:decide (4096<l1.length)=false:=df_ (by omega)
  clear c3
  replace H:=ob_ H
  obtain ⟨t284,A40,H⟩:=H
  replace H:(some t284)=some r:=H
  have A4:=A_ A40
  clear A40
  obtain rfl:=oi_ H
  go_enter Try.func39,Try.ntmps39
  go_wp2_with (first|((with_reducible refine gate_callee (f:=28) rfl ?_);refine goesL_ (some 9) rfl rfl Try.func28 (by kernel_rfl) rfl #[.slice A0 l0.length c0] rfl (by (try simp only [List.map_toArray,List.map_cons,List.map_nil]);first|done|rfl|(simp only [ld_,lt_];rfl)) ?_;(with_reducible refine (impl_fault.calls _ _ l0 t284 _ ?side1 ?side2 A4.out).mono ?_);(case side1=>repeat (first|exact HR0.out|(with_reducible refine ca_ ?_ _)|(with_reducible refine cn_ ?_ _)|(with_reducible refine cd_ ?_)));(case side2=>exact HC0.out);rintro e w5 ⟨rfl,hb⟩;refine ⟨_,rfl,?_⟩;have n0_:=A_ (bp_ (by repeat (first|(with_reducible first|exact HB.out|apply ba_|apply pd_|apply b1_)|exact HB.out)) hb);clear HB;have HB:=n0_;clear n0_;(try clear hb);(try clear hb2);(try clear hk);(try clear hi)))
  go_ret
  exact ⟨by first|rfl|(simp [errW_none,errW_some] <;> rfl)|(simp [*,errW_none,errW_some] <;> rfl),by repeat (first|(with_reducible first|exact HB.out|apply ba_|apply pd_|apply b1_)|exact HB.out)⟩
/-! ### slices_Clone_Attr: function 49, by hand -/
theorem infoAt:(Try.prog.info? 71).map (fun i=>(i.zero,i.size,i.bytes))=some (some (.agg #[(.string ⟨#[]⟩),(.string ⟨#[]⟩)]),2,32):=by kernel_rfl
theorem nilA_none (w:World) (c:Nat):(binOp .eql 25 (.slice none 0 c) (.slice none 0 0)).run Try.prog w=.ok (.bool true) w:=Lib.run_eql_slice_nil w 25 71 none 0 c 0 0 Try.underlying25
theorem nilA_some (w:World) (A:Addr) (n c:Nat):(binOp .eql 25 (.slice (some A) n c) (.slice none 0 0)).run Try.prog w=.ok (.bool false) w:=Lib.run_eql_slice_nil w 25 71 (some A) n c 0 0 Try.underlying25
set_option maxHeartbeats 4000000 in
set_option maxRecDepth 100000 in
theorem clone_attrs (l:List S71) (A:Option Addr) (c:Nat) (W:World) (hr:Kd.C k71 W A l.length l) (hn:l.length≤1048576):Calls Try.prog 49 #[.slice A l.length c] W fun e w'=>∃ v,e=.returned v∧Kd.R k71 71 w' W.heap.size (fun _=>True) v l∧Below W.heap.size W w':=by
 have HB:=A_ (Below.refl W.heap.size W)
 have HC:=A_ hr
 have HN:=A_ hn
 have hz:A=none→l=[]:=fun h=>by
  subst h
  apply List.eq_nil_of_length_eq_zero
  rcases Nat.eq_zero_or_pos l.length with h0|h0
  ·exact h0
  ·obtain ⟨ad,h,_⟩:=hr.2.2 h0
   cases h
 cases A with
 | none =>
  obtain rfl:=hz rfl
  have hnil:=fun w:World=>nilA_none w c
  clear hr hn hz
  go_enter Try.func49,Try.ntmps49
  go_wp2
  go_ret
  exact ⟨_,rfl,Kd.R_nil _ _ _ _ _,HB.out⟩
 | some ad =>
  have hnil:=fun w:World=>nilA_some w ad l.length c
  clear hr hn hz
  go_enter Try.func49,Try.ntmps49
  go_wp2_with (first|((with_reducible refine gate_dst (N:=5) rfl ?_);refine Kd.R_lit k71 (w0:=W) W.heap.size 71 ?hg (N:=5) ?hd (xs:=([]:List S71)) (inner:=[]) (ok:=fun _=>True) (okp:=fun _=>True) ?hr ?hp (fun _ hk=>hk) trivial (Below.refl _ _) (Nat.le_refl _) (by simp) ?_;(case hd=>rfl);(case hg=>rfl);(case hr=>first|(go_simp;done)|(go_simp;rfl));(case hp=>exact (Reps.none _ _));intro v2 w2 ho hb _ _;(have HR2:=A_ ho);(have HB2:=A_ hb);(have HC2:=A_ (cb_ HC.out hb));clear ho hb)|((with_reducible refine gate_builtin (b:=.append) (xs:=#[.tmp 5,.tmp 6]) rfl ?_);at_builtin;refine Kd.R_append_rows k71 (w0:=W) W.heap.size rfl (.tmp 5) (.tmp 6) 25 71 (.agg #[(.string ⟨#[]⟩),(.string ⟨#[]⟩)]) 32 rfl Try.underlying25 infoAt rfl (by decide) (by omega) v2 ([]:List S71) l _ _ _ (fun _=>True) (fun _=>False) rfl rfl ?aO ?aR (fun _ _ h=>h) (fun _ h=>h.elim) (fun _ _=>trivial) ?aB ?aS ?aL ?_;(case aR=>exact HC2.out);(case aO=>exact HR2.out);(case aB=>exact HB2.out);(case aS=>exact HB2.out.size);(case aL=>have:=HN.out;simp only [List.length_nil];omega);intro v3 w3 ho hb _ _;rw [List.nil_append] at ho;(have HR3:=A_ ho);(have HB3:=A_ hb);clear ho hb))
  go_ret
  exact ⟨_,rfl,HR3.out,HB3.out⟩
/-! ### impl_clonedTree: function 40, by hand -/
/-- Few attributes and kids, none deeper than n. -/
def fewB:Nat→S28→Bool
 | 0,_=>false
 | n+1,x=>decide (x.f3.size≤1048576) && decide (x.f4.length≤1048576) && decide (x.f5.length≤1048576) && x.f5.all (fewB n)
theorem infoCl:(Try.prog.info? 28).map (fun i=>(i.zero,i.size,i.bytes))=some (some (.agg #[(.int .i64 0),(.int .i64 0),(.string ⟨#[]⟩),(.string ⟨#[]⟩),(.slice none 0 0),(.slice none 0 0)]),6,96):=by kernel_rfl
abbrev clonedC (n:Nat):Prop:=∀ (x:S28) (A4:Option Addr) (c4:Nat) (A5:Option Addr) (c5:Nat) (w:World),fewB n x=true→Kd.C k71 w A4 x.f4.length x.f4→Kd.C k28 w A5 x.f5.length x.f5 →
 Calls Try.prog 30 #[.agg #[.int .i64 x.f0,.int .i64 x.f1,.string x.f2,.string x.f3,.slice A4 x.f4.length c4,.slice A5 x.f5.length c5]] w fun e w'=>∃ A6 c6 A7 c7,e=.returned (.agg #[.int .i64 x.f0,.int .i64 x.f1,.string x.f2,.string x.f3,.slice A6 x.f4.length c6,.slice A7 x.f5.length c7])∧kTN.M w' w.heap.size (fun k=>w.heap.size≤k) x [.int .i64 x.f0,.int .i64 x.f1,.string x.f2,.string x.f3,.slice A6 x.f4.length c6,.slice A7 x.f5.length c7]∧Below w.heap.size w w'
abbrev clonedTreeC (n:Nat):Prop:=∀ (A0:Option Addr) (c0:Nat) (l0:List S28) (w:World),l0.all (fewB n)=true→l0.length≤1048576→Kd.C k28 w A0 l0.length l0 →
 Calls Try.prog 40 #[.slice A0 l0.length c0] w fun e w'=>∃ v,e=.returned v∧Kd.S kTN 28 w' w.heap.size (fun k=>w.heap.size≤k) v l0∧Below w.heap.size w w'
set_option maxHeartbeats 16000000 in
set_option maxRecDepth 1000000 in
theorem cloned_step (n:Nat) (ih:clonedTreeC n):clonedC (n+1):=by
 intro x A4 c4 A5 c5 w hf h4 h5
 rw [fewB,Bool.and_eq_true,Bool.and_eq_true,Bool.and_eq_true] at hf
 obtain ⟨⟨⟨n3,n4⟩,n5⟩,hall⟩:=hf
 clear n3
 have n4:=od_ n4
 have n5:=od_ n5
 have QA:Aside0 (∀ V,Below w.heap.size w V→Calls Try.prog 49 #[.slice A4 x.f4.length c4] V fun e w'=>∃ v,e=.returned v∧Kd.R k71 71 w' V.heap.size (fun _=>True) v x.f4∧Below V.heap.size V w'):=⟨fun V hV=>clone_attrs x.f4 A4 c4 V (cb_ h4 hV) n4⟩
 have QT:Aside0 (∀ V,Below w.heap.size w V→Calls Try.prog 40 #[.slice A5 x.f5.length c5] V fun e w'=>∃ v,e=.returned v∧Kd.S kTN 28 w' V.heap.size (fun k=>V.heap.size≤k) v x.f5∧Below V.heap.size V w'):=⟨fun V hV=>ih A5 c5 x.f5 V hall n5 (cb_ h5 hV)⟩
 have HB0:=A_ (ba_ (ba_ (Below.refl w.heap.size w) (.cells #[.int .i64 x.f0,.int .i64 x.f1,.string x.f2,.string x.f3,.slice A4 x.f4.length c4,.slice A5 x.f5.length c5] 28 (0,0))) (.cells #[.int .i64 0,.int .i64 0,.string ⟨#[]⟩,.string ⟨#[]⟩,.slice none 0 0,.slice none 0 0] 28 (0,0)))
 have hs2:((w.alloc (.cells #[.int .i64 x.f0,.int .i64 x.f1,.string x.f2,.string x.f3,.slice A4 x.f4.length c4,.slice A5 x.f5.length c5] 28 (0,0))).alloc (.cells #[.int .i64 0,.int .i64 0,.string ⟨#[]⟩,.string ⟨#[]⟩,.slice none 0 0,.slice none 0 0] 28 (0,0))).heap.size=w.heap.size+2:=by rw [World.size_alloc,World.size_alloc]
 have HX1:=A_ (ka_ (blk_new w (.cells #[.int .i64 x.f0,.int .i64 x.f1,.string x.f2,.string x.f3,.slice A4 x.f4.length c4,.slice A5 x.f5.length c5] 28 (0,0))) (.cells #[.int .i64 0,.int .i64 0,.string ⟨#[]⟩,.string ⟨#[]⟩,.slice none 0 0,.slice none 0 0] 28 (0,0)))
 have HX2:Aside0 (((w.alloc (.cells #[.int .i64 x.f0,.int .i64 x.f1,.string x.f2,.string x.f3,.slice A4 x.f4.length c4,.slice A5 x.f5.length c5] 28 (0,0))).alloc (.cells #[.int .i64 0,.int .i64 0,.string ⟨#[]⟩,.string ⟨#[]⟩,.slice none 0 0,.slice none 0 0] 28 (0,0))).heap[w.heap.size+1]? = some (.cells #[.int .i64 0,.int .i64 0,.string ⟨#[]⟩,.string ⟨#[]⟩,.slice none 0 0,.slice none 0 0] 28 (0,0))):=⟨by have h:=blk_new (w.alloc (.cells #[.int .i64 x.f0,.int .i64 x.f1,.string x.f2,.string x.f3,.slice A4 x.f4.length c4,.slice A5 x.f5.length c5] 28 (0,0))) (.cells #[.int .i64 0,.int .i64 0,.string ⟨#[]⟩,.string ⟨#[]⟩,.slice none 0 0,.slice none 0 0] 28 (0,0));rw [World.size_alloc] at h;exact h⟩
 have b0:((w.alloc (.cells #[.int .i64 x.f0,.int .i64 x.f1,.string x.f2,.string x.f3,.slice A4 x.f4.length c4,.slice A5 x.f5.length c5] 28 (0,0))).alloc (.cells #[.int .i64 0,.int .i64 0,.string ⟨#[]⟩,.string ⟨#[]⟩,.slice none 0 0,.slice none 0 0] 28 (0,0))).cell? ⟨w.heap.size,0,none⟩=some (.int .i64 x.f0):=(bc_ HX1.out 0).trans rfl
 have b1:((w.alloc (.cells #[.int .i64 x.f0,.int .i64 x.f1,.string x.f2,.string x.f3,.slice A4 x.f4.length c4,.slice A5 x.f5.length c5] 28 (0,0))).alloc (.cells #[.int .i64 0,.int .i64 0,.string ⟨#[]⟩,.string ⟨#[]⟩,.slice none 0 0,.slice none 0 0] 28 (0,0))).cell? ⟨w.heap.size,1,none⟩=some (.int .i64 x.f1):=(bc_ HX1.out 1).trans rfl
 have b2:((w.alloc (.cells #[.int .i64 x.f0,.int .i64 x.f1,.string x.f2,.string x.f3,.slice A4 x.f4.length c4,.slice A5 x.f5.length c5] 28 (0,0))).alloc (.cells #[.int .i64 0,.int .i64 0,.string ⟨#[]⟩,.string ⟨#[]⟩,.slice none 0 0,.slice none 0 0] 28 (0,0))).cell? ⟨w.heap.size,2,none⟩=some (.string x.f2):=(bc_ HX1.out 2).trans rfl
 have b3:((w.alloc (.cells #[.int .i64 x.f0,.int .i64 x.f1,.string x.f2,.string x.f3,.slice A4 x.f4.length c4,.slice A5 x.f5.length c5] 28 (0,0))).alloc (.cells #[.int .i64 0,.int .i64 0,.string ⟨#[]⟩,.string ⟨#[]⟩,.slice none 0 0,.slice none 0 0] 28 (0,0))).cell? ⟨w.heap.size,3,none⟩=some (.string x.f3):=(bc_ HX1.out 3).trans rfl
 have b4:((w.alloc (.cells #[.int .i64 x.f0,.int .i64 x.f1,.string x.f2,.string x.f3,.slice A4 x.f4.length c4,.slice A5 x.f5.length c5] 28 (0,0))).alloc (.cells #[.int .i64 0,.int .i64 0,.string ⟨#[]⟩,.string ⟨#[]⟩,.slice none 0 0,.slice none 0 0] 28 (0,0))).cell? ⟨w.heap.size,4,none⟩=some (.slice A4 x.f4.length c4):=(bc_ HX1.out 4).trans rfl
 have b5:((w.alloc (.cells #[.int .i64 x.f0,.int .i64 x.f1,.string x.f2,.string x.f3,.slice A4 x.f4.length c4,.slice A5 x.f5.length c5] 28 (0,0))).alloc (.cells #[.int .i64 0,.int .i64 0,.string ⟨#[]⟩,.string ⟨#[]⟩,.slice none 0 0,.slice none 0 0] 28 (0,0))).cell? ⟨w.heap.size,5,none⟩=some (.slice A5 x.f5.length c5):=(bc_ HX1.out 5).trans rfl
 clear h4 h5 n4 n5 hall ih
 go_enter Try.func30,Try.ntmps30
 go_wp2_with fail
 go_region_held3 (fun w'=>w'.cell? ⟨w.heap.size,0,none⟩=some (.int .i64 x.f0)∧w'.cell? ⟨w.heap.size,1,none⟩=some (.int .i64 x.f1)∧w'.cell? ⟨w.heap.size,2,none⟩=some (.string x.f2)∧w'.cell? ⟨w.heap.size,3,none⟩=some (.string x.f3)∧w'.cell? ⟨w.heap.size,4,none⟩=some (.slice A4 x.f4.length c4)∧w'.cell? ⟨w.heap.size,5,none⟩=some (.slice A5 x.f5.length c5)) (go_keep) (first|(go_at_call 49;(with_reducible refine (QA.out _ (b1_ HB0.out)).mono ?_);rintro e w2 ⟨v4,rfl,hr,hb0⟩;(have hb:Below ((w.alloc (.cells #[.int .i64 x.f0,.int .i64 x.f1,.string x.f2,.string x.f3,.slice A4 x.f4.length c4,.slice A5 x.f5.length c5] 28 (0,0))).alloc (.cells #[.int .i64 0,.int .i64 0,.string ⟨#[]⟩,.string ⟨#[]⟩,.slice none 0 0,.slice none 0 0] 28 (0,0))).heap.size ((w.alloc (.cells #[.int .i64 x.f0,.int .i64 x.f1,.string x.f2,.string x.f3,.slice A4 x.f4.length c4,.slice A5 x.f5.length c5] 28 (0,0))).alloc (.cells #[.int .i64 0,.int .i64 0,.string ⟨#[]⟩,.string ⟨#[]⟩,.slice none 0 0,.slice none 0 0] 28 (0,0))) w2:=(b1_ (Below.refl ((w.alloc (.cells #[.int .i64 x.f0,.int .i64 x.f1,.string x.f2,.string x.f3,.slice A4 x.f4.length c4,.slice A5 x.f5.length c5] 28 (0,0))).alloc (.cells #[.int .i64 0,.int .i64 0,.string ⟨#[]⟩,.string ⟨#[]⟩,.slice none 0 0,.slice none 0 0] 28 (0,0))).heap.size ((w.alloc (.cells #[.int .i64 x.f0,.int .i64 x.f1,.string x.f2,.string x.f3,.slice A4 x.f4.length c4,.slice A5 x.f5.length c5] 28 (0,0))).alloc (.cells #[.int .i64 0,.int .i64 0,.string ⟨#[]⟩,.string ⟨#[]⟩,.slice none 0 0,.slice none 0 0] 28 (0,0))))).trans hb0);obtain ⟨A6,c6,rfl⟩:=Kd.R_slice hr;(have HB2:=A_ (bp_ HB0.out hb));(have HR:=A_ hr);(have HSY:=A_ hb0.size);(have d0:=pc_ hb b0);(have d1:=pc_ hb b1);(have d2:=pc_ hb b2);(have d3:=pc_ hb b3);(have d4:=pc_ hb b4);(have d5:=pc_ hb b5);(have HY2:=A_ (kb_ HX2.out hb));clear hb hr)|(go_at_call 40;(with_reducible refine (QT.out _ HB2.out).mono ?_);rintro e w3 ⟨v5,rfl,hs,hb⟩;obtain ⟨A7,c7,rfl⟩:=Kd.S_slice hs;(have HB3:=A_ (bp_ HB2.out hb));(have HSZ:=A_ HB2.out.size);(have HS:=A_ hs);(have e0:=pc_ hb d0);(have e1:=pc_ hb d1);(have e2:=pc_ hb d2);(have e3:=pc_ hb d3);(have e4:=pc_ hb d4);(have e5:=pc_ hb d5);(have HR3:=A_ (Kd.R_below (Kd.R_bound HR.out) hb));(have z:=kb_ HY2.out hb);(have HZ:=A_ z);(have p0:w3.cell? ⟨w.heap.size+1,0,none⟩=some (.int .i64 0):=(bc_ z 0).trans rfl);(have f0:w3.frozen? ⟨w.heap.size+1,0,none⟩=false:=bf_ z 0);(have p1:w3.cell? ⟨w.heap.size+1,1,none⟩=some (.int .i64 0):=(bc_ z 1).trans rfl);(have f1:w3.frozen? ⟨w.heap.size+1,1,none⟩=false:=bf_ z 1);(have p2:w3.cell? ⟨w.heap.size+1,2,none⟩=some (.string ⟨#[]⟩):=(bc_ z 2).trans rfl);(have f2:w3.frozen? ⟨w.heap.size+1,2,none⟩=false:=bf_ z 2);(have p3:w3.cell? ⟨w.heap.size+1,3,none⟩=some (.string ⟨#[]⟩):=(bc_ z 3).trans rfl);(have f3:w3.frozen? ⟨w.heap.size+1,3,none⟩=false:=bf_ z 3);(have p4:w3.cell? ⟨w.heap.size+1,4,none⟩=some (.slice none 0 0):=(bc_ z 4).trans rfl);(have f4:w3.frozen? ⟨w.heap.size+1,4,none⟩=false:=bf_ z 4);(have p5:w3.cell? ⟨w.heap.size+1,5,none⟩=some (.slice none 0 0):=(bc_ z 5).trans rfl);(have f5:w3.frozen? ⟨w.heap.size+1,5,none⟩=false:=bf_ z 5);clear hb hs z))
 go_wp2
 have hsd:((w.alloc (.cells #[.int .i64 x.f0,.int .i64 x.f1,.string x.f2,.string x.f3,.slice A4 x.f4.length c4,.slice A5 x.f5.length c5] 28 (0,0))).alloc (.cells #[.int .i64 0,.int .i64 0,.string ⟨#[]⟩,.string ⟨#[]⟩,.slice none 0 0,.slice none 0 0] 28 (0,0))).drew.heap.size=w.heap.size+2:=hs2
 have hKW:Kept w3 ((((((w3.setCell ⟨w.heap.size+1,0,none⟩ (.int .i64 x.f0)).setCell ⟨w.heap.size+1,1,none⟩ (.int .i64 x.f1)).setCell ⟨w.heap.size+1,2,none⟩ (.string x.f2)).setCell ⟨w.heap.size+1,3,none⟩ (.string x.f3)).setCell ⟨w.heap.size+1,4,none⟩ (.slice A6 x.f4.length c6)).setCell ⟨w.heap.size+1,5,none⟩ (.slice A7 x.f5.length c7)) (fun k=>k=w.heap.size+1):=(Kept.setCell ((Kept.setCell ((Kept.setCell ((Kept.setCell ((Kept.setCell ((Kept.setCell (Kept.refl w3 (fun k=>k=w.heap.size+1)) (p:=⟨w.heap.size+1,0,none⟩) (.inl rfl) (.int .i64 x.f0))) (p:=⟨w.heap.size+1,1,none⟩) (.inl rfl) (.int .i64 x.f1))) (p:=⟨w.heap.size+1,2,none⟩) (.inl rfl) (.string x.f2))) (p:=⟨w.heap.size+1,3,none⟩) (.inl rfl) (.string x.f3))) (p:=⟨w.heap.size+1,4,none⟩) (.inl rfl) (.slice A6 x.f4.length c6))) (p:=⟨w.heap.size+1,5,none⟩) (.inl rfl) (.slice A7 x.f5.length c7))
 refine bodyPost_ret (results_cell_row rfl _ _ (w.heap.size+1) 28 #[.int .i64 x.f0,.int .i64 x.f1,.string x.f2,.string x.f3,.slice A6 x.f4.length c6,.slice A7 x.f5.length c7] (0,0) _ rfl (blk_put (cs:=#[.int .i64 x.f0,.int .i64 x.f1,.string x.f2,.string x.f3,.slice A6 x.f4.length c6,.slice none 0 0]) (cs':=#[.int .i64 x.f0,.int .i64 x.f1,.string x.f2,.string x.f3,.slice A6 x.f4.length c6,.slice A7 x.f5.length c7]) (blk_put (cs:=#[.int .i64 x.f0,.int .i64 x.f1,.string x.f2,.string x.f3,.slice none 0 0,.slice none 0 0]) (cs':=#[.int .i64 x.f0,.int .i64 x.f1,.string x.f2,.string x.f3,.slice A6 x.f4.length c6,.slice none 0 0]) (blk_put (cs:=#[.int .i64 x.f0,.int .i64 x.f1,.string x.f2,.string ⟨#[]⟩,.slice none 0 0,.slice none 0 0]) (cs':=#[.int .i64 x.f0,.int .i64 x.f1,.string x.f2,.string x.f3,.slice none 0 0,.slice none 0 0]) (blk_put (cs:=#[.int .i64 x.f0,.int .i64 x.f1,.string ⟨#[]⟩,.string ⟨#[]⟩,.slice none 0 0,.slice none 0 0]) (cs':=#[.int .i64 x.f0,.int .i64 x.f1,.string x.f2,.string ⟨#[]⟩,.slice none 0 0,.slice none 0 0]) (blk_put (cs:=#[.int .i64 x.f0,.int .i64 0,.string ⟨#[]⟩,.string ⟨#[]⟩,.slice none 0 0,.slice none 0 0]) (cs':=#[.int .i64 x.f0,.int .i64 x.f1,.string ⟨#[]⟩,.string ⟨#[]⟩,.slice none 0 0,.slice none 0 0]) (blk_put (cs:=#[.int .i64 0,.int .i64 0,.string ⟨#[]⟩,.string ⟨#[]⟩,.slice none 0 0,.slice none 0 0]) (cs':=#[.int .i64 x.f0,.int .i64 0,.string ⟨#[]⟩,.string ⟨#[]⟩,.slice none 0 0,.slice none 0 0]) HZ.out 0 (.int .i64 x.f0) rfl) 1 (.int .i64 x.f1) rfl) 2 (.string x.f2) rfl) 3 (.string x.f3) rfl) 4 (.slice A6 x.f4.length c6) rfl) 5 (.slice A7 x.f5.length c7) rfl) Try.underlying28 rfl (by kernel_rfl)) rfl ?_
 have h23:=HB3.out.size
 have hsz2:=HSZ.out
 refine ⟨A6,c6,A7,c7,rfl,kTN_mkM _ _ _ (fun k=>k<w2.heap.size) _ ?_ ?_,?_⟩
 ·exact Kd.R_mono (Kd.R_kept (S:=fun k=>k=w.heap.size+1) (Kd.R_lower HR3.out (by rw [hsd];omega)) hKW (fun k hk (h:k=w.heap.size+1)=>by have:=hk.2.1;rw [hsd] at this;omega)) (fun k hk=>⟨by have:=hk.2.1;rw [hsd] at this;omega,hk.2.2.1⟩)
 ·have hw2:w.heap.size+2≤w2.heap.size:=by have:=HSY.out;rw [hsd] at this;exact this
  exact Kd.S_lower (Kd.S_mono (Kd.S_kept (S:=fun k=>k=w.heap.size+1) HS.out hKW (fun k hk (h:k=w.heap.size+1)=>by omega)) (fun k hk=>⟨by omega,fun he=>by omega⟩)) HSZ.out
 ·exact (bs_ (bs_ (bs_ (bs_ (bs_ (bs_ HB3.out (by omega)) (by omega)) (by omega)) (by omega)) (by omega)) (by omega))
set_option maxHeartbeats 8000000 in
set_option maxRecDepth 1000000 in
theorem clonedTree_step (n:Nat) (ih:clonedC n):clonedTreeC n:=by
 intro A0 c0 l0 w hf hn h0
 rw [List.all_eq_true] at hf
 have HALL:=A_ hf
 have HC:=A_ h0
 have HN:=A_ hn
 have IH:=A_ ih
 have hL:l0.length≤9223372036854775807:=h0.2.1
 have HB00:=A_ (Below.refl w.heap.size w)
 clear hf h0 hn ih
 go_enter Try.func40,Try.ntmps40
 go_wp2_with ((with_reducible refine gate_dst (N:=6) rfl ?_);refine Kd.R_lit (Kd.tag (fun _=>0) kTN) (w0:=w) w.heap.size 28 ?hg (N:=6) ?hd (xs:=([]:List (S28 × Nat))) (inner:=[]) (ok:=fun k=>w.heap.size≤k) (okp:=fun _=>False) ?hr ?hp (fun _ hk=>hk.elim) (Nat.le_refl _) (Below.refl _ _) (Nat.le_refl _) (by simp) ?_;(case hd=>rfl);(case hg=>rfl);(case hr=>first|(go_simp;done)|(go_simp;rfl));(case hp=>exact (Reps.none _ _));intro v6 w1 ho hb _ _;(have HO:=A_ (Sep.S_of_tag (d:=kTN) ho));(have HB:=A_ hb);clear ho hb)
 go_loopg [3,5,9] l0.length (fun gg s3 _ s9 wr=>∃ (kk:Nat),kk≤l0.length∧l0.length - kk≤gg∧s9=.int .i64 kk∧Aside0 (Kd.S kTN 28 wr w.heap.size (fun k=>w.heap.size≤k) s3 (l0.take kk))∧Aside0 (Below w.heap.size w wr))
 case atStart=>exact ⟨0,Nat.zero_le _,by omega,rfl,HO,HB⟩
 case round =>
  obtain ⟨kk,hkk,hgg,rfl,HG,BW⟩:=hrel
  obtain ⟨A3,c3,hv3⟩:=Kd.S_slice HG.out
  rw [lt_,Nat.min_eq_left hkk] at hv3
  subst hv3
  by_cases hlt:kk<l0.length
  case pos =>
   have hltz:(kk:Int)<(l0.length:Int):=by omega
   obtain ⟨ad,cs,e,hcl,hK,hc⟩:=Kd.C_get HC.out z28 (kk:Int) (by omega) (by omega)
   rw [Int.toNat_natCast] at hK hc
   have hfy:=HALL.out _ (Kit.getD_mem z28 hlt)
   have htk:l0.take (kk+1)=l0.take kk++[l0.getD kk z28]:=by
    rw [List.getD_eq_getElem?_getD,List.getElem?_eq_getElem hlt,List.take_add_one,List.getElem?_eq_getElem hlt]
    rfl
   have HTK:=A_ htk
   clear htk
   generalize l0.getD kk z28=x at *
   obtain ⟨A4,c4,A5,c5,rfl,m4,q4,m5,q5⟩:=k28_open hK
   subst e
   have r0:wr.cell? (ad.add (kk * 6))=some (.int .i64 x.f0):=pc_ BW.out (hc 0 _ rfl)
   have r1:wr.cell? ⟨(ad.add (kk * 6)).block,(ad.add (kk * 6)).off+1,none⟩=some (.int .i64 x.f1):=pc_ BW.out ((by rw [←add_field _ _ 1 (by omega)];exact hc 1 _ rfl))
   have r2:wr.cell? ⟨(ad.add (kk * 6)).block,(ad.add (kk * 6)).off+2,none⟩=some (.string x.f2):=pc_ BW.out ((by rw [←add_field _ _ 2 (by omega)];exact hc 2 _ rfl))
   have r3:wr.cell? ⟨(ad.add (kk * 6)).block,(ad.add (kk * 6)).off+3,none⟩=some (.string x.f3):=pc_ BW.out ((by rw [←add_field _ _ 3 (by omega)];exact hc 3 _ rfl))
   have r4:wr.cell? ⟨(ad.add (kk * 6)).block,(ad.add (kk * 6)).off+4,none⟩=some (.slice A4 x.f4.length c4):=pc_ BW.out ((by rw [←add_field _ _ 4 (by omega)];exact hc 4 _ rfl))
   have r5:wr.cell? ⟨(ad.add (kk * 6)).block,(ad.add (kk * 6)).off+5,none⟩=some (.slice A5 x.f5.length c5):=pc_ BW.out ((by rw [←add_field _ _ 5 (by omega)];exact hc 5 _ rfl))
   have QN:=A_ (IH.out x A4 c4 A5 c5 (wr.alloc (.cells #[.int .i64 x.f0,.int .i64 x.f1,.string x.f2,.string x.f3,.slice A4 x.f4.length c4,.slice A5 x.f5.length c5] 28 (0,0))) hfy (cb_ (cb_ q4 BW.out) (ba_ (Below.refl _ _) _)) (cb_ (cb_ q5 BW.out) (ba_ (Below.refl _ _) _)))
   have hszr:(wr.alloc (.cells #[.int .i64 x.f0,.int .i64 x.f1,.string x.f2,.string x.f3,.slice A4 x.f4.length c4,.slice A5 x.f5.length c5] 28 (0,0))).heap.size=wr.heap.size+1:=by rw [World.size_alloc]
   have HSR:=A_ hszr
   have BW1:=A_ (ba_ BW.out (.cells #[.int .i64 x.f0,.int .i64 x.f1,.string x.f2,.string x.f3,.slice A4 x.f4.length c4,.slice A5 x.f5.length c5] 28 (0,0)))
   have BR1:=A_ (ba_ (Below.refl wr.heap.size wr) (.cells #[.int .i64 x.f0,.int .i64 x.f1,.string x.f2,.string x.f3,.slice A4 x.f4.length c4,.slice A5 x.f5.length c5] 28 (0,0)))
   have HLT:=A_ hlt
   clear hc hK hcl m4 q4 m5 q5 hfy hszr hlt
   go_wp2_with (first|(go_at_call 30;(with_reducible refine QN.out.mono ?_);rintro e w2 ⟨A6,c6,A7,c7,rfl,hm,hb⟩;(have HM:=A_ hm);(have HB2:=A_ (bp_ BW1.out hb));(have HR2:=A_ (bp_ BR1.out hb));clear hm hb)|((with_reducible refine gate_builtin (b:=.append) (xs:=#[.tmp 13,.tmp 16]) rfl ?_);at_builtin;refine Sep.S_append kTN (w0:=w) w.heap.size rfl (.tmp 13) (.tmp 16) 26 28 (.agg #[(.int .i64 0),(.int .i64 0),(.string ⟨#[]⟩),(.string ⟨#[]⟩),(.slice none 0 0),(.slice none 0 0)]) 96 rfl Try.underlying26 infoCl rfl (by decide) (by omega) (.slice A3 kk c3) (l0.take kk) x [.int .i64 x.f0,.int .i64 x.f1,.string x.f2,.string x.f3,.slice A6 x.f4.length c6,.slice A7 x.f5.length c7] (fun k=>w.heap.size≤k) (fun k=>wr.heap.size+1≤k) rfl ?hx ?aP ?aK ?aF ?aO ?aB ?aS ?aL ?_;(case hx=>first|rfl|(go_simp;done)|(simp;done)|(go_simp;rfl));(case aP=>exact kTN.M_mono (fun k hk=>by (have:=HSR.out);omega) (kTN.M_lower BW1.out.size HM.out));(case aK=>exact (fun k hk=>by (have:=BW.out.size);omega));(case aF=>exact (fun k hk=>Nat.le_trans HB2.out.size hk));(case aO=>exact Kd.S_below (Kd.S_mono (Kd.S_bound HG.out) (fun k hk=>⟨hk.1,by (have:=hk.2.2.1);omega⟩)) HR2.out);(case aB=>exact HB2.out);(case aS=>exact HB2.out.size);(case aL=>rw [lt_];(have:=HN.out);omega);intro v9 w9 ho hb _ _;rw [←HTK.out] at ho;(have HO9:=A_ ho);(have HB9:=A_ hb);clear ho hb))
   go_roundg (l0.length - (kk+1))
   case measure=>have:=HLT.out;omega
   case rel=>exact ⟨kk+1,by have:=HLT.out;omega,by omega,by go_num,HO9,HB9⟩
  case neg =>
   have hltz:¬ (kk:Int)<(l0.length:Int):=by omega
   have HE:Aside0 (l0.take kk=l0):=⟨List.take_of_length_le (by omega)⟩
   go_wp2
   go_ret
   exact ⟨_,rfl,by rw [HE.out] at HG;exact HG.out,BW.out⟩
theorem cloned_both:∀ n,clonedC n∧clonedTreeC n
 | 0=>⟨fun x A4 c4 A5 c5 w hf=>(by cases hf),clonedTree_step 0 (fun x A4 c4 A5 c5 w hf=>(by cases hf))⟩
 | n+1=>⟨cloned_step n (cloned_both n).2,clonedTree_step (n+1) (cloned_step n (cloned_both n).2)⟩
/-! ### impl_edited: function 41, by hand -/
/-- What edited hands back: the tree that came in, or nil. -/
def edRes (b:Bool) (v:Value):Value:=if b then v else .slice none 0 0
theorem edited_calls (A0:Option Addr) (c0:Nat) (l0:List S28) (b:Bool) (w:World) (hr0:Kd.C k28 w A0 l0.length l0) (hc0:l0.length≤c0) (h:impl_TreeOK.f l0=some b) :
 Calls Try.prog 41 #[.slice A0 l0.length c0] w fun e w'=>e=.returned (.tuple #[edRes b (.slice A0 l0.length c0),.int .i64 (if b then 0 else 7)])∧Below w.heap.size w w':=by
 have QT:=A_ (impl_TreeOK.calls A0 c0 l0 b w hr0 hc0 h)
 clear hr0 hc0 h
 generalize l0.length=n0 at *
 cases b
 all_goals
  go_enter Try.func41,Try.ntmps41
  go_wp2_with (go_at_call 47;(with_reducible refine QT.out.mono ?_);rintro e w1 ⟨rfl,hb⟩;(have HB:=A_ hb);clear hb)
  go_ret2
  exact ⟨rfl,HB.out⟩
end Go.Proofs.Ytbeplhbkoaopgaa.PFnExactSetWords
