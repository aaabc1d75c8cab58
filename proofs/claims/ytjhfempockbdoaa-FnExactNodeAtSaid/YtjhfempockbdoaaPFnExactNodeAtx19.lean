/- By a program of this session, out of the kit's print and contracts made by hand: the machine side of a law; Lean checks it. No conditions. -/
import Derived.Test.YtjhfempockbdoaaPFnExactNodeAtx0
import Derived.Test.YtjhfempockbdoaaPFnExactNodeAtx18
namespace Go.Proofs.Ytjhfempockbdoaa.PFnExactNodeAt
open Go.RowKit Go.Proofs.YtjhfempockbdoaaW.PrintWords Go.Proofs.YtjhfempockbdoaaW.PrintLast Go.Proofs.YtjhfempockbdoaaW.PrintMore
attribute [local go_sem] max2_int min2_int max_two min_two max_three min_three max_four min_four
set_option linter.unusedVariables false
set_option linter.unusedSimpArgs false
/-! ### impl_TreeOK: function 33, by hand -/
def treeB (l:List S28):Bool:=(kidsI (nodeI 10) l 0).1
def impl_TreeOK.f (l0:List S28):Option Bool:=if ∀ y∈l0,fitB 10 y=true then some (treeB l0) else none
theorem impl_TreeOK.fit {l0:List S28} (h:∀ y∈l0,fitB 10 y=true):impl_TreeOK.f l0=some (treeB l0):=by
 unfold impl_TreeOK.f
 rw [if_pos h]
set_option maxHeartbeats 1000000 in
theorem impl_TreeOK.calls (A0:Option Addr) (c0:Nat) (l0:List S28) (r:Bool) (w:World) (hr0:Kd.C k28 w A0 l0.length l0) (hc0:l0.length≤c0) (h:impl_TreeOK.f l0=some r) :
 Calls Try.prog 33 #[.slice A0 l0.length c0] w fun e w'=>e=.returned (.bool r)∧Below w.heap.size w w':=by
 by_cases hfit:∀ y∈l0,fitB 10 y=true
 case neg =>
  unfold impl_TreeOK.f at h
  rw [if_neg hfit] at h
  cases h
 case pos =>
  rw [impl_TreeOK.fit hfit] at h
  obtain rfl:=oi_ h
  unfold treeB
  obtain ⟨R,hR⟩:∃ R,kidsI (nodeI 10) l0 0=R:=⟨_,rfl⟩
  rw [hR]
  have HR:=A_ hR
  have hL:l0.length≤9223372036854775807:=hr0.2.1
  have HFIT:=A_ hfit
  have HR0:=A_ hr0
  clear hR h hfit hr0 hc0
  have HG0:Aside0 ((w.alloc (.cells #[.int .i64 0] 3)).heap[w.heap.size]? = some (.cells #[.int .i64 0] 3 (0,0))):=⟨blk_new w _⟩
  have HB0:Aside0 (Below w.heap.size w (w.alloc (.cells #[.int .i64 0] 3))):=⟨ba_ (Below.refl _ _) _⟩
  go_enter Try.func33,Try.ntmps33
  go_wp2
  go_loopg [5,8] l0.length (fun gg _ s8 wr=>∃ (kk:Nat) (cc:Int),kk≤l0.length∧l0.length - kk≤gg∧s8=.int .i64 kk∧0≤cc∧cc≤60∧Aside0 (kidsI (nodeI 10) (l0.drop kk) cc=R)∧Aside0 (wr.heap[w.heap.size]? = some (.cells #[.int .i64 cc] 3 (0,0)))∧Aside0 (Below w.heap.size w wr))
  case atStart=>exact ⟨0,0,Nat.zero_le _,by omega,rfl,by omega,by omega,HR,HG0,HB0⟩
  case round =>
   obtain ⟨kk,cc,hkk,hgg,rfl,z0,z1,KI,HG,BW⟩:=hrel
   by_cases hlt:kk<l0.length
   case pos =>
    have hltz:(kk:Int)<(l0.length:Int):=by omega
    obtain ⟨ad,cs,e,hcl,hK,hc⟩:=Kd.C_get HR0.out z28 (kk:Int) (by omega) (by omega)
    rw [Int.toNat_natCast] at hK hc
    have hdr:l0.drop kk=l0.getD kk z28 :: l0.drop (kk+1):=by rw [List.getD_eq_getElem?_getD,List.getElem?_eq_getElem hlt];exact List.drop_eq_getElem_cons hlt
    have hmem:l0.getD kk z28∈l0:=by rw [List.getD_eq_getElem?_getD,List.getElem?_eq_getElem hlt];exact List.getElem_mem hlt
    have KI2:=KI.out
    rw [hdr,kidsI] at KI2
    have hky:=HFIT.out _ hmem
    clear KI hdr hmem
    generalize l0.getD kk z28=y at *
    obtain ⟨yA4,yc4,yA5,yc5,rfl,m4,q4,m5,q5⟩:=k28_open hK
    subst e
    have r0:wr.cell? (ad.add (kk * 6))=some (.int .i64 y.f0):=pc_ BW.out (hc 0 _ rfl)
    have r1:wr.cell? ⟨(ad.add (kk * 6)).block,(ad.add (kk * 6)).off+1,none⟩=some (.int .i64 y.f1):=pc_ BW.out (by rw [←add_field _ _ 1 (by omega)];exact hc 1 _ rfl)
    have r2:wr.cell? ⟨(ad.add (kk * 6)).block,(ad.add (kk * 6)).off+2,none⟩=some (.string y.f2):=pc_ BW.out (by rw [←add_field _ _ 2 (by omega)];exact hc 2 _ rfl)
    have r3:wr.cell? ⟨(ad.add (kk * 6)).block,(ad.add (kk * 6)).off+3,none⟩=some (.string y.f3):=pc_ BW.out (by rw [←add_field _ _ 3 (by omega)];exact hc 3 _ rfl)
    have r4:wr.cell? ⟨(ad.add (kk * 6)).block,(ad.add (kk * 6)).off+4,none⟩=some (.slice yA4 y.f4.length yc4):=pc_ BW.out (by rw [←add_field _ _ 4 (by omega)];exact hc 4 _ rfl)
    have r5:wr.cell? ⟨(ad.add (kk * 6)).block,(ad.add (kk * 6)).off+5,none⟩=some (.slice yA5 y.f5.length yc5):=pc_ BW.out (by rw [←add_field _ _ 5 (by omega)];exact hc 5 _ rfl)
    have QN:=A_ (impl_Node_isNode.holds 10 y yA4 yc4 yA5 yc5 1 cc w (wr.alloc (.cells #[.int .i64 y.f0,.int .i64 y.f1,.string y.f2,.string y.f3,.slice yA4 y.f4.length yc4,.slice yA5 y.f5.length yc5] 28)) w.heap.size (by omega) (by omega) hky z0 z1 (ba_ BW.out _) (Nat.le_refl _) (ka_ HG.out _) q4 m4 q5 m5)
    have hbd:=nodeI_bd 10 y cc z0 z1
    clear hc hK hcl hky q4 q5 m4 m5
    obtain ⟨b,hb⟩:∃ b,(nodeI 10 y cc).1=b:=⟨_,rfl⟩
    rw [hb] at QN hbd KI2
    generalize (nodeI 10 y cc).2=c2 at *
    have KI3:=A_ KI2
    clear KI2 hb
    have HBD:=A_ hbd
    clear hbd
    cases b with
    | false =>
     have KI4:Aside0 ((false,c2)=R):=⟨by have h:=KI3.out;rwa [if_neg Bool.false_ne_true] at h⟩
     clear KI3 HBD
     go_wp2_with (go_at_call 42;(with_reducible refine QN.out.mono ?_);rintro e v9 ⟨rfl,hg9,hv9⟩;have HG9:=A_ hg9;have HV9:=A_ hv9;clear hg9 hv9)
     go_ret
     obtain rfl:=KI4.out
     exact ⟨rfl,HV9.out⟩
    | true =>
     have KI4:Aside0 (kidsI (nodeI 10) (l0.drop (kk+1)) c2=R):=⟨by have h:=KI3.out;rwa [if_pos rfl] at h⟩
     have B0:=(HBD.out rfl).1
     have B1:=(HBD.out rfl).2
     clear KI3 HBD
     go_wp2_with (go_at_call 42;(with_reducible refine QN.out.mono ?_);rintro e v9 ⟨rfl,hg9,hv9⟩;have HG9:=A_ hg9;have HV9:=A_ hv9;clear hg9 hv9)
     go_roundg (l0.length - (kk+1))
     case measure=>omega
     case rel=>exact ⟨kk+1,c2,by omega,by omega,by go_num,B0,B1,KI4,HG9,HV9⟩
   case neg =>
    have hltz:¬ (kk:Int)<(l0.length:Int):=by omega
    have KI2:=KI.out
    rw [List.drop_eq_nil_of_le (by omega),kidsI] at KI2
    have KI3:=A_ KI2
    clear KI2
    go_wp2
    go_ret
    obtain rfl:=KI3.out
    exact ⟨rfl,BW.out⟩
/-! ### impl_fault: function 21 -/
def impl_fault.f (l0:List (S28)):Option (Int):=if (l0.length:Int)>4096 then (some 2) else ((impl_TreeOK.f l0).bind fun t213=>(if t213=true then (some 0) else (some 1)))
set_option maxHeartbeats 8000000 in
set_option maxRecDepth 100000 in
theorem impl_fault.calls (A0:Option Addr) (c0:Nat) (l0:List (S28)) (r:Int) (w:World) (hr0:Kd.C k28 w A0 l0.length l0) (hc0:l0.length≤c0) (h:impl_fault.f l0=some r) :
 Calls Try.prog 21 #[.slice A0 l0.length c0] w fun e w'=>e=.returned (.int .i64 r)∧Below w.heap.size w w':=by
 have HR0:=A_ hr0
 have HC0:=A_ hc0
 clear hr0 hc0
 have HB:=A_ (Below.refl w.heap.size w)
 have H:(if (l0.length:Int)>4096 then (some 2) else ((impl_TreeOK.f l0).bind fun t213=>(if t213=true then (some 0) else (some 1))))=some r:=h
 clear h
 by_cases c2:(l0.length:Int)>4096
 ·rw [if_pos c2] at H
  have c2b0:decide (4096<(l0.length:Int))=true:=dt_ c2
  have c2b1:decide (4096<l0.length)=true:=dt_ (by omega)
  clear c2
  obtain rfl:=oi_ H
  go_enter Try.func21,Try.ntmps21
  go_wp2
  go_ret
  exact ⟨by first|rfl|(simp [errW_none,errW_some] <;> rfl)|(simp [*,errW_none,errW_some] <;> rfl),by repeat (first|(with_reducible first|exact HB.out|apply ba_|apply pd_|apply b1_)|exact HB.out)⟩
 ·rw [if_neg c2] at H
  have c2b0:decide (4096<(l0.length:Int))=false:=df_ c2
  have c2b1:decide (4096<l0.length)=false:=df_ (by omega)
  clear c2
  replace H:=ob_ H
  obtain ⟨t213,A30,H⟩:=H
  replace H:(if t213=true then (some 0) else (some 1))=some r:=H
  have A3:=A_ A30
  clear A30
  by_cases c4:t213=true
  ·subst c4
   have H1:(some 0)=some r:=by rw [if_pos rfl] at H;exact H
   clear H
   have H:=H1
   clear H1
   obtain rfl:=oi_ H
   go_enter Try.func21,Try.ntmps21
   go_wp2_with (first|((with_reducible refine gate_callee (f:=33) rfl ?_);refine goesL_ (some 9) rfl rfl Try.func33 (by kernel_rfl) rfl #[.slice A0 l0.length c0] rfl (by (try simp only [List.map_toArray,List.map_cons,List.map_nil]);first|done|rfl|(simp only [ld_,lt_];rfl)) ?_;(with_reducible refine (impl_TreeOK.calls _ _ l0 true _ ?side1 ?side2 A3.out).mono ?_);(case side1=>repeat (first|exact HR0.out|(with_reducible refine ca_ ?_ _)|(with_reducible refine cn_ ?_ _)|(with_reducible refine cd_ ?_)));(case side2=>exact HC0.out);rintro e w5 ⟨rfl,hb⟩;refine ⟨_,rfl,?_⟩;have n0_:=A_ (bp_ (by repeat (first|(with_reducible first|exact HB.out|apply ba_|apply pd_|apply b1_)|exact HB.out)) hb);clear HB;have HB:=n0_;clear n0_;(try clear hb);(try clear hb2);(try clear hk);(try clear hi)))
   go_ret
   exact ⟨by first|rfl|(simp [errW_none,errW_some] <;> rfl)|(simp [*,errW_none,errW_some] <;> rfl),by repeat (first|(with_reducible first|exact HB.out|apply ba_|apply pd_|apply b1_)|exact HB.out)⟩
  ·replace c4:=bm_ c4
   subst c4
   have H1:(some 1)=some r:=by rw [if_neg (show ¬ (false=true) by decide)] at H;exact H
   clear H
   have H:=H1
   clear H1
   obtain rfl:=oi_ H
   go_enter Try.func21,Try.ntmps21
   go_wp2_with (first|((with_reducible refine gate_callee (f:=33) rfl ?_);refine goesL_ (some 9) rfl rfl Try.func33 (by kernel_rfl) rfl #[.slice A0 l0.length c0] rfl (by (try simp only [List.map_toArray,List.map_cons,List.map_nil]);first|done|rfl|(simp only [ld_,lt_];rfl)) ?_;(with_reducible refine (impl_TreeOK.calls _ _ l0 false _ ?side1 ?side2 A3.out).mono ?_);(case side1=>repeat (first|exact HR0.out|(with_reducible refine ca_ ?_ _)|(with_reducible refine cn_ ?_ _)|(with_reducible refine cd_ ?_)));(case side2=>exact HC0.out);rintro e w6 ⟨rfl,hb⟩;refine ⟨_,rfl,?_⟩;have n0_:=A_ (bp_ (by repeat (first|(with_reducible first|exact HB.out|apply ba_|apply pd_|apply b1_)|exact HB.out)) hb);clear HB;have HB:=n0_;clear n0_;(try clear hb);(try clear hb2);(try clear hk);(try clear hi)))
   go_ret
   exact ⟨by first|rfl|(simp [errW_none,errW_some] <;> rfl)|(simp [*,errW_none,errW_some] <;> rfl),by repeat (first|(with_reducible first|exact HB.out|apply ba_|apply pd_|apply b1_)|exact HB.out)⟩
/-! ### laws_markText: function 25 -/
def laws_markText.l0:Nat→Int→ByteArray→Option (ByteArray)
 | 0,_,_=>none
 | k+1,x0,x3=>if x0>0 then ((some (([(wrap64 (48+(Int.tmod x0 10))) % 256]:List Int):List Int)).bind fun y214=>(if (strOfNums y214).size+x3.size≤9223372036854775807 then (laws_markText.l0 k (wrap64 (Int.tdiv x0 10)) ((strOfNums y214)++x3)) else (none))) else (if 1+x3.size≤9223372036854775807 then (some ((⟨#[109]⟩:ByteArray)++x3)) else (none))
def laws_markText.f (k:Nat) (a0:Int):Option (ByteArray):=if a0≤0 then (some (⟨#[109,48]⟩:ByteArray)) else (laws_markText.l0 k a0 (⟨#[]⟩:ByteArray))
theorem laws_markText.mono_l:∀ k,(∀ y0 y1,LeO (laws_markText.l0 k y0 y1) (laws_markText.l0 (k+1) y0 y1))
 | 0=>fun _ _ r h=>by simp [laws_markText.l0] at h
 | k+1=>by
  have ih0:=laws_markText.mono_l k
  ·intro y0 y1
   unfold laws_markText.l0
   repeat' first
   | (with_reducible exact ih0 _ _)
   | (with_reducible exact LeO.refl _)
   | (with_reducible exact LeO.none _)
   | (with_reducible refine LeO.ite ?_ ?_)
   | (with_reducible refine LeO.bind ?_ (fun _=>?_))
   | exact ih0 _ _
   | exact LeO.none _
   | refine LeO.ite ?_ ?_
   | refine LeO.bind ?_ (fun _=>?_)
theorem laws_markText.mono:∀ a0 k,LeO (laws_markText.f k a0) (laws_markText.f (k+1) a0):=by
 intro a0 k
 have ih0:=laws_markText.mono_l k
 unfold laws_markText.f
 repeat' first
  | (with_reducible exact ih0 _ _)
  | (with_reducible exact LeO.refl _)
  | (with_reducible exact LeO.none _)
  | (with_reducible refine LeO.ite ?_ ?_)
  | (with_reducible refine LeO.bind ?_ (fun _=>?_))
  | exact ih0 _ _
  | exact LeO.none _
  | refine LeO.ite ?_ ?_
  | refine LeO.bind ?_ (fun _=>?_)
set_option maxHeartbeats 8000000 in
set_option maxRecDepth 100000 in
theorem laws_markText.calls (k:Nat) (a0:Int) (r:ByteArray) (w:World) (h:laws_markText.f k a0=some r) :
 Calls Try.prog 25 #[.int .i64 a0] w fun e w'=>e=.returned (.string r)∧Below w.heap.size w w':=by
 have HB:=A_ (Below.refl w.heap.size w)
 have H:(if a0≤0 then (some (⟨#[109,48]⟩:ByteArray)) else (laws_markText.l0 k a0 (⟨#[]⟩:ByteArray)))=some r:=h
 clear h
 by_cases c2:a0≤0
 ·rw [if_pos c2] at H
  have c2b0:decide (a0≤0)=true:=dt_ c2
  clear c2
  obtain rfl:=oi_ H
  go_enter Try.func25,Try.ntmps25
  go_wp2
  go_ret
  exact ⟨by first|rfl|(simp [errW_none,errW_some] <;> rfl)|(simp [*,errW_none,errW_some] <;> rfl),by repeat (first|(with_reducible first|exact HB.out|apply ba_|apply pd_|apply b1_)|exact HB.out)⟩
 ·rw [if_neg c2] at H
  have c2b0:decide (a0≤0)=false:=df_ c2
  clear c2
  have H':=A_ H
  clear H
  go_enter Try.func25,Try.ntmps25
  go_wp2
  go_loopg [0,3] k (fun kq v0 v3 w'=>∃ (x0_1:Int) (x3_1:ByteArray),v0=.int .i64 x0_1∧v3=.string x3_1∧Aside0 (laws_markText.l0 kq x0_1 x3_1=some r)∧Aside0 (kq≤k)∧Aside0 (Below w.heap.size w w'))
  case atStart=>exact ⟨(a0),((⟨#[]⟩:ByteArray)),(by first|rfl|(simp;done)|(simp [*];done)),(by first|rfl|(simp;done)|(simp [*];done)),H',⟨Nat.le_refl _⟩,⟨by repeat (first|(with_reducible first|exact HB.out|apply ba_|apply pd_|apply b1_)|exact HB.out)⟩⟩
  case round =>
   clear H'
   try clear c2
   try clear c2b0
   try clear p2
   obtain ⟨x0_1,x3_1,rfl,rfl,HA,HK1,HB⟩:=hrel
   cases gk with
   | zero=>exact absurd HA.out (by simp [laws_markText.l0])
   | succ k1 =>
    have H:=HA.out
    clear HA
    simp only [laws_markText.l0] at H
    by_cases c3:x0_1>0
    ·rw [if_pos c3] at H
     have c3b0:decide (0<x0_1)=true:=dt_ c3
     clear c3
     obtain ⟨y214,hy214⟩:∃ y_:List Int,y_=(([(wrap64 (48+(Int.tmod x0_1 10))) % 256]:List Int)):=⟨_,rfl⟩
     replace H:(if (strOfNums y214).size+x3_1.size≤9223372036854775807 then (laws_markText.l0 k1 (wrap64 (Int.tdiv x0_1 10)) ((strOfNums y214)++x3_1)) else (none))=some r:=by first|(rw [hy214];with_reducible exact H)|(have H2_:=(Option.bind_some _ _).symm.trans H;rw [hy214];with_reducible exact H2_)|(have H2_:=(Option.bind_some _ _).symm.trans H;with_reducible exact H2_)|with_reducible exact H|(rw [hy214];exact H)|exact H
     have Ny214:=A_ hy214
     clear hy214
     by_cases c4:(strOfNums y214).size+x3_1.size≤9223372036854775807
     ·rw [if_pos c4] at H
      have c4b0:=eq_true c4
      have c4b1:decide ((strOfNums y214).size+x3_1.size≤9223372036854775807)=true:=dt_ c4
      try have c4b2:(9223372036854775807<(strOfNums y214).size+x3_1.size)=False:=eq_false (Nat.not_lt.2 c4)
      have H':=A_ H
      clear H
      go_wp2_with (first|((with_reducible refine gate_dst (N:=12) rfl ?_);refine Kd.R_lit (Kd.int .u8) _ 5 ?hg (N:=12) ?hd (xs:=([(wrap64 (48+(Int.tmod x0_1 10))) % 256]:List Int)) (inner:=[.int .u8 ((wrap64 (48+(Int.tmod x0_1 10))) % 256)]) (ok:=fun _=>True) (okp:=fun _=>True) ?hr ?hp (fun _ hk=>hk) trivial (Below.refl _ _) (Nat.le_refl _) (by simp) ?_;(case hd=>rfl);(case hg=>rfl);(case hr=>first|(go_simp;done)|(go_simp;rfl)|(first|(go_simp;done)|(go_simp;rfl)));(case hp=>exact (Reps.one (show Kd.M (Kd.int .u8) _ _ _ ((wrap64 (48+(Int.tmod x0_1 10))) % 256) [.int .u8 ((wrap64 (48+(Int.tmod x0_1 10))) % 256)] from rfl) (Reps.none _ _)));intro v215 w5 ho6 hb hg_ hnew_;clear hg_ hnew_;(first|rw [←Ny214.out] at ho6|(simp only [Int.reduceToNat] at ho6;rw [←Ny214.out] at ho6));have n0_:=A_ (Kd.R_lower ho6 (bz_ (by repeat (first|(with_reducible first|exact HB.out|apply ba_|apply pd_|apply b1_)|exact HB.out))));have n1_:=A_ (bp_ (by repeat (first|(with_reducible first|exact HB.out|apply ba_|apply pd_|apply b1_)|exact HB.out)) hb);clear HB;have HO216:=n0_;have HB:=n1_;clear n0_ n1_;clear hb ho6;have hcv7:=own_string (P:=Try.prog) Try.underlying65 Try.underlying5 Try.underlying9 (Kd.own_of_R HO216.out)))
      go_roundg k1
      case measure=>have:=HK1.out;omega
      case rel=>exact ⟨(wrap64 (Int.tdiv x0_1 10)),((strOfNums y214)++x3_1),(by first|rfl|(simp;done)|(simp [*];done)),(by first|rfl|(simp;done)|(simp [*];done)),H',⟨by have:=HK1.out;omega⟩,⟨by repeat (first|(with_reducible first|exact HB.out|apply ba_|apply pd_|apply b1_)|exact HB.out)⟩⟩
     ·rw [if_neg c4] at H
      exact absurd H (by simp)
    ·rw [if_neg c3] at H
     have c3b0:decide (0<x0_1)=false:=df_ c3
     clear c3
     by_cases c8:1+x3_1.size≤9223372036854775807
     ·rw [if_pos c8] at H
      have c8b0:=eq_true c8
      have c8b1:decide (1+x3_1.size≤9223372036854775807)=true:=dt_ c8
      try have c8b2:(9223372036854775807<1+x3_1.size)=False:=eq_false (Nat.not_lt.2 c8)
      obtain rfl:=oi_ H
      go_wp2
      go_ret
      exact ⟨by first|rfl|(simp [errW_none,errW_some] <;> rfl)|(simp [*,errW_none,errW_some] <;> rfl),by repeat (first|(with_reducible first|exact HB.out|apply ba_|apply pd_|apply b1_)|exact HB.out)⟩
     ·rw [if_neg c8] at H
      exact absurd H (by simp)
/-! ### laws_markAttrS: function 26 -/
def laws_markAttrS.l0:Nat→List (S63)→Int→Int→Option (Int × (List (S63)))
 | 0,_,_,_=>none
 | k+1,x0,x1,x5=>if x5<(x0.length:Int) then ((laws_markText.f k x1).bind fun t217=>(if 0≤x5 then ((some (x0.set (x5:Int).toNat (⟨t217,(rd_T63 x0 x5).f1⟩:S63):List (S63))).bind fun y218=>((laws_markText.f k (wrap64 (x1+1))).bind fun t219=>(laws_markAttrS.l0 k (y218.set (x5:Int).toNat (⟨(rd_T63 y218 x5).f0,t219⟩:S63)) (wrap64 ((wrap64 (x1+1))+1)) (wrap64 (x5+1))))) else (none))) else (some (x1,x0))
def laws_markAttrS.f (k:Nat) (l0:List (S63)) (a1:Int):Option (Int × (List (S63))):=laws_markAttrS.l0 k l0 a1 0
theorem laws_markAttrS.mono_l:∀ k,(∀ y0 y1 y2,LeO (laws_markAttrS.l0 k y0 y1 y2) (laws_markAttrS.l0 (k+1) y0 y1 y2))
 | 0=>fun _ _ _ r h=>by simp [laws_markAttrS.l0] at h
 | k+1=>by
  have ih0:=laws_markAttrS.mono_l k
  ·intro y0 y1 y2
   unfold laws_markAttrS.l0
   repeat' first
   | (with_reducible exact ih0 _ _ _)
   | (with_reducible exact laws_markText.mono _ _)
   | (with_reducible exact LeO.refl _)
   | (with_reducible exact LeO.none _)
   | (with_reducible refine LeO.ite ?_ ?_)
   | (with_reducible refine LeO.bind ?_ (fun _=>?_))
   | exact ih0 _ _ _
   | exact laws_markText.mono _ _
   | exact LeO.none _
   | refine LeO.ite ?_ ?_
   | refine LeO.bind ?_ (fun _=>?_)
theorem laws_markAttrS.mono:∀ a0 a1 k,LeO (laws_markAttrS.f k a0 a1) (laws_markAttrS.f (k+1) a0 a1):=by
 intro a0 a1 k
 have ih0:=laws_markAttrS.mono_l k
 unfold laws_markAttrS.f
 repeat' first
  | (with_reducible exact ih0 _ _ _)
  | (with_reducible exact laws_markText.mono _ _)
  | (with_reducible exact LeO.refl _)
  | (with_reducible exact LeO.none _)
  | (with_reducible refine LeO.ite ?_ ?_)
  | (with_reducible refine LeO.bind ?_ (fun _=>?_))
  | exact ih0 _ _ _
  | exact laws_markText.mono _ _
  | exact LeO.none _
  | refine LeO.ite ?_ ?_
  | refine LeO.bind ?_ (fun _=>?_)
set_option maxHeartbeats 8000000 in
set_option maxRecDepth 100000 in
theorem laws_markAttrS.calls (k:Nat) (P0_:Nat→Prop) (u9000_:Value) (l0:List (S63)) (a1:Int) (r1:Int) (r2:List (S63)) (w0 w:World) (hB:Below w0.heap.size w0 w) (ho0:Kd.R k63 63 w w0.heap.size P0_ u9000_ l0) (h:laws_markAttrS.f k l0 a1=some (r1,r2)) :
 Calls Try.prog 26 #[u9000_,.int .i64 a1] w fun e w'=>e=.returned (.int .i64 r1)∧Kd.R k63 63 w' w0.heap.size (fun k_=>(P0_ k_∨w.heap.size≤k_)) u9000_ r2∧Below w0.heap.size w0 w'∧Kept w w' (fun k_=>P0_ k_):=by
 have HO0:=A_ (show Kd.R k63 63 w w0.heap.size (fun k_=>(P0_ k_∨w.heap.size≤k_)) u9000_ l0 from Kd.R_mono ho0 (fun k_ hk=>(.inl hk)))
 have HK:=A_ (Kept.refl w (fun k_=>P0_ k_))
 have HW0:=A_ hB.size
 have HB:=A_ hB
 clear hB
 have H:(laws_markAttrS.l0 k l0 a1 0)=some (r1,r2):=h
 clear h
 have H':=A_ H
 clear H
 go_enter Try.func26,Try.ntmps26
 go_wp2
 go_loopg [1,5] k (fun kq v1 v5 w'=>∃ (x0_1:List (S63)) (x1_1:Int) (x5_1:Int),v1=.int .i64 x1_1∧v5=.int .i64 x5_1∧Aside0 (laws_markAttrS.l0 kq x0_1 x1_1 x5_1=some (r1,r2))∧Aside0 (kq≤k)∧Aside0 (Kd.R k63 63 w' w0.heap.size (fun k_=>(P0_ k_∨w.heap.size≤k_)) u9000_ x0_1)∧Aside0 (Kept w w' (fun k_=>P0_ k_))∧Aside0 (Below w0.heap.size w0 w'))
 case atStart=>exact ⟨(l0),(a1),(0),(by first|rfl|(simp;done)|(simp [*];done)),(by first|rfl|(simp;done)|(simp [*];done)),H',⟨Nat.le_refl _⟩,⟨by (with_reducible repeat (first|apply Kd.R_alloc|apply Kd.R_drewN|apply Kd.R_drew));exact HO0.out⟩,⟨by repeat (first|(with_reducible first|exact HK.out|apply Kept.alloc|apply Kept.drewN|apply Kept.drew)|exact HK.out)⟩,⟨by repeat (first|(with_reducible first|exact HB.out|apply ba_|apply pd_|apply b1_)|exact HB.out)⟩⟩
 case round =>
  clear H'
  try clear c2
  try clear p2
  obtain ⟨x0_1,x1_1,x5_1,rfl,rfl,HA,HK1,HO_0,HK,HB⟩:=hrel
  cases gk with
  | zero=>exact absurd HA.out (by simp [laws_markAttrS.l0])
  | succ k1 =>
   have H:=HA.out
   clear HA
   simp only [laws_markAttrS.l0] at H
   by_cases c3:x5_1<(x0_1.length:Int)
   ·rw [if_pos c3] at H
    have c3b0:decide (x5_1<(x0_1.length:Int))=true:=dt_ c3
    clear c3
    replace H:=ob_ H
    obtain ⟨t217,A40,H⟩:=H
    replace H:(if 0≤x5_1 then ((some (x0_1.set (x5_1:Int).toNat (⟨t217,(rd_T63 x0_1 x5_1).f1⟩:S63):List (S63))).bind fun y218=>((laws_markText.f k1 (wrap64 (x1_1+1))).bind fun t219=>(laws_markAttrS.l0 k1 (y218.set (x5_1:Int).toNat (⟨(rd_T63 y218 x5_1).f0,t219⟩:S63)) (wrap64 ((wrap64 (x1_1+1))+1)) (wrap64 (x5_1+1))))) else (none))=some (r1,r2):=H
    have A4:=A_ A40
    clear A40
    by_cases c5:0≤x5_1
    ·rw [if_pos c5] at H
     have c5b0:decide (0≤x5_1)=true:=dt_ c5
     clear c5
     obtain ⟨y218,hy218⟩:∃ y_:List (S63),y_=(x0_1.set (x5_1:Int).toNat (⟨t217,(rd_T63 x0_1 x5_1).f1⟩:S63)):=⟨_,rfl⟩
     replace H:((laws_markText.f k1 (wrap64 (x1_1+1))).bind fun t219=>(laws_markAttrS.l0 k1 (y218.set (x5_1:Int).toNat (⟨(rd_T63 y218 x5_1).f0,t219⟩:S63)) (wrap64 ((wrap64 (x1_1+1))+1)) (wrap64 (x5_1+1))))=some (r1,r2):=by first|(rw [hy218];with_reducible exact H)|(have H2_:=(Option.bind_some _ _).symm.trans H;rw [hy218];with_reducible exact H2_)|(have H2_:=(Option.bind_some _ _).symm.trans H;with_reducible exact H2_)|with_reducible exact H|(rw [hy218];exact H)|exact H
     have Ny218:=A_ hy218
     clear hy218
     replace H:=ob_ H
     obtain ⟨t219,A70,H⟩:=H
     replace H:(laws_markAttrS.l0 k1 (y218.set (x5_1:Int).toNat (⟨(rd_T63 y218 x5_1).f0,t219⟩:S63)) (wrap64 ((wrap64 (x1_1+1))+1)) (wrap64 (x5_1+1)))=some (r1,r2):=H
     have A7:=A_ A70
     clear A70
     obtain ⟨y220,hy220⟩:∃ y_:List (S63),y_=(y218.set (x5_1:Int).toNat (⟨(rd_T63 y218 x5_1).f0,t219⟩:S63)):=⟨_,rfl⟩
     replace H:(laws_markAttrS.l0 k1 y220 (wrap64 ((wrap64 (x1_1+1))+1)) (wrap64 (x5_1+1)))=some (r1,r2):=by first|(rw [hy220];with_reducible exact H)|(have H2_:=(Option.bind_some _ _).symm.trans H;rw [hy220];with_reducible exact H2_)|(have H2_:=(Option.bind_some _ _).symm.trans H;with_reducible exact H2_)|with_reducible exact H|(rw [hy220];exact H)|exact H
     have Ny220:=A_ hy220
     clear hy220
     have H':=A_ H
     clear H
     obtain ⟨Ao9,co9,eo9⟩:=Kd.R_slice HO_0.out
     subst eo9
     go_wp2_with (first|((with_reducible refine gate_callee (f:=25) rfl ?_);refine goesL_ (some 15) rfl rfl Try.func25 (by kernel_rfl) rfl #[.int .i64 x1_1] rfl (by (try simp only [List.map_toArray,List.map_cons,List.map_nil]);first|done|rfl|(simp only [ld_,lt_];rfl)) ?_;(with_reducible refine (laws_markText.calls k1 x1_1 t217 _ A4.out).mono ?_);rintro e w10 ⟨rfl,hb⟩;refine ⟨_,rfl,?_⟩;have n0_:=A_ (Kd.R_below (by (with_reducible repeat (first|apply Kd.R_alloc|apply Kd.R_drewN|apply Kd.R_drew));exact HO_0.out) hb);have n1_:=A_ (Kept.below (S:=(fun k_=>P0_ k_)) (by repeat (first|(with_reducible first|exact HK.out|apply Kept.alloc|apply Kept.drewN|apply Kept.drew)|exact HK.out)) hb);have n2_:=A_ (bp_ (by repeat (first|(with_reducible first|exact HB.out|apply ba_|apply pd_|apply b1_)|exact HB.out)) hb);clear HO_0;clear HK;clear HB;have HO_0:=n0_;have HK:=n1_;have HB:=n2_;clear n0_ n1_ n2_;(try clear hb);(try clear hb2);(try clear hk);(try clear hi);have p6:0≤(x5_1:Int):=od_ (by first|(with_reducible assumption)|assumption);have q6:(x5_1:Int)<((x0_1.length:Int):Int):=od_ (by first|(with_reducible assumption)|assumption);obtain ⟨go6,co6,eo6,gb6,gl6,cl6,HG6⟩:=Kd.R_form HO_0.out (by omega);(first|cases eo6|(injection eo6 with ea_ en_ ec_;(first|subst ea_|(injection ea_ with ea_;subst ea_));subst ec_;clear en_));have GB6:=A_ gb6;have GG6:=A_ HG6;clear gb6 gl6 HG6;have HMgo6:=A_ (show (P0_ go6∨w.heap.size≤go6) from (HO_0.out.1 _ rfl));obtain ⟨ce6,hcl6,hM6,hcc6,hfr6⟩:=Kd.R_elem HO_0.out z63 (x5_1:Int) p6 q6;obtain rfl:=k63_openM hM6;have hx6_0:w10.cell? ⟨go6,(x5_1:Int).toNat * 2,none⟩=some (.string ((rd_T63 x0_1 x5_1).f0)):=hcc6 0 _ rfl;have hx6_1:w10.cell? ⟨go6,(x5_1:Int).toNat * 2+1,none⟩=some (.string ((rd_T63 x0_1 x5_1).f1)):=hcc6 1 _ rfl;have hf6_0:w10.frozen? ⟨go6,(x5_1:Int).toNat * 2,none⟩=false:=hfr6 0;have hf6_1:w10.frozen? ⟨go6,(x5_1:Int).toNat * 2+1,none⟩=false:=hfr6 1;clear hcl6 hcc6 hfr6 hM6;replace p6:=eq_true p6;replace q6:=eq_true q6;have HX11:=A_ (show Kd.R k63 63 w10 w0.heap.size (fun k_=>(P0_ k_∨w.heap.size≤k_)) (.slice (some ⟨go6,0,none⟩) x0_1.length co9) x0_1 from (by (with_reducible repeat (first|apply Kd.R_alloc|apply Kd.R_drewN|apply Kd.R_drew));exact HO_0.out));obtain ⟨ce11,hcl11,hM11,hcc11,hfr11⟩:=Kd.R_elem HX11.out z63 (x5_1:Int) (od_ (by first|(with_reducible assumption)|assumption)) (by have h_:(x5_1:Int)<((x0_1.length:Int):Int):=od_ (by first|(with_reducible assumption)|assumption);first|exact h_|(have e_:=(Kd.R_reads' HO_0.out).1;omega)|simpa using h_);obtain rfl:=k63_openM hM11;have HP11:=Kd.R_seg HX11.out (x5_1:Int) (od_ (by first|(with_reducible assumption)|assumption)) (by have h_:(x5_1:Int)<((x0_1.length:Int):Int):=od_ (by first|(with_reducible assumption)|assumption);first|exact h_|(have e_:=(Kd.R_reads' HO_0.out).1;omega)|simpa using h_) (seg:=[.string t217]) (j:=0) hcl11 hcc11 (show 1≤2 from by decide) (x':=(⟨t217,(rd_T63 x0_1 x5_1).f1⟩:S63)) (k63_mkM _ _ _ (⟨t217,(rd_T63 x0_1 x5_1).f1⟩:S63) ) (fun _ hk=>hk);have hx11_0:=hcc11 0 _ rfl;(try simp only [show (k63).sz=2 from rfl,Nat.mul_one,Nat.add_zero] at hx11_0);have hf11_0:=hfr11 0;(try simp only [show (k63).sz=2 from rfl,Nat.mul_one,Nat.add_zero] at hf11_0);clear hcl11 hcc11 hfr11 hM11)|((with_reducible refine gate_store (t:=9) (p:=17) rfl ?_);refine store_event (t:=9) (p:=17) (v:=?vo_w12) (w1:=(w10.setCell ⟨go6,(x5_1:Int).toNat * 2,none⟩ (.string t217))) ?hg ?ho ?hn ?hr ?_;(case ho=>rfl);(case hg=>rfl);(case hn=>rfl);(case hr=>first|(go_simp;done)|(go_simp;rfl));intro w12 hw;have hg:w10.grownBy w12 (some go6):=(by rw [hw];exact HP11.2);have hp_:Kd.R k63 63 w12 w0.heap.size (fun k_=>(P0_ k_∨w.heap.size≤k_)) (.slice (some ⟨go6,0,none⟩) x0_1.length co9) y218:=(by rw [hw,Ny218.out];exact HP11.1);clear HP11;have n0_:=A_ (hp_);have n1_:=A_ ((by rw [hw];exact bs_ (HB.out) GB6.out:Below w0.heap.size w0 w12));have n2_:=A_ (Kept.of_grown (S:=(fun k_=>P0_ k_)) hg (by repeat (first|(with_reducible first|exact HK.out|apply Kept.alloc|apply Kept.drewN|apply Kept.drew)|exact HK.out)) (fun k_ e_=>(HO_0.out.1 k_ e_)));clear HO_0;clear HB;clear HK;have HO_0:=n0_;have HB:=n1_;have HK:=n2_;clear n0_ n1_ n2_;clear hg hw hp_)|((with_reducible refine gate_callee (f:=25) rfl ?_);refine goesL_ (some 23) rfl rfl Try.func25 (by kernel_rfl) rfl #[.int .i64 (wrap64 (x1_1+1))] rfl (by (try simp only [List.map_toArray,List.map_cons,List.map_nil]);first|done|rfl|(simp only [ld_,lt_];rfl)) ?_;(with_reducible refine (laws_markText.calls k1 (wrap64 (x1_1+1)) t219 _ A7.out).mono ?_);rintro e w13 ⟨rfl,hb⟩;refine ⟨_,rfl,?_⟩;have n0_:=A_ (Kd.R_below (by (with_reducible repeat (first|apply Kd.R_alloc|apply Kd.R_drewN|apply Kd.R_drew));exact HO_0.out) hb);have n1_:=A_ (Kept.below (S:=(fun k_=>P0_ k_)) (by repeat (first|(with_reducible first|exact HK.out|apply Kept.alloc|apply Kept.drewN|apply Kept.drew)|exact HK.out)) hb);have n2_:=A_ (bp_ (by repeat (first|(with_reducible first|exact HB.out|apply ba_|apply pd_|apply b1_)|exact HB.out)) hb);clear HO_0;clear HK;clear HB;have HO_0:=n0_;have HK:=n1_;have HB:=n2_;clear n0_ n1_ n2_;(try clear hb);(try clear hb2);(try clear hk);(try clear hi);have p8:0≤(x5_1:Int):=od_ (by first|(with_reducible assumption)|assumption);have q8:(x5_1:Int)<((x0_1.length:Int):Int):=od_ (by first|(with_reducible assumption)|assumption);obtain ⟨ce8,hcl8,hM8,hcc8,hfr8⟩:=Kd.R_elem HO_0.out z63 (x5_1:Int) p8 q8;obtain rfl:=k63_openM hM8;have hx8_0:w13.cell? ⟨go6,(x5_1:Int).toNat * 2,none⟩=some (.string ((rd_T63 y218 x5_1).f0)):=hcc8 0 _ rfl;have hx8_1:w13.cell? ⟨go6,(x5_1:Int).toNat * 2+1,none⟩=some (.string ((rd_T63 y218 x5_1).f1)):=hcc8 1 _ rfl;have hf8_0:w13.frozen? ⟨go6,(x5_1:Int).toNat * 2,none⟩=false:=hfr8 0;have hf8_1:w13.frozen? ⟨go6,(x5_1:Int).toNat * 2+1,none⟩=false:=hfr8 1;clear hcl8 hcc8 hfr8 hM8;replace p8:=eq_true p8;replace q8:=eq_true q8;have HX14:=A_ (show Kd.R k63 63 w13 w0.heap.size (fun k_=>(P0_ k_∨w.heap.size≤k_)) (.slice (some ⟨go6,0,none⟩) x0_1.length co9) y218 from (by (with_reducible repeat (first|apply Kd.R_alloc|apply Kd.R_drewN|apply Kd.R_drew));exact HO_0.out));obtain ⟨ce14,hcl14,hM14,hcc14,hfr14⟩:=Kd.R_elem HX14.out z63 (x5_1:Int) (od_ (by first|(with_reducible assumption)|assumption)) (by have h_:(x5_1:Int)<((x0_1.length:Int):Int):=od_ (by first|(with_reducible assumption)|assumption);first|exact h_|(have e_:=(Kd.R_reads' HO_0.out).1;omega)|simpa using h_);obtain rfl:=k63_openM hM14;have HP14:=Kd.R_seg HX14.out (x5_1:Int) (od_ (by first|(with_reducible assumption)|assumption)) (by have h_:(x5_1:Int)<((x0_1.length:Int):Int):=od_ (by first|(with_reducible assumption)|assumption);first|exact h_|(have e_:=(Kd.R_reads' HO_0.out).1;omega)|simpa using h_) (seg:=[.string t219]) (j:=1) hcl14 hcc14 (show 2≤2 from by decide) (x':=(⟨(rd_T63 y218 x5_1).f0,t219⟩:S63)) (k63_mkM _ _ _ (⟨(rd_T63 y218 x5_1).f0,t219⟩:S63) ) (fun _ hk=>hk);have hx14_1:=hcc14 1 _ rfl;(try simp only [show (k63).sz=2 from rfl,Nat.mul_one,Nat.add_zero] at hx14_1);have hf14_1:=hfr14 1;(try simp only [show (k63).sz=2 from rfl,Nat.mul_one,Nat.add_zero] at hf14_1);clear hcl14 hcc14 hfr14 hM14)|((with_reducible refine gate_store (t:=9) (p:=25) rfl ?_);refine store_event (t:=9) (p:=25) (v:=?vo_w15) (w1:=(w13.setCell ⟨go6,(x5_1:Int).toNat * 2+1,none⟩ (.string t219))) ?hg ?ho ?hn ?hr ?_;(case ho=>rfl);(case hg=>rfl);(case hn=>rfl);(case hr=>first|(go_simp;done)|(go_simp;rfl));intro w15 hw;have hg:w13.grownBy w15 (some go6):=(by rw [hw];exact HP14.2);have hp_:Kd.R k63 63 w15 w0.heap.size (fun k_=>(P0_ k_∨w.heap.size≤k_)) (.slice (some ⟨go6,0,none⟩) x0_1.length co9) y220:=(by rw [hw,Ny220.out];exact HP14.1);clear HP14;have n0_:=A_ (hp_);have n1_:=A_ ((by rw [hw];exact bs_ (HB.out) GB6.out:Below w0.heap.size w0 w15));have n2_:=A_ (Kept.of_grown (S:=(fun k_=>P0_ k_)) hg (by repeat (first|(with_reducible first|exact HK.out|apply Kept.alloc|apply Kept.drewN|apply Kept.drew)|exact HK.out)) (fun k_ e_=>(HO_0.out.1 k_ e_)));clear HO_0;clear HB;clear HK;have HO_0:=n0_;have HB:=n1_;have HK:=n2_;clear n0_ n1_ n2_;clear hg hw hp_))
     go_roundg k1
     case measure=>have:=HK1.out;omega
     case rel=>exact ⟨(y220),(wrap64 ((wrap64 (x1_1+1))+1)),(wrap64 (x5_1+1)),(by first|rfl|(simp;done)|(simp [*];done)),(by first|rfl|(simp;done)|(simp [*];done)),H',⟨by have:=HK1.out;omega⟩,⟨by (with_reducible repeat (first|apply Kd.R_alloc|apply Kd.R_drewN|apply Kd.R_drew));exact HO_0.out⟩,⟨by repeat (first|(with_reducible first|exact HK.out|apply Kept.alloc|apply Kept.drewN|apply Kept.drew)|exact HK.out)⟩,⟨by repeat (first|(with_reducible first|exact HB.out|apply ba_|apply pd_|apply b1_)|exact HB.out)⟩⟩
    ·rw [if_neg c5] at H
     exact absurd H (by simp)
   ·rw [if_neg c3] at H
    have c3b0:decide (x5_1<(x0_1.length:Int))=false:=df_ c3
    clear c3
    simp only [Option.some.injEq,Prod.mk.injEq] at H
    obtain ⟨rfl,rfl⟩:=H
    obtain ⟨Ao16,co16,eo16⟩:=Kd.R_slice HO_0.out
    subst eo16
    go_wp2
    go_ret
    exact ⟨by first|rfl|(simp [errW_none,errW_some] <;> rfl)|(simp [*,errW_none,errW_some] <;> rfl),by (with_reducible repeat (first|apply Kd.R_alloc|apply Kd.R_drewN|apply Kd.R_drew));exact HO_0.out,by repeat (first|(with_reducible first|exact HB.out|apply ba_|apply pd_|apply b1_)|exact HB.out),by repeat (first|(with_reducible first|exact HK.out|apply Kept.alloc|apply Kept.drewN|apply Kept.drew)|exact HK.out)⟩
end Go.Proofs.Ytjhfempockbdoaa.PFnExactNodeAt
