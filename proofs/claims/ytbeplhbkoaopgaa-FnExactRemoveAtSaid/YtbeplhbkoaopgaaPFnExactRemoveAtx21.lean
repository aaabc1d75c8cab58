/- By a program of this session, out of the kit's print and contracts made by hand: the machine side of a law; Lean checks it. No conditions. -/
import Derived.Test.YtbeplhbkoaopgaaPFnExactRemoveAtx0
import Derived.Test.YtbeplhbkoaopgaaPFnExactRemoveAtx12
import Derived.Test.YtbeplhbkoaopgaaPFnExactRemoveAtx19
import Derived.Test.YtbeplhbkoaopgaaPFnExactRemoveAtx20
namespace Go.Proofs.Ytbeplhbkoaopgaa.PFnExactRemoveAt
open Go.RowKit Go.Proofs.YtbeplhbkoaopgaaW.PrintWords Go.Proofs.YtbeplhbkoaopgaaW.PrintLast Go.Proofs.YtbeplhbkoaopgaaW.PrintMore
attribute [local go_sem] max2_int min2_int max_two min_two max_three min_three max_four min_four
set_option linter.unusedVariables false
set_option linter.unusedSimpArgs false
/-! ### spec_RemoveAt: function 21, by hand -/
def spec_RemoveAt.f (k:Nat) (x0:List S28) (path:List Int):Option (List S28 × Int) :=
 if 4096<x0.length then some ([],2) else if 4096<path.length then some ([],2) else
 (spec_l09Ask.f k x0 path).bind fun c=>if c=0 then (spec_l03At.f k x0 path).bind fun e=>if e.2.2.2.2.2.2=true then
  (spec_l09Put.f k x0 path []).bind fun r=>spec_l09Done.f k r
  else some ([],16) else some ([],c)
theorem spec_RemoveAt.heap:Kd.Heap k28:=Kd.heap_fix (fun _ h_=>Kd.heap_iso _ (Kd.heap_pair (Kd.heap_int .i64) (Kd.heap_pair (Kd.heap_int .i64) (Kd.heap_pair Kd.heap_string (Kd.heap_pair Kd.heap_string (Kd.heap_pair (Kd.heap_slice 71 (Kd.heap_iso _ (Kd.heap_pair Kd.heap_string Kd.heap_string))) (Kd.heap_slice 28 h_)))))))
set_option maxHeartbeats 16000000 in
set_option maxRecDepth 1000000 in
theorem spec_RemoveAt.calls (k:Nat) (A0:Option Addr) (c0:Nat) (x0:List S28) (A1:Option Addr) (c1:Nat) (path:List Int) (r1:List S28) (r2:Int) (w:World) (hr0:Kd.C k28 w A0 x0.length x0) (hc0:x0.length≤c0) (hr1:Kd.C (Kd.int .i64) w A1 path.length path) (hc1:path.length≤c1) (h:spec_RemoveAt.f k x0 path=some (r1,r2)) :
 Calls Try.prog 21 #[.slice A0 x0.length c0,.slice A1 path.length c1] w fun e w'=>∃ A c,e=.returned (.tuple #[.slice A r1.length c,.int .i64 r2])∧Kd.C k28 w' A r1.length r1∧r1.length≤c∧Below w.heap.size w w':=by
 unfold spec_RemoveAt.f at h
 have HB0:=A_ (Below.refl w.heap.size w)
 by_cases l1:4096<x0.length
 ·rw [if_pos l1] at h
  obtain ⟨rfl,rfl⟩:=Prod.mk.inj (oi_ h)
  have z1:decide ((x0.length:Int)>4096)=true:=dt_ (by omega)
  clear h hr0 hc0 hr1 hc1 l1
  generalize x0.length=n0 at *
  generalize path.length=n1 at *
  go_enter Try.func21,Try.ntmps21
  go_wp2_with (first|((with_reducible refine gate_dst (N:=17) rfl ?_);refine Kd.R_lit (Kd.tag (fun _=>0) kTN) (w0:=w) w.heap.size 28 ?hg (N:=17) ?hd (xs:=([]:List (S28 × Nat))) (inner:=[]) (ok:=fun _=>True) (okp:=fun _=>True) ?hr ?hp (fun _ hk=>hk) trivial HB0.out (HB0.out).size (by simp) ?_;(case hd=>rfl);(case hg=>rfl);(case hr=>first|(go_simp;done)|(go_simp;rfl));(case hp=>exact (Reps.none _ _));intro v2 w2 ho hb _ _;(have HO2:=A_ (Sep.S_of_tag (d:=kTN) ho));obtain ⟨AL,cL,rfl⟩:=Kd.S_slice HO2.out;(have HBL:=A_ hb);clear ho hb))
  go_ret2
  exact ⟨AL,cL,rfl,(S_readsT HO2.out).2.2,Nat.zero_le _,HBL.out⟩
 rw [if_neg l1] at h
 have z1:decide ((x0.length:Int)>4096)=false:=df_ (by omega)
 by_cases l2:4096<path.length
 ·rw [if_pos l2] at h
  obtain ⟨rfl,rfl⟩:=Prod.mk.inj (oi_ h)
  have z2:decide ((path.length:Int)>4096)=true:=dt_ (by omega)
  clear h hr0 hc0 hr1 hc1 l1 l2
  generalize x0.length=n0 at *
  generalize path.length=n1 at *
  go_enter Try.func21,Try.ntmps21
  go_wp2_with (first|((with_reducible refine gate_dst (N:=17) rfl ?_);refine Kd.R_lit (Kd.tag (fun _=>0) kTN) (w0:=w) w.heap.size 28 ?hg (N:=17) ?hd (xs:=([]:List (S28 × Nat))) (inner:=[]) (ok:=fun _=>True) (okp:=fun _=>True) ?hr ?hp (fun _ hk=>hk) trivial HB0.out (HB0.out).size (by simp) ?_;(case hd=>rfl);(case hg=>rfl);(case hr=>first|(go_simp;done)|(go_simp;rfl));(case hp=>exact (Reps.none _ _));intro v2 w2 ho hb _ _;(have HO2:=A_ (Sep.S_of_tag (d:=kTN) ho));obtain ⟨AL,cL,rfl⟩:=Kd.S_slice HO2.out;(have HBL:=A_ hb);clear ho hb))
  go_ret2
  exact ⟨AL,cL,rfl,(S_readsT HO2.out).2.2,Nat.zero_le _,HBL.out⟩
 rw [if_neg l2] at h
 have z2:decide ((path.length:Int)>4096)=false:=df_ (by omega)
 obtain ⟨cd,hcd,h⟩:=ob_ h
 have QA:=A_ (spec_l09Ask.calls k A0 c0 x0 A1 c1 path cd w hr0 hc0 hr1 hc1 hcd)
 by_cases hz:cd=0
 case neg =>
  rw [if_neg hz] at h
  obtain ⟨rfl,rfl⟩:=Prod.mk.inj (oi_ h)
  have hz1:(cd == 0)=false:=by simpa using hz
  have hz2:(cd != 0)=true:=by simpa using hz
  clear h hr0 hc0 hr1 hc1 hcd l1 l2
  generalize x0.length=n0 at *
  generalize path.length=n1 at *
  go_enter Try.func21,Try.ntmps21
  go_wp2_with (first|(go_at_call 35;(with_reducible refine QA.out.mono ?_);rintro e w1 ⟨rfl,hb⟩;(have HB1:=A_ hb);clear hb)|((with_reducible refine gate_dst (N:=23) rfl ?_);refine Kd.R_lit (Kd.tag (fun _=>0) kTN) (w0:=w) w.heap.size 28 ?hg (N:=23) ?hd (xs:=([]:List (S28 × Nat))) (inner:=[]) (ok:=fun _=>True) (okp:=fun _=>True) ?hr ?hp (fun _ hk=>hk) trivial HB1.out (HB1.out).size (by simp) ?_;(case hd=>rfl);(case hg=>rfl);(case hr=>first|(go_simp;done)|(go_simp;rfl));(case hp=>exact (Reps.none _ _));intro v2 w2 ho hb _ _;(have HO2:=A_ (Sep.S_of_tag (d:=kTN) ho));obtain ⟨AL,cL,rfl⟩:=Kd.S_slice HO2.out;(have HBL:=A_ hb);clear ho hb))
  go_ret2
  exact ⟨AL,cL,rfl,(S_readsT HO2.out).2.2,Nat.zero_le _,HBL.out⟩
 subst hz
 rw [if_pos rfl] at h
 obtain ⟨⟨e1,e2,e3,e4,e5,e6,e7⟩,hE,h⟩:=ob_ h
 dsimp only at h
 have QE:=A_ (fun V (hV:Below w.heap.size w V)=>spec_l03At.calls k (fun q=>q<w.heap.size) A0 c0 x0 A1 c1 path e1 e2 e3 e4 e5 e6 e7 V (Kd.V_mk hc0 (fun W' hW=>Kd.Heap.C spec_RemoveAt.heap (fun q hq=>(hW q hq (Nat.lt_of_lt_of_le hq hV.size)).trans (hV.block q hq)) hr0)) (cb_ hr1 hV) hc1 hE)
 by_cases he7:e7=true
 case neg =>
  rw [if_neg he7] at h
  obtain ⟨rfl,rfl⟩:=Prod.mk.inj (oi_ h)
  obtain rfl:e7=false:=by simpa using he7
  clear h hr0 hc0 hr1 hc1 hcd l1 l2 hE
  generalize x0.length=n0 at *
  generalize path.length=n1 at *
  go_enter Try.func21,Try.ntmps21
  go_wp2_with (first|(go_at_call 35;(with_reducible refine QA.out.mono ?_);rintro e w1 ⟨rfl,hb⟩;(have HB1:=A_ hb);clear hb)|(go_at_call 25;(with_reducible refine (QE.out _ HB1.out).mono ?_);rintro e w3 ⟨v4,v5,rfl,hv4,hv5,hb⟩;obtain ⟨A4,n4,rfl⟩:=Kd.V_slice hv4;obtain ⟨A5,n5,rfl⟩:=Kd.V_slice hv5;(have HB3:=A_ (HB1.out.trans (hb.mono HB1.out.size)));(have HV4:=A_ hv4);(have HV5:=A_ hv5);(have HBB:=A_ (fun o=>ba_ HB3.out o));clear hb hv4 hv5)|((with_reducible refine gate_dst (N:=33) rfl ?_);refine Kd.R_lit (Kd.tag (fun _=>0) kTN) (w0:=w) w.heap.size 28 ?hg (N:=33) ?hd (xs:=([]:List (S28 × Nat))) (inner:=[]) (ok:=fun _=>True) (okp:=fun _=>True) ?hr ?hp (fun _ hk=>hk) trivial (HBB.out _) ((HBB.out _)).size (by simp) ?_;(case hd=>rfl);(case hg=>rfl);(case hr=>first|(go_simp;done)|(go_simp;rfl));(case hp=>exact (Reps.none _ _));intro v2 w2 ho hb _ _;(have HO2:=A_ (Sep.S_of_tag (d:=kTN) ho));obtain ⟨AL,cL,rfl⟩:=Kd.S_slice HO2.out;(have HBL:=A_ hb);clear ho hb))
  go_ret2
  exact ⟨AL,cL,rfl,(S_readsT HO2.out).2.2,Nat.zero_le _,HBL.out⟩
 subst he7
 rw [if_pos rfl] at h
 obtain ⟨r,hP,hD⟩:=ob_ h
 have QP:=A_ (fun (V:World) (A2:Option Addr) (c2:Nat) (hV:Below w.heap.size w V)=>(show Calls Try.prog 37 #[.slice A0 x0.length c0,.slice A1 path.length c1,.slice A2 0 c2] V _ from spec_l09Put.calls k (fun q=>q<w.heap.size) A0 c0 x0 A1 c1 path (fun _=>True) A2 c2 [] r V (Kd.V_mk hc0 (fun W' hW=>Kd.Heap.C spec_RemoveAt.heap (fun q hq=>(hW q hq (Nat.lt_of_lt_of_le hq hV.size)).trans (hV.block q hq)) hr0)) (cb_ hr1 hV) hc1 (Kd.V_mk (Nat.zero_le _) (fun W' hW=>⟨rfl,by simp,fun h=>absurd h (by simp)⟩)) hP).mono (R':=fun e w'=>∃ A c,e=.returned (.slice A r.length c)∧r.length≤c∧Kd.C k28 w' A r.length r∧Below V.heap.size V w') (fun e w' ⟨v0,he,hN,hb⟩=>by obtain ⟨A,c,rfl,h1,h2⟩:=Kd.N_reads hN;exact ⟨A,c,he,h1,h2,hb⟩))
 have QD:=A_ (fun (V:World) (A:Option Addr) (c:Nat) (h1:r.length≤c) (h2:Kd.C k28 V A r.length r)=>(spec_l09Done.calls k A c r r1 r2 V h2 h1 hD).mono (R':=fun e w'=>∃ A c,e=.returned (.tuple #[.slice A r1.length c,.int .i64 r2])∧r1.length≤c∧Kd.C k28 w' A r1.length r1∧Below V.heap.size V w') (fun e w' ⟨v0,he,hR,hb⟩=>by obtain ⟨A,c,rfl,h1,h2⟩:=Kd.R_reads hR;exact ⟨A,c,he,h1,h2,hb⟩))
 clear h hr0 hc0 hr1 hc1 hcd l1 l2 hE hP hD
 generalize x0.length=n0 at *
 generalize path.length=n1 at *
 go_enter Try.func21,Try.ntmps21
 go_wp2_with (first|(go_at_call 35;(with_reducible refine QA.out.mono ?_);rintro e w1 ⟨rfl,hb⟩;(have HB1:=A_ hb);clear hb)|(go_at_call 25;(with_reducible refine (QE.out _ HB1.out).mono ?_);rintro e w3 ⟨v4,v5,rfl,hv4,hv5,hb⟩;obtain ⟨A4,n4,rfl⟩:=Kd.V_slice hv4;obtain ⟨A5,n5,rfl⟩:=Kd.V_slice hv5;(have HB3:=A_ (HB1.out.trans (hb.mono HB1.out.size)));(have HV4:=A_ hv4);(have HV5:=A_ hv5);(have HBB:=A_ (fun o=>ba_ HB3.out o));clear hb hv4 hv5)|((with_reducible refine gate_dst (N:=36) rfl ?_);refine Kd.R_lit (Kd.tag (fun _=>0) kTN) (w0:=w) w.heap.size 28 ?hg (N:=36) ?hd (xs:=([]:List (S28 × Nat))) (inner:=[]) (ok:=fun _=>True) (okp:=fun _=>True) ?hr ?hp (fun _ hk=>hk) trivial (HBB.out _) ((HBB.out _)).size (by simp) ?_;(case hd=>rfl);(case hg=>rfl);(case hr=>first|(go_simp;done)|(go_simp;rfl));(case hp=>exact (Reps.none _ _));intro v2 w2 ho hb _ _;(have HO2:=A_ (Sep.S_of_tag (d:=kTN) ho));obtain ⟨AL,cL,rfl⟩:=Kd.S_slice HO2.out;(have HBL:=A_ hb);clear ho hb)|(go_at_call 37;(with_reducible refine (QP.out _ _ _ HBL.out).mono ?_);rintro e w7 ⟨A7,n7,rfl,hl,hC,hb⟩;(have HB7:=A_ (HBL.out.trans (hb.mono HBL.out.size)));(have HC7:=A_ hC);(have HL7:=A_ hl);clear hb hC hl)|(go_at_call 36;(with_reducible refine (QD.out _ _ _ HL7.out HC7.out).mono ?_);rintro e w8 ⟨A8,n8,rfl,hl,hC,hb⟩;(have HB8:=A_ (HB7.out.trans (hb.mono HB7.out.size)));(have hC8:=A_ hC);(have hl8:=A_ hl);clear hb hC hl))
 go_ret2
 exact ⟨A8,n8,rfl,hC8.out,hl8.out,HB8.out⟩
/-! ### impl_within: function 48 -/
def impl_within.f (a0:Int) (a1:Int) (a2:Int):Option (Bool):=if a0≥a1 then (some (decide (a0≤a2))) else (some false)
set_option maxHeartbeats 8000000 in
set_option maxRecDepth 100000 in
theorem impl_within.calls (a0:Int) (a1:Int) (a2:Int) (r:Bool) (w:World) (h:impl_within.f a0 a1 a2=some r) :
 Calls Try.prog 48 #[.int .i64 a0,.int .i64 a1,.int .i64 a2] w fun e w'=>e=.returned (.bool r)∧Drawn0 w w':=by
 have H:(if a0≥a1 then (some (decide (a0≤a2))) else (some false))=some r:=h
 clear h
 by_cases c4:a0≥a1
 ·rw [if_pos c4] at H
  have c4b0:decide (a1≤a0)=true:=dt_ c4
  clear c4
  obtain rfl:=oi_ H
  go_enter Try.func48,Try.ntmps48
  go_wp2
  go_ret
  exact ⟨by first|rfl|(simp;done)|(simp [*];done),by repeat (first|exact dr_ _|apply dp_)⟩
 ·rw [if_neg c4] at H
  have c4b0:decide (a1≤a0)=false:=df_ c4
  clear c4
  obtain rfl:=oi_ H
  go_enter Try.func48,Try.ntmps48
  go_wp2
  go_ret
  exact ⟨by first|rfl|(simp;done)|(simp [*];done),by repeat (first|exact dr_ _|apply dp_)⟩
theorem impl_within.pure (n a b:Int) (W:World):Calls Try.prog 48 #[.int .i64 n,.int .i64 a,.int .i64 b] W fun e w'=>e=.returned (.bool (decide (a≤n∧n≤b)))∧Drawn0 W w':=by
 refine impl_within.calls n a b _ W ?_
 unfold impl_within.f
 by_cases h:n≥a
 ·rw [if_pos h];simp [h]
 ·rw [if_neg h];simp;omega
/-! ### impl_isSmall: function 77 -/
def impl_isSmall.f (a0:Int):Option (Bool):=if a0≥97 then (some (decide (a0≤122))) else (some false)
set_option maxHeartbeats 8000000 in
set_option maxRecDepth 100000 in
theorem impl_isSmall.calls (a0:Int) (r:Bool) (w:World) (h:impl_isSmall.f a0=some r) :
 Calls Try.prog 77 #[.int .u8 a0] w fun e w'=>e=.returned (.bool r)∧Drawn0 w w':=by
 have H:(if a0≥97 then (some (decide (a0≤122))) else (some false))=some r:=h
 clear h
 by_cases c2:a0≥97
 ·rw [if_pos c2] at H
  have c2b0:decide (97≤a0)=true:=dt_ c2
  clear c2
  obtain rfl:=oi_ H
  go_enter Try.func77,Try.ntmps77
  go_wp2
  go_ret
  exact ⟨by first|rfl|(simp;done)|(simp [*];done),by repeat (first|exact dr_ _|apply dp_)⟩
 ·rw [if_neg c2] at H
  have c2b0:decide (97≤a0)=false:=df_ c2
  clear c2
  obtain rfl:=oi_ H
  go_enter Try.func77,Try.ntmps77
  go_wp2
  go_ret
  exact ⟨by first|rfl|(simp;done)|(simp [*];done),by repeat (first|exact dr_ _|apply dp_)⟩
/-! ### impl_isDigit: function 78 -/
def impl_isDigit.f (a0:Int):Option (Bool):=if a0≥48 then (some (decide (a0≤57))) else (some false)
set_option maxHeartbeats 8000000 in
set_option maxRecDepth 100000 in
theorem impl_isDigit.calls (a0:Int) (r:Bool) (w:World) (h:impl_isDigit.f a0=some r) :
 Calls Try.prog 78 #[.int .u8 a0] w fun e w'=>e=.returned (.bool r)∧Drawn0 w w':=by
 have H:(if a0≥48 then (some (decide (a0≤57))) else (some false))=some r:=h
 clear h
 by_cases c2:a0≥48
 ·rw [if_pos c2] at H
  have c2b0:decide (48≤a0)=true:=dt_ c2
  clear c2
  obtain rfl:=oi_ H
  go_enter Try.func78,Try.ntmps78
  go_wp2
  go_ret
  exact ⟨by first|rfl|(simp;done)|(simp [*];done),by repeat (first|exact dr_ _|apply dp_)⟩
 ·rw [if_neg c2] at H
  have c2b0:decide (48≤a0)=false:=df_ c2
  clear c2
  obtain rfl:=oi_ H
  go_enter Try.func78,Try.ntmps78
  go_wp2
  go_ret
  exact ⟨by first|rfl|(simp;done)|(simp [*];done),by repeat (first|exact dr_ _|apply dp_)⟩
/-! ### impl_TagOK: function 71 -/
def impl_TagOK.l0:Nat→ByteArray→Int→Int→Option (Bool)
 | 0,_,_,_=>none
 | k+1,x0,x6,x7=>if x7<x6 then (if 0≤x7 then (if x7<(x0.size:Int) then ((impl_isSmall.f (bt x0 x7)).bind fun t273=>(if t273=true then (impl_TagOK.l0 k x0 x6 (wrap64 (x7+1))) else (if x7=0 then (some false) else ((impl_isDigit.f (bt x0 x7)).bind fun t274=>(if t274=true then (impl_TagOK.l0 k x0 x6 (wrap64 (x7+1))) else (if (bt x0 x7)=45 then (impl_TagOK.l0 k x0 x6 (wrap64 (x7+1))) else (some false))))))) else (none)) else (none)) else ((impl_within.f (x0.size:Int) 1 12).bind fun t272=>(some t272))
def impl_TagOK.f (k:Nat) (a0:ByteArray):Option (Bool):=impl_TagOK.l0 k a0 (a0.size:Int) 0
theorem impl_TagOK.mono_l:∀ k,(∀ y0 y1 y2,LeO (impl_TagOK.l0 k y0 y1 y2) (impl_TagOK.l0 (k+1) y0 y1 y2))
 | 0=>fun _ _ _ r h=>by simp [impl_TagOK.l0] at h
 | k+1=>by
  have ih0:=impl_TagOK.mono_l k
  ·intro y0 y1 y2
   unfold impl_TagOK.l0
   repeat' first
   | (with_reducible exact ih0 _ _ _)
   | (with_reducible exact LeO.refl _)
   | (with_reducible exact LeO.none _)
   | (with_reducible refine LeO.ite ?_ ?_)
   | (with_reducible refine LeO.bind ?_ (fun _=>?_))
   | exact ih0 _ _ _
   | exact LeO.none _
   | refine LeO.ite ?_ ?_
   | refine LeO.bind ?_ (fun _=>?_)
theorem impl_TagOK.mono:∀ a0 k,LeO (impl_TagOK.f k a0) (impl_TagOK.f (k+1) a0):=by
 intro a0 k
 have ih0:=impl_TagOK.mono_l k
 unfold impl_TagOK.f
 repeat' first
  | (with_reducible exact ih0 _ _ _)
  | (with_reducible exact LeO.refl _)
  | (with_reducible exact LeO.none _)
  | (with_reducible refine LeO.ite ?_ ?_)
  | (with_reducible refine LeO.bind ?_ (fun _=>?_))
  | exact ih0 _ _ _
  | exact LeO.none _
  | refine LeO.ite ?_ ?_
  | refine LeO.bind ?_ (fun _=>?_)
set_option maxHeartbeats 8000000 in
set_option maxRecDepth 100000 in
theorem impl_TagOK.calls (k:Nat) (a0:ByteArray) (r:Bool) (w:World) (h:impl_TagOK.f k a0=some r) :
 Calls Try.prog 71 #[.string a0] w fun e w'=>e=.returned (.bool r)∧Drawn0 w w':=by
 have H:(impl_TagOK.l0 k a0 (a0.size:Int) 0)=some r:=h
 clear h
 have H':=A_ H
 clear H
 go_enter Try.func71,Try.ntmps71
 go_wp2
 go_loopg [7] k (fun kq v7 w'=>∃ (x7_1:Int),v7=.int .i64 x7_1∧Aside0 (impl_TagOK.l0 kq a0 (a0.size:Int) x7_1=some r)∧Aside0 (kq≤k)∧Drawn0 w w')
 case atStart=>exact ⟨(0),(by first|rfl|(simp;done)|(simp [*];done)),H',⟨Nat.le_refl _⟩,by repeat (first|exact dr_ _|apply dp_)⟩
 case round =>
  clear H'
  obtain ⟨x7_1,rfl,HA,HK1,⟨m1,rfl⟩⟩:=hrel
  cases gk with
  | zero=>exact absurd HA.out (by simp [impl_TagOK.l0])
  | succ k1 =>
   have H:=HA.out
   clear HA
   simp only [impl_TagOK.l0] at H
   by_cases c2:x7_1<(a0.size:Int)
   ·rw [if_pos c2] at H
    have c2b0:decide (x7_1<(a0.size:Int))=true:=dt_ c2
    clear c2
    by_cases c3:0≤x7_1
    ·rw [if_pos c3] at H
     have c3b0:decide (0≤x7_1)=true:=dt_ c3
     clear c3
     by_cases c4:x7_1<(a0.size:Int)
     ·rw [if_pos c4] at H
      have c4b0:decide (x7_1<(a0.size:Int))=true:=dt_ c4
      clear c4
      replace H:=ob_ H
      obtain ⟨t273,A60,H⟩:=H
      replace H:(if t273=true then (impl_TagOK.l0 k1 a0 (a0.size:Int) (wrap64 (x7_1+1))) else (if x7_1=0 then (some false) else ((impl_isDigit.f (bt a0 x7_1)).bind fun t274=>(if t274=true then (impl_TagOK.l0 k1 a0 (a0.size:Int) (wrap64 (x7_1+1))) else (if (bt a0 x7_1)=45 then (impl_TagOK.l0 k1 a0 (a0.size:Int) (wrap64 (x7_1+1))) else (some false))))))=some r:=H
      have A6:=A_ A60
      clear A60
      by_cases c7:t273=true
      ·subst c7
       have H1:(impl_TagOK.l0 k1 a0 (a0.size:Int) (wrap64 (x7_1+1)))=some r:=by rw [if_pos rfl] at H;exact H
       clear H
       have H:=H1
       clear H1
       have H':=A_ H
       clear H
       have p5:0≤(x7_1:Int):=od_ (by first|(with_reducible assumption)|assumption)
       have q5:x7_1<(a0.size:Int):=od_ (by first|(with_reducible assumption)|assumption)
       have hx5:=bt_at a0 x7_1
       replace p5:=eq_true p5
       replace q5:=eq_true q5
       go_wp2_with (first|((with_reducible refine gate_callee (f:=77) rfl ?_);refine goesL_ (some 14) rfl rfl Try.func77 (by kernel_rfl) rfl #[.int .u8 (bt a0 x7_1)] rfl (by (try simp only [List.map_toArray,List.map_cons,List.map_nil]);first|done|rfl|(simp only [ld_,lt_];rfl)) ?_;(with_reducible refine (impl_isSmall.calls (bt a0 x7_1) true _ A6.out).mono ?_);rintro e w' ⟨rfl,⟨nd,rfl⟩⟩;refine ⟨_,rfl,?_⟩))
       go_roundg k1
       case measure=>have:=HK1.out;omega
       case rel=>exact ⟨(wrap64 (x7_1+1)),(by first|rfl|(simp;done)|(simp [*];done)),H',⟨by have:=HK1.out;omega⟩,by repeat (first|exact dr_ _|apply dp_)⟩
      ·replace c7:=bm_ c7
       subst c7
       have H1:(if x7_1=0 then (some false) else ((impl_isDigit.f (bt a0 x7_1)).bind fun t274=>(if t274=true then (impl_TagOK.l0 k1 a0 (a0.size:Int) (wrap64 (x7_1+1))) else (if (bt a0 x7_1)=45 then (impl_TagOK.l0 k1 a0 (a0.size:Int) (wrap64 (x7_1+1))) else (some false)))))=some r:=by rw [if_neg (show ¬ (false=true) by decide)] at H;exact H
       clear H
       have H:=H1
       clear H1
       by_cases c8:x7_1=0
       ·rw [if_pos c8] at H
        have c8b0:(x7_1 == 0)=true:=beq_iff_eq.mpr c8
        have c8b1:(x7_1 != 0)=false:=bne_eq_false_iff_eq.mpr c8
        clear c8
        obtain rfl:=oi_ H
        have p5:0≤(x7_1:Int):=od_ (by first|(with_reducible assumption)|assumption)
        have q5:x7_1<(a0.size:Int):=od_ (by first|(with_reducible assumption)|assumption)
        have hx5:=bt_at a0 x7_1
        replace p5:=eq_true p5
        replace q5:=eq_true q5
        go_wp2_with (first|((with_reducible refine gate_callee (f:=77) rfl ?_);refine goesL_ (some 14) rfl rfl Try.func77 (by kernel_rfl) rfl #[.int .u8 (bt a0 x7_1)] rfl (by (try simp only [List.map_toArray,List.map_cons,List.map_nil]);first|done|rfl|(simp only [ld_,lt_];rfl)) ?_;(with_reducible refine (impl_isSmall.calls (bt a0 x7_1) false _ A6.out).mono ?_);rintro e w' ⟨rfl,⟨nd,rfl⟩⟩;refine ⟨_,rfl,?_⟩))
        go_ret
        exact ⟨by first|rfl|(simp;done)|(simp [*];done),by repeat (first|exact dr_ _|apply dp_)⟩
       ·rw [if_neg c8] at H
        have c8b0:(x7_1 == 0)=false:=beq_eq_false_iff_ne.mpr c8
        have c8b1:(x7_1 != 0)=true:=bne_iff_ne.mpr c8
        replace H:=ob_ H
        obtain ⟨t274,A90,H⟩:=H
        replace H:(if t274=true then (impl_TagOK.l0 k1 a0 (a0.size:Int) (wrap64 (x7_1+1))) else (if (bt a0 x7_1)=45 then (impl_TagOK.l0 k1 a0 (a0.size:Int) (wrap64 (x7_1+1))) else (some false)))=some r:=H
        have A9:=A_ A90
        clear A90
        by_cases c10:t274=true
        ·subst c10
         have H1:(impl_TagOK.l0 k1 a0 (a0.size:Int) (wrap64 (x7_1+1)))=some r:=by rw [if_pos rfl] at H;exact H
         clear H
         have H:=H1
         clear H1
         have H':=A_ H
         clear H
         have p5:0≤(x7_1:Int):=od_ (by first|(with_reducible assumption)|assumption)
         have q5:x7_1<(a0.size:Int):=od_ (by first|(with_reducible assumption)|assumption)
         have hx5:=bt_at a0 x7_1
         replace p5:=eq_true p5
         replace q5:=eq_true q5
         go_wp2_with (first|((with_reducible refine gate_callee (f:=77) rfl ?_);refine goesL_ (some 14) rfl rfl Try.func77 (by kernel_rfl) rfl #[.int .u8 (bt a0 x7_1)] rfl (by (try simp only [List.map_toArray,List.map_cons,List.map_nil]);first|done|rfl|(simp only [ld_,lt_];rfl)) ?_;(with_reducible refine (impl_isSmall.calls (bt a0 x7_1) false _ A6.out).mono ?_);rintro e w' ⟨rfl,⟨nd,rfl⟩⟩;refine ⟨_,rfl,?_⟩)|(go_at_call 78;(with_reducible refine (impl_isDigit.calls (bt a0 x7_1) true _ A9.out).mono ?_);rintro e w' ⟨rfl,⟨nd,rfl⟩⟩))
         go_roundg k1
         case measure=>have:=HK1.out;omega
         case rel=>exact ⟨(wrap64 (x7_1+1)),(by first|rfl|(simp;done)|(simp [*];done)),H',⟨by have:=HK1.out;omega⟩,by repeat (first|exact dr_ _|apply dp_)⟩
        ·replace c10:=bm_ c10
         subst c10
         have H1:(if (bt a0 x7_1)=45 then (impl_TagOK.l0 k1 a0 (a0.size:Int) (wrap64 (x7_1+1))) else (some false))=some r:=by rw [if_neg (show ¬ (false=true) by decide)] at H;exact H
         clear H
         have H:=H1
         clear H1
         by_cases c11:(bt a0 x7_1)=45
         ·rw [if_pos c11] at H
          have c11b0:((bt a0 x7_1) == 45)=true:=beq_iff_eq.mpr c11
          have c11b1:((bt a0 x7_1) != 45)=false:=bne_eq_false_iff_eq.mpr c11
          clear c11
          have H':=A_ H
          clear H
          have p5:0≤(x7_1:Int):=od_ (by first|(with_reducible assumption)|assumption)
          have q5:x7_1<(a0.size:Int):=od_ (by first|(with_reducible assumption)|assumption)
          have hx5:=bt_at a0 x7_1
          replace p5:=eq_true p5
          replace q5:=eq_true q5
          go_wp2_with (first|((with_reducible refine gate_callee (f:=77) rfl ?_);refine goesL_ (some 14) rfl rfl Try.func77 (by kernel_rfl) rfl #[.int .u8 (bt a0 x7_1)] rfl (by (try simp only [List.map_toArray,List.map_cons,List.map_nil]);first|done|rfl|(simp only [ld_,lt_];rfl)) ?_;(with_reducible refine (impl_isSmall.calls (bt a0 x7_1) false _ A6.out).mono ?_);rintro e w' ⟨rfl,⟨nd,rfl⟩⟩;refine ⟨_,rfl,?_⟩)|(go_at_call 78;(with_reducible refine (impl_isDigit.calls (bt a0 x7_1) false _ A9.out).mono ?_);rintro e w' ⟨rfl,⟨nd,rfl⟩⟩))
          go_roundg k1
          case measure=>have:=HK1.out;omega
          case rel=>exact ⟨(wrap64 (x7_1+1)),(by first|rfl|(simp;done)|(simp [*];done)),H',⟨by have:=HK1.out;omega⟩,by repeat (first|exact dr_ _|apply dp_)⟩
         ·rw [if_neg c11] at H
          have c11b0:((bt a0 x7_1) == 45)=false:=beq_eq_false_iff_ne.mpr c11
          have c11b1:((bt a0 x7_1) != 45)=true:=bne_iff_ne.mpr c11
          obtain rfl:=oi_ H
          have p5:0≤(x7_1:Int):=od_ (by first|(with_reducible assumption)|assumption)
          have q5:x7_1<(a0.size:Int):=od_ (by first|(with_reducible assumption)|assumption)
          have hx5:=bt_at a0 x7_1
          replace p5:=eq_true p5
          replace q5:=eq_true q5
          go_wp2_with (first|((with_reducible refine gate_callee (f:=77) rfl ?_);refine goesL_ (some 14) rfl rfl Try.func77 (by kernel_rfl) rfl #[.int .u8 (bt a0 x7_1)] rfl (by (try simp only [List.map_toArray,List.map_cons,List.map_nil]);first|done|rfl|(simp only [ld_,lt_];rfl)) ?_;(with_reducible refine (impl_isSmall.calls (bt a0 x7_1) false _ A6.out).mono ?_);rintro e w' ⟨rfl,⟨nd,rfl⟩⟩;refine ⟨_,rfl,?_⟩)|(go_at_call 78;(with_reducible refine (impl_isDigit.calls (bt a0 x7_1) false _ A9.out).mono ?_);rintro e w' ⟨rfl,⟨nd,rfl⟩⟩))
          go_ret
          exact ⟨by first|rfl|(simp;done)|(simp [*];done),by repeat (first|exact dr_ _|apply dp_)⟩
     ·rw [if_neg c4] at H
      exact absurd H (by simp)
    ·rw [if_neg c3] at H
     exact absurd H (by simp)
   ·rw [if_neg c2] at H
    have c2b0:decide (x7_1<(a0.size:Int))=false:=df_ c2
    clear c2
    replace H:=ob_ H
    obtain ⟨t272,A120,H⟩:=H
    replace H:(some t272)=some r:=H
    have A12:=A_ A120
    clear A120
    obtain rfl:=oi_ H
    go_wp2_with (first|((with_reducible refine gate_callee (f:=48) rfl ?_);refine goesL_ (some 32) rfl rfl Try.func48 (by kernel_rfl) rfl #[.int .i64 (a0.size:Int),.int .i64 1,.int .i64 12] rfl (by (try simp only [List.map_toArray,List.map_cons,List.map_nil]);first|done|rfl|(simp only [ld_,lt_];rfl)) ?_;(with_reducible refine (impl_within.calls (a0.size:Int) 1 12 t272 _ A12.out).mono ?_);rintro e w' ⟨rfl,⟨nd,rfl⟩⟩;refine ⟨_,rfl,?_⟩))
    go_ret
    exact ⟨by first|rfl|(simp;done)|(simp [*];done),by repeat (first|exact dr_ _|apply dp_)⟩
open Go.Proofs.Ytbeplhbkoaopgaa.Kit (small digit big pos_eq neg_eq tagB isTag nameB isName lowC lowS lowS_bytes handler wantJ wantJ_eq keepC badL badFrom badFrom_zero badFrom_full badFrom_nil badFrom_skip badFrom_take indexByte_any markB namesAt namesOK)
theorem isSmall_eq (c:Int):impl_isSmall.f c=some (small c):=by
 unfold impl_isSmall.f small
 by_cases h:c≥97
 ·rw [if_pos h];simp [h]
 ·rw [if_neg h];simp;omega
theorem isDigit_eq (c:Int):impl_isDigit.f c=some (digit c):=by
 unfold impl_isDigit.f digit
 by_cases h:c≥48
 ·rw [if_pos h];simp [h]
 ·rw [if_neg h];simp;omega
theorem within_eq (n a b:Int):impl_within.f n a b=some (decide (a≤n∧n≤b)):=by
 unfold impl_within.f
 by_cases h:n≥a
 ·rw [if_pos h];simp [h]
 ·rw [if_neg h];simp;omega
theorem ev_tag_impl (s:ByteArray) (hn:s.size≤9223372036854775807):Ev (fun k=>impl_TagOK.f k s) (isTag s):=by
 have key:∀ i:Nat,i≤s.size→Ev (fun k=>impl_TagOK.l0 k s s.size i) (Kit.allB (tagB s) i s.size && decide ((1:Int)≤(s.size:Int)∧(s.size:Int)≤12)):=by
  refine Kit.down ?_ ?_
  ·refine Ev.step (fun k=>rfl) ?_
   refine Kit.ev_neg (by omega) ?_
   refine Kit.ev_some (within_eq _ _ _) ?_
   rw [Kit.allB_end,Bool.true_and]
   exact Ev.now _
  ·intro i hi ih
   refine Ev.step (fun k=>rfl) ?_
   refine Kit.ev_pos (by omega) (Kit.ev_pos (by omega) (Kit.ev_pos (by omega) ?_))
   rw [Kit.allB_step _ hi,Kit.wrap_nat hi hn]
   have yes:tagB s i=true→Ev (fun k=>impl_TagOK.l0 k s s.size ((i+1:Nat):Int)) (tagB s i && Kit.allB (tagB s) (i+1) s.size && decide ((1:Int)≤(s.size:Int)∧(s.size:Int)≤12)):=fun h=>by rw [h,Bool.true_and];exact ih
   have no:tagB s i=false→Ev (fun _:Nat=>some false) (tagB s i && Kit.allB (tagB s) (i+1) s.size && decide ((1:Int)≤(s.size:Int)∧(s.size:Int)≤12)):=fun h=>by rw [h,Bool.false_and,Bool.false_and];exact Ev.now _
   refine Kit.ev_some (isSmall_eq _) (Kit.ev_if (fun h=>yes (by simp [tagB,h])) (fun h=>?_))
   refine Kit.ev_if (fun h0=>no ?_) (fun h0=>?_)
   ·simp [tagB,h];intro h1;omega
   refine Kit.ev_some (isDigit_eq _) (Kit.ev_if (fun h1=>yes ?_) (fun h1=>Kit.ev_if (fun h2=>yes ?_) (fun h2=>no ?_)))
   ·simp [tagB,h1];omega
   ·simp [tagB,h2];omega
   ·simp [tagB,h,h1,h2]
 exact key 0 (by omega)
theorem impl_TagOK.pure (s:ByteArray) (hs:s.size≤9223372036854775807) (W:World):Calls Try.prog 71 #[.string s] W fun e w'=>e=.returned (.bool (isTag s))∧Drawn0 W w':=by
 obtain ⟨K,hK⟩:=ev_tag_impl s hs
 exact impl_TagOK.calls K s _ W (hK K (Nat.le_refl _))
end Go.Proofs.Ytbeplhbkoaopgaa.PFnExactRemoveAt
