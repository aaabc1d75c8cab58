/- By a program of this session, out of the kit's print and contracts made by hand: the machine side of a law; Lean checks it. No conditions. -/
import Derived.Test.YtbeplhbkoaopgaaPFnExactSetWordsx0
import Derived.Test.YtbeplhbkoaopgaaPFnExactSetWordsx9
import Derived.Test.YtbeplhbkoaopgaaPFnExactSetWordsx16
import Derived.Test.YtbeplhbkoaopgaaPFnExactSetWordsx17
namespace Go.Proofs.Ytbeplhbkoaopgaa.PFnExactSetWords
open Go.RowKit Go.Proofs.YtbeplhbkoaopgaaW.PrintWords Go.Proofs.YtbeplhbkoaopgaaW.PrintLast Go.Proofs.YtbeplhbkoaopgaaW.PrintMore
attribute [local go_sem] max2_int min2_int max_two min_two max_three min_three max_four min_four
set_option linter.unusedVariables false
set_option linter.unusedSimpArgs false
/-! ### spec_SetWords: function 18, by hand -/
def spec_SetWords.f (k:Nat) (x0:List S28) (path:List Int) (t:ByteArray):Option (List S28 × Int) :=
 if 4096<x0.length then some ([],2) else if 4096<path.length then some ([],2) else if 65536<t.size then some ([],2) else
 (spec_l09Ask.f k x0 path).bind fun c=>if c=0 then (spec_l03At.f k x0 path).bind fun e=>if e.2.2.2.2.2.2=true then (if e.1=1 then some ([],9) else
  (spec_l09Put.f k x0 path [⟨e.1,e.2.1,e.2.2.1,t,e.2.2.2.2.1,e.2.2.2.2.2.1⟩]).bind fun r=>spec_l09Done.f k r)
  else some ([],16) else some ([],c)
theorem spec_SetWords.heap:Kd.Heap k28:=Kd.heap_fix (fun _ h_=>Kd.heap_iso _ (Kd.heap_pair (Kd.heap_int .i64) (Kd.heap_pair (Kd.heap_int .i64) (Kd.heap_pair Kd.heap_string (Kd.heap_pair Kd.heap_string (Kd.heap_pair (Kd.heap_slice 71 (Kd.heap_iso _ (Kd.heap_pair Kd.heap_string Kd.heap_string))) (Kd.heap_slice 28 h_)))))))
theorem spec_SetWords.one (W:World) (b:Nat) (x:S28) {A4 A5:Option Addr} {n4 n5:Nat} (hb:W.heap[b]? = some (.cells #[.int .i64 x.f0,.int .i64 x.f1,.string x.f2,.string x.f3,.slice A4 x.f4.length n4,.slice A5 x.f5.length n5] 28 (0,0))) (l4:x.f4.length≤n4) (g4:Kd.C k71 W A4 x.f4.length x.f4) (l5:x.f5.length≤n5) (g5:Kd.C k28 W A5 x.f5.length x.f5):Kd.C k28 W (some ⟨b,0,none⟩) 1 [x] :=
 ⟨rfl,by simp,fun _=>⟨_,rfl,fun j p hj=>by
  cases j with
  | succ j=>simp at hj
  | zero =>
   obtain rfl:x=p:=by simpa using hj
   exact ⟨_,rfl,k28_mk W x l4 g4 l5 g5,fun i u hi=>by
    rw [Nat.zero_mul,Nat.zero_add,add_plain]
    exact (bc_ hb i).trans (by simpa using hi)⟩⟩⟩
theorem spec_SetWords.blk2 (W:World) (a b:Obj):((W.alloc a).alloc b).heap[W.heap.size+1]? = some b:=by
 have h:=blk_new (W.alloc a) b
 have e:(W.alloc a).heap.size=W.heap.size+1:=by simp
 rwa [e] at h
set_option maxHeartbeats 16000000 in
set_option maxRecDepth 1000000 in
theorem spec_SetWords.calls (k:Nat) (A0:Option Addr) (c0:Nat) (x0:List S28) (A1:Option Addr) (c1:Nat) (path:List Int) (t:ByteArray) (r1:List S28) (r2:Int) (w:World) (hr0:Kd.C k28 w A0 x0.length x0) (hc0:x0.length≤c0) (hr1:Kd.C (Kd.int .i64) w A1 path.length path) (hc1:path.length≤c1) (h:spec_SetWords.f k x0 path t=some (r1,r2)) :
 Calls Try.prog 18 #[.slice A0 x0.length c0,.slice A1 path.length c1,.string t] w fun e w'=>∃ A c,e=.returned (.tuple #[.slice A r1.length c,.int .i64 r2])∧Kd.C k28 w' A r1.length r1∧r1.length≤c∧Below w.heap.size w w':=by
 unfold spec_SetWords.f at h
 have HB0:=A_ (Below.refl w.heap.size w)
 by_cases l1:4096<x0.length
 ·rw [if_pos l1] at h
  obtain ⟨rfl,rfl⟩:=Prod.mk.inj (oi_ h)
  have z1:decide ((x0.length:Int)>4096)=true:=dt_ (by omega)
  clear h hr0 hc0 hr1 hc1 l1
  generalize x0.length=n0 at *
  generalize path.length=n1 at *
  go_enter Try.func18,Try.ntmps18
  go_wp2_with (first|((with_reducible refine gate_dst (N:=19) rfl ?_);refine Kd.R_lit (Kd.tag (fun _=>0) kTN) (w0:=w) w.heap.size 28 ?hg (N:=19) ?hd (xs:=([]:List (S28 × Nat))) (inner:=[]) (ok:=fun _=>True) (okp:=fun _=>True) ?hr ?hp (fun _ hk=>hk) trivial HB0.out (HB0.out).size (by simp) ?_;(case hd=>rfl);(case hg=>rfl);(case hr=>first|(go_simp;done)|(go_simp;rfl));(case hp=>exact (Reps.none _ _));intro v2 w2 ho hb _ _;(have HO2:=A_ (Sep.S_of_tag (d:=kTN) ho));obtain ⟨AL,cL,rfl⟩:=Kd.S_slice HO2.out;(have HBL:=A_ hb);clear ho hb))
  go_ret2
  exact ⟨AL,cL,rfl,(S_readsT HO2.out).2.2,Nat.zero_le _,HBL.out⟩
 rw [if_neg l1] at h
 have z1:decide ((x0.length:Int)>4096)=false:=df_ (by omega)
 by_cases l2:4096<path.length
 ·rw [if_pos l2] at h
  obtain ⟨rfl,rfl⟩:=Prod.mk.inj (oi_ h)
  have z2:decide ((path.length:Int)>4096)=true:=dt_ (by omega)
  clear h hr0 hc0 hr1 hc1 l1 l2
  generalize x0.length=n0 at *
  generalize path.length=n1 at *
  go_enter Try.func18,Try.ntmps18
  go_wp2_with (first|((with_reducible refine gate_dst (N:=19) rfl ?_);refine Kd.R_lit (Kd.tag (fun _=>0) kTN) (w0:=w) w.heap.size 28 ?hg (N:=19) ?hd (xs:=([]:List (S28 × Nat))) (inner:=[]) (ok:=fun _=>True) (okp:=fun _=>True) ?hr ?hp (fun _ hk=>hk) trivial HB0.out (HB0.out).size (by simp) ?_;(case hd=>rfl);(case hg=>rfl);(case hr=>first|(go_simp;done)|(go_simp;rfl));(case hp=>exact (Reps.none _ _));intro v2 w2 ho hb _ _;(have HO2:=A_ (Sep.S_of_tag (d:=kTN) ho));obtain ⟨AL,cL,rfl⟩:=Kd.S_slice HO2.out;(have HBL:=A_ hb);clear ho hb))
  go_ret2
  exact ⟨AL,cL,rfl,(S_readsT HO2.out).2.2,Nat.zero_le _,HBL.out⟩
 rw [if_neg l2] at h
 have z2:decide ((path.length:Int)>4096)=false:=df_ (by omega)
 by_cases l3:65536<t.size
 ·rw [if_pos l3] at h
  obtain ⟨rfl,rfl⟩:=Prod.mk.inj (oi_ h)
  have z3:decide ((t.size:Int)>65536)=true:=dt_ (by omega)
  clear h hr0 hc0 hr1 hc1 l1 l2 l3
  generalize x0.length=n0 at *
  generalize path.length=n1 at *
  go_enter Try.func18,Try.ntmps18
  go_wp2_with (first|((with_reducible refine gate_dst (N:=23) rfl ?_);refine Kd.R_lit (Kd.tag (fun _=>0) kTN) (w0:=w) w.heap.size 28 ?hg (N:=23) ?hd (xs:=([]:List (S28 × Nat))) (inner:=[]) (ok:=fun _=>True) (okp:=fun _=>True) ?hr ?hp (fun _ hk=>hk) trivial HB0.out (HB0.out).size (by simp) ?_;(case hd=>rfl);(case hg=>rfl);(case hr=>first|(go_simp;done)|(go_simp;rfl));(case hp=>exact (Reps.none _ _));intro v2 w2 ho hb _ _;(have HO2:=A_ (Sep.S_of_tag (d:=kTN) ho));obtain ⟨AL,cL,rfl⟩:=Kd.S_slice HO2.out;(have HBL:=A_ hb);clear ho hb))
  go_ret2
  exact ⟨AL,cL,rfl,(S_readsT HO2.out).2.2,Nat.zero_le _,HBL.out⟩
 rw [if_neg l3] at h
 have z3:decide ((t.size:Int)>65536)=false:=df_ (by omega)
 obtain ⟨cd,hcd,h⟩:=ob_ h
 have QA:=A_ (spec_l09Ask.calls k A0 c0 x0 A1 c1 path cd w hr0 hc0 hr1 hc1 hcd)
 by_cases hz:cd=0
 case neg =>
  rw [if_neg hz] at h
  obtain ⟨rfl,rfl⟩:=Prod.mk.inj (oi_ h)
  have hz1:(cd == 0)=false:=by simpa using hz
  have hz2:(cd != 0)=true:=by simpa using hz
  clear h hr0 hc0 hr1 hc1 hcd l1 l2 l3
  generalize x0.length=n0 at *
  generalize path.length=n1 at *
  go_enter Try.func18,Try.ntmps18
  go_wp2_with (first|(go_at_call 35;(with_reducible refine QA.out.mono ?_);rintro e w1 ⟨rfl,hb⟩;(have HB1:=A_ hb);clear hb)|((with_reducible refine gate_dst (N:=29) rfl ?_);refine Kd.R_lit (Kd.tag (fun _=>0) kTN) (w0:=w) w.heap.size 28 ?hg (N:=29) ?hd (xs:=([]:List (S28 × Nat))) (inner:=[]) (ok:=fun _=>True) (okp:=fun _=>True) ?hr ?hp (fun _ hk=>hk) trivial HB1.out (HB1.out).size (by simp) ?_;(case hd=>rfl);(case hg=>rfl);(case hr=>first|(go_simp;done)|(go_simp;rfl));(case hp=>exact (Reps.none _ _));intro v2 w2 ho hb _ _;(have HO2:=A_ (Sep.S_of_tag (d:=kTN) ho));obtain ⟨AL,cL,rfl⟩:=Kd.S_slice HO2.out;(have HBL:=A_ hb);clear ho hb))
  go_ret2
  exact ⟨AL,cL,rfl,(S_readsT HO2.out).2.2,Nat.zero_le _,HBL.out⟩
 subst hz
 rw [if_pos rfl] at h
 obtain ⟨⟨e1,e2,e3,e4,e5,e6,e7⟩,hE,h⟩:=ob_ h
 dsimp only at h
 have QE:=A_ (fun V (hV:Below w.heap.size w V)=>spec_l03At.calls k (fun q=>q<w.heap.size) A0 c0 x0 A1 c1 path e1 e2 e3 e4 e5 e6 e7 V (Kd.V_mk hc0 (fun W' hW=>Kd.Heap.C spec_SetWords.heap (fun q hq=>(hW q hq (Nat.lt_of_lt_of_le hq hV.size)).trans (hV.block q hq)) hr0)) (cb_ hr1 hV) hc1 hE)
 by_cases he7:e7=true
 case neg =>
  rw [if_neg he7] at h
  obtain ⟨rfl,rfl⟩:=Prod.mk.inj (oi_ h)
  obtain rfl:e7=false:=by simpa using he7
  clear h hr0 hc0 hr1 hc1 hcd l1 l2 l3 hE
  generalize x0.length=n0 at *
  generalize path.length=n1 at *
  go_enter Try.func18,Try.ntmps18
  go_wp2_with (first|(go_at_call 35;(with_reducible refine QA.out.mono ?_);rintro e w1 ⟨rfl,hb⟩;(have HB1:=A_ hb);clear hb)|(go_at_call 25;(with_reducible refine (QE.out _ HB1.out).mono ?_);rintro e w3 ⟨v4,v5,rfl,hv4,hv5,hb⟩;obtain ⟨A4,n4,rfl⟩:=Kd.V_slice hv4;obtain ⟨A5,n5,rfl⟩:=Kd.V_slice hv5;(have HB3:=A_ (HB1.out.trans (hb.mono HB1.out.size)));(have HV4:=A_ hv4);(have HV5:=A_ hv5);(have HBB:=A_ (fun o=>ba_ HB3.out o));clear hb hv4 hv5)|((with_reducible refine gate_dst (N:=39) rfl ?_);refine Kd.R_lit (Kd.tag (fun _=>0) kTN) (w0:=w) w.heap.size 28 ?hg (N:=39) ?hd (xs:=([]:List (S28 × Nat))) (inner:=[]) (ok:=fun _=>True) (okp:=fun _=>True) ?hr ?hp (fun _ hk=>hk) trivial (HBB.out _) ((HBB.out _)).size (by simp) ?_;(case hd=>rfl);(case hg=>rfl);(case hr=>first|(go_simp;done)|(go_simp;rfl));(case hp=>exact (Reps.none _ _));intro v2 w2 ho hb _ _;(have HO2:=A_ (Sep.S_of_tag (d:=kTN) ho));obtain ⟨AL,cL,rfl⟩:=Kd.S_slice HO2.out;(have HBL:=A_ hb);clear ho hb))
  go_ret2
  exact ⟨AL,cL,rfl,(S_readsT HO2.out).2.2,Nat.zero_le _,HBL.out⟩
 subst he7
 rw [if_pos rfl] at h
 by_cases he1:e1=1
 case pos =>
  rw [if_pos he1] at h
  obtain ⟨rfl,rfl⟩:=Prod.mk.inj (oi_ h)
  have hq1:(e1 == 1)=true:=by simpa using he1
  clear h hr0 hc0 hr1 hc1 hcd l1 l2 l3 hE he1
  generalize x0.length=n0 at *
  generalize path.length=n1 at *
  go_enter Try.func18,Try.ntmps18
  go_wp2_with (first|(go_at_call 35;(with_reducible refine QA.out.mono ?_);rintro e w1 ⟨rfl,hb⟩;(have HB1:=A_ hb);clear hb)|(go_at_call 25;(with_reducible refine (QE.out _ HB1.out).mono ?_);rintro e w3 ⟨v4,v5,rfl,hv4,hv5,hb⟩;obtain ⟨A4,n4,rfl⟩:=Kd.V_slice hv4;obtain ⟨A5,n5,rfl⟩:=Kd.V_slice hv5;(have HB3:=A_ (HB1.out.trans (hb.mono HB1.out.size)));(have HV4:=A_ hv4);(have HV5:=A_ hv5);(have HBB:=A_ (fun o=>ba_ HB3.out o));clear hb hv4 hv5)|((with_reducible refine gate_dst (N:=43) rfl ?_);refine Kd.R_lit (Kd.tag (fun _=>0) kTN) (w0:=w) w.heap.size 28 ?hg (N:=43) ?hd (xs:=([]:List (S28 × Nat))) (inner:=[]) (ok:=fun _=>True) (okp:=fun _=>True) ?hr ?hp (fun _ hk=>hk) trivial (HBB.out _) ((HBB.out _)).size (by simp) ?_;(case hd=>rfl);(case hg=>rfl);(case hr=>first|(go_simp;done)|(go_simp;rfl));(case hp=>exact (Reps.none _ _));intro v2 w2 ho hb _ _;(have HO2:=A_ (Sep.S_of_tag (d:=kTN) ho));obtain ⟨AL,cL,rfl⟩:=Kd.S_slice HO2.out;(have HBL:=A_ hb);clear ho hb))
  go_ret2
  exact ⟨AL,cL,rfl,(S_readsT HO2.out).2.2,Nat.zero_le _,HBL.out⟩
 have hq1:(e1 == 1)=false:=by simpa using he1
 rw [if_neg he1] at h
 obtain ⟨r,hP,hD⟩:=ob_ h
 have QP:=A_ (fun (V:World) (b:Nat) (A4:Option Addr) (n4:Nat) (A5:Option Addr) (n5:Nat) (hV:Below w.heap.size w V) (hb:V.heap[b]? = some (.cells #[.int .i64 e1,.int .i64 e2,.string e3,.string t,.slice A4 e5.length n4,.slice A5 e6.length n5] 28 (0,0))) (h4:e5.length≤n4) (g4:Kd.C k71 V A4 e5.length e5) (h5:e6.length≤n5) (g5:Kd.C k28 V A5 e6.length e6)=>(show Calls Try.prog 37 #[.slice A0 x0.length c0,.slice A1 path.length c1,.slice (some ⟨b,0,none⟩) 1 1] V _ from spec_l09Put.calls k (fun q=>q<w.heap.size) A0 c0 x0 A1 c1 path (fun _=>True) (some ⟨b,0,none⟩) 1 [(⟨e1,e2,e3,t,e5,e6⟩:S28)] r V (Kd.V_mk hc0 (fun W' hW=>Kd.Heap.C spec_SetWords.heap (fun q hq=>(hW q hq (Nat.lt_of_lt_of_le hq hV.size)).trans (hV.block q hq)) hr0)) (cb_ hr1 hV) hc1 (Kd.V_mk (Nat.le_refl _) (fun W' hW=>Kd.Heap.C spec_SetWords.heap (fun q hq=>hW q trivial hq) (spec_SetWords.one V b (⟨e1,e2,e3,t,e5,e6⟩:S28) hb h4 g4 h5 g5))) hP).mono (R':=fun e w'=>∃ A c,e=.returned (.slice A r.length c)∧r.length≤c∧Kd.C k28 w' A r.length r∧Below V.heap.size V w') (fun e w' ⟨v0,he,hN,hb⟩=>by obtain ⟨A,c,rfl,h1,h2⟩:=Kd.N_reads hN;exact ⟨A,c,he,h1,h2,hb⟩))
 have QD:=A_ (fun (V:World) (A:Option Addr) (c:Nat) (h1:r.length≤c) (h2:Kd.C k28 V A r.length r)=>(spec_l09Done.calls k A c r r1 r2 V h2 h1 hD).mono (R':=fun e w'=>∃ A c,e=.returned (.tuple #[.slice A r1.length c,.int .i64 r2])∧r1.length≤c∧Kd.C k28 w' A r1.length r1∧Below V.heap.size V w') (fun e w' ⟨v0,he,hR,hb⟩=>by obtain ⟨A,c,rfl,h1,h2⟩:=Kd.R_reads hR;exact ⟨A,c,he,h1,h2,hb⟩))
 clear h hr0 hc0 hr1 hc1 hcd l1 l2 l3 hE hP hD he1
 generalize x0.length=n0 at *
 generalize path.length=n1 at *
 go_enter Try.func18,Try.ntmps18
 go_wp2_with (first|(go_at_call 35;(with_reducible refine QA.out.mono ?_);rintro e w1 ⟨rfl,hb⟩;(have HB1:=A_ hb);clear hb)|(go_at_call 25;(with_reducible refine (QE.out _ HB1.out).mono ?_);rintro e w3 ⟨v4,v5,rfl,hv4,hv5,hb⟩;obtain ⟨A4,n4,rfl⟩:=Kd.V_slice hv4;obtain ⟨A5,n5,rfl⟩:=Kd.V_slice hv5;(have HB3:=A_ (HB1.out.trans (hb.mono HB1.out.size)));(have HV4:=A_ hv4);(have HV5:=A_ hv5);(have HBB:=A_ (fun o=>ba_ HB3.out o));clear hb hv4 hv5)|(go_at_call 37;(with_reducible refine (QP.out _ _ A4 n4 A5 n5 (ba_ (ba_ HB3.out _) _) (spec_SetWords.blk2 _ _ _) (Kd.V_reads' HV4.out).2.1 (ca_ (ca_ (Kd.V_reads' HV4.out).2.2 _) _) (Kd.V_reads' HV5.out).2.1 (ca_ (ca_ (Kd.V_reads' HV5.out).2.2 _) _)).mono ?_);rintro e w7 ⟨A7,n7,rfl,hl,hC,hb⟩;(have HB7:=A_ ((ba_ (ba_ HB3.out _) _).trans (hb.mono (ba_ (ba_ HB3.out _) _).size)));(have HC7:=A_ hC);(have HL7:=A_ hl);clear hb hC hl)|(go_at_call 36;(with_reducible refine (QD.out _ _ _ HL7.out HC7.out).mono ?_);rintro e w8 ⟨A8,n8,rfl,hl,hC,hb⟩;(have HB8:=A_ (HB7.out.trans (hb.mono HB7.out.size)));(have hC8:=A_ hC);(have hl8:=A_ hl);clear hb hC hl))
 go_ret2
 exact ⟨A8,n8,rfl,hC8.out,hl8.out,HB8.out⟩
/-! ### impl_within: function 48 -/
def impl_within.f (a0:Int) (a1:Int) (a2:Int):Option (Bool):=if a0≥a1 then (some (decide (a0≤a2))) else (some false)
set_option maxHeartbeats 8000000 in
set_option maxRecDepth 100000 in
theorem impl_within.calls (a0:Int) (a1:Int) (a2:Int) (r:Bool) (w:World) (h:impl_within.f a0 a1 a2=some r) :
 Calls Try.prog 48 #[.int .i64 a0,.int .i64 a1,.int .i64 a2] w fun e w'=>e=.returned (.bool r)∧Drawn0 w w':=by
 have H:(if a0≥a1 then (some (decide (a0≤a2))) else (some false))=some r:=h
 clear h
 by_cases c4:a0≥a1
 ·rw [if_pos c4] at H
  have c4b0:decide (a1≤a0)=true:=dt_ c4
  clear c4
  obtain rfl:=oi_ H
  go_enter Try.func48,Try.ntmps48
  go_wp2
  go_ret
  exact ⟨by first|rfl|(simp;done)|(simp [*];done),by repeat (first|exact dr_ _|apply dp_)⟩
 ·rw [if_neg c4] at H
  have c4b0:decide (a1≤a0)=false:=df_ c4
  clear c4
  obtain rfl:=oi_ H
  go_enter Try.func48,Try.ntmps48
  go_wp2
  go_ret
  exact ⟨by first|rfl|(simp;done)|(simp [*];done),by repeat (first|exact dr_ _|apply dp_)⟩
theorem impl_within.pure (n a b:Int) (W:World):Calls Try.prog 48 #[.int .i64 n,.int .i64 a,.int .i64 b] W fun e w'=>e=.returned (.bool (decide (a≤n∧n≤b)))∧Drawn0 W w':=by
 refine impl_within.calls n a b _ W ?_
 unfold impl_within.f
 by_cases h:n≥a
 ·rw [if_pos h];simp [h]
 ·rw [if_neg h];simp;omega
/-! ### impl_isSmall: function 77 -/
def impl_isSmall.f (a0:Int):Option (Bool):=if a0≥97 then (some (decide (a0≤122))) else (some false)
set_option maxHeartbeats 8000000 in
set_option maxRecDepth 100000 in
theorem impl_isSmall.calls (a0:Int) (r:Bool) (w:World) (h:impl_isSmall.f a0=some r) :
 Calls Try.prog 77 #[.int .u8 a0] w fun e w'=>e=.returned (.bool r)∧Drawn0 w w':=by
 have H:(if a0≥97 then (some (decide (a0≤122))) else (some false))=some r:=h
 clear h
 by_cases c2:a0≥97
 ·rw [if_pos c2] at H
  have c2b0:decide (97≤a0)=true:=dt_ c2
  clear c2
  obtain rfl:=oi_ H
  go_enter Try.func77,Try.ntmps77
  go_wp2
  go_ret
  exact ⟨by first|rfl|(simp;done)|(simp [*];done),by repeat (first|exact dr_ _|apply dp_)⟩
 ·rw [if_neg c2] at H
  have c2b0:decide (97≤a0)=false:=df_ c2
  clear c2
  obtain rfl:=oi_ H
  go_enter Try.func77,Try.ntmps77
  go_wp2
  go_ret
  exact ⟨by first|rfl|(simp;done)|(simp [*];done),by repeat (first|exact dr_ _|apply dp_)⟩
/-! ### impl_isDigit: function 78 -/
def impl_isDigit.f (a0:Int):Option (Bool):=if a0≥48 then (some (decide (a0≤57))) else (some false)
set_option maxHeartbeats 8000000 in
set_option maxRecDepth 100000 in
theorem impl_isDigit.calls (a0:Int) (r:Bool) (w:World) (h:impl_isDigit.f a0=some r) :
 Calls Try.prog 78 #[.int .u8 a0] w fun e w'=>e=.returned (.bool r)∧Drawn0 w w':=by
 have H:(if a0≥48 then (some (decide (a0≤57))) else (some false))=some r:=h
 clear h
 by_cases c2:a0≥48
 ·rw [if_pos c2] at H
  have c2b0:decide (48≤a0)=true:=dt_ c2
  clear c2
  obtain rfl:=oi_ H
  go_enter Try.func78,Try.ntmps78
  go_wp2
  go_ret
  exact ⟨by first|rfl|(simp;done)|(simp [*];done),by repeat (first|exact dr_ _|apply dp_)⟩
 ·rw [if_neg c2] at H
  have c2b0:decide (48≤a0)=false:=df_ c2
  clear c2
  obtain rfl:=oi_ H
  go_enter Try.func78,Try.ntmps78
  go_wp2
  go_ret
  exact ⟨by first|rfl|(simp;done)|(simp [*];done),by repeat (first|exact dr_ _|apply dp_)⟩
end Go.Proofs.Ytbeplhbkoaopgaa.PFnExactSetWords
