/- By a program of this session, out of the kit's print and contracts made by hand: the machine side of a law; Lean checks it. No conditions. -/
import Derived.Test.YtjlikemmhjclpaaPFnExactSetKidsx0
import Derived.Test.YtjlikemmhjclpaaPFnExactSetKidsx9
import Derived.Test.YtjlikemmhjclpaaPFnExactSetKidsx11
import Derived.Test.YtjlikemmhjclpaaPFnExactSetKidsx12
namespace Go.Proofs.Ytjlikemmhjclpaa.PFnExactSetKids
open Go.RowKit Go.Proofs.YtjlikemmhjclpaaW.PrintWords Go.Proofs.YtjlikemmhjclpaaW.PrintLast Go.Proofs.YtjlikemmhjclpaaW.PrintMore
attribute [local go_sem] max2_int min2_int max_two min_two max_three min_three max_four min_four
set_option linter.unusedVariables false
set_option linter.unusedSimpArgs false
/-! ### spec_SetKids: function 6, by hand -/
def spec_SetKids.f (k:Nat) (x0:List S44) (path:List Int) (kids:List S44):Option (List S44 × Int) :=
 if 4096<x0.length then some ([],2) else if 4096<path.length then some ([],2) else if 4096<kids.length then some ([],2) else
 (spec_l09Ask.f k x0 path).bind fun c=>if c=0 then (spec_l03Tree.f k kids).bind fun b=>if b=true then
  (spec_l09Element.f k x0 path).bind fun e=>if e.2.2.2.2.2.2=0 then
   (spec_l09Put.f k x0 path [⟨e.1,e.2.1,e.2.2.1,e.2.2.2.1,e.2.2.2.2.1,kids⟩]).bind fun r=>spec_l09Done.f k r
  else some ([],e.2.2.2.2.2.2) else some ([],1) else some ([],c)
theorem spec_SetKids.one (W:World) (b:Nat) (x:S44) {A4 A5:Option Addr} {n4 n5:Nat} (hb:W.heap[b]? = some (.cells #[.int .i64 x.f0,.int .i64 x.f1,.string x.f2,.string x.f3,.slice A4 x.f4.length n4,.slice A5 x.f5.length n5] 44 (0,0))) (l4:x.f4.length≤n4) (g4:Kd.C k75 W A4 x.f4.length x.f4) (l5:x.f5.length≤n5) (g5:Kd.C k44 W A5 x.f5.length x.f5):Kd.C k44 W (some ⟨b,0,none⟩) 1 [x] :=
 ⟨rfl,by simp,fun _=>⟨_,rfl,fun j p hj=>by
  cases j with
  | succ j=>simp at hj
  | zero =>
   obtain rfl:x=p:=by simpa using hj
   exact ⟨_,rfl,k44_mk W x l4 g4 l5 g5,fun i u hi=>by
    rw [Nat.zero_mul,Nat.zero_add,add_plain]
    exact (bc_ hb i).trans (by simpa using hi)⟩⟩⟩
theorem spec_SetKids.blk2 (W:World) (a b:Obj):((W.alloc a).alloc b).heap[W.heap.size+1]? = some b:=by
 have h:=blk_new (W.alloc a) b
 have e:(W.alloc a).heap.size=W.heap.size+1:=by simp
 rwa [e] at h
set_option maxHeartbeats 16000000 in
set_option maxRecDepth 1000000 in
theorem spec_SetKids.calls (k:Nat) (A0:Option Addr) (c0:Nat) (x0:List S44) (A1:Option Addr) (c1:Nat) (path:List Int) (A2:Option Addr) (c2:Nat) (kids:List S44) (r1:List S44) (r2:Int) (w:World) (hr0:Kd.C k44 w A0 x0.length x0) (hc0:x0.length≤c0) (hr1:Kd.C (Kd.int .i64) w A1 path.length path) (hc1:path.length≤c1) (hr2:Kd.C k44 w A2 kids.length kids) (hc2:kids.length≤c2) (h:spec_SetKids.f k x0 path kids=some (r1,r2)) :
 Calls Try.prog 6 #[.slice A0 x0.length c0,.slice A1 path.length c1,.slice A2 kids.length c2] w fun e w'=>∃ A c,e=.returned (.tuple #[.slice A r1.length c,.int .i64 r2])∧Kd.C k44 w' A r1.length r1∧r1.length≤c∧Below w.heap.size w w':=by
 unfold spec_SetKids.f at h
 have HB0:=A_ (Below.refl w.heap.size w)
 by_cases l1:4096<x0.length
 ·rw [if_pos l1] at h
  obtain ⟨rfl,rfl⟩:=Prod.mk.inj (oi_ h)
  have z1:decide ((x0.length:Int)>4096)=true:=dt_ (by omega)
  clear h hr0 hc0 hr1 hc1 hr2 hc2 l1
  generalize x0.length=n0 at *
  generalize path.length=n1 at *
  generalize kids.length=n2 at *
  go_enter Try.func6,Try.ntmps6
  go_wp2_with (first|((with_reducible refine gate_dst (N:=19) rfl ?_);refine Kd.R_lit (Kd.tag (fun _=>0) kTN) (w0:=w) w.heap.size 44 ?hg (N:=19) ?hd (xs:=([]:List (S44 × Nat))) (inner:=[]) (ok:=fun _=>True) (okp:=fun _=>True) ?hr ?hp (fun _ hk=>hk) trivial HB0.out (HB0.out).size (by simp) ?_;(case hd=>rfl);(case hg=>rfl);(case hr=>first|(go_simp;done)|(go_simp;rfl));(case hp=>exact (Reps.none _ _));intro v2 w2 ho hb _ _;(have HO2:=A_ (Sep.S_of_tag (d:=kTN) ho));obtain ⟨AL,cL,rfl⟩:=Kd.S_slice HO2.out;(have HBL:=A_ hb);clear ho hb))
  go_ret2
  exact ⟨AL,cL,rfl,(S_readsT HO2.out).2.2,Nat.zero_le _,HBL.out⟩
 rw [if_neg l1] at h
 have z1:decide ((x0.length:Int)>4096)=false:=df_ (by omega)
 by_cases l2:4096<path.length
 ·rw [if_pos l2] at h
  obtain ⟨rfl,rfl⟩:=Prod.mk.inj (oi_ h)
  have z2:decide ((path.length:Int)>4096)=true:=dt_ (by omega)
  clear h hr0 hc0 hr1 hc1 hr2 hc2 l1 l2
  generalize x0.length=n0 at *
  generalize path.length=n1 at *
  generalize kids.length=n2 at *
  go_enter Try.func6,Try.ntmps6
  go_wp2_with (first|((with_reducible refine gate_dst (N:=19) rfl ?_);refine Kd.R_lit (Kd.tag (fun _=>0) kTN) (w0:=w) w.heap.size 44 ?hg (N:=19) ?hd (xs:=([]:List (S44 × Nat))) (inner:=[]) (ok:=fun _=>True) (okp:=fun _=>True) ?hr ?hp (fun _ hk=>hk) trivial HB0.out (HB0.out).size (by simp) ?_;(case hd=>rfl);(case hg=>rfl);(case hr=>first|(go_simp;done)|(go_simp;rfl));(case hp=>exact (Reps.none _ _));intro v2 w2 ho hb _ _;(have HO2:=A_ (Sep.S_of_tag (d:=kTN) ho));obtain ⟨AL,cL,rfl⟩:=Kd.S_slice HO2.out;(have HBL:=A_ hb);clear ho hb))
  go_ret2
  exact ⟨AL,cL,rfl,(S_readsT HO2.out).2.2,Nat.zero_le _,HBL.out⟩
 rw [if_neg l2] at h
 have z2:decide ((path.length:Int)>4096)=false:=df_ (by omega)
 by_cases l3:4096<kids.length
 ·rw [if_pos l3] at h
  obtain ⟨rfl,rfl⟩:=Prod.mk.inj (oi_ h)
  have z3:decide ((kids.length:Int)>4096)=true:=dt_ (by omega)
  clear h hr0 hc0 hr1 hc1 hr2 hc2 l1 l2 l3
  generalize x0.length=n0 at *
  generalize path.length=n1 at *
  generalize kids.length=n2 at *
  go_enter Try.func6,Try.ntmps6
  go_wp2_with (first|((with_reducible refine gate_dst (N:=23) rfl ?_);refine Kd.R_lit (Kd.tag (fun _=>0) kTN) (w0:=w) w.heap.size 44 ?hg (N:=23) ?hd (xs:=([]:List (S44 × Nat))) (inner:=[]) (ok:=fun _=>True) (okp:=fun _=>True) ?hr ?hp (fun _ hk=>hk) trivial HB0.out (HB0.out).size (by simp) ?_;(case hd=>rfl);(case hg=>rfl);(case hr=>first|(go_simp;done)|(go_simp;rfl));(case hp=>exact (Reps.none _ _));intro v2 w2 ho hb _ _;(have HO2:=A_ (Sep.S_of_tag (d:=kTN) ho));obtain ⟨AL,cL,rfl⟩:=Kd.S_slice HO2.out;(have HBL:=A_ hb);clear ho hb))
  go_ret2
  exact ⟨AL,cL,rfl,(S_readsT HO2.out).2.2,Nat.zero_le _,HBL.out⟩
 rw [if_neg l3] at h
 have z3:decide ((kids.length:Int)>4096)=false:=df_ (by omega)
 obtain ⟨cd,hcd,h⟩:=ob_ h
 have QA:=A_ (spec_l09Ask.calls k A0 c0 x0 A1 c1 path cd w hr0 hc0 hr1 hc1 hcd)
 by_cases hz:cd=0
 case neg =>
  rw [if_neg hz] at h
  obtain ⟨rfl,rfl⟩:=Prod.mk.inj (oi_ h)
  have hz1:(cd == 0)=false:=by simpa using hz
  have hz2:(cd != 0)=true:=by simpa using hz
  clear h hr0 hc0 hr1 hc1 hr2 hc2 hcd l1 l2 l3
  generalize x0.length=n0 at *
  generalize path.length=n1 at *
  generalize kids.length=n2 at *
  go_enter Try.func6,Try.ntmps6
  go_wp2_with (first|(go_at_call 18;(with_reducible refine QA.out.mono ?_);rintro e w1 ⟨rfl,hb⟩;(have HB1:=A_ hb);clear hb)|((with_reducible refine gate_dst (N:=29) rfl ?_);refine Kd.R_lit (Kd.tag (fun _=>0) kTN) (w0:=w) w.heap.size 44 ?hg (N:=29) ?hd (xs:=([]:List (S44 × Nat))) (inner:=[]) (ok:=fun _=>True) (okp:=fun _=>True) ?hr ?hp (fun _ hk=>hk) trivial HB1.out (HB1.out).size (by simp) ?_;(case hd=>rfl);(case hg=>rfl);(case hr=>first|(go_simp;done)|(go_simp;rfl));(case hp=>exact (Reps.none _ _));intro v2 w2 ho hb _ _;(have HO2:=A_ (Sep.S_of_tag (d:=kTN) ho));obtain ⟨AL,cL,rfl⟩:=Kd.S_slice HO2.out;(have HBL:=A_ hb);clear ho hb))
  go_ret2
  exact ⟨AL,cL,rfl,(S_readsT HO2.out).2.2,Nat.zero_le _,HBL.out⟩
 subst hz
 obtain ⟨b,hbt,h⟩:=ob_ h
 have QT:=A_ (fun V (hV:Below w.heap.size w V)=>spec_l03Tree.calls k A2 c2 kids b V (cb_ hr2 hV) hc2 hbt)
 by_cases hbb:b=true
 case neg =>
  rw [if_neg hbb] at h
  obtain ⟨rfl,rfl⟩:=Prod.mk.inj (oi_ h)
  obtain rfl:b=false:=by simpa using hbb
  clear h hr0 hc0 hr1 hc1 hr2 hc2 hcd l1 l2 l3 hbt hbb
  generalize x0.length=n0 at *
  generalize path.length=n1 at *
  generalize kids.length=n2 at *
  go_enter Try.func6,Try.ntmps6
  go_wp2_with (first|(go_at_call 18;(with_reducible refine QA.out.mono ?_);rintro e w1 ⟨rfl,hb⟩;(have HB1:=A_ hb);clear hb)|(go_at_call 19;(with_reducible refine (QT.out _ HB1.out).mono ?_);rintro e w2 ⟨rfl,hb⟩;(have HB2:=A_ (HB1.out.trans (hb.mono HB1.out.size)));clear hb)|((with_reducible refine gate_dst (N:=34) rfl ?_);refine Kd.R_lit (Kd.tag (fun _=>0) kTN) (w0:=w) w.heap.size 44 ?hg (N:=34) ?hd (xs:=([]:List (S44 × Nat))) (inner:=[]) (ok:=fun _=>True) (okp:=fun _=>True) ?hr ?hp (fun _ hk=>hk) trivial HB2.out (HB2.out).size (by simp) ?_;(case hd=>rfl);(case hg=>rfl);(case hr=>first|(go_simp;done)|(go_simp;rfl));(case hp=>exact (Reps.none _ _));intro v2 w2 ho hb _ _;(have HO2:=A_ (Sep.S_of_tag (d:=kTN) ho));obtain ⟨AL,cL,rfl⟩:=Kd.S_slice HO2.out;(have HBL:=A_ hb);clear ho hb))
  go_ret2
  exact ⟨AL,cL,rfl,(S_readsT HO2.out).2.2,Nat.zero_le _,HBL.out⟩
 subst hbb
 rw [if_pos rfl] at h
 obtain ⟨⟨e1,e2,e3,e4,e5,e6,e7⟩,hE,h⟩:=ob_ h
 dsimp only at h
 have QE:=A_ (fun V (hV:Below w.heap.size w V)=>spec_l09Element.calls k (fun q=>q<w.heap.size) A0 c0 x0 A1 c1 path e1 e2 e3 e4 e5 e6 e7 V (Kd.V_mk hc0 (fun W' hW=>Kd.Heap.C k44_heap (fun q hq=>(hW q hq (Nat.lt_of_lt_of_le hq hV.size)).trans (hV.block q hq)) hr0)) (cb_ hr1 hV) hc1 hE)
 by_cases he7:e7=0
 case neg =>
  rw [if_neg he7] at h
  obtain ⟨rfl,rfl⟩:=Prod.mk.inj (oi_ h)
  have hq1:(e7 == 0)=false:=by simpa using he7
  have hq2:(e7 != 0)=true:=by simpa using he7
  clear h hr0 hc0 hr1 hc1 hr2 hc2 hcd l1 l2 l3 hbt hE
  generalize x0.length=n0 at *
  generalize path.length=n1 at *
  generalize kids.length=n2 at *
  go_enter Try.func6,Try.ntmps6
  go_wp2_with (first|(go_at_call 18;(with_reducible refine QA.out.mono ?_);rintro e w1 ⟨rfl,hb⟩;(have HB1:=A_ hb);clear hb)|(go_at_call 19;(with_reducible refine (QT.out _ HB1.out).mono ?_);rintro e w2 ⟨rfl,hb⟩;(have HB2:=A_ (HB1.out.trans (hb.mono HB1.out.size)));clear hb)|(go_at_call 20;(with_reducible refine (QE.out _ HB2.out).mono ?_);rintro e w3 ⟨v4,v5,rfl,hv4,hv5,hb⟩;obtain ⟨A4,n4,rfl⟩:=Kd.V_slice hv4;obtain ⟨A5,n5,rfl⟩:=Kd.V_slice hv5;(have HB3:=A_ (HB2.out.trans (hb.mono HB2.out.size)));(have HV4:=A_ hv4);(have HBB:=A_ (fun o=>ba_ HB3.out o));clear hb hv4 hv5)|((with_reducible refine gate_dst (N:=43) rfl ?_);refine Kd.R_lit (Kd.tag (fun _=>0) kTN) (w0:=w) w.heap.size 44 ?hg (N:=43) ?hd (xs:=([]:List (S44 × Nat))) (inner:=[]) (ok:=fun _=>True) (okp:=fun _=>True) ?hr ?hp (fun _ hk=>hk) trivial (HBB.out _) ((HBB.out _)).size (by simp) ?_;(case hd=>rfl);(case hg=>rfl);(case hr=>first|(go_simp;done)|(go_simp;rfl));(case hp=>exact (Reps.none _ _));intro v2 w2 ho hb _ _;(have HO2:=A_ (Sep.S_of_tag (d:=kTN) ho));obtain ⟨AL,cL,rfl⟩:=Kd.S_slice HO2.out;(have HBL:=A_ hb);clear ho hb))
  go_ret2
  exact ⟨AL,cL,rfl,(S_readsT HO2.out).2.2,Nat.zero_le _,HBL.out⟩
 subst he7
 rw [if_pos rfl] at h
 obtain ⟨r,hP,hD⟩:=ob_ h
 have QP:=A_ (fun (V:World) (b:Nat) (A4:Option Addr) (n4:Nat) (hV:Below w.heap.size w V) (hb:V.heap[b]? = some (.cells #[.int .i64 e1,.int .i64 e2,.string e3,.string e4,.slice A4 e5.length n4,.slice A2 kids.length c2] 44 (0,0))) (h4:e5.length≤n4) (h5:Kd.C k75 V A4 e5.length e5)=>(show Calls Try.prog 22 #[.slice A0 x0.length c0,.slice A1 path.length c1,.slice (some ⟨b,0,none⟩) 1 1] V _ from spec_l09Put.calls k (fun q=>q<w.heap.size) A0 c0 x0 A1 c1 path (fun _=>True) (some ⟨b,0,none⟩) 1 [(⟨e1,e2,e3,e4,e5,kids⟩:S44)] r V (Kd.V_mk hc0 (fun W' hW=>Kd.Heap.C k44_heap (fun q hq=>(hW q hq (Nat.lt_of_lt_of_le hq hV.size)).trans (hV.block q hq)) hr0)) (cb_ hr1 hV) hc1 (Kd.V_mk (Nat.le_refl _) (fun W' hW=>Kd.Heap.C k44_heap (fun q hq=>hW q trivial hq) (spec_SetKids.one V b (⟨e1,e2,e3,e4,e5,kids⟩:S44) hb h4 h5 hc2 (cb_ hr2 hV)))) hP).mono (R':=fun e w'=>∃ A c,e=.returned (.slice A r.length c)∧r.length≤c∧Kd.C k44 w' A r.length r∧Below V.heap.size V w') (fun e w' ⟨v0,he,hN,hb⟩=>by obtain ⟨A,c,rfl,h1,h2⟩:=Kd.N_reads hN;exact ⟨A,c,he,h1,h2,hb⟩))
 have QD:=A_ (fun (V:World) (A:Option Addr) (c:Nat) (h1:r.length≤c) (h2:Kd.C k44 V A r.length r)=>(spec_l09Done.calls k A c r r1 r2 V h2 h1 hD).mono (R':=fun e w'=>∃ A c,e=.returned (.tuple #[.slice A r1.length c,.int .i64 r2])∧r1.length≤c∧Kd.C k44 w' A r1.length r1∧Below V.heap.size V w') (fun e w' ⟨v0,he,hR,hb⟩=>by obtain ⟨A,c,rfl,h1,h2⟩:=Kd.R_reads hR;exact ⟨A,c,he,h1,h2,hb⟩))
 clear h hr0 hc0 hr1 hc1 hr2 hc2 hcd l1 l2 l3 hbt hE hP hD
 generalize x0.length=n0 at *
 generalize path.length=n1 at *
 generalize kids.length=n2 at *
 go_enter Try.func6,Try.ntmps6
 go_wp2_with (first|(go_at_call 18;(with_reducible refine QA.out.mono ?_);rintro e w1 ⟨rfl,hb⟩;(have HB1:=A_ hb);clear hb)|(go_at_call 19;(with_reducible refine (QT.out _ HB1.out).mono ?_);rintro e w2 ⟨rfl,hb⟩;(have HB2:=A_ (HB1.out.trans (hb.mono HB1.out.size)));clear hb)|(go_at_call 20;(with_reducible refine (QE.out _ HB2.out).mono ?_);rintro e w3 ⟨v4,v5,rfl,hv4,hv5,hb⟩;obtain ⟨A4,n4,rfl⟩:=Kd.V_slice hv4;obtain ⟨A5,n5,rfl⟩:=Kd.V_slice hv5;(have HB3:=A_ (HB2.out.trans (hb.mono HB2.out.size)));(have HV4:=A_ hv4);(have HBB:=A_ (fun o=>ba_ HB3.out o));clear hb hv4 hv5)|(go_at_call 22;(with_reducible refine (QP.out _ _ A4 n4 (ba_ (ba_ HB3.out _) _) (spec_SetKids.blk2 _ _ _) (Kd.V_reads' HV4.out).2.1 (ca_ (ca_ (Kd.V_reads' HV4.out).2.2 _) _)).mono ?_);rintro e w7 ⟨A7,n7,rfl,hl,hC,hb⟩;(have HB7:=A_ ((ba_ (ba_ HB3.out _) _).trans (hb.mono (ba_ (ba_ HB3.out _) _).size)));(have HC7:=A_ hC);(have HL7:=A_ hl);clear hb hC hl)|(go_at_call 21;(with_reducible refine (QD.out _ _ _ HL7.out HC7.out).mono ?_);rintro e w8 ⟨A8,n8,rfl,hl,hC,hb⟩;(have HB8:=A_ (HB7.out.trans (hb.mono HB7.out.size)));(have hC8:=A_ hC);(have hl8:=A_ hl);clear hb hC hl))
 go_ret2
 exact ⟨A8,n8,rfl,hC8.out,hl8.out,HB8.out⟩
/-! ### laws_toAttr: function 68 -/
def laws_toAttr.f (a0_0:ByteArray) (a0_1:ByteArray):Option (ByteArray × ByteArray):=some (a0_0,a0_1)
set_option maxHeartbeats 8000000 in
set_option maxRecDepth 100000 in
theorem laws_toAttr.calls (a0_0:ByteArray) (a0_1:ByteArray) (r1:ByteArray) (r2:ByteArray) (w:World) (h:laws_toAttr.f a0_0 a0_1=some (r1,r2)) :
 Calls Try.prog 68 #[.agg #[.string a0_0,.string a0_1]] w fun e w'=>e=.returned (.agg #[.string r1,.string r2])∧Below w.heap.size w w':=by
 have hu82:=Try.underlying82
 have hu75:=Try.underlying75
 have HB:=A_ (Below.refl w.heap.size w)
 have H:(some (a0_0,a0_1))=some (r1,r2):=h
 clear h
 simp only [Option.some.injEq,Prod.mk.injEq] at H
 obtain ⟨rfl,rfl⟩:=H
 go_enter Try.func68,Try.ntmps68
 go_wp2_with (first|((with_reducible refine gate_dst (N:=1) rfl ?_);refine box_event ?hg (N:=1) ?hd (cs:=#[.string a0_0,.string a0_1]) (t:=82) ?hr ?_;(case hd=>rfl);(case hg=>rfl);(case hr=>first|(go_simp;done)|(go_simp;rfl));intro gb235 hg w2 hbox hb;have n0_:=A_ (bp_ (by repeat (first|(with_reducible first|exact HB.out|apply ba_|apply pd_|apply b1_)|exact HB.out)) hb);have n1_:=A_ (hbox);have n2_:=A_ ((by rw [hg];exact (bz_ (by repeat (first|(with_reducible first|exact HB.out|apply ba_|apply pd_|apply b1_)|exact HB.out))):w.heap.size≤gb235));have n3_:=A_ ((by rw [hg];exact (bz_ (by repeat (first|(with_reducible first|exact HB.out|apply ba_|apply pd_|apply b1_)|exact HB.out))):w.heap.size≤gb235));clear HB;have HB:=n0_;have BK235:=n1_;have GW235:=n2_;have GE235:=n3_;clear n0_ n1_ n2_ n3_;clear hb hbox hg)|((with_reducible refine gate_dst (N:=2) rfl ?_);refine box_event ?hg (N:=2) ?hd (cs:=#[.string (⟨#[]⟩:ByteArray),.string (⟨#[]⟩:ByteArray)]) (t:=75) ?hr ?_;(case hd=>rfl);(case hg=>rfl);(case hr=>first|(go_simp;done)|(go_simp;rfl));intro gb236 hg w3 hbox hb;have n0_:=A_ (kb_ (g:=gb235) (o:=.cells #[.string a0_0,.string a0_1] 82 (0,0)) (by (with_reducible repeat (first|refine kn_ ?_ _|refine kd_ ?_|refine ka_ ?_ _));exact BK235.out) hb);have n1_:=A_ (bp_ (by repeat (first|(with_reducible first|exact HB.out|apply ba_|apply pd_|apply b1_|refine bs_ ?_ GE235.out)|exact HB.out)) hb);have n2_:=A_ (hbox);have n3_:=A_ ((by rw [hg];exact (bz_ (by repeat (first|(with_reducible first|exact HB.out|apply ba_|apply pd_|apply b1_|refine bs_ ?_ GE235.out)|exact HB.out))):w.heap.size≤gb236));have n4_:=A_ ((by rw [hg];exact (bz_ (by repeat (first|(with_reducible first|exact HB.out|apply ba_|apply pd_|apply b1_|refine bs_ ?_ GE235.out)|exact HB.out))):w.heap.size≤gb236));have n5_:=A_ ((by rw [hg];exact Nat.ne_of_lt (blk_lt (g:=gb235) (o:=.cells #[.string a0_0,.string a0_1] 82 (0,0)) (by (with_reducible repeat (first|refine kn_ ?_ _|refine kd_ ?_|refine ka_ ?_ _));exact BK235.out)):gb235≠gb236));have n6_:=A_ ((by rw [hg];exact Nat.ne_of_gt (blk_lt (g:=gb235) (o:=.cells #[.string a0_0,.string a0_1] 82 (0,0)) (by (with_reducible repeat (first|refine kn_ ?_ _|refine kd_ ?_|refine ka_ ?_ _));exact BK235.out)):gb236≠gb235));clear BK235;clear HB;have BK235:=n0_;have HB:=n1_;have BK236:=n2_;have GW236:=n3_;have GE236:=n4_;have NB235_236:=n5_;have NB236_235:=n6_;clear n0_ n1_ n2_ n3_ n4_ n5_ n6_;clear hb hbox hg)|((with_reducible refine gate_dst (N:=3) rfl ?_);refine box_event ?hg (N:=3) ?hd (cs:=#[.string (⟨#[]⟩:ByteArray),.string (⟨#[]⟩:ByteArray)]) (t:=75) ?hr ?_;(case hd=>rfl);(case hg=>rfl);(case hr=>first|(go_simp;done)|(go_simp;rfl));intro gb237 hg w4 hbox hb;have n0_:=A_ (kb_ (g:=gb235) (o:=.cells #[.string a0_0,.string a0_1] 82 (0,0)) (by (with_reducible repeat (first|refine kn_ ?_ _|refine kd_ ?_|refine ka_ ?_ _));exact BK235.out) hb);have n1_:=A_ (kb_ (g:=gb236) (o:=.cells #[.string (⟨#[]⟩:ByteArray),.string (⟨#[]⟩:ByteArray)] 75 (0,0)) (by (with_reducible repeat (first|refine kn_ ?_ _|refine kd_ ?_|refine ka_ ?_ _));exact BK236.out) hb);have n2_:=A_ (bp_ (by repeat (first|(with_reducible first|exact HB.out|apply ba_|apply pd_|apply b1_|refine bs_ ?_ GE235.out|refine bs_ ?_ GE236.out)|exact HB.out)) hb);have n3_:=A_ (hbox);have n4_:=A_ ((by rw [hg];exact (bz_ (by repeat (first|(with_reducible first|exact HB.out|apply ba_|apply pd_|apply b1_|refine bs_ ?_ GE235.out|refine bs_ ?_ GE236.out)|exact HB.out))):w.heap.size≤gb237));have n5_:=A_ ((by rw [hg];exact (bz_ (by repeat (first|(with_reducible first|exact HB.out|apply ba_|apply pd_|apply b1_|refine bs_ ?_ GE235.out|refine bs_ ?_ GE236.out)|exact HB.out))):w.heap.size≤gb237));have n6_:=A_ ((by rw [hg];exact Nat.ne_of_lt (blk_lt (g:=gb235) (o:=.cells #[.string a0_0,.string a0_1] 82 (0,0)) (by (with_reducible repeat (first|refine kn_ ?_ _|refine kd_ ?_|refine ka_ ?_ _));exact BK235.out)):gb235≠gb237));have n7_:=A_ ((by rw [hg];exact Nat.ne_of_gt (blk_lt (g:=gb235) (o:=.cells #[.string a0_0,.string a0_1] 82 (0,0)) (by (with_reducible repeat (first|refine kn_ ?_ _|refine kd_ ?_|refine ka_ ?_ _));exact BK235.out)):gb237≠gb235));have n8_:=A_ ((by rw [hg];exact Nat.ne_of_lt (blk_lt (g:=gb236) (o:=.cells #[.string (⟨#[]⟩:ByteArray),.string (⟨#[]⟩:ByteArray)] 75 (0,0)) (by (with_reducible repeat (first|refine kn_ ?_ _|refine kd_ ?_|refine ka_ ?_ _));exact BK236.out)):gb236≠gb237));have n9_:=A_ ((by rw [hg];exact Nat.ne_of_gt (blk_lt (g:=gb236) (o:=.cells #[.string (⟨#[]⟩:ByteArray),.string (⟨#[]⟩:ByteArray)] 75 (0,0)) (by (with_reducible repeat (first|refine kn_ ?_ _|refine kd_ ?_|refine ka_ ?_ _));exact BK236.out)):gb237≠gb236));clear BK235;clear BK236;clear HB;have BK235:=n0_;have BK236:=n1_;have HB:=n2_;have BK237:=n3_;have GW237:=n4_;have GE237:=n5_;have NB235_237:=n6_;have NB237_235:=n7_;have NB236_237:=n8_;have NB237_236:=n9_;clear n0_ n1_ n2_ n3_ n4_ n5_ n6_ n7_ n8_ n9_;clear hb hbox hg;have hnb5:=NB235_236.out;have hnc5:=NB236_235.out;have hnb6:=NB235_237.out;have hnc6:=NB237_235.out;have hcz7_0:w4.cell? ⟨gb235,0,none⟩=some (.string a0_0):=(bc_ BK235.out 0).trans rfl;have hcz7_1:w4.cell? ⟨gb235,1,none⟩=some (.string a0_1):=(bc_ BK235.out 1).trans rfl;have hfz7_0:=bf_ BK235.out 0;have hfz7_1:=bf_ BK235.out 1;have hnb8:=NB237_236.out;have hnc8:=NB236_237.out;have hcz9_0:w4.cell? ⟨gb237,0,none⟩=some (.string (⟨#[]⟩:ByteArray)):=(bc_ BK237.out 0).trans rfl;have hcz9_1:w4.cell? ⟨gb237,1,none⟩=some (.string (⟨#[]⟩:ByteArray)):=(bc_ BK237.out 1).trans rfl;have hfz9_0:=bf_ BK237.out 0;have hfz9_1:=bf_ BK237.out 1;have hcz10_0:w4.cell? ⟨gb236,0,none⟩=some (.string (⟨#[]⟩:ByteArray)):=(bc_ BK236.out 0).trans rfl;have hcz10_1:w4.cell? ⟨gb236,1,none⟩=some (.string (⟨#[]⟩:ByteArray)):=(bc_ BK236.out 1).trans rfl;have hfz10_0:=bf_ BK236.out 0;have hfz10_1:=bf_ BK236.out 1))
 refine bodyPost_ret (results_cell_row rfl _ _ gb236 75 #[.string a0_0,.string a0_1] (0,0) _ rfl (by (with_reducible repeat (first|refine kn_ ?_ _|refine kd_ ?_|refine ka_ ?_ _));refine blk_put (cs:=#[.string a0_0,.string (⟨#[]⟩:ByteArray)]) ?_ 1 _ rfl;(with_reducible repeat (first|refine kn_ ?_ _|refine kd_ ?_|refine ka_ ?_ _));refine blk_put (cs:=#[.string (⟨#[]⟩:ByteArray),.string (⟨#[]⟩:ByteArray)]) ?_ 0 _ rfl;(with_reducible repeat (first|refine kn_ ?_ _|refine kd_ ?_|refine ka_ ?_ _));refine blk_far ?_ NB236_237.out _;(with_reducible repeat (first|refine kn_ ?_ _|refine kd_ ?_|refine ka_ ?_ _));refine blk_far ?_ NB236_237.out _;(with_reducible repeat (first|refine kn_ ?_ _|refine kd_ ?_|refine ka_ ?_ _));exact BK236.out) Try.underlying75 rfl (by kernel_rfl)) rfl ?_
 exact ⟨by first|rfl|(simp [errW_none,errW_some] <;> rfl)|(simp [*,errW_none,errW_some] <;> rfl),by repeat (first|(with_reducible first|exact HB.out|apply ba_|apply pd_|apply b1_|refine bs_ ?_ GE235.out|refine bs_ ?_ GE236.out|refine bs_ ?_ GE237.out)|exact HB.out)⟩
/-! ### laws_toAttrS: function 44 -/
def laws_toAttrS.l0:Nat→List (S82)→List (S75)→Int→Option ((List (S75)))
 | 0,_,_,_=>none
 | k+1,x0,x3,x4=>if x4<(x0.length:Int) then (if 0≤x4 then ((laws_toAttr.f ((rd_T82 x0 x4).f0) ((rd_T82 x0 x4).f1)).bind fun bt242=>(if x4<(x3.length:Int) then (laws_toAttrS.l0 k x0 (x3.set (x4:Int).toNat (⟨bt242.1,bt242.2⟩:S75)) (wrap64 (x4+1))) else (none))) else (none)) else (some x3)
def laws_toAttrS.f (k:Nat) (l0:List (S82)):Option ((List (S75))):=if 0≤(l0.length:Int) then (if ((l0.length:Int):Int).toNat≤8796093022208 then (laws_toAttrS.l0 k l0 (List.replicate ((l0.length:Int):Int).toNat z75) 0) else (none)) else (none)
theorem laws_toAttrS.mono_l:∀ k,(∀ y0 y1 y2,LeO (laws_toAttrS.l0 k y0 y1 y2) (laws_toAttrS.l0 (k+1) y0 y1 y2))
 | 0=>fun _ _ _ r h=>by simp [laws_toAttrS.l0] at h
 | k+1=>by
  have ih0:=laws_toAttrS.mono_l k
  ·intro y0 y1 y2
   unfold laws_toAttrS.l0
   repeat' first
   | (with_reducible exact ih0 _ _ _)
   | (with_reducible exact LeO.refl _)
   | (with_reducible exact LeO.none _)
   | (with_reducible refine LeO.ite ?_ ?_)
   | (with_reducible refine LeO.bind ?_ (fun _=>?_))
   | exact ih0 _ _ _
   | exact LeO.none _
   | refine LeO.ite ?_ ?_
   | refine LeO.bind ?_ (fun _=>?_)
theorem laws_toAttrS.mono:∀ a0 k,LeO (laws_toAttrS.f k a0) (laws_toAttrS.f (k+1) a0):=by
 intro a0 k
 have ih0:=laws_toAttrS.mono_l k
 unfold laws_toAttrS.f
 repeat' first
  | (with_reducible exact ih0 _ _ _)
  | (with_reducible exact LeO.refl _)
  | (with_reducible exact LeO.none _)
  | (with_reducible refine LeO.ite ?_ ?_)
  | (with_reducible refine LeO.bind ?_ (fun _=>?_))
  | exact ih0 _ _ _
  | exact LeO.none _
  | refine LeO.ite ?_ ?_
  | refine LeO.bind ?_ (fun _=>?_)
set_option maxHeartbeats 8000000 in
set_option maxRecDepth 100000 in
theorem laws_toAttrS.calls (k:Nat) (A0:Option Addr) (c0:Nat) (l0:List (S82)) (r:List (S75)) (w:World) (hr0:Kd.C k82 w A0 l0.length l0) (hc0:l0.length≤c0) (h:laws_toAttrS.f k l0=some r) :
 Calls Try.prog 44 #[.slice A0 l0.length c0] w fun e w'=>∃ v0_:Value,e=.returned (v0_)∧Kd.R k75 75 w' w.heap.size (fun _=>True) v0_ r∧Below w.heap.size w w':=by
 have hu82:=Try.underlying82
 have hu75:=Try.underlying75
 have HR0:=A_ hr0
 have HC0:=A_ hc0
 clear hr0 hc0
 have HB:=A_ (Below.refl w.heap.size w)
 have H:(if 0≤(l0.length:Int) then (if ((l0.length:Int):Int).toNat≤8796093022208 then (laws_toAttrS.l0 k l0 (List.replicate ((l0.length:Int):Int).toNat z75) 0) else (none)) else (none))=some r:=h
 clear h
 by_cases c2:0≤(l0.length:Int)
 ·rw [if_pos c2] at H
  have c2b0:=eq_true c2
  have c2b1:decide (0≤(l0.length:Int))=true:=dt_ c2
  clear c2
  by_cases c3:((l0.length:Int):Int).toNat≤8796093022208
  ·rw [if_pos c3] at H
   have c3b0:=eq_true c3
   have c3b1:decide (((l0.length:Int):Int).toNat≤8796093022208)=true:=dt_ c3
   clear c3
   obtain ⟨y238,hy238⟩:∃ y_:List (S75),y_=(List.replicate ((l0.length:Int):Int).toNat z75):=⟨_,rfl⟩
   replace H:(laws_toAttrS.l0 k l0 y238 0)=some r:=by first|(rw [hy238];with_reducible exact H)|(have H2_:=(Option.bind_some _ _).symm.trans H;rw [hy238];with_reducible exact H2_)|(have H2_:=(Option.bind_some _ _).symm.trans H;with_reducible exact H2_)|with_reducible exact H|(rw [hy238];exact H)|exact H
   have Ny238:=A_ hy238
   clear hy238
   have H':=A_ H
   clear H
   go_enter Try.func44,Try.ntmps44
   go_wp2_with (first|((with_reducible refine gate_dst (N:=7) rfl ?_);refine Kd.R_make k75 _ 75 rfl (N:=7) rfl 42 _ _ rfl (l0.length:Int) rfl rfl Try.underlying42 (.agg #[(.string ⟨#[]⟩),(.string ⟨#[]⟩)]) 32 info75 rfl (by decide) (by omega) z75 (ok:=fun _=>True) (okp:=fun _=>True) (k75_mkM _ _ _ z75 ) (fun _ hk=>hk) trivial (od_ (by first|(with_reducible assumption)|assumption)) (Nat.le_trans (Nat.mul_le_mul_right _ (od_ (by first|(with_reducible assumption)|assumption):(l0.length:Int).toNat≤8796093022208)) (by omega)) (Below.refl _ _) (Nat.le_refl _) ?_;intro v239 w4 ho5 hb hg_ hnew_;clear hg_ hnew_;(first|rw [←Ny238.out] at ho5|(simp only [Int.reduceToNat] at ho5;rw [←Ny238.out] at ho5));have n0_:=A_ (Kd.R_lower ho5 (bz_ (by repeat (first|(with_reducible first|exact HB.out|apply ba_|apply pd_|apply b1_)|exact HB.out))));have n1_:=A_ (bp_ (by repeat (first|(with_reducible first|exact HB.out|apply ba_|apply pd_|apply b1_)|exact HB.out)) hb);clear HB;have HO240:=n0_;have HB:=n1_;clear n0_ n1_;clear hb ho5))
   go_loopg [4] k (fun kq v4 w'=>∃ (x3_1:List (S75)) (x4_1:Int),v4=.int .i64 x4_1∧Aside0 (laws_toAttrS.l0 kq l0 x3_1 x4_1=some r)∧Aside0 (kq≤k)∧Aside0 (Kd.R k75 75 w' w.heap.size (fun _=>True) v239 x3_1)∧Aside0 (Below w.heap.size w w'))
   case atStart=>exact ⟨(y238),(0),(by first|rfl|(simp;done)|(simp [*];done)),H',⟨Nat.le_refl _⟩,⟨by (with_reducible repeat (first|apply Kd.R_alloc|apply Kd.R_drewN|apply Kd.R_drew));exact HO240.out⟩,⟨by repeat (first|(with_reducible first|exact HB.out|apply ba_|apply pd_|apply b1_)|exact HB.out)⟩⟩
   case round =>
    clear H'
    try clear c2
    try clear c2b0
    try clear c2b1
    try clear p2
    try clear c3
    try clear c3b0
    try clear c3b1
    try clear c4
    obtain ⟨x3_1,x4_1,rfl,HA,HK1,HO_3,HB⟩:=hrel
    cases gk with
    | zero=>exact absurd HA.out (by simp [laws_toAttrS.l0])
    | succ k1 =>
     have H:=HA.out
     clear HA
     simp only [laws_toAttrS.l0] at H
     by_cases c6:x4_1<(l0.length:Int)
     ·rw [if_pos c6] at H
      have c6b0:decide (x4_1<(l0.length:Int))=true:=dt_ c6
      clear c6
      by_cases c7:0≤x4_1
      ·rw [if_pos c7] at H
       have c7b0:decide (0≤x4_1)=true:=dt_ c7
       clear c7
       replace H:=ob_ H
       obtain ⟨⟨t242,t243⟩,A80,H⟩:=H
       replace H:(if x4_1<(x3_1.length:Int) then (laws_toAttrS.l0 k1 l0 (x3_1.set (x4_1:Int).toNat (⟨t242,t243⟩:S75)) (wrap64 (x4_1+1))) else (none))=some r:=H
       have A8:=A_ A80
       clear A80
       by_cases c9:x4_1<(x3_1.length:Int)
       ·rw [if_pos c9] at H
        have c9b0:decide (x4_1<(x3_1.length:Int))=true:=dt_ c9
        clear c9
        obtain ⟨y244,hy244⟩:∃ y_:List (S75),y_=(x3_1.set (x4_1:Int).toNat (⟨t242,t243⟩:S75)):=⟨_,rfl⟩
        replace H:(laws_toAttrS.l0 k1 l0 y244 (wrap64 (x4_1+1)))=some r:=by first|(rw [hy244];with_reducible exact H)|(have H2_:=(Option.bind_some _ _).symm.trans H;rw [hy244];with_reducible exact H2_)|(have H2_:=(Option.bind_some _ _).symm.trans H;with_reducible exact H2_)|with_reducible exact H|(rw [hy244];exact H)|exact H
        have Ny244:=A_ hy244
        clear hy244
        have H':=A_ H
        clear H
        have p241:0≤(x4_1:Int):=od_ (by first|(with_reducible assumption)|assumption)
        have q241:x4_1<(l0.length:Int):=od_ (by first|(with_reducible assumption)|assumption)
        obtain ⟨ad241,e241,hx241_0,hx241_1⟩:=at_T82 HR0.out x4_1 p241 q241
        cases e241
        replace hx241_0:=(HB.out.cell (bl_ w _ hx241_0)).trans hx241_0
        replace hx241_1:=(HB.out.cell (bl_ w _ hx241_1)).trans hx241_1
        replace p241:=eq_true p241
        replace q241:=eq_true q241
        go_wp2_with (first|((with_reducible refine gate_callee (f:=68) rfl ?_);refine goesL_ (some 20) rfl rfl Try.func68 (by kernel_rfl) rfl #[.agg #[.string ((rd_T82 l0 x4_1).f0),.string ((rd_T82 l0 x4_1).f1)]] rfl (by (try simp only [List.map_toArray,List.map_cons,List.map_nil]);first|done|rfl|(simp only [ld_,lt_];rfl)) ?_;(with_reducible refine (laws_toAttr.calls ((rd_T82 l0 x4_1).f0) ((rd_T82 l0 x4_1).f1) t242 t243 _ A8.out).mono ?_);rintro e w11 ⟨rfl,hb⟩;refine ⟨_,rfl,?_⟩;have n0_:=A_ (Kd.R_below (by (with_reducible repeat (first|apply Kd.R_alloc|apply Kd.R_drewN|apply Kd.R_drew));exact HO_3.out) hb);have n1_:=A_ (bp_ (by repeat (first|(with_reducible first|exact HB.out|apply ba_|apply pd_|apply b1_)|exact HB.out)) hb);clear HO_3;clear HB;have HO_3:=n0_;have HB:=n1_;clear n0_ n1_;(try clear hb);(try clear hb2);(try clear hk);(try clear hi);have p10:0≤(x4_1:Int):=od_ (by first|(with_reducible assumption)|assumption);have q10:(x4_1:Int)<((x3_1.length:Int):Int):=od_ (by first|(with_reducible assumption)|assumption);obtain ⟨go10,co10,eo10,gb10,gl10,cl10,HG10⟩:=Kd.R_form HO_3.out (by omega);(first|cases eo10|(injection eo10 with ea_ en_ ec_;(first|subst ea_|(injection ea_ with ea_;subst ea_));subst ec_;clear en_));have GB10:=A_ gb10;have GG10:=A_ HG10;clear gb10 gl10 HG10;obtain ⟨ce10,hcl10,hM10,hcc10,hfr10⟩:=Kd.R_elem HO_3.out z75 (x4_1:Int) p10 q10;obtain rfl:=k75_openM hM10;have hx10_0:w11.cell? ⟨go10,(x4_1:Int).toNat * 2,none⟩=some (.string ((rd_T75 x3_1 x4_1).f0)):=hcc10 0 _ rfl;have hx10_1:w11.cell? ⟨go10,(x4_1:Int).toNat * 2+1,none⟩=some (.string ((rd_T75 x3_1 x4_1).f1)):=hcc10 1 _ rfl;have hf10_0:w11.frozen? ⟨go10,(x4_1:Int).toNat * 2,none⟩=false:=hfr10 0;have hf10_1:w11.frozen? ⟨go10,(x4_1:Int).toNat * 2+1,none⟩=false:=hfr10 1;clear hcl10 hcc10 hfr10 hM10;replace p10:=eq_true p10;replace q10:=eq_true q10;have HX12:=A_ (show Kd.R k75 75 w11 w.heap.size (fun _=>True) (.slice (some ⟨go10,0,none⟩) x3_1.length co10) x3_1 from (by (with_reducible repeat (first|apply Kd.R_alloc|apply Kd.R_drewN|apply Kd.R_drew));exact HO_3.out));obtain ⟨ce12,hcl12,hM12,hcc12,hfr12⟩:=Kd.R_elem HX12.out z75 (x4_1:Int) (od_ (by first|(with_reducible assumption)|assumption)) (by have h_:(x4_1:Int)<((x3_1.length:Int):Int):=od_ (by first|(with_reducible assumption)|assumption);first|exact h_|(have e_:=(Kd.R_reads' HO_3.out).1;omega)|simpa using h_);obtain rfl:=k75_openM hM12;have HP12:=Kd.R_seg HX12.out (x4_1:Int) (od_ (by first|(with_reducible assumption)|assumption)) (by have h_:(x4_1:Int)<((x3_1.length:Int):Int):=od_ (by first|(with_reducible assumption)|assumption);first|exact h_|(have e_:=(Kd.R_reads' HO_3.out).1;omega)|simpa using h_) (seg:=[.string t242,.string t243]) (j:=0) hcl12 hcc12 (show 2≤2 from by decide) (x':=(⟨t242,t243⟩:S75)) (k75_mkM _ _ _ (⟨t242,t243⟩:S75) ) (fun _ hk=>hk);have hx12_0:=hcc12 0 _ rfl;(try simp only [show (k75).sz=2 from rfl,Nat.mul_one,Nat.add_zero] at hx12_0);have hf12_0:=hfr12 0;(try simp only [show (k75).sz=2 from rfl,Nat.mul_one,Nat.add_zero] at hf12_0);have hx12_1:=hcc12 1 _ rfl;(try simp only [show (k75).sz=2 from rfl,Nat.mul_one,Nat.add_zero] at hx12_1);have hf12_1:=hfr12 1;(try simp only [show (k75).sz=2 from rfl,Nat.mul_one,Nat.add_zero] at hf12_1);clear hcl12 hcc12 hfr12 hM12)|((with_reducible refine gate_store (t:=75) (p:=21) rfl ?_);refine store_event (t:=75) (p:=21) (v:=?vo_w13) (w1:=((w11.setCell ⟨go10,(x4_1:Int).toNat * 2,none⟩ (.string t242)).setCell ⟨go10,(x4_1:Int).toNat * 2+1,none⟩ (.string t243))) ?hg ?ho ?hn ?hr ?_;(case ho=>rfl);(case hg=>rfl);(case hn=>rfl);(case hr=>first|(go_simp;done)|(go_simp;rfl)|((first|(obtain ⟨_,_,rfl⟩:=Kd.R_slice HO240.out)|(obtain ⟨_,_,rfl⟩:=Kd.S_slice HO240.out)|skip);first|(go_simp;done)|(go_simp;rfl)));intro w13 hw;have hg:w11.grownBy w13 (some go10):=(by rw [hw];exact HP12.2);have hp_:Kd.R k75 75 w13 w.heap.size (fun _=>True) (.slice (some ⟨go10,0,none⟩) x3_1.length co10) y244:=(by rw [hw,Ny244.out];exact HP12.1);clear HP12;have n0_:=A_ (hp_);have n1_:=A_ ((by rw [hw];exact bs_ (bs_ (HB.out) GB10.out) GB10.out:Below w.heap.size w w13));clear HO_3;clear HB;have HO_3:=n0_;have HB:=n1_;clear n0_ n1_;clear hg hw hp_))
        go_roundg k1
        case measure=>have:=HK1.out;omega
        case rel=>exact ⟨(y244),(wrap64 (x4_1+1)),(by first|rfl|(simp;done)|(simp [*];done)),H',⟨by have:=HK1.out;omega⟩,⟨by (with_reducible repeat (first|apply Kd.R_alloc|apply Kd.R_drewN|apply Kd.R_drew));exact HO_3.out⟩,⟨by repeat (first|(with_reducible first|exact HB.out|apply ba_|apply pd_|apply b1_)|exact HB.out)⟩⟩
       ·rw [if_neg c9] at H
        exact absurd H (by simp)
      ·rw [if_neg c7] at H
       exact absurd H (by simp)
     ·rw [if_neg c6] at H
      have c6b0:decide (x4_1<(l0.length:Int))=false:=df_ c6
      clear c6
      obtain rfl:=oi_ H
      go_wp2
      go_ret
      exact ⟨_,by first|rfl|(simp [errW_none,errW_some] <;> rfl)|(simp [*,errW_none,errW_some] <;> rfl),by (with_reducible repeat (first|apply Kd.R_alloc|apply Kd.R_drewN|apply Kd.R_drew));exact HO_3.out,by repeat (first|(with_reducible first|exact HB.out|apply ba_|apply pd_|apply b1_)|exact HB.out)⟩
  ·rw [if_neg c3] at H
   exact absurd H (by simp)
 ·rw [if_neg c2] at H
  exact absurd H (by simp)
end Go.Proofs.Ytjlikemmhjclpaa.PFnExactSetKids
