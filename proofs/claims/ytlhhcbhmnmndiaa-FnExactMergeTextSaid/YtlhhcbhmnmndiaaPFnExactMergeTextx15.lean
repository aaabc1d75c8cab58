/- By a program of this session, out of the kit's print and contracts made by hand: the machine side of a law; Lean checks it. No conditions. -/
import Derived.Test.YtlhhcbhmnmndiaaPFnExactMergeTextx0
import Derived.Test.YtlhhcbhmnmndiaaPFnExactMergeTextx6
import Derived.Test.YtlhhcbhmnmndiaaPFnExactMergeTextx13
import Derived.Test.YtlhhcbhmnmndiaaPFnExactMergeTextx14
namespace Go.Proofs.Ytlhhcbhmnmndiaa.PFnExactMergeText
open Go.RowKit Go.Proofs.YtlhhcbhmnmndiaaW.PrintWords Go.Proofs.YtlhhcbhmnmndiaaW.PrintLast Go.Proofs.YtlhhcbhmnmndiaaW.PrintMore
attribute [local go_sem] max2_int min2_int max_two min_two max_three min_three max_four min_four
set_option linter.unusedVariables false
set_option linter.unusedSimpArgs false
/-! ### spec_l03Merge: function 34, by hand -/
theorem specM {b0 bV:Nat} {wr w3 w4:World} {okA:Nat→Prop} {x:S49} {A7 A9:Option Addr} {c7 c9 m7 m9:Nat} {ks:List S49} {v v':Value} (ha:Kd.R k68 68 w3 bV okA (.slice A7 m7 c7) x.f4) (hbV:wr.heap.size<bV) (hws:b0≤wr.heap.size) (hb:Below (w3.setCell ⟨wr.heap.size,4,none⟩ v).heap.size (w3.setCell ⟨wr.heap.size,4,none⟩ v) w4) (hs:Kd.S kTN 49 w4 (w3.setCell ⟨wr.heap.size,4,none⟩ v).heap.size (fun k=>(w3.setCell ⟨wr.heap.size,4,none⟩ v).heap.size≤k) (.slice A9 m9 c9) ks) (h3:bV≤w3.heap.size) :
 kTN.M (w4.setCell ⟨wr.heap.size,5,none⟩ v') b0 (fun k=>wr.heap.size+1≤k) (⟨x.f0,x.f1,x.f2,x.f3,x.f4,ks⟩:S49) [.int .i64 x.f0,.int .i64 x.f1,.string x.f2,.string x.f3,.slice A7 m7 c7,.slice A9 m9 c9]:=by
 have hK:Kept w4 (w4.setCell ⟨wr.heap.size,5,none⟩ v') (fun k=>k=wr.heap.size):=Kept.setCell (Kept.refl w4 (fun k=>k=wr.heap.size)) (p:=⟨wr.heap.size,5,none⟩) (.inl rfl) v'
 have hK0:Kept w3 (w3.setCell ⟨wr.heap.size,4,none⟩ v) (fun k=>k=wr.heap.size):=Kept.setCell (Kept.refl w3 (fun k=>k=wr.heap.size)) (p:=⟨wr.heap.size,4,none⟩) (.inl rfl) v
 have hz:(w3.setCell ⟨wr.heap.size,4,none⟩ v).heap.size=w3.heap.size:=by simp [World.setCell]
 have g6:=Kd.R_below (Kd.R_kept (Kd.R_bound ha) hK0 (fun k hk (h:k=wr.heap.size)=>by have:=hk.2.1;omega)) hb
 rw [hz] at hs
 refine kTN_mkM _ _ _ (fun k=>k<w3.heap.size) (⟨x.f0,x.f1,x.f2,x.f3,x.f4,ks⟩:S49) ?_ ?_
 ·exact Kd.R_lower (Kd.R_mono (Kd.R_kept g6 hK (fun k hk (h:k=wr.heap.size)=>by have:=hk.2.1;omega)) (fun k hk=>⟨by have:=hk.2.1;omega,hk.2.2.1⟩)) (by omega)
 ·exact Kd.S_lower (Kd.S_mono (Kd.S_kept hs hK (fun k hk (h:k=wr.heap.size)=>by omega)) (fun k hk=>⟨by omega,by omega⟩)) (by omega)
abbrev l03MergeC (n:Nat):Prop:=∀ (A0:Option Addr) (c0:Nat) (l0:List S49) (w:World),l0.all (fewB n)=true→l0.length≤1048576→Kd.C k49 w A0 l0.length l0 →
 Calls Try.prog 34 #[.slice A0 l0.length c0] w fun e w'=>∃ A c,e=.returned (.slice A (mergeE (n+1) l0).length c)∧Kd.S kTN 49 w' w.heap.size (fun k=>w.heap.size≤k) (.slice A (mergeE (n+1) l0).length c) (mergeE (n+1) l0)∧Below w.heap.size w w'
set_option maxHeartbeats 32000000 in
set_option maxRecDepth 1000000 in
theorem l03Merge_step (n:Nat) (ih:∀ m,m+1=n→l03MergeC m):l03MergeC n:=by
 intro A0 c0 l0 w hf hn h0
 rw [List.all_eq_true] at hf
 obtain ⟨R,hR⟩:∃ R,mergeE (n+1) l0=R:=⟨_,rfl⟩
 rw [hR]
 rw [mergeE] at hR
 have HF:=A_ hR
 have HALL:=A_ hf
 have HC:=A_ h0
 have HN:=A_ hn
 have IH:=A_ ih
 have hL:l0.length≤9223372036854775807:=h0.2.1
 clear hf h0 hn ih hR
 go_enter Try.func34,Try.ntmps34
 go_wp2_with ((with_reducible refine gate_dst (N:=7) rfl ?_);refine Kd.R_lit (Kd.tag (fun _=>0) kTN) (w0:=w) w.heap.size 49 ?hg (N:=7) ?hd (xs:=([]:List (S49 × Nat))) (inner:=[]) (ok:=fun k=>w.heap.size≤k) (okp:=fun _=>False) ?hr ?hp (fun _ hk=>hk.elim) (Nat.le_refl _) (Below.refl _ _) (Nat.le_refl _) (by simp) ?_;(case hd=>rfl);(case hg=>rfl);(case hr=>first|(go_simp;done)|(go_simp;rfl));(case hp=>exact (Reps.none _ _));intro v6 w1 ho hb _ _;(have HO:=A_ (Sep.S_of_tag (d:=kTN) ho));(have HB:=A_ hb);clear ho hb;obtain ⟨A6,c6,rfl⟩:=Kd.S_slice HO.out)
 go_loopg [3,4,5,6] l0.length (fun gg s3 s4 _ _ wr=>∃ (kk:Nat) (out:List S49) (A3:Option Addr) (c3:Nat),kk≤l0.length∧l0.length - kk≤gg∧s3=.slice A3 out.length c3∧s4=.int .i64 kk∧Aside0 ((l0.drop kk).foldl (mergeS (mergeE n)) out=R)∧Aside0 (out.length≤kk)∧Aside0 (∀ y∈out,y.f3.size≤1048576)∧Aside0 (Kd.S kTN 49 wr w.heap.size (fun k=>w.heap.size≤k) (.slice A3 out.length c3) out)∧Aside0 (Below w.heap.size w wr))
 case atStart=>exact ⟨0,[],A6,c6,Nat.zero_le _,by omega,rfl,rfl,⟨by rw [List.drop_zero];exact HF.out⟩,⟨Nat.le_refl _⟩,⟨fun y hy=>by cases hy⟩,HO,HB⟩
 case round =>
  obtain ⟨kk,out,A3,c3,hkk,hgg,rfl,rfl,HFR,HLE,HSH,HG,BW⟩:=hrel
  by_cases hlt:kk<l0.length
  case neg =>
   have hltz:¬ (kk:Int)<(l0.length:Int):=by omega
   have HE:Aside0 (out=R):=⟨by have h:=HFR.out;rw [List.drop_eq_nil_of_le (by omega)] at h;exact h⟩
   go_wp2
   go_ret
   obtain rfl:=HE.out
   exact ⟨A3,c3,rfl,HG.out,BW.out⟩
  case pos =>
   have hltz:(kk:Int)<(l0.length:Int):=by omega
   obtain ⟨ad,cs,e,hcl,hK,hc⟩:=Kd.C_get HC.out z49 (kk:Int) (by omega) (by omega)
   rw [Int.toNat_natCast] at hK hc
   have hfy:=HALL.out _ (Kit.getD_mem z49 hlt)
   have HF2:Aside0 ((l0.drop (kk+1)).foldl (mergeS (mergeE n)) (mergeS (mergeE n) out (l0.getD kk z49))=R):=⟨by have h:=HFR.out;rw [Kit.drop_getD z49 l0 kk hlt,List.foldl_cons] at h;exact h⟩
   clear HFR
   generalize l0.getD kk z49=x at *
   obtain ⟨A4,c4,A5,c5,rfl,m4,q4,m5,q5⟩:=k49_open hK
   subst e
   have r0:wr.cell? (ad.add (kk * 6))=some (.int .i64 x.f0):=pc_ BW.out (hc 0 _ rfl)
   have r1:wr.cell? ⟨(ad.add (kk * 6)).block,(ad.add (kk * 6)).off+1,none⟩=some (.int .i64 x.f1):=pc_ BW.out ((by rw [←add_field _ _ 1 (by omega)];exact hc 1 _ rfl))
   have r2:wr.cell? ⟨(ad.add (kk * 6)).block,(ad.add (kk * 6)).off+2,none⟩=some (.string x.f2):=pc_ BW.out ((by rw [←add_field _ _ 2 (by omega)];exact hc 2 _ rfl))
   have r3:wr.cell? ⟨(ad.add (kk * 6)).block,(ad.add (kk * 6)).off+3,none⟩=some (.string x.f3):=pc_ BW.out ((by rw [←add_field _ _ 3 (by omega)];exact hc 3 _ rfl))
   have r4:wr.cell? ⟨(ad.add (kk * 6)).block,(ad.add (kk * 6)).off+4,none⟩=some (.slice A4 x.f4.length c4):=pc_ BW.out ((by rw [←add_field _ _ 4 (by omega)];exact hc 4 _ rfl))
   have r5:wr.cell? ⟨(ad.add (kk * 6)).block,(ad.add (kk * 6)).off+5,none⟩=some (.slice A5 x.f5.length c5):=pc_ BW.out ((by rw [←add_field _ _ 5 (by omega)];exact hc 5 _ rfl))
   have H4:=A_ q4
   have H4n:Aside0 (x.f4.length≤1048576):=⟨by cases n with|zero=>cases hfy|succ n=>(rw [fewB,Bool.and_eq_true,Bool.and_eq_true,Bool.and_eq_true] at hfy;exact od_ hfy.1.1.2)⟩
   have QM:Aside0 (∀ V,Below w.heap.size w V→Calls Try.prog 34 #[.slice A5 x.f5.length c5] V fun e w'=>∃ A c,e=.returned (.slice A (mergeE n x.f5).length c)∧Kd.S kTN 49 w' V.heap.size (fun k=>V.heap.size≤k) (.slice A (mergeE n x.f5).length c) (mergeE n x.f5)∧Below V.heap.size V w'):=⟨fun V hV=>by
    cases n with
    | zero=>cases hfy
    | succ n =>
     rw [fewB,Bool.and_eq_true,Bool.and_eq_true,Bool.and_eq_true] at hfy
     have h1:=od_ hfy.1.2
     exact IH.out n rfl A5 c5 x.f5 V hfy.2 h1 (cb_ q5 hV)⟩
   have HX3:Aside0 (x.f3.size≤1048576):=⟨by cases n with|zero=>cases hfy|succ n=>(rw [fewB,Bool.and_eq_true,Bool.and_eq_true,Bool.and_eq_true] at hfy;exact od_ hfy.1.1.1)⟩
   have BW1:=A_ (ba_ BW.out (.cells #[.int .i64 x.f0,.int .i64 x.f1,.string x.f2,.string x.f3,.slice A4 x.f4.length c4,.slice A5 x.f5.length c5] 49 (0,0)))
   have BR1:=A_ (ba_ (Below.refl wr.heap.size wr) (.cells #[.int .i64 x.f0,.int .i64 x.f1,.string x.f2,.string x.f3,.slice A4 x.f4.length c4,.slice A5 x.f5.length c5] 49 (0,0)))
   have HLT:=A_ hlt
   have b0:(wr.alloc (.cells #[.int .i64 x.f0,.int .i64 x.f1,.string x.f2,.string x.f3,.slice A4 x.f4.length c4,.slice A5 x.f5.length c5] 49 (0,0))).cell? ⟨wr.heap.size,0,none⟩=some (.int .i64 x.f0):=Mach.new_cell wr _ _ 0 _ rfl
   have b1:(wr.alloc (.cells #[.int .i64 x.f0,.int .i64 x.f1,.string x.f2,.string x.f3,.slice A4 x.f4.length c4,.slice A5 x.f5.length c5] 49 (0,0))).cell? ⟨wr.heap.size,1,none⟩=some (.int .i64 x.f1):=Mach.new_cell wr _ _ 1 _ rfl
   have b2:(wr.alloc (.cells #[.int .i64 x.f0,.int .i64 x.f1,.string x.f2,.string x.f3,.slice A4 x.f4.length c4,.slice A5 x.f5.length c5] 49 (0,0))).cell? ⟨wr.heap.size,2,none⟩=some (.string x.f2):=Mach.new_cell wr _ _ 2 _ rfl
   have b3:(wr.alloc (.cells #[.int .i64 x.f0,.int .i64 x.f1,.string x.f2,.string x.f3,.slice A4 x.f4.length c4,.slice A5 x.f5.length c5] 49 (0,0))).cell? ⟨wr.heap.size,3,none⟩=some (.string x.f3):=Mach.new_cell wr _ _ 3 _ rfl
   have b4:(wr.alloc (.cells #[.int .i64 x.f0,.int .i64 x.f1,.string x.f2,.string x.f3,.slice A4 x.f4.length c4,.slice A5 x.f5.length c5] 49 (0,0))).cell? ⟨wr.heap.size,4,none⟩=some (.slice A4 x.f4.length c4):=Mach.new_cell wr _ _ 4 _ rfl
   have b5:(wr.alloc (.cells #[.int .i64 x.f0,.int .i64 x.f1,.string x.f2,.string x.f3,.slice A4 x.f4.length c4,.slice A5 x.f5.length c5] 49 (0,0))).cell? ⟨wr.heap.size,5,none⟩=some (.slice A5 x.f5.length c5):=Mach.new_cell wr _ _ 5 _ rfl
   clear hc hK hcl m4 q4 m5 q5 hfy hlt IH
   obtain ⟨L,hLL⟩:∃ L,out.length=L:=⟨_,rfl⟩
   rw [hLL] at HG HLE
   rw [hLL]
   have HLL:=A_ hLL
   have HXB:=A_ (blk_new wr (.cells #[.int .i64 x.f0,.int .i64 x.f1,.string x.f2,.string x.f3,.slice A4 x.f4.length c4,.slice A5 x.f5.length c5] 49 (0,0)))
   have HWS:=A_ BW.out.size
   cases L with
   | zero =>
    have HMS:Aside0 (mergeS (mergeE n) out x=out++[(⟨x.f0,x.f1,x.f2,x.f3,x.f4,mergeE n x.f5⟩:S49)]):=⟨if_neg (fun h=>by omega)⟩
    clear hLL
    cases hk:x.f0 == 2
    case false =>
     go_wp2_with fail
     go_quiet (fail)
     go_wp2_with (first|((with_reducible refine gate_dst (N:=61) rfl ?_);refine Kd.R_lit k68 (w0:=(wr.alloc (.cells #[.int .i64 x.f0,.int .i64 x.f1,.string x.f2,.string x.f3,.slice A4 x.f4.length c4,.slice A5 x.f5.length c5] 49 (0,0)))) (wr.alloc (.cells #[.int .i64 x.f0,.int .i64 x.f1,.string x.f2,.string x.f3,.slice A4 x.f4.length c4,.slice A5 x.f5.length c5] 49 (0,0))).heap.size 68 ?hg (N:=61) ?hd (xs:=([]:List S68)) (inner:=[]) (ok:=fun _=>True) (okp:=fun _=>True) ?hr ?hp (fun _ hk=>hk) trivial ?hB (Nat.le_refl _) (by simp) ?_;(case hd=>rfl);(case hg=>rfl);(case hr=>first|(go_simp;done)|(go_simp;rfl));(case hp=>exact (Reps.none _ _));(case hB=>exact pd_ (Below.refl _ _) _);intro v2 w2 ho hb _ _;(have HR2:=A_ ho);(have HB2:=A_ hb);(have X2:=A_ (kb_ HXB.out hb));(have y4:w2.cell? ⟨wr.heap.size,4,none⟩=some (.slice A4 x.f4.length c4):=(bc_ X2.out 4).trans rfl);clear ho hb)|((with_reducible refine gate_builtin (b:=.append) (xs:=#[.tmp 61,.tmp 63]) rfl ?_);at_builtin;refine Kd.R_append_rows k68 (w0:=(wr.alloc (.cells #[.int .i64 x.f0,.int .i64 x.f1,.string x.f2,.string x.f3,.slice A4 x.f4.length c4,.slice A5 x.f5.length c5] 49 (0,0)))) (wr.alloc (.cells #[.int .i64 x.f0,.int .i64 x.f1,.string x.f2,.string x.f3,.slice A4 x.f4.length c4,.slice A5 x.f5.length c5] 49 (0,0))).heap.size rfl (.tmp 61) (.tmp 63) 47 68 (.agg #[(.string ⟨#[]⟩),(.string ⟨#[]⟩)]) 32 rfl Try.underlying47 infoAt rfl (by decide) (by omega) v2 ([]:List S68) x.f4 _ _ _ (fun _=>True) (fun _=>False) rfl rfl ?aO ?aR (fun _ _ h=>h) (fun _ h=>h.elim) (fun _ _=>trivial) ?aB ?aS ?aL ?_;(case aR=>exact cb_ H4.out (bp_ BW1.out HB2.out));(case aO=>exact HR2.out);(case aB=>exact HB2.out);(case aS=>exact HB2.out.size);(case aL=>have:=H4n.out;simp only [List.length_nil];omega);intro v3 w3 ho hb _ _;rw [List.nil_append] at ho;obtain ⟨A7,c7,rfl⟩:=Kd.R_slice ho;(have HR3:=A_ ho);(have HB3:=A_ hb);(have X3:=A_ (kb_ HXB.out hb));(have z4:w3.cell? ⟨wr.heap.size,4,none⟩=some (.slice A4 x.f4.length c4):=(bc_ X3.out 4).trans rfl);(have f4:=bf_ X3.out 4);(have z5:w3.cell? ⟨wr.heap.size,5,none⟩=some (.slice A5 x.f5.length c5):=(bc_ X3.out 5).trans rfl);(have HW3:=A_ (bs_ (j:=4) (v:=.slice A7 x.f4.length c7) (bp_ BW1.out hb) HWS.out));(have HWr:=A_ (bs_ (j:=4) (v:=.slice A7 x.f4.length c7) (bp_ BR1.out hb) (Nat.le_refl _)));clear ho hb)|(go_at_call 34;(with_reducible refine (QM.out _ HW3.out).mono ?_);rintro e w4 ⟨A9,c9,rfl,hs,hb⟩;(have HS:=A_ hs);(have HB4:=A_ hb);(have HW4:=A_ (bp_ HW3.out hb));(have HR4:=A_ (bp_ HWr.out hb));(have X4:=A_ (kb_ (blk_put X3.out 4 (.slice A7 x.f4.length c7) (cs':=#[.int .i64 x.f0,.int .i64 x.f1,.string x.f2,.string x.f3,.slice A7 x.f4.length c7,.slice A5 x.f5.length c5]) rfl) hb));(have e0:w4.cell? ⟨wr.heap.size,0,none⟩=some (.int .i64 x.f0):=(bc_ X4.out 0).trans rfl);(have e1:w4.cell? ⟨wr.heap.size,1,none⟩=some (.int .i64 x.f1):=(bc_ X4.out 1).trans rfl);(have e2:w4.cell? ⟨wr.heap.size,2,none⟩=some (.string x.f2):=(bc_ X4.out 2).trans rfl);(have e3:w4.cell? ⟨wr.heap.size,3,none⟩=some (.string x.f3):=(bc_ X4.out 3).trans rfl);(have e4:w4.cell? ⟨wr.heap.size,4,none⟩=some (.slice A7 x.f4.length c7):=(bc_ X4.out 4).trans rfl);(have e5:w4.cell? ⟨wr.heap.size,5,none⟩=some (.slice A5 x.f5.length c5):=(bc_ X4.out 5).trans rfl);(have f5':=bf_ X4.out 5);clear hs hb)|((with_reducible refine gate_builtin (b:=.append) (xs:=#[.tmp 70,.tmp 72]) rfl ?_);at_builtin;refine Sep.S_append kTN (w0:=w) (W:=(w4.setCell ⟨wr.heap.size,5,none⟩ (.slice A9 (mergeE n x.f5).length c9))) w.heap.size rfl (.tmp 70) (.tmp 72) 27 49 (.agg #[(.int .i64 0),(.int .i64 0),(.string ⟨#[]⟩),(.string ⟨#[]⟩),(.slice none 0 0),(.slice none 0 0)]) 96 rfl Try.underlying27 infoCl rfl (by decide) (by omega) (.slice A3 0 c3) out (⟨x.f0,x.f1,x.f2,x.f3,x.f4,mergeE n x.f5⟩:S49) [.int .i64 x.f0,.int .i64 x.f1,.string x.f2,.string x.f3,.slice A7 x.f4.length c7,.slice A9 (mergeE n x.f5).length c9] (fun k=>w.heap.size≤k) (fun k=>wr.heap.size+1≤k) rfl ?hx ?aP ?aK ?aF ?aO ?aB ?aS ?aL ?_;(case hx=>first|rfl|(go_simp;done)|(simp;done)|(go_simp;rfl));(case aP=>exact specM HR3.out (blk_lt HXB.out) HWS.out HB4.out HS.out HB3.out.size);(case aK=>exact (fun k hk=>Nat.le_trans HWS.out (Nat.le_trans (Nat.le_succ _) hk)));(case aF=>exact (fun k hk=>Nat.le_trans HW4.out.size (by simpa [World.setCell] using hk)));(case aO=>exact Kd.S_mono (Kd.S_below (Kd.S_bound HG.out) (bs_ HR4.out (Nat.le_refl _))) (fun k hk=>⟨hk.1,fun h=>by have h2:=hk.2.2.1;omega⟩));(case aB=>exact bs_ HW4.out HWS.out);(case aS=>exact (bs_ (j:=5) (v:=.slice A9 (mergeE n x.f5).length c9) HW4.out HWS.out).size);(case aL=>have h1:=HLL.out;have h2:=HLE.out;have h3:=HN.out;omega);intro v9 w9 ho hb _ _;obtain ⟨A10,c10,rfl⟩:=Kd.S_slice ho;(have HO9:=A_ ho);(have HB9:=A_ hb);clear ho hb))
     go_roundg (l0.length - (kk+1))
     case measure=>have:=HLT.out;omega
     case rel =>
      refine ⟨kk+1,out++[(⟨x.f0,x.f1,x.f2,x.f3,x.f4,mergeE n x.f5⟩:S49)],A10,c10,by have:=HLT.out;omega,by omega,?_,by go_num,⟨by rw [←HMS.out];exact HF2.out⟩,⟨by have h1:=HLL.out;have h2:=HLE.out;rw [List.length_append,List.length_singleton];omega⟩,⟨fun q hq=>?_⟩,HO9,HB9⟩
      ·first
       | rfl
       | simp
      ·rcases List.mem_append.1 hq with hq|hq
       ·exact HSH.out q hq
       ·obtain rfl:=List.mem_singleton.1 hq
        exact HX3.out
    case true =>
     go_wp2_with fail
     go_quiet (fail)
     go_wp2_with (first|((with_reducible refine gate_dst (N:=61) rfl ?_);refine Kd.R_lit k68 (w0:=(wr.alloc (.cells #[.int .i64 x.f0,.int .i64 x.f1,.string x.f2,.string x.f3,.slice A4 x.f4.length c4,.slice A5 x.f5.length c5] 49 (0,0)))) (wr.alloc (.cells #[.int .i64 x.f0,.int .i64 x.f1,.string x.f2,.string x.f3,.slice A4 x.f4.length c4,.slice A5 x.f5.length c5] 49 (0,0))).heap.size 68 ?hg (N:=61) ?hd (xs:=([]:List S68)) (inner:=[]) (ok:=fun _=>True) (okp:=fun _=>True) ?hr ?hp (fun _ hk=>hk) trivial ?hB (Nat.le_refl _) (by simp) ?_;(case hd=>rfl);(case hg=>rfl);(case hr=>first|(go_simp;done)|(go_simp;rfl));(case hp=>exact (Reps.none _ _));(case hB=>exact pd_ (Below.refl _ _) _);intro v2 w2 ho hb _ _;(have HR2:=A_ ho);(have HB2:=A_ hb);(have X2:=A_ (kb_ HXB.out hb));(have y4:w2.cell? ⟨wr.heap.size,4,none⟩=some (.slice A4 x.f4.length c4):=(bc_ X2.out 4).trans rfl);clear ho hb)|((with_reducible refine gate_builtin (b:=.append) (xs:=#[.tmp 61,.tmp 63]) rfl ?_);at_builtin;refine Kd.R_append_rows k68 (w0:=(wr.alloc (.cells #[.int .i64 x.f0,.int .i64 x.f1,.string x.f2,.string x.f3,.slice A4 x.f4.length c4,.slice A5 x.f5.length c5] 49 (0,0)))) (wr.alloc (.cells #[.int .i64 x.f0,.int .i64 x.f1,.string x.f2,.string x.f3,.slice A4 x.f4.length c4,.slice A5 x.f5.length c5] 49 (0,0))).heap.size rfl (.tmp 61) (.tmp 63) 47 68 (.agg #[(.string ⟨#[]⟩),(.string ⟨#[]⟩)]) 32 rfl Try.underlying47 infoAt rfl (by decide) (by omega) v2 ([]:List S68) x.f4 _ _ _ (fun _=>True) (fun _=>False) rfl rfl ?aO ?aR (fun _ _ h=>h) (fun _ h=>h.elim) (fun _ _=>trivial) ?aB ?aS ?aL ?_;(case aR=>exact cb_ H4.out (bp_ BW1.out HB2.out));(case aO=>exact HR2.out);(case aB=>exact HB2.out);(case aS=>exact HB2.out.size);(case aL=>have:=H4n.out;simp only [List.length_nil];omega);intro v3 w3 ho hb _ _;rw [List.nil_append] at ho;obtain ⟨A7,c7,rfl⟩:=Kd.R_slice ho;(have HR3:=A_ ho);(have HB3:=A_ hb);(have X3:=A_ (kb_ HXB.out hb));(have z4:w3.cell? ⟨wr.heap.size,4,none⟩=some (.slice A4 x.f4.length c4):=(bc_ X3.out 4).trans rfl);(have f4:=bf_ X3.out 4);(have z5:w3.cell? ⟨wr.heap.size,5,none⟩=some (.slice A5 x.f5.length c5):=(bc_ X3.out 5).trans rfl);(have HW3:=A_ (bs_ (j:=4) (v:=.slice A7 x.f4.length c7) (bp_ BW1.out hb) HWS.out));(have HWr:=A_ (bs_ (j:=4) (v:=.slice A7 x.f4.length c7) (bp_ BR1.out hb) (Nat.le_refl _)));clear ho hb)|(go_at_call 34;(with_reducible refine (QM.out _ HW3.out).mono ?_);rintro e w4 ⟨A9,c9,rfl,hs,hb⟩;(have HS:=A_ hs);(have HB4:=A_ hb);(have HW4:=A_ (bp_ HW3.out hb));(have HR4:=A_ (bp_ HWr.out hb));(have X4:=A_ (kb_ (blk_put X3.out 4 (.slice A7 x.f4.length c7) (cs':=#[.int .i64 x.f0,.int .i64 x.f1,.string x.f2,.string x.f3,.slice A7 x.f4.length c7,.slice A5 x.f5.length c5]) rfl) hb));(have e0:w4.cell? ⟨wr.heap.size,0,none⟩=some (.int .i64 x.f0):=(bc_ X4.out 0).trans rfl);(have e1:w4.cell? ⟨wr.heap.size,1,none⟩=some (.int .i64 x.f1):=(bc_ X4.out 1).trans rfl);(have e2:w4.cell? ⟨wr.heap.size,2,none⟩=some (.string x.f2):=(bc_ X4.out 2).trans rfl);(have e3:w4.cell? ⟨wr.heap.size,3,none⟩=some (.string x.f3):=(bc_ X4.out 3).trans rfl);(have e4:w4.cell? ⟨wr.heap.size,4,none⟩=some (.slice A7 x.f4.length c7):=(bc_ X4.out 4).trans rfl);(have e5:w4.cell? ⟨wr.heap.size,5,none⟩=some (.slice A5 x.f5.length c5):=(bc_ X4.out 5).trans rfl);(have f5':=bf_ X4.out 5);clear hs hb)|((with_reducible refine gate_builtin (b:=.append) (xs:=#[.tmp 70,.tmp 72]) rfl ?_);at_builtin;refine Sep.S_append kTN (w0:=w) (W:=(w4.setCell ⟨wr.heap.size,5,none⟩ (.slice A9 (mergeE n x.f5).length c9))) w.heap.size rfl (.tmp 70) (.tmp 72) 27 49 (.agg #[(.int .i64 0),(.int .i64 0),(.string ⟨#[]⟩),(.string ⟨#[]⟩),(.slice none 0 0),(.slice none 0 0)]) 96 rfl Try.underlying27 infoCl rfl (by decide) (by omega) (.slice A3 0 c3) out (⟨x.f0,x.f1,x.f2,x.f3,x.f4,mergeE n x.f5⟩:S49) [.int .i64 x.f0,.int .i64 x.f1,.string x.f2,.string x.f3,.slice A7 x.f4.length c7,.slice A9 (mergeE n x.f5).length c9] (fun k=>w.heap.size≤k) (fun k=>wr.heap.size+1≤k) rfl ?hx ?aP ?aK ?aF ?aO ?aB ?aS ?aL ?_;(case hx=>first|rfl|(go_simp;done)|(simp;done)|(go_simp;rfl));(case aP=>exact specM HR3.out (blk_lt HXB.out) HWS.out HB4.out HS.out HB3.out.size);(case aK=>exact (fun k hk=>Nat.le_trans HWS.out (Nat.le_trans (Nat.le_succ _) hk)));(case aF=>exact (fun k hk=>Nat.le_trans HW4.out.size (by simpa [World.setCell] using hk)));(case aO=>exact Kd.S_mono (Kd.S_below (Kd.S_bound HG.out) (bs_ HR4.out (Nat.le_refl _))) (fun k hk=>⟨hk.1,fun h=>by have h2:=hk.2.2.1;omega⟩));(case aB=>exact bs_ HW4.out HWS.out);(case aS=>exact (bs_ (j:=5) (v:=.slice A9 (mergeE n x.f5).length c9) HW4.out HWS.out).size);(case aL=>have h1:=HLL.out;have h2:=HLE.out;have h3:=HN.out;omega);intro v9 w9 ho hb _ _;obtain ⟨A10,c10,rfl⟩:=Kd.S_slice ho;(have HO9:=A_ ho);(have HB9:=A_ hb);clear ho hb))
     go_roundg (l0.length - (kk+1))
     case measure=>have:=HLT.out;omega
     case rel =>
      refine ⟨kk+1,out++[(⟨x.f0,x.f1,x.f2,x.f3,x.f4,mergeE n x.f5⟩:S49)],A10,c10,by have:=HLT.out;omega,by omega,?_,by go_num,⟨by rw [←HMS.out];exact HF2.out⟩,⟨by have h1:=HLL.out;have h2:=HLE.out;rw [List.length_append,List.length_singleton];omega⟩,⟨fun q hq=>?_⟩,HO9,HB9⟩
      ·first
       | rfl
       | simp
      ·rcases List.mem_append.1 hq with hq|hq
       ·exact HSH.out q hq
       ·obtain rfl:=List.mem_singleton.1 hq
        exact HX3.out
   | succ M =>
    obtain ⟨y,hy⟩:∃ y,out.getD M z49=y:=⟨_,rfl⟩
    have hy1:y.f3.size≤1048576:=by rw [←hy];exact HSH.out _ (Kit.getD_mem z49 (by omega))
    have hx1:x.f3.size≤1048576:=HX3.out
    obtain ⟨g,cap,ev,hgb,hgl,_⟩:=Kd.S_form HG.out (by omega)
    injection ev with e1 e2 e3
    subst e1
    obtain ⟨B4,d4,B5,d5,⟨u0,u1,u2,u3,u4,u5⟩,⟨f0,f1,f2,f3,f4,f5⟩,_⟩:=nodeCells (xs0:=out) (Kd.S_below HG.out BR1.out) (M:Int) (by omega) (by omega) (fun _=>rfl) y (by rw [rdN_getD];exact hy)
    rw [Int.toNat_natCast] at u0 u1 u2 u3 u4 u5 f0 f1 f2 f3 f4 f5
    have HY:=A_ hy
    have hlast:(out.getD (out.length - 1) z49)=y:=by rw [hLL];exact hy
    have hms:mergeS (mergeE n) out x=if 0<out.length∧x.f0=2∧y.f0=2∧y.f3.size+x.f3.size≤120 then out.set (out.length - 1) ⟨y.f0,y.f1,y.f2,y.f3++x.f3,y.f4,y.f5⟩ else out++[(⟨x.f0,x.f1,x.f2,x.f3,x.f4,mergeE n x.f5⟩:S49)]:=by unfold mergeS;rw [hlast]
    have HGB:=A_ hgb
    have HGL:=A_ hgl
    have hz:decide ((0:Int)<(M:Int)+1)=true:=dt_ (by omega)
    have hc0:y.f3.size+x.f3.size≤9223372036854775807:=by omega
    have hcat:=dt_ hc0
    have hm0:(0:Int)≤(M:Int):=by omega
    have hm1:(M:Int)<(M:Int)+1:=by omega
    have HM0:Aside0 (M<2000000):=⟨by have:=HLE.out;have:=HN.out;omega⟩
    have hMb:=HM0.out
    have hw:IntKind.i64.wrap (M:Int)=(M:Int):=by rw [IntKind.wrap_i64];omega
    have hw3:IntKind.i64.wrap ((y.f3.size:Int)+(x.f3.size:Int))=(y.f3.size:Int)+(x.f3.size:Int):=by rw [IntKind.wrap_i64];omega
    have HW:=A_ hw
    have HW3:=A_ hw3
    clear hy hgb hgl e2 e3 hy1 hx1 hw hw3 hMb
    by_cases k1:x.f0=2
    case neg =>
     have z1:(x.f0 == 2)=false:=by simpa using k1
     have HMS:Aside0 (mergeS (mergeE n) out x=out++[(⟨x.f0,x.f1,x.f2,x.f3,x.f4,mergeE n x.f5⟩:S49)]):=⟨by rw [hms];exact if_neg (fun h=>k1 h.2.1)⟩
     clear hms hlast hLL k1
     go_wp2_with fail
     go_quiet (fail)
     go_wp2_with (first|((with_reducible refine gate_dst (N:=61) rfl ?_);refine Kd.R_lit k68 (w0:=(wr.alloc (.cells #[.int .i64 x.f0,.int .i64 x.f1,.string x.f2,.string x.f3,.slice A4 x.f4.length c4,.slice A5 x.f5.length c5] 49 (0,0)))) (wr.alloc (.cells #[.int .i64 x.f0,.int .i64 x.f1,.string x.f2,.string x.f3,.slice A4 x.f4.length c4,.slice A5 x.f5.length c5] 49 (0,0))).heap.size 68 ?hg (N:=61) ?hd (xs:=([]:List S68)) (inner:=[]) (ok:=fun _=>True) (okp:=fun _=>True) ?hr ?hp (fun _ hk=>hk) trivial ?hB (Nat.le_refl _) (by simp) ?_;(case hd=>rfl);(case hg=>rfl);(case hr=>first|(go_simp;done)|(go_simp;rfl));(case hp=>exact (Reps.none _ _));(case hB=>exact pd_ (Below.refl _ _) _);intro v2 w2 ho hb _ _;(have HR2:=A_ ho);(have HB2:=A_ hb);(have X2:=A_ (kb_ HXB.out hb));(have y4:w2.cell? ⟨wr.heap.size,4,none⟩=some (.slice A4 x.f4.length c4):=(bc_ X2.out 4).trans rfl);clear ho hb)|((with_reducible refine gate_builtin (b:=.append) (xs:=#[.tmp 61,.tmp 63]) rfl ?_);at_builtin;refine Kd.R_append_rows k68 (w0:=(wr.alloc (.cells #[.int .i64 x.f0,.int .i64 x.f1,.string x.f2,.string x.f3,.slice A4 x.f4.length c4,.slice A5 x.f5.length c5] 49 (0,0)))) (wr.alloc (.cells #[.int .i64 x.f0,.int .i64 x.f1,.string x.f2,.string x.f3,.slice A4 x.f4.length c4,.slice A5 x.f5.length c5] 49 (0,0))).heap.size rfl (.tmp 61) (.tmp 63) 47 68 (.agg #[(.string ⟨#[]⟩),(.string ⟨#[]⟩)]) 32 rfl Try.underlying47 infoAt rfl (by decide) (by omega) v2 ([]:List S68) x.f4 _ _ _ (fun _=>True) (fun _=>False) rfl rfl ?aO ?aR (fun _ _ h=>h) (fun _ h=>h.elim) (fun _ _=>trivial) ?aB ?aS ?aL ?_;(case aR=>exact cb_ H4.out (bp_ BW1.out HB2.out));(case aO=>exact HR2.out);(case aB=>exact HB2.out);(case aS=>exact HB2.out.size);(case aL=>have:=H4n.out;simp only [List.length_nil];omega);intro v3 w3 ho hb _ _;rw [List.nil_append] at ho;obtain ⟨A7,c7,rfl⟩:=Kd.R_slice ho;(have HR3:=A_ ho);(have HB3:=A_ hb);(have X3:=A_ (kb_ HXB.out hb));(have z4:w3.cell? ⟨wr.heap.size,4,none⟩=some (.slice A4 x.f4.length c4):=(bc_ X3.out 4).trans rfl);(have f4:=bf_ X3.out 4);(have z5:w3.cell? ⟨wr.heap.size,5,none⟩=some (.slice A5 x.f5.length c5):=(bc_ X3.out 5).trans rfl);(have HW3:=A_ (bs_ (j:=4) (v:=.slice A7 x.f4.length c7) (bp_ BW1.out hb) HWS.out));(have HWr:=A_ (bs_ (j:=4) (v:=.slice A7 x.f4.length c7) (bp_ BR1.out hb) (Nat.le_refl _)));clear ho hb)|(go_at_call 34;(with_reducible refine (QM.out _ HW3.out).mono ?_);rintro e w4 ⟨A9,c9,rfl,hs,hb⟩;(have HS:=A_ hs);(have HB4:=A_ hb);(have HW4:=A_ (bp_ HW3.out hb));(have HR4:=A_ (bp_ HWr.out hb));(have X4:=A_ (kb_ (blk_put X3.out 4 (.slice A7 x.f4.length c7) (cs':=#[.int .i64 x.f0,.int .i64 x.f1,.string x.f2,.string x.f3,.slice A7 x.f4.length c7,.slice A5 x.f5.length c5]) rfl) hb));(have e0:w4.cell? ⟨wr.heap.size,0,none⟩=some (.int .i64 x.f0):=(bc_ X4.out 0).trans rfl);(have e1:w4.cell? ⟨wr.heap.size,1,none⟩=some (.int .i64 x.f1):=(bc_ X4.out 1).trans rfl);(have e2:w4.cell? ⟨wr.heap.size,2,none⟩=some (.string x.f2):=(bc_ X4.out 2).trans rfl);(have e3:w4.cell? ⟨wr.heap.size,3,none⟩=some (.string x.f3):=(bc_ X4.out 3).trans rfl);(have e4:w4.cell? ⟨wr.heap.size,4,none⟩=some (.slice A7 x.f4.length c7):=(bc_ X4.out 4).trans rfl);(have e5:w4.cell? ⟨wr.heap.size,5,none⟩=some (.slice A5 x.f5.length c5):=(bc_ X4.out 5).trans rfl);(have f5':=bf_ X4.out 5);clear hs hb)|((with_reducible refine gate_builtin (b:=.append) (xs:=#[.tmp 70,.tmp 72]) rfl ?_);at_builtin;refine Sep.S_append kTN (w0:=w) (W:=(w4.setCell ⟨wr.heap.size,5,none⟩ (.slice A9 (mergeE n x.f5).length c9))) w.heap.size rfl (.tmp 70) (.tmp 72) 27 49 (.agg #[(.int .i64 0),(.int .i64 0),(.string ⟨#[]⟩),(.string ⟨#[]⟩),(.slice none 0 0),(.slice none 0 0)]) 96 rfl Try.underlying27 infoCl rfl (by decide) (by omega) (.slice (some ⟨g,0,none⟩) (M+1) c3) out (⟨x.f0,x.f1,x.f2,x.f3,x.f4,mergeE n x.f5⟩:S49) [.int .i64 x.f0,.int .i64 x.f1,.string x.f2,.string x.f3,.slice A7 x.f4.length c7,.slice A9 (mergeE n x.f5).length c9] (fun k=>w.heap.size≤k) (fun k=>wr.heap.size+1≤k) rfl ?hx ?aP ?aK ?aF ?aO ?aB ?aS ?aL ?_;(case hx=>first|rfl|(go_simp;done)|(simp;done)|(go_simp;rfl));(case aP=>exact specM HR3.out (blk_lt HXB.out) HWS.out HB4.out HS.out HB3.out.size);(case aK=>exact (fun k hk=>Nat.le_trans HWS.out (Nat.le_trans (Nat.le_succ _) hk)));(case aF=>exact (fun k hk=>Nat.le_trans HW4.out.size (by simpa [World.setCell] using hk)));(case aO=>exact Kd.S_mono (Kd.S_below (Kd.S_bound HG.out) (bs_ HR4.out (Nat.le_refl _))) (fun k hk=>⟨hk.1,fun h=>by have h2:=hk.2.2.1;omega⟩));(case aB=>exact bs_ HW4.out HWS.out);(case aS=>exact (bs_ (j:=5) (v:=.slice A9 (mergeE n x.f5).length c9) HW4.out HWS.out).size);(case aL=>have h1:=HLL.out;have h2:=HLE.out;have h3:=HN.out;omega);intro v9 w9 ho hb _ _;obtain ⟨A10,c10,rfl⟩:=Kd.S_slice ho;(have HO9:=A_ ho);(have HB9:=A_ hb);clear ho hb))
     go_roundg (l0.length - (kk+1))
     case measure=>have:=HLT.out;omega
     case rel =>
      refine ⟨kk+1,out++[(⟨x.f0,x.f1,x.f2,x.f3,x.f4,mergeE n x.f5⟩:S49)],A10,c10,by have:=HLT.out;omega,by omega,?_,by go_num,⟨by rw [←HMS.out];exact HF2.out⟩,⟨by have h1:=HLL.out;have h2:=HLE.out;rw [List.length_append,List.length_singleton];omega⟩,⟨fun q hq=>?_⟩,HO9,HB9⟩
      ·first
       | rfl
       | simp
      ·rcases List.mem_append.1 hq with hq|hq
       ·exact HSH.out q hq
       ·obtain rfl:=List.mem_singleton.1 hq
        exact HX3.out
    case pos =>
     have z1:(x.f0 == 2)=true:=by simpa using k1
     by_cases k2:y.f0=2
     case neg =>
      have z2:(y.f0 == 2)=false:=by simpa using k2
      have HMS:Aside0 (mergeS (mergeE n) out x=out++[(⟨x.f0,x.f1,x.f2,x.f3,x.f4,mergeE n x.f5⟩:S49)]):=⟨by rw [hms];exact if_neg (fun h=>k2 h.2.2.1)⟩
      clear hms hlast hLL k1 k2
      go_wp2_with fail
      have hw:=HW.out
      go_quiet (fail)
      clear hw
      go_wp2_with (first|((with_reducible refine gate_dst (N:=61) rfl ?_);refine Kd.R_lit k68 (w0:=(wr.alloc (.cells #[.int .i64 x.f0,.int .i64 x.f1,.string x.f2,.string x.f3,.slice A4 x.f4.length c4,.slice A5 x.f5.length c5] 49 (0,0)))) (wr.alloc (.cells #[.int .i64 x.f0,.int .i64 x.f1,.string x.f2,.string x.f3,.slice A4 x.f4.length c4,.slice A5 x.f5.length c5] 49 (0,0))).heap.size 68 ?hg (N:=61) ?hd (xs:=([]:List S68)) (inner:=[]) (ok:=fun _=>True) (okp:=fun _=>True) ?hr ?hp (fun _ hk=>hk) trivial ?hB (Nat.le_refl _) (by simp) ?_;(case hd=>rfl);(case hg=>rfl);(case hr=>first|(go_simp;done)|(go_simp;rfl));(case hp=>exact (Reps.none _ _));(case hB=>exact pd_ (Below.refl _ _) _);intro v2 w2 ho hb _ _;(have HR2:=A_ ho);(have HB2:=A_ hb);(have X2:=A_ (kb_ HXB.out hb));(have y4:w2.cell? ⟨wr.heap.size,4,none⟩=some (.slice A4 x.f4.length c4):=(bc_ X2.out 4).trans rfl);clear ho hb)|((with_reducible refine gate_builtin (b:=.append) (xs:=#[.tmp 61,.tmp 63]) rfl ?_);at_builtin;refine Kd.R_append_rows k68 (w0:=(wr.alloc (.cells #[.int .i64 x.f0,.int .i64 x.f1,.string x.f2,.string x.f3,.slice A4 x.f4.length c4,.slice A5 x.f5.length c5] 49 (0,0)))) (wr.alloc (.cells #[.int .i64 x.f0,.int .i64 x.f1,.string x.f2,.string x.f3,.slice A4 x.f4.length c4,.slice A5 x.f5.length c5] 49 (0,0))).heap.size rfl (.tmp 61) (.tmp 63) 47 68 (.agg #[(.string ⟨#[]⟩),(.string ⟨#[]⟩)]) 32 rfl Try.underlying47 infoAt rfl (by decide) (by omega) v2 ([]:List S68) x.f4 _ _ _ (fun _=>True) (fun _=>False) rfl rfl ?aO ?aR (fun _ _ h=>h) (fun _ h=>h.elim) (fun _ _=>trivial) ?aB ?aS ?aL ?_;(case aR=>exact cb_ H4.out (bp_ BW1.out HB2.out));(case aO=>exact HR2.out);(case aB=>exact HB2.out);(case aS=>exact HB2.out.size);(case aL=>have:=H4n.out;simp only [List.length_nil];omega);intro v3 w3 ho hb _ _;rw [List.nil_append] at ho;obtain ⟨A7,c7,rfl⟩:=Kd.R_slice ho;(have HR3:=A_ ho);(have HB3:=A_ hb);(have X3:=A_ (kb_ HXB.out hb));(have z4:w3.cell? ⟨wr.heap.size,4,none⟩=some (.slice A4 x.f4.length c4):=(bc_ X3.out 4).trans rfl);(have f4:=bf_ X3.out 4);(have z5:w3.cell? ⟨wr.heap.size,5,none⟩=some (.slice A5 x.f5.length c5):=(bc_ X3.out 5).trans rfl);(have HW3:=A_ (bs_ (j:=4) (v:=.slice A7 x.f4.length c7) (bp_ BW1.out hb) HWS.out));(have HWr:=A_ (bs_ (j:=4) (v:=.slice A7 x.f4.length c7) (bp_ BR1.out hb) (Nat.le_refl _)));clear ho hb)|(go_at_call 34;(with_reducible refine (QM.out _ HW3.out).mono ?_);rintro e w4 ⟨A9,c9,rfl,hs,hb⟩;(have HS:=A_ hs);(have HB4:=A_ hb);(have HW4:=A_ (bp_ HW3.out hb));(have HR4:=A_ (bp_ HWr.out hb));(have X4:=A_ (kb_ (blk_put X3.out 4 (.slice A7 x.f4.length c7) (cs':=#[.int .i64 x.f0,.int .i64 x.f1,.string x.f2,.string x.f3,.slice A7 x.f4.length c7,.slice A5 x.f5.length c5]) rfl) hb));(have e0:w4.cell? ⟨wr.heap.size,0,none⟩=some (.int .i64 x.f0):=(bc_ X4.out 0).trans rfl);(have e1:w4.cell? ⟨wr.heap.size,1,none⟩=some (.int .i64 x.f1):=(bc_ X4.out 1).trans rfl);(have e2:w4.cell? ⟨wr.heap.size,2,none⟩=some (.string x.f2):=(bc_ X4.out 2).trans rfl);(have e3:w4.cell? ⟨wr.heap.size,3,none⟩=some (.string x.f3):=(bc_ X4.out 3).trans rfl);(have e4:w4.cell? ⟨wr.heap.size,4,none⟩=some (.slice A7 x.f4.length c7):=(bc_ X4.out 4).trans rfl);(have e5:w4.cell? ⟨wr.heap.size,5,none⟩=some (.slice A5 x.f5.length c5):=(bc_ X4.out 5).trans rfl);(have f5':=bf_ X4.out 5);clear hs hb)|((with_reducible refine gate_builtin (b:=.append) (xs:=#[.tmp 70,.tmp 72]) rfl ?_);at_builtin;refine Sep.S_append kTN (w0:=w) (W:=(w4.setCell ⟨wr.heap.size,5,none⟩ (.slice A9 (mergeE n x.f5).length c9))) w.heap.size rfl (.tmp 70) (.tmp 72) 27 49 (.agg #[(.int .i64 0),(.int .i64 0),(.string ⟨#[]⟩),(.string ⟨#[]⟩),(.slice none 0 0),(.slice none 0 0)]) 96 rfl Try.underlying27 infoCl rfl (by decide) (by omega) (.slice (some ⟨g,0,none⟩) (M+1) c3) out (⟨x.f0,x.f1,x.f2,x.f3,x.f4,mergeE n x.f5⟩:S49) [.int .i64 x.f0,.int .i64 x.f1,.string x.f2,.string x.f3,.slice A7 x.f4.length c7,.slice A9 (mergeE n x.f5).length c9] (fun k=>w.heap.size≤k) (fun k=>wr.heap.size+1≤k) rfl ?hx ?aP ?aK ?aF ?aO ?aB ?aS ?aL ?_;(case hx=>first|rfl|(go_simp;done)|(simp;done)|(go_simp;rfl));(case aP=>exact specM HR3.out (blk_lt HXB.out) HWS.out HB4.out HS.out HB3.out.size);(case aK=>exact (fun k hk=>Nat.le_trans HWS.out (Nat.le_trans (Nat.le_succ _) hk)));(case aF=>exact (fun k hk=>Nat.le_trans HW4.out.size (by simpa [World.setCell] using hk)));(case aO=>exact Kd.S_mono (Kd.S_below (Kd.S_bound HG.out) (bs_ HR4.out (Nat.le_refl _))) (fun k hk=>⟨hk.1,fun h=>by have h2:=hk.2.2.1;omega⟩));(case aB=>exact bs_ HW4.out HWS.out);(case aS=>exact (bs_ (j:=5) (v:=.slice A9 (mergeE n x.f5).length c9) HW4.out HWS.out).size);(case aL=>have h1:=HLL.out;have h2:=HLE.out;have h3:=HN.out;omega);intro v9 w9 ho hb _ _;obtain ⟨A10,c10,rfl⟩:=Kd.S_slice ho;(have HO9:=A_ ho);(have HB9:=A_ hb);clear ho hb))
      go_roundg (l0.length - (kk+1))
      case measure=>have:=HLT.out;omega
      case rel =>
       refine ⟨kk+1,out++[(⟨x.f0,x.f1,x.f2,x.f3,x.f4,mergeE n x.f5⟩:S49)],A10,c10,by have:=HLT.out;omega,by omega,?_,by go_num,⟨by rw [←HMS.out];exact HF2.out⟩,⟨by have h1:=HLL.out;have h2:=HLE.out;rw [List.length_append,List.length_singleton];omega⟩,⟨fun q hq=>?_⟩,HO9,HB9⟩
       ·first
        | rfl
        | simp
       ·rcases List.mem_append.1 hq with hq|hq
        ·exact HSH.out q hq
        ·obtain rfl:=List.mem_singleton.1 hq
         exact HX3.out
     case pos =>
      have z2:(y.f0 == 2)=true:=by simpa using k2
      by_cases k3:y.f3.size+x.f3.size≤120
      case neg =>
       have z3:decide ((y.f3.size:Int)+(x.f3.size:Int)≤120)=false:=df_ (by omega)
       have HMS:Aside0 (mergeS (mergeE n) out x=out++[(⟨x.f0,x.f1,x.f2,x.f3,x.f4,mergeE n x.f5⟩:S49)]):=⟨by rw [hms];exact if_neg (fun h=>k3 h.2.2.2)⟩
       clear hms hlast hLL k1 k2 k3
       go_wp2_with fail
       have hw:=HW.out
       have hw3:=HW3.out
       go_quiet (fail)
       clear hw hw3
       go_wp2_with (first|((with_reducible refine gate_dst (N:=61) rfl ?_);refine Kd.R_lit k68 (w0:=(wr.alloc (.cells #[.int .i64 x.f0,.int .i64 x.f1,.string x.f2,.string x.f3,.slice A4 x.f4.length c4,.slice A5 x.f5.length c5] 49 (0,0)))) (wr.alloc (.cells #[.int .i64 x.f0,.int .i64 x.f1,.string x.f2,.string x.f3,.slice A4 x.f4.length c4,.slice A5 x.f5.length c5] 49 (0,0))).heap.size 68 ?hg (N:=61) ?hd (xs:=([]:List S68)) (inner:=[]) (ok:=fun _=>True) (okp:=fun _=>True) ?hr ?hp (fun _ hk=>hk) trivial ?hB (Nat.le_refl _) (by simp) ?_;(case hd=>rfl);(case hg=>rfl);(case hr=>first|(go_simp;done)|(go_simp;rfl));(case hp=>exact (Reps.none _ _));(case hB=>exact pd_ (Below.refl _ _) _);intro v2 w2 ho hb _ _;(have HR2:=A_ ho);(have HB2:=A_ hb);(have X2:=A_ (kb_ HXB.out hb));(have y4:w2.cell? ⟨wr.heap.size,4,none⟩=some (.slice A4 x.f4.length c4):=(bc_ X2.out 4).trans rfl);clear ho hb)|((with_reducible refine gate_builtin (b:=.append) (xs:=#[.tmp 61,.tmp 63]) rfl ?_);at_builtin;refine Kd.R_append_rows k68 (w0:=(wr.alloc (.cells #[.int .i64 x.f0,.int .i64 x.f1,.string x.f2,.string x.f3,.slice A4 x.f4.length c4,.slice A5 x.f5.length c5] 49 (0,0)))) (wr.alloc (.cells #[.int .i64 x.f0,.int .i64 x.f1,.string x.f2,.string x.f3,.slice A4 x.f4.length c4,.slice A5 x.f5.length c5] 49 (0,0))).heap.size rfl (.tmp 61) (.tmp 63) 47 68 (.agg #[(.string ⟨#[]⟩),(.string ⟨#[]⟩)]) 32 rfl Try.underlying47 infoAt rfl (by decide) (by omega) v2 ([]:List S68) x.f4 _ _ _ (fun _=>True) (fun _=>False) rfl rfl ?aO ?aR (fun _ _ h=>h) (fun _ h=>h.elim) (fun _ _=>trivial) ?aB ?aS ?aL ?_;(case aR=>exact cb_ H4.out (bp_ BW1.out HB2.out));(case aO=>exact HR2.out);(case aB=>exact HB2.out);(case aS=>exact HB2.out.size);(case aL=>have:=H4n.out;simp only [List.length_nil];omega);intro v3 w3 ho hb _ _;rw [List.nil_append] at ho;obtain ⟨A7,c7,rfl⟩:=Kd.R_slice ho;(have HR3:=A_ ho);(have HB3:=A_ hb);(have X3:=A_ (kb_ HXB.out hb));(have z4:w3.cell? ⟨wr.heap.size,4,none⟩=some (.slice A4 x.f4.length c4):=(bc_ X3.out 4).trans rfl);(have f4:=bf_ X3.out 4);(have z5:w3.cell? ⟨wr.heap.size,5,none⟩=some (.slice A5 x.f5.length c5):=(bc_ X3.out 5).trans rfl);(have HW3:=A_ (bs_ (j:=4) (v:=.slice A7 x.f4.length c7) (bp_ BW1.out hb) HWS.out));(have HWr:=A_ (bs_ (j:=4) (v:=.slice A7 x.f4.length c7) (bp_ BR1.out hb) (Nat.le_refl _)));clear ho hb)|(go_at_call 34;(with_reducible refine (QM.out _ HW3.out).mono ?_);rintro e w4 ⟨A9,c9,rfl,hs,hb⟩;(have HS:=A_ hs);(have HB4:=A_ hb);(have HW4:=A_ (bp_ HW3.out hb));(have HR4:=A_ (bp_ HWr.out hb));(have X4:=A_ (kb_ (blk_put X3.out 4 (.slice A7 x.f4.length c7) (cs':=#[.int .i64 x.f0,.int .i64 x.f1,.string x.f2,.string x.f3,.slice A7 x.f4.length c7,.slice A5 x.f5.length c5]) rfl) hb));(have e0:w4.cell? ⟨wr.heap.size,0,none⟩=some (.int .i64 x.f0):=(bc_ X4.out 0).trans rfl);(have e1:w4.cell? ⟨wr.heap.size,1,none⟩=some (.int .i64 x.f1):=(bc_ X4.out 1).trans rfl);(have e2:w4.cell? ⟨wr.heap.size,2,none⟩=some (.string x.f2):=(bc_ X4.out 2).trans rfl);(have e3:w4.cell? ⟨wr.heap.size,3,none⟩=some (.string x.f3):=(bc_ X4.out 3).trans rfl);(have e4:w4.cell? ⟨wr.heap.size,4,none⟩=some (.slice A7 x.f4.length c7):=(bc_ X4.out 4).trans rfl);(have e5:w4.cell? ⟨wr.heap.size,5,none⟩=some (.slice A5 x.f5.length c5):=(bc_ X4.out 5).trans rfl);(have f5':=bf_ X4.out 5);clear hs hb)|((with_reducible refine gate_builtin (b:=.append) (xs:=#[.tmp 70,.tmp 72]) rfl ?_);at_builtin;refine Sep.S_append kTN (w0:=w) (W:=(w4.setCell ⟨wr.heap.size,5,none⟩ (.slice A9 (mergeE n x.f5).length c9))) w.heap.size rfl (.tmp 70) (.tmp 72) 27 49 (.agg #[(.int .i64 0),(.int .i64 0),(.string ⟨#[]⟩),(.string ⟨#[]⟩),(.slice none 0 0),(.slice none 0 0)]) 96 rfl Try.underlying27 infoCl rfl (by decide) (by omega) (.slice (some ⟨g,0,none⟩) (M+1) c3) out (⟨x.f0,x.f1,x.f2,x.f3,x.f4,mergeE n x.f5⟩:S49) [.int .i64 x.f0,.int .i64 x.f1,.string x.f2,.string x.f3,.slice A7 x.f4.length c7,.slice A9 (mergeE n x.f5).length c9] (fun k=>w.heap.size≤k) (fun k=>wr.heap.size+1≤k) rfl ?hx ?aP ?aK ?aF ?aO ?aB ?aS ?aL ?_;(case hx=>first|rfl|(go_simp;done)|(simp;done)|(go_simp;rfl));(case aP=>exact specM HR3.out (blk_lt HXB.out) HWS.out HB4.out HS.out HB3.out.size);(case aK=>exact (fun k hk=>Nat.le_trans HWS.out (Nat.le_trans (Nat.le_succ _) hk)));(case aF=>exact (fun k hk=>Nat.le_trans HW4.out.size (by simpa [World.setCell] using hk)));(case aO=>exact Kd.S_mono (Kd.S_below (Kd.S_bound HG.out) (bs_ HR4.out (Nat.le_refl _))) (fun k hk=>⟨hk.1,fun h=>by have h2:=hk.2.2.1;omega⟩));(case aB=>exact bs_ HW4.out HWS.out);(case aS=>exact (bs_ (j:=5) (v:=.slice A9 (mergeE n x.f5).length c9) HW4.out HWS.out).size);(case aL=>have h1:=HLL.out;have h2:=HLE.out;have h3:=HN.out;omega);intro v9 w9 ho hb _ _;obtain ⟨A10,c10,rfl⟩:=Kd.S_slice ho;(have HO9:=A_ ho);(have HB9:=A_ hb);clear ho hb))
       go_roundg (l0.length - (kk+1))
       case measure=>have:=HLT.out;omega
       case rel =>
        refine ⟨kk+1,out++[(⟨x.f0,x.f1,x.f2,x.f3,x.f4,mergeE n x.f5⟩:S49)],A10,c10,by have:=HLT.out;omega,by omega,?_,by go_num,⟨by rw [←HMS.out];exact HF2.out⟩,⟨by have h1:=HLL.out;have h2:=HLE.out;rw [List.length_append,List.length_singleton];omega⟩,⟨fun q hq=>?_⟩,HO9,HB9⟩
        ·first
         | rfl
         | simp
        ·rcases List.mem_append.1 hq with hq|hq
         ·exact HSH.out q hq
         ·obtain rfl:=List.mem_singleton.1 hq
          exact HX3.out
      case pos =>
       have z3:decide ((y.f3.size:Int)+(x.f3.size:Int)≤120)=true:=dt_ (by omega)
       have HMS:Aside0 (mergeS (mergeE n) out x=out.set M ⟨y.f0,y.f1,y.f2,y.f3++x.f3,y.f4,y.f5⟩):=⟨by rw [hms,hLL];exact if_pos ⟨by omega,k1,k2,k3⟩⟩
       have HK3:=A_ k3
       clear hms hlast hLL k1 k2 k3
       go_wp2_with fail
       have hw:=HW.out
       have hw3:=HW3.out
       go_quiet (fail)
       go_wp2_with fail
       have HC0:=A_ hc0
       have hcat2:(9223372036854775807<y.f3.size+x.f3.size)=False:=eq_false (Nat.not_lt.2 hc0)
       generalize (wr.alloc (.cells #[.int .i64 x.f0,.int .i64 x.f1,.string x.f2,.string x.f3,.slice A4 x.f4.length c4,.slice A5 x.f5.length c5] 49 (0,0)))=V1 at *
       refine wp_region_still_tail 11 (by kernel_rfl) (by kernel_rfl) ?_
       have hdr:({ V1.drewN nq with drawn:=(V1.drewN nq).drawn+1 } : World)=(V1.drewN nq).drew:=rfl
       rw [hdr]
       clear hdr
       simp only [List.take_succ_cons,List.take_zero,List.drop_succ_cons,List.drop_zero]
       repeat still_step
       try refine wpStill_nil ?_
       clear hw hw3
       go_wp2
       go_roundg (l0.length - (kk+1))
       case measure=>have:=HLT.out;omega
       case rel =>
        obtain ⟨_,_,_,_,_,_,⟨_,_,_,hw4⟩,_⟩:=nodeCells (xs0:=out) (Kd.S_below HG.out (pd_ BR1.out (nq+1))) (M:Int) (by omega) (by omega) (fun _=>rfl) y (by rw [rdN_getD];exact HY.out)
        have h5:=(hw4 (y.f3++x.f3)).1
        rw [Int.toNat_natCast] at h5
        have hlen:(out.set M ⟨y.f0,y.f1,y.f2,y.f3++x.f3,y.f4,y.f5⟩).length=M+1:=by rw [List.length_set];exact HLL.out
        refine ⟨kk+1,out.set M ⟨y.f0,y.f1,y.f2,y.f3++x.f3,y.f4,y.f5⟩,some ⟨g,0,none⟩,c3,by have:=HLT.out;omega,by omega,by rw [hlen],by go_num,⟨by rw [←HMS.out];exact HF2.out⟩,⟨by rw [hlen];have:=HLE.out;omega⟩,⟨fun q hq=>?_⟩,⟨by rw [hlen];exact h5⟩,⟨bs_ (pd_ BW1.out (nq+1)) HGB.out⟩⟩
        rcases List.mem_or_eq_of_mem_set hq with hq|rfl
        ·exact HSH.out q hq
        ·show (y.f3++x.f3).size≤1048576
         have:=HK3.out
         rw [ByteArray.size_append];omega
theorem l03Merge_all:∀ n,l03MergeC n
 | 0=>l03Merge_step 0 (fun m h=>absurd h (Nat.succ_ne_zero m))
 | n+1=>l03Merge_step (n+1) (fun m h=>by obtain rfl:=Nat.succ.inj h;exact l03Merge_all m)
/-! ### spec_MergeText: function 20, by hand -/
def spec_MergeText.f (k:Nat) (l0:List S49):Option (List S49 × Int):=if 4096<l0.length then some ([],2) else (spec_l03Ask.f k l0).bind fun c=>if c=0 then (if l0.all (fewB 10)=true then some (mergeE 11 l0,0) else none) else some ([],c)
set_option maxHeartbeats 8000000 in
set_option maxRecDepth 100000 in
theorem spec_MergeText.calls (k:Nat) (A0:Option Addr) (c0:Nat) (l0:List S49) (r1:List S49) (r2:Int) (w:World) (hr0:Kd.C k49 w A0 l0.length l0) (hc0:l0.length≤c0) (h:spec_MergeText.f k l0=some (r1,r2)) :
 Calls Try.prog 20 #[.slice A0 l0.length c0] w fun e w'=>∃ A c,e=.returned (.tuple #[.slice A r1.length c,.int .i64 r2])∧Kd.C k49 w' A r1.length r1∧r1.length≤c∧Below w.heap.size w w':=by
 unfold spec_MergeText.f at h
 have HB0:=A_ (Below.refl w.heap.size w)
 by_cases h4:4096<l0.length
 ·rw [if_pos h4] at h
  obtain ⟨rfl,rfl⟩:=Prod.mk.inj (oi_ h)
  have z1:decide ((l0.length:Int)>4096)=true:=dt_ (by omega)
  clear h h4 hr0 hc0
  generalize l0.length=n0 at *
  go_enter Try.func20,Try.ntmps20
  go_wp2_with (first|((with_reducible refine gate_dst (N:=8) rfl ?_);refine Kd.R_lit (Kd.tag (fun _=>0) kTN) (w0:=w) w.heap.size 49 ?hg (N:=8) ?hd (xs:=([]:List (S49 × Nat))) (inner:=[]) (ok:=fun _=>True) (okp:=fun _=>True) ?hr ?hp (fun _ hk=>hk) trivial HB0.out (HB0.out).size (by simp) ?_;(case hd=>rfl);(case hg=>rfl);(case hr=>first|(go_simp;done)|(go_simp;rfl));(case hp=>exact (Reps.none _ _));intro v2 w2 ho hb _ _;(have HO2:=A_ (Sep.S_of_tag (d:=kTN) ho));obtain ⟨A2,c2,rfl⟩:=Kd.S_slice HO2.out;(have HB2:=A_ hb);clear ho hb))
  go_ret2
  exact ⟨A2,c2,rfl,(S_readsT HO2.out).2.2,Nat.zero_le _,HB2.out⟩
 rw [if_neg h4] at h
 have z1:decide ((l0.length:Int)>4096)=false:=df_ (by omega)
 obtain ⟨cd,hcd,h⟩:=ob_ h
 have QA:=A_ (spec_l03Ask.calls k A0 c0 l0 cd w hr0 hc0 hcd)
 by_cases hz:cd=0
 case neg =>
  rw [if_neg hz] at h
  obtain ⟨rfl,rfl⟩:=Prod.mk.inj (oi_ h)
  have hz1:(cd == 0)=false:=by simpa using hz
  have hz2:(cd != 0)=true:=by simpa using hz
  clear h hcd hr0 hc0 h4
  generalize l0.length=n0 at *
  go_enter Try.func20,Try.ntmps20
  go_wp2_with (first|(go_at_call 24;(with_reducible refine QA.out.mono ?_);rintro e w1 ⟨rfl,hb⟩;(have HB1:=A_ hb);clear hb)|((with_reducible refine gate_dst (N:=13) rfl ?_);refine Kd.R_lit (Kd.tag (fun _=>0) kTN) (w0:=w) w.heap.size 49 ?hg (N:=13) ?hd (xs:=([]:List (S49 × Nat))) (inner:=[]) (ok:=fun _=>True) (okp:=fun _=>True) ?hr ?hp (fun _ hk=>hk) trivial HB1.out (HB1.out).size (by simp) ?_;(case hd=>rfl);(case hg=>rfl);(case hr=>first|(go_simp;done)|(go_simp;rfl));(case hp=>exact (Reps.none _ _));intro v2 w2 ho hb _ _;(have HO2:=A_ (Sep.S_of_tag (d:=kTN) ho));obtain ⟨A2,c2,rfl⟩:=Kd.S_slice HO2.out;(have HB2:=A_ hb);clear ho hb))
  go_ret2
  exact ⟨A2,c2,rfl,(S_readsT HO2.out).2.2,Nat.zero_le _,HB2.out⟩
 subst hz
 rw [if_pos rfl] at h
 obtain ⟨hd,h⟩:=Option.ite_none_right_eq_some.mp h
 obtain ⟨rfl,rfl⟩:=Prod.mk.inj (oi_ h)
 have QN:Aside0 (∀ V,Below w.heap.size w V→Calls Try.prog 34 #[.slice A0 l0.length c0] V fun e w'=>∃ A c,e=.returned (.slice A (mergeE 11 l0).length c)∧Kd.S kTN 49 w' V.heap.size (fun k=>V.heap.size≤k) (.slice A (mergeE 11 l0).length c) (mergeE 11 l0)∧Below V.heap.size V w'):=⟨fun V hV=>l03Merge_all 10 A0 c0 l0 V hd (by omega) (cb_ hr0 hV)⟩
 clear h hcd hr0 hc0 h4 hd
 generalize mergeE 11 l0=R at *
 generalize l0.length=n0 at *
 go_enter Try.func20,Try.ntmps20
 go_wp2_with (first|(go_at_call 24;(with_reducible refine QA.out.mono ?_);rintro e w1 ⟨rfl,hb⟩;(have HB1:=A_ hb);clear hb)|(go_at_call 34;(with_reducible refine (QN.out w1 HB1.out).mono ?_);rintro e w3 ⟨A3,c3,rfl,hs,hb3⟩;(have HS:=A_ hs);(have HB3:=A_ (bp_ HB1.out hb3));clear hs hb3))
 go_ret2
 exact ⟨A3,c3,rfl,(S_readsT HS.out).2.2,(S_readsT HS.out).2.1,HB3.out⟩
/-! ### impl_within: function 82 -/
def impl_within.f (a0:Int) (a1:Int) (a2:Int):Option (Bool):=if a0≥a1 then (some (decide (a0≤a2))) else (some false)
set_option maxHeartbeats 8000000 in
set_option maxRecDepth 100000 in
theorem impl_within.calls (a0:Int) (a1:Int) (a2:Int) (r:Bool) (w:World) (h:impl_within.f a0 a1 a2=some r) :
 Calls Try.prog 82 #[.int .i64 a0,.int .i64 a1,.int .i64 a2] w fun e w'=>e=.returned (.bool r)∧Drawn0 w w':=by
 have H:(if a0≥a1 then (some (decide (a0≤a2))) else (some false))=some r:=h
 clear h
 by_cases c4:a0≥a1
 ·rw [if_pos c4] at H
  have c4b0:decide (a1≤a0)=true:=dt_ c4
  clear c4
  obtain rfl:=oi_ H
  go_enter Try.func82,Try.ntmps82
  go_wp2
  go_ret
  exact ⟨by first|rfl|(simp;done)|(simp [*];done),by repeat (first|exact dr_ _|apply dp_)⟩
 ·rw [if_neg c4] at H
  have c4b0:decide (a1≤a0)=false:=df_ c4
  clear c4
  obtain rfl:=oi_ H
  go_enter Try.func82,Try.ntmps82
  go_wp2
  go_ret
  exact ⟨by first|rfl|(simp;done)|(simp [*];done),by repeat (first|exact dr_ _|apply dp_)⟩
theorem impl_within.pure (n a b:Int) (W:World):Calls Try.prog 82 #[.int .i64 n,.int .i64 a,.int .i64 b] W fun e w'=>e=.returned (.bool (decide (a≤n∧n≤b)))∧Drawn0 W w':=by
 refine impl_within.calls n a b _ W ?_
 unfold impl_within.f
 by_cases h:n≥a
 ·rw [if_pos h];simp [h]
 ·rw [if_neg h];simp;omega
/-! ### impl_isSmall: function 92 -/
def impl_isSmall.f (a0:Int):Option (Bool):=if a0≥97 then (some (decide (a0≤122))) else (some false)
set_option maxHeartbeats 8000000 in
set_option maxRecDepth 100000 in
theorem impl_isSmall.calls (a0:Int) (r:Bool) (w:World) (h:impl_isSmall.f a0=some r) :
 Calls Try.prog 92 #[.int .u8 a0] w fun e w'=>e=.returned (.bool r)∧Drawn0 w w':=by
 have H:(if a0≥97 then (some (decide (a0≤122))) else (some false))=some r:=h
 clear h
 by_cases c2:a0≥97
 ·rw [if_pos c2] at H
  have c2b0:decide (97≤a0)=true:=dt_ c2
  clear c2
  obtain rfl:=oi_ H
  go_enter Try.func92,Try.ntmps92
  go_wp2
  go_ret
  exact ⟨by first|rfl|(simp;done)|(simp [*];done),by repeat (first|exact dr_ _|apply dp_)⟩
 ·rw [if_neg c2] at H
  have c2b0:decide (97≤a0)=false:=df_ c2
  clear c2
  obtain rfl:=oi_ H
  go_enter Try.func92,Try.ntmps92
  go_wp2
  go_ret
  exact ⟨by first|rfl|(simp;done)|(simp [*];done),by repeat (first|exact dr_ _|apply dp_)⟩
/-! ### impl_isDigit: function 93 -/
def impl_isDigit.f (a0:Int):Option (Bool):=if a0≥48 then (some (decide (a0≤57))) else (some false)
set_option maxHeartbeats 8000000 in
set_option maxRecDepth 100000 in
theorem impl_isDigit.calls (a0:Int) (r:Bool) (w:World) (h:impl_isDigit.f a0=some r) :
 Calls Try.prog 93 #[.int .u8 a0] w fun e w'=>e=.returned (.bool r)∧Drawn0 w w':=by
 have H:(if a0≥48 then (some (decide (a0≤57))) else (some false))=some r:=h
 clear h
 by_cases c2:a0≥48
 ·rw [if_pos c2] at H
  have c2b0:decide (48≤a0)=true:=dt_ c2
  clear c2
  obtain rfl:=oi_ H
  go_enter Try.func93,Try.ntmps93
  go_wp2
  go_ret
  exact ⟨by first|rfl|(simp;done)|(simp [*];done),by repeat (first|exact dr_ _|apply dp_)⟩
 ·rw [if_neg c2] at H
  have c2b0:decide (48≤a0)=false:=df_ c2
  clear c2
  obtain rfl:=oi_ H
  go_enter Try.func93,Try.ntmps93
  go_wp2
  go_ret
  exact ⟨by first|rfl|(simp;done)|(simp [*];done),by repeat (first|exact dr_ _|apply dp_)⟩
end Go.Proofs.Ytlhhcbhmnmndiaa.PFnExactMergeText
