/- By a program of this session, out of the kit's print and contracts made by hand: the machine side of a law; Lean checks it. No conditions. -/
import Derived.Test.YtlhhcbhmnmndiaaPFnExactMergeTextx0
import Derived.Test.YtlhhcbhmnmndiaaPFnExactMergeTextx6
import Derived.Test.YtlhhcbhmnmndiaaPFnExactMergeTextx13
namespace Go.Proofs.Ytlhhcbhmnmndiaa.PFnExactMergeText
open Go.RowKit Go.Proofs.YtlhhcbhmnmndiaaW.PrintWords Go.Proofs.YtlhhcbhmnmndiaaW.PrintLast Go.Proofs.YtlhhcbhmnmndiaaW.PrintMore
attribute [local go_sem] max2_int min2_int max_two min_two max_three min_three max_four min_four
set_option linter.unusedVariables false
set_option linter.unusedSimpArgs false
/-! ### impl_merged: function 35, by hand -/
/-- One node more: joined to the last text, or put behind. -/
def mergeS (rec:List S49→List S49) (out:List S49) (x:S49):List S49 :=
 if 0<out.length∧x.f0=2∧(out.getD (out.length - 1) z49).f0=2∧(out.getD (out.length - 1) z49).f3.size+x.f3.size≤120 then out.set (out.length - 1) ⟨(out.getD (out.length - 1) z49).f0,(out.getD (out.length - 1) z49).f1,(out.getD (out.length - 1) z49).f2,(out.getD (out.length - 1) z49).f3++x.f3,(out.getD (out.length - 1) z49).f4,(out.getD (out.length - 1) z49).f5⟩ else out++[⟨x.f0,x.f1,x.f2,x.f3,x.f4,rec x.f5⟩]
def mergeE:Nat→List S49→List S49
 | 0,_=>[]
 | n+1,l=>l.foldl (mergeS (mergeE n)) []
theorem mergeS_len (rec:List S49→List S49) (out:List S49) (x:S49):(mergeS rec out x).length≤out.length+1:=by
 unfold mergeS
 split
 ·rw [List.length_set];omega
 ·rw [List.length_append];simp
theorem kTN_openX {w:World} {base:Nat} {ok:Nat→Prop} {x:S49} {A A':Option Addr} {n n' c c':Nat} (h:kTN.M w base ok x [.int .i64 x.f0,.int .i64 x.f1,.string x.f2,.string x.f3,.slice A n c,.slice A' n' c']):∃ p:Nat→Prop,Kd.R k68 68 w base (fun k=>ok k∧p k) (.slice A n c) x.f4∧Kd.S kTN 49 w base (fun k=>ok k∧¬ p k) (.slice A' n' c') x.f5:=by
 obtain ⟨v4,v5,p,e,g4,g5⟩:=kTN_openM h
 simp only [List.cons.injEq,true_and,and_true] at e
 obtain ⟨rfl,rfl⟩:=e
 exact ⟨p,g4,g5⟩
theorem merged_M {b0:Nat} {wr w2 w3:World} {bV:Nat} {x:S49} {A7 A8 A9:Option Addr} {c7 c8 c9 m7 m8 m9:Nat} {ks:List S49} {OB2:Obj} {v:Value} (hm:kTN.M w2 bV (fun k=>bV≤k) x [.int .i64 x.f0,.int .i64 x.f1,.string x.f2,.string x.f3,.slice A7 m7 c7,.slice A8 m8 c8]) (hbV:wr.heap.size<bV) (h0:bV≤w2.heap.size) (hws:b0≤wr.heap.size) (hb:Below w2.heap.size w2 w3) (hs:Kd.S kTN 49 w3 (w2.alloc OB2).heap.size (fun k=>(w2.alloc OB2).heap.size≤k) (.slice A9 m9 c9) ks) :
 kTN.M (w3.setCell ⟨w2.heap.size,5,none⟩ v) b0 (fun k=>wr.heap.size+1≤k∧k≠w2.heap.size) (⟨x.f0,x.f1,x.f2,x.f3,x.f4,ks⟩:S49) [.int .i64 x.f0,.int .i64 x.f1,.string x.f2,.string x.f3,.slice A7 m7 c7,.slice A9 m9 c9]:=by
 obtain ⟨p,g4,_⟩:=kTN_openX hm
 have hK:Kept w3 (w3.setCell ⟨w2.heap.size,5,none⟩ v) (fun k=>k=w2.heap.size):=Kept.setCell (Kept.refl w3 (fun k=>k=w2.heap.size)) (p:=⟨w2.heap.size,5,none⟩) (.inl rfl) v
 have hz:(w2.alloc OB2).heap.size=w2.heap.size+1:=by rw [World.size_alloc]
 rw [hz] at hs
 have g6:=Kd.R_below (Kd.R_bound g4) hb
 refine kTN_mkM _ _ _ (fun k=>k<w2.heap.size) (⟨x.f0,x.f1,x.f2,x.f3,x.f4,ks⟩:S49) ?_ ?_
 ·exact Kd.R_lower (Kd.R_mono (Kd.R_kept g6 hK (fun k hk (h:k=w2.heap.size)=>by have h1:=hk.2.2.1;omega)) (fun k hk=>⟨⟨by have:=hk.2.1;omega,by have:=hk.2.2.1;omega⟩,hk.2.2.1⟩)) (by omega)
 ·exact Kd.S_lower (Kd.S_mono (Kd.S_kept hs hK (fun k hk (h:k=w2.heap.size)=>by omega)) (fun k hk=>⟨⟨by omega,by omega⟩,by omega⟩)) (by omega)
theorem merged_O {b0:Nat} {wr w2 w3:World} {v v0:Value} {out:List S49} (hG:Kd.S kTN 49 wr b0 (fun k=>b0≤k) v0 out) (hb:Below wr.heap.size wr w3) (h2:wr.heap.size≤w2.heap.size) :
 Kd.S kTN 49 (w3.setCell ⟨w2.heap.size,5,none⟩ v) b0 (fun k=>b0≤k∧¬ (wr.heap.size+1≤k∧k≠w2.heap.size)) v0 out:=by
 have hK:Kept w3 (w3.setCell ⟨w2.heap.size,5,none⟩ v) (fun k=>k=w2.heap.size):=Kept.setCell (Kept.refl w3 (fun k=>k=w2.heap.size)) (p:=⟨w2.heap.size,5,none⟩) (.inl rfl) v
 exact Kd.S_mono (Kd.S_kept (Kd.S_below (Kd.S_bound hG) hb) hK (fun k hk (h:k=w2.heap.size)=>by have:=hk.2.2.1;omega)) (fun k hk=>⟨hk.1,fun h=>by have:=hk.2.2.1;omega⟩)
theorem rdN_getD (xs:List S49) (i:Nat):rd_T49 xs (i:Int)=xs.getD i z49:=by simp [rd_T49]
abbrev mergedC (n:Nat):Prop:=∀ (A0:Option Addr) (c0:Nat) (l0:List S49) (w:World),l0.all (fewB n)=true→l0.length≤1048576→Kd.C k49 w A0 l0.length l0 →
 Calls Try.prog 35 #[.slice A0 l0.length c0] w fun e w'=>∃ A c,e=.returned (.slice A (mergeE (n+1) l0).length c)∧Kd.S kTN 49 w' w.heap.size (fun k=>w.heap.size≤k) (.slice A (mergeE (n+1) l0).length c) (mergeE (n+1) l0)∧Below w.heap.size w w'
set_option maxHeartbeats 32000000 in
set_option maxRecDepth 1000000 in
theorem merged_step (n:Nat) (ih:∀ m,m+1=n→mergedC m):mergedC n:=by
 intro A0 c0 l0 w hf hn h0
 rw [List.all_eq_true] at hf
 obtain ⟨R,hR⟩:∃ R,mergeE (n+1) l0=R:=⟨_,rfl⟩
 rw [hR]
 rw [mergeE] at hR
 have HF:=A_ hR
 have HALL:=A_ hf
 have HC:=A_ h0
 have HN:=A_ hn
 have IH:=A_ ih
 have hL:l0.length≤9223372036854775807:=h0.2.1
 clear hf h0 hn ih hR
 go_enter Try.func35,Try.ntmps35
 go_wp2_with ((with_reducible refine gate_dst (N:=8) rfl ?_);refine Kd.R_lit (Kd.tag (fun _=>0) kTN) (w0:=w) w.heap.size 49 ?hg (N:=8) ?hd (xs:=([]:List (S49 × Nat))) (inner:=[]) (ok:=fun k=>w.heap.size≤k) (okp:=fun _=>False) ?hr ?hp (fun _ hk=>hk.elim) (Nat.le_refl _) (Below.refl _ _) (Nat.le_refl _) (by simp) ?_;(case hd=>rfl);(case hg=>rfl);(case hr=>first|(go_simp;done)|(go_simp;rfl));(case hp=>exact (Reps.none _ _));intro v6 w1 ho hb _ _;(have HO:=A_ (Sep.S_of_tag (d:=kTN) ho));(have HB:=A_ hb);clear ho hb;obtain ⟨A6,c6,rfl⟩:=Kd.S_slice HO.out)
 go_loopg [3,5,6,7,11] l0.length (fun gg s3 _ _ _ s11 wr=>∃ (kk:Nat) (out:List S49) (A3:Option Addr) (c3:Nat),kk≤l0.length∧l0.length - kk≤gg∧s3=.slice A3 out.length c3∧s11=.int .i64 kk∧Aside0 ((l0.drop kk).foldl (mergeS (mergeE n)) out=R)∧Aside0 (out.length≤kk)∧Aside0 (∀ y∈out,y.f3.size≤1048576)∧Aside0 (Kd.S kTN 49 wr w.heap.size (fun k=>w.heap.size≤k) (.slice A3 out.length c3) out)∧Aside0 (Below w.heap.size w wr))
 case atStart=>exact ⟨0,[],A6,c6,Nat.zero_le _,by omega,rfl,rfl,⟨by rw [List.drop_zero];exact HF.out⟩,⟨Nat.le_refl _⟩,⟨fun y hy=>by cases hy⟩,HO,HB⟩
 case round =>
  obtain ⟨kk,out,A3,c3,hkk,hgg,rfl,rfl,HFR,HLE,HSH,HG,BW⟩:=hrel
  by_cases hlt:kk<l0.length
  case neg =>
   have hltz:¬ (kk:Int)<(l0.length:Int):=by omega
   have HE:Aside0 (out=R):=⟨by have h:=HFR.out;rw [List.drop_eq_nil_of_le (by omega)] at h;exact h⟩
   go_wp2
   go_ret
   obtain rfl:=HE.out
   exact ⟨A3,c3,rfl,HG.out,BW.out⟩
  case pos =>
   have hltz:(kk:Int)<(l0.length:Int):=by omega
   obtain ⟨ad,cs,e,hcl,hK,hc⟩:=Kd.C_get HC.out z49 (kk:Int) (by omega) (by omega)
   rw [Int.toNat_natCast] at hK hc
   have hfy:=HALL.out _ (Kit.getD_mem z49 hlt)
   have HF2:Aside0 ((l0.drop (kk+1)).foldl (mergeS (mergeE n)) (mergeS (mergeE n) out (l0.getD kk z49))=R):=⟨by have h:=HFR.out;rw [Kit.drop_getD z49 l0 kk hlt,List.foldl_cons] at h;exact h⟩
   clear HFR
   generalize l0.getD kk z49=x at *
   obtain ⟨A4,c4,A5,c5,rfl,m4,q4,m5,q5⟩:=k49_open hK
   subst e
   have r0:wr.cell? (ad.add (kk * 6))=some (.int .i64 x.f0):=pc_ BW.out (hc 0 _ rfl)
   have r1:wr.cell? ⟨(ad.add (kk * 6)).block,(ad.add (kk * 6)).off+1,none⟩=some (.int .i64 x.f1):=pc_ BW.out ((by rw [←add_field _ _ 1 (by omega)];exact hc 1 _ rfl))
   have r2:wr.cell? ⟨(ad.add (kk * 6)).block,(ad.add (kk * 6)).off+2,none⟩=some (.string x.f2):=pc_ BW.out ((by rw [←add_field _ _ 2 (by omega)];exact hc 2 _ rfl))
   have r3:wr.cell? ⟨(ad.add (kk * 6)).block,(ad.add (kk * 6)).off+3,none⟩=some (.string x.f3):=pc_ BW.out ((by rw [←add_field _ _ 3 (by omega)];exact hc 3 _ rfl))
   have r4:wr.cell? ⟨(ad.add (kk * 6)).block,(ad.add (kk * 6)).off+4,none⟩=some (.slice A4 x.f4.length c4):=pc_ BW.out ((by rw [←add_field _ _ 4 (by omega)];exact hc 4 _ rfl))
   have r5:wr.cell? ⟨(ad.add (kk * 6)).block,(ad.add (kk * 6)).off+5,none⟩=some (.slice A5 x.f5.length c5):=pc_ BW.out ((by rw [←add_field _ _ 5 (by omega)];exact hc 5 _ rfl))
   have QN:Aside0 (∀ V,Below w.heap.size w V→Calls Try.prog 49 #[.agg #[.int .i64 x.f0,.int .i64 x.f1,.string x.f2,.string x.f3,.slice A4 x.f4.length c4,.slice A5 x.f5.length c5]] V fun e w'=>∃ A6 c6 A7 c7,e=.returned (.agg #[.int .i64 x.f0,.int .i64 x.f1,.string x.f2,.string x.f3,.slice A6 x.f4.length c6,.slice A7 x.f5.length c7])∧kTN.M w' V.heap.size (fun k=>V.heap.size≤k) x [.int .i64 x.f0,.int .i64 x.f1,.string x.f2,.string x.f3,.slice A6 x.f4.length c6,.slice A7 x.f5.length c7]∧Below V.heap.size V w'):=⟨fun V hV=>(cloned_both n).1 x A4 c4 A5 c5 V hfy (cb_ q4 hV) (cb_ q5 hV)⟩
   have QM:Aside0 (∀ V,Below w.heap.size w V→Calls Try.prog 35 #[.slice A5 x.f5.length c5] V fun e w'=>∃ A c,e=.returned (.slice A (mergeE n x.f5).length c)∧Kd.S kTN 49 w' V.heap.size (fun k=>V.heap.size≤k) (.slice A (mergeE n x.f5).length c) (mergeE n x.f5)∧Below V.heap.size V w'):=⟨fun V hV=>by
    cases n with
    | zero=>cases hfy
    | succ n =>
     rw [fewB,Bool.and_eq_true,Bool.and_eq_true,Bool.and_eq_true] at hfy
     have h1:=od_ hfy.1.2
     exact IH.out n rfl A5 c5 x.f5 V hfy.2 h1 (cb_ q5 hV)⟩
   have HX3:Aside0 (x.f3.size≤1048576):=⟨by cases n with|zero=>cases hfy|succ n=>(rw [fewB,Bool.and_eq_true,Bool.and_eq_true,Bool.and_eq_true] at hfy;exact od_ hfy.1.1.1)⟩
   have BW1:=A_ (ba_ BW.out (.cells #[.int .i64 x.f0,.int .i64 x.f1,.string x.f2,.string x.f3,.slice A4 x.f4.length c4,.slice A5 x.f5.length c5] 49 (0,0)))
   have BR1:=A_ (ba_ (Below.refl wr.heap.size wr) (.cells #[.int .i64 x.f0,.int .i64 x.f1,.string x.f2,.string x.f3,.slice A4 x.f4.length c4,.slice A5 x.f5.length c5] 49 (0,0)))
   have HLT:=A_ hlt
   have b0:(wr.alloc (.cells #[.int .i64 x.f0,.int .i64 x.f1,.string x.f2,.string x.f3,.slice A4 x.f4.length c4,.slice A5 x.f5.length c5] 49 (0,0))).cell? ⟨wr.heap.size,0,none⟩=some (.int .i64 x.f0):=Mach.new_cell wr _ _ 0 _ rfl
   have b1:(wr.alloc (.cells #[.int .i64 x.f0,.int .i64 x.f1,.string x.f2,.string x.f3,.slice A4 x.f4.length c4,.slice A5 x.f5.length c5] 49 (0,0))).cell? ⟨wr.heap.size,1,none⟩=some (.int .i64 x.f1):=Mach.new_cell wr _ _ 1 _ rfl
   have b2:(wr.alloc (.cells #[.int .i64 x.f0,.int .i64 x.f1,.string x.f2,.string x.f3,.slice A4 x.f4.length c4,.slice A5 x.f5.length c5] 49 (0,0))).cell? ⟨wr.heap.size,2,none⟩=some (.string x.f2):=Mach.new_cell wr _ _ 2 _ rfl
   have b3:(wr.alloc (.cells #[.int .i64 x.f0,.int .i64 x.f1,.string x.f2,.string x.f3,.slice A4 x.f4.length c4,.slice A5 x.f5.length c5] 49 (0,0))).cell? ⟨wr.heap.size,3,none⟩=some (.string x.f3):=Mach.new_cell wr _ _ 3 _ rfl
   have b4:(wr.alloc (.cells #[.int .i64 x.f0,.int .i64 x.f1,.string x.f2,.string x.f3,.slice A4 x.f4.length c4,.slice A5 x.f5.length c5] 49 (0,0))).cell? ⟨wr.heap.size,4,none⟩=some (.slice A4 x.f4.length c4):=Mach.new_cell wr _ _ 4 _ rfl
   have b5:(wr.alloc (.cells #[.int .i64 x.f0,.int .i64 x.f1,.string x.f2,.string x.f3,.slice A4 x.f4.length c4,.slice A5 x.f5.length c5] 49 (0,0))).cell? ⟨wr.heap.size,5,none⟩=some (.slice A5 x.f5.length c5):=Mach.new_cell wr _ _ 5 _ rfl
   clear hc hK hcl m4 q4 m5 q5 hfy hlt IH
   obtain ⟨L,hLL⟩:∃ L,out.length=L:=⟨_,rfl⟩
   rw [hLL] at HG HLE
   rw [hLL]
   have HLL:=A_ hLL
   have HXB:=A_ (blk_new wr (.cells #[.int .i64 x.f0,.int .i64 x.f1,.string x.f2,.string x.f3,.slice A4 x.f4.length c4,.slice A5 x.f5.length c5] 49 (0,0)))
   have HWS:=A_ BW.out.size
   cases L with
   | zero =>
    have HMS:Aside0 (mergeS (mergeE n) out x=out++[(⟨x.f0,x.f1,x.f2,x.f3,x.f4,mergeE n x.f5⟩:S49)]):=⟨if_neg (fun h=>by omega)⟩
    clear hLL
    go_wp2_with fail
    go_quiet (fail)
    go_wp2_with (first|(go_at_call 49;(with_reducible refine (QN.out _ (pd_ BW1.out _)).mono ?_);rintro e w2 ⟨A7,c7,A8,c8,rfl,hm,hb⟩;(have HM:=A_ hm);(have HSV:=A_ hb.size);(have HB2:=A_ (bp_ (pd_ BW1.out _) hb));(have HR2:=A_ (bp_ (pd_ BR1.out _) hb));(have X5:=kb_ (kn_ HXB.out _) hb);(have g5:(w2.alloc (.cells #[.int .i64 x.f0,.int .i64 x.f1,.string x.f2,.string x.f3,.slice A7 x.f4.length c7,.slice A8 x.f5.length c8] 49 (0,0))).cell? ⟨wr.heap.size,5,none⟩=some (.slice A5 x.f5.length c5):=(bc_ (ka_ X5 (.cells #[.int .i64 x.f0,.int .i64 x.f1,.string x.f2,.string x.f3,.slice A7 x.f4.length c7,.slice A8 x.f5.length c8] 49 (0,0))) 5).trans rfl);(have HBZ:=A_ (Nat.le_trans (blk_lt (blk_new wr (.cells #[.int .i64 x.f0,.int .i64 x.f1,.string x.f2,.string x.f3,.slice A4 x.f4.length c4,.slice A5 x.f5.length c5] 49 (0,0)))) hb.size));(have hne:=Nat.ne_of_lt HBZ.out);clear hm hb X5)|(go_at_call 35;(with_reducible refine (QM.out _ (ba_ HB2.out (.cells #[.int .i64 x.f0,.int .i64 x.f1,.string x.f2,.string x.f3,.slice A7 x.f4.length c7,.slice A8 x.f5.length c8] 49 (0,0)))).mono ?_);rintro e w3 ⟨A9,c9,rfl,hs,hb⟩;(have HS:=A_ hs);(have HB3:=A_ (bp_ (ba_ HB2.out (.cells #[.int .i64 x.f0,.int .i64 x.f1,.string x.f2,.string x.f3,.slice A7 x.f4.length c7,.slice A8 x.f5.length c8] 49 (0,0))) hb));(have HR3:=A_ (bp_ (ba_ HR2.out (.cells #[.int .i64 x.f0,.int .i64 x.f1,.string x.f2,.string x.f3,.slice A7 x.f4.length c7,.slice A8 x.f5.length c8] 49 (0,0))) hb));(have HB23:=A_ (bp_ (ba_ (Below.refl w2.heap.size w2) (.cells #[.int .i64 x.f0,.int .i64 x.f1,.string x.f2,.string x.f3,.slice A7 x.f4.length c7,.slice A8 x.f5.length c8] 49 (0,0))) hb));(have X7:=kb_ (blk_new w2 (.cells #[.int .i64 x.f0,.int .i64 x.f1,.string x.f2,.string x.f3,.slice A7 x.f4.length c7,.slice A8 x.f5.length c8] 49 (0,0))) hb);(have e0:w3.cell? ⟨w2.heap.size,0,none⟩=some (.int .i64 x.f0):=(bc_ X7 0).trans rfl);(have e1:w3.cell? ⟨w2.heap.size,1,none⟩=some (.int .i64 x.f1):=(bc_ X7 1).trans rfl);(have e2:w3.cell? ⟨w2.heap.size,2,none⟩=some (.string x.f2):=(bc_ X7 2).trans rfl);(have e3:w3.cell? ⟨w2.heap.size,3,none⟩=some (.string x.f3):=(bc_ X7 3).trans rfl);(have e4:w3.cell? ⟨w2.heap.size,4,none⟩=some (.slice A7 x.f4.length c7):=(bc_ X7 4).trans rfl);(have e5:w3.cell? ⟨w2.heap.size,5,none⟩=some (.slice A8 x.f5.length c8):=(bc_ X7 5).trans rfl);(have f5':=bf_ X7 5);(have HS3:=A_ hb.size);clear hs hb X7)|((with_reducible refine gate_builtin (b:=.append) (xs:=#[.tmp 64,.tmp 66]) rfl ?_);at_builtin;refine Sep.S_append kTN (w0:=w) (W:=(w3.setCell ⟨w2.heap.size,5,none⟩ (.slice A9 (mergeE n x.f5).length c9))) w.heap.size rfl (.tmp 64) (.tmp 66) 27 49 (.agg #[(.int .i64 0),(.int .i64 0),(.string ⟨#[]⟩),(.string ⟨#[]⟩),(.slice none 0 0),(.slice none 0 0)]) 96 rfl Try.underlying27 infoCl rfl (by decide) (by omega) (.slice A3 0 c3) out (⟨x.f0,x.f1,x.f2,x.f3,x.f4,mergeE n x.f5⟩:S49) [.int .i64 x.f0,.int .i64 x.f1,.string x.f2,.string x.f3,.slice A7 x.f4.length c7,.slice A9 (mergeE n x.f5).length c9] (fun k=>w.heap.size≤k) (fun k=>wr.heap.size+1≤k∧k≠w2.heap.size) rfl ?hx ?aP ?aK ?aF ?aO ?aB ?aS ?aL ?_;(case hx=>first|rfl|(go_simp;done)|(simp;done)|(go_simp;rfl));(case aP=>exact merged_M HM.out (blk_lt HXB.out) HSV.out HWS.out HB23.out HS.out);(case aK=>exact (fun k hk=>Nat.le_trans HWS.out (Nat.le_trans (Nat.le_succ _) hk.1)));(case aF=>exact (fun k hk=>Nat.le_trans HB3.out.size (by simpa [World.setCell] using hk)));(case aO=>exact merged_O HG.out HR3.out HR2.out.size);(case aB=>exact bs_ HB3.out HB2.out.size);(case aS=>exact (bs_ (j:=5) (v:=.slice A9 (mergeE n x.f5).length c9) HB3.out HB2.out.size).size);(case aL=>have h1:=HLL.out;have h2:=HLE.out;have h3:=HN.out;omega);intro v9 w9 ho hb _ _;obtain ⟨A10,c10,rfl⟩:=Kd.S_slice ho;(have HO9:=A_ ho);(have HB9:=A_ hb);clear ho hb))
    go_roundg (l0.length - (kk+1))
    case measure=>have:=HLT.out;omega
    case rel =>
     refine ⟨kk+1,out++[(⟨x.f0,x.f1,x.f2,x.f3,x.f4,mergeE n x.f5⟩:S49)],A10,c10,by have:=HLT.out;omega,by omega,?_,by go_num,⟨by rw [←HMS.out];exact HF2.out⟩,⟨by have h1:=HLL.out;have h2:=HLE.out;rw [List.length_append,List.length_singleton];omega⟩,⟨fun q hq=>?_⟩,HO9,HB9⟩
     ·first
      | rfl
      | simp
     ·rcases List.mem_append.1 hq with hq|hq
      ·exact HSH.out q hq
      ·obtain rfl:=List.mem_singleton.1 hq
       exact HX3.out
   | succ M =>
    obtain ⟨y,hy⟩:∃ y,out.getD M z49=y:=⟨_,rfl⟩
    have hy1:y.f3.size≤1048576:=by rw [←hy];exact HSH.out _ (Kit.getD_mem z49 (by omega))
    have hx1:x.f3.size≤1048576:=HX3.out
    obtain ⟨g,cap,ev,hgb,hgl,_⟩:=Kd.S_form HG.out (by omega)
    injection ev with e1 e2 e3
    subst e1
    obtain ⟨B4,d4,B5,d5,⟨u0,u1,u2,u3,u4,u5⟩,⟨f0,f1,f2,f3,f4,f5⟩,_⟩:=nodeCells (xs0:=out) (Kd.S_below HG.out BR1.out) (M:Int) (by omega) (by omega) (fun _=>rfl) y (by rw [rdN_getD];exact hy)
    rw [Int.toNat_natCast] at u0 u1 u2 u3 u4 u5 f0 f1 f2 f3 f4 f5
    have HY:=A_ hy
    have hlast:(out.getD (out.length - 1) z49)=y:=by rw [hLL];exact hy
    have hms:mergeS (mergeE n) out x=if 0<out.length∧x.f0=2∧y.f0=2∧y.f3.size+x.f3.size≤120 then out.set (out.length - 1) ⟨y.f0,y.f1,y.f2,y.f3++x.f3,y.f4,y.f5⟩ else out++[(⟨x.f0,x.f1,x.f2,x.f3,x.f4,mergeE n x.f5⟩:S49)]:=by unfold mergeS;rw [hlast]
    have HGB:=A_ hgb
    have HGL:=A_ hgl
    have hz:decide ((0:Int)<(M:Int)+1)=true:=dt_ (by omega)
    have hc0:y.f3.size+x.f3.size≤9223372036854775807:=by omega
    have hcat:=dt_ hc0
    have hm0:(0:Int)≤(M:Int):=by omega
    have hm1:(M:Int)<(M:Int)+1:=by omega
    have HM0:Aside0 (M<2000000):=⟨by have:=HLE.out;have:=HN.out;omega⟩
    have hMb:=HM0.out
    have hw:IntKind.i64.wrap (M:Int)=(M:Int):=by rw [IntKind.wrap_i64];omega
    have hw3:IntKind.i64.wrap ((y.f3.size:Int)+(x.f3.size:Int))=(y.f3.size:Int)+(x.f3.size:Int):=by rw [IntKind.wrap_i64];omega
    have HW:=A_ hw
    have HW3:=A_ hw3
    clear hy hgb hgl e2 e3 hy1 hx1 hw hw3 hMb
    by_cases k1:x.f0=2
    case neg =>
     have z1:(x.f0 == 2)=false:=by simpa using k1
     have HMS:Aside0 (mergeS (mergeE n) out x=out++[(⟨x.f0,x.f1,x.f2,x.f3,x.f4,mergeE n x.f5⟩:S49)]):=⟨by rw [hms];exact if_neg (fun h=>k1 h.2.1)⟩
     clear hms hlast hLL k1
     go_wp2_with fail
     go_quiet (fail)
     go_wp2_with (first|(go_at_call 49;(with_reducible refine (QN.out _ (pd_ BW1.out _)).mono ?_);rintro e w2 ⟨A7,c7,A8,c8,rfl,hm,hb⟩;(have HM:=A_ hm);(have HSV:=A_ hb.size);(have HB2:=A_ (bp_ (pd_ BW1.out _) hb));(have HR2:=A_ (bp_ (pd_ BR1.out _) hb));(have X5:=kb_ (kn_ HXB.out _) hb);(have g5:(w2.alloc (.cells #[.int .i64 x.f0,.int .i64 x.f1,.string x.f2,.string x.f3,.slice A7 x.f4.length c7,.slice A8 x.f5.length c8] 49 (0,0))).cell? ⟨wr.heap.size,5,none⟩=some (.slice A5 x.f5.length c5):=(bc_ (ka_ X5 (.cells #[.int .i64 x.f0,.int .i64 x.f1,.string x.f2,.string x.f3,.slice A7 x.f4.length c7,.slice A8 x.f5.length c8] 49 (0,0))) 5).trans rfl);(have HBZ:=A_ (Nat.le_trans (blk_lt (blk_new wr (.cells #[.int .i64 x.f0,.int .i64 x.f1,.string x.f2,.string x.f3,.slice A4 x.f4.length c4,.slice A5 x.f5.length c5] 49 (0,0)))) hb.size));(have hne:=Nat.ne_of_lt HBZ.out);clear hm hb X5)|(go_at_call 35;(with_reducible refine (QM.out _ (ba_ HB2.out (.cells #[.int .i64 x.f0,.int .i64 x.f1,.string x.f2,.string x.f3,.slice A7 x.f4.length c7,.slice A8 x.f5.length c8] 49 (0,0)))).mono ?_);rintro e w3 ⟨A9,c9,rfl,hs,hb⟩;(have HS:=A_ hs);(have HB3:=A_ (bp_ (ba_ HB2.out (.cells #[.int .i64 x.f0,.int .i64 x.f1,.string x.f2,.string x.f3,.slice A7 x.f4.length c7,.slice A8 x.f5.length c8] 49 (0,0))) hb));(have HR3:=A_ (bp_ (ba_ HR2.out (.cells #[.int .i64 x.f0,.int .i64 x.f1,.string x.f2,.string x.f3,.slice A7 x.f4.length c7,.slice A8 x.f5.length c8] 49 (0,0))) hb));(have HB23:=A_ (bp_ (ba_ (Below.refl w2.heap.size w2) (.cells #[.int .i64 x.f0,.int .i64 x.f1,.string x.f2,.string x.f3,.slice A7 x.f4.length c7,.slice A8 x.f5.length c8] 49 (0,0))) hb));(have X7:=kb_ (blk_new w2 (.cells #[.int .i64 x.f0,.int .i64 x.f1,.string x.f2,.string x.f3,.slice A7 x.f4.length c7,.slice A8 x.f5.length c8] 49 (0,0))) hb);(have e0:w3.cell? ⟨w2.heap.size,0,none⟩=some (.int .i64 x.f0):=(bc_ X7 0).trans rfl);(have e1:w3.cell? ⟨w2.heap.size,1,none⟩=some (.int .i64 x.f1):=(bc_ X7 1).trans rfl);(have e2:w3.cell? ⟨w2.heap.size,2,none⟩=some (.string x.f2):=(bc_ X7 2).trans rfl);(have e3:w3.cell? ⟨w2.heap.size,3,none⟩=some (.string x.f3):=(bc_ X7 3).trans rfl);(have e4:w3.cell? ⟨w2.heap.size,4,none⟩=some (.slice A7 x.f4.length c7):=(bc_ X7 4).trans rfl);(have e5:w3.cell? ⟨w2.heap.size,5,none⟩=some (.slice A8 x.f5.length c8):=(bc_ X7 5).trans rfl);(have f5':=bf_ X7 5);(have HS3:=A_ hb.size);clear hs hb X7)|((with_reducible refine gate_builtin (b:=.append) (xs:=#[.tmp 64,.tmp 66]) rfl ?_);at_builtin;refine Sep.S_append kTN (w0:=w) (W:=(w3.setCell ⟨w2.heap.size,5,none⟩ (.slice A9 (mergeE n x.f5).length c9))) w.heap.size rfl (.tmp 64) (.tmp 66) 27 49 (.agg #[(.int .i64 0),(.int .i64 0),(.string ⟨#[]⟩),(.string ⟨#[]⟩),(.slice none 0 0),(.slice none 0 0)]) 96 rfl Try.underlying27 infoCl rfl (by decide) (by omega) (.slice (some ⟨g,0,none⟩) (M+1) c3) out (⟨x.f0,x.f1,x.f2,x.f3,x.f4,mergeE n x.f5⟩:S49) [.int .i64 x.f0,.int .i64 x.f1,.string x.f2,.string x.f3,.slice A7 x.f4.length c7,.slice A9 (mergeE n x.f5).length c9] (fun k=>w.heap.size≤k) (fun k=>wr.heap.size+1≤k∧k≠w2.heap.size) rfl ?hx ?aP ?aK ?aF ?aO ?aB ?aS ?aL ?_;(case hx=>first|rfl|(go_simp;done)|(simp;done)|(go_simp;rfl));(case aP=>exact merged_M HM.out (blk_lt HXB.out) HSV.out HWS.out HB23.out HS.out);(case aK=>exact (fun k hk=>Nat.le_trans HWS.out (Nat.le_trans (Nat.le_succ _) hk.1)));(case aF=>exact (fun k hk=>Nat.le_trans HB3.out.size (by simpa [World.setCell] using hk)));(case aO=>exact merged_O HG.out HR3.out HR2.out.size);(case aB=>exact bs_ HB3.out HB2.out.size);(case aS=>exact (bs_ (j:=5) (v:=.slice A9 (mergeE n x.f5).length c9) HB3.out HB2.out.size).size);(case aL=>have h1:=HLL.out;have h2:=HLE.out;have h3:=HN.out;omega);intro v9 w9 ho hb _ _;obtain ⟨A10,c10,rfl⟩:=Kd.S_slice ho;(have HO9:=A_ ho);(have HB9:=A_ hb);clear ho hb))
     go_roundg (l0.length - (kk+1))
     case measure=>have:=HLT.out;omega
     case rel =>
      refine ⟨kk+1,out++[(⟨x.f0,x.f1,x.f2,x.f3,x.f4,mergeE n x.f5⟩:S49)],A10,c10,by have:=HLT.out;omega,by omega,?_,by go_num,⟨by rw [←HMS.out];exact HF2.out⟩,⟨by have h1:=HLL.out;have h2:=HLE.out;rw [List.length_append,List.length_singleton];omega⟩,⟨fun q hq=>?_⟩,HO9,HB9⟩
      ·first
       | rfl
       | simp
      ·rcases List.mem_append.1 hq with hq|hq
       ·exact HSH.out q hq
       ·obtain rfl:=List.mem_singleton.1 hq
        exact HX3.out
    case pos =>
     have z1:(x.f0 == 2)=true:=by simpa using k1
     by_cases k2:y.f0=2
     case neg =>
      have z2:(y.f0 == 2)=false:=by simpa using k2
      have HMS:Aside0 (mergeS (mergeE n) out x=out++[(⟨x.f0,x.f1,x.f2,x.f3,x.f4,mergeE n x.f5⟩:S49)]):=⟨by rw [hms];exact if_neg (fun h=>k2 h.2.2.1)⟩
      clear hms hlast hLL k1 k2
      go_wp2_with fail
      have hw:=HW.out
      go_quiet (fail)
      clear hw
      go_wp2_with (first|(go_at_call 49;(with_reducible refine (QN.out _ (pd_ BW1.out _)).mono ?_);rintro e w2 ⟨A7,c7,A8,c8,rfl,hm,hb⟩;(have HM:=A_ hm);(have HSV:=A_ hb.size);(have HB2:=A_ (bp_ (pd_ BW1.out _) hb));(have HR2:=A_ (bp_ (pd_ BR1.out _) hb));(have X5:=kb_ (kn_ HXB.out _) hb);(have g5:(w2.alloc (.cells #[.int .i64 x.f0,.int .i64 x.f1,.string x.f2,.string x.f3,.slice A7 x.f4.length c7,.slice A8 x.f5.length c8] 49 (0,0))).cell? ⟨wr.heap.size,5,none⟩=some (.slice A5 x.f5.length c5):=(bc_ (ka_ X5 (.cells #[.int .i64 x.f0,.int .i64 x.f1,.string x.f2,.string x.f3,.slice A7 x.f4.length c7,.slice A8 x.f5.length c8] 49 (0,0))) 5).trans rfl);(have HBZ:=A_ (Nat.le_trans (blk_lt (blk_new wr (.cells #[.int .i64 x.f0,.int .i64 x.f1,.string x.f2,.string x.f3,.slice A4 x.f4.length c4,.slice A5 x.f5.length c5] 49 (0,0)))) hb.size));(have hne:=Nat.ne_of_lt HBZ.out);clear hm hb X5)|(go_at_call 35;(with_reducible refine (QM.out _ (ba_ HB2.out (.cells #[.int .i64 x.f0,.int .i64 x.f1,.string x.f2,.string x.f3,.slice A7 x.f4.length c7,.slice A8 x.f5.length c8] 49 (0,0)))).mono ?_);rintro e w3 ⟨A9,c9,rfl,hs,hb⟩;(have HS:=A_ hs);(have HB3:=A_ (bp_ (ba_ HB2.out (.cells #[.int .i64 x.f0,.int .i64 x.f1,.string x.f2,.string x.f3,.slice A7 x.f4.length c7,.slice A8 x.f5.length c8] 49 (0,0))) hb));(have HR3:=A_ (bp_ (ba_ HR2.out (.cells #[.int .i64 x.f0,.int .i64 x.f1,.string x.f2,.string x.f3,.slice A7 x.f4.length c7,.slice A8 x.f5.length c8] 49 (0,0))) hb));(have HB23:=A_ (bp_ (ba_ (Below.refl w2.heap.size w2) (.cells #[.int .i64 x.f0,.int .i64 x.f1,.string x.f2,.string x.f3,.slice A7 x.f4.length c7,.slice A8 x.f5.length c8] 49 (0,0))) hb));(have X7:=kb_ (blk_new w2 (.cells #[.int .i64 x.f0,.int .i64 x.f1,.string x.f2,.string x.f3,.slice A7 x.f4.length c7,.slice A8 x.f5.length c8] 49 (0,0))) hb);(have e0:w3.cell? ⟨w2.heap.size,0,none⟩=some (.int .i64 x.f0):=(bc_ X7 0).trans rfl);(have e1:w3.cell? ⟨w2.heap.size,1,none⟩=some (.int .i64 x.f1):=(bc_ X7 1).trans rfl);(have e2:w3.cell? ⟨w2.heap.size,2,none⟩=some (.string x.f2):=(bc_ X7 2).trans rfl);(have e3:w3.cell? ⟨w2.heap.size,3,none⟩=some (.string x.f3):=(bc_ X7 3).trans rfl);(have e4:w3.cell? ⟨w2.heap.size,4,none⟩=some (.slice A7 x.f4.length c7):=(bc_ X7 4).trans rfl);(have e5:w3.cell? ⟨w2.heap.size,5,none⟩=some (.slice A8 x.f5.length c8):=(bc_ X7 5).trans rfl);(have f5':=bf_ X7 5);(have HS3:=A_ hb.size);clear hs hb X7)|((with_reducible refine gate_builtin (b:=.append) (xs:=#[.tmp 64,.tmp 66]) rfl ?_);at_builtin;refine Sep.S_append kTN (w0:=w) (W:=(w3.setCell ⟨w2.heap.size,5,none⟩ (.slice A9 (mergeE n x.f5).length c9))) w.heap.size rfl (.tmp 64) (.tmp 66) 27 49 (.agg #[(.int .i64 0),(.int .i64 0),(.string ⟨#[]⟩),(.string ⟨#[]⟩),(.slice none 0 0),(.slice none 0 0)]) 96 rfl Try.underlying27 infoCl rfl (by decide) (by omega) (.slice (some ⟨g,0,none⟩) (M+1) c3) out (⟨x.f0,x.f1,x.f2,x.f3,x.f4,mergeE n x.f5⟩:S49) [.int .i64 x.f0,.int .i64 x.f1,.string x.f2,.string x.f3,.slice A7 x.f4.length c7,.slice A9 (mergeE n x.f5).length c9] (fun k=>w.heap.size≤k) (fun k=>wr.heap.size+1≤k∧k≠w2.heap.size) rfl ?hx ?aP ?aK ?aF ?aO ?aB ?aS ?aL ?_;(case hx=>first|rfl|(go_simp;done)|(simp;done)|(go_simp;rfl));(case aP=>exact merged_M HM.out (blk_lt HXB.out) HSV.out HWS.out HB23.out HS.out);(case aK=>exact (fun k hk=>Nat.le_trans HWS.out (Nat.le_trans (Nat.le_succ _) hk.1)));(case aF=>exact (fun k hk=>Nat.le_trans HB3.out.size (by simpa [World.setCell] using hk)));(case aO=>exact merged_O HG.out HR3.out HR2.out.size);(case aB=>exact bs_ HB3.out HB2.out.size);(case aS=>exact (bs_ (j:=5) (v:=.slice A9 (mergeE n x.f5).length c9) HB3.out HB2.out.size).size);(case aL=>have h1:=HLL.out;have h2:=HLE.out;have h3:=HN.out;omega);intro v9 w9 ho hb _ _;obtain ⟨A10,c10,rfl⟩:=Kd.S_slice ho;(have HO9:=A_ ho);(have HB9:=A_ hb);clear ho hb))
      go_roundg (l0.length - (kk+1))
      case measure=>have:=HLT.out;omega
      case rel =>
       refine ⟨kk+1,out++[(⟨x.f0,x.f1,x.f2,x.f3,x.f4,mergeE n x.f5⟩:S49)],A10,c10,by have:=HLT.out;omega,by omega,?_,by go_num,⟨by rw [←HMS.out];exact HF2.out⟩,⟨by have h1:=HLL.out;have h2:=HLE.out;rw [List.length_append,List.length_singleton];omega⟩,⟨fun q hq=>?_⟩,HO9,HB9⟩
       ·first
        | rfl
        | simp
       ·rcases List.mem_append.1 hq with hq|hq
        ·exact HSH.out q hq
        ·obtain rfl:=List.mem_singleton.1 hq
         exact HX3.out
     case pos =>
      have z2:(y.f0 == 2)=true:=by simpa using k2
      by_cases k3:y.f3.size+x.f3.size≤120
      case neg =>
       have z3:decide ((y.f3.size:Int)+(x.f3.size:Int)≤120)=false:=df_ (by omega)
       have HMS:Aside0 (mergeS (mergeE n) out x=out++[(⟨x.f0,x.f1,x.f2,x.f3,x.f4,mergeE n x.f5⟩:S49)]):=⟨by rw [hms];exact if_neg (fun h=>k3 h.2.2.2)⟩
       clear hms hlast hLL k1 k2 k3
       go_wp2_with fail
       have hw:=HW.out
       have hw3:=HW3.out
       go_quiet (fail)
       clear hw hw3
       go_wp2_with (first|(go_at_call 49;(with_reducible refine (QN.out _ (pd_ BW1.out _)).mono ?_);rintro e w2 ⟨A7,c7,A8,c8,rfl,hm,hb⟩;(have HM:=A_ hm);(have HSV:=A_ hb.size);(have HB2:=A_ (bp_ (pd_ BW1.out _) hb));(have HR2:=A_ (bp_ (pd_ BR1.out _) hb));(have X5:=kb_ (kn_ HXB.out _) hb);(have g5:(w2.alloc (.cells #[.int .i64 x.f0,.int .i64 x.f1,.string x.f2,.string x.f3,.slice A7 x.f4.length c7,.slice A8 x.f5.length c8] 49 (0,0))).cell? ⟨wr.heap.size,5,none⟩=some (.slice A5 x.f5.length c5):=(bc_ (ka_ X5 (.cells #[.int .i64 x.f0,.int .i64 x.f1,.string x.f2,.string x.f3,.slice A7 x.f4.length c7,.slice A8 x.f5.length c8] 49 (0,0))) 5).trans rfl);(have HBZ:=A_ (Nat.le_trans (blk_lt (blk_new wr (.cells #[.int .i64 x.f0,.int .i64 x.f1,.string x.f2,.string x.f3,.slice A4 x.f4.length c4,.slice A5 x.f5.length c5] 49 (0,0)))) hb.size));(have hne:=Nat.ne_of_lt HBZ.out);clear hm hb X5)|(go_at_call 35;(with_reducible refine (QM.out _ (ba_ HB2.out (.cells #[.int .i64 x.f0,.int .i64 x.f1,.string x.f2,.string x.f3,.slice A7 x.f4.length c7,.slice A8 x.f5.length c8] 49 (0,0)))).mono ?_);rintro e w3 ⟨A9,c9,rfl,hs,hb⟩;(have HS:=A_ hs);(have HB3:=A_ (bp_ (ba_ HB2.out (.cells #[.int .i64 x.f0,.int .i64 x.f1,.string x.f2,.string x.f3,.slice A7 x.f4.length c7,.slice A8 x.f5.length c8] 49 (0,0))) hb));(have HR3:=A_ (bp_ (ba_ HR2.out (.cells #[.int .i64 x.f0,.int .i64 x.f1,.string x.f2,.string x.f3,.slice A7 x.f4.length c7,.slice A8 x.f5.length c8] 49 (0,0))) hb));(have HB23:=A_ (bp_ (ba_ (Below.refl w2.heap.size w2) (.cells #[.int .i64 x.f0,.int .i64 x.f1,.string x.f2,.string x.f3,.slice A7 x.f4.length c7,.slice A8 x.f5.length c8] 49 (0,0))) hb));(have X7:=kb_ (blk_new w2 (.cells #[.int .i64 x.f0,.int .i64 x.f1,.string x.f2,.string x.f3,.slice A7 x.f4.length c7,.slice A8 x.f5.length c8] 49 (0,0))) hb);(have e0:w3.cell? ⟨w2.heap.size,0,none⟩=some (.int .i64 x.f0):=(bc_ X7 0).trans rfl);(have e1:w3.cell? ⟨w2.heap.size,1,none⟩=some (.int .i64 x.f1):=(bc_ X7 1).trans rfl);(have e2:w3.cell? ⟨w2.heap.size,2,none⟩=some (.string x.f2):=(bc_ X7 2).trans rfl);(have e3:w3.cell? ⟨w2.heap.size,3,none⟩=some (.string x.f3):=(bc_ X7 3).trans rfl);(have e4:w3.cell? ⟨w2.heap.size,4,none⟩=some (.slice A7 x.f4.length c7):=(bc_ X7 4).trans rfl);(have e5:w3.cell? ⟨w2.heap.size,5,none⟩=some (.slice A8 x.f5.length c8):=(bc_ X7 5).trans rfl);(have f5':=bf_ X7 5);(have HS3:=A_ hb.size);clear hs hb X7)|((with_reducible refine gate_builtin (b:=.append) (xs:=#[.tmp 64,.tmp 66]) rfl ?_);at_builtin;refine Sep.S_append kTN (w0:=w) (W:=(w3.setCell ⟨w2.heap.size,5,none⟩ (.slice A9 (mergeE n x.f5).length c9))) w.heap.size rfl (.tmp 64) (.tmp 66) 27 49 (.agg #[(.int .i64 0),(.int .i64 0),(.string ⟨#[]⟩),(.string ⟨#[]⟩),(.slice none 0 0),(.slice none 0 0)]) 96 rfl Try.underlying27 infoCl rfl (by decide) (by omega) (.slice (some ⟨g,0,none⟩) (M+1) c3) out (⟨x.f0,x.f1,x.f2,x.f3,x.f4,mergeE n x.f5⟩:S49) [.int .i64 x.f0,.int .i64 x.f1,.string x.f2,.string x.f3,.slice A7 x.f4.length c7,.slice A9 (mergeE n x.f5).length c9] (fun k=>w.heap.size≤k) (fun k=>wr.heap.size+1≤k∧k≠w2.heap.size) rfl ?hx ?aP ?aK ?aF ?aO ?aB ?aS ?aL ?_;(case hx=>first|rfl|(go_simp;done)|(simp;done)|(go_simp;rfl));(case aP=>exact merged_M HM.out (blk_lt HXB.out) HSV.out HWS.out HB23.out HS.out);(case aK=>exact (fun k hk=>Nat.le_trans HWS.out (Nat.le_trans (Nat.le_succ _) hk.1)));(case aF=>exact (fun k hk=>Nat.le_trans HB3.out.size (by simpa [World.setCell] using hk)));(case aO=>exact merged_O HG.out HR3.out HR2.out.size);(case aB=>exact bs_ HB3.out HB2.out.size);(case aS=>exact (bs_ (j:=5) (v:=.slice A9 (mergeE n x.f5).length c9) HB3.out HB2.out.size).size);(case aL=>have h1:=HLL.out;have h2:=HLE.out;have h3:=HN.out;omega);intro v9 w9 ho hb _ _;obtain ⟨A10,c10,rfl⟩:=Kd.S_slice ho;(have HO9:=A_ ho);(have HB9:=A_ hb);clear ho hb))
       go_roundg (l0.length - (kk+1))
       case measure=>have:=HLT.out;omega
       case rel =>
        refine ⟨kk+1,out++[(⟨x.f0,x.f1,x.f2,x.f3,x.f4,mergeE n x.f5⟩:S49)],A10,c10,by have:=HLT.out;omega,by omega,?_,by go_num,⟨by rw [←HMS.out];exact HF2.out⟩,⟨by have h1:=HLL.out;have h2:=HLE.out;rw [List.length_append,List.length_singleton];omega⟩,⟨fun q hq=>?_⟩,HO9,HB9⟩
        ·first
         | rfl
         | simp
        ·rcases List.mem_append.1 hq with hq|hq
         ·exact HSH.out q hq
         ·obtain rfl:=List.mem_singleton.1 hq
          exact HX3.out
      case pos =>
       have z3:decide ((y.f3.size:Int)+(x.f3.size:Int)≤120)=true:=dt_ (by omega)
       have HMS:Aside0 (mergeS (mergeE n) out x=out.set M ⟨y.f0,y.f1,y.f2,y.f3++x.f3,y.f4,y.f5⟩):=⟨by rw [hms,hLL];exact if_pos ⟨by omega,k1,k2,k3⟩⟩
       have HK3:=A_ k3
       clear hms hlast hLL k1 k2 k3
       go_wp2_with fail
       have hw:=HW.out
       have hw3:=HW3.out
       go_quiet (fail)
       go_wp2_with fail
       have HC0:=A_ hc0
       have hcat2:(9223372036854775807<y.f3.size+x.f3.size)=False:=eq_false (Nat.not_lt.2 hc0)
       generalize (wr.alloc (.cells #[.int .i64 x.f0,.int .i64 x.f1,.string x.f2,.string x.f3,.slice A4 x.f4.length c4,.slice A5 x.f5.length c5] 49 (0,0)))=V1 at *
       refine wp_region_still_tail 11 (by kernel_rfl) (by kernel_rfl) ?_
       have hdr:({ V1.drewN nq with drawn:=(V1.drewN nq).drawn+1 } : World)=(V1.drewN nq).drew:=rfl
       rw [hdr]
       clear hdr
       simp only [List.take_succ_cons,List.take_zero,List.drop_succ_cons,List.drop_zero]
       repeat still_step
       try refine wpStill_nil ?_
       clear hw hw3
       go_wp2
       go_roundg (l0.length - (kk+1))
       case measure=>have:=HLT.out;omega
       case rel =>
        obtain ⟨_,_,_,_,_,_,⟨_,_,_,hw4⟩,_⟩:=nodeCells (xs0:=out) (Kd.S_below HG.out (pd_ BR1.out (nq+1))) (M:Int) (by omega) (by omega) (fun _=>rfl) y (by rw [rdN_getD];exact HY.out)
        have h5:=(hw4 (y.f3++x.f3)).1
        rw [Int.toNat_natCast] at h5
        have hlen:(out.set M ⟨y.f0,y.f1,y.f2,y.f3++x.f3,y.f4,y.f5⟩).length=M+1:=by rw [List.length_set];exact HLL.out
        refine ⟨kk+1,out.set M ⟨y.f0,y.f1,y.f2,y.f3++x.f3,y.f4,y.f5⟩,some ⟨g,0,none⟩,c3,by have:=HLT.out;omega,by omega,by rw [hlen],by go_num,⟨by rw [←HMS.out];exact HF2.out⟩,⟨by rw [hlen];have:=HLE.out;omega⟩,⟨fun q hq=>?_⟩,⟨by rw [hlen];exact h5⟩,⟨bs_ (pd_ BW1.out (nq+1)) HGB.out⟩⟩
        rcases List.mem_or_eq_of_mem_set hq with hq|rfl
        ·exact HSH.out q hq
        ·show (y.f3++x.f3).size≤1048576
         have:=HK3.out
         rw [ByteArray.size_append];omega
theorem merged_all:∀ n,mergedC n
 | 0=>merged_step 0 (fun m h=>absurd h (Nat.succ_ne_zero m))
 | n+1=>merged_step (n+1) (fun m h=>by obtain rfl:=Nat.succ.inj h;exact merged_all m)
end Go.Proofs.Ytlhhcbhmnmndiaa.PFnExactMergeText
