/- By a program of this session, out of the kit's print and contracts made by hand: the machine side of a law; Lean checks it. No conditions. -/
import Derived.Test.YtpfpbanadobfmaaPFnLinksx0
namespace Go.Proofs.Ytpfpbanadobfmaa.PFnLinks
open Go.RowKit Go.Proofs.YtpfpbanadobfmaaW.PrintWords Go.Proofs.YtpfpbanadobfmaaW.PrintLast Go.Proofs.YtpfpbanadobfmaaW.PrintMore
attribute [local go_sem] max2_int min2_int max_two min_two max_three min_three max_four min_four
set_option linter.unusedVariables false
set_option linter.unusedSimpArgs false
/-- A state of type 35 at block g of W; what its slices lead to came in by w0. -/
def IsS35 (w0 W:World) (g:Nat) (f0:List Int) (f1:Int) (f2:Int):Prop:=∃ A0 c0,W.heap[g]? = some (.cells #[.slice A0 f0.length c0,.int .i64 f1,.int .i64 f2] 35 (0,0))∧w0.heap.size≤g∧Kd.C (Kd.int .u8) w0 A0 f0.length f0
theorem IsS35.grown {w0 W:World} {g:Nat} {f0:List Int} {f1:Int} {f2:Int} {W1:World} {row:Option Nat} (h:IsS35 w0 W g f0 f1 f2) (hw:W.grownBy W1 row) (hne:some g≠row):IsS35 w0 W1 g f0 f1 f2:=by
 obtain ⟨A0,c0,hb,hg,hr0⟩:=h
 exact ⟨A0,c0,blk_grown hb hw hne,hg,hr0⟩
theorem IsS35.own_neN {w0 W:World} {g:Nat} {f0:List Int} {f1:Int} {f2:Int} {α : Type} {d:Kd α} {e:Nat} {base:Nat} {ok:Nat→Prop} {v:Value} {xs:List α} (h:IsS35 w0 W g f0 f1 f2) (ho:Kd.N d e W base ok v xs) (ht:e≠35):some g≠v.ownBlock:=by
 obtain ⟨A0,c0,hb,hg,hr0⟩:=h
 exact Kd.N_ne ho hb ht
theorem IsS35.fresh {w0 W:World} {g:Nat} {f0:List Int} {f1:Int} {f2:Int} (h:IsS35 w0 W g f0 f1 f2):∀ k,W.heap.size≤k→k≠g:=by
 obtain ⟨A0,c0,hb,hg,hr0⟩:=h
 exact Kd.freshB hb
theorem IsS35.kept {w0 W:World} {g:Nat} {f0:List Int} {f1:Int} {f2:Int} {W1:World} {S:Nat→Prop} (h:IsS35 w0 W g f0 f1 f2) (hk:Kept W W1 S) (hne:¬ S g):IsS35 w0 W1 g f0 f1 f2:=by
 obtain ⟨A0,c0,hb,hg,hr0⟩:=h
 exact ⟨A0,c0,blk_kept hb hk hne,hg,hr0⟩
theorem IsS35.below {w0 W:World} {g:Nat} {f0:List Int} {f1:Int} {f2:Int} {W1:World} (h:IsS35 w0 W g f0 f1 f2) (hw:Below W.heap.size W W1):IsS35 w0 W1 g f0 f1 f2:=h.grown (grown_of_below hw none) (by simp)
theorem IsS35.alloc {w0 W:World} {g:Nat} {f0:List Int} {f1:Int} {f2:Int} (h:IsS35 w0 W g f0 f1 f2) (o:Obj):IsS35 w0 (W.alloc o) g f0 f1 f2:=h.below (ba_ (Below.refl _ _) o)
theorem IsS35.drewN {w0 W:World} {g:Nat} {f0:List Int} {f1:Int} {f2:Int} (h:IsS35 w0 W g f0 f1 f2) (m:Nat):IsS35 w0 (W.drewN m) g f0 f1 f2:=h
theorem IsS35.drew {w0 W:World} {g:Nat} {f0:List Int} {f1:Int} {f2:Int} (h:IsS35 w0 W g f0 f1 f2):IsS35 w0 W.drew g f0 f1 f2:=h
theorem IsS35.at_ {w0 W:World} {g:Nat} {f0:List Int} {f1:Int} {f2:Int} {w':World} {m:Nat} (hq:W.drewN m=w') (h:IsS35 w0 W g f0 f1 f2):IsS35 w0 w' g f0 f1 f2:=by subst hq;exact IsS35.drewN h m
theorem IsS35.apart {w0 W:World} {g:Nat} {f0:List Int} {f1:Int} {f2:Int} {α : Type} {d:Kd α} {e:Nat} {base:Nat} {ok:Nat→Prop} {v:Value} {xs:List α} (h:IsS35 w0 W g f0 f1 f2) (ho:d.R e W base ok v xs) (ht:∀ q,q∈e :: d.E→q≠35):d.R e W base (fun k=>ok k∧k≠g) v xs:=by
 obtain ⟨A0,c0,hb,hg,hr0⟩:=h
 exact Kd.R_types ho hb ht
theorem IsS35.own_ne {w0 W:World} {g:Nat} {f0:List Int} {f1:Int} {f2:Int} {α : Type} {d:Kd α} {e:Nat} {base:Nat} {ok:Nat→Prop} {v:Value} {xs:List α} (h:IsS35 w0 W g f0 f1 f2) (ho:d.R e W base ok v xs) (ht:e≠35):some g≠v.ownBlock:=by
 obtain ⟨A0,c0,hb,hg,hr0⟩:=h
 exact Kd.R_ne ho hb ht
theorem IsS35.apartQ {w0 W:World} {g:Nat} {f0:List Int} {f1:Int} {f2:Int} {α : Type} {d:Kd α} {e:Nat} {base:Nat} {ok:Nat→Prop} {v:Value} {xs:List α} (h:IsS35 w0 W g f0 f1 f2) (ho:d.Q e W base ok v xs) (ht:∀ q,q∈e :: d.E→q≠35):d.Q e W base (fun k=>ok k∧k≠g) v xs:=by
 obtain ⟨A0,c0,hb,hg,hr0⟩:=h
 exact Kd.Q_types ho hb ht
theorem IsS35.own_neQ {w0 W:World} {g:Nat} {f0:List Int} {f1:Int} {f2:Int} {α : Type} {d:Kd α} {e:Nat} {base:Nat} {ok:Nat→Prop} {v:Value} {xs:List α} (h:IsS35 w0 W g f0 f1 f2) (ho:d.Q e W base ok v xs) (ht:e≠35):some g≠v.ownBlock:=by
 obtain ⟨A0,c0,hb,hg,hr0⟩:=h
 exact Kd.Q_ne ho hb ht
theorem IsS35.apartS {w0 W:World} {g:Nat} {f0:List Int} {f1:Int} {f2:Int} {α : Type} {d:Kd α} {e:Nat} {base:Nat} {ok:Nat→Prop} {v:Value} {xs:List α} (h:IsS35 w0 W g f0 f1 f2) (ho:d.S e W base ok v xs) (ht:∀ q,q∈e :: d.E→q≠35):d.S e W base (fun k=>ok k∧k≠g) v xs:=by
 obtain ⟨A0,c0,hb,hg,hr0⟩:=h
 exact Kd.S_types ho hb ht
theorem IsS35.own_neS {w0 W:World} {g:Nat} {f0:List Int} {f1:Int} {f2:Int} {α : Type} {d:Kd α} {e:Nat} {base:Nat} {ok:Nat→Prop} {v:Value} {xs:List α} (h:IsS35 w0 W g f0 f1 f2) (ho:d.S e W base ok v xs) (ht:e≠35):some g≠v.ownBlock:=by
 obtain ⟨A0,c0,hb,hg,hr0⟩:=h
 exact Kd.S_ne ho hb ht
theorem IsS35.lt {w0 W:World} {g:Nat} {f0:List Int} {f1:Int} {f2:Int} (h:IsS35 w0 W g f0 f1 f2):g<W.heap.size:=by
 obtain ⟨A0,c0,hb,hg,hr0⟩:=h
 exact blk_lt hb
theorem IsS35.ge {w0 W:World} {g:Nat} {f0:List Int} {f1:Int} {f2:Int} (h:IsS35 w0 W g f0 f1 f2):w0.heap.size≤g:=by
 obtain ⟨A0,c0,hb,hg,hr0⟩:=h
 exact hg
theorem IsS35.ne_blk {w0 W:World} {g:Nat} {f0:List Int} {f1:Int} {f2:Int} {a:Nat} {cs:Array Value} {t:TypeId} {fr:Nat × Nat} (h:IsS35 w0 W g f0 f1 f2) (hb2:W.heap[a]? = some (.cells cs t fr)) (ht:t≠35):g≠a:=by
 obtain ⟨A0,c0,hb,hg,hr0⟩:=h
 rintro rfl
 rw [hb] at hb2
 injection hb2 with hb2
 injection hb2 with _ ht2
 exact ht ht2.symm
theorem IsS35.far {w0 W:World} {g:Nat} {f0:List Int} {f1:Int} {f2:Int} {p:Addr} (h:IsS35 w0 W g f0 f1 f2) (hne:g≠p.block) (u:Value):IsS35 w0 (W.setCell p u) g f0 f1 f2:=by
 obtain ⟨A0,c0,hb,hg,hr0⟩:=h
 exact ⟨A0,c0,blk_far hb hne u,hg,hr0⟩
theorem cellS35_0 {W:World} {g:Nat} {A0:Option Addr} {c0:Nat} {f0:List Int} {f1:Int} {f2:Int} (h:W.heap[g]? = some (.cells #[.slice A0 f0.length c0,.int .i64 f1,.int .i64 f2] 35 (0,0))):W.cell? ⟨g,0,none⟩=some (.slice A0 f0.length c0):=(blk_cell h 0).trans rfl
theorem cellS35_1 {W:World} {g:Nat} {A0:Option Addr} {c0:Nat} {f0:List Int} {f1:Int} {f2:Int} (h:W.heap[g]? = some (.cells #[.slice A0 f0.length c0,.int .i64 f1,.int .i64 f2] 35 (0,0))):W.cell? ⟨g,1,none⟩=some (.int .i64 f1):=(blk_cell h 1).trans rfl
theorem IsS35.set_1 {w0 W:World} {g:Nat} {f0:List Int} {f1:Int} {f2:Int} (h:IsS35 w0 W g f0 f1 f2) (x:Int):IsS35 w0 (W.setCell ⟨g,1,none⟩ (.int .i64 x)) g f0 x f2:=by
 obtain ⟨A0,c0,hb,hg,hr0⟩:=h
 exact ⟨A0,c0,by simpa using blk_set hb 1 (.int .i64 x),hg,hr0⟩
theorem cellS35_2 {W:World} {g:Nat} {A0:Option Addr} {c0:Nat} {f0:List Int} {f1:Int} {f2:Int} (h:W.heap[g]? = some (.cells #[.slice A0 f0.length c0,.int .i64 f1,.int .i64 f2] 35 (0,0))):W.cell? ⟨g,2,none⟩=some (.int .i64 f2):=(blk_cell h 2).trans rfl
theorem IsS35.set_2 {w0 W:World} {g:Nat} {f0:List Int} {f1:Int} {f2:Int} (h:IsS35 w0 W g f0 f1 f2) (x:Int):IsS35 w0 (W.setCell ⟨g,2,none⟩ (.int .i64 x)) g f0 f1 x:=by
 obtain ⟨A0,c0,hb,hg,hr0⟩:=h
 exact ⟨A0,c0,by simpa using blk_set hb 2 (.int .i64 x),hg,hr0⟩
theorem IsS35.new (w0 W:World) (A0:Option Addr) (c0:Nat) (f0:List Int) (f1:Int) (f2:Int) (hB:Below w0.heap.size w0 W) (hr0:Kd.C (Kd.int .u8) w0 A0 f0.length f0):IsS35 w0 (W.alloc (.cells #[.slice A0 f0.length c0,.int .i64 f1,.int .i64 f2] 35)) W.heap.size f0 f1 f2:=⟨A0,c0,by simpa using heap_alloc_new W _,hB.size,hr0⟩
/-! ### spec_l00Source: function 8 -/
def spec_l00Source.f (l0:List Int):Option (List Int × Int × Int):=some (l0,0,(l0.length:Int) % 1000)
set_option maxHeartbeats 8000000 in
set_option maxRecDepth 100000 in
theorem spec_l00Source.calls (A0:Option Addr) (c0:Nat) (l0:List Int) (r1:List Int) (r2:Int) (r3:Int) (w0 w:World) (hB:Below w0.heap.size w0 w) (hr0:Kd.C (Kd.int .u8) w0 A0 l0.length l0) (hc0:l0.length≤c0) (h:spec_l00Source.f l0=some (r1,r2,r3)) :
 Calls Try.prog 8 #[.slice A0 l0.length c0] w fun e w'=>∃ g_:Nat,e=.returned (.pointer (some ⟨g_,0,none⟩))∧IsS35 w0 w' g_ r1 r2 r3∧Below w0.heap.size w0 w'∧Below w.heap.size w w':=by
 have hu35:=Try.underlying35
 have HR0:=A_ hr0
 have HC0:=A_ hc0
 clear hr0 hc0
 have HBW:=A_ (Below.refl w.heap.size w)
 have HW0:=A_ hB.size
 have HB:=A_ hB
 clear hB
 have H:(some (l0,0,(l0.length:Int) % 1000))=some (r1,r2,r3):=h
 clear h
 simp only [Option.some.injEq,Prod.mk.injEq] at H
 obtain ⟨rfl,rfl,rfl⟩:=H
 go_enter Try.func8,Try.ntmps8
 go_wp2_with (first|((with_reducible refine gate_dst (N:=8) rfl ?_);refine box_event ?hg (N:=8) ?hd (cs:=#[.slice A0 l0.length c0,.int .i64 0,.int .i64 ((l0.length:Int) % 1000)]) (t:=35) ?hr ?_;(case hd=>rfl);(case hg=>rfl);(case hr=>first|(go_simp;done)|(go_simp;rfl));intro gb101 hg w2 hbox hb;have n0_:=A_ (bp_ HBW.out hb);have n1_:=A_ (bp_ (by repeat (first|(with_reducible first|exact HB.out|apply ba_|apply pd_|apply b1_)|exact HB.out)) hb);have n2_:=A_ (hbox);have n3_:=A_ ((by rw [hg];exact (bz_ (by repeat (first|(with_reducible first|exact HBW.out|apply ba_|apply pd_|apply b1_)|exact HBW.out))):w.heap.size≤gb101));have n4_:=A_ ((Nat.le_trans HW0.out (by rw [hg];exact (bz_ (by repeat (first|(with_reducible first|exact HBW.out|apply ba_|apply pd_|apply b1_)|exact HBW.out))):w.heap.size≤gb101):w0.heap.size≤gb101));clear HBW;clear HB;have HBW:=n0_;have HB:=n1_;have BK101:=n2_;have GW101:=n3_;have GE101:=n4_;clear n0_ n1_ n2_ n3_ n4_;clear hb hbox hg))
 go_ret
 exact ⟨_,rfl,(show IsS35 w0 _ gb101 l0 0 ((l0.length:Int) % 1000) from ⟨_,_,by (with_reducible repeat (first|refine blk_drewN ?_ _|refine blk_drew ?_|refine blk_alloc ?_ _));exact BK101.out,GE101.out,HR0.out⟩),by repeat (first|(with_reducible first|exact HB.out|apply ba_|apply pd_|apply b1_|refine bs_ ?_ GE101.out)|exact HB.out),by repeat (first|(with_reducible first|exact HBW.out|apply ba_|apply pd_|apply b1_|refine bs_ ?_ GW101.out)|exact HBW.out)⟩
/-! ### spec_l00Src_byte: function 20, by hand -/
/-- The next byte of a source, where it stands then, and its seed; asked at places and seeds that are no negative numbers and not too large. -/
def spec_l00Src_byte.f (l:List Int) (a sd:Int):Option (Int × Int × Int) :=
 if 0≤a∧a<4611686018427387904∧0≤sd∧sd<2147483648 then
  (if a<(l.length:Int) then (if 0≤rd l a∧rd l a≤255 then some (rd l a,a+1,(sd * 31+rd l a+7) % 2147483648) else none)
  else (if a+1>3000 then some (0,a+1,sd) else some ((sd * 1103515245+12345) % 2147483648 / 65536 % 256,a+1,(sd * 1103515245+12345) % 2147483648)))
 else none
set_option maxRecDepth 100000 in
set_option maxHeartbeats 4000000 in
theorem spec_l00Src_byte.calls (g:Nat) (s0_0:List Int) (s0_1:Int) (s0_2:Int) (r1:Int) (r2:Int) (r3:Int) (w0 w:World) (hI:IsS35 w0 w g s0_0 s0_1 s0_2) (hB:Below w0.heap.size w0 w) (h:spec_l00Src_byte.f s0_0 s0_1 s0_2=some (r1,r2,r3)) :
 Calls Try.prog 20 #[.pointer (some ⟨g,0,none⟩)] w fun e w'=>e=.returned (.int .i64 r1)∧IsS35 w0 w' g s0_0 r2 r3∧Below w0.heap.size w0 w'∧KeepBut w w' g none:=by
 have HI:=A_ hI
 have HB:=A_ hB
 obtain ⟨A0,c0,hb,hg,hr⟩:=hI
 clear hB
 have x0:=cellS35_0 hb
 have x1:=cellS35_1 hb
 have x2:=cellS35_2 hb
 have f1:=blk_frozen hb 1
 unfold spec_l00Src_byte.f at h
 obtain ⟨cc,h1⟩:=Option.ite_none_right_eq_some.mp h
 clear h
 obtain ⟨a0,a1,d0,d1⟩:=cc
 by_cases c1:s0_1<(s0_0.length:Int)
 ·rw [if_pos c1] at h1
  obtain ⟨cc,h2⟩:=Option.ite_none_right_eq_some.mp h1
  clear h1
  obtain ⟨b0,b1⟩:=cc
  simp only [Option.some.injEq,Prod.mk.injEq] at h2
  obtain ⟨rfl,rfl,rfl⟩:=h2
  clear hr
  have hI1:=A_ (IsS35.set_1 HI.out (s0_1+1))
  have HB1:=A_ (HB.out.setCell (p:=⟨g,1,none⟩) hg (.int .i64 (s0_1+1)))
  have HK1:=A_ (KeepBut.set_ (KeepBut.refl w g none) 1 (.int .i64 (s0_1+1)))
  go_enter Try.func20,Try.ntmps20
  go_wp2
  generalize w.setCell ⟨g,1,none⟩ (.int .i64 (s0_1+1))=W1 at *
  clear x0 x1 x2 f1 hb
  obtain ⟨A1,c1',hb,-,hr⟩:=hI1.out
  have y0:=cellS35_0 hb
  have y1:=cellS35_1 hb
  have y2:=cellS35_2 hb
  have f2:=blk_frozen hb 2
  obtain ⟨ad,e,l1⟩:=Kd.at_int hr s0_1 a0 c1
  cases e
  replace l1:=pw_cell_below HB1.out l1
  clear hr
  have c3:decide (s0_1+1≤(s0_0.length:Int))=true:=dt_ (by omega)
  go_quiet (fail)
  go_wp2
  refine wp_region_still_tail 23 (by kernel_rfl) (by kernel_rfl) ?_
  have hdr:({ W1.drewN nq with drawn:=(W1.drewN nq).drawn+1 } : World)=(W1.drewN nq).drew:=rfl
  rw [hdr]
  clear hdr
  have e1:IntKind.i64.wrap s0_1=s0_1:=by rw [IntKind.wrap_i64];omega
  have e2:IntKind.i64.wrap (s0_2 * 31)=s0_2 * 31:=by rw [IntKind.wrap_i64];omega
  have e3:IntKind.i64.wrap (rd s0_0 s0_1)=rd s0_0 s0_1:=by rw [IntKind.wrap_i64];omega
  have e4:IntKind.i64.wrap (s0_2 * 31+rd s0_0 s0_1)=s0_2 * 31+rd s0_0 s0_1:=by rw [IntKind.wrap_i64];omega
  have e5:IntKind.i64.wrap (s0_2 * 31+rd s0_0 s0_1+7)=s0_2 * 31+rd s0_0 s0_1+7:=by rw [IntKind.wrap_i64];omega
  have e6:(s0_2 * 31+rd s0_0 s0_1+7).tmod 2147483648=(s0_2 * 31+rd s0_0 s0_1+7) % 2147483648:=Int.tmod_eq_emod_of_nonneg (by omega)
  have e7:IntKind.i64.wrap ((s0_2 * 31+rd s0_0 s0_1+7) % 2147483648)=(s0_2 * 31+rd s0_0 s0_1+7) % 2147483648:=by rw [IntKind.wrap_i64];omega
  simp only [List.take_succ_cons,List.take_zero,List.drop_succ_cons,List.drop_zero]
  repeat still_step
  try refine wpStill_nil ?_
  clear e1 e2 e3 e4 e5 e6 e7
  have hI2:=A_ (IsS35.set_2 (IsS35.drewN hI1.out (nq+1)) ((s0_2 * 31+rd s0_0 s0_1+7) % 2147483648))
  have HB2:=A_ ((pd_ HB1.out (nq+1)).setCell (p:=⟨g,2,none⟩) hg (.int .i64 ((s0_2 * 31+rd s0_0 s0_1+7) % 2147483648)))
  have HK2:=A_ (KeepBut.set_ (keep_drewN HK1.out (nq+1)) 2 (.int .i64 ((s0_2 * 31+rd s0_0 s0_1+7) % 2147483648)))
  go_wp2
  generalize (W1.drewN (nq+1)).setCell ⟨g,2,none⟩ (.int .i64 ((s0_2 * 31+rd s0_0 s0_1+7) % 2147483648))=W2 at *
  clear y0 y1 y2 f2 l1 hb hI1 HB1 HK1
  obtain ⟨A2,c2',hb,-,hr⟩:=hI2.out
  have y0:=cellS35_0 hb
  have y1:=cellS35_1 hb
  have y2:=cellS35_2 hb
  obtain ⟨ad2,e,l1⟩:=Kd.at_int hr s0_1 a0 c1
  cases e
  replace l1:=pw_cell_below HB2.out l1
  clear hr
  have e1:IntKind.i64.wrap s0_1=s0_1:=by rw [IntKind.wrap_i64];omega
  have e3:IntKind.i64.wrap (rd s0_0 s0_1)=rd s0_0 s0_1:=by rw [IntKind.wrap_i64];omega
  go_quiet (fail)
  clear e1 e3
  go_wp2
  go_ret
  exact ⟨rfl,IsS35.drewN hI2.out _,pd_ HB2.out _,keep_drewN HK2.out _⟩
 ·rw [if_neg c1] at h1
  clear hr
  have hI1:=A_ (IsS35.set_1 HI.out (s0_1+1))
  have HB1:=A_ (HB.out.setCell (p:=⟨g,1,none⟩) hg (.int .i64 (s0_1+1)))
  have HK1:=A_ (KeepBut.set_ (KeepBut.refl w g none) 1 (.int .i64 (s0_1+1)))
  by_cases c2:s0_1+1>3000
  ·rw [if_pos c2] at h1
   simp only [Option.some.injEq,Prod.mk.injEq] at h1
   obtain ⟨rfl,rfl,rfl⟩:=h1
   go_enter Try.func20,Try.ntmps20
   go_wp2
   generalize w.setCell ⟨g,1,none⟩ (.int .i64 (s0_1+1))=W1 at *
   clear x0 x1 x2 f1 hb
   obtain ⟨A1,c1',hb,-,hr⟩:=hI1.out
   have y0:=cellS35_0 hb
   have y1:=cellS35_1 hb
   clear hr
   have c3:decide (s0_1+1≤(s0_0.length:Int))=false:=df_ (by omega)
   have c4:decide (s0_1+1>3000)=true:=dt_ c2
   go_quiet (fail)
   go_wp2
   go_ret
   exact ⟨rfl,IsS35.drewN hI1.out _,pd_ HB1.out _,keep_drewN HK1.out _⟩
  ·rw [if_neg c2] at h1
   simp only [Option.some.injEq,Prod.mk.injEq] at h1
   obtain ⟨rfl,rfl,rfl⟩:=h1
   go_enter Try.func20,Try.ntmps20
   go_wp2
   generalize w.setCell ⟨g,1,none⟩ (.int .i64 (s0_1+1))=W1 at *
   clear x0 x1 x2 f1 hb
   obtain ⟨A1,c1',hb,-,hr⟩:=hI1.out
   have y0:=cellS35_0 hb
   have y1:=cellS35_1 hb
   have y2:=cellS35_2 hb
   have f2:=blk_frozen hb 2
   clear hr
   have c3:decide (s0_1+1≤(s0_0.length:Int))=false:=df_ (by omega)
   have c4:decide (s0_1+1>3000)=false:=df_ (by omega)
   go_quiet (fail)
   have b3:0≤s0_2 * 1103515245+12345:=by omega
   have hI2:=A_ (IsS35.set_2 (IsS35.drewN hI1.out nq) ((s0_2 * 1103515245+12345) % 2147483648))
   have HB2:=A_ ((pd_ HB1.out nq).setCell (p:=⟨g,2,none⟩) hg (.int .i64 ((s0_2 * 1103515245+12345) % 2147483648)))
   have HK2:=A_ (KeepBut.set_ (keep_drewN HK1.out nq) 2 (.int .i64 ((s0_2 * 1103515245+12345) % 2147483648)))
   go_wp2
   go_ret
   exact ⟨rfl,hI2.out,HB2.out,HK2.out⟩
/-! ### spec_l00Src_next: function 18 -/
def spec_l00Src_next.f (s0_0:List Int) (s0_1:Int) (s0_2:Int) (a1:Int):Option (Int × Int × Int):=if a1≤1 then (some (0,s0_1,s0_2)) else (if a1≤256 then ((spec_l00Src_byte.f s0_0 s0_1 s0_2).bind fun bt102=>(if a1=0 then (none) else (some (Int.tmod bt102.1 a1,bt102.2.1,bt102.2.2)))) else ((spec_l00Src_byte.f s0_0 s0_1 s0_2).bind fun bt105=>((spec_l00Src_byte.f s0_0 bt105.2.1 bt105.2.2).bind fun bt108=>((spec_l00Src_byte.f s0_0 bt108.2.1 bt108.2.2).bind fun bt111=>(if a1=0 then (none) else (some (Int.tmod (wrap64 ((wrap64 ((wrap64 (bt105.1 * 65536))+(wrap64 (bt108.1 * 256))))+bt111.1)) a1,bt111.2.1,bt111.2.2)))))))
set_option maxHeartbeats 8000000 in
set_option maxRecDepth 100000 in
theorem spec_l00Src_next.calls (g:Nat) (s0_0:List Int) (s0_1:Int) (s0_2:Int) (a1:Int) (r1:Int) (r2:Int) (r3:Int) (w0 w:World) (hI:IsS35 w0 w g s0_0 s0_1 s0_2) (hB:Below w0.heap.size w0 w) (h:spec_l00Src_next.f s0_0 s0_1 s0_2 a1=some (r1,r2,r3)) :
 Calls Try.prog 18 #[.pointer (some ⟨g,0,none⟩),.int .i64 a1] w fun e w'=>e=.returned (.int .i64 r1)∧IsS35 w0 w' g s0_0 r2 r3∧Below w0.heap.size w0 w'∧KeepBut w w' g none:=by
 have HI0:=A_ hI
 have HK:=A_ (KeepBut.refl w g none)
 have HL:=A_ hB.size
 clear hI
 have HW0:=A_ hB.size
 have HB:=A_ hB
 clear hB
 have H:(if a1≤1 then (some (0,s0_1,s0_2)) else (if a1≤256 then ((spec_l00Src_byte.f s0_0 s0_1 s0_2).bind fun bt102=>(if a1=0 then (none) else (some (Int.tmod bt102.1 a1,bt102.2.1,bt102.2.2)))) else ((spec_l00Src_byte.f s0_0 s0_1 s0_2).bind fun bt105=>((spec_l00Src_byte.f s0_0 bt105.2.1 bt105.2.2).bind fun bt108=>((spec_l00Src_byte.f s0_0 bt108.2.1 bt108.2.2).bind fun bt111=>(if a1=0 then (none) else (some (Int.tmod (wrap64 ((wrap64 ((wrap64 (bt105.1 * 65536))+(wrap64 (bt108.1 * 256))))+bt111.1)) a1,bt111.2.1,bt111.2.2))))))))=some (r1,r2,r3):=h
 clear h
 by_cases c3:a1≤1
 ·rw [if_pos c3] at H
  have c3b0:decide (a1≤1)=true:=dt_ c3
  clear c3
  simp only [Option.some.injEq,Prod.mk.injEq] at H
  obtain ⟨rfl,rfl,rfl⟩:=H
  go_enter Try.func18,Try.ntmps18
  go_wp2
  go_ret
  exact ⟨by first|rfl|(simp [errW_none,errW_some] <;> rfl)|(simp [*,errW_none,errW_some] <;> rfl),by repeat (first|(with_reducible first|exact HI0.out|apply IsS35.alloc|apply IsS35.drewN|apply IsS35.drew|apply IsS35.set_1|apply IsS35.set_2)|exact HI0.out),by repeat (first|(with_reducible first|exact HB.out|apply ba_|apply pd_|apply b1_|refine bs_ ?_ (IsS35.ge HI0.out))|exact HB.out),by repeat (first|(with_reducible first|exact HK.out|apply KeepBut.set_|apply keep_drewN|apply keep_drew|apply keep_alloc)|exact HK.out)⟩
 ·rw [if_neg c3] at H
  have c3b0:decide (a1≤1)=false:=df_ c3
  clear c3
  by_cases c4:a1≤256
  ·rw [if_pos c4] at H
   have c4b0:decide (a1≤256)=true:=dt_ c4
   clear c4
   replace H:=ob_ H
   obtain ⟨⟨t102,t103,t104⟩,A50,H⟩:=H
   replace H:(if a1=0 then (none) else (some (Int.tmod t102 a1,t103,t104)))=some (r1,r2,r3):=H
   have A5:=A_ A50
   clear A50
   by_cases c6:a1=0
   ·rw [if_pos c6] at H
    exact absurd H (by simp)
   ·rw [if_neg c6] at H
    have c6b0:(a1 == 0)=false:=beq_eq_false_iff_ne.mpr c6
    have c6b1:(a1 != 0)=true:=bne_iff_ne.mpr c6
    simp only [Option.some.injEq,Prod.mk.injEq] at H
    obtain ⟨rfl,rfl,rfl⟩:=H
    go_enter Try.func18,Try.ntmps18
    go_wp2_with (first|((with_reducible refine gate_callee (f:=20) rfl ?_);refine goesL_ (some 13) rfl rfl Try.func20 (by kernel_rfl) rfl #[.pointer (some ⟨g,0,none⟩)] rfl (by (try simp only [List.map_toArray,List.map_cons,List.map_nil]);first|done|rfl|(simp only [ld_,lt_];rfl)) ?_;(with_reducible refine (spec_l00Src_byte.calls g s0_0 s0_1 s0_2 t102 t103 t104 w0 _ ?side1 ?side2 A5.out).mono ?_);(case side1=>repeat (first|(with_reducible first|exact HI0.out|apply IsS35.alloc|apply IsS35.drewN|apply IsS35.drew|apply IsS35.set_1|apply IsS35.set_2)|exact HI0.out));(case side2=>repeat (first|(with_reducible first|exact HB.out|apply ba_|apply pd_|apply b1_|refine bs_ ?_ (IsS35.ge HI0.out))|exact HB.out));rintro e w7 ⟨rfl,hi,hb,hk⟩;refine ⟨_,rfl,?_⟩;have n0_:=A_ (KeepBut.trans (by repeat (first|(with_reducible first|exact HK.out|apply KeepBut.set_|apply keep_drewN|apply keep_drew|apply keep_alloc)|exact HK.out)) hk (.inl rfl));have n1_:=A_ (hb);have n2_:=A_ (hi);clear HK;clear HB;clear HI0;have HK:=n0_;have HB:=n1_;have HI0:=n2_;clear n0_ n1_ n2_;(try clear hb);(try clear hb2);(try clear hk);(try clear hi)))
    go_ret
    exact ⟨by first|rfl|(simp [errW_none,errW_some] <;> rfl)|(simp [*,errW_none,errW_some] <;> rfl),by repeat (first|(with_reducible first|exact HI0.out|apply IsS35.alloc|apply IsS35.drewN|apply IsS35.drew|apply IsS35.set_1|apply IsS35.set_2)|exact HI0.out),by repeat (first|(with_reducible first|exact HB.out|apply ba_|apply pd_|apply b1_|refine bs_ ?_ (IsS35.ge HI0.out))|exact HB.out),by repeat (first|(with_reducible first|exact HK.out|apply KeepBut.set_|apply keep_drewN|apply keep_drew|apply keep_alloc)|exact HK.out)⟩
  ·rw [if_neg c4] at H
   have c4b0:decide (a1≤256)=false:=df_ c4
   clear c4
   replace H:=ob_ H
   obtain ⟨⟨t105,t106,t107⟩,A80,H⟩:=H
   replace H:((spec_l00Src_byte.f s0_0 t106 t107).bind fun bt108=>((spec_l00Src_byte.f s0_0 bt108.2.1 bt108.2.2).bind fun bt111=>(if a1=0 then (none) else (some (Int.tmod (wrap64 ((wrap64 ((wrap64 (t105 * 65536))+(wrap64 (bt108.1 * 256))))+bt111.1)) a1,bt111.2.1,bt111.2.2)))))=some (r1,r2,r3):=H
   have A8:=A_ A80
   clear A80
   replace H:=ob_ H
   obtain ⟨⟨t108,t109,t110⟩,A90,H⟩:=H
   replace H:((spec_l00Src_byte.f s0_0 t109 t110).bind fun bt111=>(if a1=0 then (none) else (some (Int.tmod (wrap64 ((wrap64 ((wrap64 (t105 * 65536))+(wrap64 (t108 * 256))))+bt111.1)) a1,bt111.2.1,bt111.2.2))))=some (r1,r2,r3):=H
   have A9:=A_ A90
   clear A90
   replace H:=ob_ H
   obtain ⟨⟨t111,t112,t113⟩,A100,H⟩:=H
   replace H:(if a1=0 then (none) else (some (Int.tmod (wrap64 ((wrap64 ((wrap64 (t105 * 65536))+(wrap64 (t108 * 256))))+t111)) a1,t112,t113)))=some (r1,r2,r3):=H
   have A10:=A_ A100
   clear A100
   by_cases c11:a1=0
   ·rw [if_pos c11] at H
    exact absurd H (by simp)
   ·rw [if_neg c11] at H
    have c11b0:(a1 == 0)=false:=beq_eq_false_iff_ne.mpr c11
    have c11b1:(a1 != 0)=true:=bne_iff_ne.mpr c11
    simp only [Option.some.injEq,Prod.mk.injEq] at H
    obtain ⟨rfl,rfl,rfl⟩:=H
    go_enter Try.func18,Try.ntmps18
    go_wp2_with (first|((with_reducible refine gate_callee (f:=20) rfl ?_);refine goesL_ (some 17) rfl rfl Try.func20 (by kernel_rfl) rfl #[.pointer (some ⟨g,0,none⟩)] rfl (by (try simp only [List.map_toArray,List.map_cons,List.map_nil]);first|done|rfl|(simp only [ld_,lt_];rfl)) ?_;(with_reducible refine (spec_l00Src_byte.calls g s0_0 s0_1 s0_2 t105 t106 t107 w0 _ ?side1 ?side2 A8.out).mono ?_);(case side1=>repeat (first|(with_reducible first|exact HI0.out|apply IsS35.alloc|apply IsS35.drewN|apply IsS35.drew|apply IsS35.set_1|apply IsS35.set_2)|exact HI0.out));(case side2=>repeat (first|(with_reducible first|exact HB.out|apply ba_|apply pd_|apply b1_|refine bs_ ?_ (IsS35.ge HI0.out))|exact HB.out));rintro e w12 ⟨rfl,hi,hb,hk⟩;refine ⟨_,rfl,?_⟩;have n0_:=A_ (KeepBut.trans (by repeat (first|(with_reducible first|exact HK.out|apply KeepBut.set_|apply keep_drewN|apply keep_drew|apply keep_alloc)|exact HK.out)) hk (.inl rfl));have n1_:=A_ (hb);have n2_:=A_ (hi);clear HK;clear HB;clear HI0;have HK:=n0_;have HB:=n1_;have HI0:=n2_;clear n0_ n1_ n2_;(try clear hb);(try clear hb2);(try clear hk);(try clear hi))|((with_reducible refine gate_callee (f:=20) rfl ?_);refine goesL_ (some 19) rfl rfl Try.func20 (by kernel_rfl) rfl #[.pointer (some ⟨g,0,none⟩)] rfl (by (try simp only [List.map_toArray,List.map_cons,List.map_nil]);first|done|rfl|(simp only [ld_,lt_];rfl)) ?_;(with_reducible refine (spec_l00Src_byte.calls g s0_0 t106 t107 t108 t109 t110 w0 _ ?side1 ?side2 A9.out).mono ?_);(case side1=>repeat (first|(with_reducible first|exact HI0.out|apply IsS35.alloc|apply IsS35.drewN|apply IsS35.drew|apply IsS35.set_1|apply IsS35.set_2)|exact HI0.out));(case side2=>repeat (first|(with_reducible first|exact HB.out|apply ba_|apply pd_|apply b1_|refine bs_ ?_ (IsS35.ge HI0.out))|exact HB.out));rintro e w13 ⟨rfl,hi,hb,hk⟩;refine ⟨_,rfl,?_⟩;have n0_:=A_ (KeepBut.trans (by repeat (first|(with_reducible first|exact HK.out|apply KeepBut.set_|apply keep_drewN|apply keep_drew|apply keep_alloc)|exact HK.out)) hk (.inl rfl));have n1_:=A_ (hb);have n2_:=A_ (hi);clear HK;clear HB;clear HI0;have HK:=n0_;have HB:=n1_;have HI0:=n2_;clear n0_ n1_ n2_;(try clear hb);(try clear hb2);(try clear hk);(try clear hi))|((with_reducible refine gate_callee (f:=20) rfl ?_);refine goesL_ (some 21) rfl rfl Try.func20 (by kernel_rfl) rfl #[.pointer (some ⟨g,0,none⟩)] rfl (by (try simp only [List.map_toArray,List.map_cons,List.map_nil]);first|done|rfl|(simp only [ld_,lt_];rfl)) ?_;(with_reducible refine (spec_l00Src_byte.calls g s0_0 t109 t110 t111 t112 t113 w0 _ ?side1 ?side2 A10.out).mono ?_);(case side1=>repeat (first|(with_reducible first|exact HI0.out|apply IsS35.alloc|apply IsS35.drewN|apply IsS35.drew|apply IsS35.set_1|apply IsS35.set_2)|exact HI0.out));(case side2=>repeat (first|(with_reducible first|exact HB.out|apply ba_|apply pd_|apply b1_|refine bs_ ?_ (IsS35.ge HI0.out))|exact HB.out));rintro e w14 ⟨rfl,hi,hb,hk⟩;refine ⟨_,rfl,?_⟩;have n0_:=A_ (KeepBut.trans (by repeat (first|(with_reducible first|exact HK.out|apply KeepBut.set_|apply keep_drewN|apply keep_drew|apply keep_alloc)|exact HK.out)) hk (.inl rfl));have n1_:=A_ (hb);have n2_:=A_ (hi);clear HK;clear HB;clear HI0;have HK:=n0_;have HB:=n1_;have HI0:=n2_;clear n0_ n1_ n2_;(try clear hb);(try clear hb2);(try clear hk);(try clear hi)))
    go_ret
    exact ⟨by first|rfl|(simp [errW_none,errW_some] <;> rfl)|(simp [*,errW_none,errW_some] <;> rfl),by repeat (first|(with_reducible first|exact HI0.out|apply IsS35.alloc|apply IsS35.drewN|apply IsS35.drew|apply IsS35.set_1|apply IsS35.set_2)|exact HI0.out),by repeat (first|(with_reducible first|exact HB.out|apply ba_|apply pd_|apply b1_|refine bs_ ?_ (IsS35.ge HI0.out))|exact HB.out),by repeat (first|(with_reducible first|exact HK.out|apply KeepBut.set_|apply keep_drewN|apply keep_drew|apply keep_alloc)|exact HK.out)⟩
/-! ### spec_l00Src_pick: function 14 -/
def spec_l00Src_pick.f (s0_0:List Int) (s0_1:Int) (s0_2:Int) (l1:List ByteArray):Option (ByteArray × Int × Int):=if (l1.length:Int)=0 then (some ((⟨#[]⟩:ByteArray),s0_1,s0_2)) else ((spec_l00Src_next.f s0_0 s0_1 s0_2 (l1.length:Int)).bind fun bt114=>(if 0≤bt114.1 then (if bt114.1<(l1.length:Int) then (some (rdOf ByteArray.empty l1 bt114.1,bt114.2.1,bt114.2.2)) else (none)) else (none)))
set_option maxHeartbeats 8000000 in
set_option maxRecDepth 100000 in
theorem spec_l00Src_pick.calls (g:Nat) (s0_0:List Int) (s0_1:Int) (s0_2:Int) (A1:Option Addr) (c1:Nat) (l1:List ByteArray) (r1:ByteArray) (r2:Int) (r3:Int) (w0 w:World) (hI:IsS35 w0 w g s0_0 s0_1 s0_2) (hB:Below w0.heap.size w0 w) (hr1:Kd.C Kd.string w A1 l1.length l1) (hc1:l1.length≤c1) (hf1:∀ ad,A1=some ad→0<l1.length→ad.block≠g) (h:spec_l00Src_pick.f s0_0 s0_1 s0_2 l1=some (r1,r2,r3)) :
 Calls Try.prog 14 #[.pointer (some ⟨g,0,none⟩),.slice A1 l1.length c1] w fun e w'=>e=.returned (.string r1)∧IsS35 w0 w' g s0_0 r2 r3∧Below w0.heap.size w0 w'∧KeepBut w w' g none:=by
 have HR1:=A_ hr1
 have HC1:=A_ hc1
 clear hr1 hc1
 have HI0:=A_ hI
 have HK:=A_ (KeepBut.refl w g none)
 have HL:=A_ hB.size
 clear hI
 have HW0:=A_ hB.size
 have HB:=A_ hB
 clear hB
 have H:(if (l1.length:Int)=0 then (some ((⟨#[]⟩:ByteArray),s0_1,s0_2)) else ((spec_l00Src_next.f s0_0 s0_1 s0_2 (l1.length:Int)).bind fun bt114=>(if 0≤bt114.1 then (if bt114.1<(l1.length:Int) then (some (rdOf ByteArray.empty l1 bt114.1,bt114.2.1,bt114.2.2)) else (none)) else (none))))=some (r1,r2,r3):=h
 clear h
 by_cases c3:(l1.length:Int)=0
 ·rw [if_pos c3] at H
  have c3b0:((l1.length:Int) == 0)=true:=beq_iff_eq.mpr c3
  have c3b1:((l1.length:Int) != 0)=false:=bne_eq_false_iff_eq.mpr c3
  clear c3
  simp only [Option.some.injEq,Prod.mk.injEq] at H
  obtain ⟨rfl,rfl,rfl⟩:=H
  go_enter Try.func14,Try.ntmps14
  go_wp2
  go_ret
  exact ⟨by first|rfl|(simp [errW_none,errW_some] <;> rfl)|(simp [*,errW_none,errW_some] <;> rfl),by repeat (first|(with_reducible first|exact HI0.out|apply IsS35.alloc|apply IsS35.drewN|apply IsS35.drew|apply IsS35.set_1|apply IsS35.set_2)|exact HI0.out),by repeat (first|(with_reducible first|exact HB.out|apply ba_|apply pd_|apply b1_|refine bs_ ?_ (IsS35.ge HI0.out))|exact HB.out),by repeat (first|(with_reducible first|exact HK.out|apply KeepBut.set_|apply keep_drewN|apply keep_drew|apply keep_alloc)|exact HK.out)⟩
 ·rw [if_neg c3] at H
  have c3b0:((l1.length:Int) == 0)=false:=beq_eq_false_iff_ne.mpr c3
  have c3b1:((l1.length:Int) != 0)=true:=bne_iff_ne.mpr c3
  have c3b2:¬ (l1=[]):=fun h_=>c3 (by rw [h_];rfl)
  replace H:=ob_ H
  obtain ⟨⟨t114,t115,t116⟩,A40,H⟩:=H
  replace H:(if 0≤t114 then (if t114<(l1.length:Int) then (some (rdOf ByteArray.empty l1 t114,t115,t116)) else (none)) else (none))=some (r1,r2,r3):=H
  have A4:=A_ A40
  clear A40
  by_cases c5:0≤t114
  ·rw [if_pos c5] at H
   have c5b0:decide (0≤t114)=true:=dt_ c5
   clear c5
   by_cases c6:t114<(l1.length:Int)
   ·rw [if_pos c6] at H
    have c6b0:decide (t114<(l1.length:Int))=true:=dt_ c6
    clear c6
    simp only [Option.some.injEq,Prod.mk.injEq] at H
    obtain ⟨rfl,rfl,rfl⟩:=H
    go_enter Try.func14,Try.ntmps14
    go_wp2_with (first|((with_reducible refine gate_callee (f:=18) rfl ?_);refine goesL_ (some 12) rfl rfl Try.func18 (by kernel_rfl) rfl #[.pointer (some ⟨g,0,none⟩),.int .i64 (l1.length:Int)] rfl (by (try simp only [List.map_toArray,List.map_cons,List.map_nil]);first|done|rfl|(simp only [ld_,lt_];rfl)) ?_;(with_reducible refine (spec_l00Src_next.calls g s0_0 s0_1 s0_2 (l1.length:Int) t114 t115 t116 w0 _ ?side1 ?side2 A4.out).mono ?_);(case side1=>repeat (first|(with_reducible first|exact HI0.out|apply IsS35.alloc|apply IsS35.drewN|apply IsS35.drew|apply IsS35.set_1|apply IsS35.set_2)|exact HI0.out));(case side2=>repeat (first|(with_reducible first|exact HB.out|apply ba_|apply pd_|apply b1_|refine bs_ ?_ (IsS35.ge HI0.out))|exact HB.out));rintro e w7 ⟨rfl,hi,hb,hk⟩;refine ⟨_,rfl,?_⟩;have n0_:=A_ (KeepBut.trans (by repeat (first|(with_reducible first|exact HK.out|apply KeepBut.set_|apply keep_drewN|apply keep_drew|apply keep_alloc)|exact HK.out)) hk (.inl rfl));have n1_:=A_ (hb);have n2_:=A_ (hi);clear HK;clear HB;clear HI0;have HK:=n0_;have HB:=n1_;have HI0:=n2_;clear n0_ n1_ n2_;(try clear hb);(try clear hb2);(try clear hk);(try clear hi);have p117:0≤(t114:Int):=od_ (by first|(with_reducible assumption)|assumption);have q117:t114<(l1.length:Int):=od_ (by first|(with_reducible assumption)|assumption);obtain ⟨ad117,e117,hx117_0⟩:=Kd.at_string HR1.out t114 p117 q117;cases e117;replace hx117_0:=keep_cell HK.out hx117_0 (by first|(rw [add_block];exact hf1 _ rfl (by omega))|exact hf1 _ rfl (by omega)|exact hf1 ad117 rfl (by omega));replace p117:=eq_true p117;replace q117:=eq_true q117))
    go_ret
    exact ⟨by first|rfl|(simp [errW_none,errW_some] <;> rfl)|(simp [*,errW_none,errW_some] <;> rfl),by repeat (first|(with_reducible first|exact HI0.out|apply IsS35.alloc|apply IsS35.drewN|apply IsS35.drew|apply IsS35.set_1|apply IsS35.set_2)|exact HI0.out),by repeat (first|(with_reducible first|exact HB.out|apply ba_|apply pd_|apply b1_|refine bs_ ?_ (IsS35.ge HI0.out))|exact HB.out),by repeat (first|(with_reducible first|exact HK.out|apply KeepBut.set_|apply keep_drewN|apply keep_drew|apply keep_alloc)|exact HK.out)⟩
   ·rw [if_neg c6] at H
    exact absurd H (by simp)
  ·rw [if_neg c5] at H
   exact absurd H (by simp)
/-! ### spec_l00Src_value: function 9 -/
def spec_l00Src_value.f (s0_0:List Int) (s0_1:Int) (s0_2:Int):Option (ByteArray × Int × Int):=(spec_l00Src_pick.f s0_0 s0_1 s0_2 (([(⟨#[]⟩:ByteArray),(⟨#[120]⟩:ByteArray),(⟨#[47,97,63,98,61,49,38,99]⟩:ByteArray),(⟨#[106,97,118,97,115,99,114,105,112,116,58,97,108,101,114,116,40,49,41]⟩:ByteArray),(⟨#[32,74,97,118,97,83,99,114,105,112,116,58,120]⟩:ByteArray),(⟨#[106,97,118,97,9,115,99,114,105,112,116,58,120]⟩:ByteArray),(⟨#[34,113,34]⟩:ByteArray),(⟨#[60,98,62]⟩:ByteArray),(⟨#[38,97,109,112,59]⟩:ByteArray),(⟨#[104,116,116,112,115,58,120]⟩:ByteArray),(⟨#[106,97,118,97,32,115,99,114,105,112,116,58]⟩:ByteArray),(⟨#[97,32,98]⟩:ByteArray)]:List ByteArray))).bind fun bt121=>(some (bt121.1,bt121.2.1,bt121.2.2))
set_option maxHeartbeats 8000000 in
set_option maxRecDepth 100000 in
theorem spec_l00Src_value.calls (g:Nat) (s0_0:List Int) (s0_1:Int) (s0_2:Int) (r1:ByteArray) (r2:Int) (r3:Int) (w0 w:World) (hI:IsS35 w0 w g s0_0 s0_1 s0_2) (hB:Below w0.heap.size w0 w) (h:spec_l00Src_value.f s0_0 s0_1 s0_2=some (r1,r2,r3)) :
 Calls Try.prog 9 #[.pointer (some ⟨g,0,none⟩)] w fun e w'=>e=.returned (.string r1)∧IsS35 w0 w' g s0_0 r2 r3∧Below w0.heap.size w0 w'∧KeepBut w w' g none:=by
 have HI0:=A_ hI
 have HK:=A_ (KeepBut.refl w g none)
 have HL:=A_ hB.size
 clear hI
 have HW0:=A_ hB.size
 have HB:=A_ hB
 clear hB
 have H:((spec_l00Src_pick.f s0_0 s0_1 s0_2 (([(⟨#[]⟩:ByteArray),(⟨#[120]⟩:ByteArray),(⟨#[47,97,63,98,61,49,38,99]⟩:ByteArray),(⟨#[106,97,118,97,115,99,114,105,112,116,58,97,108,101,114,116,40,49,41]⟩:ByteArray),(⟨#[32,74,97,118,97,83,99,114,105,112,116,58,120]⟩:ByteArray),(⟨#[106,97,118,97,9,115,99,114,105,112,116,58,120]⟩:ByteArray),(⟨#[34,113,34]⟩:ByteArray),(⟨#[60,98,62]⟩:ByteArray),(⟨#[38,97,109,112,59]⟩:ByteArray),(⟨#[104,116,116,112,115,58,120]⟩:ByteArray),(⟨#[106,97,118,97,32,115,99,114,105,112,116,58]⟩:ByteArray),(⟨#[97,32,98]⟩:ByteArray)]:List ByteArray))).bind fun bt121=>(some (bt121.1,bt121.2.1,bt121.2.2)))=some (r1,r2,r3):=h
 clear h
 obtain ⟨y118,hy118⟩:∃ y_:List ByteArray,y_=(([(⟨#[]⟩:ByteArray),(⟨#[120]⟩:ByteArray),(⟨#[47,97,63,98,61,49,38,99]⟩:ByteArray),(⟨#[106,97,118,97,115,99,114,105,112,116,58,97,108,101,114,116,40,49,41]⟩:ByteArray),(⟨#[32,74,97,118,97,83,99,114,105,112,116,58,120]⟩:ByteArray),(⟨#[106,97,118,97,9,115,99,114,105,112,116,58,120]⟩:ByteArray),(⟨#[34,113,34]⟩:ByteArray),(⟨#[60,98,62]⟩:ByteArray),(⟨#[38,97,109,112,59]⟩:ByteArray),(⟨#[104,116,116,112,115,58,120]⟩:ByteArray),(⟨#[106,97,118,97,32,115,99,114,105,112,116,58]⟩:ByteArray),(⟨#[97,32,98]⟩:ByteArray)]:List ByteArray)):=⟨_,rfl⟩
 replace H:((spec_l00Src_pick.f s0_0 s0_1 s0_2 y118).bind fun bt121=>(some (bt121.1,bt121.2.1,bt121.2.2)))=some (r1,r2,r3):=by first|(rw [hy118];with_reducible exact H)|(have H2_:=(Option.bind_some _ _).symm.trans H;rw [hy118];with_reducible exact H2_)|(have H2_:=(Option.bind_some _ _).symm.trans H;with_reducible exact H2_)|with_reducible exact H|(rw [hy118];exact H)|exact H
 have Ny118:=A_ hy118
 clear hy118
 replace H:=ob_ H
 obtain ⟨⟨t121,t122,t123⟩,A20,H⟩:=H
 replace H:(some (t121,t122,t123))=some (r1,r2,r3):=H
 have A2:=A_ A20
 clear A20
 simp only [Option.some.injEq,Prod.mk.injEq] at H
 obtain ⟨rfl,rfl,rfl⟩:=H
 go_enter Try.func9,Try.ntmps9
 go_wp2_with (first|((with_reducible refine gate_dst (N:=4) rfl ?_);refine Kd.R_lit Kd.string _ 9 ?hg (N:=4) ?hd (xs:=([(⟨#[]⟩:ByteArray),(⟨#[120]⟩:ByteArray),(⟨#[47,97,63,98,61,49,38,99]⟩:ByteArray),(⟨#[106,97,118,97,115,99,114,105,112,116,58,97,108,101,114,116,40,49,41]⟩:ByteArray),(⟨#[32,74,97,118,97,83,99,114,105,112,116,58,120]⟩:ByteArray),(⟨#[106,97,118,97,9,115,99,114,105,112,116,58,120]⟩:ByteArray),(⟨#[34,113,34]⟩:ByteArray),(⟨#[60,98,62]⟩:ByteArray),(⟨#[38,97,109,112,59]⟩:ByteArray),(⟨#[104,116,116,112,115,58,120]⟩:ByteArray),(⟨#[106,97,118,97,32,115,99,114,105,112,116,58]⟩:ByteArray),(⟨#[97,32,98]⟩:ByteArray)]:List ByteArray)) (inner:=[.string (⟨#[]⟩:ByteArray),.string (⟨#[120]⟩:ByteArray),.string (⟨#[47,97,63,98,61,49,38,99]⟩:ByteArray),.string (⟨#[106,97,118,97,115,99,114,105,112,116,58,97,108,101,114,116,40,49,41]⟩:ByteArray),.string (⟨#[32,74,97,118,97,83,99,114,105,112,116,58,120]⟩:ByteArray),.string (⟨#[106,97,118,97,9,115,99,114,105,112,116,58,120]⟩:ByteArray),.string (⟨#[34,113,34]⟩:ByteArray),.string (⟨#[60,98,62]⟩:ByteArray),.string (⟨#[38,97,109,112,59]⟩:ByteArray),.string (⟨#[104,116,116,112,115,58,120]⟩:ByteArray),.string (⟨#[106,97,118,97,32,115,99,114,105,112,116,58]⟩:ByteArray),.string (⟨#[97,32,98]⟩:ByteArray)]) (ok:=fun _=>True) (okp:=fun _=>True) ?hr ?hp (fun _ hk=>hk) trivial (Below.refl _ _) (Nat.le_refl _) (by simp) ?_;(case hd=>rfl);(case hg=>rfl);(case hr=>first|(go_simp;done)|(go_simp;rfl)|(first|(go_simp;done)|(go_simp;rfl)));(case hp=>exact (Reps.one (show Kd.M Kd.string _ _ _ (⟨#[]⟩:ByteArray) [.string (⟨#[]⟩:ByteArray)] from rfl) (Reps.one (show Kd.M Kd.string _ _ _ (⟨#[120]⟩:ByteArray) [.string (⟨#[120]⟩:ByteArray)] from rfl) (Reps.one (show Kd.M Kd.string _ _ _ (⟨#[47,97,63,98,61,49,38,99]⟩:ByteArray) [.string (⟨#[47,97,63,98,61,49,38,99]⟩:ByteArray)] from rfl) (Reps.one (show Kd.M Kd.string _ _ _ (⟨#[106,97,118,97,115,99,114,105,112,116,58,97,108,101,114,116,40,49,41]⟩:ByteArray) [.string (⟨#[106,97,118,97,115,99,114,105,112,116,58,97,108,101,114,116,40,49,41]⟩:ByteArray)] from rfl) (Reps.one (show Kd.M Kd.string _ _ _ (⟨#[32,74,97,118,97,83,99,114,105,112,116,58,120]⟩:ByteArray) [.string (⟨#[32,74,97,118,97,83,99,114,105,112,116,58,120]⟩:ByteArray)] from rfl) (Reps.one (show Kd.M Kd.string _ _ _ (⟨#[106,97,118,97,9,115,99,114,105,112,116,58,120]⟩:ByteArray) [.string (⟨#[106,97,118,97,9,115,99,114,105,112,116,58,120]⟩:ByteArray)] from rfl) (Reps.one (show Kd.M Kd.string _ _ _ (⟨#[34,113,34]⟩:ByteArray) [.string (⟨#[34,113,34]⟩:ByteArray)] from rfl) (Reps.one (show Kd.M Kd.string _ _ _ (⟨#[60,98,62]⟩:ByteArray) [.string (⟨#[60,98,62]⟩:ByteArray)] from rfl) (Reps.one (show Kd.M Kd.string _ _ _ (⟨#[38,97,109,112,59]⟩:ByteArray) [.string (⟨#[38,97,109,112,59]⟩:ByteArray)] from rfl) (Reps.one (show Kd.M Kd.string _ _ _ (⟨#[104,116,116,112,115,58,120]⟩:ByteArray) [.string (⟨#[104,116,116,112,115,58,120]⟩:ByteArray)] from rfl) (Reps.one (show Kd.M Kd.string _ _ _ (⟨#[106,97,118,97,32,115,99,114,105,112,116,58]⟩:ByteArray) [.string (⟨#[106,97,118,97,32,115,99,114,105,112,116,58]⟩:ByteArray)] from rfl) (Reps.one (show Kd.M Kd.string _ _ _ (⟨#[97,32,98]⟩:ByteArray) [.string (⟨#[97,32,98]⟩:ByteArray)] from rfl) (Reps.none _ _))))))))))))));intro v119 w3 ho4 hb hg_ hnew_;clear hg_ hnew_;(first|rw [←Ny118.out] at ho4|(simp only [Int.reduceToNat] at ho4;rw [←Ny118.out] at ho4));have n0_:=A_ (Kd.R_lower ho4 (keep_size (w:=w) (g:=g) (row:=none) (by repeat (first|(with_reducible first|exact HK.out|apply KeepBut.set_|apply keep_drewN|apply keep_drew|apply keep_alloc)|exact HK.out))));have n1_:=A_ (IsS35.below (by repeat (first|(with_reducible first|exact HI0.out|apply IsS35.alloc|apply IsS35.drewN|apply IsS35.drew|apply IsS35.set_1|apply IsS35.set_2)|exact HI0.out)) hb);have n2_:=A_ (KeepBut.trans (by repeat (first|(with_reducible first|exact HK.out|apply KeepBut.set_|apply keep_drewN|apply keep_drew|apply keep_alloc)|exact HK.out)) (KeepBut.of_below hb g none) (.inl rfl));have n3_:=A_ (bp_ (by repeat (first|(with_reducible first|exact HB.out|apply ba_|apply pd_|apply b1_|refine bs_ ?_ (IsS35.ge HI0.out))|exact HB.out)) hb);clear HI0;clear HK;clear HB;have HO120:=n0_;have HI0:=n1_;have HK:=n2_;have HB:=n3_;clear n0_ n1_ n2_ n3_;clear hb ho4;obtain ⟨Ao5,co5,eo5⟩:=Kd.R_slice HO120.out;subst eo5)|((with_reducible refine gate_callee (f:=14) rfl ?_);refine goesL_ (some 5) rfl rfl Try.func14 (by kernel_rfl) rfl #[.pointer (some ⟨g,0,none⟩),.slice Ao5 y118.length co5] rfl (by (try simp only [List.map_toArray,List.map_cons,List.map_nil]);first|done|rfl|(simp only [ld_,lt_];rfl)) ?_;(with_reducible refine (spec_l00Src_pick.calls g s0_0 s0_1 s0_2 _ _ y118 t121 t122 t123 w0 _ ?side1 ?side2 ?side3 ?side4 ?side5 A2.out).mono ?_);(case side1=>repeat (first|(with_reducible first|exact HI0.out|apply IsS35.alloc|apply IsS35.drewN|apply IsS35.drew|apply IsS35.set_1|apply IsS35.set_2)|exact HI0.out));(case side2=>repeat (first|(with_reducible first|exact HB.out|apply ba_|apply pd_|apply b1_|refine bs_ ?_ (IsS35.ge HI0.out))|exact HB.out));(case side3=>repeat (first|exact (Kd.R_reads' HO120.out).2.2|(with_reducible refine ca_ ?_ _)|(with_reducible refine cn_ ?_ _)|(with_reducible refine cd_ ?_)));(case side4=>exact (Kd.R_reads' HO120.out).2.1);(case side5=>exact far_slice (IsS35.own_ne HI0.out HO120.out (by decide)));rintro e w6 ⟨rfl,hi,hb,hk⟩;refine ⟨_,rfl,?_⟩;have n0_:=A_ (Kd.R_mono (Kd.R_keep (IsS35.apart (show IsS35 w0 _ g s0_0 s0_1 s0_2 from by repeat (first|(with_reducible first|exact HI0.out|apply IsS35.alloc|apply IsS35.drewN|apply IsS35.drew|apply IsS35.set_1|apply IsS35.set_2)|exact HI0.out)) (by (with_reducible repeat (first|apply Kd.R_alloc|apply Kd.R_drewN|apply Kd.R_drew));exact HO120.out) (by decide)) hk (fun _ h=>h.2)) (fun _ h=>h.1));have n1_:=A_ (KeepBut.trans (by repeat (first|(with_reducible first|exact HK.out|apply KeepBut.set_|apply keep_drewN|apply keep_drew|apply keep_alloc)|exact HK.out)) hk (.inl rfl));have n2_:=A_ (hb);have n3_:=A_ (hi);clear HO120;clear HK;clear HB;clear HI0;have HO120:=n0_;have HK:=n1_;have HB:=n2_;have HI0:=n3_;clear n0_ n1_ n2_ n3_;(try clear hb);(try clear hb2);(try clear hk);(try clear hi)))
 go_ret
 exact ⟨by first|rfl|(simp [errW_none,errW_some] <;> rfl)|(simp [*,errW_none,errW_some] <;> rfl),by repeat (first|(with_reducible first|exact HI0.out|apply IsS35.alloc|apply IsS35.drewN|apply IsS35.drew|apply IsS35.set_1|apply IsS35.set_2)|exact HI0.out),by repeat (first|(with_reducible first|exact HB.out|apply ba_|apply pd_|apply b1_|refine bs_ ?_ (IsS35.ge HI0.out))|exact HB.out),by repeat (first|(with_reducible first|exact HK.out|apply KeepBut.set_|apply keep_drewN|apply keep_drew|apply keep_alloc)|exact HK.out)⟩
/-! ### spec_ValueDrawn: function 4 -/
def spec_ValueDrawn.f (l0:List Int):Option (ByteArray):=(spec_l00Source.f l0).bind fun bt124=>((spec_l00Src_value.f bt124.1 bt124.2.1 bt124.2.2).bind fun bt128=>(some bt128.1))
set_option maxHeartbeats 8000000 in
set_option maxRecDepth 100000 in
theorem spec_ValueDrawn.calls (A0:Option Addr) (c0:Nat) (l0:List Int) (r:ByteArray) (w:World) (hr0:Kd.C (Kd.int .u8) w A0 l0.length l0) (hc0:l0.length≤c0) (h:spec_ValueDrawn.f l0=some r) :
 Calls Try.prog 4 #[.slice A0 l0.length c0] w fun e w'=>e=.returned (.string r)∧Below w.heap.size w w':=by
 have HR0:=A_ hr0
 have HC0:=A_ hc0
 clear hr0 hc0
 have HB:=A_ (Below.refl w.heap.size w)
 have H:((spec_l00Source.f l0).bind fun bt124=>((spec_l00Src_value.f bt124.1 bt124.2.1 bt124.2.2).bind fun bt128=>(some bt128.1)))=some r:=h
 clear h
 replace H:=ob_ H
 obtain ⟨⟨t124,t125,t126⟩,A20,H⟩:=H
 replace H:((spec_l00Src_value.f t124 t125 t126).bind fun bt128=>(some bt128.1))=some r:=H
 have A2:=A_ A20
 clear A20
 replace H:=ob_ H
 obtain ⟨⟨t128,t129,t130⟩,A30,H⟩:=H
 replace H:(some t128)=some r:=H
 have A3:=A_ A30
 clear A30
 obtain rfl:=oi_ H
 go_enter Try.func4,Try.ntmps4
 go_wp2_with (first|((with_reducible refine gate_callee (f:=8) rfl ?_);refine goesL_ (some 4) rfl rfl Try.func8 (by kernel_rfl) rfl #[.slice A0 l0.length c0] rfl (by (try simp only [List.map_toArray,List.map_cons,List.map_nil]);first|done|rfl|(simp only [ld_,lt_];rfl)) ?_;(with_reducible refine (spec_l00Source.calls _ _ l0 t124 t125 t126 w _ ?side1 ?side2 ?side3 A2.out).mono ?_);(case side1=>repeat (first|(with_reducible first|exact HB.out|apply ba_|apply pd_|apply b1_)|exact HB.out));(case side2=>exact HR0.out);(case side3=>exact HC0.out);rintro e w4 ⟨g127,rfl,hi,hb,hb2⟩;refine ⟨_,rfl,?_⟩;have n0_:=A_ (hb);have n1_:=A_ (hi);clear HB;have HB:=n0_;have HI127:=n1_;clear n0_ n1_;(try clear hb);(try clear hb2);(try clear hk);(try clear hi))|((with_reducible refine gate_callee (f:=9) rfl ?_);refine goesL_ (some 5) rfl rfl Try.func9 (by kernel_rfl) rfl #[.pointer (some ⟨g127,0,none⟩)] rfl (by (try simp only [List.map_toArray,List.map_cons,List.map_nil]);first|done|rfl|(simp only [ld_,lt_];rfl)) ?_;(with_reducible refine (spec_l00Src_value.calls g127 t124 t125 t126 t128 t129 t130 w _ ?side1 ?side2 A3.out).mono ?_);(case side1=>repeat (first|(with_reducible first|exact HI127.out|apply IsS35.alloc|apply IsS35.drewN|apply IsS35.drew|apply IsS35.set_1|apply IsS35.set_2)|exact HI127.out));(case side2=>repeat (first|(with_reducible first|exact HB.out|apply ba_|apply pd_|apply b1_|refine bs_ ?_ (IsS35.ge HI127.out))|exact HB.out));rintro e w5 ⟨rfl,hi,hb,hk⟩;refine ⟨_,rfl,?_⟩;have n0_:=A_ (hb);have n1_:=A_ (hi);clear HB;clear HI127;have HB:=n0_;have HI127:=n1_;clear n0_ n1_;(try clear hb);(try clear hb2);(try clear hk);(try clear hi)))
 go_ret
 exact ⟨by first|rfl|(simp [errW_none,errW_some] <;> rfl)|(simp [*,errW_none,errW_some] <;> rfl),by repeat (first|(with_reducible first|exact HB.out|apply ba_|apply pd_|apply b1_|refine bs_ ?_ (IsS35.ge HI127.out))|exact HB.out)⟩
end Go.Proofs.Ytpfpbanadobfmaa.PFnLinks
