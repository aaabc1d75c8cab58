/- By a program of this session, out of the kit's print and contracts made by hand: the machine side of a law; Lean checks it. No conditions. -/
import Derived.Test.YtjhfempockbdoaaPFnExactNodeAtx0
import Derived.Test.YtjhfempockbdoaaPFnExactNodeAtx2
namespace Go.Proofs.Ytjhfempockbdoaa.PFnExactNodeAt
open Go.RowKit Go.Proofs.YtjhfempockbdoaaW.PrintWords Go.Proofs.YtjhfempockbdoaaW.PrintLast Go.Proofs.YtjhfempockbdoaaW.PrintMore
attribute [local go_sem] max2_int min2_int max_two min_two max_three min_three max_four min_four
set_option linter.unusedVariables false
set_option linter.unusedSimpArgs false
/-! ### spec_l03At: function 18 -/
def spec_l03At.l0:Nat→List Int→Int→Int→Int→ByteArray→ByteArray→List (S63)→List (S28)→Option (Int × Int × ByteArray × ByteArray × (List (S63)) × (List (S28)) × Bool)
 | 0,_,_,_,_,_,_,_,_=>none
 | k+1,x1,x7,x146000,x146001,x146002,x146003,x146004,x146005=>if x7<(x1.length:Int) then (if 0≤x7 then ((spec_l01In.f (rd x1 x7) 0 (wrap64 ((x146005.length:Int) - 1))).bind fun t147=>(if t147=true then (if 0≤(rd x1 x7) then (if (rd x1 x7)<(x146005.length:Int) then (spec_l03At.l0 k x1 (wrap64 (x7+1)) ((rd_T28 x146005 (rd x1 x7)).f0) ((rd_T28 x146005 (rd x1 x7)).f1) ((rd_T28 x146005 (rd x1 x7)).f2) ((rd_T28 x146005 (rd x1 x7)).f3) ((rd_T28 x146005 (rd x1 x7)).f4) ((rd_T28 x146005 (rd x1 x7)).f5)) else (none)) else (none)) else (some (0,0,(⟨#[]⟩:ByteArray),(⟨#[]⟩:ByteArray),([]:List (S63)),([]:List (S28)),false)))) else (none)) else (some (x146000,x146001,x146002,x146003,x146004,x146005,decide ((x1.length:Int)>0)))
def spec_l03At.f (k:Nat) (l0:List (S28)) (l1:List Int):Option (Int × Int × ByteArray × ByteArray × (List (S63)) × (List (S28)) × Bool):=spec_l03At.l0 k l1 0 0 0 (⟨#[]⟩:ByteArray) (⟨#[]⟩:ByteArray) ([]:List (S63)) l0
theorem spec_l03At.mono_l:∀ k,(∀ y0 y1 y2 y3 y4 y5 y6 y7,LeO (spec_l03At.l0 k y0 y1 y2 y3 y4 y5 y6 y7) (spec_l03At.l0 (k+1) y0 y1 y2 y3 y4 y5 y6 y7))
 | 0=>fun _ _ _ _ _ _ _ _ r h=>by simp [spec_l03At.l0] at h
 | k+1=>by
  have ih0:=spec_l03At.mono_l k
  ·intro y0 y1 y2 y3 y4 y5 y6 y7
   unfold spec_l03At.l0
   repeat' first
   | (with_reducible exact ih0 _ _ _ _ _ _ _ _)
   | (with_reducible exact LeO.refl _)
   | (with_reducible exact LeO.none _)
   | (with_reducible refine LeO.ite ?_ ?_)
   | (with_reducible refine LeO.bind ?_ (fun _=>?_))
   | exact ih0 _ _ _ _ _ _ _ _
   | exact LeO.none _
   | refine LeO.ite ?_ ?_
   | refine LeO.bind ?_ (fun _=>?_)
theorem spec_l03At.mono:∀ a0 a1 k,LeO (spec_l03At.f k a0 a1) (spec_l03At.f (k+1) a0 a1):=by
 intro a0 a1 k
 have ih0:=spec_l03At.mono_l k
 unfold spec_l03At.f
 repeat' first
  | (with_reducible exact ih0 _ _ _ _ _ _ _ _)
  | (with_reducible exact LeO.refl _)
  | (with_reducible exact LeO.none _)
  | (with_reducible refine LeO.ite ?_ ?_)
  | (with_reducible refine LeO.bind ?_ (fun _=>?_))
  | exact ih0 _ _ _ _ _ _ _ _
  | exact LeO.none _
  | refine LeO.ite ?_ ?_
  | refine LeO.bind ?_ (fun _=>?_)
def spec_l03At.T5:Bool × List (List Nat × List Nat):=(true,[([],[]),([],[]),([0,1],[0,1]),([2],[2]),([],[]),([4],[4]),([5],[5]),([6],[6]),([3,7],[3,7]),([8],[8])])
def spec_l03At.B5:List Nat:=[0,0,3,7,0,16,48,112,255,511]
theorem spec_l03At.tab5:rtab .any (opsOf Try.f18 5)=spec_l03At.T5:=by kernel_rfl
theorem spec_l03At.bits5:waitsOk spec_l03At.T5.2 spec_l03At.B5=true:=by kernel_rfl
def spec_l03At.T7:Bool × List (List Nat × List Nat):=(true,[([],[]),([0],[0]),([],[]),([],[]),([2,3],[2,3]),([4],[4]),([1,5],[1,5]),([6],[6]),([7,0,1,2,3,4,5,6,7],[7])])
def spec_l03At.B7:List Nat:=[0,1,0,0,12,28,63,127,255]
theorem spec_l03At.tab7:rtab .any (opsOf Try.f18 7)=spec_l03At.T7:=by kernel_rfl
theorem spec_l03At.bits7:waitsOk spec_l03At.T7.2 spec_l03At.B7=true:=by kernel_rfl
set_option maxHeartbeats 8000000 in
set_option maxRecDepth 100000 in
theorem spec_l03At.calls (k:Nat) (P0_:Nat→Prop) (A0:Option Addr) (c0:Nat) (l0:List (S28)) (A1:Option Addr) (c1:Nat) (l1:List Int) (r1:Int) (r2:Int) (r3:ByteArray) (r4:ByteArray) (r5:List (S63)) (r6:List (S28)) (r7:Bool) (w:World) (hs0:Kd.V k28 28 w w.heap.size (fun k_=>P0_ k_) (.slice A0 l0.length c0) l0) (hr1:Kd.C (Kd.int .i64) w A1 l1.length l1) (hc1:l1.length≤c1) (h:spec_l03At.f k l0 l1=some (r1,r2,r3,r4,r5,r6,r7)) :
 Calls Try.prog 18 #[.slice A0 l0.length c0,.slice A1 l1.length c1] w fun e w'=>∃ v4_ v5_:Value,e=.returned (.tuple #[.agg #[.int .i64 r1,.int .i64 r2,.string r3,.string r4,v4_,v5_],.bool r7])∧Kd.V k63 63 w' w.heap.size (fun k_=>(P0_ k_∨w.heap.size≤k_)) v4_ r5∧Kd.V k28 28 w' w.heap.size (fun k_=>(P0_ k_∨w.heap.size≤k_)) v5_ r6∧Below w.heap.size w w':=by
 have hu28:=Try.underlying28
 have HO0:=A_ (show Kd.V k28 28 w w.heap.size (fun k_=>(P0_ k_∨w.heap.size≤k_)) (.slice A0 l0.length c0) l0 from Kd.V_mono hs0 (fun k_ hk=>.inl hk))
 have HR1:=A_ hr1
 have HC1:=A_ hc1
 clear hr1 hc1
 have HB:=A_ (Below.refl w.heap.size w)
 have H:(spec_l03At.l0 k l1 0 0 0 (⟨#[]⟩:ByteArray) (⟨#[]⟩:ByteArray) ([]:List (S63)) l0)=some (r1,r2,r3,r4,r5,r6,r7):=h
 clear h
 have H':=A_ H
 clear H
 go_enter Try.func18,Try.ntmps18
 go_wp2_with (first|((with_reducible refine gate_dst (N:=4) rfl ?_);refine box_event ?hg (N:=4) ?hd (cs:=#[.int .i64 0,.int .i64 0,.string (⟨#[]⟩:ByteArray),.string (⟨#[]⟩:ByteArray),.slice none 0 0,.slice none 0 0]) (t:=28) ?hr ?_;(case hd=>rfl);(case hg=>rfl);(case hr=>first|(go_simp;done)|(go_simp;rfl)|((first|(obtain ⟨_,_,rfl⟩:=Kd.R_slice HO0.out)|(obtain ⟨_,_,rfl⟩:=Kd.S_slice HO0.out)|skip);first|(go_simp;done)|(go_simp;rfl)));intro gb144 hg w3 hbox hb;have n0_:=A_ (Kd.V_below (Kd.V_elderB (by (with_reducible repeat (first|apply Kd.V_alloc|apply Kd.V_drewN|apply Kd.V_drew));exact HO0.out) gb144 (Nat.le_of_eq hg.symm)) hb);have n1_:=A_ (bp_ (by repeat (first|(with_reducible first|exact HB.out|apply ba_|apply pd_|apply b1_)|exact HB.out)) hb);have n2_:=A_ (hbox);have n3_:=A_ ((by rw [hg];exact (bz_ (by repeat (first|(with_reducible first|exact HB.out|apply ba_|apply pd_|apply b1_)|exact HB.out))):w.heap.size≤gb144));have n4_:=A_ ((by rw [hg];exact (bz_ (by repeat (first|(with_reducible first|exact HB.out|apply ba_|apply pd_|apply b1_)|exact HB.out))):w.heap.size≤gb144));clear HO0;clear HB;have HO0:=n0_;have HB:=n1_;have BK144:=n2_;have GW144:=n3_;have GE144:=n4_;clear n0_ n1_ n2_ n3_ n4_;clear hb hbox hg)|((with_reducible refine gate_dst (N:=6) rfl ?_);refine box_event ?hg (N:=6) ?hd (cs:=#[.int .i64 0,.int .i64 0,.string (⟨#[]⟩:ByteArray),.string (⟨#[]⟩:ByteArray),.slice none 0 0,.slice none 0 0]) (t:=28) ?hr ?_;(case hd=>rfl);(case hg=>rfl);(case hr=>first|(go_simp;done)|(go_simp;rfl)|((first|(obtain ⟨_,_,rfl⟩:=Kd.R_slice HO0.out)|(obtain ⟨_,_,rfl⟩:=Kd.S_slice HO0.out)|skip);first|(go_simp;done)|(go_simp;rfl)));intro gb145 hg w4 hbox hb;have n0_:=A_ (Kd.V_below (Kd.V_elderB (by (with_reducible repeat (first|apply Kd.V_alloc|apply Kd.V_drewN|apply Kd.V_drew));exact HO0.out) gb145 (Nat.le_of_eq hg.symm)) hb);have n1_:=A_ (kb_ (g:=gb144) (o:=.cells #[.int .i64 0,.int .i64 0,.string (⟨#[]⟩:ByteArray),.string (⟨#[]⟩:ByteArray),.slice none 0 0,.slice none 0 0] 28 (0,0)) (by (with_reducible repeat (first|refine kn_ ?_ _|refine kd_ ?_|refine ka_ ?_ _));exact BK144.out) hb);have n2_:=A_ (bp_ (by repeat (first|(with_reducible first|exact HB.out|apply ba_|apply pd_|apply b1_|refine bs_ ?_ GE144.out)|exact HB.out)) hb);have n3_:=A_ (hbox);have n4_:=A_ ((by rw [hg];exact (bz_ (by repeat (first|(with_reducible first|exact HB.out|apply ba_|apply pd_|apply b1_|refine bs_ ?_ GE144.out)|exact HB.out))):w.heap.size≤gb145));have n5_:=A_ ((by rw [hg];exact (bz_ (by repeat (first|(with_reducible first|exact HB.out|apply ba_|apply pd_|apply b1_|refine bs_ ?_ GE144.out)|exact HB.out))):w.heap.size≤gb145));have n6_:=A_ ((by rw [hg];exact Nat.ne_of_lt (blk_lt (g:=gb144) (o:=.cells #[.int .i64 0,.int .i64 0,.string (⟨#[]⟩:ByteArray),.string (⟨#[]⟩:ByteArray),.slice none 0 0,.slice none 0 0] 28 (0,0)) (by (with_reducible repeat (first|refine kn_ ?_ _|refine kd_ ?_|refine ka_ ?_ _));exact BK144.out)):gb144≠gb145));have n7_:=A_ ((by rw [hg];exact Nat.ne_of_gt (blk_lt (g:=gb144) (o:=.cells #[.int .i64 0,.int .i64 0,.string (⟨#[]⟩:ByteArray),.string (⟨#[]⟩:ByteArray),.slice none 0 0,.slice none 0 0] 28 (0,0)) (by (with_reducible repeat (first|refine kn_ ?_ _|refine kd_ ?_|refine ka_ ?_ _));exact BK144.out)):gb145≠gb144));clear HO0;clear BK144;clear HB;have HO0:=n0_;have BK144:=n1_;have HB:=n2_;have BK145:=n3_;have GW145:=n4_;have GE145:=n5_;have NB144_145:=n6_;have NB145_144:=n7_;clear n0_ n1_ n2_ n3_ n4_ n5_ n6_ n7_;clear hb hbox hg;have hnb5:=NB145_144.out;have hnc5:=NB144_145.out;have hcz6_0:w4.cell? ⟨gb145,0,none⟩=some (.int .i64 0):=(bc_ BK145.out 0).trans rfl;have hcz6_1:w4.cell? ⟨gb145,1,none⟩=some (.int .i64 0):=(bc_ BK145.out 1).trans rfl;have hcz6_2:w4.cell? ⟨gb145,2,none⟩=some (.string (⟨#[]⟩:ByteArray)):=(bc_ BK145.out 2).trans rfl;have hcz6_3:w4.cell? ⟨gb145,3,none⟩=some (.string (⟨#[]⟩:ByteArray)):=(bc_ BK145.out 3).trans rfl;have hcz6_4:w4.cell? ⟨gb145,4,none⟩=some (.slice none 0 0):=(bc_ BK145.out 4).trans rfl;have hcz6_5:w4.cell? ⟨gb145,5,none⟩=some (.slice none 0 0):=(bc_ BK145.out 5).trans rfl;have hfz6_0:=bf_ BK145.out 0;have hfz6_1:=bf_ BK145.out 1;have hfz6_2:=bf_ BK145.out 2;have hfz6_3:=bf_ BK145.out 3;have hfz6_4:=bf_ BK145.out 4;have hfz6_5:=bf_ BK145.out 5))
 go_loopg [7] k (fun kq v7 w'=>∃ (x7_1:Int) (x145000_1:Int) (x145001_1:Int) (x145002_1:ByteArray) (x145003_1:ByteArray) (x146000_1:Int) (x146001_1:Int) (x146002_1:ByteArray) (x146003_1:ByteArray) (x146004_1:List (S63)) (x146005_1:List (S28)) (u146004:Value) (u146005:Value),v7=.int .i64 x7_1∧Aside0 (spec_l03At.l0 kq l1 x7_1 x146000_1 x146001_1 x146002_1 x146003_1 x146004_1 x146005_1=some (r1,r2,r3,r4,r5,r6,r7))∧Aside0 (kq≤k)∧Aside0 (Kd.V k63 63 w' w.heap.size (fun k_=>(P0_ k_∨w.heap.size≤k_)∧k_≠gb144∧k_≠gb145) u146004 x146004_1)∧Aside0 (Kd.V k28 28 w' w.heap.size (fun k_=>(P0_ k_∨w.heap.size≤k_)∧k_≠gb144∧k_≠gb145) u146005 x146005_1)∧Aside0 (w'.heap[gb144]? = some (.cells #[.int .i64 x145000_1,.int .i64 x145001_1,.string x145002_1,.string x145003_1,(.slice none 0 0),(.slice none 0 0)] 28 (0,0)))∧Aside0 (w'.heap[gb145]? = some (.cells #[.int .i64 x146000_1,.int .i64 x146001_1,.string x146002_1,.string x146003_1,u146004,u146005] 28 (0,0)))∧Aside0 (Below w.heap.size w w'))
 case atStart=>exact ⟨(0),(0),(0),((⟨#[]⟩:ByteArray)),((⟨#[]⟩:ByteArray)),(0),(0),((⟨#[]⟩:ByteArray)),((⟨#[]⟩:ByteArray)),(([]:List (S63))),(l0),(.slice none 0 0),(.slice A0 l0.length c0),(by first|rfl|(simp;done)|(simp [*];done)),H',⟨Nat.le_refl _⟩,⟨Kd.V_nil _ _ _ _ _⟩,⟨by (with_reducible repeat (first|apply Kd.V_alloc|apply Kd.V_drewN|apply Kd.V_drew));exact Kd.V_mono (Kd.V_far (p:=⟨gb145,5,none⟩) (Kd.V_far (p:=⟨gb145,4,none⟩) (Kd.V_far (p:=⟨gb145,3,none⟩) (Kd.V_far (p:=⟨gb145,2,none⟩) (Kd.V_far (p:=⟨gb145,1,none⟩) (Kd.V_far (p:=⟨gb145,0,none⟩) (Kd.V_mono HO0.out (fun k_ hk=>(⟨hk,hk.2⟩:_∧k_≠gb145))) (fun _ hk=>hk.2) (.int .i64 0)) (fun _ hk=>hk.2) (.int .i64 0)) (fun _ hk=>hk.2) (.string (⟨#[]⟩:ByteArray))) (fun _ hk=>hk.2) (.string (⟨#[]⟩:ByteArray))) (fun _ hk=>hk.2) (.slice none 0 0)) (fun _ hk=>hk.2) (.slice A0 l0.length c0)) (fun _ hk=>⟨hk.1.1.1,⟨hk.1.1.2,hk.1.2⟩⟩)⟩,⟨by (with_reducible repeat (first|refine kn_ ?_ _|refine kd_ ?_|refine ka_ ?_ _));refine blk_far ?_ NB144_145.out _;(with_reducible repeat (first|refine kn_ ?_ _|refine kd_ ?_|refine ka_ ?_ _));refine blk_far ?_ NB144_145.out _;(with_reducible repeat (first|refine kn_ ?_ _|refine kd_ ?_|refine ka_ ?_ _));refine blk_far ?_ NB144_145.out _;(with_reducible repeat (first|refine kn_ ?_ _|refine kd_ ?_|refine ka_ ?_ _));refine blk_far ?_ NB144_145.out _;(with_reducible repeat (first|refine kn_ ?_ _|refine kd_ ?_|refine ka_ ?_ _));refine blk_far ?_ NB144_145.out _;(with_reducible repeat (first|refine kn_ ?_ _|refine kd_ ?_|refine ka_ ?_ _));refine blk_far ?_ NB144_145.out _;(with_reducible repeat (first|refine kn_ ?_ _|refine kd_ ?_|refine ka_ ?_ _));exact BK144.out⟩,⟨by (with_reducible repeat (first|refine kn_ ?_ _|refine kd_ ?_|refine ka_ ?_ _));refine blk_put (cs:=#[.int .i64 0,.int .i64 0,.string (⟨#[]⟩:ByteArray),.string (⟨#[]⟩:ByteArray),.slice none 0 0,.slice none 0 0]) ?_ 5 _ rfl;(with_reducible repeat (first|refine kn_ ?_ _|refine kd_ ?_|refine ka_ ?_ _));refine blk_put (cs:=#[.int .i64 0,.int .i64 0,.string (⟨#[]⟩:ByteArray),.string (⟨#[]⟩:ByteArray),.slice none 0 0,.slice none 0 0]) ?_ 4 _ rfl;(with_reducible repeat (first|refine kn_ ?_ _|refine kd_ ?_|refine ka_ ?_ _));refine blk_put (cs:=#[.int .i64 0,.int .i64 0,.string (⟨#[]⟩:ByteArray),.string (⟨#[]⟩:ByteArray),.slice none 0 0,.slice none 0 0]) ?_ 3 _ rfl;(with_reducible repeat (first|refine kn_ ?_ _|refine kd_ ?_|refine ka_ ?_ _));refine blk_put (cs:=#[.int .i64 0,.int .i64 0,.string (⟨#[]⟩:ByteArray),.string (⟨#[]⟩:ByteArray),.slice none 0 0,.slice none 0 0]) ?_ 2 _ rfl;(with_reducible repeat (first|refine kn_ ?_ _|refine kd_ ?_|refine ka_ ?_ _));refine blk_put (cs:=#[.int .i64 0,.int .i64 0,.string (⟨#[]⟩:ByteArray),.string (⟨#[]⟩:ByteArray),.slice none 0 0,.slice none 0 0]) ?_ 1 _ rfl;(with_reducible repeat (first|refine kn_ ?_ _|refine kd_ ?_|refine ka_ ?_ _));refine blk_put (cs:=#[.int .i64 0,.int .i64 0,.string (⟨#[]⟩:ByteArray),.string (⟨#[]⟩:ByteArray),.slice none 0 0,.slice none 0 0]) ?_ 0 _ rfl;(with_reducible repeat (first|refine kn_ ?_ _|refine kd_ ?_|refine ka_ ?_ _));exact BK145.out⟩,⟨by repeat (first|(with_reducible first|exact HB.out|apply ba_|apply pd_|apply b1_|refine bs_ ?_ GE144.out|refine bs_ ?_ GE145.out)|exact HB.out)⟩⟩
 case round =>
  clear H'
  try clear c1
  try clear p2
  try clear c5
  try clear hcz6_0
  try clear hcz6_1
  try clear hcz6_2
  try clear hcz6_3
  try clear hcz6_4
  try clear hcz6_5
  try clear hfz6_0
  try clear hfz6_1
  try clear hfz6_2
  try clear hfz6_3
  try clear hfz6_4
  try clear hfz6_5
  obtain ⟨x7_1,x145000_1,x145001_1,x145002_1,x145003_1,x146000_1,x146001_1,x146002_1,x146003_1,x146004_1,x146005_1,u146004,u146005,rfl,HA,HK1,HO_146004,HO_146005,BK144,BK145,HB⟩:=hrel
  cases gk with
  | zero=>exact absurd HA.out (by simp [spec_l03At.l0])
  | succ k1 =>
   have H:=HA.out
   clear HA
   simp only [spec_l03At.l0] at H
   by_cases c7:x7_1<(l1.length:Int)
   ·rw [if_pos c7] at H
    have c7b0:decide (x7_1<(l1.length:Int))=true:=dt_ c7
    clear c7
    by_cases c8:0≤x7_1
    ·rw [if_pos c8] at H
     have c8b0:decide (0≤x7_1)=true:=dt_ c8
     clear c8
     replace H:=ob_ H
     obtain ⟨t147,A90,H⟩:=H
     replace H:(if t147=true then (if 0≤(rd l1 x7_1) then (if (rd l1 x7_1)<(x146005_1.length:Int) then (spec_l03At.l0 k1 l1 (wrap64 (x7_1+1)) ((rd_T28 x146005_1 (rd l1 x7_1)).f0) ((rd_T28 x146005_1 (rd l1 x7_1)).f1) ((rd_T28 x146005_1 (rd l1 x7_1)).f2) ((rd_T28 x146005_1 (rd l1 x7_1)).f3) ((rd_T28 x146005_1 (rd l1 x7_1)).f4) ((rd_T28 x146005_1 (rd l1 x7_1)).f5)) else (none)) else (none)) else (some (0,0,(⟨#[]⟩:ByteArray),(⟨#[]⟩:ByteArray),([]:List (S63)),([]:List (S28)),false)))=some (r1,r2,r3,r4,r5,r6,r7):=H
     have A9:=A_ A90
     clear A90
     by_cases c10:t147=true
     ·subst c10
      have H1:(if 0≤(rd l1 x7_1) then (if (rd l1 x7_1)<(x146005_1.length:Int) then (spec_l03At.l0 k1 l1 (wrap64 (x7_1+1)) ((rd_T28 x146005_1 (rd l1 x7_1)).f0) ((rd_T28 x146005_1 (rd l1 x7_1)).f1) ((rd_T28 x146005_1 (rd l1 x7_1)).f2) ((rd_T28 x146005_1 (rd l1 x7_1)).f3) ((rd_T28 x146005_1 (rd l1 x7_1)).f4) ((rd_T28 x146005_1 (rd l1 x7_1)).f5)) else (none)) else (none))=some (r1,r2,r3,r4,r5,r6,r7):=by rw [if_pos rfl] at H;exact H
      clear H
      have H:=H1
      clear H1
      by_cases c11:0≤(rd l1 x7_1)
      ·rw [if_pos c11] at H
       have c11b0:decide (0≤(rd l1 x7_1))=true:=dt_ c11
       clear c11
       by_cases c12:(rd l1 x7_1)<(x146005_1.length:Int)
       ·rw [if_pos c12] at H
        have c12b0:decide ((rd l1 x7_1)<(x146005_1.length:Int))=true:=dt_ c12
        clear c12
        have H':=A_ H
        clear H
        try go_wp2
        have n0_:=A_ (Kd.V_drew HO_146004.out)
        have n1_:=A_ (Kd.V_drew HO_146005.out)
        have n2_:=A_ (kd_ BK144.out)
        have n3_:=A_ (kd_ BK145.out)
        have n4_:=A_ (b1_ HB.out)
        clear HO_146004
        clear HO_146005
        clear BK144
        clear BK145
        clear HB
        have HO_146004:=n0_
        have HO_146005:=n1_
        have BK144:=n2_
        have BK145:=n3_
        have HB:=n4_
        clear n0_ n1_ n2_ n3_ n4_
        have p146:0≤(x7_1:Int):=od_ (by first|(with_reducible assumption)|assumption)
        have q146:x7_1<(l1.length:Int):=od_ (by first|(with_reducible assumption)|assumption)
        obtain ⟨ad146,e146,hx146_0⟩:=Kd.at_int HR1.out x7_1 p146 q146
        have hw146_0:=hx146_0
        cases e146
        replace hx146_0:=(HB.out.cell (bl_ w _ hx146_0)).trans hx146_0
        replace p146:=eq_true p146
        replace q146:=eq_true q146
        obtain ⟨Ao14,co14,eo14⟩:=Kd.V_slice HO_146005.out
        (first|subst eo14|(injection eo14 with f1_ f2_ f3_;have f4_:=f1_.symm;have f5_:=f3_.symm;clear f1_ f2_ f3_;subst f4_;subst f5_))
        refine start_ (n:=10) (S:=fun w'=>w'.cell? ⟨gb145,0,none⟩=some (.int .i64 x146000_1)∧w'.cell? ⟨gb145,1,none⟩=some (.int .i64 x146001_1)∧w'.cell? ⟨gb145,2,none⟩=some (.string x146002_1)∧w'.cell? ⟨gb145,3,none⟩=some (.string x146003_1)∧w'.cell? ⟨gb145,4,none⟩=some (u146004)∧w'.cell? ⟨gb145,5,none⟩=some (.slice Ao14 x146005_1.length co14)∧w'.cell? (ad146.add (x7_1).toNat)=some (.int .i64 (rd l1 x7_1))) (ds:=[]) #[F_,F_,F_,F_,F_,F_,F_,F_,F_,F_] (by kernel_rfl) rfl rfl ⟨(bc_ BK145.out 0).trans rfl,(bc_ BK145.out 1).trans rfl,(bc_ BK145.out 2).trans rfl,(bc_ BK145.out 3).trans rfl,(bc_ BK145.out 4).trans rfl,(bc_ BK145.out 5).trans rfl,((HB.out.cell (bl_ w _ hw146_0)).trans hw146_0)⟩ (fun hHeld=>?_);refine with_tabW spec_l03At.tab5 spec_l03At.bits5 (fun HT_ HW_=>?_)
        generalize wr.drew=w13 at HO_146004 HO_146005 BK144 BK145 HB hx146_0 hHeld ⊢
        refine pure_ (i:=0) (N:=some 16) (v:=?_) (a':=?_) #[T_,F_,F_,F_,F_,F_,F_,F_,F_,F_] rfl rfl (any_of HT_.out (by kernel_rfl)) (fun _ _ _ h=>h) (Or.inl ⟨by rfl,?_⟩) ?_ ?_
        rotate_left
        ·intro w'
         go_simp
         with_reducible rfl
        rotate_left
        ·simp only [Act.put,ls_,lz_,lc_,i64_w,i32_w]
         rfl
        refine pure_ (i:=1) (N:=some 17) (v:=?_) (a':=?_) #[T_,T_,F_,F_,F_,F_,F_,F_,F_,F_] rfl rfl (any_of HT_.out (by kernel_rfl)) (fun _ _ _ h=>h) (Or.inl ⟨by rfl,?_⟩) ?_ ?_
        rotate_left
        ·intro w'
         go_simp
         with_reducible rfl
        rotate_left
        ·simp only [Act.put,ls_,lz_,lc_,i64_w,i32_w]
         rfl
        refine pure_ (i:=2) (N:=some 18) (v:=?_) (a':=?_) #[T_,T_,T_,F_,F_,F_,F_,F_,F_,F_] rfl rfl (any_of HT_.out (by kernel_rfl)) (fun _ _ _ h=>h) (Or.inl ⟨by rfl,?_⟩) ?_ ?_
        rotate_left
        ·intro w'
         go_simp
         with_reducible rfl
        rotate_left
        ·simp only [Act.put,ls_,lz_,lc_,i64_w,i32_w]
         rfl
        refine pure_ (i:=4) (N:=some 20) (v:=?_) (a':=?_) #[T_,T_,T_,F_,T_,F_,F_,F_,F_,F_] rfl rfl (any_of HT_.out (by kernel_rfl)) (fun _ _ _ h=>h) (Or.inl ⟨by rfl,?_⟩) ?_ ?_
        rotate_left
        ·intro w'
         go_simp
         with_reducible rfl
        rotate_left
        ·simp only [Act.put,ls_,lz_,lc_,i64_w,i32_w]
         rfl
        refine take_ (i:=3) (N:=some 19) (v:=?_) (a':=?_) #[T_,T_,T_,T_,T_,F_,F_,F_,F_,F_] rfl rfl (take_ofW HT_.out HW_.out (by kernel_rfl)) (fun _ _ _ h=>h) (Or.inl ⟨by rfl,?_⟩) hHeld ?_ ?_
        rotate_left
        ·rintro w' ⟨s0,s1,s2,s3,s4,s5,s6⟩
         go_simp
         with_reducible rfl
        rotate_left
        ·simp only [Act.put,ls_,lz_,lc_,i64_w,i32_w]
         rfl
        refine take_ (i:=5) (N:=some 21) (v:=?_) (a':=?_) #[T_,T_,T_,T_,T_,T_,F_,F_,F_,F_] rfl rfl (take_ofW HT_.out HW_.out (by kernel_rfl)) (fun _ _ _ h=>h) (Or.inl ⟨by rfl,?_⟩) hHeld ?_ ?_
        rotate_left
        ·rintro w' ⟨s0,s1,s2,s3,s4,s5,s6⟩
         go_simp
         with_reducible rfl
        rotate_left
        ·simp only [Act.put,ls_,lz_,lc_,i64_w,i32_w]
         rfl
        refine pure_ (i:=6) (N:=some 22) (v:=?_) (a':=?_) #[T_,T_,T_,T_,T_,T_,T_,F_,F_,F_] rfl rfl (any_of HT_.out (by kernel_rfl)) (fun _ _ _ h=>h) (Or.inl ⟨by rfl,?_⟩) ?_ ?_
        rotate_left
        ·intro w'
         go_simp
         with_reducible rfl
        rotate_left
        ·simp only [Act.put,ls_,lz_,lc_,i64_w,i32_w]
         rfl
        refine pure_ (i:=7) (N:=some 23) (v:=?_) (a':=?_) #[T_,T_,T_,T_,T_,T_,T_,T_,F_,F_] rfl rfl (any_of HT_.out (by kernel_rfl)) (fun _ _ _ h=>h) (Or.inl ⟨by rfl,?_⟩) ?_ ?_
        rotate_left
        ·intro w'
         go_simp
         with_reducible rfl
        rotate_left
        ·simp only [Act.put,ls_,lz_,lc_,i64_w,i32_w]
         rfl
        refine one_ (i:=8) (N:=some 24) #[T_,T_,T_,T_,T_,T_,T_,T_,T_,F_] rfl rfl (one_of HT_.out (by kernel_rfl)) (by decide) (fun K hK=>?_)
        refine goes_ Try.func31 (by kernel_rfl) rfl #[.int .i64 (rd l1 x7_1),.int .i64 0,.int .i64 (wrap64 ((x146005_1.length:Int) - 1))] (by rfl) rfl rfl (by (try simp only [List.map_toArray,List.map_cons,List.map_nil]);first|done|rfl|(simp only [ld_,lt_];rfl)) ?_
        with_reducible refine (spec_l01In.calls (rd l1 x7_1) 0 (wrap64 ((x146005_1.length:Int) - 1)) true _ A9.out).mono ?_
        rintro e w' ⟨rfl,⟨nd,rfl⟩⟩
        refine ⟨_,rfl,?_⟩
        refine hK.out _ _ ⟨(bc_ BK145.out 0).trans rfl,(bc_ BK145.out 1).trans rfl,(bc_ BK145.out 2).trans rfl,(bc_ BK145.out 3).trans rfl,(bc_ BK145.out 4).trans rfl,(bc_ BK145.out 5).trans rfl,((HB.out.cell (bl_ w _ hw146_0)).trans hw146_0)⟩ (fun hHeld=>?_)
        clear hK K
        refine norm_ (a':=?_) ?_ ?_
        rotate_left
        ·show Act.put _ (some 24) _=_
         simp only [Act.put,ls_,lz_,lc_,i64_w,i32_w]
         rfl
        refine pure_ (i:=9) (N:=some 25) (v:=?_) (a':=?_) #[T_,T_,T_,T_,T_,T_,T_,T_,T_,T_] rfl rfl (any_of HT_.out (by kernel_rfl)) (fun _ _ _ h=>h) (Or.inl ⟨by rfl,?_⟩) ?_ ?_
        rotate_left
        ·intro w'
         go_simp
         with_reducible rfl
        rotate_left
        ·simp only [Act.put,ls_,lz_,lc_,i64_w,i32_w]
         rfl
        refine done_ (done_of HT_.out (by kernel_rfl)) ?_
        try go_wp2
        (try (rw [drewN_self w13];generalize hq_:World.drewN w13 _=w13;have n0_:Aside0 (Kd.V k63 63 w13 w.heap.size (fun k_=>(P0_ k_∨w.heap.size≤k_)∧k_≠gb144∧k_≠gb145) u146004 x146004_1):=⟨by rw [←hq_];exact (by (with_reducible repeat (first|apply Kd.V_alloc|apply Kd.V_drewN|apply Kd.V_drew));exact HO_146004.out)⟩;have n1_:Aside0 (Kd.V k28 28 w13 w.heap.size (fun k_=>(P0_ k_∨w.heap.size≤k_)∧k_≠gb144∧k_≠gb145) (.slice Ao14 x146005_1.length co14) x146005_1):=⟨by rw [←hq_];exact (by (with_reducible repeat (first|apply Kd.V_alloc|apply Kd.V_drewN|apply Kd.V_drew));exact HO_146005.out)⟩;have n2_:Aside0 (w13.heap[gb144]? = some (.cells #[.int .i64 x145000_1,.int .i64 x145001_1,.string x145002_1,.string x145003_1,.slice none 0 0,.slice none 0 0] 28 (0,0))):=⟨by rw [←hq_];exact (by (with_reducible repeat (first|refine kn_ ?_ _|refine kd_ ?_|refine ka_ ?_ _));exact BK144.out)⟩;have n3_:Aside0 (w13.heap[gb145]? = some (.cells #[.int .i64 x146000_1,.int .i64 x146001_1,.string x146002_1,.string x146003_1,u146004,.slice Ao14 x146005_1.length co14] 28 (0,0))):=⟨by rw [←hq_];exact (by (with_reducible repeat (first|refine kn_ ?_ _|refine kd_ ?_|refine ka_ ?_ _));exact BK145.out)⟩;have n4_:Aside0 (Below w.heap.size w w13):=⟨by rw [←hq_];exact (by repeat (first|(with_reducible first|exact HB.out|apply ba_|apply pd_|apply b1_|refine bs_ ?_ GE144.out|refine bs_ ?_ GE145.out)|exact HB.out))⟩;clear HO_146004 HO_146005 BK144 BK145 HB hq_;have HO_146004:=n0_;have HO_146005:=n1_;have BK144:=n2_;have BK145:=n3_;have HB:=n4_;clear n0_ n1_ n2_ n3_ n4_))
        have n0_:=A_ (Kd.V_drew HO_146004.out)
        have n1_:=A_ (Kd.V_drew HO_146005.out)
        have n2_:=A_ (kd_ BK144.out)
        have n3_:=A_ (kd_ BK145.out)
        have n4_:=A_ (b1_ HB.out)
        clear HO_146004
        clear HO_146005
        clear BK144
        clear BK145
        clear HB
        have HO_146004:=n0_
        have HO_146005:=n1_
        have BK144:=n2_
        have BK145:=n3_
        have HB:=n4_
        clear n0_ n1_ n2_ n3_ n4_
        have p148:0≤(x7_1:Int):=od_ (by first|(with_reducible assumption)|assumption)
        have q148:x7_1<(l1.length:Int):=od_ (by first|(with_reducible assumption)|assumption)
        obtain ⟨ad148,e148,hx148_0⟩:=Kd.at_int HR1.out x7_1 p148 q148
        have hw148_0:=hx148_0
        obtain rfl:ad146=ad148:=(by injection e148)
        replace hx148_0:=(HB.out.cell (bl_ w _ hx148_0)).trans hx148_0
        replace p148:=eq_true p148
        replace q148:=eq_true q148
        have p149:0≤((rd l1 x7_1):Int):=od_ (by first|(with_reducible assumption)|assumption)
        have q149:(rd l1 x7_1)<(x146005_1.length:Int):=od_ (by first|(with_reducible assumption)|assumption)
        obtain ⟨ad149,A149_4,c149_4,A149_5,c149_5,e149,hx149_0,hx149_1,hx149_2,hx149_3,hx149_4,hx149_5,hl149_4,hi149_4,hl149_5,hi149_5⟩:=at_T28 (Kd.V_reads' HO_146005.out).2.2 (rd l1 x7_1) p149 q149
        cases e149
        obtain ⟨ce149,hce149,hMe149,hcc149⟩:=Kd.V_get HO_146005.out z28 (rd l1 x7_1) p149 (by first|exact q149|exact od_ (by first|(with_reducible assumption)|assumption)|(have e_:=(Kd.V_reads' HO_146005.out).1;omega))
        obtain ⟨ua149_4,uc149_4,ua149_5,uc149_5,rfl,ul149_4,ge149_4,ul149_5,ge149_5⟩:=k28_openF hMe149
        have hv149_4:=hcc149 4 _ rfl
        rw [add_field _ _ 4 (by omega)] at hv149_4
        replace hv149_4:=oi_ (hv149_4.symm.trans hx149_4)
        injection hv149_4 with hva_ hvn_ hvc_
        rw [hva_] at ge149_4
        rw [hvc_] at ul149_4
        have HL149_4:=A_ (show Kd.V k63 63 _ w.heap.size _ _ ((rd_T28 x146005_1 (rd l1 x7_1)).f4) from Kd.V_mk ul149_4 ge149_4)
        clear hva_ hvn_ hvc_ ge149_4 ul149_4
        have hv149_5:=hcc149 5 _ rfl
        rw [add_field _ _ 5 (by omega)] at hv149_5
        replace hv149_5:=oi_ (hv149_5.symm.trans hx149_5)
        injection hv149_5 with hva_ hvn_ hvc_
        rw [hva_] at ge149_5
        rw [hvc_] at ul149_5
        have HL149_5:=A_ (show Kd.V k28 28 _ w.heap.size _ _ ((rd_T28 x146005_1 (rd l1 x7_1)).f5) from Kd.V_mk ul149_5 ge149_5)
        clear hva_ hvn_ hvc_ ge149_5 ul149_5
        clear hcc149 hce149
        have HR149_4:=A_ hi149_4
        have HC149_4:=A_ hl149_4
        clear hi149_4 hl149_4
        have HR149_5:=A_ hi149_5
        have HC149_5:=A_ hl149_5
        clear hi149_5 hl149_5
        replace p149:=eq_true p149
        replace q149:=eq_true q149
        refine start_ (n:=9) (S:=fun w'=>w'.cell? ⟨gb145,0,none⟩=some (.int .i64 x146000_1)∧w'.cell? ⟨gb145,1,none⟩=some (.int .i64 x146001_1)∧w'.cell? ⟨gb145,2,none⟩=some (.string x146002_1)∧w'.cell? ⟨gb145,3,none⟩=some (.string x146003_1)∧w'.cell? ⟨gb145,4,none⟩=some (u146004)∧w'.cell? ⟨gb145,5,none⟩=some (.slice (some ad149) x146005_1.length co14)∧w'.cell? (ad146.add (x7_1).toNat)=some (.int .i64 (rd l1 x7_1))∧w'.cell? (ad149.add (((rd l1 x7_1)).toNat * 6))=some (.int .i64 ((rd_T28 x146005_1 (rd l1 x7_1)).f0))∧w'.cell? ⟨(ad149.add (((rd l1 x7_1)).toNat * 6)).block,(ad149.add (((rd l1 x7_1)).toNat * 6)).off+1,none⟩=some (.int .i64 ((rd_T28 x146005_1 (rd l1 x7_1)).f1))∧w'.cell? ⟨(ad149.add (((rd l1 x7_1)).toNat * 6)).block,(ad149.add (((rd l1 x7_1)).toNat * 6)).off+2,none⟩=some (.string ((rd_T28 x146005_1 (rd l1 x7_1)).f2))∧w'.cell? ⟨(ad149.add (((rd l1 x7_1)).toNat * 6)).block,(ad149.add (((rd l1 x7_1)).toNat * 6)).off+3,none⟩=some (.string ((rd_T28 x146005_1 (rd l1 x7_1)).f3))∧w'.cell? ⟨(ad149.add (((rd l1 x7_1)).toNat * 6)).block,(ad149.add (((rd l1 x7_1)).toNat * 6)).off+4,none⟩=some (.slice A149_4 ((rd_T28 x146005_1 (rd l1 x7_1)).f4).length c149_4)∧w'.cell? ⟨(ad149.add (((rd l1 x7_1)).toNat * 6)).block,(ad149.add (((rd l1 x7_1)).toNat * 6)).off+5,none⟩=some (.slice A149_5 ((rd_T28 x146005_1 (rd l1 x7_1)).f5).length c149_5)) (ds:=[8]) #[F_,F_,F_,F_,F_,F_,F_,F_,F_] (by kernel_rfl) rfl rfl ⟨(bc_ BK145.out 0).trans rfl,(bc_ BK145.out 1).trans rfl,(bc_ BK145.out 2).trans rfl,(bc_ BK145.out 3).trans rfl,(bc_ BK145.out 4).trans rfl,(bc_ BK145.out 5).trans rfl,((HB.out.cell (bl_ w _ hw148_0)).trans hw148_0),hx149_0,hx149_1,hx149_2,hx149_3,hx149_4,hx149_5⟩ (fun hHeld=>?_);refine with_tabW spec_l03At.tab7 spec_l03At.bits7 (fun HT_ HW_=>?_)
        generalize w13.drew=w15 at HO_146004 HO_146005 BK144 BK145 HB HL149_4 HL149_5 HR149_4 HR149_5 hx148_0 hx149_0 hx149_1 hx149_2 hx149_3 hx149_4 hx149_5 hHeld ⊢
        refine pure_ (i:=0) (N:=some 27) (v:=?_) (a':=?_) #[T_,F_,F_,F_,F_,F_,F_,F_,F_] rfl rfl (any_of HT_.out (by kernel_rfl)) (fun _ _ _ h=>h) (Or.inl ⟨by rfl,?_⟩) ?_ ?_
        rotate_left
        ·intro w'
         go_simp
         with_reducible rfl
        rotate_left
        ·simp only [Act.put,ls_,lz_,lc_,i64_w,i32_w]
         rfl
        refine pure_ (i:=2) (N:=some 29) (v:=?_) (a':=?_) #[T_,F_,T_,F_,F_,F_,F_,F_,F_] rfl rfl (any_of HT_.out (by kernel_rfl)) (fun _ _ _ h=>h) (Or.inl ⟨by rfl,?_⟩) ?_ ?_
        rotate_left
        ·intro w'
         go_simp
         with_reducible rfl
        rotate_left
        ·simp only [Act.put,ls_,lz_,lc_,i64_w,i32_w]
         rfl
        refine pure_ (i:=3) (N:=some 30) (v:=?_) (a':=?_) #[T_,F_,T_,T_,F_,F_,F_,F_,F_] rfl rfl (any_of HT_.out (by kernel_rfl)) (fun _ _ _ h=>h) (Or.inl ⟨by rfl,?_⟩) ?_ ?_
        rotate_left
        ·intro w'
         go_simp
         with_reducible rfl
        rotate_left
        ·simp only [Act.put,ls_,lz_,lc_,i64_w,i32_w]
         rfl
        refine pure_ (i:=4) (N:=some 31) (v:=?_) (a':=?_) #[T_,F_,T_,T_,T_,F_,F_,F_,F_] rfl rfl (any_of HT_.out (by kernel_rfl)) (fun _ _ _ h=>h) (Or.inl ⟨by rfl,?_⟩) ?_ ?_
        rotate_left
        ·intro w'
         go_simp
         with_reducible rfl
        rotate_left
        ·simp only [Act.put,ls_,lz_,lc_,i64_w,i32_w]
         rfl
        refine take_ (i:=1) (N:=some 28) (v:=?_) (a':=?_) #[T_,T_,T_,T_,T_,F_,F_,F_,F_] rfl rfl (take_ofW HT_.out HW_.out (by kernel_rfl)) (fun _ _ _ h=>h) (Or.inl ⟨by rfl,?_⟩) hHeld ?_ ?_
        rotate_left
        ·rintro w' ⟨s0,s1,s2,s3,s4,s5,s6,s7,s8,s9,s10,s11,s12⟩
         go_simp
         with_reducible rfl
        rotate_left
        ·simp only [Act.put,ls_,lz_,lc_,i64_w,i32_w]
         rfl
        refine take_ (i:=5) (N:=some 32) (v:=?_) (a':=?_) #[T_,T_,T_,T_,T_,T_,F_,F_,F_] rfl rfl (take_ofW HT_.out HW_.out (by kernel_rfl)) (fun _ _ _ h=>h) (Or.inl ⟨by rfl,?_⟩) hHeld ?_ ?_
        rotate_left
        ·rintro w' ⟨s0,s1,s2,s3,s4,s5,s6,s7,s8,s9,s10,s11,s12⟩
         go_simp
         with_reducible rfl
        rotate_left
        ·simp only [Act.put,ls_,lz_,lc_,i64_w,i32_w]
         rfl
        refine pure_ (i:=6) (N:=some 33) (v:=?_) (a':=?_) #[T_,T_,T_,T_,T_,T_,T_,F_,F_] rfl rfl (any_of HT_.out (by kernel_rfl)) (fun _ _ _ h=>h) (Or.inl ⟨by rfl,?_⟩) ?_ ?_
        rotate_left
        ·intro w'
         go_simp
         with_reducible rfl
        rotate_left
        ·simp only [Act.put,ls_,lz_,lc_,i64_w,i32_w]
         rfl
        refine take_ (i:=7) (N:=some 34) (v:=?_) (a':=?_) #[T_,T_,T_,T_,T_,T_,T_,T_,F_] rfl rfl (take_ofW HT_.out HW_.out (by kernel_rfl)) (fun _ _ _ h=>h) (Or.inl ⟨by rfl,?_⟩) hHeld ?_ ?_
        rotate_left
        ·rintro w' ⟨s0,s1,s2,s3,s4,s5,s6,s7,s8,s9,s10,s11,s12⟩
         go_simp
         with_reducible rfl
        rotate_left
        ·simp only [Act.put,ls_,lz_,lc_,i64_w,i32_w]
         rfl
        refine last_ (i:=8) (N:=none) #[T_,T_,T_,T_,T_,T_,T_,T_,T_] rfl rfl (one_of HT_.out (by kernel_rfl)) (by decide) (fun K hK=>?_)
        have hs16:w15.cell? ⟨gb145,0,none⟩=some (.int .i64 x146000_1):=(bc_ BK145.out 0).trans rfl
        have hfs16:=bf_ BK145.out 0
        have hns16_0:=NB144_145.out
        have hms16_0:=NB145_144.out
        have hs17:w15.cell? ⟨gb145,1,none⟩=some (.int .i64 x146001_1):=(bc_ BK145.out 1).trans rfl
        have hfs17:=bf_ BK145.out 1
        have hns17_0:=NB144_145.out
        have hms17_0:=NB145_144.out
        have hs18:w15.cell? ⟨gb145,2,none⟩=some (.string x146002_1):=(bc_ BK145.out 2).trans rfl
        have hfs18:=bf_ BK145.out 2
        have hns18_0:=NB144_145.out
        have hms18_0:=NB145_144.out
        have hs19:w15.cell? ⟨gb145,3,none⟩=some (.string x146003_1):=(bc_ BK145.out 3).trans rfl
        have hfs19:=bf_ BK145.out 3
        have hns19_0:=NB144_145.out
        have hms19_0:=NB145_144.out
        have hs20:w15.cell? ⟨gb145,4,none⟩=some (u146004):=(bc_ BK145.out 4).trans rfl
        have hfs20:=bf_ BK145.out 4
        have hns20_0:=NB144_145.out
        have hms20_0:=NB145_144.out
        have hs21:w15.cell? ⟨gb145,5,none⟩=some (.slice (some ad149) x146005_1.length co14):=(bc_ BK145.out 5).trans rfl
        have hfs21:=bf_ BK145.out 5
        have hns21_0:=NB144_145.out
        have hms21_0:=NB145_144.out
        refine skip_ (w1:=?_) (by rfl) rfl ?_ ?_
        rotate_left
        ·go_simp
         rfl
        refine hK.out _ _ ?_
        clear hK K
        refine done_ (done_of HT_.out (by kernel_rfl)) ?_
        try go_wp2
        go_roundg k1
        case measure=>have:=HK1.out;omega
        case rel=>exact ⟨(wrap64 (x7_1+1)),(x145000_1),(x145001_1),(x145002_1),(x145003_1),((rd_T28 x146005_1 (rd l1 x7_1)).f0),((rd_T28 x146005_1 (rd l1 x7_1)).f1),((rd_T28 x146005_1 (rd l1 x7_1)).f2),((rd_T28 x146005_1 (rd l1 x7_1)).f3),((rd_T28 x146005_1 (rd l1 x7_1)).f4),((rd_T28 x146005_1 (rd l1 x7_1)).f5),(.slice A149_4 ((rd_T28 x146005_1 (rd l1 x7_1)).f4).length c149_4),(.slice A149_5 ((rd_T28 x146005_1 (rd l1 x7_1)).f5).length c149_5),(by first|rfl|(simp;done)|(simp [*];done)),H',⟨by have:=HK1.out;omega⟩,⟨by (with_reducible repeat (first|apply Kd.V_alloc|apply Kd.V_drewN|apply Kd.V_drew));exact Kd.V_mono (Kd.V_far (p:=⟨gb145,5,none⟩) (Kd.V_far (p:=⟨gb145,4,none⟩) (Kd.V_far (p:=⟨gb145,3,none⟩) (Kd.V_far (p:=⟨gb145,2,none⟩) (Kd.V_far (p:=⟨gb145,1,none⟩) (Kd.V_far (p:=⟨gb145,0,none⟩) (Kd.V_mono HL149_4.out (fun k_ hk=>(⟨hk,hk.2.2⟩:_∧k_≠gb145))) (fun _ hk=>hk.2) (.int .i64 ((rd_T28 x146005_1 (rd l1 x7_1)).f0))) (fun _ hk=>hk.2) (.int .i64 ((rd_T28 x146005_1 (rd l1 x7_1)).f1))) (fun _ hk=>hk.2) (.string ((rd_T28 x146005_1 (rd l1 x7_1)).f2))) (fun _ hk=>hk.2) (.string ((rd_T28 x146005_1 (rd l1 x7_1)).f3))) (fun _ hk=>hk.2) (.slice A149_4 ((rd_T28 x146005_1 (rd l1 x7_1)).f4).length c149_4)) (fun _ hk=>hk.2) (.slice A149_5 ((rd_T28 x146005_1 (rd l1 x7_1)).f5).length c149_5)) (fun _ hk=>⟨hk.1.1,⟨hk.1.2.1,hk.1.2.2⟩⟩)⟩,⟨by (with_reducible repeat (first|apply Kd.V_alloc|apply Kd.V_drewN|apply Kd.V_drew));exact Kd.V_mono (Kd.V_far (p:=⟨gb145,5,none⟩) (Kd.V_far (p:=⟨gb145,4,none⟩) (Kd.V_far (p:=⟨gb145,3,none⟩) (Kd.V_far (p:=⟨gb145,2,none⟩) (Kd.V_far (p:=⟨gb145,1,none⟩) (Kd.V_far (p:=⟨gb145,0,none⟩) (Kd.V_mono HL149_5.out (fun k_ hk=>(⟨hk,hk.2.2⟩:_∧k_≠gb145))) (fun _ hk=>hk.2) (.int .i64 ((rd_T28 x146005_1 (rd l1 x7_1)).f0))) (fun _ hk=>hk.2) (.int .i64 ((rd_T28 x146005_1 (rd l1 x7_1)).f1))) (fun _ hk=>hk.2) (.string ((rd_T28 x146005_1 (rd l1 x7_1)).f2))) (fun _ hk=>hk.2) (.string ((rd_T28 x146005_1 (rd l1 x7_1)).f3))) (fun _ hk=>hk.2) (.slice A149_4 ((rd_T28 x146005_1 (rd l1 x7_1)).f4).length c149_4)) (fun _ hk=>hk.2) (.slice A149_5 ((rd_T28 x146005_1 (rd l1 x7_1)).f5).length c149_5)) (fun _ hk=>⟨hk.1.1,⟨hk.1.2.1,hk.1.2.2⟩⟩)⟩,⟨by (with_reducible repeat (first|refine kn_ ?_ _|refine kd_ ?_|refine ka_ ?_ _));refine blk_far ?_ NB144_145.out _;(with_reducible repeat (first|refine kn_ ?_ _|refine kd_ ?_|refine ka_ ?_ _));refine blk_far ?_ NB144_145.out _;(with_reducible repeat (first|refine kn_ ?_ _|refine kd_ ?_|refine ka_ ?_ _));refine blk_far ?_ NB144_145.out _;(with_reducible repeat (first|refine kn_ ?_ _|refine kd_ ?_|refine ka_ ?_ _));refine blk_far ?_ NB144_145.out _;(with_reducible repeat (first|refine kn_ ?_ _|refine kd_ ?_|refine ka_ ?_ _));refine blk_far ?_ NB144_145.out _;(with_reducible repeat (first|refine kn_ ?_ _|refine kd_ ?_|refine ka_ ?_ _));refine blk_far ?_ NB144_145.out _;(with_reducible repeat (first|refine kn_ ?_ _|refine kd_ ?_|refine ka_ ?_ _));exact BK144.out⟩,⟨by (with_reducible repeat (first|refine kn_ ?_ _|refine kd_ ?_|refine ka_ ?_ _));refine blk_put (cs:=#[.int .i64 ((rd_T28 x146005_1 (rd l1 x7_1)).f0),.int .i64 ((rd_T28 x146005_1 (rd l1 x7_1)).f1),.string ((rd_T28 x146005_1 (rd l1 x7_1)).f2),.string ((rd_T28 x146005_1 (rd l1 x7_1)).f3),.slice A149_4 ((rd_T28 x146005_1 (rd l1 x7_1)).f4).length c149_4,.slice (some ad149) x146005_1.length co14]) ?_ 5 _ rfl;(with_reducible repeat (first|refine kn_ ?_ _|refine kd_ ?_|refine ka_ ?_ _));refine blk_put (cs:=#[.int .i64 ((rd_T28 x146005_1 (rd l1 x7_1)).f0),.int .i64 ((rd_T28 x146005_1 (rd l1 x7_1)).f1),.string ((rd_T28 x146005_1 (rd l1 x7_1)).f2),.string ((rd_T28 x146005_1 (rd l1 x7_1)).f3),u146004,.slice (some ad149) x146005_1.length co14]) ?_ 4 _ rfl;(with_reducible repeat (first|refine kn_ ?_ _|refine kd_ ?_|refine ka_ ?_ _));refine blk_put (cs:=#[.int .i64 ((rd_T28 x146005_1 (rd l1 x7_1)).f0),.int .i64 ((rd_T28 x146005_1 (rd l1 x7_1)).f1),.string ((rd_T28 x146005_1 (rd l1 x7_1)).f2),.string x146003_1,u146004,.slice (some ad149) x146005_1.length co14]) ?_ 3 _ rfl;(with_reducible repeat (first|refine kn_ ?_ _|refine kd_ ?_|refine ka_ ?_ _));refine blk_put (cs:=#[.int .i64 ((rd_T28 x146005_1 (rd l1 x7_1)).f0),.int .i64 ((rd_T28 x146005_1 (rd l1 x7_1)).f1),.string x146002_1,.string x146003_1,u146004,.slice (some ad149) x146005_1.length co14]) ?_ 2 _ rfl;(with_reducible repeat (first|refine kn_ ?_ _|refine kd_ ?_|refine ka_ ?_ _));refine blk_put (cs:=#[.int .i64 ((rd_T28 x146005_1 (rd l1 x7_1)).f0),.int .i64 x146001_1,.string x146002_1,.string x146003_1,u146004,.slice (some ad149) x146005_1.length co14]) ?_ 1 _ rfl;(with_reducible repeat (first|refine kn_ ?_ _|refine kd_ ?_|refine ka_ ?_ _));refine blk_put (cs:=#[.int .i64 x146000_1,.int .i64 x146001_1,.string x146002_1,.string x146003_1,u146004,.slice (some ad149) x146005_1.length co14]) ?_ 0 _ rfl;(with_reducible repeat (first|refine kn_ ?_ _|refine kd_ ?_|refine ka_ ?_ _));exact BK145.out⟩,⟨by repeat (first|(with_reducible first|exact HB.out|apply ba_|apply pd_|apply b1_|refine bs_ ?_ GE144.out|refine bs_ ?_ GE145.out)|exact HB.out)⟩⟩
       ·rw [if_neg c12] at H
        exact absurd H (by simp)
      ·rw [if_neg c11] at H
       exact absurd H (by simp)
     ·replace c10:=bm_ c10
      subst c10
      have H1:(some (0,0,(⟨#[]⟩:ByteArray),(⟨#[]⟩:ByteArray),([]:List (S63)),([]:List (S28)),false))=some (r1,r2,r3,r4,r5,r6,r7):=by rw [if_neg (show ¬ (false=true) by decide)] at H;exact H
      clear H
      have H:=H1
      clear H1
      simp only [Option.some.injEq,Prod.mk.injEq] at H
      obtain ⟨rfl,rfl,rfl,rfl,rfl,rfl,rfl⟩:=H
      try go_wp2
      have n0_:=A_ (Kd.V_drew HO_146004.out)
      have n1_:=A_ (Kd.V_drew HO_146005.out)
      have n2_:=A_ (kd_ BK144.out)
      have n3_:=A_ (kd_ BK145.out)
      have n4_:=A_ (b1_ HB.out)
      clear HO_146004
      clear HO_146005
      clear BK144
      clear BK145
      clear HB
      have HO_146004:=n0_
      have HO_146005:=n1_
      have BK144:=n2_
      have BK145:=n3_
      have HB:=n4_
      clear n0_ n1_ n2_ n3_ n4_
      have p146:0≤(x7_1:Int):=od_ (by first|(with_reducible assumption)|assumption)
      have q146:x7_1<(l1.length:Int):=od_ (by first|(with_reducible assumption)|assumption)
      obtain ⟨ad146,e146,hx146_0⟩:=Kd.at_int HR1.out x7_1 p146 q146
      have hw146_0:=hx146_0
      cases e146
      replace hx146_0:=(HB.out.cell (bl_ w _ hx146_0)).trans hx146_0
      replace p146:=eq_true p146
      replace q146:=eq_true q146
      obtain ⟨Ao23,co23,eo23⟩:=Kd.V_slice HO_146005.out
      (first|subst eo23|(injection eo23 with f1_ f2_ f3_;have f4_:=f1_.symm;have f5_:=f3_.symm;clear f1_ f2_ f3_;subst f4_;subst f5_))
      refine start_ (n:=10) (S:=fun w'=>w'.cell? ⟨gb145,0,none⟩=some (.int .i64 x146000_1)∧w'.cell? ⟨gb145,1,none⟩=some (.int .i64 x146001_1)∧w'.cell? ⟨gb145,2,none⟩=some (.string x146002_1)∧w'.cell? ⟨gb145,3,none⟩=some (.string x146003_1)∧w'.cell? ⟨gb145,4,none⟩=some (u146004)∧w'.cell? ⟨gb145,5,none⟩=some (.slice Ao23 x146005_1.length co23)∧w'.cell? (ad146.add (x7_1).toNat)=some (.int .i64 (rd l1 x7_1))) (ds:=[]) #[F_,F_,F_,F_,F_,F_,F_,F_,F_,F_] (by kernel_rfl) rfl rfl ⟨(bc_ BK145.out 0).trans rfl,(bc_ BK145.out 1).trans rfl,(bc_ BK145.out 2).trans rfl,(bc_ BK145.out 3).trans rfl,(bc_ BK145.out 4).trans rfl,(bc_ BK145.out 5).trans rfl,((HB.out.cell (bl_ w _ hw146_0)).trans hw146_0)⟩ (fun hHeld=>?_);refine with_tabW spec_l03At.tab5 spec_l03At.bits5 (fun HT_ HW_=>?_)
      generalize wr.drew=w22 at HO_146004 HO_146005 BK144 BK145 HB hx146_0 hHeld ⊢
      refine pure_ (i:=0) (N:=some 16) (v:=?_) (a':=?_) #[T_,F_,F_,F_,F_,F_,F_,F_,F_,F_] rfl rfl (any_of HT_.out (by kernel_rfl)) (fun _ _ _ h=>h) (Or.inl ⟨by rfl,?_⟩) ?_ ?_
      rotate_left
      ·intro w'
       go_simp
       with_reducible rfl
      rotate_left
      ·simp only [Act.put,ls_,lz_,lc_,i64_w,i32_w]
       rfl
      refine pure_ (i:=1) (N:=some 17) (v:=?_) (a':=?_) #[T_,T_,F_,F_,F_,F_,F_,F_,F_,F_] rfl rfl (any_of HT_.out (by kernel_rfl)) (fun _ _ _ h=>h) (Or.inl ⟨by rfl,?_⟩) ?_ ?_
      rotate_left
      ·intro w'
       go_simp
       with_reducible rfl
      rotate_left
      ·simp only [Act.put,ls_,lz_,lc_,i64_w,i32_w]
       rfl
      refine pure_ (i:=2) (N:=some 18) (v:=?_) (a':=?_) #[T_,T_,T_,F_,F_,F_,F_,F_,F_,F_] rfl rfl (any_of HT_.out (by kernel_rfl)) (fun _ _ _ h=>h) (Or.inl ⟨by rfl,?_⟩) ?_ ?_
      rotate_left
      ·intro w'
       go_simp
       with_reducible rfl
      rotate_left
      ·simp only [Act.put,ls_,lz_,lc_,i64_w,i32_w]
       rfl
      refine pure_ (i:=4) (N:=some 20) (v:=?_) (a':=?_) #[T_,T_,T_,F_,T_,F_,F_,F_,F_,F_] rfl rfl (any_of HT_.out (by kernel_rfl)) (fun _ _ _ h=>h) (Or.inl ⟨by rfl,?_⟩) ?_ ?_
      rotate_left
      ·intro w'
       go_simp
       with_reducible rfl
      rotate_left
      ·simp only [Act.put,ls_,lz_,lc_,i64_w,i32_w]
       rfl
      refine take_ (i:=3) (N:=some 19) (v:=?_) (a':=?_) #[T_,T_,T_,T_,T_,F_,F_,F_,F_,F_] rfl rfl (take_ofW HT_.out HW_.out (by kernel_rfl)) (fun _ _ _ h=>h) (Or.inl ⟨by rfl,?_⟩) hHeld ?_ ?_
      rotate_left
      ·rintro w' ⟨s0,s1,s2,s3,s4,s5,s6⟩
       go_simp
       with_reducible rfl
      rotate_left
      ·simp only [Act.put,ls_,lz_,lc_,i64_w,i32_w]
       rfl
      refine take_ (i:=5) (N:=some 21) (v:=?_) (a':=?_) #[T_,T_,T_,T_,T_,T_,F_,F_,F_,F_] rfl rfl (take_ofW HT_.out HW_.out (by kernel_rfl)) (fun _ _ _ h=>h) (Or.inl ⟨by rfl,?_⟩) hHeld ?_ ?_
      rotate_left
      ·rintro w' ⟨s0,s1,s2,s3,s4,s5,s6⟩
       go_simp
       with_reducible rfl
      rotate_left
      ·simp only [Act.put,ls_,lz_,lc_,i64_w,i32_w]
       rfl
      refine pure_ (i:=6) (N:=some 22) (v:=?_) (a':=?_) #[T_,T_,T_,T_,T_,T_,T_,F_,F_,F_] rfl rfl (any_of HT_.out (by kernel_rfl)) (fun _ _ _ h=>h) (Or.inl ⟨by rfl,?_⟩) ?_ ?_
      rotate_left
      ·intro w'
       go_simp
       with_reducible rfl
      rotate_left
      ·simp only [Act.put,ls_,lz_,lc_,i64_w,i32_w]
       rfl
      refine pure_ (i:=7) (N:=some 23) (v:=?_) (a':=?_) #[T_,T_,T_,T_,T_,T_,T_,T_,F_,F_] rfl rfl (any_of HT_.out (by kernel_rfl)) (fun _ _ _ h=>h) (Or.inl ⟨by rfl,?_⟩) ?_ ?_
      rotate_left
      ·intro w'
       go_simp
       with_reducible rfl
      rotate_left
      ·simp only [Act.put,ls_,lz_,lc_,i64_w,i32_w]
       rfl
      refine one_ (i:=8) (N:=some 24) #[T_,T_,T_,T_,T_,T_,T_,T_,T_,F_] rfl rfl (one_of HT_.out (by kernel_rfl)) (by decide) (fun K hK=>?_)
      refine goes_ Try.func31 (by kernel_rfl) rfl #[.int .i64 (rd l1 x7_1),.int .i64 0,.int .i64 (wrap64 ((x146005_1.length:Int) - 1))] (by rfl) rfl rfl (by (try simp only [List.map_toArray,List.map_cons,List.map_nil]);first|done|rfl|(simp only [ld_,lt_];rfl)) ?_
      with_reducible refine (spec_l01In.calls (rd l1 x7_1) 0 (wrap64 ((x146005_1.length:Int) - 1)) false _ A9.out).mono ?_
      rintro e w' ⟨rfl,⟨nd,rfl⟩⟩
      refine ⟨_,rfl,?_⟩
      refine hK.out _ _ ⟨(bc_ BK145.out 0).trans rfl,(bc_ BK145.out 1).trans rfl,(bc_ BK145.out 2).trans rfl,(bc_ BK145.out 3).trans rfl,(bc_ BK145.out 4).trans rfl,(bc_ BK145.out 5).trans rfl,((HB.out.cell (bl_ w _ hw146_0)).trans hw146_0)⟩ (fun hHeld=>?_)
      clear hK K
      refine norm_ (a':=?_) ?_ ?_
      rotate_left
      ·show Act.put _ (some 24) _=_
       simp only [Act.put,ls_,lz_,lc_,i64_w,i32_w]
       rfl
      refine pure_ (i:=9) (N:=some 25) (v:=?_) (a':=?_) #[T_,T_,T_,T_,T_,T_,T_,T_,T_,T_] rfl rfl (any_of HT_.out (by kernel_rfl)) (fun _ _ _ h=>h) (Or.inl ⟨by rfl,?_⟩) ?_ ?_
      rotate_left
      ·intro w'
       go_simp
       with_reducible rfl
      rotate_left
      ·simp only [Act.put,ls_,lz_,lc_,i64_w,i32_w]
       rfl
      refine done_ (done_of HT_.out (by kernel_rfl)) ?_
      have hnb24:=NB144_145.out
      have hnc24:=NB145_144.out
      have hcz25_0:w22.cell? ⟨gb144,0,none⟩=some (.int .i64 x145000_1):=(bc_ BK144.out 0).trans rfl
      have hcz25_1:w22.cell? ⟨gb144,1,none⟩=some (.int .i64 x145001_1):=(bc_ BK144.out 1).trans rfl
      have hcz25_2:w22.cell? ⟨gb144,2,none⟩=some (.string x145002_1):=(bc_ BK144.out 2).trans rfl
      have hcz25_3:w22.cell? ⟨gb144,3,none⟩=some (.string x145003_1):=(bc_ BK144.out 3).trans rfl
      have hcz25_4:w22.cell? ⟨gb144,4,none⟩=some (.slice none 0 0):=(bc_ BK144.out 4).trans rfl
      have hcz25_5:w22.cell? ⟨gb144,5,none⟩=some (.slice none 0 0):=(bc_ BK144.out 5).trans rfl
      have hfz25_0:=bf_ BK144.out 0
      have hfz25_1:=bf_ BK144.out 1
      have hfz25_2:=bf_ BK144.out 2
      have hfz25_3:=bf_ BK144.out 3
      have hfz25_4:=bf_ BK144.out 4
      have hfz25_5:=bf_ BK144.out 5
      try go_wp2
      refine bodyPost_ret (results_ct rfl _ _ gb144 28 #[.int .i64 0,.int .i64 0,.string (⟨#[]⟩:ByteArray),.string (⟨#[]⟩:ByteArray),.slice none 0 0,.slice none 0 0] (0,0) _ rfl (by (with_reducible repeat (first|refine kn_ ?_ _|refine kd_ ?_|refine ka_ ?_ _));refine blk_put (cs:=#[.int .i64 0,.int .i64 0,.string (⟨#[]⟩:ByteArray),.string (⟨#[]⟩:ByteArray),.slice none 0 0,.slice none 0 0]) ?_ 5 _ rfl;(with_reducible repeat (first|refine kn_ ?_ _|refine kd_ ?_|refine ka_ ?_ _));refine blk_put (cs:=#[.int .i64 0,.int .i64 0,.string (⟨#[]⟩:ByteArray),.string (⟨#[]⟩:ByteArray),.slice none 0 0,.slice none 0 0]) ?_ 4 _ rfl;(with_reducible repeat (first|refine kn_ ?_ _|refine kd_ ?_|refine ka_ ?_ _));refine blk_put (cs:=#[.int .i64 0,.int .i64 0,.string (⟨#[]⟩:ByteArray),.string x145003_1,.slice none 0 0,.slice none 0 0]) ?_ 3 _ rfl;(with_reducible repeat (first|refine kn_ ?_ _|refine kd_ ?_|refine ka_ ?_ _));refine blk_put (cs:=#[.int .i64 0,.int .i64 0,.string x145002_1,.string x145003_1,.slice none 0 0,.slice none 0 0]) ?_ 2 _ rfl;(with_reducible repeat (first|refine kn_ ?_ _|refine kd_ ?_|refine ka_ ?_ _));refine blk_put (cs:=#[.int .i64 0,.int .i64 x145001_1,.string x145002_1,.string x145003_1,.slice none 0 0,.slice none 0 0]) ?_ 1 _ rfl;(with_reducible repeat (first|refine kn_ ?_ _|refine kd_ ?_|refine ka_ ?_ _));refine blk_put (cs:=#[.int .i64 x145000_1,.int .i64 x145001_1,.string x145002_1,.string x145003_1,.slice none 0 0,.slice none 0 0]) ?_ 0 _ rfl;(with_reducible repeat (first|refine kn_ ?_ _|refine kd_ ?_|refine ka_ ?_ _));exact BK144.out) Try.underlying28 rfl (by kernel_rfl)) rfl ?_
      exact ⟨_,_,by first|rfl|(simp [errW_none,errW_some] <;> rfl)|(simp [*,errW_none,errW_some] <;> rfl),Kd.V_nil _ _ _ _ _,Kd.V_nil _ _ _ _ _,by repeat (first|(with_reducible first|exact HB.out|apply ba_|apply pd_|apply b1_|refine bs_ ?_ GE144.out|refine bs_ ?_ GE145.out)|exact HB.out)⟩
    ·rw [if_neg c8] at H
     exact absurd H (by simp)
   ·rw [if_neg c7] at H
    have c7b0:decide (x7_1<(l1.length:Int))=false:=df_ c7
    clear c7
    simp only [Option.some.injEq,Prod.mk.injEq] at H
    obtain ⟨rfl,rfl,rfl,rfl,rfl,rfl,rfl⟩:=H
    have hnb26:=NB145_144.out
    have hnc26:=NB144_145.out
    have hcz27_0:wr.cell? ⟨gb145,0,none⟩=some (.int .i64 x146000_1):=(bc_ BK145.out 0).trans rfl
    have hcz27_1:wr.cell? ⟨gb145,1,none⟩=some (.int .i64 x146001_1):=(bc_ BK145.out 1).trans rfl
    have hcz27_2:wr.cell? ⟨gb145,2,none⟩=some (.string x146002_1):=(bc_ BK145.out 2).trans rfl
    have hcz27_3:wr.cell? ⟨gb145,3,none⟩=some (.string x146003_1):=(bc_ BK145.out 3).trans rfl
    have hcz27_4:wr.cell? ⟨gb145,4,none⟩=some (u146004):=(bc_ BK145.out 4).trans rfl
    have hcz27_5:wr.cell? ⟨gb145,5,none⟩=some (u146005):=(bc_ BK145.out 5).trans rfl
    have hfz27_0:=bf_ BK145.out 0
    have hfz27_1:=bf_ BK145.out 1
    have hfz27_2:=bf_ BK145.out 2
    have hfz27_3:=bf_ BK145.out 3
    have hfz27_4:=bf_ BK145.out 4
    have hfz27_5:=bf_ BK145.out 5
    have hcz28_0:wr.cell? ⟨gb144,0,none⟩=some (.int .i64 x145000_1):=(bc_ BK144.out 0).trans rfl
    have hcz28_1:wr.cell? ⟨gb144,1,none⟩=some (.int .i64 x145001_1):=(bc_ BK144.out 1).trans rfl
    have hcz28_2:wr.cell? ⟨gb144,2,none⟩=some (.string x145002_1):=(bc_ BK144.out 2).trans rfl
    have hcz28_3:wr.cell? ⟨gb144,3,none⟩=some (.string x145003_1):=(bc_ BK144.out 3).trans rfl
    have hcz28_4:wr.cell? ⟨gb144,4,none⟩=some (.slice none 0 0):=(bc_ BK144.out 4).trans rfl
    have hcz28_5:wr.cell? ⟨gb144,5,none⟩=some (.slice none 0 0):=(bc_ BK144.out 5).trans rfl
    have hfz28_0:=bf_ BK144.out 0
    have hfz28_1:=bf_ BK144.out 1
    have hfz28_2:=bf_ BK144.out 2
    have hfz28_3:=bf_ BK144.out 3
    have hfz28_4:=bf_ BK144.out 4
    have hfz28_5:=bf_ BK144.out 5
    obtain ⟨Ao29,co29,eo29⟩:=Kd.V_slice HO_146004.out
    subst eo29
    obtain ⟨Ao30,co30,eo30⟩:=Kd.V_slice HO_146005.out
    subst eo30
    go_wp2
    refine bodyPost_ret (results_ct rfl _ _ gb144 28 #[.int .i64 x146000_1,.int .i64 x146001_1,.string x146002_1,.string x146003_1,.slice Ao29 x146004_1.length co29,.slice Ao30 x146005_1.length co30] (0,0) _ rfl (by (with_reducible repeat (first|refine kn_ ?_ _|refine kd_ ?_|refine ka_ ?_ _));refine blk_put (cs:=#[.int .i64 x146000_1,.int .i64 x146001_1,.string x146002_1,.string x146003_1,.slice Ao29 x146004_1.length co29,.slice none 0 0]) ?_ 5 _ rfl;(with_reducible repeat (first|refine kn_ ?_ _|refine kd_ ?_|refine ka_ ?_ _));refine blk_put (cs:=#[.int .i64 x146000_1,.int .i64 x146001_1,.string x146002_1,.string x146003_1,.slice none 0 0,.slice none 0 0]) ?_ 4 _ rfl;(with_reducible repeat (first|refine kn_ ?_ _|refine kd_ ?_|refine ka_ ?_ _));refine blk_put (cs:=#[.int .i64 x146000_1,.int .i64 x146001_1,.string x146002_1,.string x145003_1,.slice none 0 0,.slice none 0 0]) ?_ 3 _ rfl;(with_reducible repeat (first|refine kn_ ?_ _|refine kd_ ?_|refine ka_ ?_ _));refine blk_put (cs:=#[.int .i64 x146000_1,.int .i64 x146001_1,.string x145002_1,.string x145003_1,.slice none 0 0,.slice none 0 0]) ?_ 2 _ rfl;(with_reducible repeat (first|refine kn_ ?_ _|refine kd_ ?_|refine ka_ ?_ _));refine blk_put (cs:=#[.int .i64 x146000_1,.int .i64 x145001_1,.string x145002_1,.string x145003_1,.slice none 0 0,.slice none 0 0]) ?_ 1 _ rfl;(with_reducible repeat (first|refine kn_ ?_ _|refine kd_ ?_|refine ka_ ?_ _));refine blk_put (cs:=#[.int .i64 x145000_1,.int .i64 x145001_1,.string x145002_1,.string x145003_1,.slice none 0 0,.slice none 0 0]) ?_ 0 _ rfl;(with_reducible repeat (first|refine kn_ ?_ _|refine kd_ ?_|refine ka_ ?_ _));exact BK144.out) Try.underlying28 rfl (by kernel_rfl)) rfl ?_
    exact ⟨.slice Ao29 x146004_1.length co29,.slice Ao30 x146005_1.length co30,by first|rfl|(simp [errW_none,errW_some] <;> rfl)|(simp [*,errW_none,errW_some] <;> rfl),by (with_reducible repeat (first|apply Kd.V_alloc|apply Kd.V_drewN|apply Kd.V_drew));exact Kd.V_mono (Kd.V_far (p:=⟨gb144,5,none⟩) (Kd.V_far (p:=⟨gb144,4,none⟩) (Kd.V_far (p:=⟨gb144,3,none⟩) (Kd.V_far (p:=⟨gb144,2,none⟩) (Kd.V_far (p:=⟨gb144,1,none⟩) (Kd.V_far (p:=⟨gb144,0,none⟩) (Kd.V_mono HO_146004.out (fun k_ hk=>(⟨hk,hk.2.1⟩:_∧k_≠gb144))) (fun _ hk=>hk.2) (.int .i64 x146000_1)) (fun _ hk=>hk.2) (.int .i64 x146001_1)) (fun _ hk=>hk.2) (.string x146002_1)) (fun _ hk=>hk.2) (.string x146003_1)) (fun _ hk=>hk.2) (.slice Ao29 x146004_1.length co29)) (fun _ hk=>hk.2) (.slice Ao30 x146005_1.length co30)) (fun _ hk=>hk.1.1),by (with_reducible repeat (first|apply Kd.V_alloc|apply Kd.V_drewN|apply Kd.V_drew));exact Kd.V_mono (Kd.V_far (p:=⟨gb144,5,none⟩) (Kd.V_far (p:=⟨gb144,4,none⟩) (Kd.V_far (p:=⟨gb144,3,none⟩) (Kd.V_far (p:=⟨gb144,2,none⟩) (Kd.V_far (p:=⟨gb144,1,none⟩) (Kd.V_far (p:=⟨gb144,0,none⟩) (Kd.V_mono HO_146005.out (fun k_ hk=>(⟨hk,hk.2.1⟩:_∧k_≠gb144))) (fun _ hk=>hk.2) (.int .i64 x146000_1)) (fun _ hk=>hk.2) (.int .i64 x146001_1)) (fun _ hk=>hk.2) (.string x146002_1)) (fun _ hk=>hk.2) (.string x146003_1)) (fun _ hk=>hk.2) (.slice Ao29 x146004_1.length co29)) (fun _ hk=>hk.2) (.slice Ao30 x146005_1.length co30)) (fun _ hk=>hk.1.1),by repeat (first|(with_reducible first|exact HB.out|apply ba_|apply pd_|apply b1_|refine bs_ ?_ GE144.out|refine bs_ ?_ GE145.out)|exact HB.out)⟩
end Go.Proofs.Ytjhfempockbdoaa.PFnExactNodeAt
