/- By a program of this session, out of the kit's print and contracts made by hand: the machine side of a law; Lean checks it. No conditions. -/
import Derived.Test.YtmeafbneklphnaaPFnExactAllowsAttrx0
import Derived.Test.YtmeafbneklphnaaPFnExactAllowsAttrx5
import Derived.Test.YtmeafbneklphnaaPFnExactAllowsAttrx13
namespace Go.Proofs.Ytmeafbneklphnaa.PFnExactAllowsAttr
open Go.RowKit Go.Proofs.YtmeafbneklphnaaW.PrintWords Go.Proofs.YtmeafbneklphnaaW.PrintLast Go.Proofs.YtmeafbneklphnaaW.PrintMore
attribute [local go_sem] max2_int min2_int max_two min_two max_three min_three max_four min_four
set_option linter.unusedVariables false
set_option linter.unusedSimpArgs false
/-! ### impl_areRules: function 94 -/
def impl_areRules.l0:Nat→List (S56)→List (S56)→Int→Int→Option (Bool)
 | 0,_,_,_,_=>none
 | k+1,x0,x5,x6,x7=>if x7<x6 then (if 0≤x7 then (if x7<(x5.length:Int) then (if x7=10 then (some false) else ((impl_RuleOK.f k ((rd_T56 x5 x7).f0) ((rd_T56 x5 x7).f1) ((rd_T56 x5 x7).f2)).bind fun t216=>(if t216=true then (if x7≤(x0.length:Int) then ((impl_ruleAt.f (x0.take (x7:Int).toNat) ((rd_T56 x5 x7).f0) ((rd_T56 x5 x7).f1)).bind fun t221=>(if t221≥0 then (some false) else (impl_areRules.l0 k x0 x5 x6 (wrap64 (x7+1))))) else (none)) else (some false)))) else (none)) else (none)) else (some true)
def impl_areRules.f (k:Nat) (l0:List (S56)):Option (Bool):=impl_areRules.l0 k l0 l0 (l0.length:Int) 0
theorem impl_areRules.mono_l:∀ k,(∀ y0 y1 y2 y3,LeO (impl_areRules.l0 k y0 y1 y2 y3) (impl_areRules.l0 (k+1) y0 y1 y2 y3))
 | 0=>fun _ _ _ _ r h=>by simp [impl_areRules.l0] at h
 | k+1=>by
  have ih0:=impl_areRules.mono_l k
  ·intro y0 y1 y2 y3
   unfold impl_areRules.l0
   repeat' first
   | (with_reducible exact ih0 _ _ _ _)
   | (with_reducible exact impl_RuleOK.mono _ _ _ _)
   | (with_reducible exact LeO.refl _)
   | (with_reducible exact LeO.none _)
   | (with_reducible refine LeO.ite ?_ ?_)
   | (with_reducible refine LeO.bind ?_ (fun _=>?_))
   | exact ih0 _ _ _ _
   | exact impl_RuleOK.mono _ _ _ _
   | exact LeO.none _
   | refine LeO.ite ?_ ?_
   | refine LeO.bind ?_ (fun _=>?_)
theorem impl_areRules.mono:∀ a0 k,LeO (impl_areRules.f k a0) (impl_areRules.f (k+1) a0):=by
 intro a0 k
 have ih0:=impl_areRules.mono_l k
 unfold impl_areRules.f
 repeat' first
  | (with_reducible exact ih0 _ _ _ _)
  | (with_reducible exact impl_RuleOK.mono _ _ _ _)
  | (with_reducible exact LeO.refl _)
  | (with_reducible exact LeO.none _)
  | (with_reducible refine LeO.ite ?_ ?_)
  | (with_reducible refine LeO.bind ?_ (fun _=>?_))
  | exact ih0 _ _ _ _
  | exact impl_RuleOK.mono _ _ _ _
  | exact LeO.none _
  | refine LeO.ite ?_ ?_
  | refine LeO.bind ?_ (fun _=>?_)
def impl_areRules.T4:Bool × List (List Nat × List Nat):=(true,[([],[]),([0],[0]),([1],[1]),([2],[2]),([3,2,2],[2,3]),([4,2],[2,4]),([2,5],[2,5]),([6,4],[6]),([7],[7]),([7],[7]),([8,9,7],[7,8,9]),([7],[7]),([11,7],[7,11]),([7],[7]),([13,7],[7,13]),([10,12,14,7,7],[7,10,12,14]),([15,7],[7,15]),([7,16],[7,16])])
def impl_areRules.B4:List Nat:=[0,1,3,7,15,31,63,127,255,255,1023,255,2303,255,8447,32767,65535,131071]
theorem impl_areRules.tab4:rtab .any (opsOf Try.f94 4)=impl_areRules.T4:=by kernel_rfl
theorem impl_areRules.bits4:waitsOk impl_areRules.T4.2 impl_areRules.B4=true:=by kernel_rfl
set_option maxHeartbeats 8000000 in
set_option maxRecDepth 100000 in
theorem impl_areRules.calls (k:Nat) (A0:Option Addr) (c0:Nat) (l0:List (S56)) (r:Bool) (w:World) (hr0:Kd.C k56 w A0 l0.length l0) (hc0:l0.length≤c0) (h:impl_areRules.f k l0=some r) :
 Calls Try.prog 94 #[.slice A0 l0.length c0] w fun e w'=>e=.returned (.bool r)∧Below w.heap.size w w':=by
 have hu56:=Try.underlying56
 have HR0:=A_ hr0
 have HC0:=A_ hc0
 clear hr0 hc0
 have HB:=A_ (Below.refl w.heap.size w)
 have H:(impl_areRules.l0 k l0 l0 (l0.length:Int) 0)=some r:=h
 clear h
 have H':=A_ H
 clear H
 go_enter Try.func94,Try.ntmps94
 go_wp2
 go_loopg [7] k (fun kq v7 w'=>∃ (x7_1:Int),v7=.int .i64 x7_1∧Aside0 (impl_areRules.l0 kq l0 l0 (l0.length:Int) x7_1=some r)∧Aside0 (kq≤k)∧Aside0 (Below w.heap.size w w'))
 case atStart=>exact ⟨(0),(by first|rfl|(simp;done)|(simp [*];done)),H',⟨Nat.le_refl _⟩,⟨by repeat (first|(with_reducible first|exact HB.out|apply ba_|apply pd_|apply b1_)|exact HB.out)⟩⟩
 case round =>
  clear H'
  obtain ⟨x7_1,rfl,HA,HK1,HB⟩:=hrel
  cases gk with
  | zero=>exact absurd HA.out (by simp [impl_areRules.l0])
  | succ k1 =>
   have H:=HA.out
   clear HA
   simp only [impl_areRules.l0] at H
   by_cases c2:x7_1<(l0.length:Int)
   ·rw [if_pos c2] at H
    have c2b0:decide (x7_1<(l0.length:Int))=true:=dt_ c2
    clear c2
    by_cases c3:0≤x7_1
    ·rw [if_pos c3] at H
     have c3b0:decide (0≤x7_1)=true:=dt_ c3
     clear c3
     by_cases c4:x7_1<(l0.length:Int)
     ·rw [if_pos c4] at H
      have c4b0:decide (x7_1<(l0.length:Int))=true:=dt_ c4
      clear c4
      by_cases c5:x7_1=10
      ·rw [if_pos c5] at H
       have c5b0:(x7_1 == 10)=true:=beq_iff_eq.mpr c5
       have c5b1:(x7_1 != 10)=false:=bne_eq_false_iff_eq.mpr c5
       clear c5
       obtain rfl:=oi_ H
       have p214:0≤(x7_1:Int):=od_ (by first|(with_reducible assumption)|assumption)
       have q214:x7_1<(l0.length:Int):=od_ (by first|(with_reducible assumption)|assumption)
       obtain ⟨ad214,A214_2,c214_2,e214,hx214_0,hx214_1,hx214_2,hl214_2,hi214_2⟩:=at_T56 HR0.out x7_1 p214 q214
       cases e214
       replace hx214_0:=(HB.out.cell (bl_ w _ hx214_0)).trans hx214_0
       replace hx214_1:=(HB.out.cell (bl_ w _ hx214_1)).trans hx214_1
       replace hx214_2:=(HB.out.cell (bl_ w _ hx214_2)).trans hx214_2
       have HR214_2:=A_ hi214_2
       have HC214_2:=A_ hl214_2
       clear hi214_2 hl214_2
       replace p214:=eq_true p214
       replace q214:=eq_true q214
       try go_wp2_with (first|((with_reducible refine gate_dst (N:=4) rfl ?_);refine box_event ?hg (N:=4) ?hd (cs:=#[.int .i64 0,.string (⟨#[]⟩:ByteArray),.slice none 0 0]) (t:=56) ?hr ?_;(case hd=>rfl);(case hg=>rfl);(case hr=>first|(go_simp;done)|(go_simp;rfl));intro gb215 hg w6 hbox hb;have n0_:=A_ (bp_ (by repeat (first|(with_reducible first|exact HB.out|apply ba_|apply pd_|apply b1_)|exact HB.out)) hb);have n1_:=A_ (hbox);have n2_:=A_ ((by rw [hg];exact (bz_ (by repeat (first|(with_reducible first|exact HB.out|apply ba_|apply pd_|apply b1_)|exact HB.out))):w.heap.size≤gb215));have n3_:=A_ ((by rw [hg];exact (bz_ (by repeat (first|(with_reducible first|exact HB.out|apply ba_|apply pd_|apply b1_)|exact HB.out))):w.heap.size≤gb215));clear HB;have HB:=n0_;have BK215:=n1_;have GW215:=n2_;have GE215:=n3_;clear n0_ n1_ n2_ n3_;clear hb hbox hg;have hcz7_0:w6.cell? ⟨gb215,0,none⟩=some (.int .i64 0):=(bc_ BK215.out 0).trans rfl;have hcz7_1:w6.cell? ⟨gb215,1,none⟩=some (.string (⟨#[]⟩:ByteArray)):=(bc_ BK215.out 1).trans rfl;have hcz7_2:w6.cell? ⟨gb215,2,none⟩=some (.slice none 0 0):=(bc_ BK215.out 2).trans rfl;have hfz7_0:=bf_ BK215.out 0;have hfz7_1:=bf_ BK215.out 1;have hfz7_2:=bf_ BK215.out 2))
       have n0_:Aside0 ((((w6.setCell ⟨gb215,0,none⟩ (.int .i64 ((rd_T56 l0 x7_1).f0))).setCell ⟨gb215,1,none⟩ (.string ((rd_T56 l0 x7_1).f1))).setCell ⟨gb215,2,none⟩ (.slice A214_2 ((rd_T56 l0 x7_1).f2).length c214_2)).heap[gb215]? = some (.cells #[.int .i64 ((rd_T56 l0 x7_1).f0),.string ((rd_T56 l0 x7_1).f1),.slice A214_2 ((rd_T56 l0 x7_1).f2).length c214_2] 56 (0,0))):=⟨by (with_reducible repeat (first|refine kn_ ?_ _|refine kd_ ?_|refine ka_ ?_ _));refine blk_put (cs:=#[.int .i64 ((rd_T56 l0 x7_1).f0),.string ((rd_T56 l0 x7_1).f1),.slice none 0 0]) ?_ 2 _ rfl;(with_reducible repeat (first|refine kn_ ?_ _|refine kd_ ?_|refine ka_ ?_ _));refine blk_put (cs:=#[.int .i64 ((rd_T56 l0 x7_1).f0),.string (⟨#[]⟩:ByteArray),.slice none 0 0]) ?_ 1 _ rfl;(with_reducible repeat (first|refine kn_ ?_ _|refine kd_ ?_|refine ka_ ?_ _));refine blk_put (cs:=#[.int .i64 0,.string (⟨#[]⟩:ByteArray),.slice none 0 0]) ?_ 0 _ rfl;(with_reducible repeat (first|refine kn_ ?_ _|refine kd_ ?_|refine ka_ ?_ _));exact BK215.out⟩
       have n1_:Aside0 (Below w.heap.size w (((w6.setCell ⟨gb215,0,none⟩ (.int .i64 ((rd_T56 l0 x7_1).f0))).setCell ⟨gb215,1,none⟩ (.string ((rd_T56 l0 x7_1).f1))).setCell ⟨gb215,2,none⟩ (.slice A214_2 ((rd_T56 l0 x7_1).f2).length c214_2))):=⟨by repeat (first|(with_reducible first|exact HB.out|apply ba_|apply pd_|apply b1_|refine bs_ ?_ GE215.out)|exact HB.out)⟩
       (try clear BK215)
       (try clear HB)
       generalize (((w6.setCell ⟨gb215,0,none⟩ (.int .i64 ((rd_T56 l0 x7_1).f0))).setCell ⟨gb215,1,none⟩ (.string ((rd_T56 l0 x7_1).f1))).setCell ⟨gb215,2,none⟩ (.slice A214_2 ((rd_T56 l0 x7_1).f2).length c214_2))=w8 at n0_ n1_ ⊢
       have BK215:=n0_
       have HB:=n1_
       clear n0_ n1_
       have n0_:=A_ (kd_ BK215.out)
       have n1_:=A_ (b1_ HB.out)
       clear BK215
       clear HB
       have BK215:=n0_
       have HB:=n1_
       clear n0_ n1_
       refine start_ (n:=18) (S:=fun w'=>True) (ds:=[]) #[F_,F_,F_,F_,F_,F_,F_,F_,F_,F_,F_,F_,F_,F_,F_,F_,F_,F_] (by kernel_rfl) rfl rfl trivial (fun hHeld=>?_);refine with_tabW impl_areRules.tab4 impl_areRules.bits4 (fun HT_ HW_=>?_)
       generalize w8.drew=w9 at BK215 HB hHeld ⊢
       refine pure_ (i:=0) (N:=some 12) (v:=?_) (a':=?_) #[T_,F_,F_,F_,F_,F_,F_,F_,F_,F_,F_,F_,F_,F_,F_,F_,F_,F_] rfl rfl (any_of HT_.out (by kernel_rfl)) (fun _ _ _ h=>h) (Or.inl ⟨by rfl,?_⟩) ?_ ?_
       rotate_left
       ·intro w'
        go_simp
        with_reducible rfl
       rotate_left
       ·simp only [Act.put,ls_,lz_,lc_,i64_w,i32_w]
        rfl
       refine pure_ (i:=1) (N:=some 13) (v:=?_) (a':=?_) #[T_,T_,F_,F_,F_,F_,F_,F_,F_,F_,F_,F_,F_,F_,F_,F_,F_,F_] rfl rfl (any_of HT_.out (by kernel_rfl)) (fun _ _ _ h=>h) (Or.inl ⟨by rfl,?_⟩) ?_ ?_
       rotate_left
       ·intro w'
        go_simp
        with_reducible rfl
       rotate_left
       ·simp only [Act.put,ls_,lz_,lc_,i64_w,i32_w]
        rfl
       refine pure_ (i:=2) (N:=some 14) (v:=?_) (a':=?_) #[T_,T_,T_,F_,F_,F_,F_,F_,F_,F_,F_,F_,F_,F_,F_,F_,F_,F_] rfl rfl (any_of HT_.out (by kernel_rfl)) (fun _ _ _ h=>h) (Or.inl ⟨by rfl,?_⟩) ?_ ?_
       rotate_left
       ·intro w'
        go_simp
        with_reducible rfl
       rotate_left
       ·simp only [Act.put,ls_,lz_,lc_,i64_w,i32_w]
        rfl
       refine pure_ (i:=3) (N:=some 15) (v:=undef) (a':=?_) #[T_,T_,T_,T_,F_,F_,F_,F_,F_,F_,F_,F_,F_,F_,F_,F_,F_,F_] rfl rfl (any_of HT_.out (by kernel_rfl)) (fun _ _ _ h=>h) (Or.inr ⟨by rfl,rfl⟩) ?_ ?_
       rotate_left
       ·simp only [Act.put,ls_,lz_,lc_,i64_w,i32_w]
        rfl
       refine pure_ (i:=4) (N:=some 16) (v:=undef) (a':=?_) #[T_,T_,T_,T_,T_,F_,F_,F_,F_,F_,F_,F_,F_,F_,F_,F_,F_,F_] rfl rfl (any_of HT_.out (by kernel_rfl)) (fun _ _ _ h=>h) (Or.inr ⟨by rfl,rfl⟩) ?_ ?_
       rotate_left
       ·simp only [Act.put,ls_,lz_,lc_,i64_w,i32_w]
        rfl
       refine pure_ (i:=5) (N:=some 17) (v:=undef) (a':=?_) #[T_,T_,T_,T_,T_,T_,F_,F_,F_,F_,F_,F_,F_,F_,F_,F_,F_,F_] rfl rfl (any_of HT_.out (by kernel_rfl)) (fun _ _ _ h=>h) (Or.inr ⟨by rfl,rfl⟩) ?_ ?_
       rotate_left
       ·simp only [Act.put,ls_,lz_,lc_,i64_w,i32_w]
        rfl
       refine pure_ (i:=6) (N:=some 18) (v:=?_) (a':=?_) #[T_,T_,T_,T_,T_,T_,T_,F_,F_,F_,F_,F_,F_,F_,F_,F_,F_,F_] rfl rfl (any_of HT_.out (by kernel_rfl)) (fun _ _ _ h=>h) (Or.inl ⟨by rfl,?_⟩) ?_ ?_
       rotate_left
       ·intro w'
        go_simp
        with_reducible rfl
       rotate_left
       ·simp only [Act.put,ls_,lz_,lc_,i64_w,i32_w]
        rfl
       refine pure_ (i:=7) (N:=some 19) (v:=?_) (a':=?_) #[T_,T_,T_,T_,T_,T_,T_,T_,F_,F_,F_,F_,F_,F_,F_,F_,F_,F_] rfl rfl (any_of HT_.out (by kernel_rfl)) (fun _ _ _ h=>h) (Or.inl ⟨by rfl,?_⟩) ?_ ?_
       rotate_left
       ·intro w'
        go_simp
        with_reducible rfl
       rotate_left
       ·simp only [Act.put,ls_,lz_,lc_,i64_w,i32_w]
        rfl
       refine pure_ (i:=8) (N:=some 20) (v:=undef) (a':=?_) #[T_,T_,T_,T_,T_,T_,T_,T_,T_,F_,F_,F_,F_,F_,F_,F_,F_,F_] rfl rfl (any_of HT_.out (by kernel_rfl)) (fun _ _ _ h=>h) (Or.inr ⟨by rfl,rfl⟩) ?_ ?_
       rotate_left
       ·simp only [Act.put,ls_,lz_,lc_,i64_w,i32_w]
        rfl
       refine pure_ (i:=9) (N:=some 21) (v:=undef) (a':=?_) #[T_,T_,T_,T_,T_,T_,T_,T_,T_,T_,F_,F_,F_,F_,F_,F_,F_,F_] rfl rfl (any_of HT_.out (by kernel_rfl)) (fun _ _ _ h=>h) (Or.inr ⟨by rfl,rfl⟩) ?_ ?_
       rotate_left
       ·simp only [Act.put,ls_,lz_,lc_,i64_w,i32_w]
        rfl
       refine pure_ (i:=10) (N:=some 22) (v:=undef) (a':=?_) #[T_,T_,T_,T_,T_,T_,T_,T_,T_,T_,T_,F_,F_,F_,F_,F_,F_,F_] rfl rfl (any_of HT_.out (by kernel_rfl)) (fun _ _ _ h=>h) (Or.inr ⟨by rfl,rfl⟩) ?_ ?_
       rotate_left
       ·simp only [Act.put,ls_,lz_,lc_,i64_w,i32_w]
        rfl
       refine pure_ (i:=11) (N:=some 23) (v:=undef) (a':=?_) #[T_,T_,T_,T_,T_,T_,T_,T_,T_,T_,T_,T_,F_,F_,F_,F_,F_,F_] rfl rfl (any_of HT_.out (by kernel_rfl)) (fun _ _ _ h=>h) (Or.inr ⟨by rfl,rfl⟩) ?_ ?_
       rotate_left
       ·simp only [Act.put,ls_,lz_,lc_,i64_w,i32_w]
        rfl
       refine pure_ (i:=12) (N:=some 24) (v:=undef) (a':=?_) #[T_,T_,T_,T_,T_,T_,T_,T_,T_,T_,T_,T_,T_,F_,F_,F_,F_,F_] rfl rfl (any_of HT_.out (by kernel_rfl)) (fun _ _ _ h=>h) (Or.inr ⟨by rfl,rfl⟩) ?_ ?_
       rotate_left
       ·simp only [Act.put,ls_,lz_,lc_,i64_w,i32_w]
        rfl
       refine pure_ (i:=13) (N:=some 25) (v:=undef) (a':=?_) #[T_,T_,T_,T_,T_,T_,T_,T_,T_,T_,T_,T_,T_,T_,F_,F_,F_,F_] rfl rfl (any_of HT_.out (by kernel_rfl)) (fun _ _ _ h=>h) (Or.inr ⟨by rfl,rfl⟩) ?_ ?_
       rotate_left
       ·simp only [Act.put,ls_,lz_,lc_,i64_w,i32_w]
        rfl
       refine pure_ (i:=14) (N:=some 26) (v:=undef) (a':=?_) #[T_,T_,T_,T_,T_,T_,T_,T_,T_,T_,T_,T_,T_,T_,T_,F_,F_,F_] rfl rfl (any_of HT_.out (by kernel_rfl)) (fun _ _ _ h=>h) (Or.inr ⟨by rfl,rfl⟩) ?_ ?_
       rotate_left
       ·simp only [Act.put,ls_,lz_,lc_,i64_w,i32_w]
        rfl
       refine pure_ (i:=15) (N:=some 27) (v:=undef) (a':=?_) #[T_,T_,T_,T_,T_,T_,T_,T_,T_,T_,T_,T_,T_,T_,T_,T_,F_,F_] rfl rfl (any_of HT_.out (by kernel_rfl)) (fun _ _ _ h=>h) (Or.inr ⟨by rfl,rfl⟩) ?_ ?_
       rotate_left
       ·simp only [Act.put,ls_,lz_,lc_,i64_w,i32_w]
        rfl
       refine pure_ (i:=16) (N:=some 28) (v:=undef) (a':=?_) #[T_,T_,T_,T_,T_,T_,T_,T_,T_,T_,T_,T_,T_,T_,T_,T_,T_,F_] rfl rfl (any_of HT_.out (by kernel_rfl)) (fun _ _ _ h=>h) (Or.inr ⟨by rfl,rfl⟩) ?_ ?_
       rotate_left
       ·simp only [Act.put,ls_,lz_,lc_,i64_w,i32_w]
        rfl
       refine pure_ (i:=17) (N:=some 29) (v:=?_) (a':=?_) #[T_,T_,T_,T_,T_,T_,T_,T_,T_,T_,T_,T_,T_,T_,T_,T_,T_,T_] rfl rfl (any_of HT_.out (by kernel_rfl)) (fun _ _ _ h=>h) (Or.inl ⟨by rfl,?_⟩) ?_ ?_
       rotate_left
       ·intro w'
        go_simp
        with_reducible rfl
       rotate_left
       ·simp only [Act.put,ls_,lz_,lc_,i64_w,i32_w]
        rfl
       refine done_ (done_of HT_.out (by kernel_rfl)) ?_
       try go_wp2
       go_ret
       exact ⟨by first|rfl|(simp [errW_none,errW_some] <;> rfl)|(simp [*,errW_none,errW_some] <;> rfl),by repeat (first|(with_reducible first|exact HB.out|apply ba_|apply pd_|apply b1_|refine bs_ ?_ GE215.out)|exact HB.out)⟩
      ·rw [if_neg c5] at H
       have c5b0:(x7_1 == 10)=false:=beq_eq_false_iff_ne.mpr c5
       have c5b1:(x7_1 != 10)=true:=bne_iff_ne.mpr c5
       replace H:=ob_ H
       obtain ⟨t216,A100,H⟩:=H
       replace H:(if t216=true then (if x7_1≤(l0.length:Int) then ((impl_ruleAt.f (l0.take (x7_1:Int).toNat) ((rd_T56 l0 x7_1).f0) ((rd_T56 l0 x7_1).f1)).bind fun t221=>(if t221≥0 then (some false) else (impl_areRules.l0 k1 l0 l0 (l0.length:Int) (wrap64 (x7_1+1))))) else (none)) else (some false))=some r:=H
       have A10:=A_ A100
       clear A100
       by_cases c11:t216=true
       ·subst c11
        have H1:(if x7_1≤(l0.length:Int) then ((impl_ruleAt.f (l0.take (x7_1:Int).toNat) ((rd_T56 l0 x7_1).f0) ((rd_T56 l0 x7_1).f1)).bind fun t221=>(if t221≥0 then (some false) else (impl_areRules.l0 k1 l0 l0 (l0.length:Int) (wrap64 (x7_1+1))))) else (none))=some r:=by rw [if_pos rfl] at H;exact H
        clear H
        have H:=H1
        clear H1
        have c12b0:=eq_true (od_ (by first|(with_reducible assumption)|assumption):0≤x7_1)
        by_cases c13:x7_1≤(l0.length:Int)
        ·rw [if_pos c13] at H
         have c13b0:=eq_true c13
         have c13b1:decide (x7_1≤(l0.length:Int))=true:=dt_ c13
         clear c13
         obtain ⟨y217,hy217⟩:∃ y_:List (S56),y_=(l0.take (x7_1:Int).toNat):=⟨_,rfl⟩
         replace H:((impl_ruleAt.f y217 ((rd_T56 l0 x7_1).f0) ((rd_T56 l0 x7_1).f1)).bind fun t221=>(if t221≥0 then (some false) else (impl_areRules.l0 k1 l0 l0 (l0.length:Int) (wrap64 (x7_1+1)))))=some r:=by first|(rw [hy217];with_reducible exact H)|(have H2_:=(Option.bind_some _ _).symm.trans H;rw [hy217];with_reducible exact H2_)|(have H2_:=(Option.bind_some _ _).symm.trans H;with_reducible exact H2_)|with_reducible exact H|(rw [hy217];exact H)|exact H
         have Ny217:=A_ hy217
         clear hy217
         replace H:=ob_ H
         obtain ⟨t221,A140,H⟩:=H
         replace H:(if t221≥0 then (some false) else (impl_areRules.l0 k1 l0 l0 (l0.length:Int) (wrap64 (x7_1+1))))=some r:=H
         have A14:=A_ A140
         clear A140
         by_cases c15:t221≥0
         ·rw [if_pos c15] at H
          have c15b0:decide (0≤t221)=true:=dt_ c15
          clear c15
          obtain rfl:=oi_ H
          have p214:0≤(x7_1:Int):=od_ (by first|(with_reducible assumption)|assumption)
          have q214:x7_1<(l0.length:Int):=od_ (by first|(with_reducible assumption)|assumption)
          obtain ⟨ad214,A214_2,c214_2,e214,hx214_0,hx214_1,hx214_2,hl214_2,hi214_2⟩:=at_T56 HR0.out x7_1 p214 q214
          cases e214
          replace hx214_0:=(HB.out.cell (bl_ w _ hx214_0)).trans hx214_0
          replace hx214_1:=(HB.out.cell (bl_ w _ hx214_1)).trans hx214_1
          replace hx214_2:=(HB.out.cell (bl_ w _ hx214_2)).trans hx214_2
          have HR214_2:=A_ hi214_2
          have HC214_2:=A_ hl214_2
          clear hi214_2 hl214_2
          replace p214:=eq_true p214
          replace q214:=eq_true q214
          try go_wp2_with (first|((with_reducible refine gate_dst (N:=4) rfl ?_);refine box_event ?hg (N:=4) ?hd (cs:=#[.int .i64 0,.string (⟨#[]⟩:ByteArray),.slice none 0 0]) (t:=56) ?hr ?_;(case hd=>rfl);(case hg=>rfl);(case hr=>first|(go_simp;done)|(go_simp;rfl));intro gb215 hg w16 hbox hb;have n0_:=A_ (bp_ (by repeat (first|(with_reducible first|exact HB.out|apply ba_|apply pd_|apply b1_)|exact HB.out)) hb);have n1_:=A_ (hbox);have n2_:=A_ ((by rw [hg];exact (bz_ (by repeat (first|(with_reducible first|exact HB.out|apply ba_|apply pd_|apply b1_)|exact HB.out))):w.heap.size≤gb215));have n3_:=A_ ((by rw [hg];exact (bz_ (by repeat (first|(with_reducible first|exact HB.out|apply ba_|apply pd_|apply b1_)|exact HB.out))):w.heap.size≤gb215));clear HB;have HB:=n0_;have BK215:=n1_;have GW215:=n2_;have GE215:=n3_;clear n0_ n1_ n2_ n3_;clear hb hbox hg;have hcz17_0:w16.cell? ⟨gb215,0,none⟩=some (.int .i64 0):=(bc_ BK215.out 0).trans rfl;have hcz17_1:w16.cell? ⟨gb215,1,none⟩=some (.string (⟨#[]⟩:ByteArray)):=(bc_ BK215.out 1).trans rfl;have hcz17_2:w16.cell? ⟨gb215,2,none⟩=some (.slice none 0 0):=(bc_ BK215.out 2).trans rfl;have hfz17_0:=bf_ BK215.out 0;have hfz17_1:=bf_ BK215.out 1;have hfz17_2:=bf_ BK215.out 2))
          have n0_:Aside0 ((((w16.setCell ⟨gb215,0,none⟩ (.int .i64 ((rd_T56 l0 x7_1).f0))).setCell ⟨gb215,1,none⟩ (.string ((rd_T56 l0 x7_1).f1))).setCell ⟨gb215,2,none⟩ (.slice A214_2 ((rd_T56 l0 x7_1).f2).length c214_2)).heap[gb215]? = some (.cells #[.int .i64 ((rd_T56 l0 x7_1).f0),.string ((rd_T56 l0 x7_1).f1),.slice A214_2 ((rd_T56 l0 x7_1).f2).length c214_2] 56 (0,0))):=⟨by (with_reducible repeat (first|refine kn_ ?_ _|refine kd_ ?_|refine ka_ ?_ _));refine blk_put (cs:=#[.int .i64 ((rd_T56 l0 x7_1).f0),.string ((rd_T56 l0 x7_1).f1),.slice none 0 0]) ?_ 2 _ rfl;(with_reducible repeat (first|refine kn_ ?_ _|refine kd_ ?_|refine ka_ ?_ _));refine blk_put (cs:=#[.int .i64 ((rd_T56 l0 x7_1).f0),.string (⟨#[]⟩:ByteArray),.slice none 0 0]) ?_ 1 _ rfl;(with_reducible repeat (first|refine kn_ ?_ _|refine kd_ ?_|refine ka_ ?_ _));refine blk_put (cs:=#[.int .i64 0,.string (⟨#[]⟩:ByteArray),.slice none 0 0]) ?_ 0 _ rfl;(with_reducible repeat (first|refine kn_ ?_ _|refine kd_ ?_|refine ka_ ?_ _));exact BK215.out⟩
          have n1_:Aside0 (Below w.heap.size w (((w16.setCell ⟨gb215,0,none⟩ (.int .i64 ((rd_T56 l0 x7_1).f0))).setCell ⟨gb215,1,none⟩ (.string ((rd_T56 l0 x7_1).f1))).setCell ⟨gb215,2,none⟩ (.slice A214_2 ((rd_T56 l0 x7_1).f2).length c214_2))):=⟨by repeat (first|(with_reducible first|exact HB.out|apply ba_|apply pd_|apply b1_|refine bs_ ?_ GE215.out)|exact HB.out)⟩
          (try clear BK215)
          (try clear HB)
          generalize (((w16.setCell ⟨gb215,0,none⟩ (.int .i64 ((rd_T56 l0 x7_1).f0))).setCell ⟨gb215,1,none⟩ (.string ((rd_T56 l0 x7_1).f1))).setCell ⟨gb215,2,none⟩ (.slice A214_2 ((rd_T56 l0 x7_1).f2).length c214_2))=w18 at n0_ n1_ ⊢
          have BK215:=n0_
          have HB:=n1_
          clear n0_ n1_
          have n0_:=A_ (kd_ BK215.out)
          have n1_:=A_ (b1_ HB.out)
          clear BK215
          clear HB
          have BK215:=n0_
          have HB:=n1_
          clear n0_ n1_
          refine start_ (n:=18) (S:=fun w'=>w'.cell? ⟨gb215,0,none⟩=some (.int .i64 ((rd_T56 l0 x7_1).f0))∧w'.cell? ⟨gb215,1,none⟩=some (.string ((rd_T56 l0 x7_1).f1))∧w'.cell? ⟨gb215,2,none⟩=some (.slice A214_2 ((rd_T56 l0 x7_1).f2).length c214_2)) (ds:=[]) #[F_,F_,F_,F_,F_,F_,F_,F_,F_,F_,F_,F_,F_,F_,F_,F_,F_,F_] (by kernel_rfl) rfl rfl ⟨(bc_ BK215.out 0).trans rfl,(bc_ BK215.out 1).trans rfl,(bc_ BK215.out 2).trans rfl⟩ (fun hHeld=>?_);refine with_tabW impl_areRules.tab4 impl_areRules.bits4 (fun HT_ HW_=>?_)
          generalize w18.drew=w19 at BK215 HB hHeld ⊢
          refine pure_ (i:=0) (N:=some 12) (v:=?_) (a':=?_) #[T_,F_,F_,F_,F_,F_,F_,F_,F_,F_,F_,F_,F_,F_,F_,F_,F_,F_] rfl rfl (any_of HT_.out (by kernel_rfl)) (fun _ _ _ h=>h) (Or.inl ⟨by rfl,?_⟩) ?_ ?_
          rotate_left
          ·intro w'
           go_simp
           with_reducible rfl
          rotate_left
          ·simp only [Act.put,ls_,lz_,lc_,i64_w,i32_w]
           rfl
          refine pure_ (i:=1) (N:=some 13) (v:=?_) (a':=?_) #[T_,T_,F_,F_,F_,F_,F_,F_,F_,F_,F_,F_,F_,F_,F_,F_,F_,F_] rfl rfl (any_of HT_.out (by kernel_rfl)) (fun _ _ _ h=>h) (Or.inl ⟨by rfl,?_⟩) ?_ ?_
          rotate_left
          ·intro w'
           go_simp
           with_reducible rfl
          rotate_left
          ·simp only [Act.put,ls_,lz_,lc_,i64_w,i32_w]
           rfl
          refine pure_ (i:=2) (N:=some 14) (v:=?_) (a':=?_) #[T_,T_,T_,F_,F_,F_,F_,F_,F_,F_,F_,F_,F_,F_,F_,F_,F_,F_] rfl rfl (any_of HT_.out (by kernel_rfl)) (fun _ _ _ h=>h) (Or.inl ⟨by rfl,?_⟩) ?_ ?_
          rotate_left
          ·intro w'
           go_simp
           with_reducible rfl
          rotate_left
          ·simp only [Act.put,ls_,lz_,lc_,i64_w,i32_w]
           rfl
          refine take_ (i:=3) (N:=some 15) (v:=?_) (a':=?_) #[T_,T_,T_,T_,F_,F_,F_,F_,F_,F_,F_,F_,F_,F_,F_,F_,F_,F_] rfl rfl (take_ofW HT_.out HW_.out (by kernel_rfl)) (fun _ _ _ h=>h) (Or.inl ⟨by rfl,?_⟩) hHeld ?_ ?_
          rotate_left
          ·rintro w' ⟨s0,s1,s2⟩
           go_simp
           with_reducible rfl
          rotate_left
          ·simp only [Act.put,ls_,lz_,lc_,i64_w,i32_w]
           rfl
          refine one_ (i:=4) (N:=some 16) #[T_,T_,T_,T_,T_,F_,F_,F_,F_,F_,F_,F_,F_,F_,F_,F_,F_,F_] rfl rfl (one_of HT_.out (by kernel_rfl)) (by decide) (fun K hK=>?_)
          refine goes_ Try.func106 (by kernel_rfl) rfl #[.agg #[.int .i64 ((rd_T56 l0 x7_1).f0),.string ((rd_T56 l0 x7_1).f1),.slice A214_2 ((rd_T56 l0 x7_1).f2).length c214_2]] (by rfl) rfl rfl (by (try simp only [List.map_toArray,List.map_cons,List.map_nil]);first|done|rfl|(simp only [ld_,lt_];rfl)) ?_
          with_reducible refine (impl_RuleOK.calls k1 ((rd_T56 l0 x7_1).f0) ((rd_T56 l0 x7_1).f1) _ _ ((rd_T56 l0 x7_1).f2) true _ ?side1 ?side2 A10.out).mono ?_
          (case side1=>repeat (first|exact (cb_ HR214_2.out HB.out)|(with_reducible refine ca_ ?_ _)|(with_reducible refine cn_ ?_ _)|(with_reducible refine cd_ ?_)))
          (case side2=>exact HC214_2.out)
          rintro e w20 ⟨rfl,hb⟩
          refine ⟨_,rfl,?_⟩
          have n0_:=A_ (kb_ (g:=gb215) (o:=.cells #[.int .i64 ((rd_T56 l0 x7_1).f0),.string ((rd_T56 l0 x7_1).f1),.slice A214_2 ((rd_T56 l0 x7_1).f2).length c214_2] 56 (0,0)) (by (with_reducible repeat (first|refine kn_ ?_ _|refine kd_ ?_|refine ka_ ?_ _));exact BK215.out) hb)
          have n1_:=A_ (bp_ (by repeat (first|(with_reducible first|exact HB.out|apply ba_|apply pd_|apply b1_|refine bs_ ?_ GE215.out)|exact HB.out)) hb)
          clear BK215
          clear HB
          have BK215:=n0_
          have HB:=n1_
          clear n0_ n1_
          (try clear hb)
          (try clear hb2)
          (try clear hk)
          (try clear hi)
          have q21:(x7_1:Int)≤((l0.length:Int):Int):=od_ (by first|(with_reducible assumption)|assumption)
          obtain ⟨i021,hi021,_,hsz21,_⟩:=info_parts info56
          have hroom21:l0.length≤c0:=HC0.out
          have hC21:Kd.C k56 _ (some ad214) l0.length l0:=HR0.out
          have hcut21:=cut_to (P:=Try.prog) 22 56 .i64 Try.underlying22 hi021 (some ad214) l0.length c0 x7_1 (od_ (by first|(with_reducible assumption)|assumption)) q21 hroom21
          have hr21:=Kd.C_take (m:=(x7_1:Int).toNat) hC21 (by omega)
          have hy21:y217.length=(x7_1:Int).toNat:=(by rw [Ny217.out,lt_];omega)
          rw [←Ny217.out] at hr21
          rw [←hy21] at hcut21
          have HR220:=A_ hr21
          have HC220:=A_ (show y217.length≤c0 from by omega)
          clear hr21 hC21 hroom21 hi021 hsz21
          have KY21:=A_ hy21
          clear hy21
          replace q21:=eq_true q21
          refine hK.out _ _ ⟨(bc_ BK215.out 0).trans rfl,(bc_ BK215.out 1).trans rfl,(bc_ BK215.out 2).trans rfl⟩ (fun hHeld=>?_)
          clear hK K
          refine norm_ (a':=?_) ?_ ?_
          rotate_left
          ·show Act.put _ (some 16) _=_
           simp only [Act.put,ls_,lz_,lc_,i64_w,i32_w]
           rfl
          refine pure_ (i:=5) (N:=some 17) (v:=?_) (a':=?_) #[T_,T_,T_,T_,T_,T_,F_,F_,F_,F_,F_,F_,F_,F_,F_,F_,F_,F_] rfl rfl (any_of HT_.out (by kernel_rfl)) (fun _ _ _ h=>h) (Or.inl ⟨by rfl,?_⟩) ?_ ?_
          rotate_left
          ·intro w'
           go_simp
           with_reducible rfl
          rotate_left
          ·simp only [Act.put,ls_,lz_,lc_,i64_w,i32_w]
           rfl
          refine pure_ (i:=6) (N:=some 18) (v:=?_) (a':=?_) #[T_,T_,T_,T_,T_,T_,T_,F_,F_,F_,F_,F_,F_,F_,F_,F_,F_,F_] rfl rfl (any_of HT_.out (by kernel_rfl)) (fun _ _ _ h=>h) (Or.inl ⟨by rfl,?_⟩) ?_ ?_
          rotate_left
          ·intro w'
           go_simp
           with_reducible rfl
          rotate_left
          ·simp only [Act.put,ls_,lz_,lc_,i64_w,i32_w]
           rfl
          refine pure_ (i:=7) (N:=some 19) (v:=?_) (a':=?_) #[T_,T_,T_,T_,T_,T_,T_,T_,F_,F_,F_,F_,F_,F_,F_,F_,F_,F_] rfl rfl (any_of HT_.out (by kernel_rfl)) (fun _ _ _ h=>h) (Or.inl ⟨by rfl,?_⟩) ?_ ?_
          rotate_left
          ·intro w'
           go_simp
           with_reducible rfl
          rotate_left
          ·simp only [Act.put,ls_,lz_,lc_,i64_w,i32_w]
           rfl
          refine pure_ (i:=8) (N:=some 20) (v:=?_) (a':=?_) #[T_,T_,T_,T_,T_,T_,T_,T_,T_,F_,F_,F_,F_,F_,F_,F_,F_,F_] rfl rfl (any_of HT_.out (by kernel_rfl)) (fun _ _ _ h=>h) (Or.inl ⟨by rfl,?_⟩) ?_ ?_
          rotate_left
          ·intro w'
           go_simp
           with_reducible rfl
          rotate_left
          ·simp only [Act.put,ls_,lz_,lc_,i64_w,i32_w]
           rfl
          refine pure_ (i:=9) (N:=some 21) (v:=?_) (a':=?_) #[T_,T_,T_,T_,T_,T_,T_,T_,T_,T_,F_,F_,F_,F_,F_,F_,F_,F_] rfl rfl (any_of HT_.out (by kernel_rfl)) (fun _ _ _ h=>h) (Or.inl ⟨by rfl,?_⟩) ?_ ?_
          rotate_left
          ·intro w'
           go_simp
           with_reducible rfl
          rotate_left
          ·simp only [Act.put,ls_,lz_,lc_,i64_w,i32_w]
           rfl
          refine pure_ (i:=10) (N:=some 22) (v:=?_) (a':=?_) #[T_,T_,T_,T_,T_,T_,T_,T_,T_,T_,T_,F_,F_,F_,F_,F_,F_,F_] rfl rfl (any_of HT_.out (by kernel_rfl)) (fun _ _ _ h=>h) (Or.inl ⟨by rfl,?_⟩) ?_ ?_
          rotate_left
          ·intro w'
           go_simp
           with_reducible rfl
          rotate_left
          ·simp only [Act.put,ls_,lz_,lc_,i64_w,i32_w]
           rfl
          refine pure_ (i:=11) (N:=some 23) (v:=?_) (a':=?_) #[T_,T_,T_,T_,T_,T_,T_,T_,T_,T_,T_,T_,F_,F_,F_,F_,F_,F_] rfl rfl (any_of HT_.out (by kernel_rfl)) (fun _ _ _ h=>h) (Or.inl ⟨by rfl,?_⟩) ?_ ?_
          rotate_left
          ·intro w'
           go_simp
           with_reducible rfl
          rotate_left
          ·simp only [Act.put,ls_,lz_,lc_,i64_w,i32_w]
           rfl
          refine pure_ (i:=13) (N:=some 25) (v:=?_) (a':=?_) #[T_,T_,T_,T_,T_,T_,T_,T_,T_,T_,T_,T_,F_,T_,F_,F_,F_,F_] rfl rfl (any_of HT_.out (by kernel_rfl)) (fun _ _ _ h=>h) (Or.inl ⟨by rfl,?_⟩) ?_ ?_
          rotate_left
          ·intro w'
           go_simp
           with_reducible rfl
          rotate_left
          ·simp only [Act.put,ls_,lz_,lc_,i64_w,i32_w]
           rfl
          refine take_ (i:=12) (N:=some 24) (v:=?_) (a':=?_) #[T_,T_,T_,T_,T_,T_,T_,T_,T_,T_,T_,T_,T_,T_,F_,F_,F_,F_] rfl rfl (take_ofW HT_.out HW_.out (by kernel_rfl)) (fun _ _ _ h=>h) (Or.inl ⟨by rfl,?_⟩) hHeld ?_ ?_
          rotate_left
          ·rintro w' ⟨s0,s1,s2⟩
           go_simp
           with_reducible rfl
          rotate_left
          ·simp only [Act.put,ls_,lz_,lc_,i64_w,i32_w]
           rfl
          refine take_ (i:=14) (N:=some 26) (v:=?_) (a':=?_) #[T_,T_,T_,T_,T_,T_,T_,T_,T_,T_,T_,T_,T_,T_,T_,F_,F_,F_] rfl rfl (take_ofW HT_.out HW_.out (by kernel_rfl)) (fun _ _ _ h=>h) (Or.inl ⟨by rfl,?_⟩) hHeld ?_ ?_
          rotate_left
          ·rintro w' ⟨s0,s1,s2⟩
           go_simp
           with_reducible rfl
          rotate_left
          ·simp only [Act.put,ls_,lz_,lc_,i64_w,i32_w]
           rfl
          refine one_ (i:=15) (N:=some 27) #[T_,T_,T_,T_,T_,T_,T_,T_,T_,T_,T_,T_,T_,T_,T_,T_,F_,F_] rfl rfl (one_of HT_.out (by kernel_rfl)) (by decide) (fun K hK=>?_)
          refine goes_ Try.func82 (by kernel_rfl) rfl #[.slice (some ad214) y217.length c0,.int .i64 ((rd_T56 l0 x7_1).f0),.string ((rd_T56 l0 x7_1).f1)] (by rfl) rfl rfl (by (try simp only [List.map_toArray,List.map_cons,List.map_nil]);first|done|rfl|(simp only [ld_,lt_];rfl)) ?_
          with_reducible refine (impl_ruleAt.calls _ _ y217 ((rd_T56 l0 x7_1).f0) ((rd_T56 l0 x7_1).f1) t221 _ ?side1 ?side2 A14.out).mono ?_
          (case side1=>repeat (first|exact (cb_ HR220.out HB.out)|(with_reducible refine ca_ ?_ _)|(with_reducible refine cn_ ?_ _)|(with_reducible refine cd_ ?_)))
          (case side2=>exact HC220.out)
          rintro e w22 ⟨rfl,hb⟩
          refine ⟨_,rfl,?_⟩
          have n0_:=A_ (kb_ (g:=gb215) (o:=.cells #[.int .i64 ((rd_T56 l0 x7_1).f0),.string ((rd_T56 l0 x7_1).f1),.slice A214_2 ((rd_T56 l0 x7_1).f2).length c214_2] 56 (0,0)) (by (with_reducible repeat (first|refine kn_ ?_ _|refine kd_ ?_|refine ka_ ?_ _));exact BK215.out) hb)
          have n1_:=A_ (bp_ (by repeat (first|(with_reducible first|exact HB.out|apply ba_|apply pd_|apply b1_|refine bs_ ?_ GE215.out)|exact HB.out)) hb)
          clear BK215
          clear HB
          have BK215:=n0_
          have HB:=n1_
          clear n0_ n1_
          (try clear hb)
          (try clear hb2)
          (try clear hk)
          (try clear hi)
          refine hK.out _ _ ⟨(bc_ BK215.out 0).trans rfl,(bc_ BK215.out 1).trans rfl,(bc_ BK215.out 2).trans rfl⟩ (fun hHeld=>?_)
          clear hK K
          refine norm_ (a':=?_) ?_ ?_
          rotate_left
          ·show Act.put _ (some 27) _=_
           simp only [Act.put,ls_,lz_,lc_,i64_w,i32_w]
           rfl
          refine pure_ (i:=16) (N:=some 28) (v:=?_) (a':=?_) #[T_,T_,T_,T_,T_,T_,T_,T_,T_,T_,T_,T_,T_,T_,T_,T_,T_,F_] rfl rfl (any_of HT_.out (by kernel_rfl)) (fun _ _ _ h=>h) (Or.inl ⟨by rfl,?_⟩) ?_ ?_
          rotate_left
          ·intro w'
           go_simp
           with_reducible rfl
          rotate_left
          ·simp only [Act.put,ls_,lz_,lc_,i64_w,i32_w]
           rfl
          refine pure_ (i:=17) (N:=some 29) (v:=?_) (a':=?_) #[T_,T_,T_,T_,T_,T_,T_,T_,T_,T_,T_,T_,T_,T_,T_,T_,T_,T_] rfl rfl (any_of HT_.out (by kernel_rfl)) (fun _ _ _ h=>h) (Or.inl ⟨by rfl,?_⟩) ?_ ?_
          rotate_left
          ·intro w'
           go_simp
           with_reducible rfl
          rotate_left
          ·simp only [Act.put,ls_,lz_,lc_,i64_w,i32_w]
           rfl
          refine done_ (done_of HT_.out (by kernel_rfl)) ?_
          try go_wp2
          go_ret
          exact ⟨by first|rfl|(simp [errW_none,errW_some] <;> rfl)|(simp [*,errW_none,errW_some] <;> rfl),by repeat (first|(with_reducible first|exact HB.out|apply ba_|apply pd_|apply b1_|refine bs_ ?_ GE215.out)|exact HB.out)⟩
         ·rw [if_neg c15] at H
          have c15b0:decide (0≤t221)=false:=df_ c15
          clear c15
          have H':=A_ H
          clear H
          have p214:0≤(x7_1:Int):=od_ (by first|(with_reducible assumption)|assumption)
          have q214:x7_1<(l0.length:Int):=od_ (by first|(with_reducible assumption)|assumption)
          obtain ⟨ad214,A214_2,c214_2,e214,hx214_0,hx214_1,hx214_2,hl214_2,hi214_2⟩:=at_T56 HR0.out x7_1 p214 q214
          cases e214
          replace hx214_0:=(HB.out.cell (bl_ w _ hx214_0)).trans hx214_0
          replace hx214_1:=(HB.out.cell (bl_ w _ hx214_1)).trans hx214_1
          replace hx214_2:=(HB.out.cell (bl_ w _ hx214_2)).trans hx214_2
          have HR214_2:=A_ hi214_2
          have HC214_2:=A_ hl214_2
          clear hi214_2 hl214_2
          replace p214:=eq_true p214
          replace q214:=eq_true q214
          try go_wp2_with (first|((with_reducible refine gate_dst (N:=4) rfl ?_);refine box_event ?hg (N:=4) ?hd (cs:=#[.int .i64 0,.string (⟨#[]⟩:ByteArray),.slice none 0 0]) (t:=56) ?hr ?_;(case hd=>rfl);(case hg=>rfl);(case hr=>first|(go_simp;done)|(go_simp;rfl));intro gb215 hg w23 hbox hb;have n0_:=A_ (bp_ (by repeat (first|(with_reducible first|exact HB.out|apply ba_|apply pd_|apply b1_)|exact HB.out)) hb);have n1_:=A_ (hbox);have n2_:=A_ ((by rw [hg];exact (bz_ (by repeat (first|(with_reducible first|exact HB.out|apply ba_|apply pd_|apply b1_)|exact HB.out))):w.heap.size≤gb215));have n3_:=A_ ((by rw [hg];exact (bz_ (by repeat (first|(with_reducible first|exact HB.out|apply ba_|apply pd_|apply b1_)|exact HB.out))):w.heap.size≤gb215));clear HB;have HB:=n0_;have BK215:=n1_;have GW215:=n2_;have GE215:=n3_;clear n0_ n1_ n2_ n3_;clear hb hbox hg;have hcz24_0:w23.cell? ⟨gb215,0,none⟩=some (.int .i64 0):=(bc_ BK215.out 0).trans rfl;have hcz24_1:w23.cell? ⟨gb215,1,none⟩=some (.string (⟨#[]⟩:ByteArray)):=(bc_ BK215.out 1).trans rfl;have hcz24_2:w23.cell? ⟨gb215,2,none⟩=some (.slice none 0 0):=(bc_ BK215.out 2).trans rfl;have hfz24_0:=bf_ BK215.out 0;have hfz24_1:=bf_ BK215.out 1;have hfz24_2:=bf_ BK215.out 2))
          have n0_:Aside0 ((((w23.setCell ⟨gb215,0,none⟩ (.int .i64 ((rd_T56 l0 x7_1).f0))).setCell ⟨gb215,1,none⟩ (.string ((rd_T56 l0 x7_1).f1))).setCell ⟨gb215,2,none⟩ (.slice A214_2 ((rd_T56 l0 x7_1).f2).length c214_2)).heap[gb215]? = some (.cells #[.int .i64 ((rd_T56 l0 x7_1).f0),.string ((rd_T56 l0 x7_1).f1),.slice A214_2 ((rd_T56 l0 x7_1).f2).length c214_2] 56 (0,0))):=⟨by (with_reducible repeat (first|refine kn_ ?_ _|refine kd_ ?_|refine ka_ ?_ _));refine blk_put (cs:=#[.int .i64 ((rd_T56 l0 x7_1).f0),.string ((rd_T56 l0 x7_1).f1),.slice none 0 0]) ?_ 2 _ rfl;(with_reducible repeat (first|refine kn_ ?_ _|refine kd_ ?_|refine ka_ ?_ _));refine blk_put (cs:=#[.int .i64 ((rd_T56 l0 x7_1).f0),.string (⟨#[]⟩:ByteArray),.slice none 0 0]) ?_ 1 _ rfl;(with_reducible repeat (first|refine kn_ ?_ _|refine kd_ ?_|refine ka_ ?_ _));refine blk_put (cs:=#[.int .i64 0,.string (⟨#[]⟩:ByteArray),.slice none 0 0]) ?_ 0 _ rfl;(with_reducible repeat (first|refine kn_ ?_ _|refine kd_ ?_|refine ka_ ?_ _));exact BK215.out⟩
          have n1_:Aside0 (Below w.heap.size w (((w23.setCell ⟨gb215,0,none⟩ (.int .i64 ((rd_T56 l0 x7_1).f0))).setCell ⟨gb215,1,none⟩ (.string ((rd_T56 l0 x7_1).f1))).setCell ⟨gb215,2,none⟩ (.slice A214_2 ((rd_T56 l0 x7_1).f2).length c214_2))):=⟨by repeat (first|(with_reducible first|exact HB.out|apply ba_|apply pd_|apply b1_|refine bs_ ?_ GE215.out)|exact HB.out)⟩
          (try clear BK215)
          (try clear HB)
          generalize (((w23.setCell ⟨gb215,0,none⟩ (.int .i64 ((rd_T56 l0 x7_1).f0))).setCell ⟨gb215,1,none⟩ (.string ((rd_T56 l0 x7_1).f1))).setCell ⟨gb215,2,none⟩ (.slice A214_2 ((rd_T56 l0 x7_1).f2).length c214_2))=w25 at n0_ n1_ ⊢
          have BK215:=n0_
          have HB:=n1_
          clear n0_ n1_
          have n0_:=A_ (kd_ BK215.out)
          have n1_:=A_ (b1_ HB.out)
          clear BK215
          clear HB
          have BK215:=n0_
          have HB:=n1_
          clear n0_ n1_
          refine start_ (n:=18) (S:=fun w'=>w'.cell? ⟨gb215,0,none⟩=some (.int .i64 ((rd_T56 l0 x7_1).f0))∧w'.cell? ⟨gb215,1,none⟩=some (.string ((rd_T56 l0 x7_1).f1))∧w'.cell? ⟨gb215,2,none⟩=some (.slice A214_2 ((rd_T56 l0 x7_1).f2).length c214_2)) (ds:=[]) #[F_,F_,F_,F_,F_,F_,F_,F_,F_,F_,F_,F_,F_,F_,F_,F_,F_,F_] (by kernel_rfl) rfl rfl ⟨(bc_ BK215.out 0).trans rfl,(bc_ BK215.out 1).trans rfl,(bc_ BK215.out 2).trans rfl⟩ (fun hHeld=>?_);refine with_tabW impl_areRules.tab4 impl_areRules.bits4 (fun HT_ HW_=>?_)
          generalize w25.drew=w26 at BK215 HB hHeld ⊢
          refine pure_ (i:=0) (N:=some 12) (v:=?_) (a':=?_) #[T_,F_,F_,F_,F_,F_,F_,F_,F_,F_,F_,F_,F_,F_,F_,F_,F_,F_] rfl rfl (any_of HT_.out (by kernel_rfl)) (fun _ _ _ h=>h) (Or.inl ⟨by rfl,?_⟩) ?_ ?_
          rotate_left
          ·intro w'
           go_simp
           with_reducible rfl
          rotate_left
          ·simp only [Act.put,ls_,lz_,lc_,i64_w,i32_w]
           rfl
          refine pure_ (i:=1) (N:=some 13) (v:=?_) (a':=?_) #[T_,T_,F_,F_,F_,F_,F_,F_,F_,F_,F_,F_,F_,F_,F_,F_,F_,F_] rfl rfl (any_of HT_.out (by kernel_rfl)) (fun _ _ _ h=>h) (Or.inl ⟨by rfl,?_⟩) ?_ ?_
          rotate_left
          ·intro w'
           go_simp
           with_reducible rfl
          rotate_left
          ·simp only [Act.put,ls_,lz_,lc_,i64_w,i32_w]
           rfl
          refine pure_ (i:=2) (N:=some 14) (v:=?_) (a':=?_) #[T_,T_,T_,F_,F_,F_,F_,F_,F_,F_,F_,F_,F_,F_,F_,F_,F_,F_] rfl rfl (any_of HT_.out (by kernel_rfl)) (fun _ _ _ h=>h) (Or.inl ⟨by rfl,?_⟩) ?_ ?_
          rotate_left
          ·intro w'
           go_simp
           with_reducible rfl
          rotate_left
          ·simp only [Act.put,ls_,lz_,lc_,i64_w,i32_w]
           rfl
          refine take_ (i:=3) (N:=some 15) (v:=?_) (a':=?_) #[T_,T_,T_,T_,F_,F_,F_,F_,F_,F_,F_,F_,F_,F_,F_,F_,F_,F_] rfl rfl (take_ofW HT_.out HW_.out (by kernel_rfl)) (fun _ _ _ h=>h) (Or.inl ⟨by rfl,?_⟩) hHeld ?_ ?_
          rotate_left
          ·rintro w' ⟨s0,s1,s2⟩
           go_simp
           with_reducible rfl
          rotate_left
          ·simp only [Act.put,ls_,lz_,lc_,i64_w,i32_w]
           rfl
          refine one_ (i:=4) (N:=some 16) #[T_,T_,T_,T_,T_,F_,F_,F_,F_,F_,F_,F_,F_,F_,F_,F_,F_,F_] rfl rfl (one_of HT_.out (by kernel_rfl)) (by decide) (fun K hK=>?_)
          refine goes_ Try.func106 (by kernel_rfl) rfl #[.agg #[.int .i64 ((rd_T56 l0 x7_1).f0),.string ((rd_T56 l0 x7_1).f1),.slice A214_2 ((rd_T56 l0 x7_1).f2).length c214_2]] (by rfl) rfl rfl (by (try simp only [List.map_toArray,List.map_cons,List.map_nil]);first|done|rfl|(simp only [ld_,lt_];rfl)) ?_
          with_reducible refine (impl_RuleOK.calls k1 ((rd_T56 l0 x7_1).f0) ((rd_T56 l0 x7_1).f1) _ _ ((rd_T56 l0 x7_1).f2) true _ ?side1 ?side2 A10.out).mono ?_
          (case side1=>repeat (first|exact (cb_ HR214_2.out HB.out)|(with_reducible refine ca_ ?_ _)|(with_reducible refine cn_ ?_ _)|(with_reducible refine cd_ ?_)))
          (case side2=>exact HC214_2.out)
          rintro e w27 ⟨rfl,hb⟩
          refine ⟨_,rfl,?_⟩
          have n0_:=A_ (kb_ (g:=gb215) (o:=.cells #[.int .i64 ((rd_T56 l0 x7_1).f0),.string ((rd_T56 l0 x7_1).f1),.slice A214_2 ((rd_T56 l0 x7_1).f2).length c214_2] 56 (0,0)) (by (with_reducible repeat (first|refine kn_ ?_ _|refine kd_ ?_|refine ka_ ?_ _));exact BK215.out) hb)
          have n1_:=A_ (bp_ (by repeat (first|(with_reducible first|exact HB.out|apply ba_|apply pd_|apply b1_|refine bs_ ?_ GE215.out)|exact HB.out)) hb)
          clear BK215
          clear HB
          have BK215:=n0_
          have HB:=n1_
          clear n0_ n1_
          (try clear hb)
          (try clear hb2)
          (try clear hk)
          (try clear hi)
          have q28:(x7_1:Int)≤((l0.length:Int):Int):=od_ (by first|(with_reducible assumption)|assumption)
          obtain ⟨i028,hi028,_,hsz28,_⟩:=info_parts info56
          have hroom28:l0.length≤c0:=HC0.out
          have hC28:Kd.C k56 _ (some ad214) l0.length l0:=HR0.out
          have hcut28:=cut_to (P:=Try.prog) 22 56 .i64 Try.underlying22 hi028 (some ad214) l0.length c0 x7_1 (od_ (by first|(with_reducible assumption)|assumption)) q28 hroom28
          have hr28:=Kd.C_take (m:=(x7_1:Int).toNat) hC28 (by omega)
          have hy28:y217.length=(x7_1:Int).toNat:=(by rw [Ny217.out,lt_];omega)
          rw [←Ny217.out] at hr28
          rw [←hy28] at hcut28
          have HR220:=A_ hr28
          have HC220:=A_ (show y217.length≤c0 from by omega)
          clear hr28 hC28 hroom28 hi028 hsz28
          have KY28:=A_ hy28
          clear hy28
          replace q28:=eq_true q28
          refine hK.out _ _ ⟨(bc_ BK215.out 0).trans rfl,(bc_ BK215.out 1).trans rfl,(bc_ BK215.out 2).trans rfl⟩ (fun hHeld=>?_)
          clear hK K
          refine norm_ (a':=?_) ?_ ?_
          rotate_left
          ·show Act.put _ (some 16) _=_
           simp only [Act.put,ls_,lz_,lc_,i64_w,i32_w]
           rfl
          refine pure_ (i:=5) (N:=some 17) (v:=?_) (a':=?_) #[T_,T_,T_,T_,T_,T_,F_,F_,F_,F_,F_,F_,F_,F_,F_,F_,F_,F_] rfl rfl (any_of HT_.out (by kernel_rfl)) (fun _ _ _ h=>h) (Or.inl ⟨by rfl,?_⟩) ?_ ?_
          rotate_left
          ·intro w'
           go_simp
           with_reducible rfl
          rotate_left
          ·simp only [Act.put,ls_,lz_,lc_,i64_w,i32_w]
           rfl
          refine pure_ (i:=6) (N:=some 18) (v:=?_) (a':=?_) #[T_,T_,T_,T_,T_,T_,T_,F_,F_,F_,F_,F_,F_,F_,F_,F_,F_,F_] rfl rfl (any_of HT_.out (by kernel_rfl)) (fun _ _ _ h=>h) (Or.inl ⟨by rfl,?_⟩) ?_ ?_
          rotate_left
          ·intro w'
           go_simp
           with_reducible rfl
          rotate_left
          ·simp only [Act.put,ls_,lz_,lc_,i64_w,i32_w]
           rfl
          refine pure_ (i:=7) (N:=some 19) (v:=?_) (a':=?_) #[T_,T_,T_,T_,T_,T_,T_,T_,F_,F_,F_,F_,F_,F_,F_,F_,F_,F_] rfl rfl (any_of HT_.out (by kernel_rfl)) (fun _ _ _ h=>h) (Or.inl ⟨by rfl,?_⟩) ?_ ?_
          rotate_left
          ·intro w'
           go_simp
           with_reducible rfl
          rotate_left
          ·simp only [Act.put,ls_,lz_,lc_,i64_w,i32_w]
           rfl
          refine pure_ (i:=8) (N:=some 20) (v:=?_) (a':=?_) #[T_,T_,T_,T_,T_,T_,T_,T_,T_,F_,F_,F_,F_,F_,F_,F_,F_,F_] rfl rfl (any_of HT_.out (by kernel_rfl)) (fun _ _ _ h=>h) (Or.inl ⟨by rfl,?_⟩) ?_ ?_
          rotate_left
          ·intro w'
           go_simp
           with_reducible rfl
          rotate_left
          ·simp only [Act.put,ls_,lz_,lc_,i64_w,i32_w]
           rfl
          refine pure_ (i:=9) (N:=some 21) (v:=?_) (a':=?_) #[T_,T_,T_,T_,T_,T_,T_,T_,T_,T_,F_,F_,F_,F_,F_,F_,F_,F_] rfl rfl (any_of HT_.out (by kernel_rfl)) (fun _ _ _ h=>h) (Or.inl ⟨by rfl,?_⟩) ?_ ?_
          rotate_left
          ·intro w'
           go_simp
           with_reducible rfl
          rotate_left
          ·simp only [Act.put,ls_,lz_,lc_,i64_w,i32_w]
           rfl
          refine pure_ (i:=10) (N:=some 22) (v:=?_) (a':=?_) #[T_,T_,T_,T_,T_,T_,T_,T_,T_,T_,T_,F_,F_,F_,F_,F_,F_,F_] rfl rfl (any_of HT_.out (by kernel_rfl)) (fun _ _ _ h=>h) (Or.inl ⟨by rfl,?_⟩) ?_ ?_
          rotate_left
          ·intro w'
           go_simp
           with_reducible rfl
          rotate_left
          ·simp only [Act.put,ls_,lz_,lc_,i64_w,i32_w]
           rfl
          refine pure_ (i:=11) (N:=some 23) (v:=?_) (a':=?_) #[T_,T_,T_,T_,T_,T_,T_,T_,T_,T_,T_,T_,F_,F_,F_,F_,F_,F_] rfl rfl (any_of HT_.out (by kernel_rfl)) (fun _ _ _ h=>h) (Or.inl ⟨by rfl,?_⟩) ?_ ?_
          rotate_left
          ·intro w'
           go_simp
           with_reducible rfl
          rotate_left
          ·simp only [Act.put,ls_,lz_,lc_,i64_w,i32_w]
           rfl
          refine pure_ (i:=13) (N:=some 25) (v:=?_) (a':=?_) #[T_,T_,T_,T_,T_,T_,T_,T_,T_,T_,T_,T_,F_,T_,F_,F_,F_,F_] rfl rfl (any_of HT_.out (by kernel_rfl)) (fun _ _ _ h=>h) (Or.inl ⟨by rfl,?_⟩) ?_ ?_
          rotate_left
          ·intro w'
           go_simp
           with_reducible rfl
          rotate_left
          ·simp only [Act.put,ls_,lz_,lc_,i64_w,i32_w]
           rfl
          refine take_ (i:=12) (N:=some 24) (v:=?_) (a':=?_) #[T_,T_,T_,T_,T_,T_,T_,T_,T_,T_,T_,T_,T_,T_,F_,F_,F_,F_] rfl rfl (take_ofW HT_.out HW_.out (by kernel_rfl)) (fun _ _ _ h=>h) (Or.inl ⟨by rfl,?_⟩) hHeld ?_ ?_
          rotate_left
          ·rintro w' ⟨s0,s1,s2⟩
           go_simp
           with_reducible rfl
          rotate_left
          ·simp only [Act.put,ls_,lz_,lc_,i64_w,i32_w]
           rfl
          refine take_ (i:=14) (N:=some 26) (v:=?_) (a':=?_) #[T_,T_,T_,T_,T_,T_,T_,T_,T_,T_,T_,T_,T_,T_,T_,F_,F_,F_] rfl rfl (take_ofW HT_.out HW_.out (by kernel_rfl)) (fun _ _ _ h=>h) (Or.inl ⟨by rfl,?_⟩) hHeld ?_ ?_
          rotate_left
          ·rintro w' ⟨s0,s1,s2⟩
           go_simp
           with_reducible rfl
          rotate_left
          ·simp only [Act.put,ls_,lz_,lc_,i64_w,i32_w]
           rfl
          refine one_ (i:=15) (N:=some 27) #[T_,T_,T_,T_,T_,T_,T_,T_,T_,T_,T_,T_,T_,T_,T_,T_,F_,F_] rfl rfl (one_of HT_.out (by kernel_rfl)) (by decide) (fun K hK=>?_)
          refine goes_ Try.func82 (by kernel_rfl) rfl #[.slice (some ad214) y217.length c0,.int .i64 ((rd_T56 l0 x7_1).f0),.string ((rd_T56 l0 x7_1).f1)] (by rfl) rfl rfl (by (try simp only [List.map_toArray,List.map_cons,List.map_nil]);first|done|rfl|(simp only [ld_,lt_];rfl)) ?_
          with_reducible refine (impl_ruleAt.calls _ _ y217 ((rd_T56 l0 x7_1).f0) ((rd_T56 l0 x7_1).f1) t221 _ ?side1 ?side2 A14.out).mono ?_
          (case side1=>repeat (first|exact (cb_ HR220.out HB.out)|(with_reducible refine ca_ ?_ _)|(with_reducible refine cn_ ?_ _)|(with_reducible refine cd_ ?_)))
          (case side2=>exact HC220.out)
          rintro e w29 ⟨rfl,hb⟩
          refine ⟨_,rfl,?_⟩
          have n0_:=A_ (kb_ (g:=gb215) (o:=.cells #[.int .i64 ((rd_T56 l0 x7_1).f0),.string ((rd_T56 l0 x7_1).f1),.slice A214_2 ((rd_T56 l0 x7_1).f2).length c214_2] 56 (0,0)) (by (with_reducible repeat (first|refine kn_ ?_ _|refine kd_ ?_|refine ka_ ?_ _));exact BK215.out) hb)
          have n1_:=A_ (bp_ (by repeat (first|(with_reducible first|exact HB.out|apply ba_|apply pd_|apply b1_|refine bs_ ?_ GE215.out)|exact HB.out)) hb)
          clear BK215
          clear HB
          have BK215:=n0_
          have HB:=n1_
          clear n0_ n1_
          (try clear hb)
          (try clear hb2)
          (try clear hk)
          (try clear hi)
          refine hK.out _ _ ⟨(bc_ BK215.out 0).trans rfl,(bc_ BK215.out 1).trans rfl,(bc_ BK215.out 2).trans rfl⟩ (fun hHeld=>?_)
          clear hK K
          refine norm_ (a':=?_) ?_ ?_
          rotate_left
          ·show Act.put _ (some 27) _=_
           simp only [Act.put,ls_,lz_,lc_,i64_w,i32_w]
           rfl
          refine pure_ (i:=16) (N:=some 28) (v:=?_) (a':=?_) #[T_,T_,T_,T_,T_,T_,T_,T_,T_,T_,T_,T_,T_,T_,T_,T_,T_,F_] rfl rfl (any_of HT_.out (by kernel_rfl)) (fun _ _ _ h=>h) (Or.inl ⟨by rfl,?_⟩) ?_ ?_
          rotate_left
          ·intro w'
           go_simp
           with_reducible rfl
          rotate_left
          ·simp only [Act.put,ls_,lz_,lc_,i64_w,i32_w]
           rfl
          refine pure_ (i:=17) (N:=some 29) (v:=?_) (a':=?_) #[T_,T_,T_,T_,T_,T_,T_,T_,T_,T_,T_,T_,T_,T_,T_,T_,T_,T_] rfl rfl (any_of HT_.out (by kernel_rfl)) (fun _ _ _ h=>h) (Or.inl ⟨by rfl,?_⟩) ?_ ?_
          rotate_left
          ·intro w'
           go_simp
           with_reducible rfl
          rotate_left
          ·simp only [Act.put,ls_,lz_,lc_,i64_w,i32_w]
           rfl
          refine done_ (done_of HT_.out (by kernel_rfl)) ?_
          try go_wp2
          go_roundg k1
          case measure=>have:=HK1.out;omega
          case rel=>exact ⟨(wrap64 (x7_1+1)),(by first|rfl|(simp;done)|(simp [*];done)),H',⟨by have:=HK1.out;omega⟩,⟨by repeat (first|(with_reducible first|exact HB.out|apply ba_|apply pd_|apply b1_|refine bs_ ?_ GE215.out)|exact HB.out)⟩⟩
        ·rw [if_neg c13] at H
         exact absurd H (by simp)
       ·replace c11:=bm_ c11
        subst c11
        have H1:(some false)=some r:=by rw [if_neg (show ¬ (false=true) by decide)] at H;exact H
        clear H
        have H:=H1
        clear H1
        obtain rfl:=oi_ H
        have p214:0≤(x7_1:Int):=od_ (by first|(with_reducible assumption)|assumption)
        have q214:x7_1<(l0.length:Int):=od_ (by first|(with_reducible assumption)|assumption)
        obtain ⟨ad214,A214_2,c214_2,e214,hx214_0,hx214_1,hx214_2,hl214_2,hi214_2⟩:=at_T56 HR0.out x7_1 p214 q214
        cases e214
        replace hx214_0:=(HB.out.cell (bl_ w _ hx214_0)).trans hx214_0
        replace hx214_1:=(HB.out.cell (bl_ w _ hx214_1)).trans hx214_1
        replace hx214_2:=(HB.out.cell (bl_ w _ hx214_2)).trans hx214_2
        have HR214_2:=A_ hi214_2
        have HC214_2:=A_ hl214_2
        clear hi214_2 hl214_2
        replace p214:=eq_true p214
        replace q214:=eq_true q214
        try go_wp2_with (first|((with_reducible refine gate_dst (N:=4) rfl ?_);refine box_event ?hg (N:=4) ?hd (cs:=#[.int .i64 0,.string (⟨#[]⟩:ByteArray),.slice none 0 0]) (t:=56) ?hr ?_;(case hd=>rfl);(case hg=>rfl);(case hr=>first|(go_simp;done)|(go_simp;rfl));intro gb215 hg w30 hbox hb;have n0_:=A_ (bp_ (by repeat (first|(with_reducible first|exact HB.out|apply ba_|apply pd_|apply b1_)|exact HB.out)) hb);have n1_:=A_ (hbox);have n2_:=A_ ((by rw [hg];exact (bz_ (by repeat (first|(with_reducible first|exact HB.out|apply ba_|apply pd_|apply b1_)|exact HB.out))):w.heap.size≤gb215));have n3_:=A_ ((by rw [hg];exact (bz_ (by repeat (first|(with_reducible first|exact HB.out|apply ba_|apply pd_|apply b1_)|exact HB.out))):w.heap.size≤gb215));clear HB;have HB:=n0_;have BK215:=n1_;have GW215:=n2_;have GE215:=n3_;clear n0_ n1_ n2_ n3_;clear hb hbox hg;have hcz31_0:w30.cell? ⟨gb215,0,none⟩=some (.int .i64 0):=(bc_ BK215.out 0).trans rfl;have hcz31_1:w30.cell? ⟨gb215,1,none⟩=some (.string (⟨#[]⟩:ByteArray)):=(bc_ BK215.out 1).trans rfl;have hcz31_2:w30.cell? ⟨gb215,2,none⟩=some (.slice none 0 0):=(bc_ BK215.out 2).trans rfl;have hfz31_0:=bf_ BK215.out 0;have hfz31_1:=bf_ BK215.out 1;have hfz31_2:=bf_ BK215.out 2))
        have n0_:Aside0 ((((w30.setCell ⟨gb215,0,none⟩ (.int .i64 ((rd_T56 l0 x7_1).f0))).setCell ⟨gb215,1,none⟩ (.string ((rd_T56 l0 x7_1).f1))).setCell ⟨gb215,2,none⟩ (.slice A214_2 ((rd_T56 l0 x7_1).f2).length c214_2)).heap[gb215]? = some (.cells #[.int .i64 ((rd_T56 l0 x7_1).f0),.string ((rd_T56 l0 x7_1).f1),.slice A214_2 ((rd_T56 l0 x7_1).f2).length c214_2] 56 (0,0))):=⟨by (with_reducible repeat (first|refine kn_ ?_ _|refine kd_ ?_|refine ka_ ?_ _));refine blk_put (cs:=#[.int .i64 ((rd_T56 l0 x7_1).f0),.string ((rd_T56 l0 x7_1).f1),.slice none 0 0]) ?_ 2 _ rfl;(with_reducible repeat (first|refine kn_ ?_ _|refine kd_ ?_|refine ka_ ?_ _));refine blk_put (cs:=#[.int .i64 ((rd_T56 l0 x7_1).f0),.string (⟨#[]⟩:ByteArray),.slice none 0 0]) ?_ 1 _ rfl;(with_reducible repeat (first|refine kn_ ?_ _|refine kd_ ?_|refine ka_ ?_ _));refine blk_put (cs:=#[.int .i64 0,.string (⟨#[]⟩:ByteArray),.slice none 0 0]) ?_ 0 _ rfl;(with_reducible repeat (first|refine kn_ ?_ _|refine kd_ ?_|refine ka_ ?_ _));exact BK215.out⟩
        have n1_:Aside0 (Below w.heap.size w (((w30.setCell ⟨gb215,0,none⟩ (.int .i64 ((rd_T56 l0 x7_1).f0))).setCell ⟨gb215,1,none⟩ (.string ((rd_T56 l0 x7_1).f1))).setCell ⟨gb215,2,none⟩ (.slice A214_2 ((rd_T56 l0 x7_1).f2).length c214_2))):=⟨by repeat (first|(with_reducible first|exact HB.out|apply ba_|apply pd_|apply b1_|refine bs_ ?_ GE215.out)|exact HB.out)⟩
        (try clear BK215)
        (try clear HB)
        generalize (((w30.setCell ⟨gb215,0,none⟩ (.int .i64 ((rd_T56 l0 x7_1).f0))).setCell ⟨gb215,1,none⟩ (.string ((rd_T56 l0 x7_1).f1))).setCell ⟨gb215,2,none⟩ (.slice A214_2 ((rd_T56 l0 x7_1).f2).length c214_2))=w32 at n0_ n1_ ⊢
        have BK215:=n0_
        have HB:=n1_
        clear n0_ n1_
        have n0_:=A_ (kd_ BK215.out)
        have n1_:=A_ (b1_ HB.out)
        clear BK215
        clear HB
        have BK215:=n0_
        have HB:=n1_
        clear n0_ n1_
        refine start_ (n:=18) (S:=fun w'=>w'.cell? ⟨gb215,0,none⟩=some (.int .i64 ((rd_T56 l0 x7_1).f0))∧w'.cell? ⟨gb215,1,none⟩=some (.string ((rd_T56 l0 x7_1).f1))∧w'.cell? ⟨gb215,2,none⟩=some (.slice A214_2 ((rd_T56 l0 x7_1).f2).length c214_2)) (ds:=[]) #[F_,F_,F_,F_,F_,F_,F_,F_,F_,F_,F_,F_,F_,F_,F_,F_,F_,F_] (by kernel_rfl) rfl rfl ⟨(bc_ BK215.out 0).trans rfl,(bc_ BK215.out 1).trans rfl,(bc_ BK215.out 2).trans rfl⟩ (fun hHeld=>?_);refine with_tabW impl_areRules.tab4 impl_areRules.bits4 (fun HT_ HW_=>?_)
        generalize w32.drew=w33 at BK215 HB hHeld ⊢
        refine pure_ (i:=0) (N:=some 12) (v:=?_) (a':=?_) #[T_,F_,F_,F_,F_,F_,F_,F_,F_,F_,F_,F_,F_,F_,F_,F_,F_,F_] rfl rfl (any_of HT_.out (by kernel_rfl)) (fun _ _ _ h=>h) (Or.inl ⟨by rfl,?_⟩) ?_ ?_
        rotate_left
        ·intro w'
         go_simp
         with_reducible rfl
        rotate_left
        ·simp only [Act.put,ls_,lz_,lc_,i64_w,i32_w]
         rfl
        refine pure_ (i:=1) (N:=some 13) (v:=?_) (a':=?_) #[T_,T_,F_,F_,F_,F_,F_,F_,F_,F_,F_,F_,F_,F_,F_,F_,F_,F_] rfl rfl (any_of HT_.out (by kernel_rfl)) (fun _ _ _ h=>h) (Or.inl ⟨by rfl,?_⟩) ?_ ?_
        rotate_left
        ·intro w'
         go_simp
         with_reducible rfl
        rotate_left
        ·simp only [Act.put,ls_,lz_,lc_,i64_w,i32_w]
         rfl
        refine pure_ (i:=2) (N:=some 14) (v:=?_) (a':=?_) #[T_,T_,T_,F_,F_,F_,F_,F_,F_,F_,F_,F_,F_,F_,F_,F_,F_,F_] rfl rfl (any_of HT_.out (by kernel_rfl)) (fun _ _ _ h=>h) (Or.inl ⟨by rfl,?_⟩) ?_ ?_
        rotate_left
        ·intro w'
         go_simp
         with_reducible rfl
        rotate_left
        ·simp only [Act.put,ls_,lz_,lc_,i64_w,i32_w]
         rfl
        refine take_ (i:=3) (N:=some 15) (v:=?_) (a':=?_) #[T_,T_,T_,T_,F_,F_,F_,F_,F_,F_,F_,F_,F_,F_,F_,F_,F_,F_] rfl rfl (take_ofW HT_.out HW_.out (by kernel_rfl)) (fun _ _ _ h=>h) (Or.inl ⟨by rfl,?_⟩) hHeld ?_ ?_
        rotate_left
        ·rintro w' ⟨s0,s1,s2⟩
         go_simp
         with_reducible rfl
        rotate_left
        ·simp only [Act.put,ls_,lz_,lc_,i64_w,i32_w]
         rfl
        refine one_ (i:=4) (N:=some 16) #[T_,T_,T_,T_,T_,F_,F_,F_,F_,F_,F_,F_,F_,F_,F_,F_,F_,F_] rfl rfl (one_of HT_.out (by kernel_rfl)) (by decide) (fun K hK=>?_)
        refine goes_ Try.func106 (by kernel_rfl) rfl #[.agg #[.int .i64 ((rd_T56 l0 x7_1).f0),.string ((rd_T56 l0 x7_1).f1),.slice A214_2 ((rd_T56 l0 x7_1).f2).length c214_2]] (by rfl) rfl rfl (by (try simp only [List.map_toArray,List.map_cons,List.map_nil]);first|done|rfl|(simp only [ld_,lt_];rfl)) ?_
        with_reducible refine (impl_RuleOK.calls k1 ((rd_T56 l0 x7_1).f0) ((rd_T56 l0 x7_1).f1) _ _ ((rd_T56 l0 x7_1).f2) false _ ?side1 ?side2 A10.out).mono ?_
        (case side1=>repeat (first|exact (cb_ HR214_2.out HB.out)|(with_reducible refine ca_ ?_ _)|(with_reducible refine cn_ ?_ _)|(with_reducible refine cd_ ?_)))
        (case side2=>exact HC214_2.out)
        rintro e w34 ⟨rfl,hb⟩
        refine ⟨_,rfl,?_⟩
        have n0_:=A_ (kb_ (g:=gb215) (o:=.cells #[.int .i64 ((rd_T56 l0 x7_1).f0),.string ((rd_T56 l0 x7_1).f1),.slice A214_2 ((rd_T56 l0 x7_1).f2).length c214_2] 56 (0,0)) (by (with_reducible repeat (first|refine kn_ ?_ _|refine kd_ ?_|refine ka_ ?_ _));exact BK215.out) hb)
        have n1_:=A_ (bp_ (by repeat (first|(with_reducible first|exact HB.out|apply ba_|apply pd_|apply b1_|refine bs_ ?_ GE215.out)|exact HB.out)) hb)
        clear BK215
        clear HB
        have BK215:=n0_
        have HB:=n1_
        clear n0_ n1_
        (try clear hb)
        (try clear hb2)
        (try clear hk)
        (try clear hi)
        refine hK.out _ _ ⟨(bc_ BK215.out 0).trans rfl,(bc_ BK215.out 1).trans rfl,(bc_ BK215.out 2).trans rfl⟩ (fun hHeld=>?_)
        clear hK K
        refine norm_ (a':=?_) ?_ ?_
        rotate_left
        ·show Act.put _ (some 16) _=_
         simp only [Act.put,ls_,lz_,lc_,i64_w,i32_w]
         rfl
        refine pure_ (i:=5) (N:=some 17) (v:=?_) (a':=?_) #[T_,T_,T_,T_,T_,T_,F_,F_,F_,F_,F_,F_,F_,F_,F_,F_,F_,F_] rfl rfl (any_of HT_.out (by kernel_rfl)) (fun _ _ _ h=>h) (Or.inl ⟨by rfl,?_⟩) ?_ ?_
        rotate_left
        ·intro w'
         go_simp
         with_reducible rfl
        rotate_left
        ·simp only [Act.put,ls_,lz_,lc_,i64_w,i32_w]
         rfl
        refine pure_ (i:=6) (N:=some 18) (v:=?_) (a':=?_) #[T_,T_,T_,T_,T_,T_,T_,F_,F_,F_,F_,F_,F_,F_,F_,F_,F_,F_] rfl rfl (any_of HT_.out (by kernel_rfl)) (fun _ _ _ h=>h) (Or.inl ⟨by rfl,?_⟩) ?_ ?_
        rotate_left
        ·intro w'
         go_simp
         with_reducible rfl
        rotate_left
        ·simp only [Act.put,ls_,lz_,lc_,i64_w,i32_w]
         rfl
        refine pure_ (i:=7) (N:=some 19) (v:=?_) (a':=?_) #[T_,T_,T_,T_,T_,T_,T_,T_,F_,F_,F_,F_,F_,F_,F_,F_,F_,F_] rfl rfl (any_of HT_.out (by kernel_rfl)) (fun _ _ _ h=>h) (Or.inl ⟨by rfl,?_⟩) ?_ ?_
        rotate_left
        ·intro w'
         go_simp
         with_reducible rfl
        rotate_left
        ·simp only [Act.put,ls_,lz_,lc_,i64_w,i32_w]
         rfl
        refine pure_ (i:=8) (N:=some 20) (v:=undef) (a':=?_) #[T_,T_,T_,T_,T_,T_,T_,T_,T_,F_,F_,F_,F_,F_,F_,F_,F_,F_] rfl rfl (any_of HT_.out (by kernel_rfl)) (fun _ _ _ h=>h) (Or.inr ⟨by rfl,rfl⟩) ?_ ?_
        rotate_left
        ·simp only [Act.put,ls_,lz_,lc_,i64_w,i32_w]
         rfl
        refine pure_ (i:=9) (N:=some 21) (v:=undef) (a':=?_) #[T_,T_,T_,T_,T_,T_,T_,T_,T_,T_,F_,F_,F_,F_,F_,F_,F_,F_] rfl rfl (any_of HT_.out (by kernel_rfl)) (fun _ _ _ h=>h) (Or.inr ⟨by rfl,rfl⟩) ?_ ?_
        rotate_left
        ·simp only [Act.put,ls_,lz_,lc_,i64_w,i32_w]
         rfl
        refine pure_ (i:=10) (N:=some 22) (v:=undef) (a':=?_) #[T_,T_,T_,T_,T_,T_,T_,T_,T_,T_,T_,F_,F_,F_,F_,F_,F_,F_] rfl rfl (any_of HT_.out (by kernel_rfl)) (fun _ _ _ h=>h) (Or.inr ⟨by rfl,rfl⟩) ?_ ?_
        rotate_left
        ·simp only [Act.put,ls_,lz_,lc_,i64_w,i32_w]
         rfl
        refine pure_ (i:=11) (N:=some 23) (v:=undef) (a':=?_) #[T_,T_,T_,T_,T_,T_,T_,T_,T_,T_,T_,T_,F_,F_,F_,F_,F_,F_] rfl rfl (any_of HT_.out (by kernel_rfl)) (fun _ _ _ h=>h) (Or.inr ⟨by rfl,rfl⟩) ?_ ?_
        rotate_left
        ·simp only [Act.put,ls_,lz_,lc_,i64_w,i32_w]
         rfl
        refine pure_ (i:=12) (N:=some 24) (v:=undef) (a':=?_) #[T_,T_,T_,T_,T_,T_,T_,T_,T_,T_,T_,T_,T_,F_,F_,F_,F_,F_] rfl rfl (any_of HT_.out (by kernel_rfl)) (fun _ _ _ h=>h) (Or.inr ⟨by rfl,rfl⟩) ?_ ?_
        rotate_left
        ·simp only [Act.put,ls_,lz_,lc_,i64_w,i32_w]
         rfl
        refine pure_ (i:=13) (N:=some 25) (v:=undef) (a':=?_) #[T_,T_,T_,T_,T_,T_,T_,T_,T_,T_,T_,T_,T_,T_,F_,F_,F_,F_] rfl rfl (any_of HT_.out (by kernel_rfl)) (fun _ _ _ h=>h) (Or.inr ⟨by rfl,rfl⟩) ?_ ?_
        rotate_left
        ·simp only [Act.put,ls_,lz_,lc_,i64_w,i32_w]
         rfl
        refine pure_ (i:=14) (N:=some 26) (v:=undef) (a':=?_) #[T_,T_,T_,T_,T_,T_,T_,T_,T_,T_,T_,T_,T_,T_,T_,F_,F_,F_] rfl rfl (any_of HT_.out (by kernel_rfl)) (fun _ _ _ h=>h) (Or.inr ⟨by rfl,rfl⟩) ?_ ?_
        rotate_left
        ·simp only [Act.put,ls_,lz_,lc_,i64_w,i32_w]
         rfl
        refine pure_ (i:=15) (N:=some 27) (v:=undef) (a':=?_) #[T_,T_,T_,T_,T_,T_,T_,T_,T_,T_,T_,T_,T_,T_,T_,T_,F_,F_] rfl rfl (any_of HT_.out (by kernel_rfl)) (fun _ _ _ h=>h) (Or.inr ⟨by rfl,rfl⟩) ?_ ?_
        rotate_left
        ·simp only [Act.put,ls_,lz_,lc_,i64_w,i32_w]
         rfl
        refine pure_ (i:=16) (N:=some 28) (v:=undef) (a':=?_) #[T_,T_,T_,T_,T_,T_,T_,T_,T_,T_,T_,T_,T_,T_,T_,T_,T_,F_] rfl rfl (any_of HT_.out (by kernel_rfl)) (fun _ _ _ h=>h) (Or.inr ⟨by rfl,rfl⟩) ?_ ?_
        rotate_left
        ·simp only [Act.put,ls_,lz_,lc_,i64_w,i32_w]
         rfl
        refine pure_ (i:=17) (N:=some 29) (v:=?_) (a':=?_) #[T_,T_,T_,T_,T_,T_,T_,T_,T_,T_,T_,T_,T_,T_,T_,T_,T_,T_] rfl rfl (any_of HT_.out (by kernel_rfl)) (fun _ _ _ h=>h) (Or.inl ⟨by rfl,?_⟩) ?_ ?_
        rotate_left
        ·intro w'
         go_simp
         with_reducible rfl
        rotate_left
        ·simp only [Act.put,ls_,lz_,lc_,i64_w,i32_w]
         rfl
        refine done_ (done_of HT_.out (by kernel_rfl)) ?_
        try go_wp2
        go_ret
        exact ⟨by first|rfl|(simp [errW_none,errW_some] <;> rfl)|(simp [*,errW_none,errW_some] <;> rfl),by repeat (first|(with_reducible first|exact HB.out|apply ba_|apply pd_|apply b1_|refine bs_ ?_ GE215.out)|exact HB.out)⟩
     ·rw [if_neg c4] at H
      exact absurd H (by simp)
    ·rw [if_neg c3] at H
     exact absurd H (by simp)
   ·rw [if_neg c2] at H
    have c2b0:decide (x7_1<(l0.length:Int))=false:=df_ c2
    clear c2
    obtain rfl:=oi_ H
    go_wp2
    go_ret
    exact ⟨by first|rfl|(simp [errW_none,errW_some] <;> rfl)|(simp [*,errW_none,errW_some] <;> rfl),by repeat (first|(with_reducible first|exact HB.out|apply ba_|apply pd_|apply b1_)|exact HB.out)⟩
end Go.Proofs.Ytmeafbneklphnaa.PFnExactAllowsAttr
