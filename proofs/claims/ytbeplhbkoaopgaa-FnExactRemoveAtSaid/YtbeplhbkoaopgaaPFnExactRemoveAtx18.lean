/- By a program of this session, out of the kit's print and contracts made by hand: the machine side of a law; Lean checks it. No conditions. -/
import Derived.Test.YtbeplhbkoaopgaaPFnExactRemoveAtx0
import Derived.Test.YtbeplhbkoaopgaaPFnExactRemoveAtx15
import Derived.Test.YtbeplhbkoaopgaaPFnExactRemoveAtx17
namespace Go.Proofs.Ytbeplhbkoaopgaa.PFnExactRemoveAt
open Go.RowKit Go.Proofs.YtbeplhbkoaopgaaW.PrintWords Go.Proofs.YtbeplhbkoaopgaaW.PrintLast Go.Proofs.YtbeplhbkoaopgaaW.PrintMore
attribute [local go_sem] max2_int min2_int max_two min_two max_three min_three max_four min_four
set_option linter.unusedVariables false
set_option linter.unusedSimpArgs false
/-! ### spec_l03OK: function 44 -/
mutual
def spec_l03OK.j0:Nat→List (S28)→Int→Int→Bool→Option (Int × Bool)
 | 0,_,_,_,_=>none
 | k+1,x0,x1,x6,x21=>if x21=true then (some (x6,false)) else (spec_l03OK.l0 k x0 x1 x6 0)
def spec_l03OK.l0:Nat→List (S28)→Int→Int→Int→Option (Int × Bool)
 | 0,_,_,_,_=>none
 | k+1,x0,x1,x6,x7=>if x7<(x0.length:Int) then (if 0≤x7 then ((spec_l03Plain.f k ((rd_T28 x0 x7).f0) ((rd_T28 x0 x7).f1) ((rd_T28 x0 x7).f2) ((rd_T28 x0 x7).f3) ((rd_T28 x0 x7).f4) ((rd_T28 x0 x7).f5)).bind fun t199=>(if t199=true then ((spec_l03Holds.f k ((rd_T28 x0 x7).f0) ((rd_T28 x0 x7).f1) ((rd_T28 x0 x7).f2) ((rd_T28 x0 x7).f3) ((rd_T28 x0 x7).f4) ((rd_T28 x0 x7).f5)).bind fun t201=>(spec_l03OK.j2 k x0 x1 x6 x7 (!t201))) else (spec_l03OK.j2 k x0 x1 x6 x7 true))) else (none)) else (some (x6,true))
def spec_l03OK.j2:Nat→List (S28)→Int→Int→Int→Bool→Option (Int × Bool)
 | 0,_,_,_,_,_=>none
 | k+1,x0,x1,x6,x7,x42=>if x42=true then (some (x6,false)) else (if 0≤x7 then (if x7<(x0.length:Int) then ((spec_l03OK.f k ((rd_T28 x0 x7).f5) (wrap64 (x1 - 1))).bind fun bt203=>(if bt203.2=true then (if (wrap64 (x6+bt203.1))>60 then (some (wrap64 (x6+bt203.1),false)) else (spec_l03OK.l0 k x0 x1 (wrap64 (x6+bt203.1)) (wrap64 (x7+1)))) else (some (wrap64 (x6+bt203.1),false)))) else (none)) else (none))
def spec_l03OK.f:Nat→List (S28)→Int→Option (Int × Bool)
 | 0,_,_=>none
 | k+1,l0,a1=>if (l0.length:Int)>60 then (spec_l03OK.j0 k l0 a1 (l0.length:Int) true) else (if a1=0 then (spec_l03OK.j0 k l0 a1 (l0.length:Int) (decide ((l0.length:Int)>0))) else (spec_l03OK.j0 k l0 a1 (l0.length:Int) false))
end
theorem spec_l03OK.mono_l:∀ k,(∀ y0 y1,LeO (spec_l03OK.f k y0 y1) (spec_l03OK.f (k+1) y0 y1))∧(∀ y0 y1 y2 y3,LeO (spec_l03OK.j0 k y0 y1 y2 y3) (spec_l03OK.j0 (k+1) y0 y1 y2 y3))∧(∀ y0 y1 y2 y3,LeO (spec_l03OK.l0 k y0 y1 y2 y3) (spec_l03OK.l0 (k+1) y0 y1 y2 y3))∧(∀ y0 y1 y2 y3 y4,LeO (spec_l03OK.j2 k y0 y1 y2 y3 y4) (spec_l03OK.j2 (k+1) y0 y1 y2 y3 y4))
 | 0=>⟨fun _ _ r h=>by simp [spec_l03OK.f] at h,fun _ _ _ _ r h=>by simp [spec_l03OK.j0] at h,fun _ _ _ _ r h=>by simp [spec_l03OK.l0] at h,fun _ _ _ _ _ r h=>by simp [spec_l03OK.j2] at h⟩
 | k+1=>by
  obtain ⟨ih0,ih1,ih2,ih3⟩:=spec_l03OK.mono_l k
  refine ⟨?_,?_,?_,?_⟩
  ·intro y0 y1
   unfold spec_l03OK.f
   repeat' first
   | (with_reducible exact ih0 _ _)
   | (with_reducible exact ih1 _ _ _ _)
   | (with_reducible exact ih2 _ _ _ _)
   | (with_reducible exact ih3 _ _ _ _ _)
   | (with_reducible exact spec_l03Holds.mono _ _ _ _ _ _ _)
   | (with_reducible exact spec_l03Plain.mono _ _ _ _ _ _ _)
   | (with_reducible exact LeO.refl _)
   | (with_reducible exact LeO.none _)
   | (with_reducible refine LeO.ite ?_ ?_)
   | (with_reducible refine LeO.bind ?_ (fun _=>?_))
   | exact ih0 _ _
   | exact ih1 _ _ _ _
   | exact ih2 _ _ _ _
   | exact ih3 _ _ _ _ _
   | exact spec_l03Holds.mono _ _ _ _ _ _ _
   | exact spec_l03Plain.mono _ _ _ _ _ _ _
   | exact LeO.none _
   | refine LeO.ite ?_ ?_
   | refine LeO.bind ?_ (fun _=>?_)
  ·intro y0 y1 y2 y3
   unfold spec_l03OK.j0
   repeat' first
   | (with_reducible exact ih0 _ _)
   | (with_reducible exact ih1 _ _ _ _)
   | (with_reducible exact ih2 _ _ _ _)
   | (with_reducible exact ih3 _ _ _ _ _)
   | (with_reducible exact spec_l03Holds.mono _ _ _ _ _ _ _)
   | (with_reducible exact spec_l03Plain.mono _ _ _ _ _ _ _)
   | (with_reducible exact LeO.refl _)
   | (with_reducible exact LeO.none _)
   | (with_reducible refine LeO.ite ?_ ?_)
   | (with_reducible refine LeO.bind ?_ (fun _=>?_))
   | exact ih0 _ _
   | exact ih1 _ _ _ _
   | exact ih2 _ _ _ _
   | exact ih3 _ _ _ _ _
   | exact spec_l03Holds.mono _ _ _ _ _ _ _
   | exact spec_l03Plain.mono _ _ _ _ _ _ _
   | exact LeO.none _
   | refine LeO.ite ?_ ?_
   | refine LeO.bind ?_ (fun _=>?_)
  ·intro y0 y1 y2 y3
   unfold spec_l03OK.l0
   repeat' first
   | (with_reducible exact ih0 _ _)
   | (with_reducible exact ih1 _ _ _ _)
   | (with_reducible exact ih2 _ _ _ _)
   | (with_reducible exact ih3 _ _ _ _ _)
   | (with_reducible exact spec_l03Holds.mono _ _ _ _ _ _ _)
   | (with_reducible exact spec_l03Plain.mono _ _ _ _ _ _ _)
   | (with_reducible exact LeO.refl _)
   | (with_reducible exact LeO.none _)
   | (with_reducible refine LeO.ite ?_ ?_)
   | (with_reducible refine LeO.bind ?_ (fun _=>?_))
   | exact ih0 _ _
   | exact ih1 _ _ _ _
   | exact ih2 _ _ _ _
   | exact ih3 _ _ _ _ _
   | exact spec_l03Holds.mono _ _ _ _ _ _ _
   | exact spec_l03Plain.mono _ _ _ _ _ _ _
   | exact LeO.none _
   | refine LeO.ite ?_ ?_
   | refine LeO.bind ?_ (fun _=>?_)
  ·intro y0 y1 y2 y3 y4
   unfold spec_l03OK.j2
   repeat' first
   | (with_reducible exact ih0 _ _)
   | (with_reducible exact ih1 _ _ _ _)
   | (with_reducible exact ih2 _ _ _ _)
   | (with_reducible exact ih3 _ _ _ _ _)
   | (with_reducible exact spec_l03Holds.mono _ _ _ _ _ _ _)
   | (with_reducible exact spec_l03Plain.mono _ _ _ _ _ _ _)
   | (with_reducible exact LeO.refl _)
   | (with_reducible exact LeO.none _)
   | (with_reducible refine LeO.ite ?_ ?_)
   | (with_reducible refine LeO.bind ?_ (fun _=>?_))
   | exact ih0 _ _
   | exact ih1 _ _ _ _
   | exact ih2 _ _ _ _
   | exact ih3 _ _ _ _ _
   | exact spec_l03Holds.mono _ _ _ _ _ _ _
   | exact spec_l03Plain.mono _ _ _ _ _ _ _
   | exact LeO.none _
   | refine LeO.ite ?_ ?_
   | refine LeO.bind ?_ (fun _=>?_)
theorem spec_l03OK.mono:∀ a0 a1 k,LeO (spec_l03OK.f k a0 a1) (spec_l03OK.f (k+1) a0 a1):=by
 intro a0 a1 k
 obtain ⟨ih0,ih1,ih2,ih3⟩:=spec_l03OK.mono_l k
 exact ih0 a0 a1
set_option maxHeartbeats 8000000 in
set_option maxRecDepth 100000 in
theorem spec_l03OK.calls (k:Nat):∀ (A0:Option Addr) (c0:Nat) (l0:List (S28)) (a1:Int) (r1:Int) (r2:Bool) (w:World) (hr0:Kd.C k28 w A0 l0.length l0) (hc0:l0.length≤c0) (h:spec_l03OK.f k l0 a1=some (r1,r2)),
 Calls Try.prog 44 #[.slice A0 l0.length c0,.int .i64 a1] w fun e w'=>e=.returned (.tuple #[.int .i64 r1,.bool r2])∧Below w.heap.size w w':=by
 induction k using Nat.strongRecOn with
 | _ k ih =>
 intro A0 c0 l0 a1 r1 r2 w hr0 hc0 h
 cases k with
 | zero=>exact absurd h (by simp [spec_l03OK.f])
 | succ k =>
 simp only [spec_l03OK.f] at h
 have hu28:=Try.underlying28
 have HR0:=A_ hr0
 have HC0:=A_ hc0
 clear hr0 hc0
 have HB:=A_ (Below.refl w.heap.size w)
 have H:(if (l0.length:Int)>60 then (spec_l03OK.j0 k l0 a1 (l0.length:Int) true) else (if a1=0 then (spec_l03OK.j0 k l0 a1 (l0.length:Int) (decide ((l0.length:Int)>0))) else (spec_l03OK.j0 k l0 a1 (l0.length:Int) false)))=some (r1,r2):=h
 clear h
 have HC3:=A_ H
 clear H
 go_enter Try.func44,Try.ntmps44
 go_upto_region 2 with (fail)
 go_cut [21] (fun v21 wc=>∃ (kq:Nat) (x21_2:Bool),v21=.bool x21_2∧Aside0 (spec_l03OK.j0 kq l0 a1 (l0.length:Int) x21_2=some (r1,r2))∧Aside0 (kq≤k)∧Aside0 (Below w.heap.size w wc))
 case first =>
  have H:=HC3.out
  clear HC3
  by_cases c4:(l0.length:Int)>60
  ·rw [if_pos c4] at H
   have c4b0:decide (60<(l0.length:Int))=true:=dt_ c4
   have c4b1:decide (60<l0.length)=true:=dt_ (by omega)
   clear c4
   (first|rw [c4b0]|(simp only [i64_w,i32_w];rw [c4b0])|skip)
   have H':=A_ H
   clear H
   go_wp2
   go_meet
   case rel=>exact ⟨_,(true),(by first|rfl|(simp;done)|(simp [*];done)),H',⟨by first|omega|exact Nat.le_refl _⟩,⟨by repeat (first|(with_reducible first|exact HB.out|apply ba_|apply pd_|apply b1_)|exact HB.out)⟩⟩
  ·rw [if_neg c4] at H
   have c4b0:decide (60<(l0.length:Int))=false:=df_ c4
   have c4b1:decide (60<l0.length)=false:=df_ (by omega)
   clear c4
   (first|rw [c4b0]|(simp only [i64_w,i32_w];rw [c4b0])|skip)
   by_cases c5:a1=0
   ·rw [if_pos c5] at H
    have c5b0:(a1 == 0)=true:=beq_iff_eq.mpr c5
    have c5b1:(a1 != 0)=false:=bne_eq_false_iff_eq.mpr c5
    clear c5
    have H':=A_ H
    clear H
    go_wp2
    go_meet
    case rel=>exact ⟨_,(decide ((l0.length:Int)>0)),(by first|rfl|(simp;done)|(simp [*];done)),H',⟨by first|omega|exact Nat.le_refl _⟩,⟨by repeat (first|(with_reducible first|exact HB.out|apply ba_|apply pd_|apply b1_)|exact HB.out)⟩⟩
   ·rw [if_neg c5] at H
    have c5b0:(a1 == 0)=false:=beq_eq_false_iff_ne.mpr c5
    have c5b1:(a1 != 0)=true:=bne_iff_ne.mpr c5
    have H':=A_ H
    clear H
    go_wp2
    go_meet
    case rel=>exact ⟨_,(false),(by first|rfl|(simp;done)|(simp [*];done)),H',⟨by first|omega|exact Nat.le_refl _⟩,⟨by repeat (first|(with_reducible first|exact HB.out|apply ba_|apply pd_|apply b1_)|exact HB.out)⟩⟩
 case rest =>
  clear HC3
  try clear p2
  try clear c4
  try clear c4b0
  try clear c4b1
  try clear c5
  try clear c5b0
  try clear c5b1
  obtain ⟨kq,x21_2,rfl,HA,HJ2,HB⟩:=hcut
  cases kq with
  | zero=>exact absurd HA.out (by simp [spec_l03OK.j0])
  | succ kj2 =>
   have H:=HA.out
   clear HA
   simp only [spec_l03OK.j0] at H
   by_cases c6:x21_2=true
   ·subst c6
    have H1:(some ((l0.length:Int),false))=some (r1,r2):=by rw [if_pos rfl] at H;exact H
    clear H
    have H:=H1
    clear H1
    simp only [Option.some.injEq,Prod.mk.injEq] at H
    obtain ⟨rfl,rfl⟩:=H
    go_wp2
    go_ret2
    exact ⟨by first|rfl|(simp [errW_none,errW_some] <;> rfl)|(simp [*,errW_none,errW_some] <;> rfl),by repeat (first|(with_reducible first|exact HB.out|apply ba_|apply pd_|apply b1_)|exact HB.out)⟩
   ·replace c6:=bm_ c6
    subst c6
    have H1:(spec_l03OK.l0 kj2 l0 a1 (l0.length:Int) 0)=some (r1,r2):=by rw [if_neg (show ¬ (false=true) by decide)] at H;exact H
    clear H
    have H:=H1
    clear H1
    have H':=A_ H
    clear H
    go_wp2
    go_loopg [6,7] kj2 (fun kq v6 v7 w'=>∃ (x6_2:Int) (x7_2:Int),v6=.int .i64 x6_2∧v7=.int .i64 x7_2∧Aside0 (spec_l03OK.l0 kq l0 a1 x6_2 x7_2=some (r1,r2))∧Aside0 (kq≤kj2)∧Aside0 (Below w.heap.size w w'))
    case atStart=>exact ⟨((l0.length:Int)),(0),(by first|rfl|(simp;done)|(simp [*];done)),(by first|rfl|(simp;done)|(simp [*];done)),H',⟨Nat.le_refl _⟩,⟨by repeat (first|(with_reducible first|exact HB.out|apply ba_|apply pd_|apply b1_)|exact HB.out)⟩⟩
    case round =>
     clear H'
     try clear p2
     try clear c4
     try clear c4b0
     try clear c4b1
     try clear c5
     try clear c5b0
     try clear c5b1
     try clear c6
     try clear p2
     obtain ⟨x6_2,x7_2,rfl,rfl,HA,HK2,HB⟩:=hrel
     cases gk with
     | zero=>exact absurd HA.out (by simp [spec_l03OK.l0])
     | succ k2 =>
      have H:=HA.out
      clear HA
      simp only [spec_l03OK.l0] at H
      by_cases c7:x7_2<(l0.length:Int)
      ·rw [if_pos c7] at H
       have c7b0:decide (x7_2<(l0.length:Int))=true:=dt_ c7
       clear c7
       have HC8:=A_ H
       clear H
       go_upto_region 7 with (fail)
       go_cut [42] (fun v42 wc=>∃ (kq:Nat) (x42_7:Bool),v42=.bool x42_7∧Aside0 (spec_l03OK.j2 kq l0 a1 x6_2 x7_2 x42_7=some (r1,r2))∧Aside0 (kq≤k2)∧Aside0 (Below w.heap.size w wc))
       case first =>
        have H:=HC8.out
        clear HC8
        by_cases c9:0≤x7_2
        ·rw [if_pos c9] at H
         have c9b0:decide (0≤x7_2)=true:=dt_ c9
         clear c9
         (first|rw [c9b0]|(simp only [i64_w,i32_w];rw [c9b0])|skip)
         replace H:=ob_ H
         obtain ⟨t199,A100,H⟩:=H
         replace H:(if t199=true then ((spec_l03Holds.f k2 ((rd_T28 l0 x7_2).f0) ((rd_T28 l0 x7_2).f1) ((rd_T28 l0 x7_2).f2) ((rd_T28 l0 x7_2).f3) ((rd_T28 l0 x7_2).f4) ((rd_T28 l0 x7_2).f5)).bind fun t201=>(spec_l03OK.j2 k2 l0 a1 x6_2 x7_2 (!t201))) else (spec_l03OK.j2 k2 l0 a1 x6_2 x7_2 true))=some (r1,r2):=H
         have A10:=A_ A100
         clear A100
         by_cases c11:t199=true
         ·subst c11
          have H1:((spec_l03Holds.f k2 ((rd_T28 l0 x7_2).f0) ((rd_T28 l0 x7_2).f1) ((rd_T28 l0 x7_2).f2) ((rd_T28 l0 x7_2).f3) ((rd_T28 l0 x7_2).f4) ((rd_T28 l0 x7_2).f5)).bind fun t201=>(spec_l03OK.j2 k2 l0 a1 x6_2 x7_2 (!t201)))=some (r1,r2):=by rw [if_pos rfl] at H;exact H
          clear H
          have H:=H1
          clear H1
          replace H:=ob_ H
          obtain ⟨t201,A120,H⟩:=H
          replace H:(spec_l03OK.j2 k2 l0 a1 x6_2 x7_2 (!t201))=some (r1,r2):=H
          have A12:=A_ A120
          clear A120
          have H':=A_ H
          clear H
          have p198:0≤(x7_2:Int):=od_ (by first|(with_reducible assumption)|assumption)
          have q198:x7_2<(l0.length:Int):=od_ (by first|(with_reducible assumption)|assumption)
          obtain ⟨ad198,A198_4,c198_4,A198_5,c198_5,e198,hx198_0,hx198_1,hx198_2,hx198_3,hx198_4,hx198_5,hl198_4,hi198_4,hl198_5,hi198_5⟩:=at_T28 HR0.out x7_2 p198 q198
          cases e198
          replace hx198_0:=(HB.out.cell (bl_ w _ hx198_0)).trans hx198_0
          replace hx198_1:=(HB.out.cell (bl_ w _ hx198_1)).trans hx198_1
          replace hx198_2:=(HB.out.cell (bl_ w _ hx198_2)).trans hx198_2
          replace hx198_3:=(HB.out.cell (bl_ w _ hx198_3)).trans hx198_3
          replace hx198_4:=(HB.out.cell (bl_ w _ hx198_4)).trans hx198_4
          replace hx198_5:=(HB.out.cell (bl_ w _ hx198_5)).trans hx198_5
          have HR198_4:=A_ hi198_4
          have HC198_4:=A_ hl198_4
          clear hi198_4 hl198_4
          have HR198_5:=A_ hi198_5
          have HC198_5:=A_ hl198_5
          clear hi198_5 hl198_5
          replace p198:=eq_true p198
          replace q198:=eq_true q198
          go_wp2_with (first|((with_reducible refine gate_callee (f:=56) rfl ?_);refine goesL_ (some 33) rfl rfl Try.func56 (by kernel_rfl) rfl #[.agg #[.int .i64 ((rd_T28 l0 x7_2).f0),.int .i64 ((rd_T28 l0 x7_2).f1),.string ((rd_T28 l0 x7_2).f2),.string ((rd_T28 l0 x7_2).f3),.slice A198_4 ((rd_T28 l0 x7_2).f4).length c198_4,.slice A198_5 ((rd_T28 l0 x7_2).f5).length c198_5]] rfl (by (try simp only [List.map_toArray,List.map_cons,List.map_nil]);first|done|rfl|(simp only [ld_,lt_];rfl)) ?_;(with_reducible refine (spec_l03Plain.calls k2 ((rd_T28 l0 x7_2).f0) ((rd_T28 l0 x7_2).f1) ((rd_T28 l0 x7_2).f2) ((rd_T28 l0 x7_2).f3) _ _ ((rd_T28 l0 x7_2).f4) _ _ ((rd_T28 l0 x7_2).f5) true _ ?side1 ?side2 ?side3 ?side4 A10.out).mono ?_);(case side1=>repeat (first|exact (cb_ HR198_4.out HB.out)|(with_reducible refine ca_ ?_ _)|(with_reducible refine cn_ ?_ _)|(with_reducible refine cd_ ?_)));(case side2=>exact HC198_4.out);(case side3=>repeat (first|exact (cb_ HR198_5.out HB.out)|(with_reducible refine ca_ ?_ _)|(with_reducible refine cn_ ?_ _)|(with_reducible refine cd_ ?_)));(case side4=>exact HC198_5.out);rintro e w13 ⟨rfl,hb⟩;refine ⟨_,rfl,?_⟩;have n0_:=A_ (bp_ (by repeat (first|(with_reducible first|exact HB.out|apply ba_|apply pd_|apply b1_)|exact HB.out)) hb);clear HB;have HB:=n0_;clear n0_;(try clear hb);(try clear hb2);(try clear hk);(try clear hi);have p200:0≤(x7_2:Int):=od_ (by first|(with_reducible assumption)|assumption);have q200:x7_2<(l0.length:Int):=od_ (by first|(with_reducible assumption)|assumption);obtain ⟨ad200,A200_4,c200_4,A200_5,c200_5,e200,hx200_0,hx200_1,hx200_2,hx200_3,hx200_4,hx200_5,hl200_4,hi200_4,hl200_5,hi200_5⟩:=at_T28 HR0.out x7_2 p200 q200;obtain rfl:ad198=ad200:=(by injection e200);replace hx200_0:=(HB.out.cell (bl_ w _ hx200_0)).trans hx200_0;replace hx200_1:=(HB.out.cell (bl_ w _ hx200_1)).trans hx200_1;replace hx200_2:=(HB.out.cell (bl_ w _ hx200_2)).trans hx200_2;replace hx200_3:=(HB.out.cell (bl_ w _ hx200_3)).trans hx200_3;replace hx200_4:=(HB.out.cell (bl_ w _ hx200_4)).trans hx200_4;replace hx200_5:=(HB.out.cell (bl_ w _ hx200_5)).trans hx200_5;have HR200_4:=A_ hi200_4;have HC200_4:=A_ hl200_4;clear hi200_4 hl200_4;have HR200_5:=A_ hi200_5;have HC200_5:=A_ hl200_5;clear hi200_5 hl200_5;replace p200:=eq_true p200;replace q200:=eq_true q200)|(go_at_call 57;(with_reducible refine (spec_l03Holds.calls k2 ((rd_T28 l0 x7_2).f0) ((rd_T28 l0 x7_2).f1) ((rd_T28 l0 x7_2).f2) ((rd_T28 l0 x7_2).f3) _ _ ((rd_T28 l0 x7_2).f4) _ _ ((rd_T28 l0 x7_2).f5) t201 _ ?side1 ?side2 ?side3 ?side4 A12.out).mono ?_);(case side1=>repeat (first|exact (cb_ HR200_4.out HB.out)|(with_reducible refine ca_ ?_ _)|(with_reducible refine cn_ ?_ _)|(with_reducible refine cd_ ?_)));(case side2=>exact HC200_4.out);(case side3=>repeat (first|exact (cb_ HR200_5.out HB.out)|(with_reducible refine ca_ ?_ _)|(with_reducible refine cn_ ?_ _)|(with_reducible refine cd_ ?_)));(case side4=>exact HC200_5.out);rintro e w14 ⟨rfl,hb⟩;have n0_:=A_ (bp_ (by repeat (first|(with_reducible first|exact HB.out|apply ba_|apply pd_|apply b1_)|exact HB.out)) hb);clear HB;have HB:=n0_;clear n0_;(try clear hb);(try clear hb2);(try clear hk);(try clear hi)))
          go_meet
          case rel=>exact ⟨_,(!t201),(by first|rfl|(simp;done)|(simp [*];done)),H',⟨by have:=HJ2.out;have:=HK2.out;first|omega|exact Nat.le_refl _⟩,⟨by repeat (first|(with_reducible first|exact HB.out|apply ba_|apply pd_|apply b1_)|exact HB.out)⟩⟩
         ·replace c11:=bm_ c11
          subst c11
          have H1:(spec_l03OK.j2 k2 l0 a1 x6_2 x7_2 true)=some (r1,r2):=by rw [if_neg (show ¬ (false=true) by decide)] at H;exact H
          clear H
          have H:=H1
          clear H1
          have H':=A_ H
          clear H
          have p198:0≤(x7_2:Int):=od_ (by first|(with_reducible assumption)|assumption)
          have q198:x7_2<(l0.length:Int):=od_ (by first|(with_reducible assumption)|assumption)
          obtain ⟨ad198,A198_4,c198_4,A198_5,c198_5,e198,hx198_0,hx198_1,hx198_2,hx198_3,hx198_4,hx198_5,hl198_4,hi198_4,hl198_5,hi198_5⟩:=at_T28 HR0.out x7_2 p198 q198
          cases e198
          replace hx198_0:=(HB.out.cell (bl_ w _ hx198_0)).trans hx198_0
          replace hx198_1:=(HB.out.cell (bl_ w _ hx198_1)).trans hx198_1
          replace hx198_2:=(HB.out.cell (bl_ w _ hx198_2)).trans hx198_2
          replace hx198_3:=(HB.out.cell (bl_ w _ hx198_3)).trans hx198_3
          replace hx198_4:=(HB.out.cell (bl_ w _ hx198_4)).trans hx198_4
          replace hx198_5:=(HB.out.cell (bl_ w _ hx198_5)).trans hx198_5
          have HR198_4:=A_ hi198_4
          have HC198_4:=A_ hl198_4
          clear hi198_4 hl198_4
          have HR198_5:=A_ hi198_5
          have HC198_5:=A_ hl198_5
          clear hi198_5 hl198_5
          replace p198:=eq_true p198
          replace q198:=eq_true q198
          go_wp2_with (first|((with_reducible refine gate_callee (f:=56) rfl ?_);refine goesL_ (some 33) rfl rfl Try.func56 (by kernel_rfl) rfl #[.agg #[.int .i64 ((rd_T28 l0 x7_2).f0),.int .i64 ((rd_T28 l0 x7_2).f1),.string ((rd_T28 l0 x7_2).f2),.string ((rd_T28 l0 x7_2).f3),.slice A198_4 ((rd_T28 l0 x7_2).f4).length c198_4,.slice A198_5 ((rd_T28 l0 x7_2).f5).length c198_5]] rfl (by (try simp only [List.map_toArray,List.map_cons,List.map_nil]);first|done|rfl|(simp only [ld_,lt_];rfl)) ?_;(with_reducible refine (spec_l03Plain.calls k2 ((rd_T28 l0 x7_2).f0) ((rd_T28 l0 x7_2).f1) ((rd_T28 l0 x7_2).f2) ((rd_T28 l0 x7_2).f3) _ _ ((rd_T28 l0 x7_2).f4) _ _ ((rd_T28 l0 x7_2).f5) false _ ?side1 ?side2 ?side3 ?side4 A10.out).mono ?_);(case side1=>repeat (first|exact (cb_ HR198_4.out HB.out)|(with_reducible refine ca_ ?_ _)|(with_reducible refine cn_ ?_ _)|(with_reducible refine cd_ ?_)));(case side2=>exact HC198_4.out);(case side3=>repeat (first|exact (cb_ HR198_5.out HB.out)|(with_reducible refine ca_ ?_ _)|(with_reducible refine cn_ ?_ _)|(with_reducible refine cd_ ?_)));(case side4=>exact HC198_5.out);rintro e w15 ⟨rfl,hb⟩;refine ⟨_,rfl,?_⟩;have n0_:=A_ (bp_ (by repeat (first|(with_reducible first|exact HB.out|apply ba_|apply pd_|apply b1_)|exact HB.out)) hb);clear HB;have HB:=n0_;clear n0_;(try clear hb);(try clear hb2);(try clear hk);(try clear hi)))
          go_meet
          case rel=>exact ⟨_,(true),(by first|rfl|(simp;done)|(simp [*];done)),H',⟨by have:=HJ2.out;have:=HK2.out;first|omega|exact Nat.le_refl _⟩,⟨by repeat (first|(with_reducible first|exact HB.out|apply ba_|apply pd_|apply b1_)|exact HB.out)⟩⟩
        ·rw [if_neg c9] at H
         exact absurd H (by simp)
       case rest =>
        clear HC8
        try clear c1
        try clear p1
        try clear q1
        try clear hx1
        try clear c2
        try clear p2
        try clear q2
        try clear hx2
        try clear c4
        try clear c4b0
        try clear c4b1
        try clear c5
        try clear c5b0
        try clear c5b1
        try clear c6
        try clear c7
        try clear c7b0
        try clear c9
        try clear c9b0
        try clear c11
        try clear hx198_0
        try clear hx198_1
        try clear hx198_2
        try clear hx198_3
        try clear hx198_4
        try clear hx198_5
        try clear hx200_0
        try clear hx200_1
        try clear hx200_2
        try clear hx200_3
        try clear hx200_4
        try clear hx200_5
        try clear p198
        try clear p2
        try clear p200
        try clear q198
        try clear q200
        obtain ⟨kq,x42_7,rfl,HA,HJ7,HB⟩:=hcut
        cases kq with
        | zero=>exact absurd HA.out (by simp [spec_l03OK.j2])
        | succ kj7 =>
         have H:=HA.out
         clear HA
         simp only [spec_l03OK.j2] at H
         by_cases c16:x42_7=true
         ·subst c16
          have H1:(some (x6_2,false))=some (r1,r2):=by rw [if_pos rfl] at H;exact H
          clear H
          have H:=H1
          clear H1
          simp only [Option.some.injEq,Prod.mk.injEq] at H
          obtain ⟨rfl,rfl⟩:=H
          go_wp2
          go_ret2
          exact ⟨by first|rfl|(simp [errW_none,errW_some] <;> rfl)|(simp [*,errW_none,errW_some] <;> rfl),by repeat (first|(with_reducible first|exact HB.out|apply ba_|apply pd_|apply b1_)|exact HB.out)⟩
         ·replace c16:=bm_ c16
          subst c16
          have H1:(if 0≤x7_2 then (if x7_2<(l0.length:Int) then ((spec_l03OK.f kj7 ((rd_T28 l0 x7_2).f5) (wrap64 (a1 - 1))).bind fun bt203=>(if bt203.2=true then (if (wrap64 (x6_2+bt203.1))>60 then (some (wrap64 (x6_2+bt203.1),false)) else (spec_l03OK.l0 kj7 l0 a1 (wrap64 (x6_2+bt203.1)) (wrap64 (x7_2+1)))) else (some (wrap64 (x6_2+bt203.1),false)))) else (none)) else (none))=some (r1,r2):=by rw [if_neg (show ¬ (false=true) by decide)] at H;exact H
          clear H
          have H:=H1
          clear H1
          by_cases c17:0≤x7_2
          ·rw [if_pos c17] at H
           have c17b0:decide (0≤x7_2)=true:=dt_ c17
           clear c17
           by_cases c18:x7_2<(l0.length:Int)
           ·rw [if_pos c18] at H
            have c18b0:decide (x7_2<(l0.length:Int))=true:=dt_ c18
            clear c18
            replace H:=ob_ H
            obtain ⟨⟨t203,t204⟩,A190,H⟩:=H
            replace H:(if t204=true then (if (wrap64 (x6_2+t203))>60 then (some (wrap64 (x6_2+t203),false)) else (spec_l03OK.l0 kj7 l0 a1 (wrap64 (x6_2+t203)) (wrap64 (x7_2+1)))) else (some (wrap64 (x6_2+t203),false)))=some (r1,r2):=H
            have A19:=A_ A190
            clear A190
            by_cases c20:t204=true
            ·subst c20
             have H1:(if (wrap64 (x6_2+t203))>60 then (some (wrap64 (x6_2+t203),false)) else (spec_l03OK.l0 kj7 l0 a1 (wrap64 (x6_2+t203)) (wrap64 (x7_2+1))))=some (r1,r2):=by rw [if_pos rfl] at H;exact H
             clear H
             have H:=H1
             clear H1
             by_cases c21:(wrap64 (x6_2+t203))>60
             ·rw [if_pos c21] at H
              have c21b0:decide (60<(wrap64 (x6_2+t203)))=true:=dt_ c21
              clear c21
              simp only [Option.some.injEq,Prod.mk.injEq] at H
              obtain ⟨rfl,rfl⟩:=H
              have p202:0≤(x7_2:Int):=od_ (by first|(with_reducible assumption)|assumption)
              have q202:x7_2<(l0.length:Int):=od_ (by first|(with_reducible assumption)|assumption)
              obtain ⟨ad202,A202_4,c202_4,A202_5,c202_5,e202,hx202_0,hx202_1,hx202_2,hx202_3,hx202_4,hx202_5,hl202_4,hi202_4,hl202_5,hi202_5⟩:=at_T28 HR0.out x7_2 p202 q202
              cases e202
              replace hx202_0:=(HB.out.cell (bl_ w _ hx202_0)).trans hx202_0
              replace hx202_1:=(HB.out.cell (bl_ w _ hx202_1)).trans hx202_1
              replace hx202_2:=(HB.out.cell (bl_ w _ hx202_2)).trans hx202_2
              replace hx202_3:=(HB.out.cell (bl_ w _ hx202_3)).trans hx202_3
              replace hx202_4:=(HB.out.cell (bl_ w _ hx202_4)).trans hx202_4
              replace hx202_5:=(HB.out.cell (bl_ w _ hx202_5)).trans hx202_5
              have HR202_4:=A_ hi202_4
              have HC202_4:=A_ hl202_4
              clear hi202_4 hl202_4
              have HR202_5:=A_ hi202_5
              have HC202_5:=A_ hl202_5
              clear hi202_5 hl202_5
              replace p202:=eq_true p202
              replace q202:=eq_true q202
              go_wp2_with (first|((with_reducible refine gate_callee (f:=44) rfl ?_);refine goesL_ (some 52) rfl rfl Try.func44 (by kernel_rfl) rfl #[.slice A202_5 ((rd_T28 l0 x7_2).f5).length c202_5,.int .i64 (wrap64 (a1 - 1))] rfl (by (try simp only [List.map_toArray,List.map_cons,List.map_nil]);first|done|rfl|(simp only [ld_,lt_];rfl)) ?_;(with_reducible refine (ih kj7 (by have:=HJ2.out;have:=HK2.out;have:=HJ7.out;omega) _ _ ((rd_T28 l0 x7_2).f5) (wrap64 (a1 - 1)) t203 true _ ?side1 ?side2 A19.out).mono ?_);(case side1=>repeat (first|exact (cb_ HR202_5.out HB.out)|(with_reducible refine ca_ ?_ _)|(with_reducible refine cn_ ?_ _)|(with_reducible refine cd_ ?_)));(case side2=>exact HC202_5.out);rintro e w22 ⟨rfl,hb⟩;refine ⟨_,rfl,?_⟩;have n0_:=A_ (bp_ (by repeat (first|(with_reducible first|exact HB.out|apply ba_|apply pd_|apply b1_)|exact HB.out)) hb);clear HB;have HB:=n0_;clear n0_;(try clear hb);(try clear hb2);(try clear hk);(try clear hi)))
              go_ret2
              exact ⟨by first|rfl|(simp [errW_none,errW_some] <;> rfl)|(simp [*,errW_none,errW_some] <;> rfl),by repeat (first|(with_reducible first|exact HB.out|apply ba_|apply pd_|apply b1_)|exact HB.out)⟩
             ·rw [if_neg c21] at H
              have c21b0:decide (60<(wrap64 (x6_2+t203)))=false:=df_ c21
              clear c21
              have H':=A_ H
              clear H
              have p202:0≤(x7_2:Int):=od_ (by first|(with_reducible assumption)|assumption)
              have q202:x7_2<(l0.length:Int):=od_ (by first|(with_reducible assumption)|assumption)
              obtain ⟨ad202,A202_4,c202_4,A202_5,c202_5,e202,hx202_0,hx202_1,hx202_2,hx202_3,hx202_4,hx202_5,hl202_4,hi202_4,hl202_5,hi202_5⟩:=at_T28 HR0.out x7_2 p202 q202
              cases e202
              replace hx202_0:=(HB.out.cell (bl_ w _ hx202_0)).trans hx202_0
              replace hx202_1:=(HB.out.cell (bl_ w _ hx202_1)).trans hx202_1
              replace hx202_2:=(HB.out.cell (bl_ w _ hx202_2)).trans hx202_2
              replace hx202_3:=(HB.out.cell (bl_ w _ hx202_3)).trans hx202_3
              replace hx202_4:=(HB.out.cell (bl_ w _ hx202_4)).trans hx202_4
              replace hx202_5:=(HB.out.cell (bl_ w _ hx202_5)).trans hx202_5
              have HR202_4:=A_ hi202_4
              have HC202_4:=A_ hl202_4
              clear hi202_4 hl202_4
              have HR202_5:=A_ hi202_5
              have HC202_5:=A_ hl202_5
              clear hi202_5 hl202_5
              replace p202:=eq_true p202
              replace q202:=eq_true q202
              go_wp2_with (first|((with_reducible refine gate_callee (f:=44) rfl ?_);refine goesL_ (some 52) rfl rfl Try.func44 (by kernel_rfl) rfl #[.slice A202_5 ((rd_T28 l0 x7_2).f5).length c202_5,.int .i64 (wrap64 (a1 - 1))] rfl (by (try simp only [List.map_toArray,List.map_cons,List.map_nil]);first|done|rfl|(simp only [ld_,lt_];rfl)) ?_;(with_reducible refine (ih kj7 (by have:=HJ2.out;have:=HK2.out;have:=HJ7.out;omega) _ _ ((rd_T28 l0 x7_2).f5) (wrap64 (a1 - 1)) t203 true _ ?side1 ?side2 A19.out).mono ?_);(case side1=>repeat (first|exact (cb_ HR202_5.out HB.out)|(with_reducible refine ca_ ?_ _)|(with_reducible refine cn_ ?_ _)|(with_reducible refine cd_ ?_)));(case side2=>exact HC202_5.out);rintro e w23 ⟨rfl,hb⟩;refine ⟨_,rfl,?_⟩;have n0_:=A_ (bp_ (by repeat (first|(with_reducible first|exact HB.out|apply ba_|apply pd_|apply b1_)|exact HB.out)) hb);clear HB;have HB:=n0_;clear n0_;(try clear hb);(try clear hb2);(try clear hk);(try clear hi)))
              go_roundg kj7
              case measure=>have:=HJ2.out;have:=HK2.out;have:=HJ7.out;omega
              case rel=>exact ⟨(wrap64 (x6_2+t203)),(wrap64 (x7_2+1)),(by first|rfl|(simp;done)|(simp [*];done)),(by first|rfl|(simp;done)|(simp [*];done)),H',⟨by have:=HJ2.out;have:=HK2.out;have:=HJ7.out;omega⟩,⟨by repeat (first|(with_reducible first|exact HB.out|apply ba_|apply pd_|apply b1_)|exact HB.out)⟩⟩
            ·replace c20:=bm_ c20
             subst c20
             have H1:(some (wrap64 (x6_2+t203),false))=some (r1,r2):=by rw [if_neg (show ¬ (false=true) by decide)] at H;exact H
             clear H
             have H:=H1
             clear H1
             simp only [Option.some.injEq,Prod.mk.injEq] at H
             obtain ⟨rfl,rfl⟩:=H
             have p202:0≤(x7_2:Int):=od_ (by first|(with_reducible assumption)|assumption)
             have q202:x7_2<(l0.length:Int):=od_ (by first|(with_reducible assumption)|assumption)
             obtain ⟨ad202,A202_4,c202_4,A202_5,c202_5,e202,hx202_0,hx202_1,hx202_2,hx202_3,hx202_4,hx202_5,hl202_4,hi202_4,hl202_5,hi202_5⟩:=at_T28 HR0.out x7_2 p202 q202
             cases e202
             replace hx202_0:=(HB.out.cell (bl_ w _ hx202_0)).trans hx202_0
             replace hx202_1:=(HB.out.cell (bl_ w _ hx202_1)).trans hx202_1
             replace hx202_2:=(HB.out.cell (bl_ w _ hx202_2)).trans hx202_2
             replace hx202_3:=(HB.out.cell (bl_ w _ hx202_3)).trans hx202_3
             replace hx202_4:=(HB.out.cell (bl_ w _ hx202_4)).trans hx202_4
             replace hx202_5:=(HB.out.cell (bl_ w _ hx202_5)).trans hx202_5
             have HR202_4:=A_ hi202_4
             have HC202_4:=A_ hl202_4
             clear hi202_4 hl202_4
             have HR202_5:=A_ hi202_5
             have HC202_5:=A_ hl202_5
             clear hi202_5 hl202_5
             replace p202:=eq_true p202
             replace q202:=eq_true q202
             go_wp2_with (first|((with_reducible refine gate_callee (f:=44) rfl ?_);refine goesL_ (some 52) rfl rfl Try.func44 (by kernel_rfl) rfl #[.slice A202_5 ((rd_T28 l0 x7_2).f5).length c202_5,.int .i64 (wrap64 (a1 - 1))] rfl (by (try simp only [List.map_toArray,List.map_cons,List.map_nil]);first|done|rfl|(simp only [ld_,lt_];rfl)) ?_;(with_reducible refine (ih kj7 (by have:=HJ2.out;have:=HK2.out;have:=HJ7.out;omega) _ _ ((rd_T28 l0 x7_2).f5) (wrap64 (a1 - 1)) t203 false _ ?side1 ?side2 A19.out).mono ?_);(case side1=>repeat (first|exact (cb_ HR202_5.out HB.out)|(with_reducible refine ca_ ?_ _)|(with_reducible refine cn_ ?_ _)|(with_reducible refine cd_ ?_)));(case side2=>exact HC202_5.out);rintro e w24 ⟨rfl,hb⟩;refine ⟨_,rfl,?_⟩;have n0_:=A_ (bp_ (by repeat (first|(with_reducible first|exact HB.out|apply ba_|apply pd_|apply b1_)|exact HB.out)) hb);clear HB;have HB:=n0_;clear n0_;(try clear hb);(try clear hb2);(try clear hk);(try clear hi)))
             go_ret2
             exact ⟨by first|rfl|(simp [errW_none,errW_some] <;> rfl)|(simp [*,errW_none,errW_some] <;> rfl),by repeat (first|(with_reducible first|exact HB.out|apply ba_|apply pd_|apply b1_)|exact HB.out)⟩
           ·rw [if_neg c18] at H
            exact absurd H (by simp)
          ·rw [if_neg c17] at H
           exact absurd H (by simp)
      ·rw [if_neg c7] at H
       have c7b0:decide (x7_2<(l0.length:Int))=false:=df_ c7
       clear c7
       simp only [Option.some.injEq,Prod.mk.injEq] at H
       obtain ⟨rfl,rfl⟩:=H
       go_wp2
       go_ret2
       exact ⟨by first|rfl|(simp [errW_none,errW_some] <;> rfl)|(simp [*,errW_none,errW_some] <;> rfl),by repeat (first|(with_reducible first|exact HB.out|apply ba_|apply pd_|apply b1_)|exact HB.out)⟩
end Go.Proofs.Ytbeplhbkoaopgaa.PFnExactRemoveAt
