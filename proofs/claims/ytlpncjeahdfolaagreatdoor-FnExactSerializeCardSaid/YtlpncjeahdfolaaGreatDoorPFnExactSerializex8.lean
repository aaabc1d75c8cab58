/- By a program of this session, out of the kit's print and contracts made by hand: the machine side of a law; Lean checks it. No conditions. -/
import Derived.Test.YtlpncjeahdfolaaGreatDoorPFnExactSerializex0
import Derived.Test.YtlpncjeahdfolaaGreatDoorPFnExactSerializex5
import Derived.Test.YtlpncjeahdfolaaGreatDoorPFnExactSerializex7
namespace Go.Proofs.YtlpncjeahdfolaaGreatDoor.PFnExactSerialize
open Go.RowKit Go.Proofs.YtlpncjeahdfolaaGreatDoorW.PrintWords Go.Proofs.YtlpncjeahdfolaaGreatDoorW.PrintLast Go.Proofs.YtlpncjeahdfolaaGreatDoorW.PrintMore
attribute [local go_sem] max2_int min2_int max_two min_two max_three min_three max_four min_four
set_option linter.unusedVariables false
set_option linter.unusedSimpArgs false
/-! ### spec_l03OK: function 32 -/
mutual
def spec_l03OK.j0:Nat→List (S38)→Int→Int→Bool→Option (Int × Bool)
 | 0,_,_,_,_=>none
 | k+1,x0,x1,x6,x21=>if x21=true then (some (x6,false)) else (spec_l03OK.l0 k x0 x1 x6 0)
def spec_l03OK.l0:Nat→List (S38)→Int→Int→Int→Option (Int × Bool)
 | 0,_,_,_,_=>none
 | k+1,x0,x1,x6,x7=>if x7<(x0.length:Int) then (if 0≤x7 then ((spec_l03Plain.f k ((rd_T38 x0 x7).f0) ((rd_T38 x0 x7).f1) ((rd_T38 x0 x7).f2) ((rd_T38 x0 x7).f3) ((rd_T38 x0 x7).f4) ((rd_T38 x0 x7).f5)).bind fun t136=>(if t136=true then ((spec_l03Holds.f k ((rd_T38 x0 x7).f0) ((rd_T38 x0 x7).f1) ((rd_T38 x0 x7).f2) ((rd_T38 x0 x7).f3) ((rd_T38 x0 x7).f4) ((rd_T38 x0 x7).f5)).bind fun t138=>(spec_l03OK.j2 k x0 x1 x6 x7 (!t138))) else (spec_l03OK.j2 k x0 x1 x6 x7 true))) else (none)) else (some (x6,true))
def spec_l03OK.j2:Nat→List (S38)→Int→Int→Int→Bool→Option (Int × Bool)
 | 0,_,_,_,_,_=>none
 | k+1,x0,x1,x6,x7,x42=>if x42=true then (some (x6,false)) else (if 0≤x7 then (if x7<(x0.length:Int) then ((spec_l03OK.f k ((rd_T38 x0 x7).f5) (wrap64 (x1 - 1))).bind fun bt140=>(if bt140.2=true then (if (wrap64 (x6+bt140.1))>60 then (some (wrap64 (x6+bt140.1),false)) else (spec_l03OK.l0 k x0 x1 (wrap64 (x6+bt140.1)) (wrap64 (x7+1)))) else (some (wrap64 (x6+bt140.1),false)))) else (none)) else (none))
def spec_l03OK.f:Nat→List (S38)→Int→Option (Int × Bool)
 | 0,_,_=>none
 | k+1,l0,a1=>if (l0.length:Int)>60 then (spec_l03OK.j0 k l0 a1 (l0.length:Int) true) else (if a1=0 then (spec_l03OK.j0 k l0 a1 (l0.length:Int) (decide ((l0.length:Int)>0))) else (spec_l03OK.j0 k l0 a1 (l0.length:Int) false))
end
theorem spec_l03OK.mono_l:∀ k,(∀ y0 y1,LeO (spec_l03OK.f k y0 y1) (spec_l03OK.f (k+1) y0 y1))∧(∀ y0 y1 y2 y3,LeO (spec_l03OK.j0 k y0 y1 y2 y3) (spec_l03OK.j0 (k+1) y0 y1 y2 y3))∧(∀ y0 y1 y2 y3,LeO (spec_l03OK.l0 k y0 y1 y2 y3) (spec_l03OK.l0 (k+1) y0 y1 y2 y3))∧(∀ y0 y1 y2 y3 y4,LeO (spec_l03OK.j2 k y0 y1 y2 y3 y4) (spec_l03OK.j2 (k+1) y0 y1 y2 y3 y4))
 | 0=>⟨fun _ _ r h=>by simp [spec_l03OK.f] at h,fun _ _ _ _ r h=>by simp [spec_l03OK.j0] at h,fun _ _ _ _ r h=>by simp [spec_l03OK.l0] at h,fun _ _ _ _ _ r h=>by simp [spec_l03OK.j2] at h⟩
 | k+1=>by
  obtain ⟨ih0,ih1,ih2,ih3⟩:=spec_l03OK.mono_l k
  refine ⟨?_,?_,?_,?_⟩
  ·intro y0 y1
   unfold spec_l03OK.f
   repeat' first
   | (with_reducible exact ih0 _ _)
   | (with_reducible exact ih1 _ _ _ _)
   | (with_reducible exact ih2 _ _ _ _)
   | (with_reducible exact ih3 _ _ _ _ _)
   | (with_reducible exact spec_l03Holds.mono _ _ _ _ _ _ _)
   | (with_reducible exact spec_l03Plain.mono _ _ _ _ _ _ _)
   | (with_reducible exact LeO.refl _)
   | (with_reducible exact LeO.none _)
   | (with_reducible refine LeO.ite ?_ ?_)
   | (with_reducible refine LeO.bind ?_ (fun _=>?_))
   | exact ih0 _ _
   | exact ih1 _ _ _ _
   | exact ih2 _ _ _ _
   | exact ih3 _ _ _ _ _
   | exact spec_l03Holds.mono _ _ _ _ _ _ _
   | exact spec_l03Plain.mono _ _ _ _ _ _ _
   | exact LeO.none _
   | refine LeO.ite ?_ ?_
   | refine LeO.bind ?_ (fun _=>?_)
  ·intro y0 y1 y2 y3
   unfold spec_l03OK.j0
   repeat' first
   | (with_reducible exact ih0 _ _)
   | (with_reducible exact ih1 _ _ _ _)
   | (with_reducible exact ih2 _ _ _ _)
   | (with_reducible exact ih3 _ _ _ _ _)
   | (with_reducible exact spec_l03Holds.mono _ _ _ _ _ _ _)
   | (with_reducible exact spec_l03Plain.mono _ _ _ _ _ _ _)
   | (with_reducible exact LeO.refl _)
   | (with_reducible exact LeO.none _)
   | (with_reducible refine LeO.ite ?_ ?_)
   | (with_reducible refine LeO.bind ?_ (fun _=>?_))
   | exact ih0 _ _
   | exact ih1 _ _ _ _
   | exact ih2 _ _ _ _
   | exact ih3 _ _ _ _ _
   | exact spec_l03Holds.mono _ _ _ _ _ _ _
   | exact spec_l03Plain.mono _ _ _ _ _ _ _
   | exact LeO.none _
   | refine LeO.ite ?_ ?_
   | refine LeO.bind ?_ (fun _=>?_)
  ·intro y0 y1 y2 y3
   unfold spec_l03OK.l0
   repeat' first
   | (with_reducible exact ih0 _ _)
   | (with_reducible exact ih1 _ _ _ _)
   | (with_reducible exact ih2 _ _ _ _)
   | (with_reducible exact ih3 _ _ _ _ _)
   | (with_reducible exact spec_l03Holds.mono _ _ _ _ _ _ _)
   | (with_reducible exact spec_l03Plain.mono _ _ _ _ _ _ _)
   | (with_reducible exact LeO.refl _)
   | (with_reducible exact LeO.none _)
   | (with_reducible refine LeO.ite ?_ ?_)
   | (with_reducible refine LeO.bind ?_ (fun _=>?_))
   | exact ih0 _ _
   | exact ih1 _ _ _ _
   | exact ih2 _ _ _ _
   | exact ih3 _ _ _ _ _
   | exact spec_l03Holds.mono _ _ _ _ _ _ _
   | exact spec_l03Plain.mono _ _ _ _ _ _ _
   | exact LeO.none _
   | refine LeO.ite ?_ ?_
   | refine LeO.bind ?_ (fun _=>?_)
  ·intro y0 y1 y2 y3 y4
   unfold spec_l03OK.j2
   repeat' first
   | (with_reducible exact ih0 _ _)
   | (with_reducible exact ih1 _ _ _ _)
   | (with_reducible exact ih2 _ _ _ _)
   | (with_reducible exact ih3 _ _ _ _ _)
   | (with_reducible exact spec_l03Holds.mono _ _ _ _ _ _ _)
   | (with_reducible exact spec_l03Plain.mono _ _ _ _ _ _ _)
   | (with_reducible exact LeO.refl _)
   | (with_reducible exact LeO.none _)
   | (with_reducible refine LeO.ite ?_ ?_)
   | (with_reducible refine LeO.bind ?_ (fun _=>?_))
   | exact ih0 _ _
   | exact ih1 _ _ _ _
   | exact ih2 _ _ _ _
   | exact ih3 _ _ _ _ _
   | exact spec_l03Holds.mono _ _ _ _ _ _ _
   | exact spec_l03Plain.mono _ _ _ _ _ _ _
   | exact LeO.none _
   | refine LeO.ite ?_ ?_
   | refine LeO.bind ?_ (fun _=>?_)
theorem spec_l03OK.mono:∀ a0 a1 k,LeO (spec_l03OK.f k a0 a1) (spec_l03OK.f (k+1) a0 a1):=by
 intro a0 a1 k
 obtain ⟨ih0,ih1,ih2,ih3⟩:=spec_l03OK.mono_l k
 exact ih0 a0 a1
set_option maxHeartbeats 8000000 in
set_option maxRecDepth 100000 in
theorem spec_l03OK.calls (k:Nat):∀ (A0:Option Addr) (c0:Nat) (l0:List (S38)) (a1:Int) (r1:Int) (r2:Bool) (w:World) (hr0:Kd.C k38 w A0 l0.length l0) (hc0:l0.length≤c0) (h:spec_l03OK.f k l0 a1=some (r1,r2)),
 Calls Tryz.prog 32 #[.slice A0 l0.length c0,.int .i64 a1] w fun e w'=>e=.returned (.tuple #[.int .i64 r1,.bool r2])∧Below w.heap.size w w':=by
 induction k using Nat.strongRecOn with
 | _ k ih =>
 intro A0 c0 l0 a1 r1 r2 w hr0 hc0 h
 cases k with
 | zero=>exact absurd h (by simp [spec_l03OK.f])
 | succ k =>
 simp only [spec_l03OK.f] at h
 have hu38:=Tryz.underlying38
 have HR0:=A_ hr0
 have HC0:=A_ hc0
 clear hr0 hc0
 have HB:=A_ (Below.refl w.heap.size w)
 have H:(if (l0.length:Int)>60 then (spec_l03OK.j0 k l0 a1 (l0.length:Int) true) else (if a1=0 then (spec_l03OK.j0 k l0 a1 (l0.length:Int) (decide ((l0.length:Int)>0))) else (spec_l03OK.j0 k l0 a1 (l0.length:Int) false)))=some (r1,r2):=h
 clear h
 have HC3:=A_ H
 clear H
 go_enter Tryz.func32,Tryz.ntmps32
 go_upto_region 2 with (fail)
 go_cut [21] (fun v21 wc=>∃ (kq:Nat) (x21_2:Bool),v21=.bool x21_2∧Aside0 (spec_l03OK.j0 kq l0 a1 (l0.length:Int) x21_2=some (r1,r2))∧Aside0 (kq≤k)∧Aside0 (Below w.heap.size w wc))
 case first =>
  have H:=HC3.out
  clear HC3
  by_cases c4:(l0.length:Int)>60
  ·rw [if_pos c4] at H
   have c4b0:decide (60<(l0.length:Int))=true:=dt_ c4
   have c4b1:decide (60<l0.length)=true:=dt_ (by omega)
   clear c4
   (first|rw [c4b0]|(simp only [i64_w,i32_w];rw [c4b0])|skip)
   have H':=A_ H
   clear H
   go_wp2
   go_meet
   case rel=>exact ⟨_,(true),(by first|rfl|(simp;done)|(simp [*];done)),H',⟨by first|omega|exact Nat.le_refl _⟩,⟨by repeat (first|(with_reducible first|exact HB.out|apply ba_|apply pd_|apply b1_)|exact HB.out)⟩⟩
  ·rw [if_neg c4] at H
   have c4b0:decide (60<(l0.length:Int))=false:=df_ c4
   have c4b1:decide (60<l0.length)=false:=df_ (by omega)
   clear c4
   (first|rw [c4b0]|(simp only [i64_w,i32_w];rw [c4b0])|skip)
   by_cases c5:a1=0
   ·rw [if_pos c5] at H
    have c5b0:(a1 == 0)=true:=beq_iff_eq.mpr c5
    have c5b1:(a1 != 0)=false:=bne_eq_false_iff_eq.mpr c5
    clear c5
    have H':=A_ H
    clear H
    go_wp2
    go_meet
    case rel=>exact ⟨_,(decide ((l0.length:Int)>0)),(by first|rfl|(simp;done)|(simp [*];done)),H',⟨by first|omega|exact Nat.le_refl _⟩,⟨by repeat (first|(with_reducible first|exact HB.out|apply ba_|apply pd_|apply b1_)|exact HB.out)⟩⟩
   ·rw [if_neg c5] at H
    have c5b0:(a1 == 0)=false:=beq_eq_false_iff_ne.mpr c5
    have c5b1:(a1 != 0)=true:=bne_iff_ne.mpr c5
    have H':=A_ H
    clear H
    go_wp2
    go_meet
    case rel=>exact ⟨_,(false),(by first|rfl|(simp;done)|(simp [*];done)),H',⟨by first|omega|exact Nat.le_refl _⟩,⟨by repeat (first|(with_reducible first|exact HB.out|apply ba_|apply pd_|apply b1_)|exact HB.out)⟩⟩
 case rest =>
  clear HC3
  try clear p2
  try clear c3
  try clear c4
  try clear c4b0
  try clear c4b1
  try clear c5
  try clear c5b0
  try clear c5b1
  obtain ⟨kq,x21_2,rfl,HA,HJ2,HB⟩:=hcut
  cases kq with
  | zero=>exact absurd HA.out (by simp [spec_l03OK.j0])
  | succ kj2 =>
   have H:=HA.out
   clear HA
   simp only [spec_l03OK.j0] at H
   by_cases c6:x21_2=true
   ·subst c6
    have H1:(some ((l0.length:Int),false))=some (r1,r2):=by rw [if_pos rfl] at H;exact H
    clear H
    have H:=H1
    clear H1
    simp only [Option.some.injEq,Prod.mk.injEq] at H
    obtain ⟨rfl,rfl⟩:=H
    go_wp2
    go_ret2
    exact ⟨by first|rfl|(simp [errW_none,errW_some] <;> rfl)|(simp [*,errW_none,errW_some] <;> rfl),by repeat (first|(with_reducible first|exact HB.out|apply ba_|apply pd_|apply b1_)|exact HB.out)⟩
   ·replace c6:=bm_ c6
    subst c6
    have H1:(spec_l03OK.l0 kj2 l0 a1 (l0.length:Int) 0)=some (r1,r2):=by rw [if_neg (show ¬ (false=true) by decide)] at H;exact H
    clear H
    have H:=H1
    clear H1
    have H':=A_ H
    clear H
    go_wp2
    go_loopg [6,7] kj2 (fun kq v6 v7 w'=>∃ (x6_2:Int) (x7_2:Int),v6=.int .i64 x6_2∧v7=.int .i64 x7_2∧Aside0 (spec_l03OK.l0 kq l0 a1 x6_2 x7_2=some (r1,r2))∧Aside0 (kq≤kj2)∧Aside0 (Below w.heap.size w w'))
    case atStart=>exact ⟨((l0.length:Int)),(0),(by first|rfl|(simp;done)|(simp [*];done)),(by first|rfl|(simp;done)|(simp [*];done)),H',⟨Nat.le_refl _⟩,⟨by repeat (first|(with_reducible first|exact HB.out|apply ba_|apply pd_|apply b1_)|exact HB.out)⟩⟩
    case round =>
     clear H'
     try clear p2
     try clear c3
     try clear c4
     try clear c4b0
     try clear c4b1
     try clear c5
     try clear c5b0
     try clear c5b1
     try clear c6
     try clear p2
     obtain ⟨x6_2,x7_2,rfl,rfl,HA,HK2,HB⟩:=hrel
     cases gk with
     | zero=>exact absurd HA.out (by simp [spec_l03OK.l0])
     | succ k2 =>
      have H:=HA.out
      clear HA
      simp only [spec_l03OK.l0] at H
      by_cases c7:x7_2<(l0.length:Int)
      ·rw [if_pos c7] at H
       have c7b0:decide (x7_2<(l0.length:Int))=true:=dt_ c7
       clear c7
       have HC8:=A_ H
       clear H
       go_upto_region 7 with (fail)
       go_cut [42] (fun v42 wc=>∃ (kq:Nat) (x42_7:Bool),v42=.bool x42_7∧Aside0 (spec_l03OK.j2 kq l0 a1 x6_2 x7_2 x42_7=some (r1,r2))∧Aside0 (kq≤k2)∧Aside0 (Below w.heap.size w wc))
       case first =>
        have H:=HC8.out
        clear HC8
        by_cases c9:0≤x7_2
        ·rw [if_pos c9] at H
         have c9b0:decide (0≤x7_2)=true:=dt_ c9
         clear c9
         (first|rw [c9b0]|(simp only [i64_w,i32_w];rw [c9b0])|skip)
         replace H:=ob_ H
         obtain ⟨t136,A100,H⟩:=H
         replace H:(if t136=true then ((spec_l03Holds.f k2 ((rd_T38 l0 x7_2).f0) ((rd_T38 l0 x7_2).f1) ((rd_T38 l0 x7_2).f2) ((rd_T38 l0 x7_2).f3) ((rd_T38 l0 x7_2).f4) ((rd_T38 l0 x7_2).f5)).bind fun t138=>(spec_l03OK.j2 k2 l0 a1 x6_2 x7_2 (!t138))) else (spec_l03OK.j2 k2 l0 a1 x6_2 x7_2 true))=some (r1,r2):=H
         have A10:=A_ A100
         clear A100
         by_cases c11:t136=true
         ·subst c11
          have H1:((spec_l03Holds.f k2 ((rd_T38 l0 x7_2).f0) ((rd_T38 l0 x7_2).f1) ((rd_T38 l0 x7_2).f2) ((rd_T38 l0 x7_2).f3) ((rd_T38 l0 x7_2).f4) ((rd_T38 l0 x7_2).f5)).bind fun t138=>(spec_l03OK.j2 k2 l0 a1 x6_2 x7_2 (!t138)))=some (r1,r2):=by rw [if_pos rfl] at H;exact H
          clear H
          have H:=H1
          clear H1
          replace H:=ob_ H
          obtain ⟨t138,A120,H⟩:=H
          replace H:(spec_l03OK.j2 k2 l0 a1 x6_2 x7_2 (!t138))=some (r1,r2):=H
          have A12:=A_ A120
          clear A120
          have H':=A_ H
          clear H
          have p135:0≤(x7_2:Int):=od_ (by first|(with_reducible assumption)|assumption)
          have q135:x7_2<(l0.length:Int):=od_ (by first|(with_reducible assumption)|assumption)
          obtain ⟨ad135,A135_4,c135_4,A135_5,c135_5,e135,hx135_0,hx135_1,hx135_2,hx135_3,hx135_4,hx135_5,hl135_4,hi135_4,hl135_5,hi135_5⟩:=at_T38 HR0.out x7_2 p135 q135
          cases e135
          replace hx135_0:=(HB.out.cell (bl_ w _ hx135_0)).trans hx135_0
          replace hx135_1:=(HB.out.cell (bl_ w _ hx135_1)).trans hx135_1
          replace hx135_2:=(HB.out.cell (bl_ w _ hx135_2)).trans hx135_2
          replace hx135_3:=(HB.out.cell (bl_ w _ hx135_3)).trans hx135_3
          replace hx135_4:=(HB.out.cell (bl_ w _ hx135_4)).trans hx135_4
          replace hx135_5:=(HB.out.cell (bl_ w _ hx135_5)).trans hx135_5
          have HR135_4:=A_ hi135_4
          have HC135_4:=A_ hl135_4
          clear hi135_4 hl135_4
          have HR135_5:=A_ hi135_5
          have HC135_5:=A_ hl135_5
          clear hi135_5 hl135_5
          replace p135:=eq_true p135
          replace q135:=eq_true q135
          go_wp2_with (first|((with_reducible refine gate_callee (f:=44) rfl ?_);refine goesL_ (some 33) rfl rfl Tryz.func44 (by kernel_rfl) rfl #[.agg #[.int .i64 ((rd_T38 l0 x7_2).f0),.int .i64 ((rd_T38 l0 x7_2).f1),.string ((rd_T38 l0 x7_2).f2),.string ((rd_T38 l0 x7_2).f3),.slice A135_4 ((rd_T38 l0 x7_2).f4).length c135_4,.slice A135_5 ((rd_T38 l0 x7_2).f5).length c135_5]] rfl (by (try simp only [List.map_toArray,List.map_cons,List.map_nil]);first|done|rfl|(simp only [ld_,lt_];rfl)) ?_;(with_reducible refine (spec_l03Plain.calls k2 ((rd_T38 l0 x7_2).f0) ((rd_T38 l0 x7_2).f1) ((rd_T38 l0 x7_2).f2) ((rd_T38 l0 x7_2).f3) _ _ ((rd_T38 l0 x7_2).f4) _ _ ((rd_T38 l0 x7_2).f5) true _ ?side1 ?side2 ?side3 ?side4 A10.out).mono ?_);(case side1=>repeat (first|exact (cb_ HR135_4.out HB.out)|(with_reducible refine ca_ ?_ _)|(with_reducible refine cn_ ?_ _)|(with_reducible refine cd_ ?_)));(case side2=>exact HC135_4.out);(case side3=>repeat (first|exact (cb_ HR135_5.out HB.out)|(with_reducible refine ca_ ?_ _)|(with_reducible refine cn_ ?_ _)|(with_reducible refine cd_ ?_)));(case side4=>exact HC135_5.out);rintro e w13 ⟨rfl,hb⟩;refine ⟨_,rfl,?_⟩;have n0_:=A_ (bp_ (by repeat (first|(with_reducible first|exact HB.out|apply ba_|apply pd_|apply b1_)|exact HB.out)) hb);clear HB;have HB:=n0_;clear n0_;(try clear hb);(try clear hb2);(try clear hk);(try clear hi);have p137:0≤(x7_2:Int):=od_ (by first|(with_reducible assumption)|assumption);have q137:x7_2<(l0.length:Int):=od_ (by first|(with_reducible assumption)|assumption);obtain ⟨ad137,A137_4,c137_4,A137_5,c137_5,e137,hx137_0,hx137_1,hx137_2,hx137_3,hx137_4,hx137_5,hl137_4,hi137_4,hl137_5,hi137_5⟩:=at_T38 HR0.out x7_2 p137 q137;obtain rfl:ad135=ad137:=(by injection e137);replace hx137_0:=(HB.out.cell (bl_ w _ hx137_0)).trans hx137_0;replace hx137_1:=(HB.out.cell (bl_ w _ hx137_1)).trans hx137_1;replace hx137_2:=(HB.out.cell (bl_ w _ hx137_2)).trans hx137_2;replace hx137_3:=(HB.out.cell (bl_ w _ hx137_3)).trans hx137_3;replace hx137_4:=(HB.out.cell (bl_ w _ hx137_4)).trans hx137_4;replace hx137_5:=(HB.out.cell (bl_ w _ hx137_5)).trans hx137_5;have HR137_4:=A_ hi137_4;have HC137_4:=A_ hl137_4;clear hi137_4 hl137_4;have HR137_5:=A_ hi137_5;have HC137_5:=A_ hl137_5;clear hi137_5 hl137_5;replace p137:=eq_true p137;replace q137:=eq_true q137)|(go_at_call 45;(with_reducible refine (spec_l03Holds.calls k2 ((rd_T38 l0 x7_2).f0) ((rd_T38 l0 x7_2).f1) ((rd_T38 l0 x7_2).f2) ((rd_T38 l0 x7_2).f3) _ _ ((rd_T38 l0 x7_2).f4) _ _ ((rd_T38 l0 x7_2).f5) t138 _ ?side1 ?side2 ?side3 ?side4 A12.out).mono ?_);(case side1=>repeat (first|exact (cb_ HR137_4.out HB.out)|(with_reducible refine ca_ ?_ _)|(with_reducible refine cn_ ?_ _)|(with_reducible refine cd_ ?_)));(case side2=>exact HC137_4.out);(case side3=>repeat (first|exact (cb_ HR137_5.out HB.out)|(with_reducible refine ca_ ?_ _)|(with_reducible refine cn_ ?_ _)|(with_reducible refine cd_ ?_)));(case side4=>exact HC137_5.out);rintro e w14 ⟨rfl,hb⟩;have n0_:=A_ (bp_ (by repeat (first|(with_reducible first|exact HB.out|apply ba_|apply pd_|apply b1_)|exact HB.out)) hb);clear HB;have HB:=n0_;clear n0_;(try clear hb);(try clear hb2);(try clear hk);(try clear hi)))
          go_meet
          case rel=>exact ⟨_,(!t138),(by first|rfl|(simp;done)|(simp [*];done)),H',⟨by have:=HJ2.out;have:=HK2.out;first|omega|exact Nat.le_refl _⟩,⟨by repeat (first|(with_reducible first|exact HB.out|apply ba_|apply pd_|apply b1_)|exact HB.out)⟩⟩
         ·replace c11:=bm_ c11
          subst c11
          have H1:(spec_l03OK.j2 k2 l0 a1 x6_2 x7_2 true)=some (r1,r2):=by rw [if_neg (show ¬ (false=true) by decide)] at H;exact H
          clear H
          have H:=H1
          clear H1
          have H':=A_ H
          clear H
          have p135:0≤(x7_2:Int):=od_ (by first|(with_reducible assumption)|assumption)
          have q135:x7_2<(l0.length:Int):=od_ (by first|(with_reducible assumption)|assumption)
          obtain ⟨ad135,A135_4,c135_4,A135_5,c135_5,e135,hx135_0,hx135_1,hx135_2,hx135_3,hx135_4,hx135_5,hl135_4,hi135_4,hl135_5,hi135_5⟩:=at_T38 HR0.out x7_2 p135 q135
          cases e135
          replace hx135_0:=(HB.out.cell (bl_ w _ hx135_0)).trans hx135_0
          replace hx135_1:=(HB.out.cell (bl_ w _ hx135_1)).trans hx135_1
          replace hx135_2:=(HB.out.cell (bl_ w _ hx135_2)).trans hx135_2
          replace hx135_3:=(HB.out.cell (bl_ w _ hx135_3)).trans hx135_3
          replace hx135_4:=(HB.out.cell (bl_ w _ hx135_4)).trans hx135_4
          replace hx135_5:=(HB.out.cell (bl_ w _ hx135_5)).trans hx135_5
          have HR135_4:=A_ hi135_4
          have HC135_4:=A_ hl135_4
          clear hi135_4 hl135_4
          have HR135_5:=A_ hi135_5
          have HC135_5:=A_ hl135_5
          clear hi135_5 hl135_5
          replace p135:=eq_true p135
          replace q135:=eq_true q135
          go_wp2_with (first|((with_reducible refine gate_callee (f:=44) rfl ?_);refine goesL_ (some 33) rfl rfl Tryz.func44 (by kernel_rfl) rfl #[.agg #[.int .i64 ((rd_T38 l0 x7_2).f0),.int .i64 ((rd_T38 l0 x7_2).f1),.string ((rd_T38 l0 x7_2).f2),.string ((rd_T38 l0 x7_2).f3),.slice A135_4 ((rd_T38 l0 x7_2).f4).length c135_4,.slice A135_5 ((rd_T38 l0 x7_2).f5).length c135_5]] rfl (by (try simp only [List.map_toArray,List.map_cons,List.map_nil]);first|done|rfl|(simp only [ld_,lt_];rfl)) ?_;(with_reducible refine (spec_l03Plain.calls k2 ((rd_T38 l0 x7_2).f0) ((rd_T38 l0 x7_2).f1) ((rd_T38 l0 x7_2).f2) ((rd_T38 l0 x7_2).f3) _ _ ((rd_T38 l0 x7_2).f4) _ _ ((rd_T38 l0 x7_2).f5) false _ ?side1 ?side2 ?side3 ?side4 A10.out).mono ?_);(case side1=>repeat (first|exact (cb_ HR135_4.out HB.out)|(with_reducible refine ca_ ?_ _)|(with_reducible refine cn_ ?_ _)|(with_reducible refine cd_ ?_)));(case side2=>exact HC135_4.out);(case side3=>repeat (first|exact (cb_ HR135_5.out HB.out)|(with_reducible refine ca_ ?_ _)|(with_reducible refine cn_ ?_ _)|(with_reducible refine cd_ ?_)));(case side4=>exact HC135_5.out);rintro e w15 ⟨rfl,hb⟩;refine ⟨_,rfl,?_⟩;have n0_:=A_ (bp_ (by repeat (first|(with_reducible first|exact HB.out|apply ba_|apply pd_|apply b1_)|exact HB.out)) hb);clear HB;have HB:=n0_;clear n0_;(try clear hb);(try clear hb2);(try clear hk);(try clear hi)))
          go_meet
          case rel=>exact ⟨_,(true),(by first|rfl|(simp;done)|(simp [*];done)),H',⟨by have:=HJ2.out;have:=HK2.out;first|omega|exact Nat.le_refl _⟩,⟨by repeat (first|(with_reducible first|exact HB.out|apply ba_|apply pd_|apply b1_)|exact HB.out)⟩⟩
        ·rw [if_neg c9] at H
         exact absurd H (by simp)
       case rest =>
        clear HC8
        try clear c1
        try clear p1
        try clear q1
        try clear hx1
        try clear p2
        try clear c3
        try clear c4
        try clear c4b0
        try clear c4b1
        try clear c5
        try clear c5b0
        try clear c5b1
        try clear c6
        try clear c7
        try clear c7b0
        try clear c9
        try clear c9b0
        try clear c11
        try clear c13
        try clear p13
        try clear q13
        try clear hx13
        try clear hx135_0
        try clear hx135_1
        try clear hx135_2
        try clear hx135_3
        try clear hx135_4
        try clear hx135_5
        try clear hx137_0
        try clear hx137_1
        try clear hx137_2
        try clear hx137_3
        try clear hx137_4
        try clear hx137_5
        try clear p135
        try clear p137
        try clear p2
        try clear q135
        try clear q137
        obtain ⟨kq,x42_7,rfl,HA,HJ7,HB⟩:=hcut
        cases kq with
        | zero=>exact absurd HA.out (by simp [spec_l03OK.j2])
        | succ kj7 =>
         have H:=HA.out
         clear HA
         simp only [spec_l03OK.j2] at H
         by_cases c16:x42_7=true
         ·subst c16
          have H1:(some (x6_2,false))=some (r1,r2):=by rw [if_pos rfl] at H;exact H
          clear H
          have H:=H1
          clear H1
          simp only [Option.some.injEq,Prod.mk.injEq] at H
          obtain ⟨rfl,rfl⟩:=H
          go_wp2
          go_ret2
          exact ⟨by first|rfl|(simp [errW_none,errW_some] <;> rfl)|(simp [*,errW_none,errW_some] <;> rfl),by repeat (first|(with_reducible first|exact HB.out|apply ba_|apply pd_|apply b1_)|exact HB.out)⟩
         ·replace c16:=bm_ c16
          subst c16
          have H1:(if 0≤x7_2 then (if x7_2<(l0.length:Int) then ((spec_l03OK.f kj7 ((rd_T38 l0 x7_2).f5) (wrap64 (a1 - 1))).bind fun bt140=>(if bt140.2=true then (if (wrap64 (x6_2+bt140.1))>60 then (some (wrap64 (x6_2+bt140.1),false)) else (spec_l03OK.l0 kj7 l0 a1 (wrap64 (x6_2+bt140.1)) (wrap64 (x7_2+1)))) else (some (wrap64 (x6_2+bt140.1),false)))) else (none)) else (none))=some (r1,r2):=by rw [if_neg (show ¬ (false=true) by decide)] at H;exact H
          clear H
          have H:=H1
          clear H1
          by_cases c17:0≤x7_2
          ·rw [if_pos c17] at H
           have c17b0:decide (0≤x7_2)=true:=dt_ c17
           clear c17
           by_cases c18:x7_2<(l0.length:Int)
           ·rw [if_pos c18] at H
            have c18b0:decide (x7_2<(l0.length:Int))=true:=dt_ c18
            clear c18
            replace H:=ob_ H
            obtain ⟨⟨t140,t141⟩,A190,H⟩:=H
            replace H:(if t141=true then (if (wrap64 (x6_2+t140))>60 then (some (wrap64 (x6_2+t140),false)) else (spec_l03OK.l0 kj7 l0 a1 (wrap64 (x6_2+t140)) (wrap64 (x7_2+1)))) else (some (wrap64 (x6_2+t140),false)))=some (r1,r2):=H
            have A19:=A_ A190
            clear A190
            by_cases c20:t141=true
            ·subst c20
             have H1:(if (wrap64 (x6_2+t140))>60 then (some (wrap64 (x6_2+t140),false)) else (spec_l03OK.l0 kj7 l0 a1 (wrap64 (x6_2+t140)) (wrap64 (x7_2+1))))=some (r1,r2):=by rw [if_pos rfl] at H;exact H
             clear H
             have H:=H1
             clear H1
             by_cases c21:(wrap64 (x6_2+t140))>60
             ·rw [if_pos c21] at H
              have c21b0:decide (60<(wrap64 (x6_2+t140)))=true:=dt_ c21
              clear c21
              simp only [Option.some.injEq,Prod.mk.injEq] at H
              obtain ⟨rfl,rfl⟩:=H
              have p139:0≤(x7_2:Int):=od_ (by first|(with_reducible assumption)|assumption)
              have q139:x7_2<(l0.length:Int):=od_ (by first|(with_reducible assumption)|assumption)
              obtain ⟨ad139,A139_4,c139_4,A139_5,c139_5,e139,hx139_0,hx139_1,hx139_2,hx139_3,hx139_4,hx139_5,hl139_4,hi139_4,hl139_5,hi139_5⟩:=at_T38 HR0.out x7_2 p139 q139
              cases e139
              replace hx139_0:=(HB.out.cell (bl_ w _ hx139_0)).trans hx139_0
              replace hx139_1:=(HB.out.cell (bl_ w _ hx139_1)).trans hx139_1
              replace hx139_2:=(HB.out.cell (bl_ w _ hx139_2)).trans hx139_2
              replace hx139_3:=(HB.out.cell (bl_ w _ hx139_3)).trans hx139_3
              replace hx139_4:=(HB.out.cell (bl_ w _ hx139_4)).trans hx139_4
              replace hx139_5:=(HB.out.cell (bl_ w _ hx139_5)).trans hx139_5
              have HR139_4:=A_ hi139_4
              have HC139_4:=A_ hl139_4
              clear hi139_4 hl139_4
              have HR139_5:=A_ hi139_5
              have HC139_5:=A_ hl139_5
              clear hi139_5 hl139_5
              replace p139:=eq_true p139
              replace q139:=eq_true q139
              go_wp2_with (first|((with_reducible refine gate_callee (f:=32) rfl ?_);refine goesL_ (some 52) rfl rfl Tryz.func32 (by kernel_rfl) rfl #[.slice A139_5 ((rd_T38 l0 x7_2).f5).length c139_5,.int .i64 (wrap64 (a1 - 1))] rfl (by (try simp only [List.map_toArray,List.map_cons,List.map_nil]);first|done|rfl|(simp only [ld_,lt_];rfl)) ?_;(with_reducible refine (ih kj7 (by have:=HJ2.out;have:=HK2.out;have:=HJ7.out;omega) _ _ ((rd_T38 l0 x7_2).f5) (wrap64 (a1 - 1)) t140 true _ ?side1 ?side2 A19.out).mono ?_);(case side1=>repeat (first|exact (cb_ HR139_5.out HB.out)|(with_reducible refine ca_ ?_ _)|(with_reducible refine cn_ ?_ _)|(with_reducible refine cd_ ?_)));(case side2=>exact HC139_5.out);rintro e w22 ⟨rfl,hb⟩;refine ⟨_,rfl,?_⟩;have n0_:=A_ (bp_ (by repeat (first|(with_reducible first|exact HB.out|apply ba_|apply pd_|apply b1_)|exact HB.out)) hb);clear HB;have HB:=n0_;clear n0_;(try clear hb);(try clear hb2);(try clear hk);(try clear hi)))
              go_ret2
              exact ⟨by first|rfl|(simp [errW_none,errW_some] <;> rfl)|(simp [*,errW_none,errW_some] <;> rfl),by repeat (first|(with_reducible first|exact HB.out|apply ba_|apply pd_|apply b1_)|exact HB.out)⟩
             ·rw [if_neg c21] at H
              have c21b0:decide (60<(wrap64 (x6_2+t140)))=false:=df_ c21
              clear c21
              have H':=A_ H
              clear H
              have p139:0≤(x7_2:Int):=od_ (by first|(with_reducible assumption)|assumption)
              have q139:x7_2<(l0.length:Int):=od_ (by first|(with_reducible assumption)|assumption)
              obtain ⟨ad139,A139_4,c139_4,A139_5,c139_5,e139,hx139_0,hx139_1,hx139_2,hx139_3,hx139_4,hx139_5,hl139_4,hi139_4,hl139_5,hi139_5⟩:=at_T38 HR0.out x7_2 p139 q139
              cases e139
              replace hx139_0:=(HB.out.cell (bl_ w _ hx139_0)).trans hx139_0
              replace hx139_1:=(HB.out.cell (bl_ w _ hx139_1)).trans hx139_1
              replace hx139_2:=(HB.out.cell (bl_ w _ hx139_2)).trans hx139_2
              replace hx139_3:=(HB.out.cell (bl_ w _ hx139_3)).trans hx139_3
              replace hx139_4:=(HB.out.cell (bl_ w _ hx139_4)).trans hx139_4
              replace hx139_5:=(HB.out.cell (bl_ w _ hx139_5)).trans hx139_5
              have HR139_4:=A_ hi139_4
              have HC139_4:=A_ hl139_4
              clear hi139_4 hl139_4
              have HR139_5:=A_ hi139_5
              have HC139_5:=A_ hl139_5
              clear hi139_5 hl139_5
              replace p139:=eq_true p139
              replace q139:=eq_true q139
              go_wp2_with (first|((with_reducible refine gate_callee (f:=32) rfl ?_);refine goesL_ (some 52) rfl rfl Tryz.func32 (by kernel_rfl) rfl #[.slice A139_5 ((rd_T38 l0 x7_2).f5).length c139_5,.int .i64 (wrap64 (a1 - 1))] rfl (by (try simp only [List.map_toArray,List.map_cons,List.map_nil]);first|done|rfl|(simp only [ld_,lt_];rfl)) ?_;(with_reducible refine (ih kj7 (by have:=HJ2.out;have:=HK2.out;have:=HJ7.out;omega) _ _ ((rd_T38 l0 x7_2).f5) (wrap64 (a1 - 1)) t140 true _ ?side1 ?side2 A19.out).mono ?_);(case side1=>repeat (first|exact (cb_ HR139_5.out HB.out)|(with_reducible refine ca_ ?_ _)|(with_reducible refine cn_ ?_ _)|(with_reducible refine cd_ ?_)));(case side2=>exact HC139_5.out);rintro e w23 ⟨rfl,hb⟩;refine ⟨_,rfl,?_⟩;have n0_:=A_ (bp_ (by repeat (first|(with_reducible first|exact HB.out|apply ba_|apply pd_|apply b1_)|exact HB.out)) hb);clear HB;have HB:=n0_;clear n0_;(try clear hb);(try clear hb2);(try clear hk);(try clear hi)))
              go_roundg kj7
              case measure=>have:=HJ2.out;have:=HK2.out;have:=HJ7.out;omega
              case rel=>exact ⟨(wrap64 (x6_2+t140)),(wrap64 (x7_2+1)),(by first|rfl|(simp;done)|(simp [*];done)),(by first|rfl|(simp;done)|(simp [*];done)),H',⟨by have:=HJ2.out;have:=HK2.out;have:=HJ7.out;omega⟩,⟨by repeat (first|(with_reducible first|exact HB.out|apply ba_|apply pd_|apply b1_)|exact HB.out)⟩⟩
            ·replace c20:=bm_ c20
             subst c20
             have H1:(some (wrap64 (x6_2+t140),false))=some (r1,r2):=by rw [if_neg (show ¬ (false=true) by decide)] at H;exact H
             clear H
             have H:=H1
             clear H1
             simp only [Option.some.injEq,Prod.mk.injEq] at H
             obtain ⟨rfl,rfl⟩:=H
             have p139:0≤(x7_2:Int):=od_ (by first|(with_reducible assumption)|assumption)
             have q139:x7_2<(l0.length:Int):=od_ (by first|(with_reducible assumption)|assumption)
             obtain ⟨ad139,A139_4,c139_4,A139_5,c139_5,e139,hx139_0,hx139_1,hx139_2,hx139_3,hx139_4,hx139_5,hl139_4,hi139_4,hl139_5,hi139_5⟩:=at_T38 HR0.out x7_2 p139 q139
             cases e139
             replace hx139_0:=(HB.out.cell (bl_ w _ hx139_0)).trans hx139_0
             replace hx139_1:=(HB.out.cell (bl_ w _ hx139_1)).trans hx139_1
             replace hx139_2:=(HB.out.cell (bl_ w _ hx139_2)).trans hx139_2
             replace hx139_3:=(HB.out.cell (bl_ w _ hx139_3)).trans hx139_3
             replace hx139_4:=(HB.out.cell (bl_ w _ hx139_4)).trans hx139_4
             replace hx139_5:=(HB.out.cell (bl_ w _ hx139_5)).trans hx139_5
             have HR139_4:=A_ hi139_4
             have HC139_4:=A_ hl139_4
             clear hi139_4 hl139_4
             have HR139_5:=A_ hi139_5
             have HC139_5:=A_ hl139_5
             clear hi139_5 hl139_5
             replace p139:=eq_true p139
             replace q139:=eq_true q139
             go_wp2_with (first|((with_reducible refine gate_callee (f:=32) rfl ?_);refine goesL_ (some 52) rfl rfl Tryz.func32 (by kernel_rfl) rfl #[.slice A139_5 ((rd_T38 l0 x7_2).f5).length c139_5,.int .i64 (wrap64 (a1 - 1))] rfl (by (try simp only [List.map_toArray,List.map_cons,List.map_nil]);first|done|rfl|(simp only [ld_,lt_];rfl)) ?_;(with_reducible refine (ih kj7 (by have:=HJ2.out;have:=HK2.out;have:=HJ7.out;omega) _ _ ((rd_T38 l0 x7_2).f5) (wrap64 (a1 - 1)) t140 false _ ?side1 ?side2 A19.out).mono ?_);(case side1=>repeat (first|exact (cb_ HR139_5.out HB.out)|(with_reducible refine ca_ ?_ _)|(with_reducible refine cn_ ?_ _)|(with_reducible refine cd_ ?_)));(case side2=>exact HC139_5.out);rintro e w24 ⟨rfl,hb⟩;refine ⟨_,rfl,?_⟩;have n0_:=A_ (bp_ (by repeat (first|(with_reducible first|exact HB.out|apply ba_|apply pd_|apply b1_)|exact HB.out)) hb);clear HB;have HB:=n0_;clear n0_;(try clear hb);(try clear hb2);(try clear hk);(try clear hi)))
             go_ret2
             exact ⟨by first|rfl|(simp [errW_none,errW_some] <;> rfl)|(simp [*,errW_none,errW_some] <;> rfl),by repeat (first|(with_reducible first|exact HB.out|apply ba_|apply pd_|apply b1_)|exact HB.out)⟩
           ·rw [if_neg c18] at H
            exact absurd H (by simp)
          ·rw [if_neg c17] at H
           exact absurd H (by simp)
      ·rw [if_neg c7] at H
       have c7b0:decide (x7_2<(l0.length:Int))=false:=df_ c7
       clear c7
       simp only [Option.some.injEq,Prod.mk.injEq] at H
       obtain ⟨rfl,rfl⟩:=H
       go_wp2
       go_ret2
       exact ⟨by first|rfl|(simp [errW_none,errW_some] <;> rfl)|(simp [*,errW_none,errW_some] <;> rfl),by repeat (first|(with_reducible first|exact HB.out|apply ba_|apply pd_|apply b1_)|exact HB.out)⟩
end Go.Proofs.YtlpncjeahdfolaaGreatDoor.PFnExactSerialize
