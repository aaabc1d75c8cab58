/- By a program of this session, out of the kit's print and contracts made by hand: the machine side of a law; Lean checks it. No conditions. -/
import Derived.Test.YtbeplhbkoaopgaaPFnExactSetWordsx0
import Derived.Test.YtbeplhbkoaopgaaPFnExactSetWordsx7
import Derived.Test.YtbeplhbkoaopgaaPFnExactSetWordsx27
namespace Go.Proofs.Ytbeplhbkoaopgaa.PFnExactSetWords
open Go.RowKit Go.Proofs.YtbeplhbkoaopgaaW.PrintWords Go.Proofs.YtbeplhbkoaopgaaW.PrintLast Go.Proofs.YtbeplhbkoaopgaaW.PrintMore
attribute [local go_sem] max2_int min2_int max_two min_two max_three min_three max_four min_four
set_option linter.unusedVariables false
set_option linter.unusedSimpArgs false
/-! ### laws_heldNodeS: function 20 -/
mutual
def laws_heldNodeS.l0:Nat→List (S28)→Int→Int→Option (Int)
 | 0,_,_,_=>none
 | k+1,x0,x1,x5=>if x5<(x0.length:Int) then (if 0≤x5 then (if ((rd_T28 x0 x5).f0)=x1 then (if ((rd_T28 x0 x5).f1)=(wrap64 (x1+1)) then ((laws_markText.f k (wrap64 ((wrap64 (x1+1))+1))).bind fun t294=>(if ((rd_T28 x0 x5).f2).toList=t294.toList then ((laws_markText.f k (wrap64 ((wrap64 ((wrap64 (x1+1))+1))+1))).bind fun t296=>(if ((rd_T28 x0 x5).f3).toList=t296.toList then ((laws_heldAttrS.f k ((rd_T28 x0 x5).f4) (wrap64 ((wrap64 ((wrap64 ((wrap64 (x1+1))+1))+1))+1))).bind fun t298=>(if t298<0 then (some (-1)) else ((laws_heldNodeS.f k ((rd_T28 x0 x5).f5) t298).bind fun t300=>(if t300<0 then (some (-1)) else (laws_heldNodeS.l0 k x0 t300 (wrap64 (x5+1))))))) else (some (-1)))) else (some (-1)))) else (some (-1))) else (some (-1))) else (none)) else (some x1)
def laws_heldNodeS.f:Nat→List (S28)→Int→Option (Int)
 | 0,_,_=>none
 | k+1,l0,a1=>laws_heldNodeS.l0 k l0 a1 0
end
theorem laws_heldNodeS.mono_l:∀ k,(∀ y0 y1,LeO (laws_heldNodeS.f k y0 y1) (laws_heldNodeS.f (k+1) y0 y1))∧(∀ y0 y1 y2,LeO (laws_heldNodeS.l0 k y0 y1 y2) (laws_heldNodeS.l0 (k+1) y0 y1 y2))
 | 0=>⟨fun _ _ r h=>by simp [laws_heldNodeS.f] at h,fun _ _ _ r h=>by simp [laws_heldNodeS.l0] at h⟩
 | k+1=>by
  obtain ⟨ih0,ih1⟩:=laws_heldNodeS.mono_l k
  refine ⟨?_,?_⟩
  ·intro y0 y1
   unfold laws_heldNodeS.f
   repeat' first
   | (with_reducible exact ih0 _ _)
   | (with_reducible exact ih1 _ _ _)
   | (with_reducible exact laws_heldAttrS.mono _ _ _)
   | (with_reducible exact laws_markText.mono _ _)
   | (with_reducible exact LeO.refl _)
   | (with_reducible exact LeO.none _)
   | (with_reducible refine LeO.ite ?_ ?_)
   | (with_reducible refine LeO.bind ?_ (fun _=>?_))
   | exact ih0 _ _
   | exact ih1 _ _ _
   | exact laws_heldAttrS.mono _ _ _
   | exact laws_markText.mono _ _
   | exact LeO.none _
   | refine LeO.ite ?_ ?_
   | refine LeO.bind ?_ (fun _=>?_)
  ·intro y0 y1 y2
   unfold laws_heldNodeS.l0
   repeat' first
   | (with_reducible exact ih0 _ _)
   | (with_reducible exact ih1 _ _ _)
   | (with_reducible exact laws_heldAttrS.mono _ _ _)
   | (with_reducible exact laws_markText.mono _ _)
   | (with_reducible exact LeO.refl _)
   | (with_reducible exact LeO.none _)
   | (with_reducible refine LeO.ite ?_ ?_)
   | (with_reducible refine LeO.bind ?_ (fun _=>?_))
   | exact ih0 _ _
   | exact ih1 _ _ _
   | exact laws_heldAttrS.mono _ _ _
   | exact laws_markText.mono _ _
   | exact LeO.none _
   | refine LeO.ite ?_ ?_
   | refine LeO.bind ?_ (fun _=>?_)
theorem laws_heldNodeS.mono:∀ a0 a1 k,LeO (laws_heldNodeS.f k a0 a1) (laws_heldNodeS.f (k+1) a0 a1):=by
 intro a0 a1 k
 obtain ⟨ih0,ih1⟩:=laws_heldNodeS.mono_l k
 exact ih0 a0 a1
def laws_heldNodeS.T10:Bool × List (List Nat × List Nat):=(true,[([],[]),([],[]),([0,1],[0,1]),([2],[2]),([3],[3]),([],[]),([5],[5]),([4,6],[4,6])])
def laws_heldNodeS.B10:List Nat:=[0,0,3,7,15,0,32,127]
theorem laws_heldNodeS.tab10:rtab .any (opsOf Try.f20 10)=laws_heldNodeS.T10:=by kernel_rfl
theorem laws_heldNodeS.bits10:waitsOk laws_heldNodeS.T10.2 laws_heldNodeS.B10=true:=by kernel_rfl
def laws_heldNodeS.T13:Bool × List (List Nat × List Nat):=(true,[([],[]),([],[]),([0,1],[0,1]),([2],[2]),([3],[3]),([],[]),([5],[5]),([4,6],[4,6])])
def laws_heldNodeS.B13:List Nat:=[0,0,3,7,15,0,32,127]
theorem laws_heldNodeS.tab13:rtab .any (opsOf Try.f20 13)=laws_heldNodeS.T13:=by kernel_rfl
theorem laws_heldNodeS.bits13:waitsOk laws_heldNodeS.T13.2 laws_heldNodeS.B13=true:=by kernel_rfl
set_option maxHeartbeats 8000000 in
set_option maxRecDepth 100000 in
theorem laws_heldNodeS.calls (k:Nat):∀ (A0:Option Addr) (c0:Nat) (l0:List (S28)) (a1:Int) (r:Int) (w:World) (hr0:Kd.C k28 w A0 l0.length l0) (hc0:l0.length≤c0) (h:laws_heldNodeS.f k l0 a1=some r),
 Calls Try.prog 20 #[.slice A0 l0.length c0,.int .i64 a1] w fun e w'=>e=.returned (.int .i64 r)∧Below w.heap.size w w':=by
 induction k using Nat.strongRecOn with
 | _ k ih =>
 intro A0 c0 l0 a1 r w hr0 hc0 h
 cases k with
 | zero=>exact absurd h (by simp [laws_heldNodeS.f])
 | succ k =>
 simp only [laws_heldNodeS.f] at h
 have HR0:=A_ hr0
 have HC0:=A_ hc0
 clear hr0 hc0
 have HB:=A_ (Below.refl w.heap.size w)
 have H:(laws_heldNodeS.l0 k l0 a1 0)=some r:=h
 clear h
 have H':=A_ H
 clear H
 go_enter Try.func20,Try.ntmps20
 go_wp2
 go_loopg [1,5] k (fun kq v1 v5 w'=>∃ (x1_1:Int) (x5_1:Int),v1=.int .i64 x1_1∧v5=.int .i64 x5_1∧Aside0 (laws_heldNodeS.l0 kq l0 x1_1 x5_1=some r)∧Aside0 (kq≤k)∧Aside0 (Below w.heap.size w w'))
 case atStart=>exact ⟨(a1),(0),(by first|rfl|(simp;done)|(simp [*];done)),(by first|rfl|(simp;done)|(simp [*];done)),H',⟨Nat.le_refl _⟩,⟨by repeat (first|(with_reducible first|exact HB.out|apply ba_|apply pd_|apply b1_)|exact HB.out)⟩⟩
 case round =>
  clear H'
  try clear c2
  try clear p2
  obtain ⟨x1_1,x5_1,rfl,rfl,HA,HK1,HB⟩:=hrel
  cases gk with
  | zero=>exact absurd HA.out (by simp [laws_heldNodeS.l0])
  | succ k1 =>
   have H:=HA.out
   clear HA
   simp only [laws_heldNodeS.l0] at H
   by_cases c3:x5_1<(l0.length:Int)
   ·rw [if_pos c3] at H
    have c3b0:decide (x5_1<(l0.length:Int))=true:=dt_ c3
    clear c3
    by_cases c4:0≤x5_1
    ·rw [if_pos c4] at H
     have c4b0:decide (0≤x5_1)=true:=dt_ c4
     clear c4
     by_cases c5:((rd_T28 l0 x5_1).f0)=x1_1
     ·rw [if_pos c5] at H
      have c5b0:(((rd_T28 l0 x5_1).f0) == x1_1)=true:=beq_iff_eq.mpr c5
      have c5b1:(((rd_T28 l0 x5_1).f0) != x1_1)=false:=bne_eq_false_iff_eq.mpr c5
      clear c5
      by_cases c6:((rd_T28 l0 x5_1).f1)=(wrap64 (x1_1+1))
      ·rw [if_pos c6] at H
       have c6b0:(((rd_T28 l0 x5_1).f1) == (wrap64 (x1_1+1)))=true:=beq_iff_eq.mpr c6
       have c6b1:(((rd_T28 l0 x5_1).f1) != (wrap64 (x1_1+1)))=false:=bne_eq_false_iff_eq.mpr c6
       clear c6
       replace H:=ob_ H
       obtain ⟨t294,A70,H⟩:=H
       replace H:(if ((rd_T28 l0 x5_1).f2).toList=t294.toList then ((laws_markText.f k1 (wrap64 ((wrap64 ((wrap64 (x1_1+1))+1))+1))).bind fun t296=>(if ((rd_T28 l0 x5_1).f3).toList=t296.toList then ((laws_heldAttrS.f k1 ((rd_T28 l0 x5_1).f4) (wrap64 ((wrap64 ((wrap64 ((wrap64 (x1_1+1))+1))+1))+1))).bind fun t298=>(if t298<0 then (some (-1)) else ((laws_heldNodeS.f k1 ((rd_T28 l0 x5_1).f5) t298).bind fun t300=>(if t300<0 then (some (-1)) else (laws_heldNodeS.l0 k1 l0 t300 (wrap64 (x5_1+1))))))) else (some (-1)))) else (some (-1)))=some r:=H
       have A7:=A_ A70
       clear A70
       by_cases c8:((rd_T28 l0 x5_1).f2).toList=t294.toList
       ·rw [if_pos c8] at H
        have c8b0:(((rd_T28 l0 x5_1).f2).toList == t294.toList)=true:=beq_iff_eq.mpr c8
        have c8b1:(((rd_T28 l0 x5_1).f2).toList != t294.toList)=false:=bne_eq_false_iff_eq.mpr c8
        clear c8
        replace H:=ob_ H
        obtain ⟨t296,A90,H⟩:=H
        replace H:(if ((rd_T28 l0 x5_1).f3).toList=t296.toList then ((laws_heldAttrS.f k1 ((rd_T28 l0 x5_1).f4) (wrap64 ((wrap64 ((wrap64 ((wrap64 (x1_1+1))+1))+1))+1))).bind fun t298=>(if t298<0 then (some (-1)) else ((laws_heldNodeS.f k1 ((rd_T28 l0 x5_1).f5) t298).bind fun t300=>(if t300<0 then (some (-1)) else (laws_heldNodeS.l0 k1 l0 t300 (wrap64 (x5_1+1))))))) else (some (-1)))=some r:=H
        have A9:=A_ A90
        clear A90
        by_cases c10:((rd_T28 l0 x5_1).f3).toList=t296.toList
        ·rw [if_pos c10] at H
         have c10b0:(((rd_T28 l0 x5_1).f3).toList == t296.toList)=true:=beq_iff_eq.mpr c10
         have c10b1:(((rd_T28 l0 x5_1).f3).toList != t296.toList)=false:=bne_eq_false_iff_eq.mpr c10
         clear c10
         replace H:=ob_ H
         obtain ⟨t298,A110,H⟩:=H
         replace H:(if t298<0 then (some (-1)) else ((laws_heldNodeS.f k1 ((rd_T28 l0 x5_1).f5) t298).bind fun t300=>(if t300<0 then (some (-1)) else (laws_heldNodeS.l0 k1 l0 t300 (wrap64 (x5_1+1))))))=some r:=H
         have A11:=A_ A110
         clear A110
         by_cases c12:t298<0
         ·rw [if_pos c12] at H
          have c12b0:decide (t298<0)=true:=dt_ c12
          clear c12
          obtain rfl:=oi_ H
          have p291:0≤(x5_1:Int):=od_ (by first|(with_reducible assumption)|assumption)
          have q291:x5_1<(l0.length:Int):=od_ (by first|(with_reducible assumption)|assumption)
          obtain ⟨ad291,A291_4,c291_4,A291_5,c291_5,e291,hx291_0,hx291_1,hx291_2,hx291_3,hx291_4,hx291_5,hl291_4,hi291_4,hl291_5,hi291_5⟩:=at_T28 HR0.out x5_1 p291 q291
          cases e291
          replace hx291_0:=(HB.out.cell (bl_ w _ hx291_0)).trans hx291_0
          replace hx291_1:=(HB.out.cell (bl_ w _ hx291_1)).trans hx291_1
          replace hx291_2:=(HB.out.cell (bl_ w _ hx291_2)).trans hx291_2
          replace hx291_3:=(HB.out.cell (bl_ w _ hx291_3)).trans hx291_3
          replace hx291_4:=(HB.out.cell (bl_ w _ hx291_4)).trans hx291_4
          replace hx291_5:=(HB.out.cell (bl_ w _ hx291_5)).trans hx291_5
          have HR291_4:=A_ hi291_4
          have HC291_4:=A_ hl291_4
          clear hi291_4 hl291_4
          have HR291_5:=A_ hi291_5
          have HC291_5:=A_ hl291_5
          clear hi291_5 hl291_5
          replace p291:=eq_true p291
          replace q291:=eq_true q291
          have p292:0≤(x5_1:Int):=od_ (by first|(with_reducible assumption)|assumption)
          have q292:x5_1<(l0.length:Int):=od_ (by first|(with_reducible assumption)|assumption)
          obtain ⟨ad292,A292_4,c292_4,A292_5,c292_5,e292,hx292_0,hx292_1,hx292_2,hx292_3,hx292_4,hx292_5,hl292_4,hi292_4,hl292_5,hi292_5⟩:=at_T28 HR0.out x5_1 p292 q292
          obtain rfl:ad291=ad292:=(by injection e292)
          try (have h_:=hx292_4.symm.trans hw290_4;injection h_ with h_;injection h_ with h1_ h3_ h2_;subst h1_;subst h2_)
          try (have h_:=hx292_5.symm.trans hw290_5;injection h_ with h_;injection h_ with h1_ h3_ h2_;subst h1_;subst h2_)
          replace hx292_0:=(HB.out.cell (bl_ w _ hx292_0)).trans hx292_0
          replace hx292_1:=(HB.out.cell (bl_ w _ hx292_1)).trans hx292_1
          replace hx292_2:=(HB.out.cell (bl_ w _ hx292_2)).trans hx292_2
          replace hx292_3:=(HB.out.cell (bl_ w _ hx292_3)).trans hx292_3
          replace hx292_4:=(HB.out.cell (bl_ w _ hx292_4)).trans hx292_4
          replace hx292_5:=(HB.out.cell (bl_ w _ hx292_5)).trans hx292_5
          have HR292_4:=A_ hi292_4
          have HC292_4:=A_ hl292_4
          clear hi292_4 hl292_4
          have HR292_5:=A_ hi292_5
          have HC292_5:=A_ hl292_5
          clear hi292_5 hl292_5
          replace p292:=eq_true p292
          replace q292:=eq_true q292
          have ea_:=oi_ (hx291_4.symm.trans hx292_4)
          injection ea_ with ea_ en_ ec_
          subst ea_
          subst ec_
          clear en_
          have ea_:=oi_ (hx291_5.symm.trans hx292_5)
          injection ea_ with ea_ en_ ec_
          subst ea_
          subst ec_
          clear en_
          try go_wp2
          have n0_:=A_ (b1_ HB.out)
          clear HB
          have HB:=n0_
          clear n0_
          have p293:0≤(x5_1:Int):=od_ (by first|(with_reducible assumption)|assumption)
          have q293:x5_1<(l0.length:Int):=od_ (by first|(with_reducible assumption)|assumption)
          obtain ⟨ad293,A293_4,c293_4,A293_5,c293_5,e293,hx293_0,hx293_1,hx293_2,hx293_3,hx293_4,hx293_5,hl293_4,hi293_4,hl293_5,hi293_5⟩:=at_T28 HR0.out x5_1 p293 q293
          have hw293_5:=hx293_5
          have hw293_4:=hx293_4
          have hw293_3:=hx293_3
          have hw293_2:=hx293_2
          have hw293_1:=hx293_1
          have hw293_0:=hx293_0
          obtain rfl:ad291=ad293:=(by injection e293)
          try (have h_:=hx293_4.symm.trans hw291_4;injection h_ with h_;injection h_ with h1_ h3_ h2_;subst h1_;subst h2_)
          try (have h_:=hx293_5.symm.trans hw291_5;injection h_ with h_;injection h_ with h1_ h3_ h2_;subst h1_;subst h2_)
          replace hx293_0:=(HB.out.cell (bl_ w _ hx293_0)).trans hx293_0
          replace hx293_1:=(HB.out.cell (bl_ w _ hx293_1)).trans hx293_1
          replace hx293_2:=(HB.out.cell (bl_ w _ hx293_2)).trans hx293_2
          replace hx293_3:=(HB.out.cell (bl_ w _ hx293_3)).trans hx293_3
          replace hx293_4:=(HB.out.cell (bl_ w _ hx293_4)).trans hx293_4
          replace hx293_5:=(HB.out.cell (bl_ w _ hx293_5)).trans hx293_5
          have HR293_4:=A_ hi293_4
          have HC293_4:=A_ hl293_4
          clear hi293_4 hl293_4
          have HR293_5:=A_ hi293_5
          have HC293_5:=A_ hl293_5
          clear hi293_5 hl293_5
          replace p293:=eq_true p293
          replace q293:=eq_true q293
          refine start_ (n:=8) (S:=fun w'=>w'.cell? (ad291.add ((x5_1).toNat * 6))=some (.int .i64 ((rd_T28 l0 x5_1).f0))∧w'.cell? ⟨(ad291.add ((x5_1).toNat * 6)).block,(ad291.add ((x5_1).toNat * 6)).off+1,none⟩=some (.int .i64 ((rd_T28 l0 x5_1).f1))∧w'.cell? ⟨(ad291.add ((x5_1).toNat * 6)).block,(ad291.add ((x5_1).toNat * 6)).off+2,none⟩=some (.string ((rd_T28 l0 x5_1).f2))∧w'.cell? ⟨(ad291.add ((x5_1).toNat * 6)).block,(ad291.add ((x5_1).toNat * 6)).off+3,none⟩=some (.string ((rd_T28 l0 x5_1).f3))∧w'.cell? ⟨(ad291.add ((x5_1).toNat * 6)).block,(ad291.add ((x5_1).toNat * 6)).off+4,none⟩=some (.slice A293_4 ((rd_T28 l0 x5_1).f4).length c293_4)∧w'.cell? ⟨(ad291.add ((x5_1).toNat * 6)).block,(ad291.add ((x5_1).toNat * 6)).off+5,none⟩=some (.slice A293_5 ((rd_T28 l0 x5_1).f5).length c293_5)) (ds:=[]) #[F_,F_,F_,F_,F_,F_,F_,F_] (by kernel_rfl) rfl rfl ⟨((HB.out.cell (bl_ w _ hw293_0)).trans hw293_0),((HB.out.cell (bl_ w _ hw293_1)).trans hw293_1),((HB.out.cell (bl_ w _ hw293_2)).trans hw293_2),((HB.out.cell (bl_ w _ hw293_3)).trans hw293_3),((HB.out.cell (bl_ w _ hw293_4)).trans hw293_4),((HB.out.cell (bl_ w _ hw293_5)).trans hw293_5)⟩ (fun hHeld=>?_);refine with_tabW laws_heldNodeS.tab10 laws_heldNodeS.bits10 (fun HT_ HW_=>?_)
          generalize wr.drew=w13 at HB HR293_4 HR293_5 hx293_0 hx293_1 hx293_2 hx293_3 hx293_4 hx293_5 hHeld ⊢
          refine pure_ (i:=0) (N:=some 30) (v:=?_) (a':=?_) #[T_,F_,F_,F_,F_,F_,F_,F_] rfl rfl (any_of HT_.out (by kernel_rfl)) (fun _ _ _ h=>h) (Or.inl ⟨by rfl,?_⟩) ?_ ?_
          rotate_left
          ·intro w'
           go_simp
           with_reducible rfl
          rotate_left
          ·simp only [Act.put,ls_,lz_,lc_,i64_w,i32_w]
           rfl
          refine pure_ (i:=1) (N:=some 31) (v:=?_) (a':=?_) #[T_,T_,F_,F_,F_,F_,F_,F_] rfl rfl (any_of HT_.out (by kernel_rfl)) (fun _ _ _ h=>h) (Or.inl ⟨by rfl,?_⟩) ?_ ?_
          rotate_left
          ·intro w'
           go_simp
           with_reducible rfl
          rotate_left
          ·simp only [Act.put,ls_,lz_,lc_,i64_w,i32_w]
           rfl
          refine pure_ (i:=2) (N:=some 32) (v:=?_) (a':=?_) #[T_,T_,T_,F_,F_,F_,F_,F_] rfl rfl (any_of HT_.out (by kernel_rfl)) (fun _ _ _ h=>h) (Or.inl ⟨by rfl,?_⟩) ?_ ?_
          rotate_left
          ·intro w'
           go_simp
           with_reducible rfl
          rotate_left
          ·simp only [Act.put,ls_,lz_,lc_,i64_w,i32_w]
           rfl
          refine pure_ (i:=3) (N:=some 33) (v:=?_) (a':=?_) #[T_,T_,T_,T_,F_,F_,F_,F_] rfl rfl (any_of HT_.out (by kernel_rfl)) (fun _ _ _ h=>h) (Or.inl ⟨by rfl,?_⟩) ?_ ?_
          rotate_left
          ·intro w'
           go_simp
           with_reducible rfl
          rotate_left
          ·simp only [Act.put,ls_,lz_,lc_,i64_w,i32_w]
           rfl
          refine pure_ (i:=5) (N:=some 35) (v:=?_) (a':=?_) #[T_,T_,T_,T_,F_,T_,F_,F_] rfl rfl (any_of HT_.out (by kernel_rfl)) (fun _ _ _ h=>h) (Or.inl ⟨by rfl,?_⟩) ?_ ?_
          rotate_left
          ·intro w'
           go_simp
           with_reducible rfl
          rotate_left
          ·simp only [Act.put,ls_,lz_,lc_,i64_w,i32_w]
           rfl
          refine take_ (i:=4) (N:=some 34) (v:=?_) (a':=?_) #[T_,T_,T_,T_,T_,T_,F_,F_] rfl rfl (take_ofW HT_.out HW_.out (by kernel_rfl)) (fun _ _ _ h=>h) (Or.inl ⟨by rfl,?_⟩) hHeld ?_ ?_
          rotate_left
          ·rintro w' ⟨s0,s1,s2,s3,s4,s5⟩
           go_simp
           with_reducible rfl
          rotate_left
          ·simp only [Act.put,ls_,lz_,lc_,i64_w,i32_w]
           rfl
          refine one_ (i:=6) (N:=some 36) #[T_,T_,T_,T_,T_,T_,T_,F_] rfl rfl (one_of HT_.out (by kernel_rfl)) (by decide) (fun K hK=>?_)
          refine goes_ Try.func32 (by kernel_rfl) rfl #[.int .i64 (wrap64 ((wrap64 (x1_1+1))+1))] (by rfl) rfl rfl (by (try simp only [List.map_toArray,List.map_cons,List.map_nil]);first|done|rfl|(simp only [ld_,lt_];rfl)) ?_
          with_reducible refine (laws_markText.calls k1 (wrap64 ((wrap64 (x1_1+1))+1)) t294 _ A7.out).mono ?_
          rintro e w14 ⟨rfl,hb⟩
          refine ⟨_,rfl,?_⟩
          have n0_:=A_ (bp_ (by repeat (first|(with_reducible first|exact HB.out|apply ba_|apply pd_|apply b1_)|exact HB.out)) hb)
          clear HB
          have HB:=n0_
          clear n0_
          (try clear hb)
          (try clear hb2)
          (try clear hk)
          (try clear hi)
          refine hK.out _ _ ⟨((HB.out.cell (bl_ w _ hw293_0)).trans hw293_0),((HB.out.cell (bl_ w _ hw293_1)).trans hw293_1),((HB.out.cell (bl_ w _ hw293_2)).trans hw293_2),((HB.out.cell (bl_ w _ hw293_3)).trans hw293_3),((HB.out.cell (bl_ w _ hw293_4)).trans hw293_4),((HB.out.cell (bl_ w _ hw293_5)).trans hw293_5)⟩ (fun hHeld=>?_)
          clear hK K
          refine norm_ (a':=?_) ?_ ?_
          rotate_left
          ·show Act.put _ (some 36) _=_
           simp only [Act.put,ls_,lz_,lc_,i64_w,i32_w]
           rfl
          refine pure_ (i:=7) (N:=some 37) (v:=?_) (a':=?_) #[T_,T_,T_,T_,T_,T_,T_,T_] rfl rfl (any_of HT_.out (by kernel_rfl)) (fun _ _ _ h=>h) (Or.inl ⟨by rfl,?_⟩) ?_ ?_
          rotate_left
          ·intro w'
           go_simp
           with_reducible rfl
          rotate_left
          ·simp only [Act.put,ls_,lz_,lc_,i64_w,i32_w]
           rfl
          refine done_ (done_of HT_.out (by kernel_rfl)) ?_
          try go_wp2
          have n0_:=A_ (b1_ HB.out)
          clear HB
          have HB:=n0_
          clear n0_
          have p295:0≤(x5_1:Int):=od_ (by first|(with_reducible assumption)|assumption)
          have q295:x5_1<(l0.length:Int):=od_ (by first|(with_reducible assumption)|assumption)
          obtain ⟨ad295,A295_4,c295_4,A295_5,c295_5,e295,hx295_0,hx295_1,hx295_2,hx295_3,hx295_4,hx295_5,hl295_4,hi295_4,hl295_5,hi295_5⟩:=at_T28 HR0.out x5_1 p295 q295
          have hw295_5:=hx295_5
          have hw295_4:=hx295_4
          have hw295_3:=hx295_3
          have hw295_2:=hx295_2
          have hw295_1:=hx295_1
          have hw295_0:=hx295_0
          obtain rfl:ad291=ad295:=(by injection e295)
          try (have h_:=hx295_4.symm.trans hw293_4;injection h_ with h_;injection h_ with h1_ h3_ h2_;subst h1_;subst h2_)
          try (have h_:=hx295_5.symm.trans hw293_5;injection h_ with h_;injection h_ with h1_ h3_ h2_;subst h1_;subst h2_)
          replace hx295_0:=(HB.out.cell (bl_ w _ hx295_0)).trans hx295_0
          replace hx295_1:=(HB.out.cell (bl_ w _ hx295_1)).trans hx295_1
          replace hx295_2:=(HB.out.cell (bl_ w _ hx295_2)).trans hx295_2
          replace hx295_3:=(HB.out.cell (bl_ w _ hx295_3)).trans hx295_3
          replace hx295_4:=(HB.out.cell (bl_ w _ hx295_4)).trans hx295_4
          replace hx295_5:=(HB.out.cell (bl_ w _ hx295_5)).trans hx295_5
          have HR295_4:=A_ hi295_4
          have HC295_4:=A_ hl295_4
          clear hi295_4 hl295_4
          have HR295_5:=A_ hi295_5
          have HC295_5:=A_ hl295_5
          clear hi295_5 hl295_5
          replace p295:=eq_true p295
          replace q295:=eq_true q295
          refine start_ (n:=8) (S:=fun w'=>w'.cell? (ad291.add ((x5_1).toNat * 6))=some (.int .i64 ((rd_T28 l0 x5_1).f0))∧w'.cell? ⟨(ad291.add ((x5_1).toNat * 6)).block,(ad291.add ((x5_1).toNat * 6)).off+1,none⟩=some (.int .i64 ((rd_T28 l0 x5_1).f1))∧w'.cell? ⟨(ad291.add ((x5_1).toNat * 6)).block,(ad291.add ((x5_1).toNat * 6)).off+2,none⟩=some (.string ((rd_T28 l0 x5_1).f2))∧w'.cell? ⟨(ad291.add ((x5_1).toNat * 6)).block,(ad291.add ((x5_1).toNat * 6)).off+3,none⟩=some (.string ((rd_T28 l0 x5_1).f3))∧w'.cell? ⟨(ad291.add ((x5_1).toNat * 6)).block,(ad291.add ((x5_1).toNat * 6)).off+4,none⟩=some (.slice A295_4 ((rd_T28 l0 x5_1).f4).length c295_4)∧w'.cell? ⟨(ad291.add ((x5_1).toNat * 6)).block,(ad291.add ((x5_1).toNat * 6)).off+5,none⟩=some (.slice A295_5 ((rd_T28 l0 x5_1).f5).length c295_5)) (ds:=[]) #[F_,F_,F_,F_,F_,F_,F_,F_] (by kernel_rfl) rfl rfl ⟨((HB.out.cell (bl_ w _ hw295_0)).trans hw295_0),((HB.out.cell (bl_ w _ hw295_1)).trans hw295_1),((HB.out.cell (bl_ w _ hw295_2)).trans hw295_2),((HB.out.cell (bl_ w _ hw295_3)).trans hw295_3),((HB.out.cell (bl_ w _ hw295_4)).trans hw295_4),((HB.out.cell (bl_ w _ hw295_5)).trans hw295_5)⟩ (fun hHeld=>?_);refine with_tabW laws_heldNodeS.tab13 laws_heldNodeS.bits13 (fun HT_ HW_=>?_)
          generalize w14.drew=w15 at HB HR295_4 HR295_5 hx295_0 hx295_1 hx295_2 hx295_3 hx295_4 hx295_5 hHeld ⊢
          refine pure_ (i:=0) (N:=some 40) (v:=?_) (a':=?_) #[T_,F_,F_,F_,F_,F_,F_,F_] rfl rfl (any_of HT_.out (by kernel_rfl)) (fun _ _ _ h=>h) (Or.inl ⟨by rfl,?_⟩) ?_ ?_
          rotate_left
          ·intro w'
           go_simp
           with_reducible rfl
          rotate_left
          ·simp only [Act.put,ls_,lz_,lc_,i64_w,i32_w]
           rfl
          refine pure_ (i:=1) (N:=some 41) (v:=?_) (a':=?_) #[T_,T_,F_,F_,F_,F_,F_,F_] rfl rfl (any_of HT_.out (by kernel_rfl)) (fun _ _ _ h=>h) (Or.inl ⟨by rfl,?_⟩) ?_ ?_
          rotate_left
          ·intro w'
           go_simp
           with_reducible rfl
          rotate_left
          ·simp only [Act.put,ls_,lz_,lc_,i64_w,i32_w]
           rfl
          refine pure_ (i:=2) (N:=some 42) (v:=?_) (a':=?_) #[T_,T_,T_,F_,F_,F_,F_,F_] rfl rfl (any_of HT_.out (by kernel_rfl)) (fun _ _ _ h=>h) (Or.inl ⟨by rfl,?_⟩) ?_ ?_
          rotate_left
          ·intro w'
           go_simp
           with_reducible rfl
          rotate_left
          ·simp only [Act.put,ls_,lz_,lc_,i64_w,i32_w]
           rfl
          refine pure_ (i:=3) (N:=some 43) (v:=?_) (a':=?_) #[T_,T_,T_,T_,F_,F_,F_,F_] rfl rfl (any_of HT_.out (by kernel_rfl)) (fun _ _ _ h=>h) (Or.inl ⟨by rfl,?_⟩) ?_ ?_
          rotate_left
          ·intro w'
           go_simp
           with_reducible rfl
          rotate_left
          ·simp only [Act.put,ls_,lz_,lc_,i64_w,i32_w]
           rfl
          refine pure_ (i:=5) (N:=some 45) (v:=?_) (a':=?_) #[T_,T_,T_,T_,F_,T_,F_,F_] rfl rfl (any_of HT_.out (by kernel_rfl)) (fun _ _ _ h=>h) (Or.inl ⟨by rfl,?_⟩) ?_ ?_
          rotate_left
          ·intro w'
           go_simp
           with_reducible rfl
          rotate_left
          ·simp only [Act.put,ls_,lz_,lc_,i64_w,i32_w]
           rfl
          refine take_ (i:=4) (N:=some 44) (v:=?_) (a':=?_) #[T_,T_,T_,T_,T_,T_,F_,F_] rfl rfl (take_ofW HT_.out HW_.out (by kernel_rfl)) (fun _ _ _ h=>h) (Or.inl ⟨by rfl,?_⟩) hHeld ?_ ?_
          rotate_left
          ·rintro w' ⟨s0,s1,s2,s3,s4,s5⟩
           go_simp
           with_reducible rfl
          rotate_left
          ·simp only [Act.put,ls_,lz_,lc_,i64_w,i32_w]
           rfl
          refine one_ (i:=6) (N:=some 46) #[T_,T_,T_,T_,T_,T_,T_,F_] rfl rfl (one_of HT_.out (by kernel_rfl)) (by decide) (fun K hK=>?_)
          refine goes_ Try.func32 (by kernel_rfl) rfl #[.int .i64 (wrap64 ((wrap64 ((wrap64 (x1_1+1))+1))+1))] (by rfl) rfl rfl (by (try simp only [List.map_toArray,List.map_cons,List.map_nil]);first|done|rfl|(simp only [ld_,lt_];rfl)) ?_
          with_reducible refine (laws_markText.calls k1 (wrap64 ((wrap64 ((wrap64 (x1_1+1))+1))+1)) t296 _ A9.out).mono ?_
          rintro e w16 ⟨rfl,hb⟩
          refine ⟨_,rfl,?_⟩
          have n0_:=A_ (bp_ (by repeat (first|(with_reducible first|exact HB.out|apply ba_|apply pd_|apply b1_)|exact HB.out)) hb)
          clear HB
          have HB:=n0_
          clear n0_
          (try clear hb)
          (try clear hb2)
          (try clear hk)
          (try clear hi)
          refine hK.out _ _ ⟨((HB.out.cell (bl_ w _ hw295_0)).trans hw295_0),((HB.out.cell (bl_ w _ hw295_1)).trans hw295_1),((HB.out.cell (bl_ w _ hw295_2)).trans hw295_2),((HB.out.cell (bl_ w _ hw295_3)).trans hw295_3),((HB.out.cell (bl_ w _ hw295_4)).trans hw295_4),((HB.out.cell (bl_ w _ hw295_5)).trans hw295_5)⟩ (fun hHeld=>?_)
          clear hK K
          refine norm_ (a':=?_) ?_ ?_
          rotate_left
          ·show Act.put _ (some 46) _=_
           simp only [Act.put,ls_,lz_,lc_,i64_w,i32_w]
           rfl
          refine pure_ (i:=7) (N:=some 47) (v:=?_) (a':=?_) #[T_,T_,T_,T_,T_,T_,T_,T_] rfl rfl (any_of HT_.out (by kernel_rfl)) (fun _ _ _ h=>h) (Or.inl ⟨by rfl,?_⟩) ?_ ?_
          rotate_left
          ·intro w'
           go_simp
           with_reducible rfl
          rotate_left
          ·simp only [Act.put,ls_,lz_,lc_,i64_w,i32_w]
           rfl
          refine done_ (done_of HT_.out (by kernel_rfl)) ?_
          have p297:0≤(x5_1:Int):=od_ (by first|(with_reducible assumption)|assumption)
          have q297:x5_1<(l0.length:Int):=od_ (by first|(with_reducible assumption)|assumption)
          obtain ⟨ad297,A297_4,c297_4,A297_5,c297_5,e297,hx297_0,hx297_1,hx297_2,hx297_3,hx297_4,hx297_5,hl297_4,hi297_4,hl297_5,hi297_5⟩:=at_T28 HR0.out x5_1 p297 q297
          obtain rfl:ad291=ad297:=(by injection e297)
          try (have h_:=hx297_4.symm.trans hw295_4;injection h_ with h_;injection h_ with h1_ h3_ h2_;subst h1_;subst h2_)
          try (have h_:=hx297_5.symm.trans hw295_5;injection h_ with h_;injection h_ with h1_ h3_ h2_;subst h1_;subst h2_)
          replace hx297_0:=(HB.out.cell (bl_ w _ hx297_0)).trans hx297_0
          replace hx297_1:=(HB.out.cell (bl_ w _ hx297_1)).trans hx297_1
          replace hx297_2:=(HB.out.cell (bl_ w _ hx297_2)).trans hx297_2
          replace hx297_3:=(HB.out.cell (bl_ w _ hx297_3)).trans hx297_3
          replace hx297_4:=(HB.out.cell (bl_ w _ hx297_4)).trans hx297_4
          replace hx297_5:=(HB.out.cell (bl_ w _ hx297_5)).trans hx297_5
          have HR297_4:=A_ hi297_4
          have HC297_4:=A_ hl297_4
          clear hi297_4 hl297_4
          have HR297_5:=A_ hi297_5
          have HC297_5:=A_ hl297_5
          clear hi297_5 hl297_5
          replace p297:=eq_true p297
          replace q297:=eq_true q297
          try go_wp2_with (first|((with_reducible refine gate_callee (f:=34) rfl ?_);refine goesL_ (some 56) rfl rfl Try.func34 (by kernel_rfl) rfl #[.slice A297_4 ((rd_T28 l0 x5_1).f4).length c297_4,.int .i64 (wrap64 ((wrap64 ((wrap64 ((wrap64 (x1_1+1))+1))+1))+1))] rfl (by (try simp only [List.map_toArray,List.map_cons,List.map_nil]);first|done|rfl|(simp only [ld_,lt_];rfl)) ?_;(with_reducible refine (laws_heldAttrS.calls k1 _ _ ((rd_T28 l0 x5_1).f4) (wrap64 ((wrap64 ((wrap64 ((wrap64 (x1_1+1))+1))+1))+1)) t298 _ ?side1 ?side2 A11.out).mono ?_);(case side1=>repeat (first|exact (cb_ HR297_4.out HB.out)|(with_reducible refine ca_ ?_ _)|(with_reducible refine cn_ ?_ _)|(with_reducible refine cd_ ?_)));(case side2=>exact HC297_4.out);rintro e w17 ⟨rfl,hb⟩;refine ⟨_,rfl,?_⟩;have n0_:=A_ (bp_ (by repeat (first|(with_reducible first|exact HB.out|apply ba_|apply pd_|apply b1_)|exact HB.out)) hb);clear HB;have HB:=n0_;clear n0_;(try clear hb);(try clear hb2);(try clear hk);(try clear hi)))
          go_ret
          exact ⟨by first|rfl|(simp [errW_none,errW_some] <;> rfl)|(simp [*,errW_none,errW_some] <;> rfl),by repeat (first|(with_reducible first|exact HB.out|apply ba_|apply pd_|apply b1_)|exact HB.out)⟩
         ·rw [if_neg c12] at H
          have c12b0:decide (t298<0)=false:=df_ c12
          clear c12
          replace H:=ob_ H
          obtain ⟨t300,A180,H⟩:=H
          replace H:(if t300<0 then (some (-1)) else (laws_heldNodeS.l0 k1 l0 t300 (wrap64 (x5_1+1))))=some r:=H
          have A18:=A_ A180
          clear A180
          by_cases c19:t300<0
          ·rw [if_pos c19] at H
           have c19b0:decide (t300<0)=true:=dt_ c19
           clear c19
           obtain rfl:=oi_ H
           have p291:0≤(x5_1:Int):=od_ (by first|(with_reducible assumption)|assumption)
           have q291:x5_1<(l0.length:Int):=od_ (by first|(with_reducible assumption)|assumption)
           obtain ⟨ad291,A291_4,c291_4,A291_5,c291_5,e291,hx291_0,hx291_1,hx291_2,hx291_3,hx291_4,hx291_5,hl291_4,hi291_4,hl291_5,hi291_5⟩:=at_T28 HR0.out x5_1 p291 q291
           cases e291
           replace hx291_0:=(HB.out.cell (bl_ w _ hx291_0)).trans hx291_0
           replace hx291_1:=(HB.out.cell (bl_ w _ hx291_1)).trans hx291_1
           replace hx291_2:=(HB.out.cell (bl_ w _ hx291_2)).trans hx291_2
           replace hx291_3:=(HB.out.cell (bl_ w _ hx291_3)).trans hx291_3
           replace hx291_4:=(HB.out.cell (bl_ w _ hx291_4)).trans hx291_4
           replace hx291_5:=(HB.out.cell (bl_ w _ hx291_5)).trans hx291_5
           have HR291_4:=A_ hi291_4
           have HC291_4:=A_ hl291_4
           clear hi291_4 hl291_4
           have HR291_5:=A_ hi291_5
           have HC291_5:=A_ hl291_5
           clear hi291_5 hl291_5
           replace p291:=eq_true p291
           replace q291:=eq_true q291
           have p292:0≤(x5_1:Int):=od_ (by first|(with_reducible assumption)|assumption)
           have q292:x5_1<(l0.length:Int):=od_ (by first|(with_reducible assumption)|assumption)
           obtain ⟨ad292,A292_4,c292_4,A292_5,c292_5,e292,hx292_0,hx292_1,hx292_2,hx292_3,hx292_4,hx292_5,hl292_4,hi292_4,hl292_5,hi292_5⟩:=at_T28 HR0.out x5_1 p292 q292
           obtain rfl:ad291=ad292:=(by injection e292)
           try (have h_:=hx292_4.symm.trans hw290_4;injection h_ with h_;injection h_ with h1_ h3_ h2_;subst h1_;subst h2_)
           try (have h_:=hx292_5.symm.trans hw290_5;injection h_ with h_;injection h_ with h1_ h3_ h2_;subst h1_;subst h2_)
           replace hx292_0:=(HB.out.cell (bl_ w _ hx292_0)).trans hx292_0
           replace hx292_1:=(HB.out.cell (bl_ w _ hx292_1)).trans hx292_1
           replace hx292_2:=(HB.out.cell (bl_ w _ hx292_2)).trans hx292_2
           replace hx292_3:=(HB.out.cell (bl_ w _ hx292_3)).trans hx292_3
           replace hx292_4:=(HB.out.cell (bl_ w _ hx292_4)).trans hx292_4
           replace hx292_5:=(HB.out.cell (bl_ w _ hx292_5)).trans hx292_5
           have HR292_4:=A_ hi292_4
           have HC292_4:=A_ hl292_4
           clear hi292_4 hl292_4
           have HR292_5:=A_ hi292_5
           have HC292_5:=A_ hl292_5
           clear hi292_5 hl292_5
           replace p292:=eq_true p292
           replace q292:=eq_true q292
           have ea_:=oi_ (hx291_4.symm.trans hx292_4)
           injection ea_ with ea_ en_ ec_
           subst ea_
           subst ec_
           clear en_
           have ea_:=oi_ (hx291_5.symm.trans hx292_5)
           injection ea_ with ea_ en_ ec_
           subst ea_
           subst ec_
           clear en_
           try go_wp2
           have n0_:=A_ (b1_ HB.out)
           clear HB
           have HB:=n0_
           clear n0_
           have p293:0≤(x5_1:Int):=od_ (by first|(with_reducible assumption)|assumption)
           have q293:x5_1<(l0.length:Int):=od_ (by first|(with_reducible assumption)|assumption)
           obtain ⟨ad293,A293_4,c293_4,A293_5,c293_5,e293,hx293_0,hx293_1,hx293_2,hx293_3,hx293_4,hx293_5,hl293_4,hi293_4,hl293_5,hi293_5⟩:=at_T28 HR0.out x5_1 p293 q293
           have hw293_5:=hx293_5
           have hw293_4:=hx293_4
           have hw293_3:=hx293_3
           have hw293_2:=hx293_2
           have hw293_1:=hx293_1
           have hw293_0:=hx293_0
           obtain rfl:ad291=ad293:=(by injection e293)
           try (have h_:=hx293_4.symm.trans hw291_4;injection h_ with h_;injection h_ with h1_ h3_ h2_;subst h1_;subst h2_)
           try (have h_:=hx293_5.symm.trans hw291_5;injection h_ with h_;injection h_ with h1_ h3_ h2_;subst h1_;subst h2_)
           replace hx293_0:=(HB.out.cell (bl_ w _ hx293_0)).trans hx293_0
           replace hx293_1:=(HB.out.cell (bl_ w _ hx293_1)).trans hx293_1
           replace hx293_2:=(HB.out.cell (bl_ w _ hx293_2)).trans hx293_2
           replace hx293_3:=(HB.out.cell (bl_ w _ hx293_3)).trans hx293_3
           replace hx293_4:=(HB.out.cell (bl_ w _ hx293_4)).trans hx293_4
           replace hx293_5:=(HB.out.cell (bl_ w _ hx293_5)).trans hx293_5
           have HR293_4:=A_ hi293_4
           have HC293_4:=A_ hl293_4
           clear hi293_4 hl293_4
           have HR293_5:=A_ hi293_5
           have HC293_5:=A_ hl293_5
           clear hi293_5 hl293_5
           replace p293:=eq_true p293
           replace q293:=eq_true q293
           refine start_ (n:=8) (S:=fun w'=>w'.cell? (ad291.add ((x5_1).toNat * 6))=some (.int .i64 ((rd_T28 l0 x5_1).f0))∧w'.cell? ⟨(ad291.add ((x5_1).toNat * 6)).block,(ad291.add ((x5_1).toNat * 6)).off+1,none⟩=some (.int .i64 ((rd_T28 l0 x5_1).f1))∧w'.cell? ⟨(ad291.add ((x5_1).toNat * 6)).block,(ad291.add ((x5_1).toNat * 6)).off+2,none⟩=some (.string ((rd_T28 l0 x5_1).f2))∧w'.cell? ⟨(ad291.add ((x5_1).toNat * 6)).block,(ad291.add ((x5_1).toNat * 6)).off+3,none⟩=some (.string ((rd_T28 l0 x5_1).f3))∧w'.cell? ⟨(ad291.add ((x5_1).toNat * 6)).block,(ad291.add ((x5_1).toNat * 6)).off+4,none⟩=some (.slice A293_4 ((rd_T28 l0 x5_1).f4).length c293_4)∧w'.cell? ⟨(ad291.add ((x5_1).toNat * 6)).block,(ad291.add ((x5_1).toNat * 6)).off+5,none⟩=some (.slice A293_5 ((rd_T28 l0 x5_1).f5).length c293_5)) (ds:=[]) #[F_,F_,F_,F_,F_,F_,F_,F_] (by kernel_rfl) rfl rfl ⟨((HB.out.cell (bl_ w _ hw293_0)).trans hw293_0),((HB.out.cell (bl_ w _ hw293_1)).trans hw293_1),((HB.out.cell (bl_ w _ hw293_2)).trans hw293_2),((HB.out.cell (bl_ w _ hw293_3)).trans hw293_3),((HB.out.cell (bl_ w _ hw293_4)).trans hw293_4),((HB.out.cell (bl_ w _ hw293_5)).trans hw293_5)⟩ (fun hHeld=>?_);refine with_tabW laws_heldNodeS.tab10 laws_heldNodeS.bits10 (fun HT_ HW_=>?_)
           generalize wr.drew=w20 at HB HR293_4 HR293_5 hx293_0 hx293_1 hx293_2 hx293_3 hx293_4 hx293_5 hHeld ⊢
           refine pure_ (i:=0) (N:=some 30) (v:=?_) (a':=?_) #[T_,F_,F_,F_,F_,F_,F_,F_] rfl rfl (any_of HT_.out (by kernel_rfl)) (fun _ _ _ h=>h) (Or.inl ⟨by rfl,?_⟩) ?_ ?_
           rotate_left
           ·intro w'
            go_simp
            with_reducible rfl
           rotate_left
           ·simp only [Act.put,ls_,lz_,lc_,i64_w,i32_w]
            rfl
           refine pure_ (i:=1) (N:=some 31) (v:=?_) (a':=?_) #[T_,T_,F_,F_,F_,F_,F_,F_] rfl rfl (any_of HT_.out (by kernel_rfl)) (fun _ _ _ h=>h) (Or.inl ⟨by rfl,?_⟩) ?_ ?_
           rotate_left
           ·intro w'
            go_simp
            with_reducible rfl
           rotate_left
           ·simp only [Act.put,ls_,lz_,lc_,i64_w,i32_w]
            rfl
           refine pure_ (i:=2) (N:=some 32) (v:=?_) (a':=?_) #[T_,T_,T_,F_,F_,F_,F_,F_] rfl rfl (any_of HT_.out (by kernel_rfl)) (fun _ _ _ h=>h) (Or.inl ⟨by rfl,?_⟩) ?_ ?_
           rotate_left
           ·intro w'
            go_simp
            with_reducible rfl
           rotate_left
           ·simp only [Act.put,ls_,lz_,lc_,i64_w,i32_w]
            rfl
           refine pure_ (i:=3) (N:=some 33) (v:=?_) (a':=?_) #[T_,T_,T_,T_,F_,F_,F_,F_] rfl rfl (any_of HT_.out (by kernel_rfl)) (fun _ _ _ h=>h) (Or.inl ⟨by rfl,?_⟩) ?_ ?_
           rotate_left
           ·intro w'
            go_simp
            with_reducible rfl
           rotate_left
           ·simp only [Act.put,ls_,lz_,lc_,i64_w,i32_w]
            rfl
           refine pure_ (i:=5) (N:=some 35) (v:=?_) (a':=?_) #[T_,T_,T_,T_,F_,T_,F_,F_] rfl rfl (any_of HT_.out (by kernel_rfl)) (fun _ _ _ h=>h) (Or.inl ⟨by rfl,?_⟩) ?_ ?_
           rotate_left
           ·intro w'
            go_simp
            with_reducible rfl
           rotate_left
           ·simp only [Act.put,ls_,lz_,lc_,i64_w,i32_w]
            rfl
           refine take_ (i:=4) (N:=some 34) (v:=?_) (a':=?_) #[T_,T_,T_,T_,T_,T_,F_,F_] rfl rfl (take_ofW HT_.out HW_.out (by kernel_rfl)) (fun _ _ _ h=>h) (Or.inl ⟨by rfl,?_⟩) hHeld ?_ ?_
           rotate_left
           ·rintro w' ⟨s0,s1,s2,s3,s4,s5⟩
            go_simp
            with_reducible rfl
           rotate_left
           ·simp only [Act.put,ls_,lz_,lc_,i64_w,i32_w]
            rfl
           refine one_ (i:=6) (N:=some 36) #[T_,T_,T_,T_,T_,T_,T_,F_] rfl rfl (one_of HT_.out (by kernel_rfl)) (by decide) (fun K hK=>?_)
           refine goes_ Try.func32 (by kernel_rfl) rfl #[.int .i64 (wrap64 ((wrap64 (x1_1+1))+1))] (by rfl) rfl rfl (by (try simp only [List.map_toArray,List.map_cons,List.map_nil]);first|done|rfl|(simp only [ld_,lt_];rfl)) ?_
           with_reducible refine (laws_markText.calls k1 (wrap64 ((wrap64 (x1_1+1))+1)) t294 _ A7.out).mono ?_
           rintro e w21 ⟨rfl,hb⟩
           refine ⟨_,rfl,?_⟩
           have n0_:=A_ (bp_ (by repeat (first|(with_reducible first|exact HB.out|apply ba_|apply pd_|apply b1_)|exact HB.out)) hb)
           clear HB
           have HB:=n0_
           clear n0_
           (try clear hb)
           (try clear hb2)
           (try clear hk)
           (try clear hi)
           refine hK.out _ _ ⟨((HB.out.cell (bl_ w _ hw293_0)).trans hw293_0),((HB.out.cell (bl_ w _ hw293_1)).trans hw293_1),((HB.out.cell (bl_ w _ hw293_2)).trans hw293_2),((HB.out.cell (bl_ w _ hw293_3)).trans hw293_3),((HB.out.cell (bl_ w _ hw293_4)).trans hw293_4),((HB.out.cell (bl_ w _ hw293_5)).trans hw293_5)⟩ (fun hHeld=>?_)
           clear hK K
           refine norm_ (a':=?_) ?_ ?_
           rotate_left
           ·show Act.put _ (some 36) _=_
            simp only [Act.put,ls_,lz_,lc_,i64_w,i32_w]
            rfl
           refine pure_ (i:=7) (N:=some 37) (v:=?_) (a':=?_) #[T_,T_,T_,T_,T_,T_,T_,T_] rfl rfl (any_of HT_.out (by kernel_rfl)) (fun _ _ _ h=>h) (Or.inl ⟨by rfl,?_⟩) ?_ ?_
           rotate_left
           ·intro w'
            go_simp
            with_reducible rfl
           rotate_left
           ·simp only [Act.put,ls_,lz_,lc_,i64_w,i32_w]
            rfl
           refine done_ (done_of HT_.out (by kernel_rfl)) ?_
           try go_wp2
           have n0_:=A_ (b1_ HB.out)
           clear HB
           have HB:=n0_
           clear n0_
           have p295:0≤(x5_1:Int):=od_ (by first|(with_reducible assumption)|assumption)
           have q295:x5_1<(l0.length:Int):=od_ (by first|(with_reducible assumption)|assumption)
           obtain ⟨ad295,A295_4,c295_4,A295_5,c295_5,e295,hx295_0,hx295_1,hx295_2,hx295_3,hx295_4,hx295_5,hl295_4,hi295_4,hl295_5,hi295_5⟩:=at_T28 HR0.out x5_1 p295 q295
           have hw295_5:=hx295_5
           have hw295_4:=hx295_4
           have hw295_3:=hx295_3
           have hw295_2:=hx295_2
           have hw295_1:=hx295_1
           have hw295_0:=hx295_0
           obtain rfl:ad291=ad295:=(by injection e295)
           try (have h_:=hx295_4.symm.trans hw293_4;injection h_ with h_;injection h_ with h1_ h3_ h2_;subst h1_;subst h2_)
           try (have h_:=hx295_5.symm.trans hw293_5;injection h_ with h_;injection h_ with h1_ h3_ h2_;subst h1_;subst h2_)
           replace hx295_0:=(HB.out.cell (bl_ w _ hx295_0)).trans hx295_0
           replace hx295_1:=(HB.out.cell (bl_ w _ hx295_1)).trans hx295_1
           replace hx295_2:=(HB.out.cell (bl_ w _ hx295_2)).trans hx295_2
           replace hx295_3:=(HB.out.cell (bl_ w _ hx295_3)).trans hx295_3
           replace hx295_4:=(HB.out.cell (bl_ w _ hx295_4)).trans hx295_4
           replace hx295_5:=(HB.out.cell (bl_ w _ hx295_5)).trans hx295_5
           have HR295_4:=A_ hi295_4
           have HC295_4:=A_ hl295_4
           clear hi295_4 hl295_4
           have HR295_5:=A_ hi295_5
           have HC295_5:=A_ hl295_5
           clear hi295_5 hl295_5
           replace p295:=eq_true p295
           replace q295:=eq_true q295
           refine start_ (n:=8) (S:=fun w'=>w'.cell? (ad291.add ((x5_1).toNat * 6))=some (.int .i64 ((rd_T28 l0 x5_1).f0))∧w'.cell? ⟨(ad291.add ((x5_1).toNat * 6)).block,(ad291.add ((x5_1).toNat * 6)).off+1,none⟩=some (.int .i64 ((rd_T28 l0 x5_1).f1))∧w'.cell? ⟨(ad291.add ((x5_1).toNat * 6)).block,(ad291.add ((x5_1).toNat * 6)).off+2,none⟩=some (.string ((rd_T28 l0 x5_1).f2))∧w'.cell? ⟨(ad291.add ((x5_1).toNat * 6)).block,(ad291.add ((x5_1).toNat * 6)).off+3,none⟩=some (.string ((rd_T28 l0 x5_1).f3))∧w'.cell? ⟨(ad291.add ((x5_1).toNat * 6)).block,(ad291.add ((x5_1).toNat * 6)).off+4,none⟩=some (.slice A295_4 ((rd_T28 l0 x5_1).f4).length c295_4)∧w'.cell? ⟨(ad291.add ((x5_1).toNat * 6)).block,(ad291.add ((x5_1).toNat * 6)).off+5,none⟩=some (.slice A295_5 ((rd_T28 l0 x5_1).f5).length c295_5)) (ds:=[]) #[F_,F_,F_,F_,F_,F_,F_,F_] (by kernel_rfl) rfl rfl ⟨((HB.out.cell (bl_ w _ hw295_0)).trans hw295_0),((HB.out.cell (bl_ w _ hw295_1)).trans hw295_1),((HB.out.cell (bl_ w _ hw295_2)).trans hw295_2),((HB.out.cell (bl_ w _ hw295_3)).trans hw295_3),((HB.out.cell (bl_ w _ hw295_4)).trans hw295_4),((HB.out.cell (bl_ w _ hw295_5)).trans hw295_5)⟩ (fun hHeld=>?_);refine with_tabW laws_heldNodeS.tab13 laws_heldNodeS.bits13 (fun HT_ HW_=>?_)
           generalize w21.drew=w22 at HB HR295_4 HR295_5 hx295_0 hx295_1 hx295_2 hx295_3 hx295_4 hx295_5 hHeld ⊢
           refine pure_ (i:=0) (N:=some 40) (v:=?_) (a':=?_) #[T_,F_,F_,F_,F_,F_,F_,F_] rfl rfl (any_of HT_.out (by kernel_rfl)) (fun _ _ _ h=>h) (Or.inl ⟨by rfl,?_⟩) ?_ ?_
           rotate_left
           ·intro w'
            go_simp
            with_reducible rfl
           rotate_left
           ·simp only [Act.put,ls_,lz_,lc_,i64_w,i32_w]
            rfl
           refine pure_ (i:=1) (N:=some 41) (v:=?_) (a':=?_) #[T_,T_,F_,F_,F_,F_,F_,F_] rfl rfl (any_of HT_.out (by kernel_rfl)) (fun _ _ _ h=>h) (Or.inl ⟨by rfl,?_⟩) ?_ ?_
           rotate_left
           ·intro w'
            go_simp
            with_reducible rfl
           rotate_left
           ·simp only [Act.put,ls_,lz_,lc_,i64_w,i32_w]
            rfl
           refine pure_ (i:=2) (N:=some 42) (v:=?_) (a':=?_) #[T_,T_,T_,F_,F_,F_,F_,F_] rfl rfl (any_of HT_.out (by kernel_rfl)) (fun _ _ _ h=>h) (Or.inl ⟨by rfl,?_⟩) ?_ ?_
           rotate_left
           ·intro w'
            go_simp
            with_reducible rfl
           rotate_left
           ·simp only [Act.put,ls_,lz_,lc_,i64_w,i32_w]
            rfl
           refine pure_ (i:=3) (N:=some 43) (v:=?_) (a':=?_) #[T_,T_,T_,T_,F_,F_,F_,F_] rfl rfl (any_of HT_.out (by kernel_rfl)) (fun _ _ _ h=>h) (Or.inl ⟨by rfl,?_⟩) ?_ ?_
           rotate_left
           ·intro w'
            go_simp
            with_reducible rfl
           rotate_left
           ·simp only [Act.put,ls_,lz_,lc_,i64_w,i32_w]
            rfl
           refine pure_ (i:=5) (N:=some 45) (v:=?_) (a':=?_) #[T_,T_,T_,T_,F_,T_,F_,F_] rfl rfl (any_of HT_.out (by kernel_rfl)) (fun _ _ _ h=>h) (Or.inl ⟨by rfl,?_⟩) ?_ ?_
           rotate_left
           ·intro w'
            go_simp
            with_reducible rfl
           rotate_left
           ·simp only [Act.put,ls_,lz_,lc_,i64_w,i32_w]
            rfl
           refine take_ (i:=4) (N:=some 44) (v:=?_) (a':=?_) #[T_,T_,T_,T_,T_,T_,F_,F_] rfl rfl (take_ofW HT_.out HW_.out (by kernel_rfl)) (fun _ _ _ h=>h) (Or.inl ⟨by rfl,?_⟩) hHeld ?_ ?_
           rotate_left
           ·rintro w' ⟨s0,s1,s2,s3,s4,s5⟩
            go_simp
            with_reducible rfl
           rotate_left
           ·simp only [Act.put,ls_,lz_,lc_,i64_w,i32_w]
            rfl
           refine one_ (i:=6) (N:=some 46) #[T_,T_,T_,T_,T_,T_,T_,F_] rfl rfl (one_of HT_.out (by kernel_rfl)) (by decide) (fun K hK=>?_)
           refine goes_ Try.func32 (by kernel_rfl) rfl #[.int .i64 (wrap64 ((wrap64 ((wrap64 (x1_1+1))+1))+1))] (by rfl) rfl rfl (by (try simp only [List.map_toArray,List.map_cons,List.map_nil]);first|done|rfl|(simp only [ld_,lt_];rfl)) ?_
           with_reducible refine (laws_markText.calls k1 (wrap64 ((wrap64 ((wrap64 (x1_1+1))+1))+1)) t296 _ A9.out).mono ?_
           rintro e w23 ⟨rfl,hb⟩
           refine ⟨_,rfl,?_⟩
           have n0_:=A_ (bp_ (by repeat (first|(with_reducible first|exact HB.out|apply ba_|apply pd_|apply b1_)|exact HB.out)) hb)
           clear HB
           have HB:=n0_
           clear n0_
           (try clear hb)
           (try clear hb2)
           (try clear hk)
           (try clear hi)
           refine hK.out _ _ ⟨((HB.out.cell (bl_ w _ hw295_0)).trans hw295_0),((HB.out.cell (bl_ w _ hw295_1)).trans hw295_1),((HB.out.cell (bl_ w _ hw295_2)).trans hw295_2),((HB.out.cell (bl_ w _ hw295_3)).trans hw295_3),((HB.out.cell (bl_ w _ hw295_4)).trans hw295_4),((HB.out.cell (bl_ w _ hw295_5)).trans hw295_5)⟩ (fun hHeld=>?_)
           clear hK K
           refine norm_ (a':=?_) ?_ ?_
           rotate_left
           ·show Act.put _ (some 46) _=_
            simp only [Act.put,ls_,lz_,lc_,i64_w,i32_w]
            rfl
           refine pure_ (i:=7) (N:=some 47) (v:=?_) (a':=?_) #[T_,T_,T_,T_,T_,T_,T_,T_] rfl rfl (any_of HT_.out (by kernel_rfl)) (fun _ _ _ h=>h) (Or.inl ⟨by rfl,?_⟩) ?_ ?_
           rotate_left
           ·intro w'
            go_simp
            with_reducible rfl
           rotate_left
           ·simp only [Act.put,ls_,lz_,lc_,i64_w,i32_w]
            rfl
           refine done_ (done_of HT_.out (by kernel_rfl)) ?_
           have p297:0≤(x5_1:Int):=od_ (by first|(with_reducible assumption)|assumption)
           have q297:x5_1<(l0.length:Int):=od_ (by first|(with_reducible assumption)|assumption)
           obtain ⟨ad297,A297_4,c297_4,A297_5,c297_5,e297,hx297_0,hx297_1,hx297_2,hx297_3,hx297_4,hx297_5,hl297_4,hi297_4,hl297_5,hi297_5⟩:=at_T28 HR0.out x5_1 p297 q297
           obtain rfl:ad291=ad297:=(by injection e297)
           try (have h_:=hx297_4.symm.trans hw295_4;injection h_ with h_;injection h_ with h1_ h3_ h2_;subst h1_;subst h2_)
           try (have h_:=hx297_5.symm.trans hw295_5;injection h_ with h_;injection h_ with h1_ h3_ h2_;subst h1_;subst h2_)
           replace hx297_0:=(HB.out.cell (bl_ w _ hx297_0)).trans hx297_0
           replace hx297_1:=(HB.out.cell (bl_ w _ hx297_1)).trans hx297_1
           replace hx297_2:=(HB.out.cell (bl_ w _ hx297_2)).trans hx297_2
           replace hx297_3:=(HB.out.cell (bl_ w _ hx297_3)).trans hx297_3
           replace hx297_4:=(HB.out.cell (bl_ w _ hx297_4)).trans hx297_4
           replace hx297_5:=(HB.out.cell (bl_ w _ hx297_5)).trans hx297_5
           have HR297_4:=A_ hi297_4
           have HC297_4:=A_ hl297_4
           clear hi297_4 hl297_4
           have HR297_5:=A_ hi297_5
           have HC297_5:=A_ hl297_5
           clear hi297_5 hl297_5
           replace p297:=eq_true p297
           replace q297:=eq_true q297
           try go_wp2_with (first|((with_reducible refine gate_callee (f:=34) rfl ?_);refine goesL_ (some 56) rfl rfl Try.func34 (by kernel_rfl) rfl #[.slice A297_4 ((rd_T28 l0 x5_1).f4).length c297_4,.int .i64 (wrap64 ((wrap64 ((wrap64 ((wrap64 (x1_1+1))+1))+1))+1))] rfl (by (try simp only [List.map_toArray,List.map_cons,List.map_nil]);first|done|rfl|(simp only [ld_,lt_];rfl)) ?_;(with_reducible refine (laws_heldAttrS.calls k1 _ _ ((rd_T28 l0 x5_1).f4) (wrap64 ((wrap64 ((wrap64 ((wrap64 (x1_1+1))+1))+1))+1)) t298 _ ?side1 ?side2 A11.out).mono ?_);(case side1=>repeat (first|exact (cb_ HR297_4.out HB.out)|(with_reducible refine ca_ ?_ _)|(with_reducible refine cn_ ?_ _)|(with_reducible refine cd_ ?_)));(case side2=>exact HC297_4.out);rintro e w24 ⟨rfl,hb⟩;refine ⟨_,rfl,?_⟩;have n0_:=A_ (bp_ (by repeat (first|(with_reducible first|exact HB.out|apply ba_|apply pd_|apply b1_)|exact HB.out)) hb);clear HB;have HB:=n0_;clear n0_;(try clear hb);(try clear hb2);(try clear hk);(try clear hi);have p299:0≤(x5_1:Int):=od_ (by first|(with_reducible assumption)|assumption);have q299:x5_1<(l0.length:Int):=od_ (by first|(with_reducible assumption)|assumption);obtain ⟨ad299,A299_4,c299_4,A299_5,c299_5,e299,hx299_0,hx299_1,hx299_2,hx299_3,hx299_4,hx299_5,hl299_4,hi299_4,hl299_5,hi299_5⟩:=at_T28 HR0.out x5_1 p299 q299;obtain rfl:ad291=ad299:=(by injection e299);replace hx299_0:=(HB.out.cell (bl_ w _ hx299_0)).trans hx299_0;replace hx299_1:=(HB.out.cell (bl_ w _ hx299_1)).trans hx299_1;replace hx299_2:=(HB.out.cell (bl_ w _ hx299_2)).trans hx299_2;replace hx299_3:=(HB.out.cell (bl_ w _ hx299_3)).trans hx299_3;replace hx299_4:=(HB.out.cell (bl_ w _ hx299_4)).trans hx299_4;replace hx299_5:=(HB.out.cell (bl_ w _ hx299_5)).trans hx299_5;have HR299_4:=A_ hi299_4;have HC299_4:=A_ hl299_4;clear hi299_4 hl299_4;have HR299_5:=A_ hi299_5;have HC299_5:=A_ hl299_5;clear hi299_5 hl299_5;replace p299:=eq_true p299;replace q299:=eq_true q299)|((with_reducible refine gate_callee (f:=20) rfl ?_);refine goesL_ (some 65) rfl rfl Try.func20 (by kernel_rfl) rfl #[.slice A299_5 ((rd_T28 l0 x5_1).f5).length c299_5,.int .i64 t298] rfl (by (try simp only [List.map_toArray,List.map_cons,List.map_nil]);first|done|rfl|(simp only [ld_,lt_];rfl)) ?_;(with_reducible refine (ih k1 (by have:=HK1.out;omega) _ _ ((rd_T28 l0 x5_1).f5) t298 t300 _ ?side1 ?side2 A18.out).mono ?_);(case side1=>repeat (first|exact (cb_ HR299_5.out HB.out)|(with_reducible refine ca_ ?_ _)|(with_reducible refine cn_ ?_ _)|(with_reducible refine cd_ ?_)));(case side2=>exact HC299_5.out);rintro e w25 ⟨rfl,hb⟩;refine ⟨_,rfl,?_⟩;have n0_:=A_ (bp_ (by repeat (first|(with_reducible first|exact HB.out|apply ba_|apply pd_|apply b1_)|exact HB.out)) hb);clear HB;have HB:=n0_;clear n0_;(try clear hb);(try clear hb2);(try clear hk);(try clear hi)))
           go_ret
           exact ⟨by first|rfl|(simp [errW_none,errW_some] <;> rfl)|(simp [*,errW_none,errW_some] <;> rfl),by repeat (first|(with_reducible first|exact HB.out|apply ba_|apply pd_|apply b1_)|exact HB.out)⟩
          ·rw [if_neg c19] at H
           have c19b0:decide (t300<0)=false:=df_ c19
           clear c19
           have H':=A_ H
           clear H
           have p291:0≤(x5_1:Int):=od_ (by first|(with_reducible assumption)|assumption)
           have q291:x5_1<(l0.length:Int):=od_ (by first|(with_reducible assumption)|assumption)
           obtain ⟨ad291,A291_4,c291_4,A291_5,c291_5,e291,hx291_0,hx291_1,hx291_2,hx291_3,hx291_4,hx291_5,hl291_4,hi291_4,hl291_5,hi291_5⟩:=at_T28 HR0.out x5_1 p291 q291
           cases e291
           replace hx291_0:=(HB.out.cell (bl_ w _ hx291_0)).trans hx291_0
           replace hx291_1:=(HB.out.cell (bl_ w _ hx291_1)).trans hx291_1
           replace hx291_2:=(HB.out.cell (bl_ w _ hx291_2)).trans hx291_2
           replace hx291_3:=(HB.out.cell (bl_ w _ hx291_3)).trans hx291_3
           replace hx291_4:=(HB.out.cell (bl_ w _ hx291_4)).trans hx291_4
           replace hx291_5:=(HB.out.cell (bl_ w _ hx291_5)).trans hx291_5
           have HR291_4:=A_ hi291_4
           have HC291_4:=A_ hl291_4
           clear hi291_4 hl291_4
           have HR291_5:=A_ hi291_5
           have HC291_5:=A_ hl291_5
           clear hi291_5 hl291_5
           replace p291:=eq_true p291
           replace q291:=eq_true q291
           have p292:0≤(x5_1:Int):=od_ (by first|(with_reducible assumption)|assumption)
           have q292:x5_1<(l0.length:Int):=od_ (by first|(with_reducible assumption)|assumption)
           obtain ⟨ad292,A292_4,c292_4,A292_5,c292_5,e292,hx292_0,hx292_1,hx292_2,hx292_3,hx292_4,hx292_5,hl292_4,hi292_4,hl292_5,hi292_5⟩:=at_T28 HR0.out x5_1 p292 q292
           obtain rfl:ad291=ad292:=(by injection e292)
           try (have h_:=hx292_4.symm.trans hw290_4;injection h_ with h_;injection h_ with h1_ h3_ h2_;subst h1_;subst h2_)
           try (have h_:=hx292_5.symm.trans hw290_5;injection h_ with h_;injection h_ with h1_ h3_ h2_;subst h1_;subst h2_)
           replace hx292_0:=(HB.out.cell (bl_ w _ hx292_0)).trans hx292_0
           replace hx292_1:=(HB.out.cell (bl_ w _ hx292_1)).trans hx292_1
           replace hx292_2:=(HB.out.cell (bl_ w _ hx292_2)).trans hx292_2
           replace hx292_3:=(HB.out.cell (bl_ w _ hx292_3)).trans hx292_3
           replace hx292_4:=(HB.out.cell (bl_ w _ hx292_4)).trans hx292_4
           replace hx292_5:=(HB.out.cell (bl_ w _ hx292_5)).trans hx292_5
           have HR292_4:=A_ hi292_4
           have HC292_4:=A_ hl292_4
           clear hi292_4 hl292_4
           have HR292_5:=A_ hi292_5
           have HC292_5:=A_ hl292_5
           clear hi292_5 hl292_5
           replace p292:=eq_true p292
           replace q292:=eq_true q292
           have ea_:=oi_ (hx291_4.symm.trans hx292_4)
           injection ea_ with ea_ en_ ec_
           subst ea_
           subst ec_
           clear en_
           have ea_:=oi_ (hx291_5.symm.trans hx292_5)
           injection ea_ with ea_ en_ ec_
           subst ea_
           subst ec_
           clear en_
           try go_wp2
           have n0_:=A_ (b1_ HB.out)
           clear HB
           have HB:=n0_
           clear n0_
           have p293:0≤(x5_1:Int):=od_ (by first|(with_reducible assumption)|assumption)
           have q293:x5_1<(l0.length:Int):=od_ (by first|(with_reducible assumption)|assumption)
           obtain ⟨ad293,A293_4,c293_4,A293_5,c293_5,e293,hx293_0,hx293_1,hx293_2,hx293_3,hx293_4,hx293_5,hl293_4,hi293_4,hl293_5,hi293_5⟩:=at_T28 HR0.out x5_1 p293 q293
           have hw293_5:=hx293_5
           have hw293_4:=hx293_4
           have hw293_3:=hx293_3
           have hw293_2:=hx293_2
           have hw293_1:=hx293_1
           have hw293_0:=hx293_0
           obtain rfl:ad291=ad293:=(by injection e293)
           try (have h_:=hx293_4.symm.trans hw291_4;injection h_ with h_;injection h_ with h1_ h3_ h2_;subst h1_;subst h2_)
           try (have h_:=hx293_5.symm.trans hw291_5;injection h_ with h_;injection h_ with h1_ h3_ h2_;subst h1_;subst h2_)
           replace hx293_0:=(HB.out.cell (bl_ w _ hx293_0)).trans hx293_0
           replace hx293_1:=(HB.out.cell (bl_ w _ hx293_1)).trans hx293_1
           replace hx293_2:=(HB.out.cell (bl_ w _ hx293_2)).trans hx293_2
           replace hx293_3:=(HB.out.cell (bl_ w _ hx293_3)).trans hx293_3
           replace hx293_4:=(HB.out.cell (bl_ w _ hx293_4)).trans hx293_4
           replace hx293_5:=(HB.out.cell (bl_ w _ hx293_5)).trans hx293_5
           have HR293_4:=A_ hi293_4
           have HC293_4:=A_ hl293_4
           clear hi293_4 hl293_4
           have HR293_5:=A_ hi293_5
           have HC293_5:=A_ hl293_5
           clear hi293_5 hl293_5
           replace p293:=eq_true p293
           replace q293:=eq_true q293
           refine start_ (n:=8) (S:=fun w'=>w'.cell? (ad291.add ((x5_1).toNat * 6))=some (.int .i64 ((rd_T28 l0 x5_1).f0))∧w'.cell? ⟨(ad291.add ((x5_1).toNat * 6)).block,(ad291.add ((x5_1).toNat * 6)).off+1,none⟩=some (.int .i64 ((rd_T28 l0 x5_1).f1))∧w'.cell? ⟨(ad291.add ((x5_1).toNat * 6)).block,(ad291.add ((x5_1).toNat * 6)).off+2,none⟩=some (.string ((rd_T28 l0 x5_1).f2))∧w'.cell? ⟨(ad291.add ((x5_1).toNat * 6)).block,(ad291.add ((x5_1).toNat * 6)).off+3,none⟩=some (.string ((rd_T28 l0 x5_1).f3))∧w'.cell? ⟨(ad291.add ((x5_1).toNat * 6)).block,(ad291.add ((x5_1).toNat * 6)).off+4,none⟩=some (.slice A293_4 ((rd_T28 l0 x5_1).f4).length c293_4)∧w'.cell? ⟨(ad291.add ((x5_1).toNat * 6)).block,(ad291.add ((x5_1).toNat * 6)).off+5,none⟩=some (.slice A293_5 ((rd_T28 l0 x5_1).f5).length c293_5)) (ds:=[]) #[F_,F_,F_,F_,F_,F_,F_,F_] (by kernel_rfl) rfl rfl ⟨((HB.out.cell (bl_ w _ hw293_0)).trans hw293_0),((HB.out.cell (bl_ w _ hw293_1)).trans hw293_1),((HB.out.cell (bl_ w _ hw293_2)).trans hw293_2),((HB.out.cell (bl_ w _ hw293_3)).trans hw293_3),((HB.out.cell (bl_ w _ hw293_4)).trans hw293_4),((HB.out.cell (bl_ w _ hw293_5)).trans hw293_5)⟩ (fun hHeld=>?_);refine with_tabW laws_heldNodeS.tab10 laws_heldNodeS.bits10 (fun HT_ HW_=>?_)
           generalize wr.drew=w26 at HB HR293_4 HR293_5 hx293_0 hx293_1 hx293_2 hx293_3 hx293_4 hx293_5 hHeld ⊢
           refine pure_ (i:=0) (N:=some 30) (v:=?_) (a':=?_) #[T_,F_,F_,F_,F_,F_,F_,F_] rfl rfl (any_of HT_.out (by kernel_rfl)) (fun _ _ _ h=>h) (Or.inl ⟨by rfl,?_⟩) ?_ ?_
           rotate_left
           ·intro w'
            go_simp
            with_reducible rfl
           rotate_left
           ·simp only [Act.put,ls_,lz_,lc_,i64_w,i32_w]
            rfl
           refine pure_ (i:=1) (N:=some 31) (v:=?_) (a':=?_) #[T_,T_,F_,F_,F_,F_,F_,F_] rfl rfl (any_of HT_.out (by kernel_rfl)) (fun _ _ _ h=>h) (Or.inl ⟨by rfl,?_⟩) ?_ ?_
           rotate_left
           ·intro w'
            go_simp
            with_reducible rfl
           rotate_left
           ·simp only [Act.put,ls_,lz_,lc_,i64_w,i32_w]
            rfl
           refine pure_ (i:=2) (N:=some 32) (v:=?_) (a':=?_) #[T_,T_,T_,F_,F_,F_,F_,F_] rfl rfl (any_of HT_.out (by kernel_rfl)) (fun _ _ _ h=>h) (Or.inl ⟨by rfl,?_⟩) ?_ ?_
           rotate_left
           ·intro w'
            go_simp
            with_reducible rfl
           rotate_left
           ·simp only [Act.put,ls_,lz_,lc_,i64_w,i32_w]
            rfl
           refine pure_ (i:=3) (N:=some 33) (v:=?_) (a':=?_) #[T_,T_,T_,T_,F_,F_,F_,F_] rfl rfl (any_of HT_.out (by kernel_rfl)) (fun _ _ _ h=>h) (Or.inl ⟨by rfl,?_⟩) ?_ ?_
           rotate_left
           ·intro w'
            go_simp
            with_reducible rfl
           rotate_left
           ·simp only [Act.put,ls_,lz_,lc_,i64_w,i32_w]
            rfl
           refine pure_ (i:=5) (N:=some 35) (v:=?_) (a':=?_) #[T_,T_,T_,T_,F_,T_,F_,F_] rfl rfl (any_of HT_.out (by kernel_rfl)) (fun _ _ _ h=>h) (Or.inl ⟨by rfl,?_⟩) ?_ ?_
           rotate_left
           ·intro w'
            go_simp
            with_reducible rfl
           rotate_left
           ·simp only [Act.put,ls_,lz_,lc_,i64_w,i32_w]
            rfl
           refine take_ (i:=4) (N:=some 34) (v:=?_) (a':=?_) #[T_,T_,T_,T_,T_,T_,F_,F_] rfl rfl (take_ofW HT_.out HW_.out (by kernel_rfl)) (fun _ _ _ h=>h) (Or.inl ⟨by rfl,?_⟩) hHeld ?_ ?_
           rotate_left
           ·rintro w' ⟨s0,s1,s2,s3,s4,s5⟩
            go_simp
            with_reducible rfl
           rotate_left
           ·simp only [Act.put,ls_,lz_,lc_,i64_w,i32_w]
            rfl
           refine one_ (i:=6) (N:=some 36) #[T_,T_,T_,T_,T_,T_,T_,F_] rfl rfl (one_of HT_.out (by kernel_rfl)) (by decide) (fun K hK=>?_)
           refine goes_ Try.func32 (by kernel_rfl) rfl #[.int .i64 (wrap64 ((wrap64 (x1_1+1))+1))] (by rfl) rfl rfl (by (try simp only [List.map_toArray,List.map_cons,List.map_nil]);first|done|rfl|(simp only [ld_,lt_];rfl)) ?_
           with_reducible refine (laws_markText.calls k1 (wrap64 ((wrap64 (x1_1+1))+1)) t294 _ A7.out).mono ?_
           rintro e w27 ⟨rfl,hb⟩
           refine ⟨_,rfl,?_⟩
           have n0_:=A_ (bp_ (by repeat (first|(with_reducible first|exact HB.out|apply ba_|apply pd_|apply b1_)|exact HB.out)) hb)
           clear HB
           have HB:=n0_
           clear n0_
           (try clear hb)
           (try clear hb2)
           (try clear hk)
           (try clear hi)
           refine hK.out _ _ ⟨((HB.out.cell (bl_ w _ hw293_0)).trans hw293_0),((HB.out.cell (bl_ w _ hw293_1)).trans hw293_1),((HB.out.cell (bl_ w _ hw293_2)).trans hw293_2),((HB.out.cell (bl_ w _ hw293_3)).trans hw293_3),((HB.out.cell (bl_ w _ hw293_4)).trans hw293_4),((HB.out.cell (bl_ w _ hw293_5)).trans hw293_5)⟩ (fun hHeld=>?_)
           clear hK K
           refine norm_ (a':=?_) ?_ ?_
           rotate_left
           ·show Act.put _ (some 36) _=_
            simp only [Act.put,ls_,lz_,lc_,i64_w,i32_w]
            rfl
           refine pure_ (i:=7) (N:=some 37) (v:=?_) (a':=?_) #[T_,T_,T_,T_,T_,T_,T_,T_] rfl rfl (any_of HT_.out (by kernel_rfl)) (fun _ _ _ h=>h) (Or.inl ⟨by rfl,?_⟩) ?_ ?_
           rotate_left
           ·intro w'
            go_simp
            with_reducible rfl
           rotate_left
           ·simp only [Act.put,ls_,lz_,lc_,i64_w,i32_w]
            rfl
           refine done_ (done_of HT_.out (by kernel_rfl)) ?_
           try go_wp2
           have n0_:=A_ (b1_ HB.out)
           clear HB
           have HB:=n0_
           clear n0_
           have p295:0≤(x5_1:Int):=od_ (by first|(with_reducible assumption)|assumption)
           have q295:x5_1<(l0.length:Int):=od_ (by first|(with_reducible assumption)|assumption)
           obtain ⟨ad295,A295_4,c295_4,A295_5,c295_5,e295,hx295_0,hx295_1,hx295_2,hx295_3,hx295_4,hx295_5,hl295_4,hi295_4,hl295_5,hi295_5⟩:=at_T28 HR0.out x5_1 p295 q295
           have hw295_5:=hx295_5
           have hw295_4:=hx295_4
           have hw295_3:=hx295_3
           have hw295_2:=hx295_2
           have hw295_1:=hx295_1
           have hw295_0:=hx295_0
           obtain rfl:ad291=ad295:=(by injection e295)
           try (have h_:=hx295_4.symm.trans hw293_4;injection h_ with h_;injection h_ with h1_ h3_ h2_;subst h1_;subst h2_)
           try (have h_:=hx295_5.symm.trans hw293_5;injection h_ with h_;injection h_ with h1_ h3_ h2_;subst h1_;subst h2_)
           replace hx295_0:=(HB.out.cell (bl_ w _ hx295_0)).trans hx295_0
           replace hx295_1:=(HB.out.cell (bl_ w _ hx295_1)).trans hx295_1
           replace hx295_2:=(HB.out.cell (bl_ w _ hx295_2)).trans hx295_2
           replace hx295_3:=(HB.out.cell (bl_ w _ hx295_3)).trans hx295_3
           replace hx295_4:=(HB.out.cell (bl_ w _ hx295_4)).trans hx295_4
           replace hx295_5:=(HB.out.cell (bl_ w _ hx295_5)).trans hx295_5
           have HR295_4:=A_ hi295_4
           have HC295_4:=A_ hl295_4
           clear hi295_4 hl295_4
           have HR295_5:=A_ hi295_5
           have HC295_5:=A_ hl295_5
           clear hi295_5 hl295_5
           replace p295:=eq_true p295
           replace q295:=eq_true q295
           refine start_ (n:=8) (S:=fun w'=>w'.cell? (ad291.add ((x5_1).toNat * 6))=some (.int .i64 ((rd_T28 l0 x5_1).f0))∧w'.cell? ⟨(ad291.add ((x5_1).toNat * 6)).block,(ad291.add ((x5_1).toNat * 6)).off+1,none⟩=some (.int .i64 ((rd_T28 l0 x5_1).f1))∧w'.cell? ⟨(ad291.add ((x5_1).toNat * 6)).block,(ad291.add ((x5_1).toNat * 6)).off+2,none⟩=some (.string ((rd_T28 l0 x5_1).f2))∧w'.cell? ⟨(ad291.add ((x5_1).toNat * 6)).block,(ad291.add ((x5_1).toNat * 6)).off+3,none⟩=some (.string ((rd_T28 l0 x5_1).f3))∧w'.cell? ⟨(ad291.add ((x5_1).toNat * 6)).block,(ad291.add ((x5_1).toNat * 6)).off+4,none⟩=some (.slice A295_4 ((rd_T28 l0 x5_1).f4).length c295_4)∧w'.cell? ⟨(ad291.add ((x5_1).toNat * 6)).block,(ad291.add ((x5_1).toNat * 6)).off+5,none⟩=some (.slice A295_5 ((rd_T28 l0 x5_1).f5).length c295_5)) (ds:=[]) #[F_,F_,F_,F_,F_,F_,F_,F_] (by kernel_rfl) rfl rfl ⟨((HB.out.cell (bl_ w _ hw295_0)).trans hw295_0),((HB.out.cell (bl_ w _ hw295_1)).trans hw295_1),((HB.out.cell (bl_ w _ hw295_2)).trans hw295_2),((HB.out.cell (bl_ w _ hw295_3)).trans hw295_3),((HB.out.cell (bl_ w _ hw295_4)).trans hw295_4),((HB.out.cell (bl_ w _ hw295_5)).trans hw295_5)⟩ (fun hHeld=>?_);refine with_tabW laws_heldNodeS.tab13 laws_heldNodeS.bits13 (fun HT_ HW_=>?_)
           generalize w27.drew=w28 at HB HR295_4 HR295_5 hx295_0 hx295_1 hx295_2 hx295_3 hx295_4 hx295_5 hHeld ⊢
           refine pure_ (i:=0) (N:=some 40) (v:=?_) (a':=?_) #[T_,F_,F_,F_,F_,F_,F_,F_] rfl rfl (any_of HT_.out (by kernel_rfl)) (fun _ _ _ h=>h) (Or.inl ⟨by rfl,?_⟩) ?_ ?_
           rotate_left
           ·intro w'
            go_simp
            with_reducible rfl
           rotate_left
           ·simp only [Act.put,ls_,lz_,lc_,i64_w,i32_w]
            rfl
           refine pure_ (i:=1) (N:=some 41) (v:=?_) (a':=?_) #[T_,T_,F_,F_,F_,F_,F_,F_] rfl rfl (any_of HT_.out (by kernel_rfl)) (fun _ _ _ h=>h) (Or.inl ⟨by rfl,?_⟩) ?_ ?_
           rotate_left
           ·intro w'
            go_simp
            with_reducible rfl
           rotate_left
           ·simp only [Act.put,ls_,lz_,lc_,i64_w,i32_w]
            rfl
           refine pure_ (i:=2) (N:=some 42) (v:=?_) (a':=?_) #[T_,T_,T_,F_,F_,F_,F_,F_] rfl rfl (any_of HT_.out (by kernel_rfl)) (fun _ _ _ h=>h) (Or.inl ⟨by rfl,?_⟩) ?_ ?_
           rotate_left
           ·intro w'
            go_simp
            with_reducible rfl
           rotate_left
           ·simp only [Act.put,ls_,lz_,lc_,i64_w,i32_w]
            rfl
           refine pure_ (i:=3) (N:=some 43) (v:=?_) (a':=?_) #[T_,T_,T_,T_,F_,F_,F_,F_] rfl rfl (any_of HT_.out (by kernel_rfl)) (fun _ _ _ h=>h) (Or.inl ⟨by rfl,?_⟩) ?_ ?_
           rotate_left
           ·intro w'
            go_simp
            with_reducible rfl
           rotate_left
           ·simp only [Act.put,ls_,lz_,lc_,i64_w,i32_w]
            rfl
           refine pure_ (i:=5) (N:=some 45) (v:=?_) (a':=?_) #[T_,T_,T_,T_,F_,T_,F_,F_] rfl rfl (any_of HT_.out (by kernel_rfl)) (fun _ _ _ h=>h) (Or.inl ⟨by rfl,?_⟩) ?_ ?_
           rotate_left
           ·intro w'
            go_simp
            with_reducible rfl
           rotate_left
           ·simp only [Act.put,ls_,lz_,lc_,i64_w,i32_w]
            rfl
           refine take_ (i:=4) (N:=some 44) (v:=?_) (a':=?_) #[T_,T_,T_,T_,T_,T_,F_,F_] rfl rfl (take_ofW HT_.out HW_.out (by kernel_rfl)) (fun _ _ _ h=>h) (Or.inl ⟨by rfl,?_⟩) hHeld ?_ ?_
           rotate_left
           ·rintro w' ⟨s0,s1,s2,s3,s4,s5⟩
            go_simp
            with_reducible rfl
           rotate_left
           ·simp only [Act.put,ls_,lz_,lc_,i64_w,i32_w]
            rfl
           refine one_ (i:=6) (N:=some 46) #[T_,T_,T_,T_,T_,T_,T_,F_] rfl rfl (one_of HT_.out (by kernel_rfl)) (by decide) (fun K hK=>?_)
           refine goes_ Try.func32 (by kernel_rfl) rfl #[.int .i64 (wrap64 ((wrap64 ((wrap64 (x1_1+1))+1))+1))] (by rfl) rfl rfl (by (try simp only [List.map_toArray,List.map_cons,List.map_nil]);first|done|rfl|(simp only [ld_,lt_];rfl)) ?_
           with_reducible refine (laws_markText.calls k1 (wrap64 ((wrap64 ((wrap64 (x1_1+1))+1))+1)) t296 _ A9.out).mono ?_
           rintro e w29 ⟨rfl,hb⟩
           refine ⟨_,rfl,?_⟩
           have n0_:=A_ (bp_ (by repeat (first|(with_reducible first|exact HB.out|apply ba_|apply pd_|apply b1_)|exact HB.out)) hb)
           clear HB
           have HB:=n0_
           clear n0_
           (try clear hb)
           (try clear hb2)
           (try clear hk)
           (try clear hi)
           refine hK.out _ _ ⟨((HB.out.cell (bl_ w _ hw295_0)).trans hw295_0),((HB.out.cell (bl_ w _ hw295_1)).trans hw295_1),((HB.out.cell (bl_ w _ hw295_2)).trans hw295_2),((HB.out.cell (bl_ w _ hw295_3)).trans hw295_3),((HB.out.cell (bl_ w _ hw295_4)).trans hw295_4),((HB.out.cell (bl_ w _ hw295_5)).trans hw295_5)⟩ (fun hHeld=>?_)
           clear hK K
           refine norm_ (a':=?_) ?_ ?_
           rotate_left
           ·show Act.put _ (some 46) _=_
            simp only [Act.put,ls_,lz_,lc_,i64_w,i32_w]
            rfl
           refine pure_ (i:=7) (N:=some 47) (v:=?_) (a':=?_) #[T_,T_,T_,T_,T_,T_,T_,T_] rfl rfl (any_of HT_.out (by kernel_rfl)) (fun _ _ _ h=>h) (Or.inl ⟨by rfl,?_⟩) ?_ ?_
           rotate_left
           ·intro w'
            go_simp
            with_reducible rfl
           rotate_left
           ·simp only [Act.put,ls_,lz_,lc_,i64_w,i32_w]
            rfl
           refine done_ (done_of HT_.out (by kernel_rfl)) ?_
           have p297:0≤(x5_1:Int):=od_ (by first|(with_reducible assumption)|assumption)
           have q297:x5_1<(l0.length:Int):=od_ (by first|(with_reducible assumption)|assumption)
           obtain ⟨ad297,A297_4,c297_4,A297_5,c297_5,e297,hx297_0,hx297_1,hx297_2,hx297_3,hx297_4,hx297_5,hl297_4,hi297_4,hl297_5,hi297_5⟩:=at_T28 HR0.out x5_1 p297 q297
           obtain rfl:ad291=ad297:=(by injection e297)
           try (have h_:=hx297_4.symm.trans hw295_4;injection h_ with h_;injection h_ with h1_ h3_ h2_;subst h1_;subst h2_)
           try (have h_:=hx297_5.symm.trans hw295_5;injection h_ with h_;injection h_ with h1_ h3_ h2_;subst h1_;subst h2_)
           replace hx297_0:=(HB.out.cell (bl_ w _ hx297_0)).trans hx297_0
           replace hx297_1:=(HB.out.cell (bl_ w _ hx297_1)).trans hx297_1
           replace hx297_2:=(HB.out.cell (bl_ w _ hx297_2)).trans hx297_2
           replace hx297_3:=(HB.out.cell (bl_ w _ hx297_3)).trans hx297_3
           replace hx297_4:=(HB.out.cell (bl_ w _ hx297_4)).trans hx297_4
           replace hx297_5:=(HB.out.cell (bl_ w _ hx297_5)).trans hx297_5
           have HR297_4:=A_ hi297_4
           have HC297_4:=A_ hl297_4
           clear hi297_4 hl297_4
           have HR297_5:=A_ hi297_5
           have HC297_5:=A_ hl297_5
           clear hi297_5 hl297_5
           replace p297:=eq_true p297
           replace q297:=eq_true q297
           try go_wp2_with (first|((with_reducible refine gate_callee (f:=34) rfl ?_);refine goesL_ (some 56) rfl rfl Try.func34 (by kernel_rfl) rfl #[.slice A297_4 ((rd_T28 l0 x5_1).f4).length c297_4,.int .i64 (wrap64 ((wrap64 ((wrap64 ((wrap64 (x1_1+1))+1))+1))+1))] rfl (by (try simp only [List.map_toArray,List.map_cons,List.map_nil]);first|done|rfl|(simp only [ld_,lt_];rfl)) ?_;(with_reducible refine (laws_heldAttrS.calls k1 _ _ ((rd_T28 l0 x5_1).f4) (wrap64 ((wrap64 ((wrap64 ((wrap64 (x1_1+1))+1))+1))+1)) t298 _ ?side1 ?side2 A11.out).mono ?_);(case side1=>repeat (first|exact (cb_ HR297_4.out HB.out)|(with_reducible refine ca_ ?_ _)|(with_reducible refine cn_ ?_ _)|(with_reducible refine cd_ ?_)));(case side2=>exact HC297_4.out);rintro e w30 ⟨rfl,hb⟩;refine ⟨_,rfl,?_⟩;have n0_:=A_ (bp_ (by repeat (first|(with_reducible first|exact HB.out|apply ba_|apply pd_|apply b1_)|exact HB.out)) hb);clear HB;have HB:=n0_;clear n0_;(try clear hb);(try clear hb2);(try clear hk);(try clear hi);have p299:0≤(x5_1:Int):=od_ (by first|(with_reducible assumption)|assumption);have q299:x5_1<(l0.length:Int):=od_ (by first|(with_reducible assumption)|assumption);obtain ⟨ad299,A299_4,c299_4,A299_5,c299_5,e299,hx299_0,hx299_1,hx299_2,hx299_3,hx299_4,hx299_5,hl299_4,hi299_4,hl299_5,hi299_5⟩:=at_T28 HR0.out x5_1 p299 q299;obtain rfl:ad291=ad299:=(by injection e299);replace hx299_0:=(HB.out.cell (bl_ w _ hx299_0)).trans hx299_0;replace hx299_1:=(HB.out.cell (bl_ w _ hx299_1)).trans hx299_1;replace hx299_2:=(HB.out.cell (bl_ w _ hx299_2)).trans hx299_2;replace hx299_3:=(HB.out.cell (bl_ w _ hx299_3)).trans hx299_3;replace hx299_4:=(HB.out.cell (bl_ w _ hx299_4)).trans hx299_4;replace hx299_5:=(HB.out.cell (bl_ w _ hx299_5)).trans hx299_5;have HR299_4:=A_ hi299_4;have HC299_4:=A_ hl299_4;clear hi299_4 hl299_4;have HR299_5:=A_ hi299_5;have HC299_5:=A_ hl299_5;clear hi299_5 hl299_5;replace p299:=eq_true p299;replace q299:=eq_true q299)|((with_reducible refine gate_callee (f:=20) rfl ?_);refine goesL_ (some 65) rfl rfl Try.func20 (by kernel_rfl) rfl #[.slice A299_5 ((rd_T28 l0 x5_1).f5).length c299_5,.int .i64 t298] rfl (by (try simp only [List.map_toArray,List.map_cons,List.map_nil]);first|done|rfl|(simp only [ld_,lt_];rfl)) ?_;(with_reducible refine (ih k1 (by have:=HK1.out;omega) _ _ ((rd_T28 l0 x5_1).f5) t298 t300 _ ?side1 ?side2 A18.out).mono ?_);(case side1=>repeat (first|exact (cb_ HR299_5.out HB.out)|(with_reducible refine ca_ ?_ _)|(with_reducible refine cn_ ?_ _)|(with_reducible refine cd_ ?_)));(case side2=>exact HC299_5.out);rintro e w31 ⟨rfl,hb⟩;refine ⟨_,rfl,?_⟩;have n0_:=A_ (bp_ (by repeat (first|(with_reducible first|exact HB.out|apply ba_|apply pd_|apply b1_)|exact HB.out)) hb);clear HB;have HB:=n0_;clear n0_;(try clear hb);(try clear hb2);(try clear hk);(try clear hi)))
           go_roundg k1
           case measure=>have:=HK1.out;omega
           case rel=>exact ⟨(t300),(wrap64 (x5_1+1)),(by first|rfl|(simp;done)|(simp [*];done)),(by first|rfl|(simp;done)|(simp [*];done)),H',⟨by have:=HK1.out;omega⟩,⟨by repeat (first|(with_reducible first|exact HB.out|apply ba_|apply pd_|apply b1_)|exact HB.out)⟩⟩
        ·rw [if_neg c10] at H
         have c10b0:(((rd_T28 l0 x5_1).f3).toList == t296.toList)=false:=beq_eq_false_iff_ne.mpr c10
         have c10b1:(((rd_T28 l0 x5_1).f3).toList != t296.toList)=true:=bne_iff_ne.mpr c10
         obtain rfl:=oi_ H
         have p291:0≤(x5_1:Int):=od_ (by first|(with_reducible assumption)|assumption)
         have q291:x5_1<(l0.length:Int):=od_ (by first|(with_reducible assumption)|assumption)
         obtain ⟨ad291,A291_4,c291_4,A291_5,c291_5,e291,hx291_0,hx291_1,hx291_2,hx291_3,hx291_4,hx291_5,hl291_4,hi291_4,hl291_5,hi291_5⟩:=at_T28 HR0.out x5_1 p291 q291
         cases e291
         replace hx291_0:=(HB.out.cell (bl_ w _ hx291_0)).trans hx291_0
         replace hx291_1:=(HB.out.cell (bl_ w _ hx291_1)).trans hx291_1
         replace hx291_2:=(HB.out.cell (bl_ w _ hx291_2)).trans hx291_2
         replace hx291_3:=(HB.out.cell (bl_ w _ hx291_3)).trans hx291_3
         replace hx291_4:=(HB.out.cell (bl_ w _ hx291_4)).trans hx291_4
         replace hx291_5:=(HB.out.cell (bl_ w _ hx291_5)).trans hx291_5
         have HR291_4:=A_ hi291_4
         have HC291_4:=A_ hl291_4
         clear hi291_4 hl291_4
         have HR291_5:=A_ hi291_5
         have HC291_5:=A_ hl291_5
         clear hi291_5 hl291_5
         replace p291:=eq_true p291
         replace q291:=eq_true q291
         have p292:0≤(x5_1:Int):=od_ (by first|(with_reducible assumption)|assumption)
         have q292:x5_1<(l0.length:Int):=od_ (by first|(with_reducible assumption)|assumption)
         obtain ⟨ad292,A292_4,c292_4,A292_5,c292_5,e292,hx292_0,hx292_1,hx292_2,hx292_3,hx292_4,hx292_5,hl292_4,hi292_4,hl292_5,hi292_5⟩:=at_T28 HR0.out x5_1 p292 q292
         obtain rfl:ad291=ad292:=(by injection e292)
         try (have h_:=hx292_4.symm.trans hw290_4;injection h_ with h_;injection h_ with h1_ h3_ h2_;subst h1_;subst h2_)
         try (have h_:=hx292_5.symm.trans hw290_5;injection h_ with h_;injection h_ with h1_ h3_ h2_;subst h1_;subst h2_)
         replace hx292_0:=(HB.out.cell (bl_ w _ hx292_0)).trans hx292_0
         replace hx292_1:=(HB.out.cell (bl_ w _ hx292_1)).trans hx292_1
         replace hx292_2:=(HB.out.cell (bl_ w _ hx292_2)).trans hx292_2
         replace hx292_3:=(HB.out.cell (bl_ w _ hx292_3)).trans hx292_3
         replace hx292_4:=(HB.out.cell (bl_ w _ hx292_4)).trans hx292_4
         replace hx292_5:=(HB.out.cell (bl_ w _ hx292_5)).trans hx292_5
         have HR292_4:=A_ hi292_4
         have HC292_4:=A_ hl292_4
         clear hi292_4 hl292_4
         have HR292_5:=A_ hi292_5
         have HC292_5:=A_ hl292_5
         clear hi292_5 hl292_5
         replace p292:=eq_true p292
         replace q292:=eq_true q292
         have ea_:=oi_ (hx291_4.symm.trans hx292_4)
         injection ea_ with ea_ en_ ec_
         subst ea_
         subst ec_
         clear en_
         have ea_:=oi_ (hx291_5.symm.trans hx292_5)
         injection ea_ with ea_ en_ ec_
         subst ea_
         subst ec_
         clear en_
         try go_wp2
         have n0_:=A_ (b1_ HB.out)
         clear HB
         have HB:=n0_
         clear n0_
         have p293:0≤(x5_1:Int):=od_ (by first|(with_reducible assumption)|assumption)
         have q293:x5_1<(l0.length:Int):=od_ (by first|(with_reducible assumption)|assumption)
         obtain ⟨ad293,A293_4,c293_4,A293_5,c293_5,e293,hx293_0,hx293_1,hx293_2,hx293_3,hx293_4,hx293_5,hl293_4,hi293_4,hl293_5,hi293_5⟩:=at_T28 HR0.out x5_1 p293 q293
         have hw293_5:=hx293_5
         have hw293_4:=hx293_4
         have hw293_3:=hx293_3
         have hw293_2:=hx293_2
         have hw293_1:=hx293_1
         have hw293_0:=hx293_0
         obtain rfl:ad291=ad293:=(by injection e293)
         try (have h_:=hx293_4.symm.trans hw291_4;injection h_ with h_;injection h_ with h1_ h3_ h2_;subst h1_;subst h2_)
         try (have h_:=hx293_5.symm.trans hw291_5;injection h_ with h_;injection h_ with h1_ h3_ h2_;subst h1_;subst h2_)
         replace hx293_0:=(HB.out.cell (bl_ w _ hx293_0)).trans hx293_0
         replace hx293_1:=(HB.out.cell (bl_ w _ hx293_1)).trans hx293_1
         replace hx293_2:=(HB.out.cell (bl_ w _ hx293_2)).trans hx293_2
         replace hx293_3:=(HB.out.cell (bl_ w _ hx293_3)).trans hx293_3
         replace hx293_4:=(HB.out.cell (bl_ w _ hx293_4)).trans hx293_4
         replace hx293_5:=(HB.out.cell (bl_ w _ hx293_5)).trans hx293_5
         have HR293_4:=A_ hi293_4
         have HC293_4:=A_ hl293_4
         clear hi293_4 hl293_4
         have HR293_5:=A_ hi293_5
         have HC293_5:=A_ hl293_5
         clear hi293_5 hl293_5
         replace p293:=eq_true p293
         replace q293:=eq_true q293
         refine start_ (n:=8) (S:=fun w'=>w'.cell? (ad291.add ((x5_1).toNat * 6))=some (.int .i64 ((rd_T28 l0 x5_1).f0))∧w'.cell? ⟨(ad291.add ((x5_1).toNat * 6)).block,(ad291.add ((x5_1).toNat * 6)).off+1,none⟩=some (.int .i64 ((rd_T28 l0 x5_1).f1))∧w'.cell? ⟨(ad291.add ((x5_1).toNat * 6)).block,(ad291.add ((x5_1).toNat * 6)).off+2,none⟩=some (.string ((rd_T28 l0 x5_1).f2))∧w'.cell? ⟨(ad291.add ((x5_1).toNat * 6)).block,(ad291.add ((x5_1).toNat * 6)).off+3,none⟩=some (.string ((rd_T28 l0 x5_1).f3))∧w'.cell? ⟨(ad291.add ((x5_1).toNat * 6)).block,(ad291.add ((x5_1).toNat * 6)).off+4,none⟩=some (.slice A293_4 ((rd_T28 l0 x5_1).f4).length c293_4)∧w'.cell? ⟨(ad291.add ((x5_1).toNat * 6)).block,(ad291.add ((x5_1).toNat * 6)).off+5,none⟩=some (.slice A293_5 ((rd_T28 l0 x5_1).f5).length c293_5)) (ds:=[]) #[F_,F_,F_,F_,F_,F_,F_,F_] (by kernel_rfl) rfl rfl ⟨((HB.out.cell (bl_ w _ hw293_0)).trans hw293_0),((HB.out.cell (bl_ w _ hw293_1)).trans hw293_1),((HB.out.cell (bl_ w _ hw293_2)).trans hw293_2),((HB.out.cell (bl_ w _ hw293_3)).trans hw293_3),((HB.out.cell (bl_ w _ hw293_4)).trans hw293_4),((HB.out.cell (bl_ w _ hw293_5)).trans hw293_5)⟩ (fun hHeld=>?_);refine with_tabW laws_heldNodeS.tab10 laws_heldNodeS.bits10 (fun HT_ HW_=>?_)
         generalize wr.drew=w32 at HB HR293_4 HR293_5 hx293_0 hx293_1 hx293_2 hx293_3 hx293_4 hx293_5 hHeld ⊢
         refine pure_ (i:=0) (N:=some 30) (v:=?_) (a':=?_) #[T_,F_,F_,F_,F_,F_,F_,F_] rfl rfl (any_of HT_.out (by kernel_rfl)) (fun _ _ _ h=>h) (Or.inl ⟨by rfl,?_⟩) ?_ ?_
         rotate_left
         ·intro w'
          go_simp
          with_reducible rfl
         rotate_left
         ·simp only [Act.put,ls_,lz_,lc_,i64_w,i32_w]
          rfl
         refine pure_ (i:=1) (N:=some 31) (v:=?_) (a':=?_) #[T_,T_,F_,F_,F_,F_,F_,F_] rfl rfl (any_of HT_.out (by kernel_rfl)) (fun _ _ _ h=>h) (Or.inl ⟨by rfl,?_⟩) ?_ ?_
         rotate_left
         ·intro w'
          go_simp
          with_reducible rfl
         rotate_left
         ·simp only [Act.put,ls_,lz_,lc_,i64_w,i32_w]
          rfl
         refine pure_ (i:=2) (N:=some 32) (v:=?_) (a':=?_) #[T_,T_,T_,F_,F_,F_,F_,F_] rfl rfl (any_of HT_.out (by kernel_rfl)) (fun _ _ _ h=>h) (Or.inl ⟨by rfl,?_⟩) ?_ ?_
         rotate_left
         ·intro w'
          go_simp
          with_reducible rfl
         rotate_left
         ·simp only [Act.put,ls_,lz_,lc_,i64_w,i32_w]
          rfl
         refine pure_ (i:=3) (N:=some 33) (v:=?_) (a':=?_) #[T_,T_,T_,T_,F_,F_,F_,F_] rfl rfl (any_of HT_.out (by kernel_rfl)) (fun _ _ _ h=>h) (Or.inl ⟨by rfl,?_⟩) ?_ ?_
         rotate_left
         ·intro w'
          go_simp
          with_reducible rfl
         rotate_left
         ·simp only [Act.put,ls_,lz_,lc_,i64_w,i32_w]
          rfl
         refine pure_ (i:=5) (N:=some 35) (v:=?_) (a':=?_) #[T_,T_,T_,T_,F_,T_,F_,F_] rfl rfl (any_of HT_.out (by kernel_rfl)) (fun _ _ _ h=>h) (Or.inl ⟨by rfl,?_⟩) ?_ ?_
         rotate_left
         ·intro w'
          go_simp
          with_reducible rfl
         rotate_left
         ·simp only [Act.put,ls_,lz_,lc_,i64_w,i32_w]
          rfl
         refine take_ (i:=4) (N:=some 34) (v:=?_) (a':=?_) #[T_,T_,T_,T_,T_,T_,F_,F_] rfl rfl (take_ofW HT_.out HW_.out (by kernel_rfl)) (fun _ _ _ h=>h) (Or.inl ⟨by rfl,?_⟩) hHeld ?_ ?_
         rotate_left
         ·rintro w' ⟨s0,s1,s2,s3,s4,s5⟩
          go_simp
          with_reducible rfl
         rotate_left
         ·simp only [Act.put,ls_,lz_,lc_,i64_w,i32_w]
          rfl
         refine one_ (i:=6) (N:=some 36) #[T_,T_,T_,T_,T_,T_,T_,F_] rfl rfl (one_of HT_.out (by kernel_rfl)) (by decide) (fun K hK=>?_)
         refine goes_ Try.func32 (by kernel_rfl) rfl #[.int .i64 (wrap64 ((wrap64 (x1_1+1))+1))] (by rfl) rfl rfl (by (try simp only [List.map_toArray,List.map_cons,List.map_nil]);first|done|rfl|(simp only [ld_,lt_];rfl)) ?_
         with_reducible refine (laws_markText.calls k1 (wrap64 ((wrap64 (x1_1+1))+1)) t294 _ A7.out).mono ?_
         rintro e w33 ⟨rfl,hb⟩
         refine ⟨_,rfl,?_⟩
         have n0_:=A_ (bp_ (by repeat (first|(with_reducible first|exact HB.out|apply ba_|apply pd_|apply b1_)|exact HB.out)) hb)
         clear HB
         have HB:=n0_
         clear n0_
         (try clear hb)
         (try clear hb2)
         (try clear hk)
         (try clear hi)
         refine hK.out _ _ ⟨((HB.out.cell (bl_ w _ hw293_0)).trans hw293_0),((HB.out.cell (bl_ w _ hw293_1)).trans hw293_1),((HB.out.cell (bl_ w _ hw293_2)).trans hw293_2),((HB.out.cell (bl_ w _ hw293_3)).trans hw293_3),((HB.out.cell (bl_ w _ hw293_4)).trans hw293_4),((HB.out.cell (bl_ w _ hw293_5)).trans hw293_5)⟩ (fun hHeld=>?_)
         clear hK K
         refine norm_ (a':=?_) ?_ ?_
         rotate_left
         ·show Act.put _ (some 36) _=_
          simp only [Act.put,ls_,lz_,lc_,i64_w,i32_w]
          rfl
         refine pure_ (i:=7) (N:=some 37) (v:=?_) (a':=?_) #[T_,T_,T_,T_,T_,T_,T_,T_] rfl rfl (any_of HT_.out (by kernel_rfl)) (fun _ _ _ h=>h) (Or.inl ⟨by rfl,?_⟩) ?_ ?_
         rotate_left
         ·intro w'
          go_simp
          with_reducible rfl
         rotate_left
         ·simp only [Act.put,ls_,lz_,lc_,i64_w,i32_w]
          rfl
         refine done_ (done_of HT_.out (by kernel_rfl)) ?_
         try go_wp2
         have n0_:=A_ (b1_ HB.out)
         clear HB
         have HB:=n0_
         clear n0_
         have p295:0≤(x5_1:Int):=od_ (by first|(with_reducible assumption)|assumption)
         have q295:x5_1<(l0.length:Int):=od_ (by first|(with_reducible assumption)|assumption)
         obtain ⟨ad295,A295_4,c295_4,A295_5,c295_5,e295,hx295_0,hx295_1,hx295_2,hx295_3,hx295_4,hx295_5,hl295_4,hi295_4,hl295_5,hi295_5⟩:=at_T28 HR0.out x5_1 p295 q295
         have hw295_5:=hx295_5
         have hw295_4:=hx295_4
         have hw295_3:=hx295_3
         have hw295_2:=hx295_2
         have hw295_1:=hx295_1
         have hw295_0:=hx295_0
         obtain rfl:ad291=ad295:=(by injection e295)
         try (have h_:=hx295_4.symm.trans hw293_4;injection h_ with h_;injection h_ with h1_ h3_ h2_;subst h1_;subst h2_)
         try (have h_:=hx295_5.symm.trans hw293_5;injection h_ with h_;injection h_ with h1_ h3_ h2_;subst h1_;subst h2_)
         replace hx295_0:=(HB.out.cell (bl_ w _ hx295_0)).trans hx295_0
         replace hx295_1:=(HB.out.cell (bl_ w _ hx295_1)).trans hx295_1
         replace hx295_2:=(HB.out.cell (bl_ w _ hx295_2)).trans hx295_2
         replace hx295_3:=(HB.out.cell (bl_ w _ hx295_3)).trans hx295_3
         replace hx295_4:=(HB.out.cell (bl_ w _ hx295_4)).trans hx295_4
         replace hx295_5:=(HB.out.cell (bl_ w _ hx295_5)).trans hx295_5
         have HR295_4:=A_ hi295_4
         have HC295_4:=A_ hl295_4
         clear hi295_4 hl295_4
         have HR295_5:=A_ hi295_5
         have HC295_5:=A_ hl295_5
         clear hi295_5 hl295_5
         replace p295:=eq_true p295
         replace q295:=eq_true q295
         refine start_ (n:=8) (S:=fun w'=>w'.cell? (ad291.add ((x5_1).toNat * 6))=some (.int .i64 ((rd_T28 l0 x5_1).f0))∧w'.cell? ⟨(ad291.add ((x5_1).toNat * 6)).block,(ad291.add ((x5_1).toNat * 6)).off+1,none⟩=some (.int .i64 ((rd_T28 l0 x5_1).f1))∧w'.cell? ⟨(ad291.add ((x5_1).toNat * 6)).block,(ad291.add ((x5_1).toNat * 6)).off+2,none⟩=some (.string ((rd_T28 l0 x5_1).f2))∧w'.cell? ⟨(ad291.add ((x5_1).toNat * 6)).block,(ad291.add ((x5_1).toNat * 6)).off+3,none⟩=some (.string ((rd_T28 l0 x5_1).f3))∧w'.cell? ⟨(ad291.add ((x5_1).toNat * 6)).block,(ad291.add ((x5_1).toNat * 6)).off+4,none⟩=some (.slice A295_4 ((rd_T28 l0 x5_1).f4).length c295_4)∧w'.cell? ⟨(ad291.add ((x5_1).toNat * 6)).block,(ad291.add ((x5_1).toNat * 6)).off+5,none⟩=some (.slice A295_5 ((rd_T28 l0 x5_1).f5).length c295_5)) (ds:=[]) #[F_,F_,F_,F_,F_,F_,F_,F_] (by kernel_rfl) rfl rfl ⟨((HB.out.cell (bl_ w _ hw295_0)).trans hw295_0),((HB.out.cell (bl_ w _ hw295_1)).trans hw295_1),((HB.out.cell (bl_ w _ hw295_2)).trans hw295_2),((HB.out.cell (bl_ w _ hw295_3)).trans hw295_3),((HB.out.cell (bl_ w _ hw295_4)).trans hw295_4),((HB.out.cell (bl_ w _ hw295_5)).trans hw295_5)⟩ (fun hHeld=>?_);refine with_tabW laws_heldNodeS.tab13 laws_heldNodeS.bits13 (fun HT_ HW_=>?_)
         generalize w33.drew=w34 at HB HR295_4 HR295_5 hx295_0 hx295_1 hx295_2 hx295_3 hx295_4 hx295_5 hHeld ⊢
         refine pure_ (i:=0) (N:=some 40) (v:=?_) (a':=?_) #[T_,F_,F_,F_,F_,F_,F_,F_] rfl rfl (any_of HT_.out (by kernel_rfl)) (fun _ _ _ h=>h) (Or.inl ⟨by rfl,?_⟩) ?_ ?_
         rotate_left
         ·intro w'
          go_simp
          with_reducible rfl
         rotate_left
         ·simp only [Act.put,ls_,lz_,lc_,i64_w,i32_w]
          rfl
         refine pure_ (i:=1) (N:=some 41) (v:=?_) (a':=?_) #[T_,T_,F_,F_,F_,F_,F_,F_] rfl rfl (any_of HT_.out (by kernel_rfl)) (fun _ _ _ h=>h) (Or.inl ⟨by rfl,?_⟩) ?_ ?_
         rotate_left
         ·intro w'
          go_simp
          with_reducible rfl
         rotate_left
         ·simp only [Act.put,ls_,lz_,lc_,i64_w,i32_w]
          rfl
         refine pure_ (i:=2) (N:=some 42) (v:=?_) (a':=?_) #[T_,T_,T_,F_,F_,F_,F_,F_] rfl rfl (any_of HT_.out (by kernel_rfl)) (fun _ _ _ h=>h) (Or.inl ⟨by rfl,?_⟩) ?_ ?_
         rotate_left
         ·intro w'
          go_simp
          with_reducible rfl
         rotate_left
         ·simp only [Act.put,ls_,lz_,lc_,i64_w,i32_w]
          rfl
         refine pure_ (i:=3) (N:=some 43) (v:=?_) (a':=?_) #[T_,T_,T_,T_,F_,F_,F_,F_] rfl rfl (any_of HT_.out (by kernel_rfl)) (fun _ _ _ h=>h) (Or.inl ⟨by rfl,?_⟩) ?_ ?_
         rotate_left
         ·intro w'
          go_simp
          with_reducible rfl
         rotate_left
         ·simp only [Act.put,ls_,lz_,lc_,i64_w,i32_w]
          rfl
         refine pure_ (i:=5) (N:=some 45) (v:=?_) (a':=?_) #[T_,T_,T_,T_,F_,T_,F_,F_] rfl rfl (any_of HT_.out (by kernel_rfl)) (fun _ _ _ h=>h) (Or.inl ⟨by rfl,?_⟩) ?_ ?_
         rotate_left
         ·intro w'
          go_simp
          with_reducible rfl
         rotate_left
         ·simp only [Act.put,ls_,lz_,lc_,i64_w,i32_w]
          rfl
         refine take_ (i:=4) (N:=some 44) (v:=?_) (a':=?_) #[T_,T_,T_,T_,T_,T_,F_,F_] rfl rfl (take_ofW HT_.out HW_.out (by kernel_rfl)) (fun _ _ _ h=>h) (Or.inl ⟨by rfl,?_⟩) hHeld ?_ ?_
         rotate_left
         ·rintro w' ⟨s0,s1,s2,s3,s4,s5⟩
          go_simp
          with_reducible rfl
         rotate_left
         ·simp only [Act.put,ls_,lz_,lc_,i64_w,i32_w]
          rfl
         refine one_ (i:=6) (N:=some 46) #[T_,T_,T_,T_,T_,T_,T_,F_] rfl rfl (one_of HT_.out (by kernel_rfl)) (by decide) (fun K hK=>?_)
         refine goes_ Try.func32 (by kernel_rfl) rfl #[.int .i64 (wrap64 ((wrap64 ((wrap64 (x1_1+1))+1))+1))] (by rfl) rfl rfl (by (try simp only [List.map_toArray,List.map_cons,List.map_nil]);first|done|rfl|(simp only [ld_,lt_];rfl)) ?_
         with_reducible refine (laws_markText.calls k1 (wrap64 ((wrap64 ((wrap64 (x1_1+1))+1))+1)) t296 _ A9.out).mono ?_
         rintro e w35 ⟨rfl,hb⟩
         refine ⟨_,rfl,?_⟩
         have n0_:=A_ (bp_ (by repeat (first|(with_reducible first|exact HB.out|apply ba_|apply pd_|apply b1_)|exact HB.out)) hb)
         clear HB
         have HB:=n0_
         clear n0_
         (try clear hb)
         (try clear hb2)
         (try clear hk)
         (try clear hi)
         refine hK.out _ _ ⟨((HB.out.cell (bl_ w _ hw295_0)).trans hw295_0),((HB.out.cell (bl_ w _ hw295_1)).trans hw295_1),((HB.out.cell (bl_ w _ hw295_2)).trans hw295_2),((HB.out.cell (bl_ w _ hw295_3)).trans hw295_3),((HB.out.cell (bl_ w _ hw295_4)).trans hw295_4),((HB.out.cell (bl_ w _ hw295_5)).trans hw295_5)⟩ (fun hHeld=>?_)
         clear hK K
         refine norm_ (a':=?_) ?_ ?_
         rotate_left
         ·show Act.put _ (some 46) _=_
          simp only [Act.put,ls_,lz_,lc_,i64_w,i32_w]
          rfl
         refine pure_ (i:=7) (N:=some 47) (v:=?_) (a':=?_) #[T_,T_,T_,T_,T_,T_,T_,T_] rfl rfl (any_of HT_.out (by kernel_rfl)) (fun _ _ _ h=>h) (Or.inl ⟨by rfl,?_⟩) ?_ ?_
         rotate_left
         ·intro w'
          go_simp
          with_reducible rfl
         rotate_left
         ·simp only [Act.put,ls_,lz_,lc_,i64_w,i32_w]
          rfl
         refine done_ (done_of HT_.out (by kernel_rfl)) ?_
         try go_wp2
         go_ret
         exact ⟨by first|rfl|(simp [errW_none,errW_some] <;> rfl)|(simp [*,errW_none,errW_some] <;> rfl),by repeat (first|(with_reducible first|exact HB.out|apply ba_|apply pd_|apply b1_)|exact HB.out)⟩
       ·rw [if_neg c8] at H
        have c8b0:(((rd_T28 l0 x5_1).f2).toList == t294.toList)=false:=beq_eq_false_iff_ne.mpr c8
        have c8b1:(((rd_T28 l0 x5_1).f2).toList != t294.toList)=true:=bne_iff_ne.mpr c8
        obtain rfl:=oi_ H
        have p291:0≤(x5_1:Int):=od_ (by first|(with_reducible assumption)|assumption)
        have q291:x5_1<(l0.length:Int):=od_ (by first|(with_reducible assumption)|assumption)
        obtain ⟨ad291,A291_4,c291_4,A291_5,c291_5,e291,hx291_0,hx291_1,hx291_2,hx291_3,hx291_4,hx291_5,hl291_4,hi291_4,hl291_5,hi291_5⟩:=at_T28 HR0.out x5_1 p291 q291
        cases e291
        replace hx291_0:=(HB.out.cell (bl_ w _ hx291_0)).trans hx291_0
        replace hx291_1:=(HB.out.cell (bl_ w _ hx291_1)).trans hx291_1
        replace hx291_2:=(HB.out.cell (bl_ w _ hx291_2)).trans hx291_2
        replace hx291_3:=(HB.out.cell (bl_ w _ hx291_3)).trans hx291_3
        replace hx291_4:=(HB.out.cell (bl_ w _ hx291_4)).trans hx291_4
        replace hx291_5:=(HB.out.cell (bl_ w _ hx291_5)).trans hx291_5
        have HR291_4:=A_ hi291_4
        have HC291_4:=A_ hl291_4
        clear hi291_4 hl291_4
        have HR291_5:=A_ hi291_5
        have HC291_5:=A_ hl291_5
        clear hi291_5 hl291_5
        replace p291:=eq_true p291
        replace q291:=eq_true q291
        have p292:0≤(x5_1:Int):=od_ (by first|(with_reducible assumption)|assumption)
        have q292:x5_1<(l0.length:Int):=od_ (by first|(with_reducible assumption)|assumption)
        obtain ⟨ad292,A292_4,c292_4,A292_5,c292_5,e292,hx292_0,hx292_1,hx292_2,hx292_3,hx292_4,hx292_5,hl292_4,hi292_4,hl292_5,hi292_5⟩:=at_T28 HR0.out x5_1 p292 q292
        obtain rfl:ad291=ad292:=(by injection e292)
        try (have h_:=hx292_4.symm.trans hw290_4;injection h_ with h_;injection h_ with h1_ h3_ h2_;subst h1_;subst h2_)
        try (have h_:=hx292_5.symm.trans hw290_5;injection h_ with h_;injection h_ with h1_ h3_ h2_;subst h1_;subst h2_)
        replace hx292_0:=(HB.out.cell (bl_ w _ hx292_0)).trans hx292_0
        replace hx292_1:=(HB.out.cell (bl_ w _ hx292_1)).trans hx292_1
        replace hx292_2:=(HB.out.cell (bl_ w _ hx292_2)).trans hx292_2
        replace hx292_3:=(HB.out.cell (bl_ w _ hx292_3)).trans hx292_3
        replace hx292_4:=(HB.out.cell (bl_ w _ hx292_4)).trans hx292_4
        replace hx292_5:=(HB.out.cell (bl_ w _ hx292_5)).trans hx292_5
        have HR292_4:=A_ hi292_4
        have HC292_4:=A_ hl292_4
        clear hi292_4 hl292_4
        have HR292_5:=A_ hi292_5
        have HC292_5:=A_ hl292_5
        clear hi292_5 hl292_5
        replace p292:=eq_true p292
        replace q292:=eq_true q292
        have ea_:=oi_ (hx291_4.symm.trans hx292_4)
        injection ea_ with ea_ en_ ec_
        subst ea_
        subst ec_
        clear en_
        have ea_:=oi_ (hx291_5.symm.trans hx292_5)
        injection ea_ with ea_ en_ ec_
        subst ea_
        subst ec_
        clear en_
        try go_wp2
        have n0_:=A_ (b1_ HB.out)
        clear HB
        have HB:=n0_
        clear n0_
        have p293:0≤(x5_1:Int):=od_ (by first|(with_reducible assumption)|assumption)
        have q293:x5_1<(l0.length:Int):=od_ (by first|(with_reducible assumption)|assumption)
        obtain ⟨ad293,A293_4,c293_4,A293_5,c293_5,e293,hx293_0,hx293_1,hx293_2,hx293_3,hx293_4,hx293_5,hl293_4,hi293_4,hl293_5,hi293_5⟩:=at_T28 HR0.out x5_1 p293 q293
        have hw293_5:=hx293_5
        have hw293_4:=hx293_4
        have hw293_3:=hx293_3
        have hw293_2:=hx293_2
        have hw293_1:=hx293_1
        have hw293_0:=hx293_0
        obtain rfl:ad291=ad293:=(by injection e293)
        try (have h_:=hx293_4.symm.trans hw291_4;injection h_ with h_;injection h_ with h1_ h3_ h2_;subst h1_;subst h2_)
        try (have h_:=hx293_5.symm.trans hw291_5;injection h_ with h_;injection h_ with h1_ h3_ h2_;subst h1_;subst h2_)
        replace hx293_0:=(HB.out.cell (bl_ w _ hx293_0)).trans hx293_0
        replace hx293_1:=(HB.out.cell (bl_ w _ hx293_1)).trans hx293_1
        replace hx293_2:=(HB.out.cell (bl_ w _ hx293_2)).trans hx293_2
        replace hx293_3:=(HB.out.cell (bl_ w _ hx293_3)).trans hx293_3
        replace hx293_4:=(HB.out.cell (bl_ w _ hx293_4)).trans hx293_4
        replace hx293_5:=(HB.out.cell (bl_ w _ hx293_5)).trans hx293_5
        have HR293_4:=A_ hi293_4
        have HC293_4:=A_ hl293_4
        clear hi293_4 hl293_4
        have HR293_5:=A_ hi293_5
        have HC293_5:=A_ hl293_5
        clear hi293_5 hl293_5
        replace p293:=eq_true p293
        replace q293:=eq_true q293
        refine start_ (n:=8) (S:=fun w'=>w'.cell? (ad291.add ((x5_1).toNat * 6))=some (.int .i64 ((rd_T28 l0 x5_1).f0))∧w'.cell? ⟨(ad291.add ((x5_1).toNat * 6)).block,(ad291.add ((x5_1).toNat * 6)).off+1,none⟩=some (.int .i64 ((rd_T28 l0 x5_1).f1))∧w'.cell? ⟨(ad291.add ((x5_1).toNat * 6)).block,(ad291.add ((x5_1).toNat * 6)).off+2,none⟩=some (.string ((rd_T28 l0 x5_1).f2))∧w'.cell? ⟨(ad291.add ((x5_1).toNat * 6)).block,(ad291.add ((x5_1).toNat * 6)).off+3,none⟩=some (.string ((rd_T28 l0 x5_1).f3))∧w'.cell? ⟨(ad291.add ((x5_1).toNat * 6)).block,(ad291.add ((x5_1).toNat * 6)).off+4,none⟩=some (.slice A293_4 ((rd_T28 l0 x5_1).f4).length c293_4)∧w'.cell? ⟨(ad291.add ((x5_1).toNat * 6)).block,(ad291.add ((x5_1).toNat * 6)).off+5,none⟩=some (.slice A293_5 ((rd_T28 l0 x5_1).f5).length c293_5)) (ds:=[]) #[F_,F_,F_,F_,F_,F_,F_,F_] (by kernel_rfl) rfl rfl ⟨((HB.out.cell (bl_ w _ hw293_0)).trans hw293_0),((HB.out.cell (bl_ w _ hw293_1)).trans hw293_1),((HB.out.cell (bl_ w _ hw293_2)).trans hw293_2),((HB.out.cell (bl_ w _ hw293_3)).trans hw293_3),((HB.out.cell (bl_ w _ hw293_4)).trans hw293_4),((HB.out.cell (bl_ w _ hw293_5)).trans hw293_5)⟩ (fun hHeld=>?_);refine with_tabW laws_heldNodeS.tab10 laws_heldNodeS.bits10 (fun HT_ HW_=>?_)
        generalize wr.drew=w36 at HB HR293_4 HR293_5 hx293_0 hx293_1 hx293_2 hx293_3 hx293_4 hx293_5 hHeld ⊢
        refine pure_ (i:=0) (N:=some 30) (v:=?_) (a':=?_) #[T_,F_,F_,F_,F_,F_,F_,F_] rfl rfl (any_of HT_.out (by kernel_rfl)) (fun _ _ _ h=>h) (Or.inl ⟨by rfl,?_⟩) ?_ ?_
        rotate_left
        ·intro w'
         go_simp
         with_reducible rfl
        rotate_left
        ·simp only [Act.put,ls_,lz_,lc_,i64_w,i32_w]
         rfl
        refine pure_ (i:=1) (N:=some 31) (v:=?_) (a':=?_) #[T_,T_,F_,F_,F_,F_,F_,F_] rfl rfl (any_of HT_.out (by kernel_rfl)) (fun _ _ _ h=>h) (Or.inl ⟨by rfl,?_⟩) ?_ ?_
        rotate_left
        ·intro w'
         go_simp
         with_reducible rfl
        rotate_left
        ·simp only [Act.put,ls_,lz_,lc_,i64_w,i32_w]
         rfl
        refine pure_ (i:=2) (N:=some 32) (v:=?_) (a':=?_) #[T_,T_,T_,F_,F_,F_,F_,F_] rfl rfl (any_of HT_.out (by kernel_rfl)) (fun _ _ _ h=>h) (Or.inl ⟨by rfl,?_⟩) ?_ ?_
        rotate_left
        ·intro w'
         go_simp
         with_reducible rfl
        rotate_left
        ·simp only [Act.put,ls_,lz_,lc_,i64_w,i32_w]
         rfl
        refine pure_ (i:=3) (N:=some 33) (v:=?_) (a':=?_) #[T_,T_,T_,T_,F_,F_,F_,F_] rfl rfl (any_of HT_.out (by kernel_rfl)) (fun _ _ _ h=>h) (Or.inl ⟨by rfl,?_⟩) ?_ ?_
        rotate_left
        ·intro w'
         go_simp
         with_reducible rfl
        rotate_left
        ·simp only [Act.put,ls_,lz_,lc_,i64_w,i32_w]
         rfl
        refine pure_ (i:=5) (N:=some 35) (v:=?_) (a':=?_) #[T_,T_,T_,T_,F_,T_,F_,F_] rfl rfl (any_of HT_.out (by kernel_rfl)) (fun _ _ _ h=>h) (Or.inl ⟨by rfl,?_⟩) ?_ ?_
        rotate_left
        ·intro w'
         go_simp
         with_reducible rfl
        rotate_left
        ·simp only [Act.put,ls_,lz_,lc_,i64_w,i32_w]
         rfl
        refine take_ (i:=4) (N:=some 34) (v:=?_) (a':=?_) #[T_,T_,T_,T_,T_,T_,F_,F_] rfl rfl (take_ofW HT_.out HW_.out (by kernel_rfl)) (fun _ _ _ h=>h) (Or.inl ⟨by rfl,?_⟩) hHeld ?_ ?_
        rotate_left
        ·rintro w' ⟨s0,s1,s2,s3,s4,s5⟩
         go_simp
         with_reducible rfl
        rotate_left
        ·simp only [Act.put,ls_,lz_,lc_,i64_w,i32_w]
         rfl
        refine one_ (i:=6) (N:=some 36) #[T_,T_,T_,T_,T_,T_,T_,F_] rfl rfl (one_of HT_.out (by kernel_rfl)) (by decide) (fun K hK=>?_)
        refine goes_ Try.func32 (by kernel_rfl) rfl #[.int .i64 (wrap64 ((wrap64 (x1_1+1))+1))] (by rfl) rfl rfl (by (try simp only [List.map_toArray,List.map_cons,List.map_nil]);first|done|rfl|(simp only [ld_,lt_];rfl)) ?_
        with_reducible refine (laws_markText.calls k1 (wrap64 ((wrap64 (x1_1+1))+1)) t294 _ A7.out).mono ?_
        rintro e w37 ⟨rfl,hb⟩
        refine ⟨_,rfl,?_⟩
        have n0_:=A_ (bp_ (by repeat (first|(with_reducible first|exact HB.out|apply ba_|apply pd_|apply b1_)|exact HB.out)) hb)
        clear HB
        have HB:=n0_
        clear n0_
        (try clear hb)
        (try clear hb2)
        (try clear hk)
        (try clear hi)
        refine hK.out _ _ ⟨((HB.out.cell (bl_ w _ hw293_0)).trans hw293_0),((HB.out.cell (bl_ w _ hw293_1)).trans hw293_1),((HB.out.cell (bl_ w _ hw293_2)).trans hw293_2),((HB.out.cell (bl_ w _ hw293_3)).trans hw293_3),((HB.out.cell (bl_ w _ hw293_4)).trans hw293_4),((HB.out.cell (bl_ w _ hw293_5)).trans hw293_5)⟩ (fun hHeld=>?_)
        clear hK K
        refine norm_ (a':=?_) ?_ ?_
        rotate_left
        ·show Act.put _ (some 36) _=_
         simp only [Act.put,ls_,lz_,lc_,i64_w,i32_w]
         rfl
        refine pure_ (i:=7) (N:=some 37) (v:=?_) (a':=?_) #[T_,T_,T_,T_,T_,T_,T_,T_] rfl rfl (any_of HT_.out (by kernel_rfl)) (fun _ _ _ h=>h) (Or.inl ⟨by rfl,?_⟩) ?_ ?_
        rotate_left
        ·intro w'
         go_simp
         with_reducible rfl
        rotate_left
        ·simp only [Act.put,ls_,lz_,lc_,i64_w,i32_w]
         rfl
        refine done_ (done_of HT_.out (by kernel_rfl)) ?_
        try go_wp2
        go_ret
        exact ⟨by first|rfl|(simp [errW_none,errW_some] <;> rfl)|(simp [*,errW_none,errW_some] <;> rfl),by repeat (first|(with_reducible first|exact HB.out|apply ba_|apply pd_|apply b1_)|exact HB.out)⟩
      ·rw [if_neg c6] at H
       have c6b0:(((rd_T28 l0 x5_1).f1) == (wrap64 (x1_1+1)))=false:=beq_eq_false_iff_ne.mpr c6
       have c6b1:(((rd_T28 l0 x5_1).f1) != (wrap64 (x1_1+1)))=true:=bne_iff_ne.mpr c6
       obtain rfl:=oi_ H
       have p291:0≤(x5_1:Int):=od_ (by first|(with_reducible assumption)|assumption)
       have q291:x5_1<(l0.length:Int):=od_ (by first|(with_reducible assumption)|assumption)
       obtain ⟨ad291,A291_4,c291_4,A291_5,c291_5,e291,hx291_0,hx291_1,hx291_2,hx291_3,hx291_4,hx291_5,hl291_4,hi291_4,hl291_5,hi291_5⟩:=at_T28 HR0.out x5_1 p291 q291
       cases e291
       replace hx291_0:=(HB.out.cell (bl_ w _ hx291_0)).trans hx291_0
       replace hx291_1:=(HB.out.cell (bl_ w _ hx291_1)).trans hx291_1
       replace hx291_2:=(HB.out.cell (bl_ w _ hx291_2)).trans hx291_2
       replace hx291_3:=(HB.out.cell (bl_ w _ hx291_3)).trans hx291_3
       replace hx291_4:=(HB.out.cell (bl_ w _ hx291_4)).trans hx291_4
       replace hx291_5:=(HB.out.cell (bl_ w _ hx291_5)).trans hx291_5
       have HR291_4:=A_ hi291_4
       have HC291_4:=A_ hl291_4
       clear hi291_4 hl291_4
       have HR291_5:=A_ hi291_5
       have HC291_5:=A_ hl291_5
       clear hi291_5 hl291_5
       replace p291:=eq_true p291
       replace q291:=eq_true q291
       have p292:0≤(x5_1:Int):=od_ (by first|(with_reducible assumption)|assumption)
       have q292:x5_1<(l0.length:Int):=od_ (by first|(with_reducible assumption)|assumption)
       obtain ⟨ad292,A292_4,c292_4,A292_5,c292_5,e292,hx292_0,hx292_1,hx292_2,hx292_3,hx292_4,hx292_5,hl292_4,hi292_4,hl292_5,hi292_5⟩:=at_T28 HR0.out x5_1 p292 q292
       obtain rfl:ad291=ad292:=(by injection e292)
       try (have h_:=hx292_4.symm.trans hw290_4;injection h_ with h_;injection h_ with h1_ h3_ h2_;subst h1_;subst h2_)
       try (have h_:=hx292_5.symm.trans hw290_5;injection h_ with h_;injection h_ with h1_ h3_ h2_;subst h1_;subst h2_)
       replace hx292_0:=(HB.out.cell (bl_ w _ hx292_0)).trans hx292_0
       replace hx292_1:=(HB.out.cell (bl_ w _ hx292_1)).trans hx292_1
       replace hx292_2:=(HB.out.cell (bl_ w _ hx292_2)).trans hx292_2
       replace hx292_3:=(HB.out.cell (bl_ w _ hx292_3)).trans hx292_3
       replace hx292_4:=(HB.out.cell (bl_ w _ hx292_4)).trans hx292_4
       replace hx292_5:=(HB.out.cell (bl_ w _ hx292_5)).trans hx292_5
       have HR292_4:=A_ hi292_4
       have HC292_4:=A_ hl292_4
       clear hi292_4 hl292_4
       have HR292_5:=A_ hi292_5
       have HC292_5:=A_ hl292_5
       clear hi292_5 hl292_5
       replace p292:=eq_true p292
       replace q292:=eq_true q292
       have ea_:=oi_ (hx291_4.symm.trans hx292_4)
       injection ea_ with ea_ en_ ec_
       subst ea_
       subst ec_
       clear en_
       have ea_:=oi_ (hx291_5.symm.trans hx292_5)
       injection ea_ with ea_ en_ ec_
       subst ea_
       subst ec_
       clear en_
       go_wp2
       go_ret
       exact ⟨by first|rfl|(simp [errW_none,errW_some] <;> rfl)|(simp [*,errW_none,errW_some] <;> rfl),by repeat (first|(with_reducible first|exact HB.out|apply ba_|apply pd_|apply b1_)|exact HB.out)⟩
     ·rw [if_neg c5] at H
      have c5b0:(((rd_T28 l0 x5_1).f0) == x1_1)=false:=beq_eq_false_iff_ne.mpr c5
      have c5b1:(((rd_T28 l0 x5_1).f0) != x1_1)=true:=bne_iff_ne.mpr c5
      obtain rfl:=oi_ H
      have p291:0≤(x5_1:Int):=od_ (by first|(with_reducible assumption)|assumption)
      have q291:x5_1<(l0.length:Int):=od_ (by first|(with_reducible assumption)|assumption)
      obtain ⟨ad291,A291_4,c291_4,A291_5,c291_5,e291,hx291_0,hx291_1,hx291_2,hx291_3,hx291_4,hx291_5,hl291_4,hi291_4,hl291_5,hi291_5⟩:=at_T28 HR0.out x5_1 p291 q291
      cases e291
      replace hx291_0:=(HB.out.cell (bl_ w _ hx291_0)).trans hx291_0
      replace hx291_1:=(HB.out.cell (bl_ w _ hx291_1)).trans hx291_1
      replace hx291_2:=(HB.out.cell (bl_ w _ hx291_2)).trans hx291_2
      replace hx291_3:=(HB.out.cell (bl_ w _ hx291_3)).trans hx291_3
      replace hx291_4:=(HB.out.cell (bl_ w _ hx291_4)).trans hx291_4
      replace hx291_5:=(HB.out.cell (bl_ w _ hx291_5)).trans hx291_5
      have HR291_4:=A_ hi291_4
      have HC291_4:=A_ hl291_4
      clear hi291_4 hl291_4
      have HR291_5:=A_ hi291_5
      have HC291_5:=A_ hl291_5
      clear hi291_5 hl291_5
      replace p291:=eq_true p291
      replace q291:=eq_true q291
      go_wp2
      go_ret
      exact ⟨by first|rfl|(simp [errW_none,errW_some] <;> rfl)|(simp [*,errW_none,errW_some] <;> rfl),by repeat (first|(with_reducible first|exact HB.out|apply ba_|apply pd_|apply b1_)|exact HB.out)⟩
    ·rw [if_neg c4] at H
     exact absurd H (by simp)
   ·rw [if_neg c3] at H
    have c3b0:decide (x5_1<(l0.length:Int))=false:=df_ c3
    clear c3
    obtain rfl:=oi_ H
    go_wp2
    go_ret
    exact ⟨by first|rfl|(simp [errW_none,errW_some] <;> rfl)|(simp [*,errW_none,errW_some] <;> rfl),by repeat (first|(with_reducible first|exact HB.out|apply ba_|apply pd_|apply b1_)|exact HB.out)⟩
end Go.Proofs.Ytbeplhbkoaopgaa.PFnExactSetWords
