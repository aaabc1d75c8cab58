/- By a program of this session, out of the kit's print and contracts made by hand: the machine side of a law; Lean checks it. No conditions. -/
import Derived.Test.YtbeplhbkoaopgaaPFnExactRemoveAtx0
import Derived.Test.YtbeplhbkoaopgaaPFnExactRemoveAtx7
import Derived.Test.YtbeplhbkoaopgaaPFnExactRemoveAtx9
namespace Go.Proofs.Ytbeplhbkoaopgaa.PFnExactRemoveAt
open Go.RowKit Go.Proofs.YtbeplhbkoaopgaaW.PrintWords Go.Proofs.YtbeplhbkoaopgaaW.PrintLast Go.Proofs.YtbeplhbkoaopgaaW.PrintMore
attribute [local go_sem] max2_int min2_int max_two min_two max_three min_three max_four min_four
set_option linter.unusedVariables false
set_option linter.unusedSimpArgs false
/-! ### laws_heldNodeS: function 20 -/
mutual
def laws_heldNodeS.l0:Nat→List (S28)→Int→Int→Option (Int)
 | 0,_,_,_=>none
 | k+1,x0,x1,x5=>if x5<(x0.length:Int) then (if 0≤x5 then (if ((rd_T28 x0 x5).f0)=x1 then (if ((rd_T28 x0 x5).f1)=(wrap64 (x1+1)) then ((laws_markText.f k (wrap64 ((wrap64 (x1+1))+1))).bind fun t159=>(if ((rd_T28 x0 x5).f2).toList=t159.toList then ((laws_markText.f k (wrap64 ((wrap64 ((wrap64 (x1+1))+1))+1))).bind fun t161=>(if ((rd_T28 x0 x5).f3).toList=t161.toList then ((laws_heldAttrS.f k ((rd_T28 x0 x5).f4) (wrap64 ((wrap64 ((wrap64 ((wrap64 (x1+1))+1))+1))+1))).bind fun t163=>(if t163<0 then (some (-1)) else ((laws_heldNodeS.f k ((rd_T28 x0 x5).f5) t163).bind fun t165=>(if t165<0 then (some (-1)) else (laws_heldNodeS.l0 k x0 t165 (wrap64 (x5+1))))))) else (some (-1)))) else (some (-1)))) else (some (-1))) else (some (-1))) else (none)) else (some x1)
def laws_heldNodeS.f:Nat→List (S28)→Int→Option (Int)
 | 0,_,_=>none
 | k+1,l0,a1=>laws_heldNodeS.l0 k l0 a1 0
end
theorem laws_heldNodeS.mono_l:∀ k,(∀ y0 y1,LeO (laws_heldNodeS.f k y0 y1) (laws_heldNodeS.f (k+1) y0 y1))∧(∀ y0 y1 y2,LeO (laws_heldNodeS.l0 k y0 y1 y2) (laws_heldNodeS.l0 (k+1) y0 y1 y2))
 | 0=>⟨fun _ _ r h=>by simp [laws_heldNodeS.f] at h,fun _ _ _ r h=>by simp [laws_heldNodeS.l0] at h⟩
 | k+1=>by
  obtain ⟨ih0,ih1⟩:=laws_heldNodeS.mono_l k
  refine ⟨?_,?_⟩
  ·intro y0 y1
   unfold laws_heldNodeS.f
   repeat' first
   | (with_reducible exact ih0 _ _)
   | (with_reducible exact ih1 _ _ _)
   | (with_reducible exact laws_heldAttrS.mono _ _ _)
   | (with_reducible exact laws_markText.mono _ _)
   | (with_reducible exact LeO.refl _)
   | (with_reducible exact LeO.none _)
   | (with_reducible refine LeO.ite ?_ ?_)
   | (with_reducible refine LeO.bind ?_ (fun _=>?_))
   | exact ih0 _ _
   | exact ih1 _ _ _
   | exact laws_heldAttrS.mono _ _ _
   | exact laws_markText.mono _ _
   | exact LeO.none _
   | refine LeO.ite ?_ ?_
   | refine LeO.bind ?_ (fun _=>?_)
  ·intro y0 y1 y2
   unfold laws_heldNodeS.l0
   repeat' first
   | (with_reducible exact ih0 _ _)
   | (with_reducible exact ih1 _ _ _)
   | (with_reducible exact laws_heldAttrS.mono _ _ _)
   | (with_reducible exact laws_markText.mono _ _)
   | (with_reducible exact LeO.refl _)
   | (with_reducible exact LeO.none _)
   | (with_reducible refine LeO.ite ?_ ?_)
   | (with_reducible refine LeO.bind ?_ (fun _=>?_))
   | exact ih0 _ _
   | exact ih1 _ _ _
   | exact laws_heldAttrS.mono _ _ _
   | exact laws_markText.mono _ _
   | exact LeO.none _
   | refine LeO.ite ?_ ?_
   | refine LeO.bind ?_ (fun _=>?_)
theorem laws_heldNodeS.mono:∀ a0 a1 k,LeO (laws_heldNodeS.f k a0 a1) (laws_heldNodeS.f (k+1) a0 a1):=by
 intro a0 a1 k
 obtain ⟨ih0,ih1⟩:=laws_heldNodeS.mono_l k
 exact ih0 a0 a1
def laws_heldNodeS.T10:Bool × List (List Nat × List Nat):=(true,[([],[]),([],[]),([0,1],[0,1]),([2],[2]),([3],[3]),([],[]),([5],[5]),([4,6],[4,6])])
def laws_heldNodeS.B10:List Nat:=[0,0,3,7,15,0,32,127]
theorem laws_heldNodeS.tab10:rtab .any (opsOf Try.f20 10)=laws_heldNodeS.T10:=by kernel_rfl
theorem laws_heldNodeS.bits10:waitsOk laws_heldNodeS.T10.2 laws_heldNodeS.B10=true:=by kernel_rfl
def laws_heldNodeS.T13:Bool × List (List Nat × List Nat):=(true,[([],[]),([],[]),([0,1],[0,1]),([2],[2]),([3],[3]),([],[]),([5],[5]),([4,6],[4,6])])
def laws_heldNodeS.B13:List Nat:=[0,0,3,7,15,0,32,127]
theorem laws_heldNodeS.tab13:rtab .any (opsOf Try.f20 13)=laws_heldNodeS.T13:=by kernel_rfl
theorem laws_heldNodeS.bits13:waitsOk laws_heldNodeS.T13.2 laws_heldNodeS.B13=true:=by kernel_rfl
set_option maxHeartbeats 8000000 in
set_option maxRecDepth 100000 in
theorem laws_heldNodeS.calls (k:Nat):∀ (A0:Option Addr) (c0:Nat) (l0:List (S28)) (a1:Int) (r:Int) (w:World) (hr0:Kd.C k28 w A0 l0.length l0) (hc0:l0.length≤c0) (h:laws_heldNodeS.f k l0 a1=some r),
 Calls Try.prog 20 #[.slice A0 l0.length c0,.int .i64 a1] w fun e w'=>e=.returned (.int .i64 r)∧Below w.heap.size w w':=by
 induction k using Nat.strongRecOn with
 | _ k ih =>
 intro A0 c0 l0 a1 r w hr0 hc0 h
 cases k with
 | zero=>exact absurd h (by simp [laws_heldNodeS.f])
 | succ k =>
 simp only [laws_heldNodeS.f] at h
 have HR0:=A_ hr0
 have HC0:=A_ hc0
 clear hr0 hc0
 have HB:=A_ (Below.refl w.heap.size w)
 have H:(laws_heldNodeS.l0 k l0 a1 0)=some r:=h
 clear h
 have H':=A_ H
 clear H
 go_enter Try.func20,Try.ntmps20
 go_wp2
 go_loopg [1,5] k (fun kq v1 v5 w'=>∃ (x1_1:Int) (x5_1:Int),v1=.int .i64 x1_1∧v5=.int .i64 x5_1∧Aside0 (laws_heldNodeS.l0 kq l0 x1_1 x5_1=some r)∧Aside0 (kq≤k)∧Aside0 (Below w.heap.size w w'))
 case atStart=>exact ⟨(a1),(0),(by first|rfl|(simp;done)|(simp [*];done)),(by first|rfl|(simp;done)|(simp [*];done)),H',⟨Nat.le_refl _⟩,⟨by repeat (first|(with_reducible first|exact HB.out|apply ba_|apply pd_|apply b1_)|exact HB.out)⟩⟩
 case round =>
  clear H'
  try clear c2
  try clear p2
  obtain ⟨x1_1,x5_1,rfl,rfl,HA,HK1,HB⟩:=hrel
  cases gk with
  | zero=>exact absurd HA.out (by simp [laws_heldNodeS.l0])
  | succ k1 =>
   have H:=HA.out
   clear HA
   simp only [laws_heldNodeS.l0] at H
   by_cases c3:x5_1<(l0.length:Int)
   ·rw [if_pos c3] at H
    have c3b0:decide (x5_1<(l0.length:Int))=true:=dt_ c3
    clear c3
    by_cases c4:0≤x5_1
    ·rw [if_pos c4] at H
     have c4b0:decide (0≤x5_1)=true:=dt_ c4
     clear c4
     by_cases c5:((rd_T28 l0 x5_1).f0)=x1_1
     ·rw [if_pos c5] at H
      have c5b0:(((rd_T28 l0 x5_1).f0) == x1_1)=true:=beq_iff_eq.mpr c5
      have c5b1:(((rd_T28 l0 x5_1).f0) != x1_1)=false:=bne_eq_false_iff_eq.mpr c5
      clear c5
      by_cases c6:((rd_T28 l0 x5_1).f1)=(wrap64 (x1_1+1))
      ·rw [if_pos c6] at H
       have c6b0:(((rd_T28 l0 x5_1).f1) == (wrap64 (x1_1+1)))=true:=beq_iff_eq.mpr c6
       have c6b1:(((rd_T28 l0 x5_1).f1) != (wrap64 (x1_1+1)))=false:=bne_eq_false_iff_eq.mpr c6
       clear c6
       replace H:=ob_ H
       obtain ⟨t159,A70,H⟩:=H
       replace H:(if ((rd_T28 l0 x5_1).f2).toList=t159.toList then ((laws_markText.f k1 (wrap64 ((wrap64 ((wrap64 (x1_1+1))+1))+1))).bind fun t161=>(if ((rd_T28 l0 x5_1).f3).toList=t161.toList then ((laws_heldAttrS.f k1 ((rd_T28 l0 x5_1).f4) (wrap64 ((wrap64 ((wrap64 ((wrap64 (x1_1+1))+1))+1))+1))).bind fun t163=>(if t163<0 then (some (-1)) else ((laws_heldNodeS.f k1 ((rd_T28 l0 x5_1).f5) t163).bind fun t165=>(if t165<0 then (some (-1)) else (laws_heldNodeS.l0 k1 l0 t165 (wrap64 (x5_1+1))))))) else (some (-1)))) else (some (-1)))=some r:=H
       have A7:=A_ A70
       clear A70
       by_cases c8:((rd_T28 l0 x5_1).f2).toList=t159.toList
       ·rw [if_pos c8] at H
        have c8b0:(((rd_T28 l0 x5_1).f2).toList == t159.toList)=true:=beq_iff_eq.mpr c8
        have c8b1:(((rd_T28 l0 x5_1).f2).toList != t159.toList)=false:=bne_eq_false_iff_eq.mpr c8
        clear c8
        replace H:=ob_ H
        obtain ⟨t161,A90,H⟩:=H
        replace H:(if ((rd_T28 l0 x5_1).f3).toList=t161.toList then ((laws_heldAttrS.f k1 ((rd_T28 l0 x5_1).f4) (wrap64 ((wrap64 ((wrap64 ((wrap64 (x1_1+1))+1))+1))+1))).bind fun t163=>(if t163<0 then (some (-1)) else ((laws_heldNodeS.f k1 ((rd_T28 l0 x5_1).f5) t163).bind fun t165=>(if t165<0 then (some (-1)) else (laws_heldNodeS.l0 k1 l0 t165 (wrap64 (x5_1+1))))))) else (some (-1)))=some r:=H
        have A9:=A_ A90
        clear A90
        by_cases c10:((rd_T28 l0 x5_1).f3).toList=t161.toList
        ·rw [if_pos c10] at H
         have c10b0:(((rd_T28 l0 x5_1).f3).toList == t161.toList)=true:=beq_iff_eq.mpr c10
         have c10b1:(((rd_T28 l0 x5_1).f3).toList != t161.toList)=false:=bne_eq_false_iff_eq.mpr c10
         clear c10
         replace H:=ob_ H
         obtain ⟨t163,A110,H⟩:=H
         replace H:(if t163<0 then (some (-1)) else ((laws_heldNodeS.f k1 ((rd_T28 l0 x5_1).f5) t163).bind fun t165=>(if t165<0 then (some (-1)) else (laws_heldNodeS.l0 k1 l0 t165 (wrap64 (x5_1+1))))))=some r:=H
         have A11:=A_ A110
         clear A110
         by_cases c12:t163<0
         ·rw [if_pos c12] at H
          have c12b0:decide (t163<0)=true:=dt_ c12
          clear c12
          obtain rfl:=oi_ H
          have p156:0≤(x5_1:Int):=od_ (by first|(with_reducible assumption)|assumption)
          have q156:x5_1<(l0.length:Int):=od_ (by first|(with_reducible assumption)|assumption)
          obtain ⟨ad156,A156_4,c156_4,A156_5,c156_5,e156,hx156_0,hx156_1,hx156_2,hx156_3,hx156_4,hx156_5,hl156_4,hi156_4,hl156_5,hi156_5⟩:=at_T28 HR0.out x5_1 p156 q156
          cases e156
          replace hx156_0:=(HB.out.cell (bl_ w _ hx156_0)).trans hx156_0
          replace hx156_1:=(HB.out.cell (bl_ w _ hx156_1)).trans hx156_1
          replace hx156_2:=(HB.out.cell (bl_ w _ hx156_2)).trans hx156_2
          replace hx156_3:=(HB.out.cell (bl_ w _ hx156_3)).trans hx156_3
          replace hx156_4:=(HB.out.cell (bl_ w _ hx156_4)).trans hx156_4
          replace hx156_5:=(HB.out.cell (bl_ w _ hx156_5)).trans hx156_5
          have HR156_4:=A_ hi156_4
          have HC156_4:=A_ hl156_4
          clear hi156_4 hl156_4
          have HR156_5:=A_ hi156_5
          have HC156_5:=A_ hl156_5
          clear hi156_5 hl156_5
          replace p156:=eq_true p156
          replace q156:=eq_true q156
          have p157:0≤(x5_1:Int):=od_ (by first|(with_reducible assumption)|assumption)
          have q157:x5_1<(l0.length:Int):=od_ (by first|(with_reducible assumption)|assumption)
          obtain ⟨ad157,A157_4,c157_4,A157_5,c157_5,e157,hx157_0,hx157_1,hx157_2,hx157_3,hx157_4,hx157_5,hl157_4,hi157_4,hl157_5,hi157_5⟩:=at_T28 HR0.out x5_1 p157 q157
          obtain rfl:ad156=ad157:=(by injection e157)
          try (have h_:=hx157_4.symm.trans hw155_4;injection h_ with h_;injection h_ with h1_ h3_ h2_;subst h1_;subst h2_)
          try (have h_:=hx157_5.symm.trans hw155_5;injection h_ with h_;injection h_ with h1_ h3_ h2_;subst h1_;subst h2_)
          replace hx157_0:=(HB.out.cell (bl_ w _ hx157_0)).trans hx157_0
          replace hx157_1:=(HB.out.cell (bl_ w _ hx157_1)).trans hx157_1
          replace hx157_2:=(HB.out.cell (bl_ w _ hx157_2)).trans hx157_2
          replace hx157_3:=(HB.out.cell (bl_ w _ hx157_3)).trans hx157_3
          replace hx157_4:=(HB.out.cell (bl_ w _ hx157_4)).trans hx157_4
          replace hx157_5:=(HB.out.cell (bl_ w _ hx157_5)).trans hx157_5
          have HR157_4:=A_ hi157_4
          have HC157_4:=A_ hl157_4
          clear hi157_4 hl157_4
          have HR157_5:=A_ hi157_5
          have HC157_5:=A_ hl157_5
          clear hi157_5 hl157_5
          replace p157:=eq_true p157
          replace q157:=eq_true q157
          have ea_:=oi_ (hx156_4.symm.trans hx157_4)
          injection ea_ with ea_ en_ ec_
          subst ea_
          subst ec_
          clear en_
          have ea_:=oi_ (hx156_5.symm.trans hx157_5)
          injection ea_ with ea_ en_ ec_
          subst ea_
          subst ec_
          clear en_
          try go_wp2
          have n0_:=A_ (b1_ HB.out)
          clear HB
          have HB:=n0_
          clear n0_
          have p158:0≤(x5_1:Int):=od_ (by first|(with_reducible assumption)|assumption)
          have q158:x5_1<(l0.length:Int):=od_ (by first|(with_reducible assumption)|assumption)
          obtain ⟨ad158,A158_4,c158_4,A158_5,c158_5,e158,hx158_0,hx158_1,hx158_2,hx158_3,hx158_4,hx158_5,hl158_4,hi158_4,hl158_5,hi158_5⟩:=at_T28 HR0.out x5_1 p158 q158
          have hw158_5:=hx158_5
          have hw158_4:=hx158_4
          have hw158_3:=hx158_3
          have hw158_2:=hx158_2
          have hw158_1:=hx158_1
          have hw158_0:=hx158_0
          obtain rfl:ad156=ad158:=(by injection e158)
          try (have h_:=hx158_4.symm.trans hw156_4;injection h_ with h_;injection h_ with h1_ h3_ h2_;subst h1_;subst h2_)
          try (have h_:=hx158_5.symm.trans hw156_5;injection h_ with h_;injection h_ with h1_ h3_ h2_;subst h1_;subst h2_)
          replace hx158_0:=(HB.out.cell (bl_ w _ hx158_0)).trans hx158_0
          replace hx158_1:=(HB.out.cell (bl_ w _ hx158_1)).trans hx158_1
          replace hx158_2:=(HB.out.cell (bl_ w _ hx158_2)).trans hx158_2
          replace hx158_3:=(HB.out.cell (bl_ w _ hx158_3)).trans hx158_3
          replace hx158_4:=(HB.out.cell (bl_ w _ hx158_4)).trans hx158_4
          replace hx158_5:=(HB.out.cell (bl_ w _ hx158_5)).trans hx158_5
          have HR158_4:=A_ hi158_4
          have HC158_4:=A_ hl158_4
          clear hi158_4 hl158_4
          have HR158_5:=A_ hi158_5
          have HC158_5:=A_ hl158_5
          clear hi158_5 hl158_5
          replace p158:=eq_true p158
          replace q158:=eq_true q158
          refine start_ (n:=8) (S:=fun w'=>w'.cell? (ad156.add ((x5_1).toNat * 6))=some (.int .i64 ((rd_T28 l0 x5_1).f0))∧w'.cell? ⟨(ad156.add ((x5_1).toNat * 6)).block,(ad156.add ((x5_1).toNat * 6)).off+1,none⟩=some (.int .i64 ((rd_T28 l0 x5_1).f1))∧w'.cell? ⟨(ad156.add ((x5_1).toNat * 6)).block,(ad156.add ((x5_1).toNat * 6)).off+2,none⟩=some (.string ((rd_T28 l0 x5_1).f2))∧w'.cell? ⟨(ad156.add ((x5_1).toNat * 6)).block,(ad156.add ((x5_1).toNat * 6)).off+3,none⟩=some (.string ((rd_T28 l0 x5_1).f3))∧w'.cell? ⟨(ad156.add ((x5_1).toNat * 6)).block,(ad156.add ((x5_1).toNat * 6)).off+4,none⟩=some (.slice A158_4 ((rd_T28 l0 x5_1).f4).length c158_4)∧w'.cell? ⟨(ad156.add ((x5_1).toNat * 6)).block,(ad156.add ((x5_1).toNat * 6)).off+5,none⟩=some (.slice A158_5 ((rd_T28 l0 x5_1).f5).length c158_5)) (ds:=[]) #[F_,F_,F_,F_,F_,F_,F_,F_] (by kernel_rfl) rfl rfl ⟨((HB.out.cell (bl_ w _ hw158_0)).trans hw158_0),((HB.out.cell (bl_ w _ hw158_1)).trans hw158_1),((HB.out.cell (bl_ w _ hw158_2)).trans hw158_2),((HB.out.cell (bl_ w _ hw158_3)).trans hw158_3),((HB.out.cell (bl_ w _ hw158_4)).trans hw158_4),((HB.out.cell (bl_ w _ hw158_5)).trans hw158_5)⟩ (fun hHeld=>?_);refine with_tabW laws_heldNodeS.tab10 laws_heldNodeS.bits10 (fun HT_ HW_=>?_)
          generalize wr.drew=w13 at HB HR158_4 HR158_5 hx158_0 hx158_1 hx158_2 hx158_3 hx158_4 hx158_5 hHeld ⊢
          refine pure_ (i:=0) (N:=some 30) (v:=?_) (a':=?_) #[T_,F_,F_,F_,F_,F_,F_,F_] rfl rfl (any_of HT_.out (by kernel_rfl)) (fun _ _ _ h=>h) (Or.inl ⟨by rfl,?_⟩) ?_ ?_
          rotate_left
          ·intro w'
           go_simp
           with_reducible rfl
          rotate_left
          ·simp only [Act.put,ls_,lz_,lc_,i64_w,i32_w]
           rfl
          refine pure_ (i:=1) (N:=some 31) (v:=?_) (a':=?_) #[T_,T_,F_,F_,F_,F_,F_,F_] rfl rfl (any_of HT_.out (by kernel_rfl)) (fun _ _ _ h=>h) (Or.inl ⟨by rfl,?_⟩) ?_ ?_
          rotate_left
          ·intro w'
           go_simp
           with_reducible rfl
          rotate_left
          ·simp only [Act.put,ls_,lz_,lc_,i64_w,i32_w]
           rfl
          refine pure_ (i:=2) (N:=some 32) (v:=?_) (a':=?_) #[T_,T_,T_,F_,F_,F_,F_,F_] rfl rfl (any_of HT_.out (by kernel_rfl)) (fun _ _ _ h=>h) (Or.inl ⟨by rfl,?_⟩) ?_ ?_
          rotate_left
          ·intro w'
           go_simp
           with_reducible rfl
          rotate_left
          ·simp only [Act.put,ls_,lz_,lc_,i64_w,i32_w]
           rfl
          refine pure_ (i:=3) (N:=some 33) (v:=?_) (a':=?_) #[T_,T_,T_,T_,F_,F_,F_,F_] rfl rfl (any_of HT_.out (by kernel_rfl)) (fun _ _ _ h=>h) (Or.inl ⟨by rfl,?_⟩) ?_ ?_
          rotate_left
          ·intro w'
           go_simp
           with_reducible rfl
          rotate_left
          ·simp only [Act.put,ls_,lz_,lc_,i64_w,i32_w]
           rfl
          refine pure_ (i:=5) (N:=some 35) (v:=?_) (a':=?_) #[T_,T_,T_,T_,F_,T_,F_,F_] rfl rfl (any_of HT_.out (by kernel_rfl)) (fun _ _ _ h=>h) (Or.inl ⟨by rfl,?_⟩) ?_ ?_
          rotate_left
          ·intro w'
           go_simp
           with_reducible rfl
          rotate_left
          ·simp only [Act.put,ls_,lz_,lc_,i64_w,i32_w]
           rfl
          refine take_ (i:=4) (N:=some 34) (v:=?_) (a':=?_) #[T_,T_,T_,T_,T_,T_,F_,F_] rfl rfl (take_ofW HT_.out HW_.out (by kernel_rfl)) (fun _ _ _ h=>h) (Or.inl ⟨by rfl,?_⟩) hHeld ?_ ?_
          rotate_left
          ·rintro w' ⟨s0,s1,s2,s3,s4,s5⟩
           go_simp
           with_reducible rfl
          rotate_left
          ·simp only [Act.put,ls_,lz_,lc_,i64_w,i32_w]
           rfl
          refine one_ (i:=6) (N:=some 36) #[T_,T_,T_,T_,T_,T_,T_,F_] rfl rfl (one_of HT_.out (by kernel_rfl)) (by decide) (fun K hK=>?_)
          refine goes_ Try.func32 (by kernel_rfl) rfl #[.int .i64 (wrap64 ((wrap64 (x1_1+1))+1))] (by rfl) rfl rfl (by (try simp only [List.map_toArray,List.map_cons,List.map_nil]);first|done|rfl|(simp only [ld_,lt_];rfl)) ?_
          with_reducible refine (laws_markText.calls k1 (wrap64 ((wrap64 (x1_1+1))+1)) t159 _ A7.out).mono ?_
          rintro e w14 ⟨rfl,hb⟩
          refine ⟨_,rfl,?_⟩
          have n0_:=A_ (bp_ (by repeat (first|(with_reducible first|exact HB.out|apply ba_|apply pd_|apply b1_)|exact HB.out)) hb)
          clear HB
          have HB:=n0_
          clear n0_
          (try clear hb)
          (try clear hb2)
          (try clear hk)
          (try clear hi)
          refine hK.out _ _ ⟨((HB.out.cell (bl_ w _ hw158_0)).trans hw158_0),((HB.out.cell (bl_ w _ hw158_1)).trans hw158_1),((HB.out.cell (bl_ w _ hw158_2)).trans hw158_2),((HB.out.cell (bl_ w _ hw158_3)).trans hw158_3),((HB.out.cell (bl_ w _ hw158_4)).trans hw158_4),((HB.out.cell (bl_ w _ hw158_5)).trans hw158_5)⟩ (fun hHeld=>?_)
          clear hK K
          refine norm_ (a':=?_) ?_ ?_
          rotate_left
          ·show Act.put _ (some 36) _=_
           simp only [Act.put,ls_,lz_,lc_,i64_w,i32_w]
           rfl
          refine pure_ (i:=7) (N:=some 37) (v:=?_) (a':=?_) #[T_,T_,T_,T_,T_,T_,T_,T_] rfl rfl (any_of HT_.out (by kernel_rfl)) (fun _ _ _ h=>h) (Or.inl ⟨by rfl,?_⟩) ?_ ?_
          rotate_left
          ·intro w'
           go_simp
           with_reducible rfl
          rotate_left
          ·simp only [Act.put,ls_,lz_,lc_,i64_w,i32_w]
           rfl
          refine done_ (done_of HT_.out (by kernel_rfl)) ?_
          try go_wp2
          have n0_:=A_ (b1_ HB.out)
          clear HB
          have HB:=n0_
          clear n0_
          have p160:0≤(x5_1:Int):=od_ (by first|(with_reducible assumption)|assumption)
          have q160:x5_1<(l0.length:Int):=od_ (by first|(with_reducible assumption)|assumption)
          obtain ⟨ad160,A160_4,c160_4,A160_5,c160_5,e160,hx160_0,hx160_1,hx160_2,hx160_3,hx160_4,hx160_5,hl160_4,hi160_4,hl160_5,hi160_5⟩:=at_T28 HR0.out x5_1 p160 q160
          have hw160_5:=hx160_5
          have hw160_4:=hx160_4
          have hw160_3:=hx160_3
          have hw160_2:=hx160_2
          have hw160_1:=hx160_1
          have hw160_0:=hx160_0
          obtain rfl:ad156=ad160:=(by injection e160)
          try (have h_:=hx160_4.symm.trans hw158_4;injection h_ with h_;injection h_ with h1_ h3_ h2_;subst h1_;subst h2_)
          try (have h_:=hx160_5.symm.trans hw158_5;injection h_ with h_;injection h_ with h1_ h3_ h2_;subst h1_;subst h2_)
          replace hx160_0:=(HB.out.cell (bl_ w _ hx160_0)).trans hx160_0
          replace hx160_1:=(HB.out.cell (bl_ w _ hx160_1)).trans hx160_1
          replace hx160_2:=(HB.out.cell (bl_ w _ hx160_2)).trans hx160_2
          replace hx160_3:=(HB.out.cell (bl_ w _ hx160_3)).trans hx160_3
          replace hx160_4:=(HB.out.cell (bl_ w _ hx160_4)).trans hx160_4
          replace hx160_5:=(HB.out.cell (bl_ w _ hx160_5)).trans hx160_5
          have HR160_4:=A_ hi160_4
          have HC160_4:=A_ hl160_4
          clear hi160_4 hl160_4
          have HR160_5:=A_ hi160_5
          have HC160_5:=A_ hl160_5
          clear hi160_5 hl160_5
          replace p160:=eq_true p160
          replace q160:=eq_true q160
          refine start_ (n:=8) (S:=fun w'=>w'.cell? (ad156.add ((x5_1).toNat * 6))=some (.int .i64 ((rd_T28 l0 x5_1).f0))∧w'.cell? ⟨(ad156.add ((x5_1).toNat * 6)).block,(ad156.add ((x5_1).toNat * 6)).off+1,none⟩=some (.int .i64 ((rd_T28 l0 x5_1).f1))∧w'.cell? ⟨(ad156.add ((x5_1).toNat * 6)).block,(ad156.add ((x5_1).toNat * 6)).off+2,none⟩=some (.string ((rd_T28 l0 x5_1).f2))∧w'.cell? ⟨(ad156.add ((x5_1).toNat * 6)).block,(ad156.add ((x5_1).toNat * 6)).off+3,none⟩=some (.string ((rd_T28 l0 x5_1).f3))∧w'.cell? ⟨(ad156.add ((x5_1).toNat * 6)).block,(ad156.add ((x5_1).toNat * 6)).off+4,none⟩=some (.slice A160_4 ((rd_T28 l0 x5_1).f4).length c160_4)∧w'.cell? ⟨(ad156.add ((x5_1).toNat * 6)).block,(ad156.add ((x5_1).toNat * 6)).off+5,none⟩=some (.slice A160_5 ((rd_T28 l0 x5_1).f5).length c160_5)) (ds:=[]) #[F_,F_,F_,F_,F_,F_,F_,F_] (by kernel_rfl) rfl rfl ⟨((HB.out.cell (bl_ w _ hw160_0)).trans hw160_0),((HB.out.cell (bl_ w _ hw160_1)).trans hw160_1),((HB.out.cell (bl_ w _ hw160_2)).trans hw160_2),((HB.out.cell (bl_ w _ hw160_3)).trans hw160_3),((HB.out.cell (bl_ w _ hw160_4)).trans hw160_4),((HB.out.cell (bl_ w _ hw160_5)).trans hw160_5)⟩ (fun hHeld=>?_);refine with_tabW laws_heldNodeS.tab13 laws_heldNodeS.bits13 (fun HT_ HW_=>?_)
          generalize w14.drew=w15 at HB HR160_4 HR160_5 hx160_0 hx160_1 hx160_2 hx160_3 hx160_4 hx160_5 hHeld ⊢
          refine pure_ (i:=0) (N:=some 40) (v:=?_) (a':=?_) #[T_,F_,F_,F_,F_,F_,F_,F_] rfl rfl (any_of HT_.out (by kernel_rfl)) (fun _ _ _ h=>h) (Or.inl ⟨by rfl,?_⟩) ?_ ?_
          rotate_left
          ·intro w'
           go_simp
           with_reducible rfl
          rotate_left
          ·simp only [Act.put,ls_,lz_,lc_,i64_w,i32_w]
           rfl
          refine pure_ (i:=1) (N:=some 41) (v:=?_) (a':=?_) #[T_,T_,F_,F_,F_,F_,F_,F_] rfl rfl (any_of HT_.out (by kernel_rfl)) (fun _ _ _ h=>h) (Or.inl ⟨by rfl,?_⟩) ?_ ?_
          rotate_left
          ·intro w'
           go_simp
           with_reducible rfl
          rotate_left
          ·simp only [Act.put,ls_,lz_,lc_,i64_w,i32_w]
           rfl
          refine pure_ (i:=2) (N:=some 42) (v:=?_) (a':=?_) #[T_,T_,T_,F_,F_,F_,F_,F_] rfl rfl (any_of HT_.out (by kernel_rfl)) (fun _ _ _ h=>h) (Or.inl ⟨by rfl,?_⟩) ?_ ?_
          rotate_left
          ·intro w'
           go_simp
           with_reducible rfl
          rotate_left
          ·simp only [Act.put,ls_,lz_,lc_,i64_w,i32_w]
           rfl
          refine pure_ (i:=3) (N:=some 43) (v:=?_) (a':=?_) #[T_,T_,T_,T_,F_,F_,F_,F_] rfl rfl (any_of HT_.out (by kernel_rfl)) (fun _ _ _ h=>h) (Or.inl ⟨by rfl,?_⟩) ?_ ?_
          rotate_left
          ·intro w'
           go_simp
           with_reducible rfl
          rotate_left
          ·simp only [Act.put,ls_,lz_,lc_,i64_w,i32_w]
           rfl
          refine pure_ (i:=5) (N:=some 45) (v:=?_) (a':=?_) #[T_,T_,T_,T_,F_,T_,F_,F_] rfl rfl (any_of HT_.out (by kernel_rfl)) (fun _ _ _ h=>h) (Or.inl ⟨by rfl,?_⟩) ?_ ?_
          rotate_left
          ·intro w'
           go_simp
           with_reducible rfl
          rotate_left
          ·simp only [Act.put,ls_,lz_,lc_,i64_w,i32_w]
           rfl
          refine take_ (i:=4) (N:=some 44) (v:=?_) (a':=?_) #[T_,T_,T_,T_,T_,T_,F_,F_] rfl rfl (take_ofW HT_.out HW_.out (by kernel_rfl)) (fun _ _ _ h=>h) (Or.inl ⟨by rfl,?_⟩) hHeld ?_ ?_
          rotate_left
          ·rintro w' ⟨s0,s1,s2,s3,s4,s5⟩
           go_simp
           with_reducible rfl
          rotate_left
          ·simp only [Act.put,ls_,lz_,lc_,i64_w,i32_w]
           rfl
          refine one_ (i:=6) (N:=some 46) #[T_,T_,T_,T_,T_,T_,T_,F_] rfl rfl (one_of HT_.out (by kernel_rfl)) (by decide) (fun K hK=>?_)
          refine goes_ Try.func32 (by kernel_rfl) rfl #[.int .i64 (wrap64 ((wrap64 ((wrap64 (x1_1+1))+1))+1))] (by rfl) rfl rfl (by (try simp only [List.map_toArray,List.map_cons,List.map_nil]);first|done|rfl|(simp only [ld_,lt_];rfl)) ?_
          with_reducible refine (laws_markText.calls k1 (wrap64 ((wrap64 ((wrap64 (x1_1+1))+1))+1)) t161 _ A9.out).mono ?_
          rintro e w16 ⟨rfl,hb⟩
          refine ⟨_,rfl,?_⟩
          have n0_:=A_ (bp_ (by repeat (first|(with_reducible first|exact HB.out|apply ba_|apply pd_|apply b1_)|exact HB.out)) hb)
          clear HB
          have HB:=n0_
          clear n0_
          (try clear hb)
          (try clear hb2)
          (try clear hk)
          (try clear hi)
          refine hK.out _ _ ⟨((HB.out.cell (bl_ w _ hw160_0)).trans hw160_0),((HB.out.cell (bl_ w _ hw160_1)).trans hw160_1),((HB.out.cell (bl_ w _ hw160_2)).trans hw160_2),((HB.out.cell (bl_ w _ hw160_3)).trans hw160_3),((HB.out.cell (bl_ w _ hw160_4)).trans hw160_4),((HB.out.cell (bl_ w _ hw160_5)).trans hw160_5)⟩ (fun hHeld=>?_)
          clear hK K
          refine norm_ (a':=?_) ?_ ?_
          rotate_left
          ·show Act.put _ (some 46) _=_
           simp only [Act.put,ls_,lz_,lc_,i64_w,i32_w]
           rfl
          refine pure_ (i:=7) (N:=some 47) (v:=?_) (a':=?_) #[T_,T_,T_,T_,T_,T_,T_,T_] rfl rfl (any_of HT_.out (by kernel_rfl)) (fun _ _ _ h=>h) (Or.inl ⟨by rfl,?_⟩) ?_ ?_
          rotate_left
          ·intro w'
           go_simp
           with_reducible rfl
          rotate_left
          ·simp only [Act.put,ls_,lz_,lc_,i64_w,i32_w]
           rfl
          refine done_ (done_of HT_.out (by kernel_rfl)) ?_
          have p162:0≤(x5_1:Int):=od_ (by first|(with_reducible assumption)|assumption)
          have q162:x5_1<(l0.length:Int):=od_ (by first|(with_reducible assumption)|assumption)
          obtain ⟨ad162,A162_4,c162_4,A162_5,c162_5,e162,hx162_0,hx162_1,hx162_2,hx162_3,hx162_4,hx162_5,hl162_4,hi162_4,hl162_5,hi162_5⟩:=at_T28 HR0.out x5_1 p162 q162
          obtain rfl:ad156=ad162:=(by injection e162)
          try (have h_:=hx162_4.symm.trans hw160_4;injection h_ with h_;injection h_ with h1_ h3_ h2_;subst h1_;subst h2_)
          try (have h_:=hx162_5.symm.trans hw160_5;injection h_ with h_;injection h_ with h1_ h3_ h2_;subst h1_;subst h2_)
          replace hx162_0:=(HB.out.cell (bl_ w _ hx162_0)).trans hx162_0
          replace hx162_1:=(HB.out.cell (bl_ w _ hx162_1)).trans hx162_1
          replace hx162_2:=(HB.out.cell (bl_ w _ hx162_2)).trans hx162_2
          replace hx162_3:=(HB.out.cell (bl_ w _ hx162_3)).trans hx162_3
          replace hx162_4:=(HB.out.cell (bl_ w _ hx162_4)).trans hx162_4
          replace hx162_5:=(HB.out.cell (bl_ w _ hx162_5)).trans hx162_5
          have HR162_4:=A_ hi162_4
          have HC162_4:=A_ hl162_4
          clear hi162_4 hl162_4
          have HR162_5:=A_ hi162_5
          have HC162_5:=A_ hl162_5
          clear hi162_5 hl162_5
          replace p162:=eq_true p162
          replace q162:=eq_true q162
          try go_wp2_with (first|((with_reducible refine gate_callee (f:=34) rfl ?_);refine goesL_ (some 56) rfl rfl Try.func34 (by kernel_rfl) rfl #[.slice A162_4 ((rd_T28 l0 x5_1).f4).length c162_4,.int .i64 (wrap64 ((wrap64 ((wrap64 ((wrap64 (x1_1+1))+1))+1))+1))] rfl (by (try simp only [List.map_toArray,List.map_cons,List.map_nil]);first|done|rfl|(simp only [ld_,lt_];rfl)) ?_;(with_reducible refine (laws_heldAttrS.calls k1 _ _ ((rd_T28 l0 x5_1).f4) (wrap64 ((wrap64 ((wrap64 ((wrap64 (x1_1+1))+1))+1))+1)) t163 _ ?side1 ?side2 A11.out).mono ?_);(case side1=>repeat (first|exact (cb_ HR162_4.out HB.out)|(with_reducible refine ca_ ?_ _)|(with_reducible refine cn_ ?_ _)|(with_reducible refine cd_ ?_)));(case side2=>exact HC162_4.out);rintro e w17 ⟨rfl,hb⟩;refine ⟨_,rfl,?_⟩;have n0_:=A_ (bp_ (by repeat (first|(with_reducible first|exact HB.out|apply ba_|apply pd_|apply b1_)|exact HB.out)) hb);clear HB;have HB:=n0_;clear n0_;(try clear hb);(try clear hb2);(try clear hk);(try clear hi)))
          go_ret
          exact ⟨by first|rfl|(simp [errW_none,errW_some] <;> rfl)|(simp [*,errW_none,errW_some] <;> rfl),by repeat (first|(with_reducible first|exact HB.out|apply ba_|apply pd_|apply b1_)|exact HB.out)⟩
         ·rw [if_neg c12] at H
          have c12b0:decide (t163<0)=false:=df_ c12
          clear c12
          replace H:=ob_ H
          obtain ⟨t165,A180,H⟩:=H
          replace H:(if t165<0 then (some (-1)) else (laws_heldNodeS.l0 k1 l0 t165 (wrap64 (x5_1+1))))=some r:=H
          have A18:=A_ A180
          clear A180
          by_cases c19:t165<0
          ·rw [if_pos c19] at H
           have c19b0:decide (t165<0)=true:=dt_ c19
           clear c19
           obtain rfl:=oi_ H
           have p156:0≤(x5_1:Int):=od_ (by first|(with_reducible assumption)|assumption)
           have q156:x5_1<(l0.length:Int):=od_ (by first|(with_reducible assumption)|assumption)
           obtain ⟨ad156,A156_4,c156_4,A156_5,c156_5,e156,hx156_0,hx156_1,hx156_2,hx156_3,hx156_4,hx156_5,hl156_4,hi156_4,hl156_5,hi156_5⟩:=at_T28 HR0.out x5_1 p156 q156
           cases e156
           replace hx156_0:=(HB.out.cell (bl_ w _ hx156_0)).trans hx156_0
           replace hx156_1:=(HB.out.cell (bl_ w _ hx156_1)).trans hx156_1
           replace hx156_2:=(HB.out.cell (bl_ w _ hx156_2)).trans hx156_2
           replace hx156_3:=(HB.out.cell (bl_ w _ hx156_3)).trans hx156_3
           replace hx156_4:=(HB.out.cell (bl_ w _ hx156_4)).trans hx156_4
           replace hx156_5:=(HB.out.cell (bl_ w _ hx156_5)).trans hx156_5
           have HR156_4:=A_ hi156_4
           have HC156_4:=A_ hl156_4
           clear hi156_4 hl156_4
           have HR156_5:=A_ hi156_5
           have HC156_5:=A_ hl156_5
           clear hi156_5 hl156_5
           replace p156:=eq_true p156
           replace q156:=eq_true q156
           have p157:0≤(x5_1:Int):=od_ (by first|(with_reducible assumption)|assumption)
           have q157:x5_1<(l0.length:Int):=od_ (by first|(with_reducible assumption)|assumption)
           obtain ⟨ad157,A157_4,c157_4,A157_5,c157_5,e157,hx157_0,hx157_1,hx157_2,hx157_3,hx157_4,hx157_5,hl157_4,hi157_4,hl157_5,hi157_5⟩:=at_T28 HR0.out x5_1 p157 q157
           obtain rfl:ad156=ad157:=(by injection e157)
           try (have h_:=hx157_4.symm.trans hw155_4;injection h_ with h_;injection h_ with h1_ h3_ h2_;subst h1_;subst h2_)
           try (have h_:=hx157_5.symm.trans hw155_5;injection h_ with h_;injection h_ with h1_ h3_ h2_;subst h1_;subst h2_)
           replace hx157_0:=(HB.out.cell (bl_ w _ hx157_0)).trans hx157_0
           replace hx157_1:=(HB.out.cell (bl_ w _ hx157_1)).trans hx157_1
           replace hx157_2:=(HB.out.cell (bl_ w _ hx157_2)).trans hx157_2
           replace hx157_3:=(HB.out.cell (bl_ w _ hx157_3)).trans hx157_3
           replace hx157_4:=(HB.out.cell (bl_ w _ hx157_4)).trans hx157_4
           replace hx157_5:=(HB.out.cell (bl_ w _ hx157_5)).trans hx157_5
           have HR157_4:=A_ hi157_4
           have HC157_4:=A_ hl157_4
           clear hi157_4 hl157_4
           have HR157_5:=A_ hi157_5
           have HC157_5:=A_ hl157_5
           clear hi157_5 hl157_5
           replace p157:=eq_true p157
           replace q157:=eq_true q157
           have ea_:=oi_ (hx156_4.symm.trans hx157_4)
           injection ea_ with ea_ en_ ec_
           subst ea_
           subst ec_
           clear en_
           have ea_:=oi_ (hx156_5.symm.trans hx157_5)
           injection ea_ with ea_ en_ ec_
           subst ea_
           subst ec_
           clear en_
           try go_wp2
           have n0_:=A_ (b1_ HB.out)
           clear HB
           have HB:=n0_
           clear n0_
           have p158:0≤(x5_1:Int):=od_ (by first|(with_reducible assumption)|assumption)
           have q158:x5_1<(l0.length:Int):=od_ (by first|(with_reducible assumption)|assumption)
           obtain ⟨ad158,A158_4,c158_4,A158_5,c158_5,e158,hx158_0,hx158_1,hx158_2,hx158_3,hx158_4,hx158_5,hl158_4,hi158_4,hl158_5,hi158_5⟩:=at_T28 HR0.out x5_1 p158 q158
           have hw158_5:=hx158_5
           have hw158_4:=hx158_4
           have hw158_3:=hx158_3
           have hw158_2:=hx158_2
           have hw158_1:=hx158_1
           have hw158_0:=hx158_0
           obtain rfl:ad156=ad158:=(by injection e158)
           try (have h_:=hx158_4.symm.trans hw156_4;injection h_ with h_;injection h_ with h1_ h3_ h2_;subst h1_;subst h2_)
           try (have h_:=hx158_5.symm.trans hw156_5;injection h_ with h_;injection h_ with h1_ h3_ h2_;subst h1_;subst h2_)
           replace hx158_0:=(HB.out.cell (bl_ w _ hx158_0)).trans hx158_0
           replace hx158_1:=(HB.out.cell (bl_ w _ hx158_1)).trans hx158_1
           replace hx158_2:=(HB.out.cell (bl_ w _ hx158_2)).trans hx158_2
           replace hx158_3:=(HB.out.cell (bl_ w _ hx158_3)).trans hx158_3
           replace hx158_4:=(HB.out.cell (bl_ w _ hx158_4)).trans hx158_4
           replace hx158_5:=(HB.out.cell (bl_ w _ hx158_5)).trans hx158_5
           have HR158_4:=A_ hi158_4
           have HC158_4:=A_ hl158_4
           clear hi158_4 hl158_4
           have HR158_5:=A_ hi158_5
           have HC158_5:=A_ hl158_5
           clear hi158_5 hl158_5
           replace p158:=eq_true p158
           replace q158:=eq_true q158
           refine start_ (n:=8) (S:=fun w'=>w'.cell? (ad156.add ((x5_1).toNat * 6))=some (.int .i64 ((rd_T28 l0 x5_1).f0))∧w'.cell? ⟨(ad156.add ((x5_1).toNat * 6)).block,(ad156.add ((x5_1).toNat * 6)).off+1,none⟩=some (.int .i64 ((rd_T28 l0 x5_1).f1))∧w'.cell? ⟨(ad156.add ((x5_1).toNat * 6)).block,(ad156.add ((x5_1).toNat * 6)).off+2,none⟩=some (.string ((rd_T28 l0 x5_1).f2))∧w'.cell? ⟨(ad156.add ((x5_1).toNat * 6)).block,(ad156.add ((x5_1).toNat * 6)).off+3,none⟩=some (.string ((rd_T28 l0 x5_1).f3))∧w'.cell? ⟨(ad156.add ((x5_1).toNat * 6)).block,(ad156.add ((x5_1).toNat * 6)).off+4,none⟩=some (.slice A158_4 ((rd_T28 l0 x5_1).f4).length c158_4)∧w'.cell? ⟨(ad156.add ((x5_1).toNat * 6)).block,(ad156.add ((x5_1).toNat * 6)).off+5,none⟩=some (.slice A158_5 ((rd_T28 l0 x5_1).f5).length c158_5)) (ds:=[]) #[F_,F_,F_,F_,F_,F_,F_,F_] (by kernel_rfl) rfl rfl ⟨((HB.out.cell (bl_ w _ hw158_0)).trans hw158_0),((HB.out.cell (bl_ w _ hw158_1)).trans hw158_1),((HB.out.cell (bl_ w _ hw158_2)).trans hw158_2),((HB.out.cell (bl_ w _ hw158_3)).trans hw158_3),((HB.out.cell (bl_ w _ hw158_4)).trans hw158_4),((HB.out.cell (bl_ w _ hw158_5)).trans hw158_5)⟩ (fun hHeld=>?_);refine with_tabW laws_heldNodeS.tab10 laws_heldNodeS.bits10 (fun HT_ HW_=>?_)
           generalize wr.drew=w20 at HB HR158_4 HR158_5 hx158_0 hx158_1 hx158_2 hx158_3 hx158_4 hx158_5 hHeld ⊢
           refine pure_ (i:=0) (N:=some 30) (v:=?_) (a':=?_) #[T_,F_,F_,F_,F_,F_,F_,F_] rfl rfl (any_of HT_.out (by kernel_rfl)) (fun _ _ _ h=>h) (Or.inl ⟨by rfl,?_⟩) ?_ ?_
           rotate_left
           ·intro w'
            go_simp
            with_reducible rfl
           rotate_left
           ·simp only [Act.put,ls_,lz_,lc_,i64_w,i32_w]
            rfl
           refine pure_ (i:=1) (N:=some 31) (v:=?_) (a':=?_) #[T_,T_,F_,F_,F_,F_,F_,F_] rfl rfl (any_of HT_.out (by kernel_rfl)) (fun _ _ _ h=>h) (Or.inl ⟨by rfl,?_⟩) ?_ ?_
           rotate_left
           ·intro w'
            go_simp
            with_reducible rfl
           rotate_left
           ·simp only [Act.put,ls_,lz_,lc_,i64_w,i32_w]
            rfl
           refine pure_ (i:=2) (N:=some 32) (v:=?_) (a':=?_) #[T_,T_,T_,F_,F_,F_,F_,F_] rfl rfl (any_of HT_.out (by kernel_rfl)) (fun _ _ _ h=>h) (Or.inl ⟨by rfl,?_⟩) ?_ ?_
           rotate_left
           ·intro w'
            go_simp
            with_reducible rfl
           rotate_left
           ·simp only [Act.put,ls_,lz_,lc_,i64_w,i32_w]
            rfl
           refine pure_ (i:=3) (N:=some 33) (v:=?_) (a':=?_) #[T_,T_,T_,T_,F_,F_,F_,F_] rfl rfl (any_of HT_.out (by kernel_rfl)) (fun _ _ _ h=>h) (Or.inl ⟨by rfl,?_⟩) ?_ ?_
           rotate_left
           ·intro w'
            go_simp
            with_reducible rfl
           rotate_left
           ·simp only [Act.put,ls_,lz_,lc_,i64_w,i32_w]
            rfl
           refine pure_ (i:=5) (N:=some 35) (v:=?_) (a':=?_) #[T_,T_,T_,T_,F_,T_,F_,F_] rfl rfl (any_of HT_.out (by kernel_rfl)) (fun _ _ _ h=>h) (Or.inl ⟨by rfl,?_⟩) ?_ ?_
           rotate_left
           ·intro w'
            go_simp
            with_reducible rfl
           rotate_left
           ·simp only [Act.put,ls_,lz_,lc_,i64_w,i32_w]
            rfl
           refine take_ (i:=4) (N:=some 34) (v:=?_) (a':=?_) #[T_,T_,T_,T_,T_,T_,F_,F_] rfl rfl (take_ofW HT_.out HW_.out (by kernel_rfl)) (fun _ _ _ h=>h) (Or.inl ⟨by rfl,?_⟩) hHeld ?_ ?_
           rotate_left
           ·rintro w' ⟨s0,s1,s2,s3,s4,s5⟩
            go_simp
            with_reducible rfl
           rotate_left
           ·simp only [Act.put,ls_,lz_,lc_,i64_w,i32_w]
            rfl
           refine one_ (i:=6) (N:=some 36) #[T_,T_,T_,T_,T_,T_,T_,F_] rfl rfl (one_of HT_.out (by kernel_rfl)) (by decide) (fun K hK=>?_)
           refine goes_ Try.func32 (by kernel_rfl) rfl #[.int .i64 (wrap64 ((wrap64 (x1_1+1))+1))] (by rfl) rfl rfl (by (try simp only [List.map_toArray,List.map_cons,List.map_nil]);first|done|rfl|(simp only [ld_,lt_];rfl)) ?_
           with_reducible refine (laws_markText.calls k1 (wrap64 ((wrap64 (x1_1+1))+1)) t159 _ A7.out).mono ?_
           rintro e w21 ⟨rfl,hb⟩
           refine ⟨_,rfl,?_⟩
           have n0_:=A_ (bp_ (by repeat (first|(with_reducible first|exact HB.out|apply ba_|apply pd_|apply b1_)|exact HB.out)) hb)
           clear HB
           have HB:=n0_
           clear n0_
           (try clear hb)
           (try clear hb2)
           (try clear hk)
           (try clear hi)
           refine hK.out _ _ ⟨((HB.out.cell (bl_ w _ hw158_0)).trans hw158_0),((HB.out.cell (bl_ w _ hw158_1)).trans hw158_1),((HB.out.cell (bl_ w _ hw158_2)).trans hw158_2),((HB.out.cell (bl_ w _ hw158_3)).trans hw158_3),((HB.out.cell (bl_ w _ hw158_4)).trans hw158_4),((HB.out.cell (bl_ w _ hw158_5)).trans hw158_5)⟩ (fun hHeld=>?_)
           clear hK K
           refine norm_ (a':=?_) ?_ ?_
           rotate_left
           ·show Act.put _ (some 36) _=_
            simp only [Act.put,ls_,lz_,lc_,i64_w,i32_w]
            rfl
           refine pure_ (i:=7) (N:=some 37) (v:=?_) (a':=?_) #[T_,T_,T_,T_,T_,T_,T_,T_] rfl rfl (any_of HT_.out (by kernel_rfl)) (fun _ _ _ h=>h) (Or.inl ⟨by rfl,?_⟩) ?_ ?_
           rotate_left
           ·intro w'
            go_simp
            with_reducible rfl
           rotate_left
           ·simp only [Act.put,ls_,lz_,lc_,i64_w,i32_w]
            rfl
           refine done_ (done_of HT_.out (by kernel_rfl)) ?_
           try go_wp2
           have n0_:=A_ (b1_ HB.out)
           clear HB
           have HB:=n0_
           clear n0_
           have p160:0≤(x5_1:Int):=od_ (by first|(with_reducible assumption)|assumption)
           have q160:x5_1<(l0.length:Int):=od_ (by first|(with_reducible assumption)|assumption)
           obtain ⟨ad160,A160_4,c160_4,A160_5,c160_5,e160,hx160_0,hx160_1,hx160_2,hx160_3,hx160_4,hx160_5,hl160_4,hi160_4,hl160_5,hi160_5⟩:=at_T28 HR0.out x5_1 p160 q160
           have hw160_5:=hx160_5
           have hw160_4:=hx160_4
           have hw160_3:=hx160_3
           have hw160_2:=hx160_2
           have hw160_1:=hx160_1
           have hw160_0:=hx160_0
           obtain rfl:ad156=ad160:=(by injection e160)
           try (have h_:=hx160_4.symm.trans hw158_4;injection h_ with h_;injection h_ with h1_ h3_ h2_;subst h1_;subst h2_)
           try (have h_:=hx160_5.symm.trans hw158_5;injection h_ with h_;injection h_ with h1_ h3_ h2_;subst h1_;subst h2_)
           replace hx160_0:=(HB.out.cell (bl_ w _ hx160_0)).trans hx160_0
           replace hx160_1:=(HB.out.cell (bl_ w _ hx160_1)).trans hx160_1
           replace hx160_2:=(HB.out.cell (bl_ w _ hx160_2)).trans hx160_2
           replace hx160_3:=(HB.out.cell (bl_ w _ hx160_3)).trans hx160_3
           replace hx160_4:=(HB.out.cell (bl_ w _ hx160_4)).trans hx160_4
           replace hx160_5:=(HB.out.cell (bl_ w _ hx160_5)).trans hx160_5
           have HR160_4:=A_ hi160_4
           have HC160_4:=A_ hl160_4
           clear hi160_4 hl160_4
           have HR160_5:=A_ hi160_5
           have HC160_5:=A_ hl160_5
           clear hi160_5 hl160_5
           replace p160:=eq_true p160
           replace q160:=eq_true q160
           refine start_ (n:=8) (S:=fun w'=>w'.cell? (ad156.add ((x5_1).toNat * 6))=some (.int .i64 ((rd_T28 l0 x5_1).f0))∧w'.cell? ⟨(ad156.add ((x5_1).toNat * 6)).block,(ad156.add ((x5_1).toNat * 6)).off+1,none⟩=some (.int .i64 ((rd_T28 l0 x5_1).f1))∧w'.cell? ⟨(ad156.add ((x5_1).toNat * 6)).block,(ad156.add ((x5_1).toNat * 6)).off+2,none⟩=some (.string ((rd_T28 l0 x5_1).f2))∧w'.cell? ⟨(ad156.add ((x5_1).toNat * 6)).block,(ad156.add ((x5_1).toNat * 6)).off+3,none⟩=some (.string ((rd_T28 l0 x5_1).f3))∧w'.cell? ⟨(ad156.add ((x5_1).toNat * 6)).block,(ad156.add ((x5_1).toNat * 6)).off+4,none⟩=some (.slice A160_4 ((rd_T28 l0 x5_1).f4).length c160_4)∧w'.cell? ⟨(ad156.add ((x5_1).toNat * 6)).block,(ad156.add ((x5_1).toNat * 6)).off+5,none⟩=some (.slice A160_5 ((rd_T28 l0 x5_1).f5).length c160_5)) (ds:=[]) #[F_,F_,F_,F_,F_,F_,F_,F_] (by kernel_rfl) rfl rfl ⟨((HB.out.cell (bl_ w _ hw160_0)).trans hw160_0),((HB.out.cell (bl_ w _ hw160_1)).trans hw160_1),((HB.out.cell (bl_ w _ hw160_2)).trans hw160_2),((HB.out.cell (bl_ w _ hw160_3)).trans hw160_3),((HB.out.cell (bl_ w _ hw160_4)).trans hw160_4),((HB.out.cell (bl_ w _ hw160_5)).trans hw160_5)⟩ (fun hHeld=>?_);refine with_tabW laws_heldNodeS.tab13 laws_heldNodeS.bits13 (fun HT_ HW_=>?_)
           generalize w21.drew=w22 at HB HR160_4 HR160_5 hx160_0 hx160_1 hx160_2 hx160_3 hx160_4 hx160_5 hHeld ⊢
           refine pure_ (i:=0) (N:=some 40) (v:=?_) (a':=?_) #[T_,F_,F_,F_,F_,F_,F_,F_] rfl rfl (any_of HT_.out (by kernel_rfl)) (fun _ _ _ h=>h) (Or.inl ⟨by rfl,?_⟩) ?_ ?_
           rotate_left
           ·intro w'
            go_simp
            with_reducible rfl
           rotate_left
           ·simp only [Act.put,ls_,lz_,lc_,i64_w,i32_w]
            rfl
           refine pure_ (i:=1) (N:=some 41) (v:=?_) (a':=?_) #[T_,T_,F_,F_,F_,F_,F_,F_] rfl rfl (any_of HT_.out (by kernel_rfl)) (fun _ _ _ h=>h) (Or.inl ⟨by rfl,?_⟩) ?_ ?_
           rotate_left
           ·intro w'
            go_simp
            with_reducible rfl
           rotate_left
           ·simp only [Act.put,ls_,lz_,lc_,i64_w,i32_w]
            rfl
           refine pure_ (i:=2) (N:=some 42) (v:=?_) (a':=?_) #[T_,T_,T_,F_,F_,F_,F_,F_] rfl rfl (any_of HT_.out (by kernel_rfl)) (fun _ _ _ h=>h) (Or.inl ⟨by rfl,?_⟩) ?_ ?_
           rotate_left
           ·intro w'
            go_simp
            with_reducible rfl
           rotate_left
           ·simp only [Act.put,ls_,lz_,lc_,i64_w,i32_w]
            rfl
           refine pure_ (i:=3) (N:=some 43) (v:=?_) (a':=?_) #[T_,T_,T_,T_,F_,F_,F_,F_] rfl rfl (any_of HT_.out (by kernel_rfl)) (fun _ _ _ h=>h) (Or.inl ⟨by rfl,?_⟩) ?_ ?_
           rotate_left
           ·intro w'
            go_simp
            with_reducible rfl
           rotate_left
           ·simp only [Act.put,ls_,lz_,lc_,i64_w,i32_w]
            rfl
           refine pure_ (i:=5) (N:=some 45) (v:=?_) (a':=?_) #[T_,T_,T_,T_,F_,T_,F_,F_] rfl rfl (any_of HT_.out (by kernel_rfl)) (fun _ _ _ h=>h) (Or.inl ⟨by rfl,?_⟩) ?_ ?_
           rotate_left
           ·intro w'
            go_simp
            with_reducible rfl
           rotate_left
           ·simp only [Act.put,ls_,lz_,lc_,i64_w,i32_w]
            rfl
           refine take_ (i:=4) (N:=some 44) (v:=?_) (a':=?_) #[T_,T_,T_,T_,T_,T_,F_,F_] rfl rfl (take_ofW HT_.out HW_.out (by kernel_rfl)) (fun _ _ _ h=>h) (Or.inl ⟨by rfl,?_⟩) hHeld ?_ ?_
           rotate_left
           ·rintro w' ⟨s0,s1,s2,s3,s4,s5⟩
            go_simp
            with_reducible rfl
           rotate_left
           ·simp only [Act.put,ls_,lz_,lc_,i64_w,i32_w]
            rfl
           refine one_ (i:=6) (N:=some 46) #[T_,T_,T_,T_,T_,T_,T_,F_] rfl rfl (one_of HT_.out (by kernel_rfl)) (by decide) (fun K hK=>?_)
           refine goes_ Try.func32 (by kernel_rfl) rfl #[.int .i64 (wrap64 ((wrap64 ((wrap64 (x1_1+1))+1))+1))] (by rfl) rfl rfl (by (try simp only [List.map_toArray,List.map_cons,List.map_nil]);first|done|rfl|(simp only [ld_,lt_];rfl)) ?_
           with_reducible refine (laws_markText.calls k1 (wrap64 ((wrap64 ((wrap64 (x1_1+1))+1))+1)) t161 _ A9.out).mono ?_
           rintro e w23 ⟨rfl,hb⟩
           refine ⟨_,rfl,?_⟩
           have n0_:=A_ (bp_ (by repeat (first|(with_reducible first|exact HB.out|apply ba_|apply pd_|apply b1_)|exact HB.out)) hb)
           clear HB
           have HB:=n0_
           clear n0_
           (try clear hb)
           (try clear hb2)
           (try clear hk)
           (try clear hi)
           refine hK.out _ _ ⟨((HB.out.cell (bl_ w _ hw160_0)).trans hw160_0),((HB.out.cell (bl_ w _ hw160_1)).trans hw160_1),((HB.out.cell (bl_ w _ hw160_2)).trans hw160_2),((HB.out.cell (bl_ w _ hw160_3)).trans hw160_3),((HB.out.cell (bl_ w _ hw160_4)).trans hw160_4),((HB.out.cell (bl_ w _ hw160_5)).trans hw160_5)⟩ (fun hHeld=>?_)
           clear hK K
           refine norm_ (a':=?_) ?_ ?_
           rotate_left
           ·show Act.put _ (some 46) _=_
            simp only [Act.put,ls_,lz_,lc_,i64_w,i32_w]
            rfl
           refine pure_ (i:=7) (N:=some 47) (v:=?_) (a':=?_) #[T_,T_,T_,T_,T_,T_,T_,T_] rfl rfl (any_of HT_.out (by kernel_rfl)) (fun _ _ _ h=>h) (Or.inl ⟨by rfl,?_⟩) ?_ ?_
           rotate_left
           ·intro w'
            go_simp
            with_reducible rfl
           rotate_left
           ·simp only [Act.put,ls_,lz_,lc_,i64_w,i32_w]
            rfl
           refine done_ (done_of HT_.out (by kernel_rfl)) ?_
           have p162:0≤(x5_1:Int):=od_ (by first|(with_reducible assumption)|assumption)
           have q162:x5_1<(l0.length:Int):=od_ (by first|(with_reducible assumption)|assumption)
           obtain ⟨ad162,A162_4,c162_4,A162_5,c162_5,e162,hx162_0,hx162_1,hx162_2,hx162_3,hx162_4,hx162_5,hl162_4,hi162_4,hl162_5,hi162_5⟩:=at_T28 HR0.out x5_1 p162 q162
           obtain rfl:ad156=ad162:=(by injection e162)
           try (have h_:=hx162_4.symm.trans hw160_4;injection h_ with h_;injection h_ with h1_ h3_ h2_;subst h1_;subst h2_)
           try (have h_:=hx162_5.symm.trans hw160_5;injection h_ with h_;injection h_ with h1_ h3_ h2_;subst h1_;subst h2_)
           replace hx162_0:=(HB.out.cell (bl_ w _ hx162_0)).trans hx162_0
           replace hx162_1:=(HB.out.cell (bl_ w _ hx162_1)).trans hx162_1
           replace hx162_2:=(HB.out.cell (bl_ w _ hx162_2)).trans hx162_2
           replace hx162_3:=(HB.out.cell (bl_ w _ hx162_3)).trans hx162_3
           replace hx162_4:=(HB.out.cell (bl_ w _ hx162_4)).trans hx162_4
           replace hx162_5:=(HB.out.cell (bl_ w _ hx162_5)).trans hx162_5
           have HR162_4:=A_ hi162_4
           have HC162_4:=A_ hl162_4
           clear hi162_4 hl162_4
           have HR162_5:=A_ hi162_5
           have HC162_5:=A_ hl162_5
           clear hi162_5 hl162_5
           replace p162:=eq_true p162
           replace q162:=eq_true q162
           try go_wp2_with (first|((with_reducible refine gate_callee (f:=34) rfl ?_);refine goesL_ (some 56) rfl rfl Try.func34 (by kernel_rfl) rfl #[.slice A162_4 ((rd_T28 l0 x5_1).f4).length c162_4,.int .i64 (wrap64 ((wrap64 ((wrap64 ((wrap64 (x1_1+1))+1))+1))+1))] rfl (by (try simp only [List.map_toArray,List.map_cons,List.map_nil]);first|done|rfl|(simp only [ld_,lt_];rfl)) ?_;(with_reducible refine (laws_heldAttrS.calls k1 _ _ ((rd_T28 l0 x5_1).f4) (wrap64 ((wrap64 ((wrap64 ((wrap64 (x1_1+1))+1))+1))+1)) t163 _ ?side1 ?side2 A11.out).mono ?_);(case side1=>repeat (first|exact (cb_ HR162_4.out HB.out)|(with_reducible refine ca_ ?_ _)|(with_reducible refine cn_ ?_ _)|(with_reducible refine cd_ ?_)));(case side2=>exact HC162_4.out);rintro e w24 ⟨rfl,hb⟩;refine ⟨_,rfl,?_⟩;have n0_:=A_ (bp_ (by repeat (first|(with_reducible first|exact HB.out|apply ba_|apply pd_|apply b1_)|exact HB.out)) hb);clear HB;have HB:=n0_;clear n0_;(try clear hb);(try clear hb2);(try clear hk);(try clear hi);have p164:0≤(x5_1:Int):=od_ (by first|(with_reducible assumption)|assumption);have q164:x5_1<(l0.length:Int):=od_ (by first|(with_reducible assumption)|assumption);obtain ⟨ad164,A164_4,c164_4,A164_5,c164_5,e164,hx164_0,hx164_1,hx164_2,hx164_3,hx164_4,hx164_5,hl164_4,hi164_4,hl164_5,hi164_5⟩:=at_T28 HR0.out x5_1 p164 q164;obtain rfl:ad156=ad164:=(by injection e164);replace hx164_0:=(HB.out.cell (bl_ w _ hx164_0)).trans hx164_0;replace hx164_1:=(HB.out.cell (bl_ w _ hx164_1)).trans hx164_1;replace hx164_2:=(HB.out.cell (bl_ w _ hx164_2)).trans hx164_2;replace hx164_3:=(HB.out.cell (bl_ w _ hx164_3)).trans hx164_3;replace hx164_4:=(HB.out.cell (bl_ w _ hx164_4)).trans hx164_4;replace hx164_5:=(HB.out.cell (bl_ w _ hx164_5)).trans hx164_5;have HR164_4:=A_ hi164_4;have HC164_4:=A_ hl164_4;clear hi164_4 hl164_4;have HR164_5:=A_ hi164_5;have HC164_5:=A_ hl164_5;clear hi164_5 hl164_5;replace p164:=eq_true p164;replace q164:=eq_true q164)|((with_reducible refine gate_callee (f:=20) rfl ?_);refine goesL_ (some 65) rfl rfl Try.func20 (by kernel_rfl) rfl #[.slice A164_5 ((rd_T28 l0 x5_1).f5).length c164_5,.int .i64 t163] rfl (by (try simp only [List.map_toArray,List.map_cons,List.map_nil]);first|done|rfl|(simp only [ld_,lt_];rfl)) ?_;(with_reducible refine (ih k1 (by have:=HK1.out;omega) _ _ ((rd_T28 l0 x5_1).f5) t163 t165 _ ?side1 ?side2 A18.out).mono ?_);(case side1=>repeat (first|exact (cb_ HR164_5.out HB.out)|(with_reducible refine ca_ ?_ _)|(with_reducible refine cn_ ?_ _)|(with_reducible refine cd_ ?_)));(case side2=>exact HC164_5.out);rintro e w25 ⟨rfl,hb⟩;refine ⟨_,rfl,?_⟩;have n0_:=A_ (bp_ (by repeat (first|(with_reducible first|exact HB.out|apply ba_|apply pd_|apply b1_)|exact HB.out)) hb);clear HB;have HB:=n0_;clear n0_;(try clear hb);(try clear hb2);(try clear hk);(try clear hi)))
           go_ret
           exact ⟨by first|rfl|(simp [errW_none,errW_some] <;> rfl)|(simp [*,errW_none,errW_some] <;> rfl),by repeat (first|(with_reducible first|exact HB.out|apply ba_|apply pd_|apply b1_)|exact HB.out)⟩
          ·rw [if_neg c19] at H
           have c19b0:decide (t165<0)=false:=df_ c19
           clear c19
           have H':=A_ H
           clear H
           have p156:0≤(x5_1:Int):=od_ (by first|(with_reducible assumption)|assumption)
           have q156:x5_1<(l0.length:Int):=od_ (by first|(with_reducible assumption)|assumption)
           obtain ⟨ad156,A156_4,c156_4,A156_5,c156_5,e156,hx156_0,hx156_1,hx156_2,hx156_3,hx156_4,hx156_5,hl156_4,hi156_4,hl156_5,hi156_5⟩:=at_T28 HR0.out x5_1 p156 q156
           cases e156
           replace hx156_0:=(HB.out.cell (bl_ w _ hx156_0)).trans hx156_0
           replace hx156_1:=(HB.out.cell (bl_ w _ hx156_1)).trans hx156_1
           replace hx156_2:=(HB.out.cell (bl_ w _ hx156_2)).trans hx156_2
           replace hx156_3:=(HB.out.cell (bl_ w _ hx156_3)).trans hx156_3
           replace hx156_4:=(HB.out.cell (bl_ w _ hx156_4)).trans hx156_4
           replace hx156_5:=(HB.out.cell (bl_ w _ hx156_5)).trans hx156_5
           have HR156_4:=A_ hi156_4
           have HC156_4:=A_ hl156_4
           clear hi156_4 hl156_4
           have HR156_5:=A_ hi156_5
           have HC156_5:=A_ hl156_5
           clear hi156_5 hl156_5
           replace p156:=eq_true p156
           replace q156:=eq_true q156
           have p157:0≤(x5_1:Int):=od_ (by first|(with_reducible assumption)|assumption)
           have q157:x5_1<(l0.length:Int):=od_ (by first|(with_reducible assumption)|assumption)
           obtain ⟨ad157,A157_4,c157_4,A157_5,c157_5,e157,hx157_0,hx157_1,hx157_2,hx157_3,hx157_4,hx157_5,hl157_4,hi157_4,hl157_5,hi157_5⟩:=at_T28 HR0.out x5_1 p157 q157
           obtain rfl:ad156=ad157:=(by injection e157)
           try (have h_:=hx157_4.symm.trans hw155_4;injection h_ with h_;injection h_ with h1_ h3_ h2_;subst h1_;subst h2_)
           try (have h_:=hx157_5.symm.trans hw155_5;injection h_ with h_;injection h_ with h1_ h3_ h2_;subst h1_;subst h2_)
           replace hx157_0:=(HB.out.cell (bl_ w _ hx157_0)).trans hx157_0
           replace hx157_1:=(HB.out.cell (bl_ w _ hx157_1)).trans hx157_1
           replace hx157_2:=(HB.out.cell (bl_ w _ hx157_2)).trans hx157_2
           replace hx157_3:=(HB.out.cell (bl_ w _ hx157_3)).trans hx157_3
           replace hx157_4:=(HB.out.cell (bl_ w _ hx157_4)).trans hx157_4
           replace hx157_5:=(HB.out.cell (bl_ w _ hx157_5)).trans hx157_5
           have HR157_4:=A_ hi157_4
           have HC157_4:=A_ hl157_4
           clear hi157_4 hl157_4
           have HR157_5:=A_ hi157_5
           have HC157_5:=A_ hl157_5
           clear hi157_5 hl157_5
           replace p157:=eq_true p157
           replace q157:=eq_true q157
           have ea_:=oi_ (hx156_4.symm.trans hx157_4)
           injection ea_ with ea_ en_ ec_
           subst ea_
           subst ec_
           clear en_
           have ea_:=oi_ (hx156_5.symm.trans hx157_5)
           injection ea_ with ea_ en_ ec_
           subst ea_
           subst ec_
           clear en_
           try go_wp2
           have n0_:=A_ (b1_ HB.out)
           clear HB
           have HB:=n0_
           clear n0_
           have p158:0≤(x5_1:Int):=od_ (by first|(with_reducible assumption)|assumption)
           have q158:x5_1<(l0.length:Int):=od_ (by first|(with_reducible assumption)|assumption)
           obtain ⟨ad158,A158_4,c158_4,A158_5,c158_5,e158,hx158_0,hx158_1,hx158_2,hx158_3,hx158_4,hx158_5,hl158_4,hi158_4,hl158_5,hi158_5⟩:=at_T28 HR0.out x5_1 p158 q158
           have hw158_5:=hx158_5
           have hw158_4:=hx158_4
           have hw158_3:=hx158_3
           have hw158_2:=hx158_2
           have hw158_1:=hx158_1
           have hw158_0:=hx158_0
           obtain rfl:ad156=ad158:=(by injection e158)
           try (have h_:=hx158_4.symm.trans hw156_4;injection h_ with h_;injection h_ with h1_ h3_ h2_;subst h1_;subst h2_)
           try (have h_:=hx158_5.symm.trans hw156_5;injection h_ with h_;injection h_ with h1_ h3_ h2_;subst h1_;subst h2_)
           replace hx158_0:=(HB.out.cell (bl_ w _ hx158_0)).trans hx158_0
           replace hx158_1:=(HB.out.cell (bl_ w _ hx158_1)).trans hx158_1
           replace hx158_2:=(HB.out.cell (bl_ w _ hx158_2)).trans hx158_2
           replace hx158_3:=(HB.out.cell (bl_ w _ hx158_3)).trans hx158_3
           replace hx158_4:=(HB.out.cell (bl_ w _ hx158_4)).trans hx158_4
           replace hx158_5:=(HB.out.cell (bl_ w _ hx158_5)).trans hx158_5
           have HR158_4:=A_ hi158_4
           have HC158_4:=A_ hl158_4
           clear hi158_4 hl158_4
           have HR158_5:=A_ hi158_5
           have HC158_5:=A_ hl158_5
           clear hi158_5 hl158_5
           replace p158:=eq_true p158
           replace q158:=eq_true q158
           refine start_ (n:=8) (S:=fun w'=>w'.cell? (ad156.add ((x5_1).toNat * 6))=some (.int .i64 ((rd_T28 l0 x5_1).f0))∧w'.cell? ⟨(ad156.add ((x5_1).toNat * 6)).block,(ad156.add ((x5_1).toNat * 6)).off+1,none⟩=some (.int .i64 ((rd_T28 l0 x5_1).f1))∧w'.cell? ⟨(ad156.add ((x5_1).toNat * 6)).block,(ad156.add ((x5_1).toNat * 6)).off+2,none⟩=some (.string ((rd_T28 l0 x5_1).f2))∧w'.cell? ⟨(ad156.add ((x5_1).toNat * 6)).block,(ad156.add ((x5_1).toNat * 6)).off+3,none⟩=some (.string ((rd_T28 l0 x5_1).f3))∧w'.cell? ⟨(ad156.add ((x5_1).toNat * 6)).block,(ad156.add ((x5_1).toNat * 6)).off+4,none⟩=some (.slice A158_4 ((rd_T28 l0 x5_1).f4).length c158_4)∧w'.cell? ⟨(ad156.add ((x5_1).toNat * 6)).block,(ad156.add ((x5_1).toNat * 6)).off+5,none⟩=some (.slice A158_5 ((rd_T28 l0 x5_1).f5).length c158_5)) (ds:=[]) #[F_,F_,F_,F_,F_,F_,F_,F_] (by kernel_rfl) rfl rfl ⟨((HB.out.cell (bl_ w _ hw158_0)).trans hw158_0),((HB.out.cell (bl_ w _ hw158_1)).trans hw158_1),((HB.out.cell (bl_ w _ hw158_2)).trans hw158_2),((HB.out.cell (bl_ w _ hw158_3)).trans hw158_3),((HB.out.cell (bl_ w _ hw158_4)).trans hw158_4),((HB.out.cell (bl_ w _ hw158_5)).trans hw158_5)⟩ (fun hHeld=>?_);refine with_tabW laws_heldNodeS.tab10 laws_heldNodeS.bits10 (fun HT_ HW_=>?_)
           generalize wr.drew=w26 at HB HR158_4 HR158_5 hx158_0 hx158_1 hx158_2 hx158_3 hx158_4 hx158_5 hHeld ⊢
           refine pure_ (i:=0) (N:=some 30) (v:=?_) (a':=?_) #[T_,F_,F_,F_,F_,F_,F_,F_] rfl rfl (any_of HT_.out (by kernel_rfl)) (fun _ _ _ h=>h) (Or.inl ⟨by rfl,?_⟩) ?_ ?_
           rotate_left
           ·intro w'
            go_simp
            with_reducible rfl
           rotate_left
           ·simp only [Act.put,ls_,lz_,lc_,i64_w,i32_w]
            rfl
           refine pure_ (i:=1) (N:=some 31) (v:=?_) (a':=?_) #[T_,T_,F_,F_,F_,F_,F_,F_] rfl rfl (any_of HT_.out (by kernel_rfl)) (fun _ _ _ h=>h) (Or.inl ⟨by rfl,?_⟩) ?_ ?_
           rotate_left
           ·intro w'
            go_simp
            with_reducible rfl
           rotate_left
           ·simp only [Act.put,ls_,lz_,lc_,i64_w,i32_w]
            rfl
           refine pure_ (i:=2) (N:=some 32) (v:=?_) (a':=?_) #[T_,T_,T_,F_,F_,F_,F_,F_] rfl rfl (any_of HT_.out (by kernel_rfl)) (fun _ _ _ h=>h) (Or.inl ⟨by rfl,?_⟩) ?_ ?_
           rotate_left
           ·intro w'
            go_simp
            with_reducible rfl
           rotate_left
           ·simp only [Act.put,ls_,lz_,lc_,i64_w,i32_w]
            rfl
           refine pure_ (i:=3) (N:=some 33) (v:=?_) (a':=?_) #[T_,T_,T_,T_,F_,F_,F_,F_] rfl rfl (any_of HT_.out (by kernel_rfl)) (fun _ _ _ h=>h) (Or.inl ⟨by rfl,?_⟩) ?_ ?_
           rotate_left
           ·intro w'
            go_simp
            with_reducible rfl
           rotate_left
           ·simp only [Act.put,ls_,lz_,lc_,i64_w,i32_w]
            rfl
           refine pure_ (i:=5) (N:=some 35) (v:=?_) (a':=?_) #[T_,T_,T_,T_,F_,T_,F_,F_] rfl rfl (any_of HT_.out (by kernel_rfl)) (fun _ _ _ h=>h) (Or.inl ⟨by rfl,?_⟩) ?_ ?_
           rotate_left
           ·intro w'
            go_simp
            with_reducible rfl
           rotate_left
           ·simp only [Act.put,ls_,lz_,lc_,i64_w,i32_w]
            rfl
           refine take_ (i:=4) (N:=some 34) (v:=?_) (a':=?_) #[T_,T_,T_,T_,T_,T_,F_,F_] rfl rfl (take_ofW HT_.out HW_.out (by kernel_rfl)) (fun _ _ _ h=>h) (Or.inl ⟨by rfl,?_⟩) hHeld ?_ ?_
           rotate_left
           ·rintro w' ⟨s0,s1,s2,s3,s4,s5⟩
            go_simp
            with_reducible rfl
           rotate_left
           ·simp only [Act.put,ls_,lz_,lc_,i64_w,i32_w]
            rfl
           refine one_ (i:=6) (N:=some 36) #[T_,T_,T_,T_,T_,T_,T_,F_] rfl rfl (one_of HT_.out (by kernel_rfl)) (by decide) (fun K hK=>?_)
           refine goes_ Try.func32 (by kernel_rfl) rfl #[.int .i64 (wrap64 ((wrap64 (x1_1+1))+1))] (by rfl) rfl rfl (by (try simp only [List.map_toArray,List.map_cons,List.map_nil]);first|done|rfl|(simp only [ld_,lt_];rfl)) ?_
           with_reducible refine (laws_markText.calls k1 (wrap64 ((wrap64 (x1_1+1))+1)) t159 _ A7.out).mono ?_
           rintro e w27 ⟨rfl,hb⟩
           refine ⟨_,rfl,?_⟩
           have n0_:=A_ (bp_ (by repeat (first|(with_reducible first|exact HB.out|apply ba_|apply pd_|apply b1_)|exact HB.out)) hb)
           clear HB
           have HB:=n0_
           clear n0_
           (try clear hb)
           (try clear hb2)
           (try clear hk)
           (try clear hi)
           refine hK.out _ _ ⟨((HB.out.cell (bl_ w _ hw158_0)).trans hw158_0),((HB.out.cell (bl_ w _ hw158_1)).trans hw158_1),((HB.out.cell (bl_ w _ hw158_2)).trans hw158_2),((HB.out.cell (bl_ w _ hw158_3)).trans hw158_3),((HB.out.cell (bl_ w _ hw158_4)).trans hw158_4),((HB.out.cell (bl_ w _ hw158_5)).trans hw158_5)⟩ (fun hHeld=>?_)
           clear hK K
           refine norm_ (a':=?_) ?_ ?_
           rotate_left
           ·show Act.put _ (some 36) _=_
            simp only [Act.put,ls_,lz_,lc_,i64_w,i32_w]
            rfl
           refine pure_ (i:=7) (N:=some 37) (v:=?_) (a':=?_) #[T_,T_,T_,T_,T_,T_,T_,T_] rfl rfl (any_of HT_.out (by kernel_rfl)) (fun _ _ _ h=>h) (Or.inl ⟨by rfl,?_⟩) ?_ ?_
           rotate_left
           ·intro w'
            go_simp
            with_reducible rfl
           rotate_left
           ·simp only [Act.put,ls_,lz_,lc_,i64_w,i32_w]
            rfl
           refine done_ (done_of HT_.out (by kernel_rfl)) ?_
           try go_wp2
           have n0_:=A_ (b1_ HB.out)
           clear HB
           have HB:=n0_
           clear n0_
           have p160:0≤(x5_1:Int):=od_ (by first|(with_reducible assumption)|assumption)
           have q160:x5_1<(l0.length:Int):=od_ (by first|(with_reducible assumption)|assumption)
           obtain ⟨ad160,A160_4,c160_4,A160_5,c160_5,e160,hx160_0,hx160_1,hx160_2,hx160_3,hx160_4,hx160_5,hl160_4,hi160_4,hl160_5,hi160_5⟩:=at_T28 HR0.out x5_1 p160 q160
           have hw160_5:=hx160_5
           have hw160_4:=hx160_4
           have hw160_3:=hx160_3
           have hw160_2:=hx160_2
           have hw160_1:=hx160_1
           have hw160_0:=hx160_0
           obtain rfl:ad156=ad160:=(by injection e160)
           try (have h_:=hx160_4.symm.trans hw158_4;injection h_ with h_;injection h_ with h1_ h3_ h2_;subst h1_;subst h2_)
           try (have h_:=hx160_5.symm.trans hw158_5;injection h_ with h_;injection h_ with h1_ h3_ h2_;subst h1_;subst h2_)
           replace hx160_0:=(HB.out.cell (bl_ w _ hx160_0)).trans hx160_0
           replace hx160_1:=(HB.out.cell (bl_ w _ hx160_1)).trans hx160_1
           replace hx160_2:=(HB.out.cell (bl_ w _ hx160_2)).trans hx160_2
           replace hx160_3:=(HB.out.cell (bl_ w _ hx160_3)).trans hx160_3
           replace hx160_4:=(HB.out.cell (bl_ w _ hx160_4)).trans hx160_4
           replace hx160_5:=(HB.out.cell (bl_ w _ hx160_5)).trans hx160_5
           have HR160_4:=A_ hi160_4
           have HC160_4:=A_ hl160_4
           clear hi160_4 hl160_4
           have HR160_5:=A_ hi160_5
           have HC160_5:=A_ hl160_5
           clear hi160_5 hl160_5
           replace p160:=eq_true p160
           replace q160:=eq_true q160
           refine start_ (n:=8) (S:=fun w'=>w'.cell? (ad156.add ((x5_1).toNat * 6))=some (.int .i64 ((rd_T28 l0 x5_1).f0))∧w'.cell? ⟨(ad156.add ((x5_1).toNat * 6)).block,(ad156.add ((x5_1).toNat * 6)).off+1,none⟩=some (.int .i64 ((rd_T28 l0 x5_1).f1))∧w'.cell? ⟨(ad156.add ((x5_1).toNat * 6)).block,(ad156.add ((x5_1).toNat * 6)).off+2,none⟩=some (.string ((rd_T28 l0 x5_1).f2))∧w'.cell? ⟨(ad156.add ((x5_1).toNat * 6)).block,(ad156.add ((x5_1).toNat * 6)).off+3,none⟩=some (.string ((rd_T28 l0 x5_1).f3))∧w'.cell? ⟨(ad156.add ((x5_1).toNat * 6)).block,(ad156.add ((x5_1).toNat * 6)).off+4,none⟩=some (.slice A160_4 ((rd_T28 l0 x5_1).f4).length c160_4)∧w'.cell? ⟨(ad156.add ((x5_1).toNat * 6)).block,(ad156.add ((x5_1).toNat * 6)).off+5,none⟩=some (.slice A160_5 ((rd_T28 l0 x5_1).f5).length c160_5)) (ds:=[]) #[F_,F_,F_,F_,F_,F_,F_,F_] (by kernel_rfl) rfl rfl ⟨((HB.out.cell (bl_ w _ hw160_0)).trans hw160_0),((HB.out.cell (bl_ w _ hw160_1)).trans hw160_1),((HB.out.cell (bl_ w _ hw160_2)).trans hw160_2),((HB.out.cell (bl_ w _ hw160_3)).trans hw160_3),((HB.out.cell (bl_ w _ hw160_4)).trans hw160_4),((HB.out.cell (bl_ w _ hw160_5)).trans hw160_5)⟩ (fun hHeld=>?_);refine with_tabW laws_heldNodeS.tab13 laws_heldNodeS.bits13 (fun HT_ HW_=>?_)
           generalize w27.drew=w28 at HB HR160_4 HR160_5 hx160_0 hx160_1 hx160_2 hx160_3 hx160_4 hx160_5 hHeld ⊢
           refine pure_ (i:=0) (N:=some 40) (v:=?_) (a':=?_) #[T_,F_,F_,F_,F_,F_,F_,F_] rfl rfl (any_of HT_.out (by kernel_rfl)) (fun _ _ _ h=>h) (Or.inl ⟨by rfl,?_⟩) ?_ ?_
           rotate_left
           ·intro w'
            go_simp
            with_reducible rfl
           rotate_left
           ·simp only [Act.put,ls_,lz_,lc_,i64_w,i32_w]
            rfl
           refine pure_ (i:=1) (N:=some 41) (v:=?_) (a':=?_) #[T_,T_,F_,F_,F_,F_,F_,F_] rfl rfl (any_of HT_.out (by kernel_rfl)) (fun _ _ _ h=>h) (Or.inl ⟨by rfl,?_⟩) ?_ ?_
           rotate_left
           ·intro w'
            go_simp
            with_reducible rfl
           rotate_left
           ·simp only [Act.put,ls_,lz_,lc_,i64_w,i32_w]
            rfl
           refine pure_ (i:=2) (N:=some 42) (v:=?_) (a':=?_) #[T_,T_,T_,F_,F_,F_,F_,F_] rfl rfl (any_of HT_.out (by kernel_rfl)) (fun _ _ _ h=>h) (Or.inl ⟨by rfl,?_⟩) ?_ ?_
           rotate_left
           ·intro w'
            go_simp
            with_reducible rfl
           rotate_left
           ·simp only [Act.put,ls_,lz_,lc_,i64_w,i32_w]
            rfl
           refine pure_ (i:=3) (N:=some 43) (v:=?_) (a':=?_) #[T_,T_,T_,T_,F_,F_,F_,F_] rfl rfl (any_of HT_.out (by kernel_rfl)) (fun _ _ _ h=>h) (Or.inl ⟨by rfl,?_⟩) ?_ ?_
           rotate_left
           ·intro w'
            go_simp
            with_reducible rfl
           rotate_left
           ·simp only [Act.put,ls_,lz_,lc_,i64_w,i32_w]
            rfl
           refine pure_ (i:=5) (N:=some 45) (v:=?_) (a':=?_) #[T_,T_,T_,T_,F_,T_,F_,F_] rfl rfl (any_of HT_.out (by kernel_rfl)) (fun _ _ _ h=>h) (Or.inl ⟨by rfl,?_⟩) ?_ ?_
           rotate_left
           ·intro w'
            go_simp
            with_reducible rfl
           rotate_left
           ·simp only [Act.put,ls_,lz_,lc_,i64_w,i32_w]
            rfl
           refine take_ (i:=4) (N:=some 44) (v:=?_) (a':=?_) #[T_,T_,T_,T_,T_,T_,F_,F_] rfl rfl (take_ofW HT_.out HW_.out (by kernel_rfl)) (fun _ _ _ h=>h) (Or.inl ⟨by rfl,?_⟩) hHeld ?_ ?_
           rotate_left
           ·rintro w' ⟨s0,s1,s2,s3,s4,s5⟩
            go_simp
            with_reducible rfl
           rotate_left
           ·simp only [Act.put,ls_,lz_,lc_,i64_w,i32_w]
            rfl
           refine one_ (i:=6) (N:=some 46) #[T_,T_,T_,T_,T_,T_,T_,F_] rfl rfl (one_of HT_.out (by kernel_rfl)) (by decide) (fun K hK=>?_)
           refine goes_ Try.func32 (by kernel_rfl) rfl #[.int .i64 (wrap64 ((wrap64 ((wrap64 (x1_1+1))+1))+1))] (by rfl) rfl rfl (by (try simp only [List.map_toArray,List.map_cons,List.map_nil]);first|done|rfl|(simp only [ld_,lt_];rfl)) ?_
           with_reducible refine (laws_markText.calls k1 (wrap64 ((wrap64 ((wrap64 (x1_1+1))+1))+1)) t161 _ A9.out).mono ?_
           rintro e w29 ⟨rfl,hb⟩
           refine ⟨_,rfl,?_⟩
           have n0_:=A_ (bp_ (by repeat (first|(with_reducible first|exact HB.out|apply ba_|apply pd_|apply b1_)|exact HB.out)) hb)
           clear HB
           have HB:=n0_
           clear n0_
           (try clear hb)
           (try clear hb2)
           (try clear hk)
           (try clear hi)
           refine hK.out _ _ ⟨((HB.out.cell (bl_ w _ hw160_0)).trans hw160_0),((HB.out.cell (bl_ w _ hw160_1)).trans hw160_1),((HB.out.cell (bl_ w _ hw160_2)).trans hw160_2),((HB.out.cell (bl_ w _ hw160_3)).trans hw160_3),((HB.out.cell (bl_ w _ hw160_4)).trans hw160_4),((HB.out.cell (bl_ w _ hw160_5)).trans hw160_5)⟩ (fun hHeld=>?_)
           clear hK K
           refine norm_ (a':=?_) ?_ ?_
           rotate_left
           ·show Act.put _ (some 46) _=_
            simp only [Act.put,ls_,lz_,lc_,i64_w,i32_w]
            rfl
           refine pure_ (i:=7) (N:=some 47) (v:=?_) (a':=?_) #[T_,T_,T_,T_,T_,T_,T_,T_] rfl rfl (any_of HT_.out (by kernel_rfl)) (fun _ _ _ h=>h) (Or.inl ⟨by rfl,?_⟩) ?_ ?_
           rotate_left
           ·intro w'
            go_simp
            with_reducible rfl
           rotate_left
           ·simp only [Act.put,ls_,lz_,lc_,i64_w,i32_w]
            rfl
           refine done_ (done_of HT_.out (by kernel_rfl)) ?_
           have p162:0≤(x5_1:Int):=od_ (by first|(with_reducible assumption)|assumption)
           have q162:x5_1<(l0.length:Int):=od_ (by first|(with_reducible assumption)|assumption)
           obtain ⟨ad162,A162_4,c162_4,A162_5,c162_5,e162,hx162_0,hx162_1,hx162_2,hx162_3,hx162_4,hx162_5,hl162_4,hi162_4,hl162_5,hi162_5⟩:=at_T28 HR0.out x5_1 p162 q162
           obtain rfl:ad156=ad162:=(by injection e162)
           try (have h_:=hx162_4.symm.trans hw160_4;injection h_ with h_;injection h_ with h1_ h3_ h2_;subst h1_;subst h2_)
           try (have h_:=hx162_5.symm.trans hw160_5;injection h_ with h_;injection h_ with h1_ h3_ h2_;subst h1_;subst h2_)
           replace hx162_0:=(HB.out.cell (bl_ w _ hx162_0)).trans hx162_0
           replace hx162_1:=(HB.out.cell (bl_ w _ hx162_1)).trans hx162_1
           replace hx162_2:=(HB.out.cell (bl_ w _ hx162_2)).trans hx162_2
           replace hx162_3:=(HB.out.cell (bl_ w _ hx162_3)).trans hx162_3
           replace hx162_4:=(HB.out.cell (bl_ w _ hx162_4)).trans hx162_4
           replace hx162_5:=(HB.out.cell (bl_ w _ hx162_5)).trans hx162_5
           have HR162_4:=A_ hi162_4
           have HC162_4:=A_ hl162_4
           clear hi162_4 hl162_4
           have HR162_5:=A_ hi162_5
           have HC162_5:=A_ hl162_5
           clear hi162_5 hl162_5
           replace p162:=eq_true p162
           replace q162:=eq_true q162
           try go_wp2_with (first|((with_reducible refine gate_callee (f:=34) rfl ?_);refine goesL_ (some 56) rfl rfl Try.func34 (by kernel_rfl) rfl #[.slice A162_4 ((rd_T28 l0 x5_1).f4).length c162_4,.int .i64 (wrap64 ((wrap64 ((wrap64 ((wrap64 (x1_1+1))+1))+1))+1))] rfl (by (try simp only [List.map_toArray,List.map_cons,List.map_nil]);first|done|rfl|(simp only [ld_,lt_];rfl)) ?_;(with_reducible refine (laws_heldAttrS.calls k1 _ _ ((rd_T28 l0 x5_1).f4) (wrap64 ((wrap64 ((wrap64 ((wrap64 (x1_1+1))+1))+1))+1)) t163 _ ?side1 ?side2 A11.out).mono ?_);(case side1=>repeat (first|exact (cb_ HR162_4.out HB.out)|(with_reducible refine ca_ ?_ _)|(with_reducible refine cn_ ?_ _)|(with_reducible refine cd_ ?_)));(case side2=>exact HC162_4.out);rintro e w30 ⟨rfl,hb⟩;refine ⟨_,rfl,?_⟩;have n0_:=A_ (bp_ (by repeat (first|(with_reducible first|exact HB.out|apply ba_|apply pd_|apply b1_)|exact HB.out)) hb);clear HB;have HB:=n0_;clear n0_;(try clear hb);(try clear hb2);(try clear hk);(try clear hi);have p164:0≤(x5_1:Int):=od_ (by first|(with_reducible assumption)|assumption);have q164:x5_1<(l0.length:Int):=od_ (by first|(with_reducible assumption)|assumption);obtain ⟨ad164,A164_4,c164_4,A164_5,c164_5,e164,hx164_0,hx164_1,hx164_2,hx164_3,hx164_4,hx164_5,hl164_4,hi164_4,hl164_5,hi164_5⟩:=at_T28 HR0.out x5_1 p164 q164;obtain rfl:ad156=ad164:=(by injection e164);replace hx164_0:=(HB.out.cell (bl_ w _ hx164_0)).trans hx164_0;replace hx164_1:=(HB.out.cell (bl_ w _ hx164_1)).trans hx164_1;replace hx164_2:=(HB.out.cell (bl_ w _ hx164_2)).trans hx164_2;replace hx164_3:=(HB.out.cell (bl_ w _ hx164_3)).trans hx164_3;replace hx164_4:=(HB.out.cell (bl_ w _ hx164_4)).trans hx164_4;replace hx164_5:=(HB.out.cell (bl_ w _ hx164_5)).trans hx164_5;have HR164_4:=A_ hi164_4;have HC164_4:=A_ hl164_4;clear hi164_4 hl164_4;have HR164_5:=A_ hi164_5;have HC164_5:=A_ hl164_5;clear hi164_5 hl164_5;replace p164:=eq_true p164;replace q164:=eq_true q164)|((with_reducible refine gate_callee (f:=20) rfl ?_);refine goesL_ (some 65) rfl rfl Try.func20 (by kernel_rfl) rfl #[.slice A164_5 ((rd_T28 l0 x5_1).f5).length c164_5,.int .i64 t163] rfl (by (try simp only [List.map_toArray,List.map_cons,List.map_nil]);first|done|rfl|(simp only [ld_,lt_];rfl)) ?_;(with_reducible refine (ih k1 (by have:=HK1.out;omega) _ _ ((rd_T28 l0 x5_1).f5) t163 t165 _ ?side1 ?side2 A18.out).mono ?_);(case side1=>repeat (first|exact (cb_ HR164_5.out HB.out)|(with_reducible refine ca_ ?_ _)|(with_reducible refine cn_ ?_ _)|(with_reducible refine cd_ ?_)));(case side2=>exact HC164_5.out);rintro e w31 ⟨rfl,hb⟩;refine ⟨_,rfl,?_⟩;have n0_:=A_ (bp_ (by repeat (first|(with_reducible first|exact HB.out|apply ba_|apply pd_|apply b1_)|exact HB.out)) hb);clear HB;have HB:=n0_;clear n0_;(try clear hb);(try clear hb2);(try clear hk);(try clear hi)))
           go_roundg k1
           case measure=>have:=HK1.out;omega
           case rel=>exact ⟨(t165),(wrap64 (x5_1+1)),(by first|rfl|(simp;done)|(simp [*];done)),(by first|rfl|(simp;done)|(simp [*];done)),H',⟨by have:=HK1.out;omega⟩,⟨by repeat (first|(with_reducible first|exact HB.out|apply ba_|apply pd_|apply b1_)|exact HB.out)⟩⟩
        ·rw [if_neg c10] at H
         have c10b0:(((rd_T28 l0 x5_1).f3).toList == t161.toList)=false:=beq_eq_false_iff_ne.mpr c10
         have c10b1:(((rd_T28 l0 x5_1).f3).toList != t161.toList)=true:=bne_iff_ne.mpr c10
         obtain rfl:=oi_ H
         have p156:0≤(x5_1:Int):=od_ (by first|(with_reducible assumption)|assumption)
         have q156:x5_1<(l0.length:Int):=od_ (by first|(with_reducible assumption)|assumption)
         obtain ⟨ad156,A156_4,c156_4,A156_5,c156_5,e156,hx156_0,hx156_1,hx156_2,hx156_3,hx156_4,hx156_5,hl156_4,hi156_4,hl156_5,hi156_5⟩:=at_T28 HR0.out x5_1 p156 q156
         cases e156
         replace hx156_0:=(HB.out.cell (bl_ w _ hx156_0)).trans hx156_0
         replace hx156_1:=(HB.out.cell (bl_ w _ hx156_1)).trans hx156_1
         replace hx156_2:=(HB.out.cell (bl_ w _ hx156_2)).trans hx156_2
         replace hx156_3:=(HB.out.cell (bl_ w _ hx156_3)).trans hx156_3
         replace hx156_4:=(HB.out.cell (bl_ w _ hx156_4)).trans hx156_4
         replace hx156_5:=(HB.out.cell (bl_ w _ hx156_5)).trans hx156_5
         have HR156_4:=A_ hi156_4
         have HC156_4:=A_ hl156_4
         clear hi156_4 hl156_4
         have HR156_5:=A_ hi156_5
         have HC156_5:=A_ hl156_5
         clear hi156_5 hl156_5
         replace p156:=eq_true p156
         replace q156:=eq_true q156
         have p157:0≤(x5_1:Int):=od_ (by first|(with_reducible assumption)|assumption)
         have q157:x5_1<(l0.length:Int):=od_ (by first|(with_reducible assumption)|assumption)
         obtain ⟨ad157,A157_4,c157_4,A157_5,c157_5,e157,hx157_0,hx157_1,hx157_2,hx157_3,hx157_4,hx157_5,hl157_4,hi157_4,hl157_5,hi157_5⟩:=at_T28 HR0.out x5_1 p157 q157
         obtain rfl:ad156=ad157:=(by injection e157)
         try (have h_:=hx157_4.symm.trans hw155_4;injection h_ with h_;injection h_ with h1_ h3_ h2_;subst h1_;subst h2_)
         try (have h_:=hx157_5.symm.trans hw155_5;injection h_ with h_;injection h_ with h1_ h3_ h2_;subst h1_;subst h2_)
         replace hx157_0:=(HB.out.cell (bl_ w _ hx157_0)).trans hx157_0
         replace hx157_1:=(HB.out.cell (bl_ w _ hx157_1)).trans hx157_1
         replace hx157_2:=(HB.out.cell (bl_ w _ hx157_2)).trans hx157_2
         replace hx157_3:=(HB.out.cell (bl_ w _ hx157_3)).trans hx157_3
         replace hx157_4:=(HB.out.cell (bl_ w _ hx157_4)).trans hx157_4
         replace hx157_5:=(HB.out.cell (bl_ w _ hx157_5)).trans hx157_5
         have HR157_4:=A_ hi157_4
         have HC157_4:=A_ hl157_4
         clear hi157_4 hl157_4
         have HR157_5:=A_ hi157_5
         have HC157_5:=A_ hl157_5
         clear hi157_5 hl157_5
         replace p157:=eq_true p157
         replace q157:=eq_true q157
         have ea_:=oi_ (hx156_4.symm.trans hx157_4)
         injection ea_ with ea_ en_ ec_
         subst ea_
         subst ec_
         clear en_
         have ea_:=oi_ (hx156_5.symm.trans hx157_5)
         injection ea_ with ea_ en_ ec_
         subst ea_
         subst ec_
         clear en_
         try go_wp2
         have n0_:=A_ (b1_ HB.out)
         clear HB
         have HB:=n0_
         clear n0_
         have p158:0≤(x5_1:Int):=od_ (by first|(with_reducible assumption)|assumption)
         have q158:x5_1<(l0.length:Int):=od_ (by first|(with_reducible assumption)|assumption)
         obtain ⟨ad158,A158_4,c158_4,A158_5,c158_5,e158,hx158_0,hx158_1,hx158_2,hx158_3,hx158_4,hx158_5,hl158_4,hi158_4,hl158_5,hi158_5⟩:=at_T28 HR0.out x5_1 p158 q158
         have hw158_5:=hx158_5
         have hw158_4:=hx158_4
         have hw158_3:=hx158_3
         have hw158_2:=hx158_2
         have hw158_1:=hx158_1
         have hw158_0:=hx158_0
         obtain rfl:ad156=ad158:=(by injection e158)
         try (have h_:=hx158_4.symm.trans hw156_4;injection h_ with h_;injection h_ with h1_ h3_ h2_;subst h1_;subst h2_)
         try (have h_:=hx158_5.symm.trans hw156_5;injection h_ with h_;injection h_ with h1_ h3_ h2_;subst h1_;subst h2_)
         replace hx158_0:=(HB.out.cell (bl_ w _ hx158_0)).trans hx158_0
         replace hx158_1:=(HB.out.cell (bl_ w _ hx158_1)).trans hx158_1
         replace hx158_2:=(HB.out.cell (bl_ w _ hx158_2)).trans hx158_2
         replace hx158_3:=(HB.out.cell (bl_ w _ hx158_3)).trans hx158_3
         replace hx158_4:=(HB.out.cell (bl_ w _ hx158_4)).trans hx158_4
         replace hx158_5:=(HB.out.cell (bl_ w _ hx158_5)).trans hx158_5
         have HR158_4:=A_ hi158_4
         have HC158_4:=A_ hl158_4
         clear hi158_4 hl158_4
         have HR158_5:=A_ hi158_5
         have HC158_5:=A_ hl158_5
         clear hi158_5 hl158_5
         replace p158:=eq_true p158
         replace q158:=eq_true q158
         refine start_ (n:=8) (S:=fun w'=>w'.cell? (ad156.add ((x5_1).toNat * 6))=some (.int .i64 ((rd_T28 l0 x5_1).f0))∧w'.cell? ⟨(ad156.add ((x5_1).toNat * 6)).block,(ad156.add ((x5_1).toNat * 6)).off+1,none⟩=some (.int .i64 ((rd_T28 l0 x5_1).f1))∧w'.cell? ⟨(ad156.add ((x5_1).toNat * 6)).block,(ad156.add ((x5_1).toNat * 6)).off+2,none⟩=some (.string ((rd_T28 l0 x5_1).f2))∧w'.cell? ⟨(ad156.add ((x5_1).toNat * 6)).block,(ad156.add ((x5_1).toNat * 6)).off+3,none⟩=some (.string ((rd_T28 l0 x5_1).f3))∧w'.cell? ⟨(ad156.add ((x5_1).toNat * 6)).block,(ad156.add ((x5_1).toNat * 6)).off+4,none⟩=some (.slice A158_4 ((rd_T28 l0 x5_1).f4).length c158_4)∧w'.cell? ⟨(ad156.add ((x5_1).toNat * 6)).block,(ad156.add ((x5_1).toNat * 6)).off+5,none⟩=some (.slice A158_5 ((rd_T28 l0 x5_1).f5).length c158_5)) (ds:=[]) #[F_,F_,F_,F_,F_,F_,F_,F_] (by kernel_rfl) rfl rfl ⟨((HB.out.cell (bl_ w _ hw158_0)).trans hw158_0),((HB.out.cell (bl_ w _ hw158_1)).trans hw158_1),((HB.out.cell (bl_ w _ hw158_2)).trans hw158_2),((HB.out.cell (bl_ w _ hw158_3)).trans hw158_3),((HB.out.cell (bl_ w _ hw158_4)).trans hw158_4),((HB.out.cell (bl_ w _ hw158_5)).trans hw158_5)⟩ (fun hHeld=>?_);refine with_tabW laws_heldNodeS.tab10 laws_heldNodeS.bits10 (fun HT_ HW_=>?_)
         generalize wr.drew=w32 at HB HR158_4 HR158_5 hx158_0 hx158_1 hx158_2 hx158_3 hx158_4 hx158_5 hHeld ⊢
         refine pure_ (i:=0) (N:=some 30) (v:=?_) (a':=?_) #[T_,F_,F_,F_,F_,F_,F_,F_] rfl rfl (any_of HT_.out (by kernel_rfl)) (fun _ _ _ h=>h) (Or.inl ⟨by rfl,?_⟩) ?_ ?_
         rotate_left
         ·intro w'
          go_simp
          with_reducible rfl
         rotate_left
         ·simp only [Act.put,ls_,lz_,lc_,i64_w,i32_w]
          rfl
         refine pure_ (i:=1) (N:=some 31) (v:=?_) (a':=?_) #[T_,T_,F_,F_,F_,F_,F_,F_] rfl rfl (any_of HT_.out (by kernel_rfl)) (fun _ _ _ h=>h) (Or.inl ⟨by rfl,?_⟩) ?_ ?_
         rotate_left
         ·intro w'
          go_simp
          with_reducible rfl
         rotate_left
         ·simp only [Act.put,ls_,lz_,lc_,i64_w,i32_w]
          rfl
         refine pure_ (i:=2) (N:=some 32) (v:=?_) (a':=?_) #[T_,T_,T_,F_,F_,F_,F_,F_] rfl rfl (any_of HT_.out (by kernel_rfl)) (fun _ _ _ h=>h) (Or.inl ⟨by rfl,?_⟩) ?_ ?_
         rotate_left
         ·intro w'
          go_simp
          with_reducible rfl
         rotate_left
         ·simp only [Act.put,ls_,lz_,lc_,i64_w,i32_w]
          rfl
         refine pure_ (i:=3) (N:=some 33) (v:=?_) (a':=?_) #[T_,T_,T_,T_,F_,F_,F_,F_] rfl rfl (any_of HT_.out (by kernel_rfl)) (fun _ _ _ h=>h) (Or.inl ⟨by rfl,?_⟩) ?_ ?_
         rotate_left
         ·intro w'
          go_simp
          with_reducible rfl
         rotate_left
         ·simp only [Act.put,ls_,lz_,lc_,i64_w,i32_w]
          rfl
         refine pure_ (i:=5) (N:=some 35) (v:=?_) (a':=?_) #[T_,T_,T_,T_,F_,T_,F_,F_] rfl rfl (any_of HT_.out (by kernel_rfl)) (fun _ _ _ h=>h) (Or.inl ⟨by rfl,?_⟩) ?_ ?_
         rotate_left
         ·intro w'
          go_simp
          with_reducible rfl
         rotate_left
         ·simp only [Act.put,ls_,lz_,lc_,i64_w,i32_w]
          rfl
         refine take_ (i:=4) (N:=some 34) (v:=?_) (a':=?_) #[T_,T_,T_,T_,T_,T_,F_,F_] rfl rfl (take_ofW HT_.out HW_.out (by kernel_rfl)) (fun _ _ _ h=>h) (Or.inl ⟨by rfl,?_⟩) hHeld ?_ ?_
         rotate_left
         ·rintro w' ⟨s0,s1,s2,s3,s4,s5⟩
          go_simp
          with_reducible rfl
         rotate_left
         ·simp only [Act.put,ls_,lz_,lc_,i64_w,i32_w]
          rfl
         refine one_ (i:=6) (N:=some 36) #[T_,T_,T_,T_,T_,T_,T_,F_] rfl rfl (one_of HT_.out (by kernel_rfl)) (by decide) (fun K hK=>?_)
         refine goes_ Try.func32 (by kernel_rfl) rfl #[.int .i64 (wrap64 ((wrap64 (x1_1+1))+1))] (by rfl) rfl rfl (by (try simp only [List.map_toArray,List.map_cons,List.map_nil]);first|done|rfl|(simp only [ld_,lt_];rfl)) ?_
         with_reducible refine (laws_markText.calls k1 (wrap64 ((wrap64 (x1_1+1))+1)) t159 _ A7.out).mono ?_
         rintro e w33 ⟨rfl,hb⟩
         refine ⟨_,rfl,?_⟩
         have n0_:=A_ (bp_ (by repeat (first|(with_reducible first|exact HB.out|apply ba_|apply pd_|apply b1_)|exact HB.out)) hb)
         clear HB
         have HB:=n0_
         clear n0_
         (try clear hb)
         (try clear hb2)
         (try clear hk)
         (try clear hi)
         refine hK.out _ _ ⟨((HB.out.cell (bl_ w _ hw158_0)).trans hw158_0),((HB.out.cell (bl_ w _ hw158_1)).trans hw158_1),((HB.out.cell (bl_ w _ hw158_2)).trans hw158_2),((HB.out.cell (bl_ w _ hw158_3)).trans hw158_3),((HB.out.cell (bl_ w _ hw158_4)).trans hw158_4),((HB.out.cell (bl_ w _ hw158_5)).trans hw158_5)⟩ (fun hHeld=>?_)
         clear hK K
         refine norm_ (a':=?_) ?_ ?_
         rotate_left
         ·show Act.put _ (some 36) _=_
          simp only [Act.put,ls_,lz_,lc_,i64_w,i32_w]
          rfl
         refine pure_ (i:=7) (N:=some 37) (v:=?_) (a':=?_) #[T_,T_,T_,T_,T_,T_,T_,T_] rfl rfl (any_of HT_.out (by kernel_rfl)) (fun _ _ _ h=>h) (Or.inl ⟨by rfl,?_⟩) ?_ ?_
         rotate_left
         ·intro w'
          go_simp
          with_reducible rfl
         rotate_left
         ·simp only [Act.put,ls_,lz_,lc_,i64_w,i32_w]
          rfl
         refine done_ (done_of HT_.out (by kernel_rfl)) ?_
         try go_wp2
         have n0_:=A_ (b1_ HB.out)
         clear HB
         have HB:=n0_
         clear n0_
         have p160:0≤(x5_1:Int):=od_ (by first|(with_reducible assumption)|assumption)
         have q160:x5_1<(l0.length:Int):=od_ (by first|(with_reducible assumption)|assumption)
         obtain ⟨ad160,A160_4,c160_4,A160_5,c160_5,e160,hx160_0,hx160_1,hx160_2,hx160_3,hx160_4,hx160_5,hl160_4,hi160_4,hl160_5,hi160_5⟩:=at_T28 HR0.out x5_1 p160 q160
         have hw160_5:=hx160_5
         have hw160_4:=hx160_4
         have hw160_3:=hx160_3
         have hw160_2:=hx160_2
         have hw160_1:=hx160_1
         have hw160_0:=hx160_0
         obtain rfl:ad156=ad160:=(by injection e160)
         try (have h_:=hx160_4.symm.trans hw158_4;injection h_ with h_;injection h_ with h1_ h3_ h2_;subst h1_;subst h2_)
         try (have h_:=hx160_5.symm.trans hw158_5;injection h_ with h_;injection h_ with h1_ h3_ h2_;subst h1_;subst h2_)
         replace hx160_0:=(HB.out.cell (bl_ w _ hx160_0)).trans hx160_0
         replace hx160_1:=(HB.out.cell (bl_ w _ hx160_1)).trans hx160_1
         replace hx160_2:=(HB.out.cell (bl_ w _ hx160_2)).trans hx160_2
         replace hx160_3:=(HB.out.cell (bl_ w _ hx160_3)).trans hx160_3
         replace hx160_4:=(HB.out.cell (bl_ w _ hx160_4)).trans hx160_4
         replace hx160_5:=(HB.out.cell (bl_ w _ hx160_5)).trans hx160_5
         have HR160_4:=A_ hi160_4
         have HC160_4:=A_ hl160_4
         clear hi160_4 hl160_4
         have HR160_5:=A_ hi160_5
         have HC160_5:=A_ hl160_5
         clear hi160_5 hl160_5
         replace p160:=eq_true p160
         replace q160:=eq_true q160
         refine start_ (n:=8) (S:=fun w'=>w'.cell? (ad156.add ((x5_1).toNat * 6))=some (.int .i64 ((rd_T28 l0 x5_1).f0))∧w'.cell? ⟨(ad156.add ((x5_1).toNat * 6)).block,(ad156.add ((x5_1).toNat * 6)).off+1,none⟩=some (.int .i64 ((rd_T28 l0 x5_1).f1))∧w'.cell? ⟨(ad156.add ((x5_1).toNat * 6)).block,(ad156.add ((x5_1).toNat * 6)).off+2,none⟩=some (.string ((rd_T28 l0 x5_1).f2))∧w'.cell? ⟨(ad156.add ((x5_1).toNat * 6)).block,(ad156.add ((x5_1).toNat * 6)).off+3,none⟩=some (.string ((rd_T28 l0 x5_1).f3))∧w'.cell? ⟨(ad156.add ((x5_1).toNat * 6)).block,(ad156.add ((x5_1).toNat * 6)).off+4,none⟩=some (.slice A160_4 ((rd_T28 l0 x5_1).f4).length c160_4)∧w'.cell? ⟨(ad156.add ((x5_1).toNat * 6)).block,(ad156.add ((x5_1).toNat * 6)).off+5,none⟩=some (.slice A160_5 ((rd_T28 l0 x5_1).f5).length c160_5)) (ds:=[]) #[F_,F_,F_,F_,F_,F_,F_,F_] (by kernel_rfl) rfl rfl ⟨((HB.out.cell (bl_ w _ hw160_0)).trans hw160_0),((HB.out.cell (bl_ w _ hw160_1)).trans hw160_1),((HB.out.cell (bl_ w _ hw160_2)).trans hw160_2),((HB.out.cell (bl_ w _ hw160_3)).trans hw160_3),((HB.out.cell (bl_ w _ hw160_4)).trans hw160_4),((HB.out.cell (bl_ w _ hw160_5)).trans hw160_5)⟩ (fun hHeld=>?_);refine with_tabW laws_heldNodeS.tab13 laws_heldNodeS.bits13 (fun HT_ HW_=>?_)
         generalize w33.drew=w34 at HB HR160_4 HR160_5 hx160_0 hx160_1 hx160_2 hx160_3 hx160_4 hx160_5 hHeld ⊢
         refine pure_ (i:=0) (N:=some 40) (v:=?_) (a':=?_) #[T_,F_,F_,F_,F_,F_,F_,F_] rfl rfl (any_of HT_.out (by kernel_rfl)) (fun _ _ _ h=>h) (Or.inl ⟨by rfl,?_⟩) ?_ ?_
         rotate_left
         ·intro w'
          go_simp
          with_reducible rfl
         rotate_left
         ·simp only [Act.put,ls_,lz_,lc_,i64_w,i32_w]
          rfl
         refine pure_ (i:=1) (N:=some 41) (v:=?_) (a':=?_) #[T_,T_,F_,F_,F_,F_,F_,F_] rfl rfl (any_of HT_.out (by kernel_rfl)) (fun _ _ _ h=>h) (Or.inl ⟨by rfl,?_⟩) ?_ ?_
         rotate_left
         ·intro w'
          go_simp
          with_reducible rfl
         rotate_left
         ·simp only [Act.put,ls_,lz_,lc_,i64_w,i32_w]
          rfl
         refine pure_ (i:=2) (N:=some 42) (v:=?_) (a':=?_) #[T_,T_,T_,F_,F_,F_,F_,F_] rfl rfl (any_of HT_.out (by kernel_rfl)) (fun _ _ _ h=>h) (Or.inl ⟨by rfl,?_⟩) ?_ ?_
         rotate_left
         ·intro w'
          go_simp
          with_reducible rfl
         rotate_left
         ·simp only [Act.put,ls_,lz_,lc_,i64_w,i32_w]
          rfl
         refine pure_ (i:=3) (N:=some 43) (v:=?_) (a':=?_) #[T_,T_,T_,T_,F_,F_,F_,F_] rfl rfl (any_of HT_.out (by kernel_rfl)) (fun _ _ _ h=>h) (Or.inl ⟨by rfl,?_⟩) ?_ ?_
         rotate_left
         ·intro w'
          go_simp
          with_reducible rfl
         rotate_left
         ·simp only [Act.put,ls_,lz_,lc_,i64_w,i32_w]
          rfl
         refine pure_ (i:=5) (N:=some 45) (v:=?_) (a':=?_) #[T_,T_,T_,T_,F_,T_,F_,F_] rfl rfl (any_of HT_.out (by kernel_rfl)) (fun _ _ _ h=>h) (Or.inl ⟨by rfl,?_⟩) ?_ ?_
         rotate_left
         ·intro w'
          go_simp
          with_reducible rfl
         rotate_left
         ·simp only [Act.put,ls_,lz_,lc_,i64_w,i32_w]
          rfl
         refine take_ (i:=4) (N:=some 44) (v:=?_) (a':=?_) #[T_,T_,T_,T_,T_,T_,F_,F_] rfl rfl (take_ofW HT_.out HW_.out (by kernel_rfl)) (fun _ _ _ h=>h) (Or.inl ⟨by rfl,?_⟩) hHeld ?_ ?_
         rotate_left
         ·rintro w' ⟨s0,s1,s2,s3,s4,s5⟩
          go_simp
          with_reducible rfl
         rotate_left
         ·simp only [Act.put,ls_,lz_,lc_,i64_w,i32_w]
          rfl
         refine one_ (i:=6) (N:=some 46) #[T_,T_,T_,T_,T_,T_,T_,F_] rfl rfl (one_of HT_.out (by kernel_rfl)) (by decide) (fun K hK=>?_)
         refine goes_ Try.func32 (by kernel_rfl) rfl #[.int .i64 (wrap64 ((wrap64 ((wrap64 (x1_1+1))+1))+1))] (by rfl) rfl rfl (by (try simp only [List.map_toArray,List.map_cons,List.map_nil]);first|done|rfl|(simp only [ld_,lt_];rfl)) ?_
         with_reducible refine (laws_markText.calls k1 (wrap64 ((wrap64 ((wrap64 (x1_1+1))+1))+1)) t161 _ A9.out).mono ?_
         rintro e w35 ⟨rfl,hb⟩
         refine ⟨_,rfl,?_⟩
         have n0_:=A_ (bp_ (by repeat (first|(with_reducible first|exact HB.out|apply ba_|apply pd_|apply b1_)|exact HB.out)) hb)
         clear HB
         have HB:=n0_
         clear n0_
         (try clear hb)
         (try clear hb2)
         (try clear hk)
         (try clear hi)
         refine hK.out _ _ ⟨((HB.out.cell (bl_ w _ hw160_0)).trans hw160_0),((HB.out.cell (bl_ w _ hw160_1)).trans hw160_1),((HB.out.cell (bl_ w _ hw160_2)).trans hw160_2),((HB.out.cell (bl_ w _ hw160_3)).trans hw160_3),((HB.out.cell (bl_ w _ hw160_4)).trans hw160_4),((HB.out.cell (bl_ w _ hw160_5)).trans hw160_5)⟩ (fun hHeld=>?_)
         clear hK K
         refine norm_ (a':=?_) ?_ ?_
         rotate_left
         ·show Act.put _ (some 46) _=_
          simp only [Act.put,ls_,lz_,lc_,i64_w,i32_w]
          rfl
         refine pure_ (i:=7) (N:=some 47) (v:=?_) (a':=?_) #[T_,T_,T_,T_,T_,T_,T_,T_] rfl rfl (any_of HT_.out (by kernel_rfl)) (fun _ _ _ h=>h) (Or.inl ⟨by rfl,?_⟩) ?_ ?_
         rotate_left
         ·intro w'
          go_simp
          with_reducible rfl
         rotate_left
         ·simp only [Act.put,ls_,lz_,lc_,i64_w,i32_w]
          rfl
         refine done_ (done_of HT_.out (by kernel_rfl)) ?_
         try go_wp2
         go_ret
         exact ⟨by first|rfl|(simp [errW_none,errW_some] <;> rfl)|(simp [*,errW_none,errW_some] <;> rfl),by repeat (first|(with_reducible first|exact HB.out|apply ba_|apply pd_|apply b1_)|exact HB.out)⟩
       ·rw [if_neg c8] at H
        have c8b0:(((rd_T28 l0 x5_1).f2).toList == t159.toList)=false:=beq_eq_false_iff_ne.mpr c8
        have c8b1:(((rd_T28 l0 x5_1).f2).toList != t159.toList)=true:=bne_iff_ne.mpr c8
        obtain rfl:=oi_ H
        have p156:0≤(x5_1:Int):=od_ (by first|(with_reducible assumption)|assumption)
        have q156:x5_1<(l0.length:Int):=od_ (by first|(with_reducible assumption)|assumption)
        obtain ⟨ad156,A156_4,c156_4,A156_5,c156_5,e156,hx156_0,hx156_1,hx156_2,hx156_3,hx156_4,hx156_5,hl156_4,hi156_4,hl156_5,hi156_5⟩:=at_T28 HR0.out x5_1 p156 q156
        cases e156
        replace hx156_0:=(HB.out.cell (bl_ w _ hx156_0)).trans hx156_0
        replace hx156_1:=(HB.out.cell (bl_ w _ hx156_1)).trans hx156_1
        replace hx156_2:=(HB.out.cell (bl_ w _ hx156_2)).trans hx156_2
        replace hx156_3:=(HB.out.cell (bl_ w _ hx156_3)).trans hx156_3
        replace hx156_4:=(HB.out.cell (bl_ w _ hx156_4)).trans hx156_4
        replace hx156_5:=(HB.out.cell (bl_ w _ hx156_5)).trans hx156_5
        have HR156_4:=A_ hi156_4
        have HC156_4:=A_ hl156_4
        clear hi156_4 hl156_4
        have HR156_5:=A_ hi156_5
        have HC156_5:=A_ hl156_5
        clear hi156_5 hl156_5
        replace p156:=eq_true p156
        replace q156:=eq_true q156
        have p157:0≤(x5_1:Int):=od_ (by first|(with_reducible assumption)|assumption)
        have q157:x5_1<(l0.length:Int):=od_ (by first|(with_reducible assumption)|assumption)
        obtain ⟨ad157,A157_4,c157_4,A157_5,c157_5,e157,hx157_0,hx157_1,hx157_2,hx157_3,hx157_4,hx157_5,hl157_4,hi157_4,hl157_5,hi157_5⟩:=at_T28 HR0.out x5_1 p157 q157
        obtain rfl:ad156=ad157:=(by injection e157)
        try (have h_:=hx157_4.symm.trans hw155_4;injection h_ with h_;injection h_ with h1_ h3_ h2_;subst h1_;subst h2_)
        try (have h_:=hx157_5.symm.trans hw155_5;injection h_ with h_;injection h_ with h1_ h3_ h2_;subst h1_;subst h2_)
        replace hx157_0:=(HB.out.cell (bl_ w _ hx157_0)).trans hx157_0
        replace hx157_1:=(HB.out.cell (bl_ w _ hx157_1)).trans hx157_1
        replace hx157_2:=(HB.out.cell (bl_ w _ hx157_2)).trans hx157_2
        replace hx157_3:=(HB.out.cell (bl_ w _ hx157_3)).trans hx157_3
        replace hx157_4:=(HB.out.cell (bl_ w _ hx157_4)).trans hx157_4
        replace hx157_5:=(HB.out.cell (bl_ w _ hx157_5)).trans hx157_5
        have HR157_4:=A_ hi157_4
        have HC157_4:=A_ hl157_4
        clear hi157_4 hl157_4
        have HR157_5:=A_ hi157_5
        have HC157_5:=A_ hl157_5
        clear hi157_5 hl157_5
        replace p157:=eq_true p157
        replace q157:=eq_true q157
        have ea_:=oi_ (hx156_4.symm.trans hx157_4)
        injection ea_ with ea_ en_ ec_
        subst ea_
        subst ec_
        clear en_
        have ea_:=oi_ (hx156_5.symm.trans hx157_5)
        injection ea_ with ea_ en_ ec_
        subst ea_
        subst ec_
        clear en_
        try go_wp2
        have n0_:=A_ (b1_ HB.out)
        clear HB
        have HB:=n0_
        clear n0_
        have p158:0≤(x5_1:Int):=od_ (by first|(with_reducible assumption)|assumption)
        have q158:x5_1<(l0.length:Int):=od_ (by first|(with_reducible assumption)|assumption)
        obtain ⟨ad158,A158_4,c158_4,A158_5,c158_5,e158,hx158_0,hx158_1,hx158_2,hx158_3,hx158_4,hx158_5,hl158_4,hi158_4,hl158_5,hi158_5⟩:=at_T28 HR0.out x5_1 p158 q158
        have hw158_5:=hx158_5
        have hw158_4:=hx158_4
        have hw158_3:=hx158_3
        have hw158_2:=hx158_2
        have hw158_1:=hx158_1
        have hw158_0:=hx158_0
        obtain rfl:ad156=ad158:=(by injection e158)
        try (have h_:=hx158_4.symm.trans hw156_4;injection h_ with h_;injection h_ with h1_ h3_ h2_;subst h1_;subst h2_)
        try (have h_:=hx158_5.symm.trans hw156_5;injection h_ with h_;injection h_ with h1_ h3_ h2_;subst h1_;subst h2_)
        replace hx158_0:=(HB.out.cell (bl_ w _ hx158_0)).trans hx158_0
        replace hx158_1:=(HB.out.cell (bl_ w _ hx158_1)).trans hx158_1
        replace hx158_2:=(HB.out.cell (bl_ w _ hx158_2)).trans hx158_2
        replace hx158_3:=(HB.out.cell (bl_ w _ hx158_3)).trans hx158_3
        replace hx158_4:=(HB.out.cell (bl_ w _ hx158_4)).trans hx158_4
        replace hx158_5:=(HB.out.cell (bl_ w _ hx158_5)).trans hx158_5
        have HR158_4:=A_ hi158_4
        have HC158_4:=A_ hl158_4
        clear hi158_4 hl158_4
        have HR158_5:=A_ hi158_5
        have HC158_5:=A_ hl158_5
        clear hi158_5 hl158_5
        replace p158:=eq_true p158
        replace q158:=eq_true q158
        refine start_ (n:=8) (S:=fun w'=>w'.cell? (ad156.add ((x5_1).toNat * 6))=some (.int .i64 ((rd_T28 l0 x5_1).f0))∧w'.cell? ⟨(ad156.add ((x5_1).toNat * 6)).block,(ad156.add ((x5_1).toNat * 6)).off+1,none⟩=some (.int .i64 ((rd_T28 l0 x5_1).f1))∧w'.cell? ⟨(ad156.add ((x5_1).toNat * 6)).block,(ad156.add ((x5_1).toNat * 6)).off+2,none⟩=some (.string ((rd_T28 l0 x5_1).f2))∧w'.cell? ⟨(ad156.add ((x5_1).toNat * 6)).block,(ad156.add ((x5_1).toNat * 6)).off+3,none⟩=some (.string ((rd_T28 l0 x5_1).f3))∧w'.cell? ⟨(ad156.add ((x5_1).toNat * 6)).block,(ad156.add ((x5_1).toNat * 6)).off+4,none⟩=some (.slice A158_4 ((rd_T28 l0 x5_1).f4).length c158_4)∧w'.cell? ⟨(ad156.add ((x5_1).toNat * 6)).block,(ad156.add ((x5_1).toNat * 6)).off+5,none⟩=some (.slice A158_5 ((rd_T28 l0 x5_1).f5).length c158_5)) (ds:=[]) #[F_,F_,F_,F_,F_,F_,F_,F_] (by kernel_rfl) rfl rfl ⟨((HB.out.cell (bl_ w _ hw158_0)).trans hw158_0),((HB.out.cell (bl_ w _ hw158_1)).trans hw158_1),((HB.out.cell (bl_ w _ hw158_2)).trans hw158_2),((HB.out.cell (bl_ w _ hw158_3)).trans hw158_3),((HB.out.cell (bl_ w _ hw158_4)).trans hw158_4),((HB.out.cell (bl_ w _ hw158_5)).trans hw158_5)⟩ (fun hHeld=>?_);refine with_tabW laws_heldNodeS.tab10 laws_heldNodeS.bits10 (fun HT_ HW_=>?_)
        generalize wr.drew=w36 at HB HR158_4 HR158_5 hx158_0 hx158_1 hx158_2 hx158_3 hx158_4 hx158_5 hHeld ⊢
        refine pure_ (i:=0) (N:=some 30) (v:=?_) (a':=?_) #[T_,F_,F_,F_,F_,F_,F_,F_] rfl rfl (any_of HT_.out (by kernel_rfl)) (fun _ _ _ h=>h) (Or.inl ⟨by rfl,?_⟩) ?_ ?_
        rotate_left
        ·intro w'
         go_simp
         with_reducible rfl
        rotate_left
        ·simp only [Act.put,ls_,lz_,lc_,i64_w,i32_w]
         rfl
        refine pure_ (i:=1) (N:=some 31) (v:=?_) (a':=?_) #[T_,T_,F_,F_,F_,F_,F_,F_] rfl rfl (any_of HT_.out (by kernel_rfl)) (fun _ _ _ h=>h) (Or.inl ⟨by rfl,?_⟩) ?_ ?_
        rotate_left
        ·intro w'
         go_simp
         with_reducible rfl
        rotate_left
        ·simp only [Act.put,ls_,lz_,lc_,i64_w,i32_w]
         rfl
        refine pure_ (i:=2) (N:=some 32) (v:=?_) (a':=?_) #[T_,T_,T_,F_,F_,F_,F_,F_] rfl rfl (any_of HT_.out (by kernel_rfl)) (fun _ _ _ h=>h) (Or.inl ⟨by rfl,?_⟩) ?_ ?_
        rotate_left
        ·intro w'
         go_simp
         with_reducible rfl
        rotate_left
        ·simp only [Act.put,ls_,lz_,lc_,i64_w,i32_w]
         rfl
        refine pure_ (i:=3) (N:=some 33) (v:=?_) (a':=?_) #[T_,T_,T_,T_,F_,F_,F_,F_] rfl rfl (any_of HT_.out (by kernel_rfl)) (fun _ _ _ h=>h) (Or.inl ⟨by rfl,?_⟩) ?_ ?_
        rotate_left
        ·intro w'
         go_simp
         with_reducible rfl
        rotate_left
        ·simp only [Act.put,ls_,lz_,lc_,i64_w,i32_w]
         rfl
        refine pure_ (i:=5) (N:=some 35) (v:=?_) (a':=?_) #[T_,T_,T_,T_,F_,T_,F_,F_] rfl rfl (any_of HT_.out (by kernel_rfl)) (fun _ _ _ h=>h) (Or.inl ⟨by rfl,?_⟩) ?_ ?_
        rotate_left
        ·intro w'
         go_simp
         with_reducible rfl
        rotate_left
        ·simp only [Act.put,ls_,lz_,lc_,i64_w,i32_w]
         rfl
        refine take_ (i:=4) (N:=some 34) (v:=?_) (a':=?_) #[T_,T_,T_,T_,T_,T_,F_,F_] rfl rfl (take_ofW HT_.out HW_.out (by kernel_rfl)) (fun _ _ _ h=>h) (Or.inl ⟨by rfl,?_⟩) hHeld ?_ ?_
        rotate_left
        ·rintro w' ⟨s0,s1,s2,s3,s4,s5⟩
         go_simp
         with_reducible rfl
        rotate_left
        ·simp only [Act.put,ls_,lz_,lc_,i64_w,i32_w]
         rfl
        refine one_ (i:=6) (N:=some 36) #[T_,T_,T_,T_,T_,T_,T_,F_] rfl rfl (one_of HT_.out (by kernel_rfl)) (by decide) (fun K hK=>?_)
        refine goes_ Try.func32 (by kernel_rfl) rfl #[.int .i64 (wrap64 ((wrap64 (x1_1+1))+1))] (by rfl) rfl rfl (by (try simp only [List.map_toArray,List.map_cons,List.map_nil]);first|done|rfl|(simp only [ld_,lt_];rfl)) ?_
        with_reducible refine (laws_markText.calls k1 (wrap64 ((wrap64 (x1_1+1))+1)) t159 _ A7.out).mono ?_
        rintro e w37 ⟨rfl,hb⟩
        refine ⟨_,rfl,?_⟩
        have n0_:=A_ (bp_ (by repeat (first|(with_reducible first|exact HB.out|apply ba_|apply pd_|apply b1_)|exact HB.out)) hb)
        clear HB
        have HB:=n0_
        clear n0_
        (try clear hb)
        (try clear hb2)
        (try clear hk)
        (try clear hi)
        refine hK.out _ _ ⟨((HB.out.cell (bl_ w _ hw158_0)).trans hw158_0),((HB.out.cell (bl_ w _ hw158_1)).trans hw158_1),((HB.out.cell (bl_ w _ hw158_2)).trans hw158_2),((HB.out.cell (bl_ w _ hw158_3)).trans hw158_3),((HB.out.cell (bl_ w _ hw158_4)).trans hw158_4),((HB.out.cell (bl_ w _ hw158_5)).trans hw158_5)⟩ (fun hHeld=>?_)
        clear hK K
        refine norm_ (a':=?_) ?_ ?_
        rotate_left
        ·show Act.put _ (some 36) _=_
         simp only [Act.put,ls_,lz_,lc_,i64_w,i32_w]
         rfl
        refine pure_ (i:=7) (N:=some 37) (v:=?_) (a':=?_) #[T_,T_,T_,T_,T_,T_,T_,T_] rfl rfl (any_of HT_.out (by kernel_rfl)) (fun _ _ _ h=>h) (Or.inl ⟨by rfl,?_⟩) ?_ ?_
        rotate_left
        ·intro w'
         go_simp
         with_reducible rfl
        rotate_left
        ·simp only [Act.put,ls_,lz_,lc_,i64_w,i32_w]
         rfl
        refine done_ (done_of HT_.out (by kernel_rfl)) ?_
        try go_wp2
        go_ret
        exact ⟨by first|rfl|(simp [errW_none,errW_some] <;> rfl)|(simp [*,errW_none,errW_some] <;> rfl),by repeat (first|(with_reducible first|exact HB.out|apply ba_|apply pd_|apply b1_)|exact HB.out)⟩
      ·rw [if_neg c6] at H
       have c6b0:(((rd_T28 l0 x5_1).f1) == (wrap64 (x1_1+1)))=false:=beq_eq_false_iff_ne.mpr c6
       have c6b1:(((rd_T28 l0 x5_1).f1) != (wrap64 (x1_1+1)))=true:=bne_iff_ne.mpr c6
       obtain rfl:=oi_ H
       have p156:0≤(x5_1:Int):=od_ (by first|(with_reducible assumption)|assumption)
       have q156:x5_1<(l0.length:Int):=od_ (by first|(with_reducible assumption)|assumption)
       obtain ⟨ad156,A156_4,c156_4,A156_5,c156_5,e156,hx156_0,hx156_1,hx156_2,hx156_3,hx156_4,hx156_5,hl156_4,hi156_4,hl156_5,hi156_5⟩:=at_T28 HR0.out x5_1 p156 q156
       cases e156
       replace hx156_0:=(HB.out.cell (bl_ w _ hx156_0)).trans hx156_0
       replace hx156_1:=(HB.out.cell (bl_ w _ hx156_1)).trans hx156_1
       replace hx156_2:=(HB.out.cell (bl_ w _ hx156_2)).trans hx156_2
       replace hx156_3:=(HB.out.cell (bl_ w _ hx156_3)).trans hx156_3
       replace hx156_4:=(HB.out.cell (bl_ w _ hx156_4)).trans hx156_4
       replace hx156_5:=(HB.out.cell (bl_ w _ hx156_5)).trans hx156_5
       have HR156_4:=A_ hi156_4
       have HC156_4:=A_ hl156_4
       clear hi156_4 hl156_4
       have HR156_5:=A_ hi156_5
       have HC156_5:=A_ hl156_5
       clear hi156_5 hl156_5
       replace p156:=eq_true p156
       replace q156:=eq_true q156
       have p157:0≤(x5_1:Int):=od_ (by first|(with_reducible assumption)|assumption)
       have q157:x5_1<(l0.length:Int):=od_ (by first|(with_reducible assumption)|assumption)
       obtain ⟨ad157,A157_4,c157_4,A157_5,c157_5,e157,hx157_0,hx157_1,hx157_2,hx157_3,hx157_4,hx157_5,hl157_4,hi157_4,hl157_5,hi157_5⟩:=at_T28 HR0.out x5_1 p157 q157
       obtain rfl:ad156=ad157:=(by injection e157)
       try (have h_:=hx157_4.symm.trans hw155_4;injection h_ with h_;injection h_ with h1_ h3_ h2_;subst h1_;subst h2_)
       try (have h_:=hx157_5.symm.trans hw155_5;injection h_ with h_;injection h_ with h1_ h3_ h2_;subst h1_;subst h2_)
       replace hx157_0:=(HB.out.cell (bl_ w _ hx157_0)).trans hx157_0
       replace hx157_1:=(HB.out.cell (bl_ w _ hx157_1)).trans hx157_1
       replace hx157_2:=(HB.out.cell (bl_ w _ hx157_2)).trans hx157_2
       replace hx157_3:=(HB.out.cell (bl_ w _ hx157_3)).trans hx157_3
       replace hx157_4:=(HB.out.cell (bl_ w _ hx157_4)).trans hx157_4
       replace hx157_5:=(HB.out.cell (bl_ w _ hx157_5)).trans hx157_5
       have HR157_4:=A_ hi157_4
       have HC157_4:=A_ hl157_4
       clear hi157_4 hl157_4
       have HR157_5:=A_ hi157_5
       have HC157_5:=A_ hl157_5
       clear hi157_5 hl157_5
       replace p157:=eq_true p157
       replace q157:=eq_true q157
       have ea_:=oi_ (hx156_4.symm.trans hx157_4)
       injection ea_ with ea_ en_ ec_
       subst ea_
       subst ec_
       clear en_
       have ea_:=oi_ (hx156_5.symm.trans hx157_5)
       injection ea_ with ea_ en_ ec_
       subst ea_
       subst ec_
       clear en_
       go_wp2
       go_ret
       exact ⟨by first|rfl|(simp [errW_none,errW_some] <;> rfl)|(simp [*,errW_none,errW_some] <;> rfl),by repeat (first|(with_reducible first|exact HB.out|apply ba_|apply pd_|apply b1_)|exact HB.out)⟩
     ·rw [if_neg c5] at H
      have c5b0:(((rd_T28 l0 x5_1).f0) == x1_1)=false:=beq_eq_false_iff_ne.mpr c5
      have c5b1:(((rd_T28 l0 x5_1).f0) != x1_1)=true:=bne_iff_ne.mpr c5
      obtain rfl:=oi_ H
      have p156:0≤(x5_1:Int):=od_ (by first|(with_reducible assumption)|assumption)
      have q156:x5_1<(l0.length:Int):=od_ (by first|(with_reducible assumption)|assumption)
      obtain ⟨ad156,A156_4,c156_4,A156_5,c156_5,e156,hx156_0,hx156_1,hx156_2,hx156_3,hx156_4,hx156_5,hl156_4,hi156_4,hl156_5,hi156_5⟩:=at_T28 HR0.out x5_1 p156 q156
      cases e156
      replace hx156_0:=(HB.out.cell (bl_ w _ hx156_0)).trans hx156_0
      replace hx156_1:=(HB.out.cell (bl_ w _ hx156_1)).trans hx156_1
      replace hx156_2:=(HB.out.cell (bl_ w _ hx156_2)).trans hx156_2
      replace hx156_3:=(HB.out.cell (bl_ w _ hx156_3)).trans hx156_3
      replace hx156_4:=(HB.out.cell (bl_ w _ hx156_4)).trans hx156_4
      replace hx156_5:=(HB.out.cell (bl_ w _ hx156_5)).trans hx156_5
      have HR156_4:=A_ hi156_4
      have HC156_4:=A_ hl156_4
      clear hi156_4 hl156_4
      have HR156_5:=A_ hi156_5
      have HC156_5:=A_ hl156_5
      clear hi156_5 hl156_5
      replace p156:=eq_true p156
      replace q156:=eq_true q156
      go_wp2
      go_ret
      exact ⟨by first|rfl|(simp [errW_none,errW_some] <;> rfl)|(simp [*,errW_none,errW_some] <;> rfl),by repeat (first|(with_reducible first|exact HB.out|apply ba_|apply pd_|apply b1_)|exact HB.out)⟩
    ·rw [if_neg c4] at H
     exact absurd H (by simp)
   ·rw [if_neg c3] at H
    have c3b0:decide (x5_1<(l0.length:Int))=false:=df_ c3
    clear c3
    obtain rfl:=oi_ H
    go_wp2
    go_ret
    exact ⟨by first|rfl|(simp [errW_none,errW_some] <;> rfl)|(simp [*,errW_none,errW_some] <;> rfl),by repeat (first|(with_reducible first|exact HB.out|apply ba_|apply pd_|apply b1_)|exact HB.out)⟩
end Go.Proofs.Ytbeplhbkoaopgaa.PFnExactRemoveAt
