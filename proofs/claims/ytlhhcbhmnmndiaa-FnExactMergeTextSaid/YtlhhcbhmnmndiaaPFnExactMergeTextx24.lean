/- By a program of this session, out of the kit's print and contracts made by hand: the machine side of a law; Lean checks it. No conditions. -/
import Derived.Test.YtlhhcbhmnmndiaaPFnExactMergeTextx0
import Derived.Test.YtlhhcbhmnmndiaaPFnExactMergeTextx6
import Derived.Test.YtlhhcbhmnmndiaaPFnExactMergeTextx23
namespace Go.Proofs.Ytlhhcbhmnmndiaa.PFnExactMergeText
open Go.RowKit Go.Proofs.YtlhhcbhmnmndiaaW.PrintWords Go.Proofs.YtlhhcbhmnmndiaaW.PrintLast Go.Proofs.YtlhhcbhmnmndiaaW.PrintMore
attribute [local go_sem] max2_int min2_int max_two min_two max_three min_three max_four min_four
set_option linter.unusedVariables false
set_option linter.unusedSimpArgs false
/-! ### laws_heldNodeS: function 22 -/
mutual
def laws_heldNodeS.l0:Nat→List (S49)→Int→Int→Option (Int)
 | 0,_,_,_=>none
 | k+1,x0,x1,x5=>if x5<(x0.length:Int) then (if 0≤x5 then (if ((rd_T49 x0 x5).f0)=x1 then (if ((rd_T49 x0 x5).f1)=(wrap64 (x1+1)) then ((laws_markText.f k (wrap64 ((wrap64 (x1+1))+1))).bind fun t215=>(if ((rd_T49 x0 x5).f2).toList=t215.toList then ((laws_markText.f k (wrap64 ((wrap64 ((wrap64 (x1+1))+1))+1))).bind fun t217=>(if ((rd_T49 x0 x5).f3).toList=t217.toList then ((laws_heldAttrS.f k ((rd_T49 x0 x5).f4) (wrap64 ((wrap64 ((wrap64 ((wrap64 (x1+1))+1))+1))+1))).bind fun t219=>(if t219<0 then (some (-1)) else ((laws_heldNodeS.f k ((rd_T49 x0 x5).f5) t219).bind fun t221=>(if t221<0 then (some (-1)) else (laws_heldNodeS.l0 k x0 t221 (wrap64 (x5+1))))))) else (some (-1)))) else (some (-1)))) else (some (-1))) else (some (-1))) else (none)) else (some x1)
def laws_heldNodeS.f:Nat→List (S49)→Int→Option (Int)
 | 0,_,_=>none
 | k+1,l0,a1=>laws_heldNodeS.l0 k l0 a1 0
end
theorem laws_heldNodeS.mono_l:∀ k,(∀ y0 y1,LeO (laws_heldNodeS.f k y0 y1) (laws_heldNodeS.f (k+1) y0 y1))∧(∀ y0 y1 y2,LeO (laws_heldNodeS.l0 k y0 y1 y2) (laws_heldNodeS.l0 (k+1) y0 y1 y2))
 | 0=>⟨fun _ _ r h=>by simp [laws_heldNodeS.f] at h,fun _ _ _ r h=>by simp [laws_heldNodeS.l0] at h⟩
 | k+1=>by
  obtain ⟨ih0,ih1⟩:=laws_heldNodeS.mono_l k
  refine ⟨?_,?_⟩
  ·intro y0 y1
   unfold laws_heldNodeS.f
   repeat' first
   | (with_reducible exact ih0 _ _)
   | (with_reducible exact ih1 _ _ _)
   | (with_reducible exact laws_heldAttrS.mono _ _ _)
   | (with_reducible exact laws_markText.mono _ _)
   | (with_reducible exact LeO.refl _)
   | (with_reducible exact LeO.none _)
   | (with_reducible refine LeO.ite ?_ ?_)
   | (with_reducible refine LeO.bind ?_ (fun _=>?_))
   | exact ih0 _ _
   | exact ih1 _ _ _
   | exact laws_heldAttrS.mono _ _ _
   | exact laws_markText.mono _ _
   | exact LeO.none _
   | refine LeO.ite ?_ ?_
   | refine LeO.bind ?_ (fun _=>?_)
  ·intro y0 y1 y2
   unfold laws_heldNodeS.l0
   repeat' first
   | (with_reducible exact ih0 _ _)
   | (with_reducible exact ih1 _ _ _)
   | (with_reducible exact laws_heldAttrS.mono _ _ _)
   | (with_reducible exact laws_markText.mono _ _)
   | (with_reducible exact LeO.refl _)
   | (with_reducible exact LeO.none _)
   | (with_reducible refine LeO.ite ?_ ?_)
   | (with_reducible refine LeO.bind ?_ (fun _=>?_))
   | exact ih0 _ _
   | exact ih1 _ _ _
   | exact laws_heldAttrS.mono _ _ _
   | exact laws_markText.mono _ _
   | exact LeO.none _
   | refine LeO.ite ?_ ?_
   | refine LeO.bind ?_ (fun _=>?_)
theorem laws_heldNodeS.mono:∀ a0 a1 k,LeO (laws_heldNodeS.f k a0 a1) (laws_heldNodeS.f (k+1) a0 a1):=by
 intro a0 a1 k
 obtain ⟨ih0,ih1⟩:=laws_heldNodeS.mono_l k
 exact ih0 a0 a1
def laws_heldNodeS.T10:Bool × List (List Nat × List Nat):=(true,[([],[]),([],[]),([0,1],[0,1]),([2],[2]),([3],[3]),([],[]),([5],[5]),([4,6],[4,6])])
def laws_heldNodeS.B10:List Nat:=[0,0,3,7,15,0,32,127]
theorem laws_heldNodeS.tab10:rtab .any (opsOf Try.f22 10)=laws_heldNodeS.T10:=by kernel_rfl
theorem laws_heldNodeS.bits10:waitsOk laws_heldNodeS.T10.2 laws_heldNodeS.B10=true:=by kernel_rfl
def laws_heldNodeS.T13:Bool × List (List Nat × List Nat):=(true,[([],[]),([],[]),([0,1],[0,1]),([2],[2]),([3],[3]),([],[]),([5],[5]),([4,6],[4,6])])
def laws_heldNodeS.B13:List Nat:=[0,0,3,7,15,0,32,127]
theorem laws_heldNodeS.tab13:rtab .any (opsOf Try.f22 13)=laws_heldNodeS.T13:=by kernel_rfl
theorem laws_heldNodeS.bits13:waitsOk laws_heldNodeS.T13.2 laws_heldNodeS.B13=true:=by kernel_rfl
set_option maxHeartbeats 8000000 in
set_option maxRecDepth 100000 in
theorem laws_heldNodeS.calls (k:Nat):∀ (A0:Option Addr) (c0:Nat) (l0:List (S49)) (a1:Int) (r:Int) (w:World) (hr0:Kd.C k49 w A0 l0.length l0) (hc0:l0.length≤c0) (h:laws_heldNodeS.f k l0 a1=some r),
 Calls Try.prog 22 #[.slice A0 l0.length c0,.int .i64 a1] w fun e w'=>e=.returned (.int .i64 r)∧Below w.heap.size w w':=by
 induction k using Nat.strongRecOn with
 | _ k ih =>
 intro A0 c0 l0 a1 r w hr0 hc0 h
 cases k with
 | zero=>exact absurd h (by simp [laws_heldNodeS.f])
 | succ k =>
 simp only [laws_heldNodeS.f] at h
 have HR0:=A_ hr0
 have HC0:=A_ hc0
 clear hr0 hc0
 have HB:=A_ (Below.refl w.heap.size w)
 have H:(laws_heldNodeS.l0 k l0 a1 0)=some r:=h
 clear h
 have H':=A_ H
 clear H
 go_enter Try.func22,Try.ntmps22
 go_wp2
 go_loopg [1,5] k (fun kq v1 v5 w'=>∃ (x1_1:Int) (x5_1:Int),v1=.int .i64 x1_1∧v5=.int .i64 x5_1∧Aside0 (laws_heldNodeS.l0 kq l0 x1_1 x5_1=some r)∧Aside0 (kq≤k)∧Aside0 (Below w.heap.size w w'))
 case atStart=>exact ⟨(a1),(0),(by first|rfl|(simp;done)|(simp [*];done)),(by first|rfl|(simp;done)|(simp [*];done)),H',⟨Nat.le_refl _⟩,⟨by repeat (first|(with_reducible first|exact HB.out|apply ba_|apply pd_|apply b1_)|exact HB.out)⟩⟩
 case round =>
  clear H'
  try clear c2
  try clear p2
  obtain ⟨x1_1,x5_1,rfl,rfl,HA,HK1,HB⟩:=hrel
  cases gk with
  | zero=>exact absurd HA.out (by simp [laws_heldNodeS.l0])
  | succ k1 =>
   have H:=HA.out
   clear HA
   simp only [laws_heldNodeS.l0] at H
   by_cases c3:x5_1<(l0.length:Int)
   ·rw [if_pos c3] at H
    have c3b0:decide (x5_1<(l0.length:Int))=true:=dt_ c3
    clear c3
    by_cases c4:0≤x5_1
    ·rw [if_pos c4] at H
     have c4b0:decide (0≤x5_1)=true:=dt_ c4
     clear c4
     by_cases c5:((rd_T49 l0 x5_1).f0)=x1_1
     ·rw [if_pos c5] at H
      have c5b0:(((rd_T49 l0 x5_1).f0) == x1_1)=true:=beq_iff_eq.mpr c5
      have c5b1:(((rd_T49 l0 x5_1).f0) != x1_1)=false:=bne_eq_false_iff_eq.mpr c5
      clear c5
      by_cases c6:((rd_T49 l0 x5_1).f1)=(wrap64 (x1_1+1))
      ·rw [if_pos c6] at H
       have c6b0:(((rd_T49 l0 x5_1).f1) == (wrap64 (x1_1+1)))=true:=beq_iff_eq.mpr c6
       have c6b1:(((rd_T49 l0 x5_1).f1) != (wrap64 (x1_1+1)))=false:=bne_eq_false_iff_eq.mpr c6
       clear c6
       replace H:=ob_ H
       obtain ⟨t215,A70,H⟩:=H
       replace H:(if ((rd_T49 l0 x5_1).f2).toList=t215.toList then ((laws_markText.f k1 (wrap64 ((wrap64 ((wrap64 (x1_1+1))+1))+1))).bind fun t217=>(if ((rd_T49 l0 x5_1).f3).toList=t217.toList then ((laws_heldAttrS.f k1 ((rd_T49 l0 x5_1).f4) (wrap64 ((wrap64 ((wrap64 ((wrap64 (x1_1+1))+1))+1))+1))).bind fun t219=>(if t219<0 then (some (-1)) else ((laws_heldNodeS.f k1 ((rd_T49 l0 x5_1).f5) t219).bind fun t221=>(if t221<0 then (some (-1)) else (laws_heldNodeS.l0 k1 l0 t221 (wrap64 (x5_1+1))))))) else (some (-1)))) else (some (-1)))=some r:=H
       have A7:=A_ A70
       clear A70
       by_cases c8:((rd_T49 l0 x5_1).f2).toList=t215.toList
       ·rw [if_pos c8] at H
        have c8b0:(((rd_T49 l0 x5_1).f2).toList == t215.toList)=true:=beq_iff_eq.mpr c8
        have c8b1:(((rd_T49 l0 x5_1).f2).toList != t215.toList)=false:=bne_eq_false_iff_eq.mpr c8
        clear c8
        replace H:=ob_ H
        obtain ⟨t217,A90,H⟩:=H
        replace H:(if ((rd_T49 l0 x5_1).f3).toList=t217.toList then ((laws_heldAttrS.f k1 ((rd_T49 l0 x5_1).f4) (wrap64 ((wrap64 ((wrap64 ((wrap64 (x1_1+1))+1))+1))+1))).bind fun t219=>(if t219<0 then (some (-1)) else ((laws_heldNodeS.f k1 ((rd_T49 l0 x5_1).f5) t219).bind fun t221=>(if t221<0 then (some (-1)) else (laws_heldNodeS.l0 k1 l0 t221 (wrap64 (x5_1+1))))))) else (some (-1)))=some r:=H
        have A9:=A_ A90
        clear A90
        by_cases c10:((rd_T49 l0 x5_1).f3).toList=t217.toList
        ·rw [if_pos c10] at H
         have c10b0:(((rd_T49 l0 x5_1).f3).toList == t217.toList)=true:=beq_iff_eq.mpr c10
         have c10b1:(((rd_T49 l0 x5_1).f3).toList != t217.toList)=false:=bne_eq_false_iff_eq.mpr c10
         clear c10
         replace H:=ob_ H
         obtain ⟨t219,A110,H⟩:=H
         replace H:(if t219<0 then (some (-1)) else ((laws_heldNodeS.f k1 ((rd_T49 l0 x5_1).f5) t219).bind fun t221=>(if t221<0 then (some (-1)) else (laws_heldNodeS.l0 k1 l0 t221 (wrap64 (x5_1+1))))))=some r:=H
         have A11:=A_ A110
         clear A110
         by_cases c12:t219<0
         ·rw [if_pos c12] at H
          have c12b0:decide (t219<0)=true:=dt_ c12
          clear c12
          obtain rfl:=oi_ H
          have p212:0≤(x5_1:Int):=od_ (by first|(with_reducible assumption)|assumption)
          have q212:x5_1<(l0.length:Int):=od_ (by first|(with_reducible assumption)|assumption)
          obtain ⟨ad212,A212_4,c212_4,A212_5,c212_5,e212,hx212_0,hx212_1,hx212_2,hx212_3,hx212_4,hx212_5,hl212_4,hi212_4,hl212_5,hi212_5⟩:=at_T49 HR0.out x5_1 p212 q212
          cases e212
          replace hx212_0:=(HB.out.cell (bl_ w _ hx212_0)).trans hx212_0
          replace hx212_1:=(HB.out.cell (bl_ w _ hx212_1)).trans hx212_1
          replace hx212_2:=(HB.out.cell (bl_ w _ hx212_2)).trans hx212_2
          replace hx212_3:=(HB.out.cell (bl_ w _ hx212_3)).trans hx212_3
          replace hx212_4:=(HB.out.cell (bl_ w _ hx212_4)).trans hx212_4
          replace hx212_5:=(HB.out.cell (bl_ w _ hx212_5)).trans hx212_5
          have HR212_4:=A_ hi212_4
          have HC212_4:=A_ hl212_4
          clear hi212_4 hl212_4
          have HR212_5:=A_ hi212_5
          have HC212_5:=A_ hl212_5
          clear hi212_5 hl212_5
          replace p212:=eq_true p212
          replace q212:=eq_true q212
          have p213:0≤(x5_1:Int):=od_ (by first|(with_reducible assumption)|assumption)
          have q213:x5_1<(l0.length:Int):=od_ (by first|(with_reducible assumption)|assumption)
          obtain ⟨ad213,A213_4,c213_4,A213_5,c213_5,e213,hx213_0,hx213_1,hx213_2,hx213_3,hx213_4,hx213_5,hl213_4,hi213_4,hl213_5,hi213_5⟩:=at_T49 HR0.out x5_1 p213 q213
          obtain rfl:ad212=ad213:=(by injection e213)
          try (have h_:=hx213_4.symm.trans hw211_4;injection h_ with h_;injection h_ with h1_ h3_ h2_;subst h1_;subst h2_)
          try (have h_:=hx213_5.symm.trans hw211_5;injection h_ with h_;injection h_ with h1_ h3_ h2_;subst h1_;subst h2_)
          replace hx213_0:=(HB.out.cell (bl_ w _ hx213_0)).trans hx213_0
          replace hx213_1:=(HB.out.cell (bl_ w _ hx213_1)).trans hx213_1
          replace hx213_2:=(HB.out.cell (bl_ w _ hx213_2)).trans hx213_2
          replace hx213_3:=(HB.out.cell (bl_ w _ hx213_3)).trans hx213_3
          replace hx213_4:=(HB.out.cell (bl_ w _ hx213_4)).trans hx213_4
          replace hx213_5:=(HB.out.cell (bl_ w _ hx213_5)).trans hx213_5
          have HR213_4:=A_ hi213_4
          have HC213_4:=A_ hl213_4
          clear hi213_4 hl213_4
          have HR213_5:=A_ hi213_5
          have HC213_5:=A_ hl213_5
          clear hi213_5 hl213_5
          replace p213:=eq_true p213
          replace q213:=eq_true q213
          have ea_:=oi_ (hx212_4.symm.trans hx213_4)
          injection ea_ with ea_ en_ ec_
          subst ea_
          subst ec_
          clear en_
          have ea_:=oi_ (hx212_5.symm.trans hx213_5)
          injection ea_ with ea_ en_ ec_
          subst ea_
          subst ec_
          clear en_
          try go_wp2
          have n0_:=A_ (b1_ HB.out)
          clear HB
          have HB:=n0_
          clear n0_
          have p214:0≤(x5_1:Int):=od_ (by first|(with_reducible assumption)|assumption)
          have q214:x5_1<(l0.length:Int):=od_ (by first|(with_reducible assumption)|assumption)
          obtain ⟨ad214,A214_4,c214_4,A214_5,c214_5,e214,hx214_0,hx214_1,hx214_2,hx214_3,hx214_4,hx214_5,hl214_4,hi214_4,hl214_5,hi214_5⟩:=at_T49 HR0.out x5_1 p214 q214
          have hw214_5:=hx214_5
          have hw214_4:=hx214_4
          have hw214_3:=hx214_3
          have hw214_2:=hx214_2
          have hw214_1:=hx214_1
          have hw214_0:=hx214_0
          obtain rfl:ad212=ad214:=(by injection e214)
          try (have h_:=hx214_4.symm.trans hw212_4;injection h_ with h_;injection h_ with h1_ h3_ h2_;subst h1_;subst h2_)
          try (have h_:=hx214_5.symm.trans hw212_5;injection h_ with h_;injection h_ with h1_ h3_ h2_;subst h1_;subst h2_)
          replace hx214_0:=(HB.out.cell (bl_ w _ hx214_0)).trans hx214_0
          replace hx214_1:=(HB.out.cell (bl_ w _ hx214_1)).trans hx214_1
          replace hx214_2:=(HB.out.cell (bl_ w _ hx214_2)).trans hx214_2
          replace hx214_3:=(HB.out.cell (bl_ w _ hx214_3)).trans hx214_3
          replace hx214_4:=(HB.out.cell (bl_ w _ hx214_4)).trans hx214_4
          replace hx214_5:=(HB.out.cell (bl_ w _ hx214_5)).trans hx214_5
          have HR214_4:=A_ hi214_4
          have HC214_4:=A_ hl214_4
          clear hi214_4 hl214_4
          have HR214_5:=A_ hi214_5
          have HC214_5:=A_ hl214_5
          clear hi214_5 hl214_5
          replace p214:=eq_true p214
          replace q214:=eq_true q214
          refine start_ (n:=8) (S:=fun w'=>w'.cell? (ad212.add ((x5_1).toNat * 6))=some (.int .i64 ((rd_T49 l0 x5_1).f0))∧w'.cell? ⟨(ad212.add ((x5_1).toNat * 6)).block,(ad212.add ((x5_1).toNat * 6)).off+1,none⟩=some (.int .i64 ((rd_T49 l0 x5_1).f1))∧w'.cell? ⟨(ad212.add ((x5_1).toNat * 6)).block,(ad212.add ((x5_1).toNat * 6)).off+2,none⟩=some (.string ((rd_T49 l0 x5_1).f2))∧w'.cell? ⟨(ad212.add ((x5_1).toNat * 6)).block,(ad212.add ((x5_1).toNat * 6)).off+3,none⟩=some (.string ((rd_T49 l0 x5_1).f3))∧w'.cell? ⟨(ad212.add ((x5_1).toNat * 6)).block,(ad212.add ((x5_1).toNat * 6)).off+4,none⟩=some (.slice A214_4 ((rd_T49 l0 x5_1).f4).length c214_4)∧w'.cell? ⟨(ad212.add ((x5_1).toNat * 6)).block,(ad212.add ((x5_1).toNat * 6)).off+5,none⟩=some (.slice A214_5 ((rd_T49 l0 x5_1).f5).length c214_5)) (ds:=[]) #[F_,F_,F_,F_,F_,F_,F_,F_] (by kernel_rfl) rfl rfl ⟨((HB.out.cell (bl_ w _ hw214_0)).trans hw214_0),((HB.out.cell (bl_ w _ hw214_1)).trans hw214_1),((HB.out.cell (bl_ w _ hw214_2)).trans hw214_2),((HB.out.cell (bl_ w _ hw214_3)).trans hw214_3),((HB.out.cell (bl_ w _ hw214_4)).trans hw214_4),((HB.out.cell (bl_ w _ hw214_5)).trans hw214_5)⟩ (fun hHeld=>?_);refine with_tabW laws_heldNodeS.tab10 laws_heldNodeS.bits10 (fun HT_ HW_=>?_)
          generalize wr.drew=w13 at HB HR214_4 HR214_5 hx214_0 hx214_1 hx214_2 hx214_3 hx214_4 hx214_5 hHeld ⊢
          refine pure_ (i:=0) (N:=some 30) (v:=?_) (a':=?_) #[T_,F_,F_,F_,F_,F_,F_,F_] rfl rfl (any_of HT_.out (by kernel_rfl)) (fun _ _ _ h=>h) (Or.inl ⟨by rfl,?_⟩) ?_ ?_
          rotate_left
          ·intro w'
           go_simp
           with_reducible rfl
          rotate_left
          ·simp only [Act.put,ls_,lz_,lc_,i64_w,i32_w]
           rfl
          refine pure_ (i:=1) (N:=some 31) (v:=?_) (a':=?_) #[T_,T_,F_,F_,F_,F_,F_,F_] rfl rfl (any_of HT_.out (by kernel_rfl)) (fun _ _ _ h=>h) (Or.inl ⟨by rfl,?_⟩) ?_ ?_
          rotate_left
          ·intro w'
           go_simp
           with_reducible rfl
          rotate_left
          ·simp only [Act.put,ls_,lz_,lc_,i64_w,i32_w]
           rfl
          refine pure_ (i:=2) (N:=some 32) (v:=?_) (a':=?_) #[T_,T_,T_,F_,F_,F_,F_,F_] rfl rfl (any_of HT_.out (by kernel_rfl)) (fun _ _ _ h=>h) (Or.inl ⟨by rfl,?_⟩) ?_ ?_
          rotate_left
          ·intro w'
           go_simp
           with_reducible rfl
          rotate_left
          ·simp only [Act.put,ls_,lz_,lc_,i64_w,i32_w]
           rfl
          refine pure_ (i:=3) (N:=some 33) (v:=?_) (a':=?_) #[T_,T_,T_,T_,F_,F_,F_,F_] rfl rfl (any_of HT_.out (by kernel_rfl)) (fun _ _ _ h=>h) (Or.inl ⟨by rfl,?_⟩) ?_ ?_
          rotate_left
          ·intro w'
           go_simp
           with_reducible rfl
          rotate_left
          ·simp only [Act.put,ls_,lz_,lc_,i64_w,i32_w]
           rfl
          refine pure_ (i:=5) (N:=some 35) (v:=?_) (a':=?_) #[T_,T_,T_,T_,F_,T_,F_,F_] rfl rfl (any_of HT_.out (by kernel_rfl)) (fun _ _ _ h=>h) (Or.inl ⟨by rfl,?_⟩) ?_ ?_
          rotate_left
          ·intro w'
           go_simp
           with_reducible rfl
          rotate_left
          ·simp only [Act.put,ls_,lz_,lc_,i64_w,i32_w]
           rfl
          refine take_ (i:=4) (N:=some 34) (v:=?_) (a':=?_) #[T_,T_,T_,T_,T_,T_,F_,F_] rfl rfl (take_ofW HT_.out HW_.out (by kernel_rfl)) (fun _ _ _ h=>h) (Or.inl ⟨by rfl,?_⟩) hHeld ?_ ?_
          rotate_left
          ·rintro w' ⟨s0,s1,s2,s3,s4,s5⟩
           go_simp
           with_reducible rfl
          rotate_left
          ·simp only [Act.put,ls_,lz_,lc_,i64_w,i32_w]
           rfl
          refine one_ (i:=6) (N:=some 36) #[T_,T_,T_,T_,T_,T_,T_,F_] rfl rfl (one_of HT_.out (by kernel_rfl)) (by decide) (fun K hK=>?_)
          refine goes_ Try.func30 (by kernel_rfl) rfl #[.int .i64 (wrap64 ((wrap64 (x1_1+1))+1))] (by rfl) rfl rfl (by (try simp only [List.map_toArray,List.map_cons,List.map_nil]);first|done|rfl|(simp only [ld_,lt_];rfl)) ?_
          with_reducible refine (laws_markText.calls k1 (wrap64 ((wrap64 (x1_1+1))+1)) t215 _ A7.out).mono ?_
          rintro e w14 ⟨rfl,hb⟩
          refine ⟨_,rfl,?_⟩
          have n0_:=A_ (bp_ (by repeat (first|(with_reducible first|exact HB.out|apply ba_|apply pd_|apply b1_)|exact HB.out)) hb)
          clear HB
          have HB:=n0_
          clear n0_
          (try clear hb)
          (try clear hb2)
          (try clear hk)
          (try clear hi)
          refine hK.out _ _ ⟨((HB.out.cell (bl_ w _ hw214_0)).trans hw214_0),((HB.out.cell (bl_ w _ hw214_1)).trans hw214_1),((HB.out.cell (bl_ w _ hw214_2)).trans hw214_2),((HB.out.cell (bl_ w _ hw214_3)).trans hw214_3),((HB.out.cell (bl_ w _ hw214_4)).trans hw214_4),((HB.out.cell (bl_ w _ hw214_5)).trans hw214_5)⟩ (fun hHeld=>?_)
          clear hK K
          refine norm_ (a':=?_) ?_ ?_
          rotate_left
          ·show Act.put _ (some 36) _=_
           simp only [Act.put,ls_,lz_,lc_,i64_w,i32_w]
           rfl
          refine pure_ (i:=7) (N:=some 37) (v:=?_) (a':=?_) #[T_,T_,T_,T_,T_,T_,T_,T_] rfl rfl (any_of HT_.out (by kernel_rfl)) (fun _ _ _ h=>h) (Or.inl ⟨by rfl,?_⟩) ?_ ?_
          rotate_left
          ·intro w'
           go_simp
           with_reducible rfl
          rotate_left
          ·simp only [Act.put,ls_,lz_,lc_,i64_w,i32_w]
           rfl
          refine done_ (done_of HT_.out (by kernel_rfl)) ?_
          try go_wp2
          have n0_:=A_ (b1_ HB.out)
          clear HB
          have HB:=n0_
          clear n0_
          have p216:0≤(x5_1:Int):=od_ (by first|(with_reducible assumption)|assumption)
          have q216:x5_1<(l0.length:Int):=od_ (by first|(with_reducible assumption)|assumption)
          obtain ⟨ad216,A216_4,c216_4,A216_5,c216_5,e216,hx216_0,hx216_1,hx216_2,hx216_3,hx216_4,hx216_5,hl216_4,hi216_4,hl216_5,hi216_5⟩:=at_T49 HR0.out x5_1 p216 q216
          have hw216_5:=hx216_5
          have hw216_4:=hx216_4
          have hw216_3:=hx216_3
          have hw216_2:=hx216_2
          have hw216_1:=hx216_1
          have hw216_0:=hx216_0
          obtain rfl:ad212=ad216:=(by injection e216)
          try (have h_:=hx216_4.symm.trans hw214_4;injection h_ with h_;injection h_ with h1_ h3_ h2_;subst h1_;subst h2_)
          try (have h_:=hx216_5.symm.trans hw214_5;injection h_ with h_;injection h_ with h1_ h3_ h2_;subst h1_;subst h2_)
          replace hx216_0:=(HB.out.cell (bl_ w _ hx216_0)).trans hx216_0
          replace hx216_1:=(HB.out.cell (bl_ w _ hx216_1)).trans hx216_1
          replace hx216_2:=(HB.out.cell (bl_ w _ hx216_2)).trans hx216_2
          replace hx216_3:=(HB.out.cell (bl_ w _ hx216_3)).trans hx216_3
          replace hx216_4:=(HB.out.cell (bl_ w _ hx216_4)).trans hx216_4
          replace hx216_5:=(HB.out.cell (bl_ w _ hx216_5)).trans hx216_5
          have HR216_4:=A_ hi216_4
          have HC216_4:=A_ hl216_4
          clear hi216_4 hl216_4
          have HR216_5:=A_ hi216_5
          have HC216_5:=A_ hl216_5
          clear hi216_5 hl216_5
          replace p216:=eq_true p216
          replace q216:=eq_true q216
          refine start_ (n:=8) (S:=fun w'=>w'.cell? (ad212.add ((x5_1).toNat * 6))=some (.int .i64 ((rd_T49 l0 x5_1).f0))∧w'.cell? ⟨(ad212.add ((x5_1).toNat * 6)).block,(ad212.add ((x5_1).toNat * 6)).off+1,none⟩=some (.int .i64 ((rd_T49 l0 x5_1).f1))∧w'.cell? ⟨(ad212.add ((x5_1).toNat * 6)).block,(ad212.add ((x5_1).toNat * 6)).off+2,none⟩=some (.string ((rd_T49 l0 x5_1).f2))∧w'.cell? ⟨(ad212.add ((x5_1).toNat * 6)).block,(ad212.add ((x5_1).toNat * 6)).off+3,none⟩=some (.string ((rd_T49 l0 x5_1).f3))∧w'.cell? ⟨(ad212.add ((x5_1).toNat * 6)).block,(ad212.add ((x5_1).toNat * 6)).off+4,none⟩=some (.slice A216_4 ((rd_T49 l0 x5_1).f4).length c216_4)∧w'.cell? ⟨(ad212.add ((x5_1).toNat * 6)).block,(ad212.add ((x5_1).toNat * 6)).off+5,none⟩=some (.slice A216_5 ((rd_T49 l0 x5_1).f5).length c216_5)) (ds:=[]) #[F_,F_,F_,F_,F_,F_,F_,F_] (by kernel_rfl) rfl rfl ⟨((HB.out.cell (bl_ w _ hw216_0)).trans hw216_0),((HB.out.cell (bl_ w _ hw216_1)).trans hw216_1),((HB.out.cell (bl_ w _ hw216_2)).trans hw216_2),((HB.out.cell (bl_ w _ hw216_3)).trans hw216_3),((HB.out.cell (bl_ w _ hw216_4)).trans hw216_4),((HB.out.cell (bl_ w _ hw216_5)).trans hw216_5)⟩ (fun hHeld=>?_);refine with_tabW laws_heldNodeS.tab13 laws_heldNodeS.bits13 (fun HT_ HW_=>?_)
          generalize w14.drew=w15 at HB HR216_4 HR216_5 hx216_0 hx216_1 hx216_2 hx216_3 hx216_4 hx216_5 hHeld ⊢
          refine pure_ (i:=0) (N:=some 40) (v:=?_) (a':=?_) #[T_,F_,F_,F_,F_,F_,F_,F_] rfl rfl (any_of HT_.out (by kernel_rfl)) (fun _ _ _ h=>h) (Or.inl ⟨by rfl,?_⟩) ?_ ?_
          rotate_left
          ·intro w'
           go_simp
           with_reducible rfl
          rotate_left
          ·simp only [Act.put,ls_,lz_,lc_,i64_w,i32_w]
           rfl
          refine pure_ (i:=1) (N:=some 41) (v:=?_) (a':=?_) #[T_,T_,F_,F_,F_,F_,F_,F_] rfl rfl (any_of HT_.out (by kernel_rfl)) (fun _ _ _ h=>h) (Or.inl ⟨by rfl,?_⟩) ?_ ?_
          rotate_left
          ·intro w'
           go_simp
           with_reducible rfl
          rotate_left
          ·simp only [Act.put,ls_,lz_,lc_,i64_w,i32_w]
           rfl
          refine pure_ (i:=2) (N:=some 42) (v:=?_) (a':=?_) #[T_,T_,T_,F_,F_,F_,F_,F_] rfl rfl (any_of HT_.out (by kernel_rfl)) (fun _ _ _ h=>h) (Or.inl ⟨by rfl,?_⟩) ?_ ?_
          rotate_left
          ·intro w'
           go_simp
           with_reducible rfl
          rotate_left
          ·simp only [Act.put,ls_,lz_,lc_,i64_w,i32_w]
           rfl
          refine pure_ (i:=3) (N:=some 43) (v:=?_) (a':=?_) #[T_,T_,T_,T_,F_,F_,F_,F_] rfl rfl (any_of HT_.out (by kernel_rfl)) (fun _ _ _ h=>h) (Or.inl ⟨by rfl,?_⟩) ?_ ?_
          rotate_left
          ·intro w'
           go_simp
           with_reducible rfl
          rotate_left
          ·simp only [Act.put,ls_,lz_,lc_,i64_w,i32_w]
           rfl
          refine pure_ (i:=5) (N:=some 45) (v:=?_) (a':=?_) #[T_,T_,T_,T_,F_,T_,F_,F_] rfl rfl (any_of HT_.out (by kernel_rfl)) (fun _ _ _ h=>h) (Or.inl ⟨by rfl,?_⟩) ?_ ?_
          rotate_left
          ·intro w'
           go_simp
           with_reducible rfl
          rotate_left
          ·simp only [Act.put,ls_,lz_,lc_,i64_w,i32_w]
           rfl
          refine take_ (i:=4) (N:=some 44) (v:=?_) (a':=?_) #[T_,T_,T_,T_,T_,T_,F_,F_] rfl rfl (take_ofW HT_.out HW_.out (by kernel_rfl)) (fun _ _ _ h=>h) (Or.inl ⟨by rfl,?_⟩) hHeld ?_ ?_
          rotate_left
          ·rintro w' ⟨s0,s1,s2,s3,s4,s5⟩
           go_simp
           with_reducible rfl
          rotate_left
          ·simp only [Act.put,ls_,lz_,lc_,i64_w,i32_w]
           rfl
          refine one_ (i:=6) (N:=some 46) #[T_,T_,T_,T_,T_,T_,T_,F_] rfl rfl (one_of HT_.out (by kernel_rfl)) (by decide) (fun K hK=>?_)
          refine goes_ Try.func30 (by kernel_rfl) rfl #[.int .i64 (wrap64 ((wrap64 ((wrap64 (x1_1+1))+1))+1))] (by rfl) rfl rfl (by (try simp only [List.map_toArray,List.map_cons,List.map_nil]);first|done|rfl|(simp only [ld_,lt_];rfl)) ?_
          with_reducible refine (laws_markText.calls k1 (wrap64 ((wrap64 ((wrap64 (x1_1+1))+1))+1)) t217 _ A9.out).mono ?_
          rintro e w16 ⟨rfl,hb⟩
          refine ⟨_,rfl,?_⟩
          have n0_:=A_ (bp_ (by repeat (first|(with_reducible first|exact HB.out|apply ba_|apply pd_|apply b1_)|exact HB.out)) hb)
          clear HB
          have HB:=n0_
          clear n0_
          (try clear hb)
          (try clear hb2)
          (try clear hk)
          (try clear hi)
          refine hK.out _ _ ⟨((HB.out.cell (bl_ w _ hw216_0)).trans hw216_0),((HB.out.cell (bl_ w _ hw216_1)).trans hw216_1),((HB.out.cell (bl_ w _ hw216_2)).trans hw216_2),((HB.out.cell (bl_ w _ hw216_3)).trans hw216_3),((HB.out.cell (bl_ w _ hw216_4)).trans hw216_4),((HB.out.cell (bl_ w _ hw216_5)).trans hw216_5)⟩ (fun hHeld=>?_)
          clear hK K
          refine norm_ (a':=?_) ?_ ?_
          rotate_left
          ·show Act.put _ (some 46) _=_
           simp only [Act.put,ls_,lz_,lc_,i64_w,i32_w]
           rfl
          refine pure_ (i:=7) (N:=some 47) (v:=?_) (a':=?_) #[T_,T_,T_,T_,T_,T_,T_,T_] rfl rfl (any_of HT_.out (by kernel_rfl)) (fun _ _ _ h=>h) (Or.inl ⟨by rfl,?_⟩) ?_ ?_
          rotate_left
          ·intro w'
           go_simp
           with_reducible rfl
          rotate_left
          ·simp only [Act.put,ls_,lz_,lc_,i64_w,i32_w]
           rfl
          refine done_ (done_of HT_.out (by kernel_rfl)) ?_
          have p218:0≤(x5_1:Int):=od_ (by first|(with_reducible assumption)|assumption)
          have q218:x5_1<(l0.length:Int):=od_ (by first|(with_reducible assumption)|assumption)
          obtain ⟨ad218,A218_4,c218_4,A218_5,c218_5,e218,hx218_0,hx218_1,hx218_2,hx218_3,hx218_4,hx218_5,hl218_4,hi218_4,hl218_5,hi218_5⟩:=at_T49 HR0.out x5_1 p218 q218
          obtain rfl:ad212=ad218:=(by injection e218)
          try (have h_:=hx218_4.symm.trans hw216_4;injection h_ with h_;injection h_ with h1_ h3_ h2_;subst h1_;subst h2_)
          try (have h_:=hx218_5.symm.trans hw216_5;injection h_ with h_;injection h_ with h1_ h3_ h2_;subst h1_;subst h2_)
          replace hx218_0:=(HB.out.cell (bl_ w _ hx218_0)).trans hx218_0
          replace hx218_1:=(HB.out.cell (bl_ w _ hx218_1)).trans hx218_1
          replace hx218_2:=(HB.out.cell (bl_ w _ hx218_2)).trans hx218_2
          replace hx218_3:=(HB.out.cell (bl_ w _ hx218_3)).trans hx218_3
          replace hx218_4:=(HB.out.cell (bl_ w _ hx218_4)).trans hx218_4
          replace hx218_5:=(HB.out.cell (bl_ w _ hx218_5)).trans hx218_5
          have HR218_4:=A_ hi218_4
          have HC218_4:=A_ hl218_4
          clear hi218_4 hl218_4
          have HR218_5:=A_ hi218_5
          have HC218_5:=A_ hl218_5
          clear hi218_5 hl218_5
          replace p218:=eq_true p218
          replace q218:=eq_true q218
          try go_wp2_with (first|((with_reducible refine gate_callee (f:=36) rfl ?_);refine goesL_ (some 56) rfl rfl Try.func36 (by kernel_rfl) rfl #[.slice A218_4 ((rd_T49 l0 x5_1).f4).length c218_4,.int .i64 (wrap64 ((wrap64 ((wrap64 ((wrap64 (x1_1+1))+1))+1))+1))] rfl (by (try simp only [List.map_toArray,List.map_cons,List.map_nil]);first|done|rfl|(simp only [ld_,lt_];rfl)) ?_;(with_reducible refine (laws_heldAttrS.calls k1 _ _ ((rd_T49 l0 x5_1).f4) (wrap64 ((wrap64 ((wrap64 ((wrap64 (x1_1+1))+1))+1))+1)) t219 _ ?side1 ?side2 A11.out).mono ?_);(case side1=>repeat (first|exact (cb_ HR218_4.out HB.out)|(with_reducible refine ca_ ?_ _)|(with_reducible refine cn_ ?_ _)|(with_reducible refine cd_ ?_)));(case side2=>exact HC218_4.out);rintro e w17 ⟨rfl,hb⟩;refine ⟨_,rfl,?_⟩;have n0_:=A_ (bp_ (by repeat (first|(with_reducible first|exact HB.out|apply ba_|apply pd_|apply b1_)|exact HB.out)) hb);clear HB;have HB:=n0_;clear n0_;(try clear hb);(try clear hb2);(try clear hk);(try clear hi)))
          go_ret
          exact ⟨by first|rfl|(simp [errW_none,errW_some] <;> rfl)|(simp [*,errW_none,errW_some] <;> rfl),by repeat (first|(with_reducible first|exact HB.out|apply ba_|apply pd_|apply b1_)|exact HB.out)⟩
         ·rw [if_neg c12] at H
          have c12b0:decide (t219<0)=false:=df_ c12
          clear c12
          replace H:=ob_ H
          obtain ⟨t221,A180,H⟩:=H
          replace H:(if t221<0 then (some (-1)) else (laws_heldNodeS.l0 k1 l0 t221 (wrap64 (x5_1+1))))=some r:=H
          have A18:=A_ A180
          clear A180
          by_cases c19:t221<0
          ·rw [if_pos c19] at H
           have c19b0:decide (t221<0)=true:=dt_ c19
           clear c19
           obtain rfl:=oi_ H
           have p212:0≤(x5_1:Int):=od_ (by first|(with_reducible assumption)|assumption)
           have q212:x5_1<(l0.length:Int):=od_ (by first|(with_reducible assumption)|assumption)
           obtain ⟨ad212,A212_4,c212_4,A212_5,c212_5,e212,hx212_0,hx212_1,hx212_2,hx212_3,hx212_4,hx212_5,hl212_4,hi212_4,hl212_5,hi212_5⟩:=at_T49 HR0.out x5_1 p212 q212
           cases e212
           replace hx212_0:=(HB.out.cell (bl_ w _ hx212_0)).trans hx212_0
           replace hx212_1:=(HB.out.cell (bl_ w _ hx212_1)).trans hx212_1
           replace hx212_2:=(HB.out.cell (bl_ w _ hx212_2)).trans hx212_2
           replace hx212_3:=(HB.out.cell (bl_ w _ hx212_3)).trans hx212_3
           replace hx212_4:=(HB.out.cell (bl_ w _ hx212_4)).trans hx212_4
           replace hx212_5:=(HB.out.cell (bl_ w _ hx212_5)).trans hx212_5
           have HR212_4:=A_ hi212_4
           have HC212_4:=A_ hl212_4
           clear hi212_4 hl212_4
           have HR212_5:=A_ hi212_5
           have HC212_5:=A_ hl212_5
           clear hi212_5 hl212_5
           replace p212:=eq_true p212
           replace q212:=eq_true q212
           have p213:0≤(x5_1:Int):=od_ (by first|(with_reducible assumption)|assumption)
           have q213:x5_1<(l0.length:Int):=od_ (by first|(with_reducible assumption)|assumption)
           obtain ⟨ad213,A213_4,c213_4,A213_5,c213_5,e213,hx213_0,hx213_1,hx213_2,hx213_3,hx213_4,hx213_5,hl213_4,hi213_4,hl213_5,hi213_5⟩:=at_T49 HR0.out x5_1 p213 q213
           obtain rfl:ad212=ad213:=(by injection e213)
           try (have h_:=hx213_4.symm.trans hw211_4;injection h_ with h_;injection h_ with h1_ h3_ h2_;subst h1_;subst h2_)
           try (have h_:=hx213_5.symm.trans hw211_5;injection h_ with h_;injection h_ with h1_ h3_ h2_;subst h1_;subst h2_)
           replace hx213_0:=(HB.out.cell (bl_ w _ hx213_0)).trans hx213_0
           replace hx213_1:=(HB.out.cell (bl_ w _ hx213_1)).trans hx213_1
           replace hx213_2:=(HB.out.cell (bl_ w _ hx213_2)).trans hx213_2
           replace hx213_3:=(HB.out.cell (bl_ w _ hx213_3)).trans hx213_3
           replace hx213_4:=(HB.out.cell (bl_ w _ hx213_4)).trans hx213_4
           replace hx213_5:=(HB.out.cell (bl_ w _ hx213_5)).trans hx213_5
           have HR213_4:=A_ hi213_4
           have HC213_4:=A_ hl213_4
           clear hi213_4 hl213_4
           have HR213_5:=A_ hi213_5
           have HC213_5:=A_ hl213_5
           clear hi213_5 hl213_5
           replace p213:=eq_true p213
           replace q213:=eq_true q213
           have ea_:=oi_ (hx212_4.symm.trans hx213_4)
           injection ea_ with ea_ en_ ec_
           subst ea_
           subst ec_
           clear en_
           have ea_:=oi_ (hx212_5.symm.trans hx213_5)
           injection ea_ with ea_ en_ ec_
           subst ea_
           subst ec_
           clear en_
           try go_wp2
           have n0_:=A_ (b1_ HB.out)
           clear HB
           have HB:=n0_
           clear n0_
           have p214:0≤(x5_1:Int):=od_ (by first|(with_reducible assumption)|assumption)
           have q214:x5_1<(l0.length:Int):=od_ (by first|(with_reducible assumption)|assumption)
           obtain ⟨ad214,A214_4,c214_4,A214_5,c214_5,e214,hx214_0,hx214_1,hx214_2,hx214_3,hx214_4,hx214_5,hl214_4,hi214_4,hl214_5,hi214_5⟩:=at_T49 HR0.out x5_1 p214 q214
           have hw214_5:=hx214_5
           have hw214_4:=hx214_4
           have hw214_3:=hx214_3
           have hw214_2:=hx214_2
           have hw214_1:=hx214_1
           have hw214_0:=hx214_0
           obtain rfl:ad212=ad214:=(by injection e214)
           try (have h_:=hx214_4.symm.trans hw212_4;injection h_ with h_;injection h_ with h1_ h3_ h2_;subst h1_;subst h2_)
           try (have h_:=hx214_5.symm.trans hw212_5;injection h_ with h_;injection h_ with h1_ h3_ h2_;subst h1_;subst h2_)
           replace hx214_0:=(HB.out.cell (bl_ w _ hx214_0)).trans hx214_0
           replace hx214_1:=(HB.out.cell (bl_ w _ hx214_1)).trans hx214_1
           replace hx214_2:=(HB.out.cell (bl_ w _ hx214_2)).trans hx214_2
           replace hx214_3:=(HB.out.cell (bl_ w _ hx214_3)).trans hx214_3
           replace hx214_4:=(HB.out.cell (bl_ w _ hx214_4)).trans hx214_4
           replace hx214_5:=(HB.out.cell (bl_ w _ hx214_5)).trans hx214_5
           have HR214_4:=A_ hi214_4
           have HC214_4:=A_ hl214_4
           clear hi214_4 hl214_4
           have HR214_5:=A_ hi214_5
           have HC214_5:=A_ hl214_5
           clear hi214_5 hl214_5
           replace p214:=eq_true p214
           replace q214:=eq_true q214
           refine start_ (n:=8) (S:=fun w'=>w'.cell? (ad212.add ((x5_1).toNat * 6))=some (.int .i64 ((rd_T49 l0 x5_1).f0))∧w'.cell? ⟨(ad212.add ((x5_1).toNat * 6)).block,(ad212.add ((x5_1).toNat * 6)).off+1,none⟩=some (.int .i64 ((rd_T49 l0 x5_1).f1))∧w'.cell? ⟨(ad212.add ((x5_1).toNat * 6)).block,(ad212.add ((x5_1).toNat * 6)).off+2,none⟩=some (.string ((rd_T49 l0 x5_1).f2))∧w'.cell? ⟨(ad212.add ((x5_1).toNat * 6)).block,(ad212.add ((x5_1).toNat * 6)).off+3,none⟩=some (.string ((rd_T49 l0 x5_1).f3))∧w'.cell? ⟨(ad212.add ((x5_1).toNat * 6)).block,(ad212.add ((x5_1).toNat * 6)).off+4,none⟩=some (.slice A214_4 ((rd_T49 l0 x5_1).f4).length c214_4)∧w'.cell? ⟨(ad212.add ((x5_1).toNat * 6)).block,(ad212.add ((x5_1).toNat * 6)).off+5,none⟩=some (.slice A214_5 ((rd_T49 l0 x5_1).f5).length c214_5)) (ds:=[]) #[F_,F_,F_,F_,F_,F_,F_,F_] (by kernel_rfl) rfl rfl ⟨((HB.out.cell (bl_ w _ hw214_0)).trans hw214_0),((HB.out.cell (bl_ w _ hw214_1)).trans hw214_1),((HB.out.cell (bl_ w _ hw214_2)).trans hw214_2),((HB.out.cell (bl_ w _ hw214_3)).trans hw214_3),((HB.out.cell (bl_ w _ hw214_4)).trans hw214_4),((HB.out.cell (bl_ w _ hw214_5)).trans hw214_5)⟩ (fun hHeld=>?_);refine with_tabW laws_heldNodeS.tab10 laws_heldNodeS.bits10 (fun HT_ HW_=>?_)
           generalize wr.drew=w20 at HB HR214_4 HR214_5 hx214_0 hx214_1 hx214_2 hx214_3 hx214_4 hx214_5 hHeld ⊢
           refine pure_ (i:=0) (N:=some 30) (v:=?_) (a':=?_) #[T_,F_,F_,F_,F_,F_,F_,F_] rfl rfl (any_of HT_.out (by kernel_rfl)) (fun _ _ _ h=>h) (Or.inl ⟨by rfl,?_⟩) ?_ ?_
           rotate_left
           ·intro w'
            go_simp
            with_reducible rfl
           rotate_left
           ·simp only [Act.put,ls_,lz_,lc_,i64_w,i32_w]
            rfl
           refine pure_ (i:=1) (N:=some 31) (v:=?_) (a':=?_) #[T_,T_,F_,F_,F_,F_,F_,F_] rfl rfl (any_of HT_.out (by kernel_rfl)) (fun _ _ _ h=>h) (Or.inl ⟨by rfl,?_⟩) ?_ ?_
           rotate_left
           ·intro w'
            go_simp
            with_reducible rfl
           rotate_left
           ·simp only [Act.put,ls_,lz_,lc_,i64_w,i32_w]
            rfl
           refine pure_ (i:=2) (N:=some 32) (v:=?_) (a':=?_) #[T_,T_,T_,F_,F_,F_,F_,F_] rfl rfl (any_of HT_.out (by kernel_rfl)) (fun _ _ _ h=>h) (Or.inl ⟨by rfl,?_⟩) ?_ ?_
           rotate_left
           ·intro w'
            go_simp
            with_reducible rfl
           rotate_left
           ·simp only [Act.put,ls_,lz_,lc_,i64_w,i32_w]
            rfl
           refine pure_ (i:=3) (N:=some 33) (v:=?_) (a':=?_) #[T_,T_,T_,T_,F_,F_,F_,F_] rfl rfl (any_of HT_.out (by kernel_rfl)) (fun _ _ _ h=>h) (Or.inl ⟨by rfl,?_⟩) ?_ ?_
           rotate_left
           ·intro w'
            go_simp
            with_reducible rfl
           rotate_left
           ·simp only [Act.put,ls_,lz_,lc_,i64_w,i32_w]
            rfl
           refine pure_ (i:=5) (N:=some 35) (v:=?_) (a':=?_) #[T_,T_,T_,T_,F_,T_,F_,F_] rfl rfl (any_of HT_.out (by kernel_rfl)) (fun _ _ _ h=>h) (Or.inl ⟨by rfl,?_⟩) ?_ ?_
           rotate_left
           ·intro w'
            go_simp
            with_reducible rfl
           rotate_left
           ·simp only [Act.put,ls_,lz_,lc_,i64_w,i32_w]
            rfl
           refine take_ (i:=4) (N:=some 34) (v:=?_) (a':=?_) #[T_,T_,T_,T_,T_,T_,F_,F_] rfl rfl (take_ofW HT_.out HW_.out (by kernel_rfl)) (fun _ _ _ h=>h) (Or.inl ⟨by rfl,?_⟩) hHeld ?_ ?_
           rotate_left
           ·rintro w' ⟨s0,s1,s2,s3,s4,s5⟩
            go_simp
            with_reducible rfl
           rotate_left
           ·simp only [Act.put,ls_,lz_,lc_,i64_w,i32_w]
            rfl
           refine one_ (i:=6) (N:=some 36) #[T_,T_,T_,T_,T_,T_,T_,F_] rfl rfl (one_of HT_.out (by kernel_rfl)) (by decide) (fun K hK=>?_)
           refine goes_ Try.func30 (by kernel_rfl) rfl #[.int .i64 (wrap64 ((wrap64 (x1_1+1))+1))] (by rfl) rfl rfl (by (try simp only [List.map_toArray,List.map_cons,List.map_nil]);first|done|rfl|(simp only [ld_,lt_];rfl)) ?_
           with_reducible refine (laws_markText.calls k1 (wrap64 ((wrap64 (x1_1+1))+1)) t215 _ A7.out).mono ?_
           rintro e w21 ⟨rfl,hb⟩
           refine ⟨_,rfl,?_⟩
           have n0_:=A_ (bp_ (by repeat (first|(with_reducible first|exact HB.out|apply ba_|apply pd_|apply b1_)|exact HB.out)) hb)
           clear HB
           have HB:=n0_
           clear n0_
           (try clear hb)
           (try clear hb2)
           (try clear hk)
           (try clear hi)
           refine hK.out _ _ ⟨((HB.out.cell (bl_ w _ hw214_0)).trans hw214_0),((HB.out.cell (bl_ w _ hw214_1)).trans hw214_1),((HB.out.cell (bl_ w _ hw214_2)).trans hw214_2),((HB.out.cell (bl_ w _ hw214_3)).trans hw214_3),((HB.out.cell (bl_ w _ hw214_4)).trans hw214_4),((HB.out.cell (bl_ w _ hw214_5)).trans hw214_5)⟩ (fun hHeld=>?_)
           clear hK K
           refine norm_ (a':=?_) ?_ ?_
           rotate_left
           ·show Act.put _ (some 36) _=_
            simp only [Act.put,ls_,lz_,lc_,i64_w,i32_w]
            rfl
           refine pure_ (i:=7) (N:=some 37) (v:=?_) (a':=?_) #[T_,T_,T_,T_,T_,T_,T_,T_] rfl rfl (any_of HT_.out (by kernel_rfl)) (fun _ _ _ h=>h) (Or.inl ⟨by rfl,?_⟩) ?_ ?_
           rotate_left
           ·intro w'
            go_simp
            with_reducible rfl
           rotate_left
           ·simp only [Act.put,ls_,lz_,lc_,i64_w,i32_w]
            rfl
           refine done_ (done_of HT_.out (by kernel_rfl)) ?_
           try go_wp2
           have n0_:=A_ (b1_ HB.out)
           clear HB
           have HB:=n0_
           clear n0_
           have p216:0≤(x5_1:Int):=od_ (by first|(with_reducible assumption)|assumption)
           have q216:x5_1<(l0.length:Int):=od_ (by first|(with_reducible assumption)|assumption)
           obtain ⟨ad216,A216_4,c216_4,A216_5,c216_5,e216,hx216_0,hx216_1,hx216_2,hx216_3,hx216_4,hx216_5,hl216_4,hi216_4,hl216_5,hi216_5⟩:=at_T49 HR0.out x5_1 p216 q216
           have hw216_5:=hx216_5
           have hw216_4:=hx216_4
           have hw216_3:=hx216_3
           have hw216_2:=hx216_2
           have hw216_1:=hx216_1
           have hw216_0:=hx216_0
           obtain rfl:ad212=ad216:=(by injection e216)
           try (have h_:=hx216_4.symm.trans hw214_4;injection h_ with h_;injection h_ with h1_ h3_ h2_;subst h1_;subst h2_)
           try (have h_:=hx216_5.symm.trans hw214_5;injection h_ with h_;injection h_ with h1_ h3_ h2_;subst h1_;subst h2_)
           replace hx216_0:=(HB.out.cell (bl_ w _ hx216_0)).trans hx216_0
           replace hx216_1:=(HB.out.cell (bl_ w _ hx216_1)).trans hx216_1
           replace hx216_2:=(HB.out.cell (bl_ w _ hx216_2)).trans hx216_2
           replace hx216_3:=(HB.out.cell (bl_ w _ hx216_3)).trans hx216_3
           replace hx216_4:=(HB.out.cell (bl_ w _ hx216_4)).trans hx216_4
           replace hx216_5:=(HB.out.cell (bl_ w _ hx216_5)).trans hx216_5
           have HR216_4:=A_ hi216_4
           have HC216_4:=A_ hl216_4
           clear hi216_4 hl216_4
           have HR216_5:=A_ hi216_5
           have HC216_5:=A_ hl216_5
           clear hi216_5 hl216_5
           replace p216:=eq_true p216
           replace q216:=eq_true q216
           refine start_ (n:=8) (S:=fun w'=>w'.cell? (ad212.add ((x5_1).toNat * 6))=some (.int .i64 ((rd_T49 l0 x5_1).f0))∧w'.cell? ⟨(ad212.add ((x5_1).toNat * 6)).block,(ad212.add ((x5_1).toNat * 6)).off+1,none⟩=some (.int .i64 ((rd_T49 l0 x5_1).f1))∧w'.cell? ⟨(ad212.add ((x5_1).toNat * 6)).block,(ad212.add ((x5_1).toNat * 6)).off+2,none⟩=some (.string ((rd_T49 l0 x5_1).f2))∧w'.cell? ⟨(ad212.add ((x5_1).toNat * 6)).block,(ad212.add ((x5_1).toNat * 6)).off+3,none⟩=some (.string ((rd_T49 l0 x5_1).f3))∧w'.cell? ⟨(ad212.add ((x5_1).toNat * 6)).block,(ad212.add ((x5_1).toNat * 6)).off+4,none⟩=some (.slice A216_4 ((rd_T49 l0 x5_1).f4).length c216_4)∧w'.cell? ⟨(ad212.add ((x5_1).toNat * 6)).block,(ad212.add ((x5_1).toNat * 6)).off+5,none⟩=some (.slice A216_5 ((rd_T49 l0 x5_1).f5).length c216_5)) (ds:=[]) #[F_,F_,F_,F_,F_,F_,F_,F_] (by kernel_rfl) rfl rfl ⟨((HB.out.cell (bl_ w _ hw216_0)).trans hw216_0),((HB.out.cell (bl_ w _ hw216_1)).trans hw216_1),((HB.out.cell (bl_ w _ hw216_2)).trans hw216_2),((HB.out.cell (bl_ w _ hw216_3)).trans hw216_3),((HB.out.cell (bl_ w _ hw216_4)).trans hw216_4),((HB.out.cell (bl_ w _ hw216_5)).trans hw216_5)⟩ (fun hHeld=>?_);refine with_tabW laws_heldNodeS.tab13 laws_heldNodeS.bits13 (fun HT_ HW_=>?_)
           generalize w21.drew=w22 at HB HR216_4 HR216_5 hx216_0 hx216_1 hx216_2 hx216_3 hx216_4 hx216_5 hHeld ⊢
           refine pure_ (i:=0) (N:=some 40) (v:=?_) (a':=?_) #[T_,F_,F_,F_,F_,F_,F_,F_] rfl rfl (any_of HT_.out (by kernel_rfl)) (fun _ _ _ h=>h) (Or.inl ⟨by rfl,?_⟩) ?_ ?_
           rotate_left
           ·intro w'
            go_simp
            with_reducible rfl
           rotate_left
           ·simp only [Act.put,ls_,lz_,lc_,i64_w,i32_w]
            rfl
           refine pure_ (i:=1) (N:=some 41) (v:=?_) (a':=?_) #[T_,T_,F_,F_,F_,F_,F_,F_] rfl rfl (any_of HT_.out (by kernel_rfl)) (fun _ _ _ h=>h) (Or.inl ⟨by rfl,?_⟩) ?_ ?_
           rotate_left
           ·intro w'
            go_simp
            with_reducible rfl
           rotate_left
           ·simp only [Act.put,ls_,lz_,lc_,i64_w,i32_w]
            rfl
           refine pure_ (i:=2) (N:=some 42) (v:=?_) (a':=?_) #[T_,T_,T_,F_,F_,F_,F_,F_] rfl rfl (any_of HT_.out (by kernel_rfl)) (fun _ _ _ h=>h) (Or.inl ⟨by rfl,?_⟩) ?_ ?_
           rotate_left
           ·intro w'
            go_simp
            with_reducible rfl
           rotate_left
           ·simp only [Act.put,ls_,lz_,lc_,i64_w,i32_w]
            rfl
           refine pure_ (i:=3) (N:=some 43) (v:=?_) (a':=?_) #[T_,T_,T_,T_,F_,F_,F_,F_] rfl rfl (any_of HT_.out (by kernel_rfl)) (fun _ _ _ h=>h) (Or.inl ⟨by rfl,?_⟩) ?_ ?_
           rotate_left
           ·intro w'
            go_simp
            with_reducible rfl
           rotate_left
           ·simp only [Act.put,ls_,lz_,lc_,i64_w,i32_w]
            rfl
           refine pure_ (i:=5) (N:=some 45) (v:=?_) (a':=?_) #[T_,T_,T_,T_,F_,T_,F_,F_] rfl rfl (any_of HT_.out (by kernel_rfl)) (fun _ _ _ h=>h) (Or.inl ⟨by rfl,?_⟩) ?_ ?_
           rotate_left
           ·intro w'
            go_simp
            with_reducible rfl
           rotate_left
           ·simp only [Act.put,ls_,lz_,lc_,i64_w,i32_w]
            rfl
           refine take_ (i:=4) (N:=some 44) (v:=?_) (a':=?_) #[T_,T_,T_,T_,T_,T_,F_,F_] rfl rfl (take_ofW HT_.out HW_.out (by kernel_rfl)) (fun _ _ _ h=>h) (Or.inl ⟨by rfl,?_⟩) hHeld ?_ ?_
           rotate_left
           ·rintro w' ⟨s0,s1,s2,s3,s4,s5⟩
            go_simp
            with_reducible rfl
           rotate_left
           ·simp only [Act.put,ls_,lz_,lc_,i64_w,i32_w]
            rfl
           refine one_ (i:=6) (N:=some 46) #[T_,T_,T_,T_,T_,T_,T_,F_] rfl rfl (one_of HT_.out (by kernel_rfl)) (by decide) (fun K hK=>?_)
           refine goes_ Try.func30 (by kernel_rfl) rfl #[.int .i64 (wrap64 ((wrap64 ((wrap64 (x1_1+1))+1))+1))] (by rfl) rfl rfl (by (try simp only [List.map_toArray,List.map_cons,List.map_nil]);first|done|rfl|(simp only [ld_,lt_];rfl)) ?_
           with_reducible refine (laws_markText.calls k1 (wrap64 ((wrap64 ((wrap64 (x1_1+1))+1))+1)) t217 _ A9.out).mono ?_
           rintro e w23 ⟨rfl,hb⟩
           refine ⟨_,rfl,?_⟩
           have n0_:=A_ (bp_ (by repeat (first|(with_reducible first|exact HB.out|apply ba_|apply pd_|apply b1_)|exact HB.out)) hb)
           clear HB
           have HB:=n0_
           clear n0_
           (try clear hb)
           (try clear hb2)
           (try clear hk)
           (try clear hi)
           refine hK.out _ _ ⟨((HB.out.cell (bl_ w _ hw216_0)).trans hw216_0),((HB.out.cell (bl_ w _ hw216_1)).trans hw216_1),((HB.out.cell (bl_ w _ hw216_2)).trans hw216_2),((HB.out.cell (bl_ w _ hw216_3)).trans hw216_3),((HB.out.cell (bl_ w _ hw216_4)).trans hw216_4),((HB.out.cell (bl_ w _ hw216_5)).trans hw216_5)⟩ (fun hHeld=>?_)
           clear hK K
           refine norm_ (a':=?_) ?_ ?_
           rotate_left
           ·show Act.put _ (some 46) _=_
            simp only [Act.put,ls_,lz_,lc_,i64_w,i32_w]
            rfl
           refine pure_ (i:=7) (N:=some 47) (v:=?_) (a':=?_) #[T_,T_,T_,T_,T_,T_,T_,T_] rfl rfl (any_of HT_.out (by kernel_rfl)) (fun _ _ _ h=>h) (Or.inl ⟨by rfl,?_⟩) ?_ ?_
           rotate_left
           ·intro w'
            go_simp
            with_reducible rfl
           rotate_left
           ·simp only [Act.put,ls_,lz_,lc_,i64_w,i32_w]
            rfl
           refine done_ (done_of HT_.out (by kernel_rfl)) ?_
           have p218:0≤(x5_1:Int):=od_ (by first|(with_reducible assumption)|assumption)
           have q218:x5_1<(l0.length:Int):=od_ (by first|(with_reducible assumption)|assumption)
           obtain ⟨ad218,A218_4,c218_4,A218_5,c218_5,e218,hx218_0,hx218_1,hx218_2,hx218_3,hx218_4,hx218_5,hl218_4,hi218_4,hl218_5,hi218_5⟩:=at_T49 HR0.out x5_1 p218 q218
           obtain rfl:ad212=ad218:=(by injection e218)
           try (have h_:=hx218_4.symm.trans hw216_4;injection h_ with h_;injection h_ with h1_ h3_ h2_;subst h1_;subst h2_)
           try (have h_:=hx218_5.symm.trans hw216_5;injection h_ with h_;injection h_ with h1_ h3_ h2_;subst h1_;subst h2_)
           replace hx218_0:=(HB.out.cell (bl_ w _ hx218_0)).trans hx218_0
           replace hx218_1:=(HB.out.cell (bl_ w _ hx218_1)).trans hx218_1
           replace hx218_2:=(HB.out.cell (bl_ w _ hx218_2)).trans hx218_2
           replace hx218_3:=(HB.out.cell (bl_ w _ hx218_3)).trans hx218_3
           replace hx218_4:=(HB.out.cell (bl_ w _ hx218_4)).trans hx218_4
           replace hx218_5:=(HB.out.cell (bl_ w _ hx218_5)).trans hx218_5
           have HR218_4:=A_ hi218_4
           have HC218_4:=A_ hl218_4
           clear hi218_4 hl218_4
           have HR218_5:=A_ hi218_5
           have HC218_5:=A_ hl218_5
           clear hi218_5 hl218_5
           replace p218:=eq_true p218
           replace q218:=eq_true q218
           try go_wp2_with (first|((with_reducible refine gate_callee (f:=36) rfl ?_);refine goesL_ (some 56) rfl rfl Try.func36 (by kernel_rfl) rfl #[.slice A218_4 ((rd_T49 l0 x5_1).f4).length c218_4,.int .i64 (wrap64 ((wrap64 ((wrap64 ((wrap64 (x1_1+1))+1))+1))+1))] rfl (by (try simp only [List.map_toArray,List.map_cons,List.map_nil]);first|done|rfl|(simp only [ld_,lt_];rfl)) ?_;(with_reducible refine (laws_heldAttrS.calls k1 _ _ ((rd_T49 l0 x5_1).f4) (wrap64 ((wrap64 ((wrap64 ((wrap64 (x1_1+1))+1))+1))+1)) t219 _ ?side1 ?side2 A11.out).mono ?_);(case side1=>repeat (first|exact (cb_ HR218_4.out HB.out)|(with_reducible refine ca_ ?_ _)|(with_reducible refine cn_ ?_ _)|(with_reducible refine cd_ ?_)));(case side2=>exact HC218_4.out);rintro e w24 ⟨rfl,hb⟩;refine ⟨_,rfl,?_⟩;have n0_:=A_ (bp_ (by repeat (first|(with_reducible first|exact HB.out|apply ba_|apply pd_|apply b1_)|exact HB.out)) hb);clear HB;have HB:=n0_;clear n0_;(try clear hb);(try clear hb2);(try clear hk);(try clear hi);have p220:0≤(x5_1:Int):=od_ (by first|(with_reducible assumption)|assumption);have q220:x5_1<(l0.length:Int):=od_ (by first|(with_reducible assumption)|assumption);obtain ⟨ad220,A220_4,c220_4,A220_5,c220_5,e220,hx220_0,hx220_1,hx220_2,hx220_3,hx220_4,hx220_5,hl220_4,hi220_4,hl220_5,hi220_5⟩:=at_T49 HR0.out x5_1 p220 q220;obtain rfl:ad212=ad220:=(by injection e220);replace hx220_0:=(HB.out.cell (bl_ w _ hx220_0)).trans hx220_0;replace hx220_1:=(HB.out.cell (bl_ w _ hx220_1)).trans hx220_1;replace hx220_2:=(HB.out.cell (bl_ w _ hx220_2)).trans hx220_2;replace hx220_3:=(HB.out.cell (bl_ w _ hx220_3)).trans hx220_3;replace hx220_4:=(HB.out.cell (bl_ w _ hx220_4)).trans hx220_4;replace hx220_5:=(HB.out.cell (bl_ w _ hx220_5)).trans hx220_5;have HR220_4:=A_ hi220_4;have HC220_4:=A_ hl220_4;clear hi220_4 hl220_4;have HR220_5:=A_ hi220_5;have HC220_5:=A_ hl220_5;clear hi220_5 hl220_5;replace p220:=eq_true p220;replace q220:=eq_true q220)|((with_reducible refine gate_callee (f:=22) rfl ?_);refine goesL_ (some 65) rfl rfl Try.func22 (by kernel_rfl) rfl #[.slice A220_5 ((rd_T49 l0 x5_1).f5).length c220_5,.int .i64 t219] rfl (by (try simp only [List.map_toArray,List.map_cons,List.map_nil]);first|done|rfl|(simp only [ld_,lt_];rfl)) ?_;(with_reducible refine (ih k1 (by have:=HK1.out;omega) _ _ ((rd_T49 l0 x5_1).f5) t219 t221 _ ?side1 ?side2 A18.out).mono ?_);(case side1=>repeat (first|exact (cb_ HR220_5.out HB.out)|(with_reducible refine ca_ ?_ _)|(with_reducible refine cn_ ?_ _)|(with_reducible refine cd_ ?_)));(case side2=>exact HC220_5.out);rintro e w25 ⟨rfl,hb⟩;refine ⟨_,rfl,?_⟩;have n0_:=A_ (bp_ (by repeat (first|(with_reducible first|exact HB.out|apply ba_|apply pd_|apply b1_)|exact HB.out)) hb);clear HB;have HB:=n0_;clear n0_;(try clear hb);(try clear hb2);(try clear hk);(try clear hi)))
           go_ret
           exact ⟨by first|rfl|(simp [errW_none,errW_some] <;> rfl)|(simp [*,errW_none,errW_some] <;> rfl),by repeat (first|(with_reducible first|exact HB.out|apply ba_|apply pd_|apply b1_)|exact HB.out)⟩
          ·rw [if_neg c19] at H
           have c19b0:decide (t221<0)=false:=df_ c19
           clear c19
           have H':=A_ H
           clear H
           have p212:0≤(x5_1:Int):=od_ (by first|(with_reducible assumption)|assumption)
           have q212:x5_1<(l0.length:Int):=od_ (by first|(with_reducible assumption)|assumption)
           obtain ⟨ad212,A212_4,c212_4,A212_5,c212_5,e212,hx212_0,hx212_1,hx212_2,hx212_3,hx212_4,hx212_5,hl212_4,hi212_4,hl212_5,hi212_5⟩:=at_T49 HR0.out x5_1 p212 q212
           cases e212
           replace hx212_0:=(HB.out.cell (bl_ w _ hx212_0)).trans hx212_0
           replace hx212_1:=(HB.out.cell (bl_ w _ hx212_1)).trans hx212_1
           replace hx212_2:=(HB.out.cell (bl_ w _ hx212_2)).trans hx212_2
           replace hx212_3:=(HB.out.cell (bl_ w _ hx212_3)).trans hx212_3
           replace hx212_4:=(HB.out.cell (bl_ w _ hx212_4)).trans hx212_4
           replace hx212_5:=(HB.out.cell (bl_ w _ hx212_5)).trans hx212_5
           have HR212_4:=A_ hi212_4
           have HC212_4:=A_ hl212_4
           clear hi212_4 hl212_4
           have HR212_5:=A_ hi212_5
           have HC212_5:=A_ hl212_5
           clear hi212_5 hl212_5
           replace p212:=eq_true p212
           replace q212:=eq_true q212
           have p213:0≤(x5_1:Int):=od_ (by first|(with_reducible assumption)|assumption)
           have q213:x5_1<(l0.length:Int):=od_ (by first|(with_reducible assumption)|assumption)
           obtain ⟨ad213,A213_4,c213_4,A213_5,c213_5,e213,hx213_0,hx213_1,hx213_2,hx213_3,hx213_4,hx213_5,hl213_4,hi213_4,hl213_5,hi213_5⟩:=at_T49 HR0.out x5_1 p213 q213
           obtain rfl:ad212=ad213:=(by injection e213)
           try (have h_:=hx213_4.symm.trans hw211_4;injection h_ with h_;injection h_ with h1_ h3_ h2_;subst h1_;subst h2_)
           try (have h_:=hx213_5.symm.trans hw211_5;injection h_ with h_;injection h_ with h1_ h3_ h2_;subst h1_;subst h2_)
           replace hx213_0:=(HB.out.cell (bl_ w _ hx213_0)).trans hx213_0
           replace hx213_1:=(HB.out.cell (bl_ w _ hx213_1)).trans hx213_1
           replace hx213_2:=(HB.out.cell (bl_ w _ hx213_2)).trans hx213_2
           replace hx213_3:=(HB.out.cell (bl_ w _ hx213_3)).trans hx213_3
           replace hx213_4:=(HB.out.cell (bl_ w _ hx213_4)).trans hx213_4
           replace hx213_5:=(HB.out.cell (bl_ w _ hx213_5)).trans hx213_5
           have HR213_4:=A_ hi213_4
           have HC213_4:=A_ hl213_4
           clear hi213_4 hl213_4
           have HR213_5:=A_ hi213_5
           have HC213_5:=A_ hl213_5
           clear hi213_5 hl213_5
           replace p213:=eq_true p213
           replace q213:=eq_true q213
           have ea_:=oi_ (hx212_4.symm.trans hx213_4)
           injection ea_ with ea_ en_ ec_
           subst ea_
           subst ec_
           clear en_
           have ea_:=oi_ (hx212_5.symm.trans hx213_5)
           injection ea_ with ea_ en_ ec_
           subst ea_
           subst ec_
           clear en_
           try go_wp2
           have n0_:=A_ (b1_ HB.out)
           clear HB
           have HB:=n0_
           clear n0_
           have p214:0≤(x5_1:Int):=od_ (by first|(with_reducible assumption)|assumption)
           have q214:x5_1<(l0.length:Int):=od_ (by first|(with_reducible assumption)|assumption)
           obtain ⟨ad214,A214_4,c214_4,A214_5,c214_5,e214,hx214_0,hx214_1,hx214_2,hx214_3,hx214_4,hx214_5,hl214_4,hi214_4,hl214_5,hi214_5⟩:=at_T49 HR0.out x5_1 p214 q214
           have hw214_5:=hx214_5
           have hw214_4:=hx214_4
           have hw214_3:=hx214_3
           have hw214_2:=hx214_2
           have hw214_1:=hx214_1
           have hw214_0:=hx214_0
           obtain rfl:ad212=ad214:=(by injection e214)
           try (have h_:=hx214_4.symm.trans hw212_4;injection h_ with h_;injection h_ with h1_ h3_ h2_;subst h1_;subst h2_)
           try (have h_:=hx214_5.symm.trans hw212_5;injection h_ with h_;injection h_ with h1_ h3_ h2_;subst h1_;subst h2_)
           replace hx214_0:=(HB.out.cell (bl_ w _ hx214_0)).trans hx214_0
           replace hx214_1:=(HB.out.cell (bl_ w _ hx214_1)).trans hx214_1
           replace hx214_2:=(HB.out.cell (bl_ w _ hx214_2)).trans hx214_2
           replace hx214_3:=(HB.out.cell (bl_ w _ hx214_3)).trans hx214_3
           replace hx214_4:=(HB.out.cell (bl_ w _ hx214_4)).trans hx214_4
           replace hx214_5:=(HB.out.cell (bl_ w _ hx214_5)).trans hx214_5
           have HR214_4:=A_ hi214_4
           have HC214_4:=A_ hl214_4
           clear hi214_4 hl214_4
           have HR214_5:=A_ hi214_5
           have HC214_5:=A_ hl214_5
           clear hi214_5 hl214_5
           replace p214:=eq_true p214
           replace q214:=eq_true q214
           refine start_ (n:=8) (S:=fun w'=>w'.cell? (ad212.add ((x5_1).toNat * 6))=some (.int .i64 ((rd_T49 l0 x5_1).f0))∧w'.cell? ⟨(ad212.add ((x5_1).toNat * 6)).block,(ad212.add ((x5_1).toNat * 6)).off+1,none⟩=some (.int .i64 ((rd_T49 l0 x5_1).f1))∧w'.cell? ⟨(ad212.add ((x5_1).toNat * 6)).block,(ad212.add ((x5_1).toNat * 6)).off+2,none⟩=some (.string ((rd_T49 l0 x5_1).f2))∧w'.cell? ⟨(ad212.add ((x5_1).toNat * 6)).block,(ad212.add ((x5_1).toNat * 6)).off+3,none⟩=some (.string ((rd_T49 l0 x5_1).f3))∧w'.cell? ⟨(ad212.add ((x5_1).toNat * 6)).block,(ad212.add ((x5_1).toNat * 6)).off+4,none⟩=some (.slice A214_4 ((rd_T49 l0 x5_1).f4).length c214_4)∧w'.cell? ⟨(ad212.add ((x5_1).toNat * 6)).block,(ad212.add ((x5_1).toNat * 6)).off+5,none⟩=some (.slice A214_5 ((rd_T49 l0 x5_1).f5).length c214_5)) (ds:=[]) #[F_,F_,F_,F_,F_,F_,F_,F_] (by kernel_rfl) rfl rfl ⟨((HB.out.cell (bl_ w _ hw214_0)).trans hw214_0),((HB.out.cell (bl_ w _ hw214_1)).trans hw214_1),((HB.out.cell (bl_ w _ hw214_2)).trans hw214_2),((HB.out.cell (bl_ w _ hw214_3)).trans hw214_3),((HB.out.cell (bl_ w _ hw214_4)).trans hw214_4),((HB.out.cell (bl_ w _ hw214_5)).trans hw214_5)⟩ (fun hHeld=>?_);refine with_tabW laws_heldNodeS.tab10 laws_heldNodeS.bits10 (fun HT_ HW_=>?_)
           generalize wr.drew=w26 at HB HR214_4 HR214_5 hx214_0 hx214_1 hx214_2 hx214_3 hx214_4 hx214_5 hHeld ⊢
           refine pure_ (i:=0) (N:=some 30) (v:=?_) (a':=?_) #[T_,F_,F_,F_,F_,F_,F_,F_] rfl rfl (any_of HT_.out (by kernel_rfl)) (fun _ _ _ h=>h) (Or.inl ⟨by rfl,?_⟩) ?_ ?_
           rotate_left
           ·intro w'
            go_simp
            with_reducible rfl
           rotate_left
           ·simp only [Act.put,ls_,lz_,lc_,i64_w,i32_w]
            rfl
           refine pure_ (i:=1) (N:=some 31) (v:=?_) (a':=?_) #[T_,T_,F_,F_,F_,F_,F_,F_] rfl rfl (any_of HT_.out (by kernel_rfl)) (fun _ _ _ h=>h) (Or.inl ⟨by rfl,?_⟩) ?_ ?_
           rotate_left
           ·intro w'
            go_simp
            with_reducible rfl
           rotate_left
           ·simp only [Act.put,ls_,lz_,lc_,i64_w,i32_w]
            rfl
           refine pure_ (i:=2) (N:=some 32) (v:=?_) (a':=?_) #[T_,T_,T_,F_,F_,F_,F_,F_] rfl rfl (any_of HT_.out (by kernel_rfl)) (fun _ _ _ h=>h) (Or.inl ⟨by rfl,?_⟩) ?_ ?_
           rotate_left
           ·intro w'
            go_simp
            with_reducible rfl
           rotate_left
           ·simp only [Act.put,ls_,lz_,lc_,i64_w,i32_w]
            rfl
           refine pure_ (i:=3) (N:=some 33) (v:=?_) (a':=?_) #[T_,T_,T_,T_,F_,F_,F_,F_] rfl rfl (any_of HT_.out (by kernel_rfl)) (fun _ _ _ h=>h) (Or.inl ⟨by rfl,?_⟩) ?_ ?_
           rotate_left
           ·intro w'
            go_simp
            with_reducible rfl
           rotate_left
           ·simp only [Act.put,ls_,lz_,lc_,i64_w,i32_w]
            rfl
           refine pure_ (i:=5) (N:=some 35) (v:=?_) (a':=?_) #[T_,T_,T_,T_,F_,T_,F_,F_] rfl rfl (any_of HT_.out (by kernel_rfl)) (fun _ _ _ h=>h) (Or.inl ⟨by rfl,?_⟩) ?_ ?_
           rotate_left
           ·intro w'
            go_simp
            with_reducible rfl
           rotate_left
           ·simp only [Act.put,ls_,lz_,lc_,i64_w,i32_w]
            rfl
           refine take_ (i:=4) (N:=some 34) (v:=?_) (a':=?_) #[T_,T_,T_,T_,T_,T_,F_,F_] rfl rfl (take_ofW HT_.out HW_.out (by kernel_rfl)) (fun _ _ _ h=>h) (Or.inl ⟨by rfl,?_⟩) hHeld ?_ ?_
           rotate_left
           ·rintro w' ⟨s0,s1,s2,s3,s4,s5⟩
            go_simp
            with_reducible rfl
           rotate_left
           ·simp only [Act.put,ls_,lz_,lc_,i64_w,i32_w]
            rfl
           refine one_ (i:=6) (N:=some 36) #[T_,T_,T_,T_,T_,T_,T_,F_] rfl rfl (one_of HT_.out (by kernel_rfl)) (by decide) (fun K hK=>?_)
           refine goes_ Try.func30 (by kernel_rfl) rfl #[.int .i64 (wrap64 ((wrap64 (x1_1+1))+1))] (by rfl) rfl rfl (by (try simp only [List.map_toArray,List.map_cons,List.map_nil]);first|done|rfl|(simp only [ld_,lt_];rfl)) ?_
           with_reducible refine (laws_markText.calls k1 (wrap64 ((wrap64 (x1_1+1))+1)) t215 _ A7.out).mono ?_
           rintro e w27 ⟨rfl,hb⟩
           refine ⟨_,rfl,?_⟩
           have n0_:=A_ (bp_ (by repeat (first|(with_reducible first|exact HB.out|apply ba_|apply pd_|apply b1_)|exact HB.out)) hb)
           clear HB
           have HB:=n0_
           clear n0_
           (try clear hb)
           (try clear hb2)
           (try clear hk)
           (try clear hi)
           refine hK.out _ _ ⟨((HB.out.cell (bl_ w _ hw214_0)).trans hw214_0),((HB.out.cell (bl_ w _ hw214_1)).trans hw214_1),((HB.out.cell (bl_ w _ hw214_2)).trans hw214_2),((HB.out.cell (bl_ w _ hw214_3)).trans hw214_3),((HB.out.cell (bl_ w _ hw214_4)).trans hw214_4),((HB.out.cell (bl_ w _ hw214_5)).trans hw214_5)⟩ (fun hHeld=>?_)
           clear hK K
           refine norm_ (a':=?_) ?_ ?_
           rotate_left
           ·show Act.put _ (some 36) _=_
            simp only [Act.put,ls_,lz_,lc_,i64_w,i32_w]
            rfl
           refine pure_ (i:=7) (N:=some 37) (v:=?_) (a':=?_) #[T_,T_,T_,T_,T_,T_,T_,T_] rfl rfl (any_of HT_.out (by kernel_rfl)) (fun _ _ _ h=>h) (Or.inl ⟨by rfl,?_⟩) ?_ ?_
           rotate_left
           ·intro w'
            go_simp
            with_reducible rfl
           rotate_left
           ·simp only [Act.put,ls_,lz_,lc_,i64_w,i32_w]
            rfl
           refine done_ (done_of HT_.out (by kernel_rfl)) ?_
           try go_wp2
           have n0_:=A_ (b1_ HB.out)
           clear HB
           have HB:=n0_
           clear n0_
           have p216:0≤(x5_1:Int):=od_ (by first|(with_reducible assumption)|assumption)
           have q216:x5_1<(l0.length:Int):=od_ (by first|(with_reducible assumption)|assumption)
           obtain ⟨ad216,A216_4,c216_4,A216_5,c216_5,e216,hx216_0,hx216_1,hx216_2,hx216_3,hx216_4,hx216_5,hl216_4,hi216_4,hl216_5,hi216_5⟩:=at_T49 HR0.out x5_1 p216 q216
           have hw216_5:=hx216_5
           have hw216_4:=hx216_4
           have hw216_3:=hx216_3
           have hw216_2:=hx216_2
           have hw216_1:=hx216_1
           have hw216_0:=hx216_0
           obtain rfl:ad212=ad216:=(by injection e216)
           try (have h_:=hx216_4.symm.trans hw214_4;injection h_ with h_;injection h_ with h1_ h3_ h2_;subst h1_;subst h2_)
           try (have h_:=hx216_5.symm.trans hw214_5;injection h_ with h_;injection h_ with h1_ h3_ h2_;subst h1_;subst h2_)
           replace hx216_0:=(HB.out.cell (bl_ w _ hx216_0)).trans hx216_0
           replace hx216_1:=(HB.out.cell (bl_ w _ hx216_1)).trans hx216_1
           replace hx216_2:=(HB.out.cell (bl_ w _ hx216_2)).trans hx216_2
           replace hx216_3:=(HB.out.cell (bl_ w _ hx216_3)).trans hx216_3
           replace hx216_4:=(HB.out.cell (bl_ w _ hx216_4)).trans hx216_4
           replace hx216_5:=(HB.out.cell (bl_ w _ hx216_5)).trans hx216_5
           have HR216_4:=A_ hi216_4
           have HC216_4:=A_ hl216_4
           clear hi216_4 hl216_4
           have HR216_5:=A_ hi216_5
           have HC216_5:=A_ hl216_5
           clear hi216_5 hl216_5
           replace p216:=eq_true p216
           replace q216:=eq_true q216
           refine start_ (n:=8) (S:=fun w'=>w'.cell? (ad212.add ((x5_1).toNat * 6))=some (.int .i64 ((rd_T49 l0 x5_1).f0))∧w'.cell? ⟨(ad212.add ((x5_1).toNat * 6)).block,(ad212.add ((x5_1).toNat * 6)).off+1,none⟩=some (.int .i64 ((rd_T49 l0 x5_1).f1))∧w'.cell? ⟨(ad212.add ((x5_1).toNat * 6)).block,(ad212.add ((x5_1).toNat * 6)).off+2,none⟩=some (.string ((rd_T49 l0 x5_1).f2))∧w'.cell? ⟨(ad212.add ((x5_1).toNat * 6)).block,(ad212.add ((x5_1).toNat * 6)).off+3,none⟩=some (.string ((rd_T49 l0 x5_1).f3))∧w'.cell? ⟨(ad212.add ((x5_1).toNat * 6)).block,(ad212.add ((x5_1).toNat * 6)).off+4,none⟩=some (.slice A216_4 ((rd_T49 l0 x5_1).f4).length c216_4)∧w'.cell? ⟨(ad212.add ((x5_1).toNat * 6)).block,(ad212.add ((x5_1).toNat * 6)).off+5,none⟩=some (.slice A216_5 ((rd_T49 l0 x5_1).f5).length c216_5)) (ds:=[]) #[F_,F_,F_,F_,F_,F_,F_,F_] (by kernel_rfl) rfl rfl ⟨((HB.out.cell (bl_ w _ hw216_0)).trans hw216_0),((HB.out.cell (bl_ w _ hw216_1)).trans hw216_1),((HB.out.cell (bl_ w _ hw216_2)).trans hw216_2),((HB.out.cell (bl_ w _ hw216_3)).trans hw216_3),((HB.out.cell (bl_ w _ hw216_4)).trans hw216_4),((HB.out.cell (bl_ w _ hw216_5)).trans hw216_5)⟩ (fun hHeld=>?_);refine with_tabW laws_heldNodeS.tab13 laws_heldNodeS.bits13 (fun HT_ HW_=>?_)
           generalize w27.drew=w28 at HB HR216_4 HR216_5 hx216_0 hx216_1 hx216_2 hx216_3 hx216_4 hx216_5 hHeld ⊢
           refine pure_ (i:=0) (N:=some 40) (v:=?_) (a':=?_) #[T_,F_,F_,F_,F_,F_,F_,F_] rfl rfl (any_of HT_.out (by kernel_rfl)) (fun _ _ _ h=>h) (Or.inl ⟨by rfl,?_⟩) ?_ ?_
           rotate_left
           ·intro w'
            go_simp
            with_reducible rfl
           rotate_left
           ·simp only [Act.put,ls_,lz_,lc_,i64_w,i32_w]
            rfl
           refine pure_ (i:=1) (N:=some 41) (v:=?_) (a':=?_) #[T_,T_,F_,F_,F_,F_,F_,F_] rfl rfl (any_of HT_.out (by kernel_rfl)) (fun _ _ _ h=>h) (Or.inl ⟨by rfl,?_⟩) ?_ ?_
           rotate_left
           ·intro w'
            go_simp
            with_reducible rfl
           rotate_left
           ·simp only [Act.put,ls_,lz_,lc_,i64_w,i32_w]
            rfl
           refine pure_ (i:=2) (N:=some 42) (v:=?_) (a':=?_) #[T_,T_,T_,F_,F_,F_,F_,F_] rfl rfl (any_of HT_.out (by kernel_rfl)) (fun _ _ _ h=>h) (Or.inl ⟨by rfl,?_⟩) ?_ ?_
           rotate_left
           ·intro w'
            go_simp
            with_reducible rfl
           rotate_left
           ·simp only [Act.put,ls_,lz_,lc_,i64_w,i32_w]
            rfl
           refine pure_ (i:=3) (N:=some 43) (v:=?_) (a':=?_) #[T_,T_,T_,T_,F_,F_,F_,F_] rfl rfl (any_of HT_.out (by kernel_rfl)) (fun _ _ _ h=>h) (Or.inl ⟨by rfl,?_⟩) ?_ ?_
           rotate_left
           ·intro w'
            go_simp
            with_reducible rfl
           rotate_left
           ·simp only [Act.put,ls_,lz_,lc_,i64_w,i32_w]
            rfl
           refine pure_ (i:=5) (N:=some 45) (v:=?_) (a':=?_) #[T_,T_,T_,T_,F_,T_,F_,F_] rfl rfl (any_of HT_.out (by kernel_rfl)) (fun _ _ _ h=>h) (Or.inl ⟨by rfl,?_⟩) ?_ ?_
           rotate_left
           ·intro w'
            go_simp
            with_reducible rfl
           rotate_left
           ·simp only [Act.put,ls_,lz_,lc_,i64_w,i32_w]
            rfl
           refine take_ (i:=4) (N:=some 44) (v:=?_) (a':=?_) #[T_,T_,T_,T_,T_,T_,F_,F_] rfl rfl (take_ofW HT_.out HW_.out (by kernel_rfl)) (fun _ _ _ h=>h) (Or.inl ⟨by rfl,?_⟩) hHeld ?_ ?_
           rotate_left
           ·rintro w' ⟨s0,s1,s2,s3,s4,s5⟩
            go_simp
            with_reducible rfl
           rotate_left
           ·simp only [Act.put,ls_,lz_,lc_,i64_w,i32_w]
            rfl
           refine one_ (i:=6) (N:=some 46) #[T_,T_,T_,T_,T_,T_,T_,F_] rfl rfl (one_of HT_.out (by kernel_rfl)) (by decide) (fun K hK=>?_)
           refine goes_ Try.func30 (by kernel_rfl) rfl #[.int .i64 (wrap64 ((wrap64 ((wrap64 (x1_1+1))+1))+1))] (by rfl) rfl rfl (by (try simp only [List.map_toArray,List.map_cons,List.map_nil]);first|done|rfl|(simp only [ld_,lt_];rfl)) ?_
           with_reducible refine (laws_markText.calls k1 (wrap64 ((wrap64 ((wrap64 (x1_1+1))+1))+1)) t217 _ A9.out).mono ?_
           rintro e w29 ⟨rfl,hb⟩
           refine ⟨_,rfl,?_⟩
           have n0_:=A_ (bp_ (by repeat (first|(with_reducible first|exact HB.out|apply ba_|apply pd_|apply b1_)|exact HB.out)) hb)
           clear HB
           have HB:=n0_
           clear n0_
           (try clear hb)
           (try clear hb2)
           (try clear hk)
           (try clear hi)
           refine hK.out _ _ ⟨((HB.out.cell (bl_ w _ hw216_0)).trans hw216_0),((HB.out.cell (bl_ w _ hw216_1)).trans hw216_1),((HB.out.cell (bl_ w _ hw216_2)).trans hw216_2),((HB.out.cell (bl_ w _ hw216_3)).trans hw216_3),((HB.out.cell (bl_ w _ hw216_4)).trans hw216_4),((HB.out.cell (bl_ w _ hw216_5)).trans hw216_5)⟩ (fun hHeld=>?_)
           clear hK K
           refine norm_ (a':=?_) ?_ ?_
           rotate_left
           ·show Act.put _ (some 46) _=_
            simp only [Act.put,ls_,lz_,lc_,i64_w,i32_w]
            rfl
           refine pure_ (i:=7) (N:=some 47) (v:=?_) (a':=?_) #[T_,T_,T_,T_,T_,T_,T_,T_] rfl rfl (any_of HT_.out (by kernel_rfl)) (fun _ _ _ h=>h) (Or.inl ⟨by rfl,?_⟩) ?_ ?_
           rotate_left
           ·intro w'
            go_simp
            with_reducible rfl
           rotate_left
           ·simp only [Act.put,ls_,lz_,lc_,i64_w,i32_w]
            rfl
           refine done_ (done_of HT_.out (by kernel_rfl)) ?_
           have p218:0≤(x5_1:Int):=od_ (by first|(with_reducible assumption)|assumption)
           have q218:x5_1<(l0.length:Int):=od_ (by first|(with_reducible assumption)|assumption)
           obtain ⟨ad218,A218_4,c218_4,A218_5,c218_5,e218,hx218_0,hx218_1,hx218_2,hx218_3,hx218_4,hx218_5,hl218_4,hi218_4,hl218_5,hi218_5⟩:=at_T49 HR0.out x5_1 p218 q218
           obtain rfl:ad212=ad218:=(by injection e218)
           try (have h_:=hx218_4.symm.trans hw216_4;injection h_ with h_;injection h_ with h1_ h3_ h2_;subst h1_;subst h2_)
           try (have h_:=hx218_5.symm.trans hw216_5;injection h_ with h_;injection h_ with h1_ h3_ h2_;subst h1_;subst h2_)
           replace hx218_0:=(HB.out.cell (bl_ w _ hx218_0)).trans hx218_0
           replace hx218_1:=(HB.out.cell (bl_ w _ hx218_1)).trans hx218_1
           replace hx218_2:=(HB.out.cell (bl_ w _ hx218_2)).trans hx218_2
           replace hx218_3:=(HB.out.cell (bl_ w _ hx218_3)).trans hx218_3
           replace hx218_4:=(HB.out.cell (bl_ w _ hx218_4)).trans hx218_4
           replace hx218_5:=(HB.out.cell (bl_ w _ hx218_5)).trans hx218_5
           have HR218_4:=A_ hi218_4
           have HC218_4:=A_ hl218_4
           clear hi218_4 hl218_4
           have HR218_5:=A_ hi218_5
           have HC218_5:=A_ hl218_5
           clear hi218_5 hl218_5
           replace p218:=eq_true p218
           replace q218:=eq_true q218
           try go_wp2_with (first|((with_reducible refine gate_callee (f:=36) rfl ?_);refine goesL_ (some 56) rfl rfl Try.func36 (by kernel_rfl) rfl #[.slice A218_4 ((rd_T49 l0 x5_1).f4).length c218_4,.int .i64 (wrap64 ((wrap64 ((wrap64 ((wrap64 (x1_1+1))+1))+1))+1))] rfl (by (try simp only [List.map_toArray,List.map_cons,List.map_nil]);first|done|rfl|(simp only [ld_,lt_];rfl)) ?_;(with_reducible refine (laws_heldAttrS.calls k1 _ _ ((rd_T49 l0 x5_1).f4) (wrap64 ((wrap64 ((wrap64 ((wrap64 (x1_1+1))+1))+1))+1)) t219 _ ?side1 ?side2 A11.out).mono ?_);(case side1=>repeat (first|exact (cb_ HR218_4.out HB.out)|(with_reducible refine ca_ ?_ _)|(with_reducible refine cn_ ?_ _)|(with_reducible refine cd_ ?_)));(case side2=>exact HC218_4.out);rintro e w30 ⟨rfl,hb⟩;refine ⟨_,rfl,?_⟩;have n0_:=A_ (bp_ (by repeat (first|(with_reducible first|exact HB.out|apply ba_|apply pd_|apply b1_)|exact HB.out)) hb);clear HB;have HB:=n0_;clear n0_;(try clear hb);(try clear hb2);(try clear hk);(try clear hi);have p220:0≤(x5_1:Int):=od_ (by first|(with_reducible assumption)|assumption);have q220:x5_1<(l0.length:Int):=od_ (by first|(with_reducible assumption)|assumption);obtain ⟨ad220,A220_4,c220_4,A220_5,c220_5,e220,hx220_0,hx220_1,hx220_2,hx220_3,hx220_4,hx220_5,hl220_4,hi220_4,hl220_5,hi220_5⟩:=at_T49 HR0.out x5_1 p220 q220;obtain rfl:ad212=ad220:=(by injection e220);replace hx220_0:=(HB.out.cell (bl_ w _ hx220_0)).trans hx220_0;replace hx220_1:=(HB.out.cell (bl_ w _ hx220_1)).trans hx220_1;replace hx220_2:=(HB.out.cell (bl_ w _ hx220_2)).trans hx220_2;replace hx220_3:=(HB.out.cell (bl_ w _ hx220_3)).trans hx220_3;replace hx220_4:=(HB.out.cell (bl_ w _ hx220_4)).trans hx220_4;replace hx220_5:=(HB.out.cell (bl_ w _ hx220_5)).trans hx220_5;have HR220_4:=A_ hi220_4;have HC220_4:=A_ hl220_4;clear hi220_4 hl220_4;have HR220_5:=A_ hi220_5;have HC220_5:=A_ hl220_5;clear hi220_5 hl220_5;replace p220:=eq_true p220;replace q220:=eq_true q220)|((with_reducible refine gate_callee (f:=22) rfl ?_);refine goesL_ (some 65) rfl rfl Try.func22 (by kernel_rfl) rfl #[.slice A220_5 ((rd_T49 l0 x5_1).f5).length c220_5,.int .i64 t219] rfl (by (try simp only [List.map_toArray,List.map_cons,List.map_nil]);first|done|rfl|(simp only [ld_,lt_];rfl)) ?_;(with_reducible refine (ih k1 (by have:=HK1.out;omega) _ _ ((rd_T49 l0 x5_1).f5) t219 t221 _ ?side1 ?side2 A18.out).mono ?_);(case side1=>repeat (first|exact (cb_ HR220_5.out HB.out)|(with_reducible refine ca_ ?_ _)|(with_reducible refine cn_ ?_ _)|(with_reducible refine cd_ ?_)));(case side2=>exact HC220_5.out);rintro e w31 ⟨rfl,hb⟩;refine ⟨_,rfl,?_⟩;have n0_:=A_ (bp_ (by repeat (first|(with_reducible first|exact HB.out|apply ba_|apply pd_|apply b1_)|exact HB.out)) hb);clear HB;have HB:=n0_;clear n0_;(try clear hb);(try clear hb2);(try clear hk);(try clear hi)))
           go_roundg k1
           case measure=>have:=HK1.out;omega
           case rel=>exact ⟨(t221),(wrap64 (x5_1+1)),(by first|rfl|(simp;done)|(simp [*];done)),(by first|rfl|(simp;done)|(simp [*];done)),H',⟨by have:=HK1.out;omega⟩,⟨by repeat (first|(with_reducible first|exact HB.out|apply ba_|apply pd_|apply b1_)|exact HB.out)⟩⟩
        ·rw [if_neg c10] at H
         have c10b0:(((rd_T49 l0 x5_1).f3).toList == t217.toList)=false:=beq_eq_false_iff_ne.mpr c10
         have c10b1:(((rd_T49 l0 x5_1).f3).toList != t217.toList)=true:=bne_iff_ne.mpr c10
         obtain rfl:=oi_ H
         have p212:0≤(x5_1:Int):=od_ (by first|(with_reducible assumption)|assumption)
         have q212:x5_1<(l0.length:Int):=od_ (by first|(with_reducible assumption)|assumption)
         obtain ⟨ad212,A212_4,c212_4,A212_5,c212_5,e212,hx212_0,hx212_1,hx212_2,hx212_3,hx212_4,hx212_5,hl212_4,hi212_4,hl212_5,hi212_5⟩:=at_T49 HR0.out x5_1 p212 q212
         cases e212
         replace hx212_0:=(HB.out.cell (bl_ w _ hx212_0)).trans hx212_0
         replace hx212_1:=(HB.out.cell (bl_ w _ hx212_1)).trans hx212_1
         replace hx212_2:=(HB.out.cell (bl_ w _ hx212_2)).trans hx212_2
         replace hx212_3:=(HB.out.cell (bl_ w _ hx212_3)).trans hx212_3
         replace hx212_4:=(HB.out.cell (bl_ w _ hx212_4)).trans hx212_4
         replace hx212_5:=(HB.out.cell (bl_ w _ hx212_5)).trans hx212_5
         have HR212_4:=A_ hi212_4
         have HC212_4:=A_ hl212_4
         clear hi212_4 hl212_4
         have HR212_5:=A_ hi212_5
         have HC212_5:=A_ hl212_5
         clear hi212_5 hl212_5
         replace p212:=eq_true p212
         replace q212:=eq_true q212
         have p213:0≤(x5_1:Int):=od_ (by first|(with_reducible assumption)|assumption)
         have q213:x5_1<(l0.length:Int):=od_ (by first|(with_reducible assumption)|assumption)
         obtain ⟨ad213,A213_4,c213_4,A213_5,c213_5,e213,hx213_0,hx213_1,hx213_2,hx213_3,hx213_4,hx213_5,hl213_4,hi213_4,hl213_5,hi213_5⟩:=at_T49 HR0.out x5_1 p213 q213
         obtain rfl:ad212=ad213:=(by injection e213)
         try (have h_:=hx213_4.symm.trans hw211_4;injection h_ with h_;injection h_ with h1_ h3_ h2_;subst h1_;subst h2_)
         try (have h_:=hx213_5.symm.trans hw211_5;injection h_ with h_;injection h_ with h1_ h3_ h2_;subst h1_;subst h2_)
         replace hx213_0:=(HB.out.cell (bl_ w _ hx213_0)).trans hx213_0
         replace hx213_1:=(HB.out.cell (bl_ w _ hx213_1)).trans hx213_1
         replace hx213_2:=(HB.out.cell (bl_ w _ hx213_2)).trans hx213_2
         replace hx213_3:=(HB.out.cell (bl_ w _ hx213_3)).trans hx213_3
         replace hx213_4:=(HB.out.cell (bl_ w _ hx213_4)).trans hx213_4
         replace hx213_5:=(HB.out.cell (bl_ w _ hx213_5)).trans hx213_5
         have HR213_4:=A_ hi213_4
         have HC213_4:=A_ hl213_4
         clear hi213_4 hl213_4
         have HR213_5:=A_ hi213_5
         have HC213_5:=A_ hl213_5
         clear hi213_5 hl213_5
         replace p213:=eq_true p213
         replace q213:=eq_true q213
         have ea_:=oi_ (hx212_4.symm.trans hx213_4)
         injection ea_ with ea_ en_ ec_
         subst ea_
         subst ec_
         clear en_
         have ea_:=oi_ (hx212_5.symm.trans hx213_5)
         injection ea_ with ea_ en_ ec_
         subst ea_
         subst ec_
         clear en_
         try go_wp2
         have n0_:=A_ (b1_ HB.out)
         clear HB
         have HB:=n0_
         clear n0_
         have p214:0≤(x5_1:Int):=od_ (by first|(with_reducible assumption)|assumption)
         have q214:x5_1<(l0.length:Int):=od_ (by first|(with_reducible assumption)|assumption)
         obtain ⟨ad214,A214_4,c214_4,A214_5,c214_5,e214,hx214_0,hx214_1,hx214_2,hx214_3,hx214_4,hx214_5,hl214_4,hi214_4,hl214_5,hi214_5⟩:=at_T49 HR0.out x5_1 p214 q214
         have hw214_5:=hx214_5
         have hw214_4:=hx214_4
         have hw214_3:=hx214_3
         have hw214_2:=hx214_2
         have hw214_1:=hx214_1
         have hw214_0:=hx214_0
         obtain rfl:ad212=ad214:=(by injection e214)
         try (have h_:=hx214_4.symm.trans hw212_4;injection h_ with h_;injection h_ with h1_ h3_ h2_;subst h1_;subst h2_)
         try (have h_:=hx214_5.symm.trans hw212_5;injection h_ with h_;injection h_ with h1_ h3_ h2_;subst h1_;subst h2_)
         replace hx214_0:=(HB.out.cell (bl_ w _ hx214_0)).trans hx214_0
         replace hx214_1:=(HB.out.cell (bl_ w _ hx214_1)).trans hx214_1
         replace hx214_2:=(HB.out.cell (bl_ w _ hx214_2)).trans hx214_2
         replace hx214_3:=(HB.out.cell (bl_ w _ hx214_3)).trans hx214_3
         replace hx214_4:=(HB.out.cell (bl_ w _ hx214_4)).trans hx214_4
         replace hx214_5:=(HB.out.cell (bl_ w _ hx214_5)).trans hx214_5
         have HR214_4:=A_ hi214_4
         have HC214_4:=A_ hl214_4
         clear hi214_4 hl214_4
         have HR214_5:=A_ hi214_5
         have HC214_5:=A_ hl214_5
         clear hi214_5 hl214_5
         replace p214:=eq_true p214
         replace q214:=eq_true q214
         refine start_ (n:=8) (S:=fun w'=>w'.cell? (ad212.add ((x5_1).toNat * 6))=some (.int .i64 ((rd_T49 l0 x5_1).f0))∧w'.cell? ⟨(ad212.add ((x5_1).toNat * 6)).block,(ad212.add ((x5_1).toNat * 6)).off+1,none⟩=some (.int .i64 ((rd_T49 l0 x5_1).f1))∧w'.cell? ⟨(ad212.add ((x5_1).toNat * 6)).block,(ad212.add ((x5_1).toNat * 6)).off+2,none⟩=some (.string ((rd_T49 l0 x5_1).f2))∧w'.cell? ⟨(ad212.add ((x5_1).toNat * 6)).block,(ad212.add ((x5_1).toNat * 6)).off+3,none⟩=some (.string ((rd_T49 l0 x5_1).f3))∧w'.cell? ⟨(ad212.add ((x5_1).toNat * 6)).block,(ad212.add ((x5_1).toNat * 6)).off+4,none⟩=some (.slice A214_4 ((rd_T49 l0 x5_1).f4).length c214_4)∧w'.cell? ⟨(ad212.add ((x5_1).toNat * 6)).block,(ad212.add ((x5_1).toNat * 6)).off+5,none⟩=some (.slice A214_5 ((rd_T49 l0 x5_1).f5).length c214_5)) (ds:=[]) #[F_,F_,F_,F_,F_,F_,F_,F_] (by kernel_rfl) rfl rfl ⟨((HB.out.cell (bl_ w _ hw214_0)).trans hw214_0),((HB.out.cell (bl_ w _ hw214_1)).trans hw214_1),((HB.out.cell (bl_ w _ hw214_2)).trans hw214_2),((HB.out.cell (bl_ w _ hw214_3)).trans hw214_3),((HB.out.cell (bl_ w _ hw214_4)).trans hw214_4),((HB.out.cell (bl_ w _ hw214_5)).trans hw214_5)⟩ (fun hHeld=>?_);refine with_tabW laws_heldNodeS.tab10 laws_heldNodeS.bits10 (fun HT_ HW_=>?_)
         generalize wr.drew=w32 at HB HR214_4 HR214_5 hx214_0 hx214_1 hx214_2 hx214_3 hx214_4 hx214_5 hHeld ⊢
         refine pure_ (i:=0) (N:=some 30) (v:=?_) (a':=?_) #[T_,F_,F_,F_,F_,F_,F_,F_] rfl rfl (any_of HT_.out (by kernel_rfl)) (fun _ _ _ h=>h) (Or.inl ⟨by rfl,?_⟩) ?_ ?_
         rotate_left
         ·intro w'
          go_simp
          with_reducible rfl
         rotate_left
         ·simp only [Act.put,ls_,lz_,lc_,i64_w,i32_w]
          rfl
         refine pure_ (i:=1) (N:=some 31) (v:=?_) (a':=?_) #[T_,T_,F_,F_,F_,F_,F_,F_] rfl rfl (any_of HT_.out (by kernel_rfl)) (fun _ _ _ h=>h) (Or.inl ⟨by rfl,?_⟩) ?_ ?_
         rotate_left
         ·intro w'
          go_simp
          with_reducible rfl
         rotate_left
         ·simp only [Act.put,ls_,lz_,lc_,i64_w,i32_w]
          rfl
         refine pure_ (i:=2) (N:=some 32) (v:=?_) (a':=?_) #[T_,T_,T_,F_,F_,F_,F_,F_] rfl rfl (any_of HT_.out (by kernel_rfl)) (fun _ _ _ h=>h) (Or.inl ⟨by rfl,?_⟩) ?_ ?_
         rotate_left
         ·intro w'
          go_simp
          with_reducible rfl
         rotate_left
         ·simp only [Act.put,ls_,lz_,lc_,i64_w,i32_w]
          rfl
         refine pure_ (i:=3) (N:=some 33) (v:=?_) (a':=?_) #[T_,T_,T_,T_,F_,F_,F_,F_] rfl rfl (any_of HT_.out (by kernel_rfl)) (fun _ _ _ h=>h) (Or.inl ⟨by rfl,?_⟩) ?_ ?_
         rotate_left
         ·intro w'
          go_simp
          with_reducible rfl
         rotate_left
         ·simp only [Act.put,ls_,lz_,lc_,i64_w,i32_w]
          rfl
         refine pure_ (i:=5) (N:=some 35) (v:=?_) (a':=?_) #[T_,T_,T_,T_,F_,T_,F_,F_] rfl rfl (any_of HT_.out (by kernel_rfl)) (fun _ _ _ h=>h) (Or.inl ⟨by rfl,?_⟩) ?_ ?_
         rotate_left
         ·intro w'
          go_simp
          with_reducible rfl
         rotate_left
         ·simp only [Act.put,ls_,lz_,lc_,i64_w,i32_w]
          rfl
         refine take_ (i:=4) (N:=some 34) (v:=?_) (a':=?_) #[T_,T_,T_,T_,T_,T_,F_,F_] rfl rfl (take_ofW HT_.out HW_.out (by kernel_rfl)) (fun _ _ _ h=>h) (Or.inl ⟨by rfl,?_⟩) hHeld ?_ ?_
         rotate_left
         ·rintro w' ⟨s0,s1,s2,s3,s4,s5⟩
          go_simp
          with_reducible rfl
         rotate_left
         ·simp only [Act.put,ls_,lz_,lc_,i64_w,i32_w]
          rfl
         refine one_ (i:=6) (N:=some 36) #[T_,T_,T_,T_,T_,T_,T_,F_] rfl rfl (one_of HT_.out (by kernel_rfl)) (by decide) (fun K hK=>?_)
         refine goes_ Try.func30 (by kernel_rfl) rfl #[.int .i64 (wrap64 ((wrap64 (x1_1+1))+1))] (by rfl) rfl rfl (by (try simp only [List.map_toArray,List.map_cons,List.map_nil]);first|done|rfl|(simp only [ld_,lt_];rfl)) ?_
         with_reducible refine (laws_markText.calls k1 (wrap64 ((wrap64 (x1_1+1))+1)) t215 _ A7.out).mono ?_
         rintro e w33 ⟨rfl,hb⟩
         refine ⟨_,rfl,?_⟩
         have n0_:=A_ (bp_ (by repeat (first|(with_reducible first|exact HB.out|apply ba_|apply pd_|apply b1_)|exact HB.out)) hb)
         clear HB
         have HB:=n0_
         clear n0_
         (try clear hb)
         (try clear hb2)
         (try clear hk)
         (try clear hi)
         refine hK.out _ _ ⟨((HB.out.cell (bl_ w _ hw214_0)).trans hw214_0),((HB.out.cell (bl_ w _ hw214_1)).trans hw214_1),((HB.out.cell (bl_ w _ hw214_2)).trans hw214_2),((HB.out.cell (bl_ w _ hw214_3)).trans hw214_3),((HB.out.cell (bl_ w _ hw214_4)).trans hw214_4),((HB.out.cell (bl_ w _ hw214_5)).trans hw214_5)⟩ (fun hHeld=>?_)
         clear hK K
         refine norm_ (a':=?_) ?_ ?_
         rotate_left
         ·show Act.put _ (some 36) _=_
          simp only [Act.put,ls_,lz_,lc_,i64_w,i32_w]
          rfl
         refine pure_ (i:=7) (N:=some 37) (v:=?_) (a':=?_) #[T_,T_,T_,T_,T_,T_,T_,T_] rfl rfl (any_of HT_.out (by kernel_rfl)) (fun _ _ _ h=>h) (Or.inl ⟨by rfl,?_⟩) ?_ ?_
         rotate_left
         ·intro w'
          go_simp
          with_reducible rfl
         rotate_left
         ·simp only [Act.put,ls_,lz_,lc_,i64_w,i32_w]
          rfl
         refine done_ (done_of HT_.out (by kernel_rfl)) ?_
         try go_wp2
         have n0_:=A_ (b1_ HB.out)
         clear HB
         have HB:=n0_
         clear n0_
         have p216:0≤(x5_1:Int):=od_ (by first|(with_reducible assumption)|assumption)
         have q216:x5_1<(l0.length:Int):=od_ (by first|(with_reducible assumption)|assumption)
         obtain ⟨ad216,A216_4,c216_4,A216_5,c216_5,e216,hx216_0,hx216_1,hx216_2,hx216_3,hx216_4,hx216_5,hl216_4,hi216_4,hl216_5,hi216_5⟩:=at_T49 HR0.out x5_1 p216 q216
         have hw216_5:=hx216_5
         have hw216_4:=hx216_4
         have hw216_3:=hx216_3
         have hw216_2:=hx216_2
         have hw216_1:=hx216_1
         have hw216_0:=hx216_0
         obtain rfl:ad212=ad216:=(by injection e216)
         try (have h_:=hx216_4.symm.trans hw214_4;injection h_ with h_;injection h_ with h1_ h3_ h2_;subst h1_;subst h2_)
         try (have h_:=hx216_5.symm.trans hw214_5;injection h_ with h_;injection h_ with h1_ h3_ h2_;subst h1_;subst h2_)
         replace hx216_0:=(HB.out.cell (bl_ w _ hx216_0)).trans hx216_0
         replace hx216_1:=(HB.out.cell (bl_ w _ hx216_1)).trans hx216_1
         replace hx216_2:=(HB.out.cell (bl_ w _ hx216_2)).trans hx216_2
         replace hx216_3:=(HB.out.cell (bl_ w _ hx216_3)).trans hx216_3
         replace hx216_4:=(HB.out.cell (bl_ w _ hx216_4)).trans hx216_4
         replace hx216_5:=(HB.out.cell (bl_ w _ hx216_5)).trans hx216_5
         have HR216_4:=A_ hi216_4
         have HC216_4:=A_ hl216_4
         clear hi216_4 hl216_4
         have HR216_5:=A_ hi216_5
         have HC216_5:=A_ hl216_5
         clear hi216_5 hl216_5
         replace p216:=eq_true p216
         replace q216:=eq_true q216
         refine start_ (n:=8) (S:=fun w'=>w'.cell? (ad212.add ((x5_1).toNat * 6))=some (.int .i64 ((rd_T49 l0 x5_1).f0))∧w'.cell? ⟨(ad212.add ((x5_1).toNat * 6)).block,(ad212.add ((x5_1).toNat * 6)).off+1,none⟩=some (.int .i64 ((rd_T49 l0 x5_1).f1))∧w'.cell? ⟨(ad212.add ((x5_1).toNat * 6)).block,(ad212.add ((x5_1).toNat * 6)).off+2,none⟩=some (.string ((rd_T49 l0 x5_1).f2))∧w'.cell? ⟨(ad212.add ((x5_1).toNat * 6)).block,(ad212.add ((x5_1).toNat * 6)).off+3,none⟩=some (.string ((rd_T49 l0 x5_1).f3))∧w'.cell? ⟨(ad212.add ((x5_1).toNat * 6)).block,(ad212.add ((x5_1).toNat * 6)).off+4,none⟩=some (.slice A216_4 ((rd_T49 l0 x5_1).f4).length c216_4)∧w'.cell? ⟨(ad212.add ((x5_1).toNat * 6)).block,(ad212.add ((x5_1).toNat * 6)).off+5,none⟩=some (.slice A216_5 ((rd_T49 l0 x5_1).f5).length c216_5)) (ds:=[]) #[F_,F_,F_,F_,F_,F_,F_,F_] (by kernel_rfl) rfl rfl ⟨((HB.out.cell (bl_ w _ hw216_0)).trans hw216_0),((HB.out.cell (bl_ w _ hw216_1)).trans hw216_1),((HB.out.cell (bl_ w _ hw216_2)).trans hw216_2),((HB.out.cell (bl_ w _ hw216_3)).trans hw216_3),((HB.out.cell (bl_ w _ hw216_4)).trans hw216_4),((HB.out.cell (bl_ w _ hw216_5)).trans hw216_5)⟩ (fun hHeld=>?_);refine with_tabW laws_heldNodeS.tab13 laws_heldNodeS.bits13 (fun HT_ HW_=>?_)
         generalize w33.drew=w34 at HB HR216_4 HR216_5 hx216_0 hx216_1 hx216_2 hx216_3 hx216_4 hx216_5 hHeld ⊢
         refine pure_ (i:=0) (N:=some 40) (v:=?_) (a':=?_) #[T_,F_,F_,F_,F_,F_,F_,F_] rfl rfl (any_of HT_.out (by kernel_rfl)) (fun _ _ _ h=>h) (Or.inl ⟨by rfl,?_⟩) ?_ ?_
         rotate_left
         ·intro w'
          go_simp
          with_reducible rfl
         rotate_left
         ·simp only [Act.put,ls_,lz_,lc_,i64_w,i32_w]
          rfl
         refine pure_ (i:=1) (N:=some 41) (v:=?_) (a':=?_) #[T_,T_,F_,F_,F_,F_,F_,F_] rfl rfl (any_of HT_.out (by kernel_rfl)) (fun _ _ _ h=>h) (Or.inl ⟨by rfl,?_⟩) ?_ ?_
         rotate_left
         ·intro w'
          go_simp
          with_reducible rfl
         rotate_left
         ·simp only [Act.put,ls_,lz_,lc_,i64_w,i32_w]
          rfl
         refine pure_ (i:=2) (N:=some 42) (v:=?_) (a':=?_) #[T_,T_,T_,F_,F_,F_,F_,F_] rfl rfl (any_of HT_.out (by kernel_rfl)) (fun _ _ _ h=>h) (Or.inl ⟨by rfl,?_⟩) ?_ ?_
         rotate_left
         ·intro w'
          go_simp
          with_reducible rfl
         rotate_left
         ·simp only [Act.put,ls_,lz_,lc_,i64_w,i32_w]
          rfl
         refine pure_ (i:=3) (N:=some 43) (v:=?_) (a':=?_) #[T_,T_,T_,T_,F_,F_,F_,F_] rfl rfl (any_of HT_.out (by kernel_rfl)) (fun _ _ _ h=>h) (Or.inl ⟨by rfl,?_⟩) ?_ ?_
         rotate_left
         ·intro w'
          go_simp
          with_reducible rfl
         rotate_left
         ·simp only [Act.put,ls_,lz_,lc_,i64_w,i32_w]
          rfl
         refine pure_ (i:=5) (N:=some 45) (v:=?_) (a':=?_) #[T_,T_,T_,T_,F_,T_,F_,F_] rfl rfl (any_of HT_.out (by kernel_rfl)) (fun _ _ _ h=>h) (Or.inl ⟨by rfl,?_⟩) ?_ ?_
         rotate_left
         ·intro w'
          go_simp
          with_reducible rfl
         rotate_left
         ·simp only [Act.put,ls_,lz_,lc_,i64_w,i32_w]
          rfl
         refine take_ (i:=4) (N:=some 44) (v:=?_) (a':=?_) #[T_,T_,T_,T_,T_,T_,F_,F_] rfl rfl (take_ofW HT_.out HW_.out (by kernel_rfl)) (fun _ _ _ h=>h) (Or.inl ⟨by rfl,?_⟩) hHeld ?_ ?_
         rotate_left
         ·rintro w' ⟨s0,s1,s2,s3,s4,s5⟩
          go_simp
          with_reducible rfl
         rotate_left
         ·simp only [Act.put,ls_,lz_,lc_,i64_w,i32_w]
          rfl
         refine one_ (i:=6) (N:=some 46) #[T_,T_,T_,T_,T_,T_,T_,F_] rfl rfl (one_of HT_.out (by kernel_rfl)) (by decide) (fun K hK=>?_)
         refine goes_ Try.func30 (by kernel_rfl) rfl #[.int .i64 (wrap64 ((wrap64 ((wrap64 (x1_1+1))+1))+1))] (by rfl) rfl rfl (by (try simp only [List.map_toArray,List.map_cons,List.map_nil]);first|done|rfl|(simp only [ld_,lt_];rfl)) ?_
         with_reducible refine (laws_markText.calls k1 (wrap64 ((wrap64 ((wrap64 (x1_1+1))+1))+1)) t217 _ A9.out).mono ?_
         rintro e w35 ⟨rfl,hb⟩
         refine ⟨_,rfl,?_⟩
         have n0_:=A_ (bp_ (by repeat (first|(with_reducible first|exact HB.out|apply ba_|apply pd_|apply b1_)|exact HB.out)) hb)
         clear HB
         have HB:=n0_
         clear n0_
         (try clear hb)
         (try clear hb2)
         (try clear hk)
         (try clear hi)
         refine hK.out _ _ ⟨((HB.out.cell (bl_ w _ hw216_0)).trans hw216_0),((HB.out.cell (bl_ w _ hw216_1)).trans hw216_1),((HB.out.cell (bl_ w _ hw216_2)).trans hw216_2),((HB.out.cell (bl_ w _ hw216_3)).trans hw216_3),((HB.out.cell (bl_ w _ hw216_4)).trans hw216_4),((HB.out.cell (bl_ w _ hw216_5)).trans hw216_5)⟩ (fun hHeld=>?_)
         clear hK K
         refine norm_ (a':=?_) ?_ ?_
         rotate_left
         ·show Act.put _ (some 46) _=_
          simp only [Act.put,ls_,lz_,lc_,i64_w,i32_w]
          rfl
         refine pure_ (i:=7) (N:=some 47) (v:=?_) (a':=?_) #[T_,T_,T_,T_,T_,T_,T_,T_] rfl rfl (any_of HT_.out (by kernel_rfl)) (fun _ _ _ h=>h) (Or.inl ⟨by rfl,?_⟩) ?_ ?_
         rotate_left
         ·intro w'
          go_simp
          with_reducible rfl
         rotate_left
         ·simp only [Act.put,ls_,lz_,lc_,i64_w,i32_w]
          rfl
         refine done_ (done_of HT_.out (by kernel_rfl)) ?_
         try go_wp2
         go_ret
         exact ⟨by first|rfl|(simp [errW_none,errW_some] <;> rfl)|(simp [*,errW_none,errW_some] <;> rfl),by repeat (first|(with_reducible first|exact HB.out|apply ba_|apply pd_|apply b1_)|exact HB.out)⟩
       ·rw [if_neg c8] at H
        have c8b0:(((rd_T49 l0 x5_1).f2).toList == t215.toList)=false:=beq_eq_false_iff_ne.mpr c8
        have c8b1:(((rd_T49 l0 x5_1).f2).toList != t215.toList)=true:=bne_iff_ne.mpr c8
        obtain rfl:=oi_ H
        have p212:0≤(x5_1:Int):=od_ (by first|(with_reducible assumption)|assumption)
        have q212:x5_1<(l0.length:Int):=od_ (by first|(with_reducible assumption)|assumption)
        obtain ⟨ad212,A212_4,c212_4,A212_5,c212_5,e212,hx212_0,hx212_1,hx212_2,hx212_3,hx212_4,hx212_5,hl212_4,hi212_4,hl212_5,hi212_5⟩:=at_T49 HR0.out x5_1 p212 q212
        cases e212
        replace hx212_0:=(HB.out.cell (bl_ w _ hx212_0)).trans hx212_0
        replace hx212_1:=(HB.out.cell (bl_ w _ hx212_1)).trans hx212_1
        replace hx212_2:=(HB.out.cell (bl_ w _ hx212_2)).trans hx212_2
        replace hx212_3:=(HB.out.cell (bl_ w _ hx212_3)).trans hx212_3
        replace hx212_4:=(HB.out.cell (bl_ w _ hx212_4)).trans hx212_4
        replace hx212_5:=(HB.out.cell (bl_ w _ hx212_5)).trans hx212_5
        have HR212_4:=A_ hi212_4
        have HC212_4:=A_ hl212_4
        clear hi212_4 hl212_4
        have HR212_5:=A_ hi212_5
        have HC212_5:=A_ hl212_5
        clear hi212_5 hl212_5
        replace p212:=eq_true p212
        replace q212:=eq_true q212
        have p213:0≤(x5_1:Int):=od_ (by first|(with_reducible assumption)|assumption)
        have q213:x5_1<(l0.length:Int):=od_ (by first|(with_reducible assumption)|assumption)
        obtain ⟨ad213,A213_4,c213_4,A213_5,c213_5,e213,hx213_0,hx213_1,hx213_2,hx213_3,hx213_4,hx213_5,hl213_4,hi213_4,hl213_5,hi213_5⟩:=at_T49 HR0.out x5_1 p213 q213
        obtain rfl:ad212=ad213:=(by injection e213)
        try (have h_:=hx213_4.symm.trans hw211_4;injection h_ with h_;injection h_ with h1_ h3_ h2_;subst h1_;subst h2_)
        try (have h_:=hx213_5.symm.trans hw211_5;injection h_ with h_;injection h_ with h1_ h3_ h2_;subst h1_;subst h2_)
        replace hx213_0:=(HB.out.cell (bl_ w _ hx213_0)).trans hx213_0
        replace hx213_1:=(HB.out.cell (bl_ w _ hx213_1)).trans hx213_1
        replace hx213_2:=(HB.out.cell (bl_ w _ hx213_2)).trans hx213_2
        replace hx213_3:=(HB.out.cell (bl_ w _ hx213_3)).trans hx213_3
        replace hx213_4:=(HB.out.cell (bl_ w _ hx213_4)).trans hx213_4
        replace hx213_5:=(HB.out.cell (bl_ w _ hx213_5)).trans hx213_5
        have HR213_4:=A_ hi213_4
        have HC213_4:=A_ hl213_4
        clear hi213_4 hl213_4
        have HR213_5:=A_ hi213_5
        have HC213_5:=A_ hl213_5
        clear hi213_5 hl213_5
        replace p213:=eq_true p213
        replace q213:=eq_true q213
        have ea_:=oi_ (hx212_4.symm.trans hx213_4)
        injection ea_ with ea_ en_ ec_
        subst ea_
        subst ec_
        clear en_
        have ea_:=oi_ (hx212_5.symm.trans hx213_5)
        injection ea_ with ea_ en_ ec_
        subst ea_
        subst ec_
        clear en_
        try go_wp2
        have n0_:=A_ (b1_ HB.out)
        clear HB
        have HB:=n0_
        clear n0_
        have p214:0≤(x5_1:Int):=od_ (by first|(with_reducible assumption)|assumption)
        have q214:x5_1<(l0.length:Int):=od_ (by first|(with_reducible assumption)|assumption)
        obtain ⟨ad214,A214_4,c214_4,A214_5,c214_5,e214,hx214_0,hx214_1,hx214_2,hx214_3,hx214_4,hx214_5,hl214_4,hi214_4,hl214_5,hi214_5⟩:=at_T49 HR0.out x5_1 p214 q214
        have hw214_5:=hx214_5
        have hw214_4:=hx214_4
        have hw214_3:=hx214_3
        have hw214_2:=hx214_2
        have hw214_1:=hx214_1
        have hw214_0:=hx214_0
        obtain rfl:ad212=ad214:=(by injection e214)
        try (have h_:=hx214_4.symm.trans hw212_4;injection h_ with h_;injection h_ with h1_ h3_ h2_;subst h1_;subst h2_)
        try (have h_:=hx214_5.symm.trans hw212_5;injection h_ with h_;injection h_ with h1_ h3_ h2_;subst h1_;subst h2_)
        replace hx214_0:=(HB.out.cell (bl_ w _ hx214_0)).trans hx214_0
        replace hx214_1:=(HB.out.cell (bl_ w _ hx214_1)).trans hx214_1
        replace hx214_2:=(HB.out.cell (bl_ w _ hx214_2)).trans hx214_2
        replace hx214_3:=(HB.out.cell (bl_ w _ hx214_3)).trans hx214_3
        replace hx214_4:=(HB.out.cell (bl_ w _ hx214_4)).trans hx214_4
        replace hx214_5:=(HB.out.cell (bl_ w _ hx214_5)).trans hx214_5
        have HR214_4:=A_ hi214_4
        have HC214_4:=A_ hl214_4
        clear hi214_4 hl214_4
        have HR214_5:=A_ hi214_5
        have HC214_5:=A_ hl214_5
        clear hi214_5 hl214_5
        replace p214:=eq_true p214
        replace q214:=eq_true q214
        refine start_ (n:=8) (S:=fun w'=>w'.cell? (ad212.add ((x5_1).toNat * 6))=some (.int .i64 ((rd_T49 l0 x5_1).f0))∧w'.cell? ⟨(ad212.add ((x5_1).toNat * 6)).block,(ad212.add ((x5_1).toNat * 6)).off+1,none⟩=some (.int .i64 ((rd_T49 l0 x5_1).f1))∧w'.cell? ⟨(ad212.add ((x5_1).toNat * 6)).block,(ad212.add ((x5_1).toNat * 6)).off+2,none⟩=some (.string ((rd_T49 l0 x5_1).f2))∧w'.cell? ⟨(ad212.add ((x5_1).toNat * 6)).block,(ad212.add ((x5_1).toNat * 6)).off+3,none⟩=some (.string ((rd_T49 l0 x5_1).f3))∧w'.cell? ⟨(ad212.add ((x5_1).toNat * 6)).block,(ad212.add ((x5_1).toNat * 6)).off+4,none⟩=some (.slice A214_4 ((rd_T49 l0 x5_1).f4).length c214_4)∧w'.cell? ⟨(ad212.add ((x5_1).toNat * 6)).block,(ad212.add ((x5_1).toNat * 6)).off+5,none⟩=some (.slice A214_5 ((rd_T49 l0 x5_1).f5).length c214_5)) (ds:=[]) #[F_,F_,F_,F_,F_,F_,F_,F_] (by kernel_rfl) rfl rfl ⟨((HB.out.cell (bl_ w _ hw214_0)).trans hw214_0),((HB.out.cell (bl_ w _ hw214_1)).trans hw214_1),((HB.out.cell (bl_ w _ hw214_2)).trans hw214_2),((HB.out.cell (bl_ w _ hw214_3)).trans hw214_3),((HB.out.cell (bl_ w _ hw214_4)).trans hw214_4),((HB.out.cell (bl_ w _ hw214_5)).trans hw214_5)⟩ (fun hHeld=>?_);refine with_tabW laws_heldNodeS.tab10 laws_heldNodeS.bits10 (fun HT_ HW_=>?_)
        generalize wr.drew=w36 at HB HR214_4 HR214_5 hx214_0 hx214_1 hx214_2 hx214_3 hx214_4 hx214_5 hHeld ⊢
        refine pure_ (i:=0) (N:=some 30) (v:=?_) (a':=?_) #[T_,F_,F_,F_,F_,F_,F_,F_] rfl rfl (any_of HT_.out (by kernel_rfl)) (fun _ _ _ h=>h) (Or.inl ⟨by rfl,?_⟩) ?_ ?_
        rotate_left
        ·intro w'
         go_simp
         with_reducible rfl
        rotate_left
        ·simp only [Act.put,ls_,lz_,lc_,i64_w,i32_w]
         rfl
        refine pure_ (i:=1) (N:=some 31) (v:=?_) (a':=?_) #[T_,T_,F_,F_,F_,F_,F_,F_] rfl rfl (any_of HT_.out (by kernel_rfl)) (fun _ _ _ h=>h) (Or.inl ⟨by rfl,?_⟩) ?_ ?_
        rotate_left
        ·intro w'
         go_simp
         with_reducible rfl
        rotate_left
        ·simp only [Act.put,ls_,lz_,lc_,i64_w,i32_w]
         rfl
        refine pure_ (i:=2) (N:=some 32) (v:=?_) (a':=?_) #[T_,T_,T_,F_,F_,F_,F_,F_] rfl rfl (any_of HT_.out (by kernel_rfl)) (fun _ _ _ h=>h) (Or.inl ⟨by rfl,?_⟩) ?_ ?_
        rotate_left
        ·intro w'
         go_simp
         with_reducible rfl
        rotate_left
        ·simp only [Act.put,ls_,lz_,lc_,i64_w,i32_w]
         rfl
        refine pure_ (i:=3) (N:=some 33) (v:=?_) (a':=?_) #[T_,T_,T_,T_,F_,F_,F_,F_] rfl rfl (any_of HT_.out (by kernel_rfl)) (fun _ _ _ h=>h) (Or.inl ⟨by rfl,?_⟩) ?_ ?_
        rotate_left
        ·intro w'
         go_simp
         with_reducible rfl
        rotate_left
        ·simp only [Act.put,ls_,lz_,lc_,i64_w,i32_w]
         rfl
        refine pure_ (i:=5) (N:=some 35) (v:=?_) (a':=?_) #[T_,T_,T_,T_,F_,T_,F_,F_] rfl rfl (any_of HT_.out (by kernel_rfl)) (fun _ _ _ h=>h) (Or.inl ⟨by rfl,?_⟩) ?_ ?_
        rotate_left
        ·intro w'
         go_simp
         with_reducible rfl
        rotate_left
        ·simp only [Act.put,ls_,lz_,lc_,i64_w,i32_w]
         rfl
        refine take_ (i:=4) (N:=some 34) (v:=?_) (a':=?_) #[T_,T_,T_,T_,T_,T_,F_,F_] rfl rfl (take_ofW HT_.out HW_.out (by kernel_rfl)) (fun _ _ _ h=>h) (Or.inl ⟨by rfl,?_⟩) hHeld ?_ ?_
        rotate_left
        ·rintro w' ⟨s0,s1,s2,s3,s4,s5⟩
         go_simp
         with_reducible rfl
        rotate_left
        ·simp only [Act.put,ls_,lz_,lc_,i64_w,i32_w]
         rfl
        refine one_ (i:=6) (N:=some 36) #[T_,T_,T_,T_,T_,T_,T_,F_] rfl rfl (one_of HT_.out (by kernel_rfl)) (by decide) (fun K hK=>?_)
        refine goes_ Try.func30 (by kernel_rfl) rfl #[.int .i64 (wrap64 ((wrap64 (x1_1+1))+1))] (by rfl) rfl rfl (by (try simp only [List.map_toArray,List.map_cons,List.map_nil]);first|done|rfl|(simp only [ld_,lt_];rfl)) ?_
        with_reducible refine (laws_markText.calls k1 (wrap64 ((wrap64 (x1_1+1))+1)) t215 _ A7.out).mono ?_
        rintro e w37 ⟨rfl,hb⟩
        refine ⟨_,rfl,?_⟩
        have n0_:=A_ (bp_ (by repeat (first|(with_reducible first|exact HB.out|apply ba_|apply pd_|apply b1_)|exact HB.out)) hb)
        clear HB
        have HB:=n0_
        clear n0_
        (try clear hb)
        (try clear hb2)
        (try clear hk)
        (try clear hi)
        refine hK.out _ _ ⟨((HB.out.cell (bl_ w _ hw214_0)).trans hw214_0),((HB.out.cell (bl_ w _ hw214_1)).trans hw214_1),((HB.out.cell (bl_ w _ hw214_2)).trans hw214_2),((HB.out.cell (bl_ w _ hw214_3)).trans hw214_3),((HB.out.cell (bl_ w _ hw214_4)).trans hw214_4),((HB.out.cell (bl_ w _ hw214_5)).trans hw214_5)⟩ (fun hHeld=>?_)
        clear hK K
        refine norm_ (a':=?_) ?_ ?_
        rotate_left
        ·show Act.put _ (some 36) _=_
         simp only [Act.put,ls_,lz_,lc_,i64_w,i32_w]
         rfl
        refine pure_ (i:=7) (N:=some 37) (v:=?_) (a':=?_) #[T_,T_,T_,T_,T_,T_,T_,T_] rfl rfl (any_of HT_.out (by kernel_rfl)) (fun _ _ _ h=>h) (Or.inl ⟨by rfl,?_⟩) ?_ ?_
        rotate_left
        ·intro w'
         go_simp
         with_reducible rfl
        rotate_left
        ·simp only [Act.put,ls_,lz_,lc_,i64_w,i32_w]
         rfl
        refine done_ (done_of HT_.out (by kernel_rfl)) ?_
        try go_wp2
        go_ret
        exact ⟨by first|rfl|(simp [errW_none,errW_some] <;> rfl)|(simp [*,errW_none,errW_some] <;> rfl),by repeat (first|(with_reducible first|exact HB.out|apply ba_|apply pd_|apply b1_)|exact HB.out)⟩
      ·rw [if_neg c6] at H
       have c6b0:(((rd_T49 l0 x5_1).f1) == (wrap64 (x1_1+1)))=false:=beq_eq_false_iff_ne.mpr c6
       have c6b1:(((rd_T49 l0 x5_1).f1) != (wrap64 (x1_1+1)))=true:=bne_iff_ne.mpr c6
       obtain rfl:=oi_ H
       have p212:0≤(x5_1:Int):=od_ (by first|(with_reducible assumption)|assumption)
       have q212:x5_1<(l0.length:Int):=od_ (by first|(with_reducible assumption)|assumption)
       obtain ⟨ad212,A212_4,c212_4,A212_5,c212_5,e212,hx212_0,hx212_1,hx212_2,hx212_3,hx212_4,hx212_5,hl212_4,hi212_4,hl212_5,hi212_5⟩:=at_T49 HR0.out x5_1 p212 q212
       cases e212
       replace hx212_0:=(HB.out.cell (bl_ w _ hx212_0)).trans hx212_0
       replace hx212_1:=(HB.out.cell (bl_ w _ hx212_1)).trans hx212_1
       replace hx212_2:=(HB.out.cell (bl_ w _ hx212_2)).trans hx212_2
       replace hx212_3:=(HB.out.cell (bl_ w _ hx212_3)).trans hx212_3
       replace hx212_4:=(HB.out.cell (bl_ w _ hx212_4)).trans hx212_4
       replace hx212_5:=(HB.out.cell (bl_ w _ hx212_5)).trans hx212_5
       have HR212_4:=A_ hi212_4
       have HC212_4:=A_ hl212_4
       clear hi212_4 hl212_4
       have HR212_5:=A_ hi212_5
       have HC212_5:=A_ hl212_5
       clear hi212_5 hl212_5
       replace p212:=eq_true p212
       replace q212:=eq_true q212
       have p213:0≤(x5_1:Int):=od_ (by first|(with_reducible assumption)|assumption)
       have q213:x5_1<(l0.length:Int):=od_ (by first|(with_reducible assumption)|assumption)
       obtain ⟨ad213,A213_4,c213_4,A213_5,c213_5,e213,hx213_0,hx213_1,hx213_2,hx213_3,hx213_4,hx213_5,hl213_4,hi213_4,hl213_5,hi213_5⟩:=at_T49 HR0.out x5_1 p213 q213
       obtain rfl:ad212=ad213:=(by injection e213)
       try (have h_:=hx213_4.symm.trans hw211_4;injection h_ with h_;injection h_ with h1_ h3_ h2_;subst h1_;subst h2_)
       try (have h_:=hx213_5.symm.trans hw211_5;injection h_ with h_;injection h_ with h1_ h3_ h2_;subst h1_;subst h2_)
       replace hx213_0:=(HB.out.cell (bl_ w _ hx213_0)).trans hx213_0
       replace hx213_1:=(HB.out.cell (bl_ w _ hx213_1)).trans hx213_1
       replace hx213_2:=(HB.out.cell (bl_ w _ hx213_2)).trans hx213_2
       replace hx213_3:=(HB.out.cell (bl_ w _ hx213_3)).trans hx213_3
       replace hx213_4:=(HB.out.cell (bl_ w _ hx213_4)).trans hx213_4
       replace hx213_5:=(HB.out.cell (bl_ w _ hx213_5)).trans hx213_5
       have HR213_4:=A_ hi213_4
       have HC213_4:=A_ hl213_4
       clear hi213_4 hl213_4
       have HR213_5:=A_ hi213_5
       have HC213_5:=A_ hl213_5
       clear hi213_5 hl213_5
       replace p213:=eq_true p213
       replace q213:=eq_true q213
       have ea_:=oi_ (hx212_4.symm.trans hx213_4)
       injection ea_ with ea_ en_ ec_
       subst ea_
       subst ec_
       clear en_
       have ea_:=oi_ (hx212_5.symm.trans hx213_5)
       injection ea_ with ea_ en_ ec_
       subst ea_
       subst ec_
       clear en_
       go_wp2
       go_ret
       exact ⟨by first|rfl|(simp [errW_none,errW_some] <;> rfl)|(simp [*,errW_none,errW_some] <;> rfl),by repeat (first|(with_reducible first|exact HB.out|apply ba_|apply pd_|apply b1_)|exact HB.out)⟩
     ·rw [if_neg c5] at H
      have c5b0:(((rd_T49 l0 x5_1).f0) == x1_1)=false:=beq_eq_false_iff_ne.mpr c5
      have c5b1:(((rd_T49 l0 x5_1).f0) != x1_1)=true:=bne_iff_ne.mpr c5
      obtain rfl:=oi_ H
      have p212:0≤(x5_1:Int):=od_ (by first|(with_reducible assumption)|assumption)
      have q212:x5_1<(l0.length:Int):=od_ (by first|(with_reducible assumption)|assumption)
      obtain ⟨ad212,A212_4,c212_4,A212_5,c212_5,e212,hx212_0,hx212_1,hx212_2,hx212_3,hx212_4,hx212_5,hl212_4,hi212_4,hl212_5,hi212_5⟩:=at_T49 HR0.out x5_1 p212 q212
      cases e212
      replace hx212_0:=(HB.out.cell (bl_ w _ hx212_0)).trans hx212_0
      replace hx212_1:=(HB.out.cell (bl_ w _ hx212_1)).trans hx212_1
      replace hx212_2:=(HB.out.cell (bl_ w _ hx212_2)).trans hx212_2
      replace hx212_3:=(HB.out.cell (bl_ w _ hx212_3)).trans hx212_3
      replace hx212_4:=(HB.out.cell (bl_ w _ hx212_4)).trans hx212_4
      replace hx212_5:=(HB.out.cell (bl_ w _ hx212_5)).trans hx212_5
      have HR212_4:=A_ hi212_4
      have HC212_4:=A_ hl212_4
      clear hi212_4 hl212_4
      have HR212_5:=A_ hi212_5
      have HC212_5:=A_ hl212_5
      clear hi212_5 hl212_5
      replace p212:=eq_true p212
      replace q212:=eq_true q212
      go_wp2
      go_ret
      exact ⟨by first|rfl|(simp [errW_none,errW_some] <;> rfl)|(simp [*,errW_none,errW_some] <;> rfl),by repeat (first|(with_reducible first|exact HB.out|apply ba_|apply pd_|apply b1_)|exact HB.out)⟩
    ·rw [if_neg c4] at H
     exact absurd H (by simp)
   ·rw [if_neg c3] at H
    have c3b0:decide (x5_1<(l0.length:Int))=false:=df_ c3
    clear c3
    obtain rfl:=oi_ H
    go_wp2
    go_ret
    exact ⟨by first|rfl|(simp [errW_none,errW_some] <;> rfl)|(simp [*,errW_none,errW_some] <;> rfl),by repeat (first|(with_reducible first|exact HB.out|apply ba_|apply pd_|apply b1_)|exact HB.out)⟩
end Go.Proofs.Ytlhhcbhmnmndiaa.PFnExactMergeText
