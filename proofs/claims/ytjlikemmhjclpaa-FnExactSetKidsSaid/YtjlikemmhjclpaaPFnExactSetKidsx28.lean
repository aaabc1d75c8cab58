/- By a program of this session, out of the kit's print and contracts made by hand: the machine side of a law; Lean checks it. No conditions. -/
import Derived.Test.YtjlikemmhjclpaaPFnExactSetKidsx0
import Derived.Test.YtjlikemmhjclpaaPFnExactSetKidsx13
import Derived.Test.YtjlikemmhjclpaaPFnExactSetKidsx27
namespace Go.Proofs.Ytjlikemmhjclpaa.PFnExactSetKids
open Go.RowKit Go.Proofs.YtjlikemmhjclpaaW.PrintWords Go.Proofs.YtjlikemmhjclpaaW.PrintLast Go.Proofs.YtjlikemmhjclpaaW.PrintMore
attribute [local go_sem] max2_int min2_int max_two min_two max_three min_three max_four min_four
set_option linter.unusedVariables false
set_option linter.unusedSimpArgs false
/-! ### laws_heldNodeS: function 14 -/
mutual
def laws_heldNodeS.l0:Nat→List (S44)→Int→Int→Option (Int)
 | 0,_,_,_=>none
 | k+1,x0,x1,x5=>if x5<(x0.length:Int) then (if 0≤x5 then (if ((rd_T44 x0 x5).f0)=x1 then (if ((rd_T44 x0 x5).f1)=(wrap64 (x1+1)) then ((laws_markText.f k (wrap64 ((wrap64 (x1+1))+1))).bind fun t307=>(if ((rd_T44 x0 x5).f2).toList=t307.toList then ((laws_markText.f k (wrap64 ((wrap64 ((wrap64 (x1+1))+1))+1))).bind fun t309=>(if ((rd_T44 x0 x5).f3).toList=t309.toList then ((laws_heldAttrS.f k ((rd_T44 x0 x5).f4) (wrap64 ((wrap64 ((wrap64 ((wrap64 (x1+1))+1))+1))+1))).bind fun t311=>(if t311<0 then (some (-1)) else ((laws_heldNodeS.f k ((rd_T44 x0 x5).f5) t311).bind fun t313=>(if t313<0 then (some (-1)) else (laws_heldNodeS.l0 k x0 t313 (wrap64 (x5+1))))))) else (some (-1)))) else (some (-1)))) else (some (-1))) else (some (-1))) else (none)) else (some x1)
def laws_heldNodeS.f:Nat→List (S44)→Int→Option (Int)
 | 0,_,_=>none
 | k+1,l0,a1=>laws_heldNodeS.l0 k l0 a1 0
end
theorem laws_heldNodeS.mono_l:∀ k,(∀ y0 y1,LeO (laws_heldNodeS.f k y0 y1) (laws_heldNodeS.f (k+1) y0 y1))∧(∀ y0 y1 y2,LeO (laws_heldNodeS.l0 k y0 y1 y2) (laws_heldNodeS.l0 (k+1) y0 y1 y2))
 | 0=>⟨fun _ _ r h=>by simp [laws_heldNodeS.f] at h,fun _ _ _ r h=>by simp [laws_heldNodeS.l0] at h⟩
 | k+1=>by
  obtain ⟨ih0,ih1⟩:=laws_heldNodeS.mono_l k
  refine ⟨?_,?_⟩
  ·intro y0 y1
   unfold laws_heldNodeS.f
   repeat' first
   | (with_reducible exact ih0 _ _)
   | (with_reducible exact ih1 _ _ _)
   | (with_reducible exact laws_heldAttrS.mono _ _ _)
   | (with_reducible exact laws_markText.mono _ _)
   | (with_reducible exact LeO.refl _)
   | (with_reducible exact LeO.none _)
   | (with_reducible refine LeO.ite ?_ ?_)
   | (with_reducible refine LeO.bind ?_ (fun _=>?_))
   | exact ih0 _ _
   | exact ih1 _ _ _
   | exact laws_heldAttrS.mono _ _ _
   | exact laws_markText.mono _ _
   | exact LeO.none _
   | refine LeO.ite ?_ ?_
   | refine LeO.bind ?_ (fun _=>?_)
  ·intro y0 y1 y2
   unfold laws_heldNodeS.l0
   repeat' first
   | (with_reducible exact ih0 _ _)
   | (with_reducible exact ih1 _ _ _)
   | (with_reducible exact laws_heldAttrS.mono _ _ _)
   | (with_reducible exact laws_markText.mono _ _)
   | (with_reducible exact LeO.refl _)
   | (with_reducible exact LeO.none _)
   | (with_reducible refine LeO.ite ?_ ?_)
   | (with_reducible refine LeO.bind ?_ (fun _=>?_))
   | exact ih0 _ _
   | exact ih1 _ _ _
   | exact laws_heldAttrS.mono _ _ _
   | exact laws_markText.mono _ _
   | exact LeO.none _
   | refine LeO.ite ?_ ?_
   | refine LeO.bind ?_ (fun _=>?_)
theorem laws_heldNodeS.mono:∀ a0 a1 k,LeO (laws_heldNodeS.f k a0 a1) (laws_heldNodeS.f (k+1) a0 a1):=by
 intro a0 a1 k
 obtain ⟨ih0,ih1⟩:=laws_heldNodeS.mono_l k
 exact ih0 a0 a1
def laws_heldNodeS.T10:Bool × List (List Nat × List Nat):=(true,[([],[]),([],[]),([0,1],[0,1]),([2],[2]),([3],[3]),([],[]),([5],[5]),([4,6],[4,6])])
def laws_heldNodeS.B10:List Nat:=[0,0,3,7,15,0,32,127]
theorem laws_heldNodeS.tab10:rtab .any (opsOf Try.f14 10)=laws_heldNodeS.T10:=by kernel_rfl
theorem laws_heldNodeS.bits10:waitsOk laws_heldNodeS.T10.2 laws_heldNodeS.B10=true:=by kernel_rfl
def laws_heldNodeS.T13:Bool × List (List Nat × List Nat):=(true,[([],[]),([],[]),([0,1],[0,1]),([2],[2]),([3],[3]),([],[]),([5],[5]),([4,6],[4,6])])
def laws_heldNodeS.B13:List Nat:=[0,0,3,7,15,0,32,127]
theorem laws_heldNodeS.tab13:rtab .any (opsOf Try.f14 13)=laws_heldNodeS.T13:=by kernel_rfl
theorem laws_heldNodeS.bits13:waitsOk laws_heldNodeS.T13.2 laws_heldNodeS.B13=true:=by kernel_rfl
set_option maxHeartbeats 8000000 in
set_option maxRecDepth 100000 in
theorem laws_heldNodeS.calls (k:Nat):∀ (A0:Option Addr) (c0:Nat) (l0:List (S44)) (a1:Int) (r:Int) (w:World) (hr0:Kd.C k44 w A0 l0.length l0) (hc0:l0.length≤c0) (h:laws_heldNodeS.f k l0 a1=some r),
 Calls Try.prog 14 #[.slice A0 l0.length c0,.int .i64 a1] w fun e w'=>e=.returned (.int .i64 r)∧Below w.heap.size w w':=by
 induction k using Nat.strongRecOn with
 | _ k ih =>
 intro A0 c0 l0 a1 r w hr0 hc0 h
 cases k with
 | zero=>exact absurd h (by simp [laws_heldNodeS.f])
 | succ k =>
 simp only [laws_heldNodeS.f] at h
 have HR0:=A_ hr0
 have HC0:=A_ hc0
 clear hr0 hc0
 have HB:=A_ (Below.refl w.heap.size w)
 have H:(laws_heldNodeS.l0 k l0 a1 0)=some r:=h
 clear h
 have H':=A_ H
 clear H
 go_enter Try.func14,Try.ntmps14
 go_wp2
 go_loopg [1,5] k (fun kq v1 v5 w'=>∃ (x1_1:Int) (x5_1:Int),v1=.int .i64 x1_1∧v5=.int .i64 x5_1∧Aside0 (laws_heldNodeS.l0 kq l0 x1_1 x5_1=some r)∧Aside0 (kq≤k)∧Aside0 (Below w.heap.size w w'))
 case atStart=>exact ⟨(a1),(0),(by first|rfl|(simp;done)|(simp [*];done)),(by first|rfl|(simp;done)|(simp [*];done)),H',⟨Nat.le_refl _⟩,⟨by repeat (first|(with_reducible first|exact HB.out|apply ba_|apply pd_|apply b1_)|exact HB.out)⟩⟩
 case round =>
  clear H'
  try clear c1
  try clear p2
  obtain ⟨x1_1,x5_1,rfl,rfl,HA,HK1,HB⟩:=hrel
  cases gk with
  | zero=>exact absurd HA.out (by simp [laws_heldNodeS.l0])
  | succ k1 =>
   have H:=HA.out
   clear HA
   simp only [laws_heldNodeS.l0] at H
   by_cases c3:x5_1<(l0.length:Int)
   ·rw [if_pos c3] at H
    have c3b0:decide (x5_1<(l0.length:Int))=true:=dt_ c3
    clear c3
    by_cases c4:0≤x5_1
    ·rw [if_pos c4] at H
     have c4b0:decide (0≤x5_1)=true:=dt_ c4
     clear c4
     by_cases c5:((rd_T44 l0 x5_1).f0)=x1_1
     ·rw [if_pos c5] at H
      have c5b0:(((rd_T44 l0 x5_1).f0) == x1_1)=true:=beq_iff_eq.mpr c5
      have c5b1:(((rd_T44 l0 x5_1).f0) != x1_1)=false:=bne_eq_false_iff_eq.mpr c5
      clear c5
      by_cases c6:((rd_T44 l0 x5_1).f1)=(wrap64 (x1_1+1))
      ·rw [if_pos c6] at H
       have c6b0:(((rd_T44 l0 x5_1).f1) == (wrap64 (x1_1+1)))=true:=beq_iff_eq.mpr c6
       have c6b1:(((rd_T44 l0 x5_1).f1) != (wrap64 (x1_1+1)))=false:=bne_eq_false_iff_eq.mpr c6
       clear c6
       replace H:=ob_ H
       obtain ⟨t307,A70,H⟩:=H
       replace H:(if ((rd_T44 l0 x5_1).f2).toList=t307.toList then ((laws_markText.f k1 (wrap64 ((wrap64 ((wrap64 (x1_1+1))+1))+1))).bind fun t309=>(if ((rd_T44 l0 x5_1).f3).toList=t309.toList then ((laws_heldAttrS.f k1 ((rd_T44 l0 x5_1).f4) (wrap64 ((wrap64 ((wrap64 ((wrap64 (x1_1+1))+1))+1))+1))).bind fun t311=>(if t311<0 then (some (-1)) else ((laws_heldNodeS.f k1 ((rd_T44 l0 x5_1).f5) t311).bind fun t313=>(if t313<0 then (some (-1)) else (laws_heldNodeS.l0 k1 l0 t313 (wrap64 (x5_1+1))))))) else (some (-1)))) else (some (-1)))=some r:=H
       have A7:=A_ A70
       clear A70
       by_cases c8:((rd_T44 l0 x5_1).f2).toList=t307.toList
       ·rw [if_pos c8] at H
        have c8b0:(((rd_T44 l0 x5_1).f2).toList == t307.toList)=true:=beq_iff_eq.mpr c8
        have c8b1:(((rd_T44 l0 x5_1).f2).toList != t307.toList)=false:=bne_eq_false_iff_eq.mpr c8
        clear c8
        replace H:=ob_ H
        obtain ⟨t309,A90,H⟩:=H
        replace H:(if ((rd_T44 l0 x5_1).f3).toList=t309.toList then ((laws_heldAttrS.f k1 ((rd_T44 l0 x5_1).f4) (wrap64 ((wrap64 ((wrap64 ((wrap64 (x1_1+1))+1))+1))+1))).bind fun t311=>(if t311<0 then (some (-1)) else ((laws_heldNodeS.f k1 ((rd_T44 l0 x5_1).f5) t311).bind fun t313=>(if t313<0 then (some (-1)) else (laws_heldNodeS.l0 k1 l0 t313 (wrap64 (x5_1+1))))))) else (some (-1)))=some r:=H
        have A9:=A_ A90
        clear A90
        by_cases c10:((rd_T44 l0 x5_1).f3).toList=t309.toList
        ·rw [if_pos c10] at H
         have c10b0:(((rd_T44 l0 x5_1).f3).toList == t309.toList)=true:=beq_iff_eq.mpr c10
         have c10b1:(((rd_T44 l0 x5_1).f3).toList != t309.toList)=false:=bne_eq_false_iff_eq.mpr c10
         clear c10
         replace H:=ob_ H
         obtain ⟨t311,A110,H⟩:=H
         replace H:(if t311<0 then (some (-1)) else ((laws_heldNodeS.f k1 ((rd_T44 l0 x5_1).f5) t311).bind fun t313=>(if t313<0 then (some (-1)) else (laws_heldNodeS.l0 k1 l0 t313 (wrap64 (x5_1+1))))))=some r:=H
         have A11:=A_ A110
         clear A110
         by_cases c12:t311<0
         ·rw [if_pos c12] at H
          have c12b0:decide (t311<0)=true:=dt_ c12
          clear c12
          obtain rfl:=oi_ H
          have p304:0≤(x5_1:Int):=od_ (by first|(with_reducible assumption)|assumption)
          have q304:x5_1<(l0.length:Int):=od_ (by first|(with_reducible assumption)|assumption)
          obtain ⟨ad304,A304_4,c304_4,A304_5,c304_5,e304,hx304_0,hx304_1,hx304_2,hx304_3,hx304_4,hx304_5,hl304_4,hi304_4,hl304_5,hi304_5⟩:=at_T44 HR0.out x5_1 p304 q304
          cases e304
          replace hx304_0:=(HB.out.cell (bl_ w _ hx304_0)).trans hx304_0
          replace hx304_1:=(HB.out.cell (bl_ w _ hx304_1)).trans hx304_1
          replace hx304_2:=(HB.out.cell (bl_ w _ hx304_2)).trans hx304_2
          replace hx304_3:=(HB.out.cell (bl_ w _ hx304_3)).trans hx304_3
          replace hx304_4:=(HB.out.cell (bl_ w _ hx304_4)).trans hx304_4
          replace hx304_5:=(HB.out.cell (bl_ w _ hx304_5)).trans hx304_5
          have HR304_4:=A_ hi304_4
          have HC304_4:=A_ hl304_4
          clear hi304_4 hl304_4
          have HR304_5:=A_ hi304_5
          have HC304_5:=A_ hl304_5
          clear hi304_5 hl304_5
          replace p304:=eq_true p304
          replace q304:=eq_true q304
          have p305:0≤(x5_1:Int):=od_ (by first|(with_reducible assumption)|assumption)
          have q305:x5_1<(l0.length:Int):=od_ (by first|(with_reducible assumption)|assumption)
          obtain ⟨ad305,A305_4,c305_4,A305_5,c305_5,e305,hx305_0,hx305_1,hx305_2,hx305_3,hx305_4,hx305_5,hl305_4,hi305_4,hl305_5,hi305_5⟩:=at_T44 HR0.out x5_1 p305 q305
          obtain rfl:ad304=ad305:=(by injection e305)
          try (have h_:=hx305_4.symm.trans hw303_4;injection h_ with h_;injection h_ with h1_ h3_ h2_;subst h1_;subst h2_)
          try (have h_:=hx305_5.symm.trans hw303_5;injection h_ with h_;injection h_ with h1_ h3_ h2_;subst h1_;subst h2_)
          replace hx305_0:=(HB.out.cell (bl_ w _ hx305_0)).trans hx305_0
          replace hx305_1:=(HB.out.cell (bl_ w _ hx305_1)).trans hx305_1
          replace hx305_2:=(HB.out.cell (bl_ w _ hx305_2)).trans hx305_2
          replace hx305_3:=(HB.out.cell (bl_ w _ hx305_3)).trans hx305_3
          replace hx305_4:=(HB.out.cell (bl_ w _ hx305_4)).trans hx305_4
          replace hx305_5:=(HB.out.cell (bl_ w _ hx305_5)).trans hx305_5
          have HR305_4:=A_ hi305_4
          have HC305_4:=A_ hl305_4
          clear hi305_4 hl305_4
          have HR305_5:=A_ hi305_5
          have HC305_5:=A_ hl305_5
          clear hi305_5 hl305_5
          replace p305:=eq_true p305
          replace q305:=eq_true q305
          have ea_:=oi_ (hx304_4.symm.trans hx305_4)
          injection ea_ with ea_ en_ ec_
          subst ea_
          subst ec_
          clear en_
          have ea_:=oi_ (hx304_5.symm.trans hx305_5)
          injection ea_ with ea_ en_ ec_
          subst ea_
          subst ec_
          clear en_
          try go_wp2
          have n0_:=A_ (b1_ HB.out)
          clear HB
          have HB:=n0_
          clear n0_
          have p306:0≤(x5_1:Int):=od_ (by first|(with_reducible assumption)|assumption)
          have q306:x5_1<(l0.length:Int):=od_ (by first|(with_reducible assumption)|assumption)
          obtain ⟨ad306,A306_4,c306_4,A306_5,c306_5,e306,hx306_0,hx306_1,hx306_2,hx306_3,hx306_4,hx306_5,hl306_4,hi306_4,hl306_5,hi306_5⟩:=at_T44 HR0.out x5_1 p306 q306
          have hw306_5:=hx306_5
          have hw306_4:=hx306_4
          have hw306_3:=hx306_3
          have hw306_2:=hx306_2
          have hw306_1:=hx306_1
          have hw306_0:=hx306_0
          obtain rfl:ad304=ad306:=(by injection e306)
          try (have h_:=hx306_4.symm.trans hw304_4;injection h_ with h_;injection h_ with h1_ h3_ h2_;subst h1_;subst h2_)
          try (have h_:=hx306_5.symm.trans hw304_5;injection h_ with h_;injection h_ with h1_ h3_ h2_;subst h1_;subst h2_)
          replace hx306_0:=(HB.out.cell (bl_ w _ hx306_0)).trans hx306_0
          replace hx306_1:=(HB.out.cell (bl_ w _ hx306_1)).trans hx306_1
          replace hx306_2:=(HB.out.cell (bl_ w _ hx306_2)).trans hx306_2
          replace hx306_3:=(HB.out.cell (bl_ w _ hx306_3)).trans hx306_3
          replace hx306_4:=(HB.out.cell (bl_ w _ hx306_4)).trans hx306_4
          replace hx306_5:=(HB.out.cell (bl_ w _ hx306_5)).trans hx306_5
          have HR306_4:=A_ hi306_4
          have HC306_4:=A_ hl306_4
          clear hi306_4 hl306_4
          have HR306_5:=A_ hi306_5
          have HC306_5:=A_ hl306_5
          clear hi306_5 hl306_5
          replace p306:=eq_true p306
          replace q306:=eq_true q306
          refine start_ (n:=8) (S:=fun w'=>w'.cell? (ad304.add ((x5_1).toNat * 6))=some (.int .i64 ((rd_T44 l0 x5_1).f0))∧w'.cell? ⟨(ad304.add ((x5_1).toNat * 6)).block,(ad304.add ((x5_1).toNat * 6)).off+1,none⟩=some (.int .i64 ((rd_T44 l0 x5_1).f1))∧w'.cell? ⟨(ad304.add ((x5_1).toNat * 6)).block,(ad304.add ((x5_1).toNat * 6)).off+2,none⟩=some (.string ((rd_T44 l0 x5_1).f2))∧w'.cell? ⟨(ad304.add ((x5_1).toNat * 6)).block,(ad304.add ((x5_1).toNat * 6)).off+3,none⟩=some (.string ((rd_T44 l0 x5_1).f3))∧w'.cell? ⟨(ad304.add ((x5_1).toNat * 6)).block,(ad304.add ((x5_1).toNat * 6)).off+4,none⟩=some (.slice A306_4 ((rd_T44 l0 x5_1).f4).length c306_4)∧w'.cell? ⟨(ad304.add ((x5_1).toNat * 6)).block,(ad304.add ((x5_1).toNat * 6)).off+5,none⟩=some (.slice A306_5 ((rd_T44 l0 x5_1).f5).length c306_5)) (ds:=[]) #[F_,F_,F_,F_,F_,F_,F_,F_] (by kernel_rfl) rfl rfl ⟨((HB.out.cell (bl_ w _ hw306_0)).trans hw306_0),((HB.out.cell (bl_ w _ hw306_1)).trans hw306_1),((HB.out.cell (bl_ w _ hw306_2)).trans hw306_2),((HB.out.cell (bl_ w _ hw306_3)).trans hw306_3),((HB.out.cell (bl_ w _ hw306_4)).trans hw306_4),((HB.out.cell (bl_ w _ hw306_5)).trans hw306_5)⟩ (fun hHeld=>?_);refine with_tabW laws_heldNodeS.tab10 laws_heldNodeS.bits10 (fun HT_ HW_=>?_)
          generalize wr.drew=w13 at HB HR306_4 HR306_5 hx306_0 hx306_1 hx306_2 hx306_3 hx306_4 hx306_5 hHeld ⊢
          refine pure_ (i:=0) (N:=some 30) (v:=?_) (a':=?_) #[T_,F_,F_,F_,F_,F_,F_,F_] rfl rfl (any_of HT_.out (by kernel_rfl)) (fun _ _ _ h=>h) (Or.inl ⟨by rfl,?_⟩) ?_ ?_
          rotate_left
          ·intro w'
           go_simp
           with_reducible rfl
          rotate_left
          ·simp only [Act.put,ls_,lz_,lc_,i64_w,i32_w]
           rfl
          refine pure_ (i:=1) (N:=some 31) (v:=?_) (a':=?_) #[T_,T_,F_,F_,F_,F_,F_,F_] rfl rfl (any_of HT_.out (by kernel_rfl)) (fun _ _ _ h=>h) (Or.inl ⟨by rfl,?_⟩) ?_ ?_
          rotate_left
          ·intro w'
           go_simp
           with_reducible rfl
          rotate_left
          ·simp only [Act.put,ls_,lz_,lc_,i64_w,i32_w]
           rfl
          refine pure_ (i:=2) (N:=some 32) (v:=?_) (a':=?_) #[T_,T_,T_,F_,F_,F_,F_,F_] rfl rfl (any_of HT_.out (by kernel_rfl)) (fun _ _ _ h=>h) (Or.inl ⟨by rfl,?_⟩) ?_ ?_
          rotate_left
          ·intro w'
           go_simp
           with_reducible rfl
          rotate_left
          ·simp only [Act.put,ls_,lz_,lc_,i64_w,i32_w]
           rfl
          refine pure_ (i:=3) (N:=some 33) (v:=?_) (a':=?_) #[T_,T_,T_,T_,F_,F_,F_,F_] rfl rfl (any_of HT_.out (by kernel_rfl)) (fun _ _ _ h=>h) (Or.inl ⟨by rfl,?_⟩) ?_ ?_
          rotate_left
          ·intro w'
           go_simp
           with_reducible rfl
          rotate_left
          ·simp only [Act.put,ls_,lz_,lc_,i64_w,i32_w]
           rfl
          refine pure_ (i:=5) (N:=some 35) (v:=?_) (a':=?_) #[T_,T_,T_,T_,F_,T_,F_,F_] rfl rfl (any_of HT_.out (by kernel_rfl)) (fun _ _ _ h=>h) (Or.inl ⟨by rfl,?_⟩) ?_ ?_
          rotate_left
          ·intro w'
           go_simp
           with_reducible rfl
          rotate_left
          ·simp only [Act.put,ls_,lz_,lc_,i64_w,i32_w]
           rfl
          refine take_ (i:=4) (N:=some 34) (v:=?_) (a':=?_) #[T_,T_,T_,T_,T_,T_,F_,F_] rfl rfl (take_ofW HT_.out HW_.out (by kernel_rfl)) (fun _ _ _ h=>h) (Or.inl ⟨by rfl,?_⟩) hHeld ?_ ?_
          rotate_left
          ·rintro w' ⟨s0,s1,s2,s3,s4,s5⟩
           go_simp
           with_reducible rfl
          rotate_left
          ·simp only [Act.put,ls_,lz_,lc_,i64_w,i32_w]
           rfl
          refine one_ (i:=6) (N:=some 36) #[T_,T_,T_,T_,T_,T_,T_,F_] rfl rfl (one_of HT_.out (by kernel_rfl)) (by decide) (fun K hK=>?_)
          refine goes_ Try.func30 (by kernel_rfl) rfl #[.int .i64 (wrap64 ((wrap64 (x1_1+1))+1))] (by rfl) rfl rfl (by (try simp only [List.map_toArray,List.map_cons,List.map_nil]);first|done|rfl|(simp only [ld_,lt_];rfl)) ?_
          with_reducible refine (laws_markText.calls k1 (wrap64 ((wrap64 (x1_1+1))+1)) t307 _ A7.out).mono ?_
          rintro e w14 ⟨rfl,hb⟩
          refine ⟨_,rfl,?_⟩
          have n0_:=A_ (bp_ (by repeat (first|(with_reducible first|exact HB.out|apply ba_|apply pd_|apply b1_)|exact HB.out)) hb)
          clear HB
          have HB:=n0_
          clear n0_
          (try clear hb)
          (try clear hb2)
          (try clear hk)
          (try clear hi)
          refine hK.out _ _ ⟨((HB.out.cell (bl_ w _ hw306_0)).trans hw306_0),((HB.out.cell (bl_ w _ hw306_1)).trans hw306_1),((HB.out.cell (bl_ w _ hw306_2)).trans hw306_2),((HB.out.cell (bl_ w _ hw306_3)).trans hw306_3),((HB.out.cell (bl_ w _ hw306_4)).trans hw306_4),((HB.out.cell (bl_ w _ hw306_5)).trans hw306_5)⟩ (fun hHeld=>?_)
          clear hK K
          refine norm_ (a':=?_) ?_ ?_
          rotate_left
          ·show Act.put _ (some 36) _=_
           simp only [Act.put,ls_,lz_,lc_,i64_w,i32_w]
           rfl
          refine pure_ (i:=7) (N:=some 37) (v:=?_) (a':=?_) #[T_,T_,T_,T_,T_,T_,T_,T_] rfl rfl (any_of HT_.out (by kernel_rfl)) (fun _ _ _ h=>h) (Or.inl ⟨by rfl,?_⟩) ?_ ?_
          rotate_left
          ·intro w'
           go_simp
           with_reducible rfl
          rotate_left
          ·simp only [Act.put,ls_,lz_,lc_,i64_w,i32_w]
           rfl
          refine done_ (done_of HT_.out (by kernel_rfl)) ?_
          try go_wp2
          have n0_:=A_ (b1_ HB.out)
          clear HB
          have HB:=n0_
          clear n0_
          have p308:0≤(x5_1:Int):=od_ (by first|(with_reducible assumption)|assumption)
          have q308:x5_1<(l0.length:Int):=od_ (by first|(with_reducible assumption)|assumption)
          obtain ⟨ad308,A308_4,c308_4,A308_5,c308_5,e308,hx308_0,hx308_1,hx308_2,hx308_3,hx308_4,hx308_5,hl308_4,hi308_4,hl308_5,hi308_5⟩:=at_T44 HR0.out x5_1 p308 q308
          have hw308_5:=hx308_5
          have hw308_4:=hx308_4
          have hw308_3:=hx308_3
          have hw308_2:=hx308_2
          have hw308_1:=hx308_1
          have hw308_0:=hx308_0
          obtain rfl:ad304=ad308:=(by injection e308)
          try (have h_:=hx308_4.symm.trans hw306_4;injection h_ with h_;injection h_ with h1_ h3_ h2_;subst h1_;subst h2_)
          try (have h_:=hx308_5.symm.trans hw306_5;injection h_ with h_;injection h_ with h1_ h3_ h2_;subst h1_;subst h2_)
          replace hx308_0:=(HB.out.cell (bl_ w _ hx308_0)).trans hx308_0
          replace hx308_1:=(HB.out.cell (bl_ w _ hx308_1)).trans hx308_1
          replace hx308_2:=(HB.out.cell (bl_ w _ hx308_2)).trans hx308_2
          replace hx308_3:=(HB.out.cell (bl_ w _ hx308_3)).trans hx308_3
          replace hx308_4:=(HB.out.cell (bl_ w _ hx308_4)).trans hx308_4
          replace hx308_5:=(HB.out.cell (bl_ w _ hx308_5)).trans hx308_5
          have HR308_4:=A_ hi308_4
          have HC308_4:=A_ hl308_4
          clear hi308_4 hl308_4
          have HR308_5:=A_ hi308_5
          have HC308_5:=A_ hl308_5
          clear hi308_5 hl308_5
          replace p308:=eq_true p308
          replace q308:=eq_true q308
          refine start_ (n:=8) (S:=fun w'=>w'.cell? (ad304.add ((x5_1).toNat * 6))=some (.int .i64 ((rd_T44 l0 x5_1).f0))∧w'.cell? ⟨(ad304.add ((x5_1).toNat * 6)).block,(ad304.add ((x5_1).toNat * 6)).off+1,none⟩=some (.int .i64 ((rd_T44 l0 x5_1).f1))∧w'.cell? ⟨(ad304.add ((x5_1).toNat * 6)).block,(ad304.add ((x5_1).toNat * 6)).off+2,none⟩=some (.string ((rd_T44 l0 x5_1).f2))∧w'.cell? ⟨(ad304.add ((x5_1).toNat * 6)).block,(ad304.add ((x5_1).toNat * 6)).off+3,none⟩=some (.string ((rd_T44 l0 x5_1).f3))∧w'.cell? ⟨(ad304.add ((x5_1).toNat * 6)).block,(ad304.add ((x5_1).toNat * 6)).off+4,none⟩=some (.slice A308_4 ((rd_T44 l0 x5_1).f4).length c308_4)∧w'.cell? ⟨(ad304.add ((x5_1).toNat * 6)).block,(ad304.add ((x5_1).toNat * 6)).off+5,none⟩=some (.slice A308_5 ((rd_T44 l0 x5_1).f5).length c308_5)) (ds:=[]) #[F_,F_,F_,F_,F_,F_,F_,F_] (by kernel_rfl) rfl rfl ⟨((HB.out.cell (bl_ w _ hw308_0)).trans hw308_0),((HB.out.cell (bl_ w _ hw308_1)).trans hw308_1),((HB.out.cell (bl_ w _ hw308_2)).trans hw308_2),((HB.out.cell (bl_ w _ hw308_3)).trans hw308_3),((HB.out.cell (bl_ w _ hw308_4)).trans hw308_4),((HB.out.cell (bl_ w _ hw308_5)).trans hw308_5)⟩ (fun hHeld=>?_);refine with_tabW laws_heldNodeS.tab13 laws_heldNodeS.bits13 (fun HT_ HW_=>?_)
          generalize w14.drew=w15 at HB HR308_4 HR308_5 hx308_0 hx308_1 hx308_2 hx308_3 hx308_4 hx308_5 hHeld ⊢
          refine pure_ (i:=0) (N:=some 40) (v:=?_) (a':=?_) #[T_,F_,F_,F_,F_,F_,F_,F_] rfl rfl (any_of HT_.out (by kernel_rfl)) (fun _ _ _ h=>h) (Or.inl ⟨by rfl,?_⟩) ?_ ?_
          rotate_left
          ·intro w'
           go_simp
           with_reducible rfl
          rotate_left
          ·simp only [Act.put,ls_,lz_,lc_,i64_w,i32_w]
           rfl
          refine pure_ (i:=1) (N:=some 41) (v:=?_) (a':=?_) #[T_,T_,F_,F_,F_,F_,F_,F_] rfl rfl (any_of HT_.out (by kernel_rfl)) (fun _ _ _ h=>h) (Or.inl ⟨by rfl,?_⟩) ?_ ?_
          rotate_left
          ·intro w'
           go_simp
           with_reducible rfl
          rotate_left
          ·simp only [Act.put,ls_,lz_,lc_,i64_w,i32_w]
           rfl
          refine pure_ (i:=2) (N:=some 42) (v:=?_) (a':=?_) #[T_,T_,T_,F_,F_,F_,F_,F_] rfl rfl (any_of HT_.out (by kernel_rfl)) (fun _ _ _ h=>h) (Or.inl ⟨by rfl,?_⟩) ?_ ?_
          rotate_left
          ·intro w'
           go_simp
           with_reducible rfl
          rotate_left
          ·simp only [Act.put,ls_,lz_,lc_,i64_w,i32_w]
           rfl
          refine pure_ (i:=3) (N:=some 43) (v:=?_) (a':=?_) #[T_,T_,T_,T_,F_,F_,F_,F_] rfl rfl (any_of HT_.out (by kernel_rfl)) (fun _ _ _ h=>h) (Or.inl ⟨by rfl,?_⟩) ?_ ?_
          rotate_left
          ·intro w'
           go_simp
           with_reducible rfl
          rotate_left
          ·simp only [Act.put,ls_,lz_,lc_,i64_w,i32_w]
           rfl
          refine pure_ (i:=5) (N:=some 45) (v:=?_) (a':=?_) #[T_,T_,T_,T_,F_,T_,F_,F_] rfl rfl (any_of HT_.out (by kernel_rfl)) (fun _ _ _ h=>h) (Or.inl ⟨by rfl,?_⟩) ?_ ?_
          rotate_left
          ·intro w'
           go_simp
           with_reducible rfl
          rotate_left
          ·simp only [Act.put,ls_,lz_,lc_,i64_w,i32_w]
           rfl
          refine take_ (i:=4) (N:=some 44) (v:=?_) (a':=?_) #[T_,T_,T_,T_,T_,T_,F_,F_] rfl rfl (take_ofW HT_.out HW_.out (by kernel_rfl)) (fun _ _ _ h=>h) (Or.inl ⟨by rfl,?_⟩) hHeld ?_ ?_
          rotate_left
          ·rintro w' ⟨s0,s1,s2,s3,s4,s5⟩
           go_simp
           with_reducible rfl
          rotate_left
          ·simp only [Act.put,ls_,lz_,lc_,i64_w,i32_w]
           rfl
          refine one_ (i:=6) (N:=some 46) #[T_,T_,T_,T_,T_,T_,T_,F_] rfl rfl (one_of HT_.out (by kernel_rfl)) (by decide) (fun K hK=>?_)
          refine goes_ Try.func30 (by kernel_rfl) rfl #[.int .i64 (wrap64 ((wrap64 ((wrap64 (x1_1+1))+1))+1))] (by rfl) rfl rfl (by (try simp only [List.map_toArray,List.map_cons,List.map_nil]);first|done|rfl|(simp only [ld_,lt_];rfl)) ?_
          with_reducible refine (laws_markText.calls k1 (wrap64 ((wrap64 ((wrap64 (x1_1+1))+1))+1)) t309 _ A9.out).mono ?_
          rintro e w16 ⟨rfl,hb⟩
          refine ⟨_,rfl,?_⟩
          have n0_:=A_ (bp_ (by repeat (first|(with_reducible first|exact HB.out|apply ba_|apply pd_|apply b1_)|exact HB.out)) hb)
          clear HB
          have HB:=n0_
          clear n0_
          (try clear hb)
          (try clear hb2)
          (try clear hk)
          (try clear hi)
          refine hK.out _ _ ⟨((HB.out.cell (bl_ w _ hw308_0)).trans hw308_0),((HB.out.cell (bl_ w _ hw308_1)).trans hw308_1),((HB.out.cell (bl_ w _ hw308_2)).trans hw308_2),((HB.out.cell (bl_ w _ hw308_3)).trans hw308_3),((HB.out.cell (bl_ w _ hw308_4)).trans hw308_4),((HB.out.cell (bl_ w _ hw308_5)).trans hw308_5)⟩ (fun hHeld=>?_)
          clear hK K
          refine norm_ (a':=?_) ?_ ?_
          rotate_left
          ·show Act.put _ (some 46) _=_
           simp only [Act.put,ls_,lz_,lc_,i64_w,i32_w]
           rfl
          refine pure_ (i:=7) (N:=some 47) (v:=?_) (a':=?_) #[T_,T_,T_,T_,T_,T_,T_,T_] rfl rfl (any_of HT_.out (by kernel_rfl)) (fun _ _ _ h=>h) (Or.inl ⟨by rfl,?_⟩) ?_ ?_
          rotate_left
          ·intro w'
           go_simp
           with_reducible rfl
          rotate_left
          ·simp only [Act.put,ls_,lz_,lc_,i64_w,i32_w]
           rfl
          refine done_ (done_of HT_.out (by kernel_rfl)) ?_
          have p310:0≤(x5_1:Int):=od_ (by first|(with_reducible assumption)|assumption)
          have q310:x5_1<(l0.length:Int):=od_ (by first|(with_reducible assumption)|assumption)
          obtain ⟨ad310,A310_4,c310_4,A310_5,c310_5,e310,hx310_0,hx310_1,hx310_2,hx310_3,hx310_4,hx310_5,hl310_4,hi310_4,hl310_5,hi310_5⟩:=at_T44 HR0.out x5_1 p310 q310
          obtain rfl:ad304=ad310:=(by injection e310)
          try (have h_:=hx310_4.symm.trans hw308_4;injection h_ with h_;injection h_ with h1_ h3_ h2_;subst h1_;subst h2_)
          try (have h_:=hx310_5.symm.trans hw308_5;injection h_ with h_;injection h_ with h1_ h3_ h2_;subst h1_;subst h2_)
          replace hx310_0:=(HB.out.cell (bl_ w _ hx310_0)).trans hx310_0
          replace hx310_1:=(HB.out.cell (bl_ w _ hx310_1)).trans hx310_1
          replace hx310_2:=(HB.out.cell (bl_ w _ hx310_2)).trans hx310_2
          replace hx310_3:=(HB.out.cell (bl_ w _ hx310_3)).trans hx310_3
          replace hx310_4:=(HB.out.cell (bl_ w _ hx310_4)).trans hx310_4
          replace hx310_5:=(HB.out.cell (bl_ w _ hx310_5)).trans hx310_5
          have HR310_4:=A_ hi310_4
          have HC310_4:=A_ hl310_4
          clear hi310_4 hl310_4
          have HR310_5:=A_ hi310_5
          have HC310_5:=A_ hl310_5
          clear hi310_5 hl310_5
          replace p310:=eq_true p310
          replace q310:=eq_true q310
          try go_wp2_with (first|((with_reducible refine gate_callee (f:=32) rfl ?_);refine goesL_ (some 56) rfl rfl Try.func32 (by kernel_rfl) rfl #[.slice A310_4 ((rd_T44 l0 x5_1).f4).length c310_4,.int .i64 (wrap64 ((wrap64 ((wrap64 ((wrap64 (x1_1+1))+1))+1))+1))] rfl (by (try simp only [List.map_toArray,List.map_cons,List.map_nil]);first|done|rfl|(simp only [ld_,lt_];rfl)) ?_;(with_reducible refine (laws_heldAttrS.calls k1 _ _ ((rd_T44 l0 x5_1).f4) (wrap64 ((wrap64 ((wrap64 ((wrap64 (x1_1+1))+1))+1))+1)) t311 _ ?side1 ?side2 A11.out).mono ?_);(case side1=>repeat (first|exact (cb_ HR310_4.out HB.out)|(with_reducible refine ca_ ?_ _)|(with_reducible refine cn_ ?_ _)|(with_reducible refine cd_ ?_)));(case side2=>exact HC310_4.out);rintro e w17 ⟨rfl,hb⟩;refine ⟨_,rfl,?_⟩;have n0_:=A_ (bp_ (by repeat (first|(with_reducible first|exact HB.out|apply ba_|apply pd_|apply b1_)|exact HB.out)) hb);clear HB;have HB:=n0_;clear n0_;(try clear hb);(try clear hb2);(try clear hk);(try clear hi)))
          go_ret
          exact ⟨by first|rfl|(simp [errW_none,errW_some] <;> rfl)|(simp [*,errW_none,errW_some] <;> rfl),by repeat (first|(with_reducible first|exact HB.out|apply ba_|apply pd_|apply b1_)|exact HB.out)⟩
         ·rw [if_neg c12] at H
          have c12b0:decide (t311<0)=false:=df_ c12
          clear c12
          replace H:=ob_ H
          obtain ⟨t313,A180,H⟩:=H
          replace H:(if t313<0 then (some (-1)) else (laws_heldNodeS.l0 k1 l0 t313 (wrap64 (x5_1+1))))=some r:=H
          have A18:=A_ A180
          clear A180
          by_cases c19:t313<0
          ·rw [if_pos c19] at H
           have c19b0:decide (t313<0)=true:=dt_ c19
           clear c19
           obtain rfl:=oi_ H
           have p304:0≤(x5_1:Int):=od_ (by first|(with_reducible assumption)|assumption)
           have q304:x5_1<(l0.length:Int):=od_ (by first|(with_reducible assumption)|assumption)
           obtain ⟨ad304,A304_4,c304_4,A304_5,c304_5,e304,hx304_0,hx304_1,hx304_2,hx304_3,hx304_4,hx304_5,hl304_4,hi304_4,hl304_5,hi304_5⟩:=at_T44 HR0.out x5_1 p304 q304
           cases e304
           replace hx304_0:=(HB.out.cell (bl_ w _ hx304_0)).trans hx304_0
           replace hx304_1:=(HB.out.cell (bl_ w _ hx304_1)).trans hx304_1
           replace hx304_2:=(HB.out.cell (bl_ w _ hx304_2)).trans hx304_2
           replace hx304_3:=(HB.out.cell (bl_ w _ hx304_3)).trans hx304_3
           replace hx304_4:=(HB.out.cell (bl_ w _ hx304_4)).trans hx304_4
           replace hx304_5:=(HB.out.cell (bl_ w _ hx304_5)).trans hx304_5
           have HR304_4:=A_ hi304_4
           have HC304_4:=A_ hl304_4
           clear hi304_4 hl304_4
           have HR304_5:=A_ hi304_5
           have HC304_5:=A_ hl304_5
           clear hi304_5 hl304_5
           replace p304:=eq_true p304
           replace q304:=eq_true q304
           have p305:0≤(x5_1:Int):=od_ (by first|(with_reducible assumption)|assumption)
           have q305:x5_1<(l0.length:Int):=od_ (by first|(with_reducible assumption)|assumption)
           obtain ⟨ad305,A305_4,c305_4,A305_5,c305_5,e305,hx305_0,hx305_1,hx305_2,hx305_3,hx305_4,hx305_5,hl305_4,hi305_4,hl305_5,hi305_5⟩:=at_T44 HR0.out x5_1 p305 q305
           obtain rfl:ad304=ad305:=(by injection e305)
           try (have h_:=hx305_4.symm.trans hw303_4;injection h_ with h_;injection h_ with h1_ h3_ h2_;subst h1_;subst h2_)
           try (have h_:=hx305_5.symm.trans hw303_5;injection h_ with h_;injection h_ with h1_ h3_ h2_;subst h1_;subst h2_)
           replace hx305_0:=(HB.out.cell (bl_ w _ hx305_0)).trans hx305_0
           replace hx305_1:=(HB.out.cell (bl_ w _ hx305_1)).trans hx305_1
           replace hx305_2:=(HB.out.cell (bl_ w _ hx305_2)).trans hx305_2
           replace hx305_3:=(HB.out.cell (bl_ w _ hx305_3)).trans hx305_3
           replace hx305_4:=(HB.out.cell (bl_ w _ hx305_4)).trans hx305_4
           replace hx305_5:=(HB.out.cell (bl_ w _ hx305_5)).trans hx305_5
           have HR305_4:=A_ hi305_4
           have HC305_4:=A_ hl305_4
           clear hi305_4 hl305_4
           have HR305_5:=A_ hi305_5
           have HC305_5:=A_ hl305_5
           clear hi305_5 hl305_5
           replace p305:=eq_true p305
           replace q305:=eq_true q305
           have ea_:=oi_ (hx304_4.symm.trans hx305_4)
           injection ea_ with ea_ en_ ec_
           subst ea_
           subst ec_
           clear en_
           have ea_:=oi_ (hx304_5.symm.trans hx305_5)
           injection ea_ with ea_ en_ ec_
           subst ea_
           subst ec_
           clear en_
           try go_wp2
           have n0_:=A_ (b1_ HB.out)
           clear HB
           have HB:=n0_
           clear n0_
           have p306:0≤(x5_1:Int):=od_ (by first|(with_reducible assumption)|assumption)
           have q306:x5_1<(l0.length:Int):=od_ (by first|(with_reducible assumption)|assumption)
           obtain ⟨ad306,A306_4,c306_4,A306_5,c306_5,e306,hx306_0,hx306_1,hx306_2,hx306_3,hx306_4,hx306_5,hl306_4,hi306_4,hl306_5,hi306_5⟩:=at_T44 HR0.out x5_1 p306 q306
           have hw306_5:=hx306_5
           have hw306_4:=hx306_4
           have hw306_3:=hx306_3
           have hw306_2:=hx306_2
           have hw306_1:=hx306_1
           have hw306_0:=hx306_0
           obtain rfl:ad304=ad306:=(by injection e306)
           try (have h_:=hx306_4.symm.trans hw304_4;injection h_ with h_;injection h_ with h1_ h3_ h2_;subst h1_;subst h2_)
           try (have h_:=hx306_5.symm.trans hw304_5;injection h_ with h_;injection h_ with h1_ h3_ h2_;subst h1_;subst h2_)
           replace hx306_0:=(HB.out.cell (bl_ w _ hx306_0)).trans hx306_0
           replace hx306_1:=(HB.out.cell (bl_ w _ hx306_1)).trans hx306_1
           replace hx306_2:=(HB.out.cell (bl_ w _ hx306_2)).trans hx306_2
           replace hx306_3:=(HB.out.cell (bl_ w _ hx306_3)).trans hx306_3
           replace hx306_4:=(HB.out.cell (bl_ w _ hx306_4)).trans hx306_4
           replace hx306_5:=(HB.out.cell (bl_ w _ hx306_5)).trans hx306_5
           have HR306_4:=A_ hi306_4
           have HC306_4:=A_ hl306_4
           clear hi306_4 hl306_4
           have HR306_5:=A_ hi306_5
           have HC306_5:=A_ hl306_5
           clear hi306_5 hl306_5
           replace p306:=eq_true p306
           replace q306:=eq_true q306
           refine start_ (n:=8) (S:=fun w'=>w'.cell? (ad304.add ((x5_1).toNat * 6))=some (.int .i64 ((rd_T44 l0 x5_1).f0))∧w'.cell? ⟨(ad304.add ((x5_1).toNat * 6)).block,(ad304.add ((x5_1).toNat * 6)).off+1,none⟩=some (.int .i64 ((rd_T44 l0 x5_1).f1))∧w'.cell? ⟨(ad304.add ((x5_1).toNat * 6)).block,(ad304.add ((x5_1).toNat * 6)).off+2,none⟩=some (.string ((rd_T44 l0 x5_1).f2))∧w'.cell? ⟨(ad304.add ((x5_1).toNat * 6)).block,(ad304.add ((x5_1).toNat * 6)).off+3,none⟩=some (.string ((rd_T44 l0 x5_1).f3))∧w'.cell? ⟨(ad304.add ((x5_1).toNat * 6)).block,(ad304.add ((x5_1).toNat * 6)).off+4,none⟩=some (.slice A306_4 ((rd_T44 l0 x5_1).f4).length c306_4)∧w'.cell? ⟨(ad304.add ((x5_1).toNat * 6)).block,(ad304.add ((x5_1).toNat * 6)).off+5,none⟩=some (.slice A306_5 ((rd_T44 l0 x5_1).f5).length c306_5)) (ds:=[]) #[F_,F_,F_,F_,F_,F_,F_,F_] (by kernel_rfl) rfl rfl ⟨((HB.out.cell (bl_ w _ hw306_0)).trans hw306_0),((HB.out.cell (bl_ w _ hw306_1)).trans hw306_1),((HB.out.cell (bl_ w _ hw306_2)).trans hw306_2),((HB.out.cell (bl_ w _ hw306_3)).trans hw306_3),((HB.out.cell (bl_ w _ hw306_4)).trans hw306_4),((HB.out.cell (bl_ w _ hw306_5)).trans hw306_5)⟩ (fun hHeld=>?_);refine with_tabW laws_heldNodeS.tab10 laws_heldNodeS.bits10 (fun HT_ HW_=>?_)
           generalize wr.drew=w20 at HB HR306_4 HR306_5 hx306_0 hx306_1 hx306_2 hx306_3 hx306_4 hx306_5 hHeld ⊢
           refine pure_ (i:=0) (N:=some 30) (v:=?_) (a':=?_) #[T_,F_,F_,F_,F_,F_,F_,F_] rfl rfl (any_of HT_.out (by kernel_rfl)) (fun _ _ _ h=>h) (Or.inl ⟨by rfl,?_⟩) ?_ ?_
           rotate_left
           ·intro w'
            go_simp
            with_reducible rfl
           rotate_left
           ·simp only [Act.put,ls_,lz_,lc_,i64_w,i32_w]
            rfl
           refine pure_ (i:=1) (N:=some 31) (v:=?_) (a':=?_) #[T_,T_,F_,F_,F_,F_,F_,F_] rfl rfl (any_of HT_.out (by kernel_rfl)) (fun _ _ _ h=>h) (Or.inl ⟨by rfl,?_⟩) ?_ ?_
           rotate_left
           ·intro w'
            go_simp
            with_reducible rfl
           rotate_left
           ·simp only [Act.put,ls_,lz_,lc_,i64_w,i32_w]
            rfl
           refine pure_ (i:=2) (N:=some 32) (v:=?_) (a':=?_) #[T_,T_,T_,F_,F_,F_,F_,F_] rfl rfl (any_of HT_.out (by kernel_rfl)) (fun _ _ _ h=>h) (Or.inl ⟨by rfl,?_⟩) ?_ ?_
           rotate_left
           ·intro w'
            go_simp
            with_reducible rfl
           rotate_left
           ·simp only [Act.put,ls_,lz_,lc_,i64_w,i32_w]
            rfl
           refine pure_ (i:=3) (N:=some 33) (v:=?_) (a':=?_) #[T_,T_,T_,T_,F_,F_,F_,F_] rfl rfl (any_of HT_.out (by kernel_rfl)) (fun _ _ _ h=>h) (Or.inl ⟨by rfl,?_⟩) ?_ ?_
           rotate_left
           ·intro w'
            go_simp
            with_reducible rfl
           rotate_left
           ·simp only [Act.put,ls_,lz_,lc_,i64_w,i32_w]
            rfl
           refine pure_ (i:=5) (N:=some 35) (v:=?_) (a':=?_) #[T_,T_,T_,T_,F_,T_,F_,F_] rfl rfl (any_of HT_.out (by kernel_rfl)) (fun _ _ _ h=>h) (Or.inl ⟨by rfl,?_⟩) ?_ ?_
           rotate_left
           ·intro w'
            go_simp
            with_reducible rfl
           rotate_left
           ·simp only [Act.put,ls_,lz_,lc_,i64_w,i32_w]
            rfl
           refine take_ (i:=4) (N:=some 34) (v:=?_) (a':=?_) #[T_,T_,T_,T_,T_,T_,F_,F_] rfl rfl (take_ofW HT_.out HW_.out (by kernel_rfl)) (fun _ _ _ h=>h) (Or.inl ⟨by rfl,?_⟩) hHeld ?_ ?_
           rotate_left
           ·rintro w' ⟨s0,s1,s2,s3,s4,s5⟩
            go_simp
            with_reducible rfl
           rotate_left
           ·simp only [Act.put,ls_,lz_,lc_,i64_w,i32_w]
            rfl
           refine one_ (i:=6) (N:=some 36) #[T_,T_,T_,T_,T_,T_,T_,F_] rfl rfl (one_of HT_.out (by kernel_rfl)) (by decide) (fun K hK=>?_)
           refine goes_ Try.func30 (by kernel_rfl) rfl #[.int .i64 (wrap64 ((wrap64 (x1_1+1))+1))] (by rfl) rfl rfl (by (try simp only [List.map_toArray,List.map_cons,List.map_nil]);first|done|rfl|(simp only [ld_,lt_];rfl)) ?_
           with_reducible refine (laws_markText.calls k1 (wrap64 ((wrap64 (x1_1+1))+1)) t307 _ A7.out).mono ?_
           rintro e w21 ⟨rfl,hb⟩
           refine ⟨_,rfl,?_⟩
           have n0_:=A_ (bp_ (by repeat (first|(with_reducible first|exact HB.out|apply ba_|apply pd_|apply b1_)|exact HB.out)) hb)
           clear HB
           have HB:=n0_
           clear n0_
           (try clear hb)
           (try clear hb2)
           (try clear hk)
           (try clear hi)
           refine hK.out _ _ ⟨((HB.out.cell (bl_ w _ hw306_0)).trans hw306_0),((HB.out.cell (bl_ w _ hw306_1)).trans hw306_1),((HB.out.cell (bl_ w _ hw306_2)).trans hw306_2),((HB.out.cell (bl_ w _ hw306_3)).trans hw306_3),((HB.out.cell (bl_ w _ hw306_4)).trans hw306_4),((HB.out.cell (bl_ w _ hw306_5)).trans hw306_5)⟩ (fun hHeld=>?_)
           clear hK K
           refine norm_ (a':=?_) ?_ ?_
           rotate_left
           ·show Act.put _ (some 36) _=_
            simp only [Act.put,ls_,lz_,lc_,i64_w,i32_w]
            rfl
           refine pure_ (i:=7) (N:=some 37) (v:=?_) (a':=?_) #[T_,T_,T_,T_,T_,T_,T_,T_] rfl rfl (any_of HT_.out (by kernel_rfl)) (fun _ _ _ h=>h) (Or.inl ⟨by rfl,?_⟩) ?_ ?_
           rotate_left
           ·intro w'
            go_simp
            with_reducible rfl
           rotate_left
           ·simp only [Act.put,ls_,lz_,lc_,i64_w,i32_w]
            rfl
           refine done_ (done_of HT_.out (by kernel_rfl)) ?_
           try go_wp2
           have n0_:=A_ (b1_ HB.out)
           clear HB
           have HB:=n0_
           clear n0_
           have p308:0≤(x5_1:Int):=od_ (by first|(with_reducible assumption)|assumption)
           have q308:x5_1<(l0.length:Int):=od_ (by first|(with_reducible assumption)|assumption)
           obtain ⟨ad308,A308_4,c308_4,A308_5,c308_5,e308,hx308_0,hx308_1,hx308_2,hx308_3,hx308_4,hx308_5,hl308_4,hi308_4,hl308_5,hi308_5⟩:=at_T44 HR0.out x5_1 p308 q308
           have hw308_5:=hx308_5
           have hw308_4:=hx308_4
           have hw308_3:=hx308_3
           have hw308_2:=hx308_2
           have hw308_1:=hx308_1
           have hw308_0:=hx308_0
           obtain rfl:ad304=ad308:=(by injection e308)
           try (have h_:=hx308_4.symm.trans hw306_4;injection h_ with h_;injection h_ with h1_ h3_ h2_;subst h1_;subst h2_)
           try (have h_:=hx308_5.symm.trans hw306_5;injection h_ with h_;injection h_ with h1_ h3_ h2_;subst h1_;subst h2_)
           replace hx308_0:=(HB.out.cell (bl_ w _ hx308_0)).trans hx308_0
           replace hx308_1:=(HB.out.cell (bl_ w _ hx308_1)).trans hx308_1
           replace hx308_2:=(HB.out.cell (bl_ w _ hx308_2)).trans hx308_2
           replace hx308_3:=(HB.out.cell (bl_ w _ hx308_3)).trans hx308_3
           replace hx308_4:=(HB.out.cell (bl_ w _ hx308_4)).trans hx308_4
           replace hx308_5:=(HB.out.cell (bl_ w _ hx308_5)).trans hx308_5
           have HR308_4:=A_ hi308_4
           have HC308_4:=A_ hl308_4
           clear hi308_4 hl308_4
           have HR308_5:=A_ hi308_5
           have HC308_5:=A_ hl308_5
           clear hi308_5 hl308_5
           replace p308:=eq_true p308
           replace q308:=eq_true q308
           refine start_ (n:=8) (S:=fun w'=>w'.cell? (ad304.add ((x5_1).toNat * 6))=some (.int .i64 ((rd_T44 l0 x5_1).f0))∧w'.cell? ⟨(ad304.add ((x5_1).toNat * 6)).block,(ad304.add ((x5_1).toNat * 6)).off+1,none⟩=some (.int .i64 ((rd_T44 l0 x5_1).f1))∧w'.cell? ⟨(ad304.add ((x5_1).toNat * 6)).block,(ad304.add ((x5_1).toNat * 6)).off+2,none⟩=some (.string ((rd_T44 l0 x5_1).f2))∧w'.cell? ⟨(ad304.add ((x5_1).toNat * 6)).block,(ad304.add ((x5_1).toNat * 6)).off+3,none⟩=some (.string ((rd_T44 l0 x5_1).f3))∧w'.cell? ⟨(ad304.add ((x5_1).toNat * 6)).block,(ad304.add ((x5_1).toNat * 6)).off+4,none⟩=some (.slice A308_4 ((rd_T44 l0 x5_1).f4).length c308_4)∧w'.cell? ⟨(ad304.add ((x5_1).toNat * 6)).block,(ad304.add ((x5_1).toNat * 6)).off+5,none⟩=some (.slice A308_5 ((rd_T44 l0 x5_1).f5).length c308_5)) (ds:=[]) #[F_,F_,F_,F_,F_,F_,F_,F_] (by kernel_rfl) rfl rfl ⟨((HB.out.cell (bl_ w _ hw308_0)).trans hw308_0),((HB.out.cell (bl_ w _ hw308_1)).trans hw308_1),((HB.out.cell (bl_ w _ hw308_2)).trans hw308_2),((HB.out.cell (bl_ w _ hw308_3)).trans hw308_3),((HB.out.cell (bl_ w _ hw308_4)).trans hw308_4),((HB.out.cell (bl_ w _ hw308_5)).trans hw308_5)⟩ (fun hHeld=>?_);refine with_tabW laws_heldNodeS.tab13 laws_heldNodeS.bits13 (fun HT_ HW_=>?_)
           generalize w21.drew=w22 at HB HR308_4 HR308_5 hx308_0 hx308_1 hx308_2 hx308_3 hx308_4 hx308_5 hHeld ⊢
           refine pure_ (i:=0) (N:=some 40) (v:=?_) (a':=?_) #[T_,F_,F_,F_,F_,F_,F_,F_] rfl rfl (any_of HT_.out (by kernel_rfl)) (fun _ _ _ h=>h) (Or.inl ⟨by rfl,?_⟩) ?_ ?_
           rotate_left
           ·intro w'
            go_simp
            with_reducible rfl
           rotate_left
           ·simp only [Act.put,ls_,lz_,lc_,i64_w,i32_w]
            rfl
           refine pure_ (i:=1) (N:=some 41) (v:=?_) (a':=?_) #[T_,T_,F_,F_,F_,F_,F_,F_] rfl rfl (any_of HT_.out (by kernel_rfl)) (fun _ _ _ h=>h) (Or.inl ⟨by rfl,?_⟩) ?_ ?_
           rotate_left
           ·intro w'
            go_simp
            with_reducible rfl
           rotate_left
           ·simp only [Act.put,ls_,lz_,lc_,i64_w,i32_w]
            rfl
           refine pure_ (i:=2) (N:=some 42) (v:=?_) (a':=?_) #[T_,T_,T_,F_,F_,F_,F_,F_] rfl rfl (any_of HT_.out (by kernel_rfl)) (fun _ _ _ h=>h) (Or.inl ⟨by rfl,?_⟩) ?_ ?_
           rotate_left
           ·intro w'
            go_simp
            with_reducible rfl
           rotate_left
           ·simp only [Act.put,ls_,lz_,lc_,i64_w,i32_w]
            rfl
           refine pure_ (i:=3) (N:=some 43) (v:=?_) (a':=?_) #[T_,T_,T_,T_,F_,F_,F_,F_] rfl rfl (any_of HT_.out (by kernel_rfl)) (fun _ _ _ h=>h) (Or.inl ⟨by rfl,?_⟩) ?_ ?_
           rotate_left
           ·intro w'
            go_simp
            with_reducible rfl
           rotate_left
           ·simp only [Act.put,ls_,lz_,lc_,i64_w,i32_w]
            rfl
           refine pure_ (i:=5) (N:=some 45) (v:=?_) (a':=?_) #[T_,T_,T_,T_,F_,T_,F_,F_] rfl rfl (any_of HT_.out (by kernel_rfl)) (fun _ _ _ h=>h) (Or.inl ⟨by rfl,?_⟩) ?_ ?_
           rotate_left
           ·intro w'
            go_simp
            with_reducible rfl
           rotate_left
           ·simp only [Act.put,ls_,lz_,lc_,i64_w,i32_w]
            rfl
           refine take_ (i:=4) (N:=some 44) (v:=?_) (a':=?_) #[T_,T_,T_,T_,T_,T_,F_,F_] rfl rfl (take_ofW HT_.out HW_.out (by kernel_rfl)) (fun _ _ _ h=>h) (Or.inl ⟨by rfl,?_⟩) hHeld ?_ ?_
           rotate_left
           ·rintro w' ⟨s0,s1,s2,s3,s4,s5⟩
            go_simp
            with_reducible rfl
           rotate_left
           ·simp only [Act.put,ls_,lz_,lc_,i64_w,i32_w]
            rfl
           refine one_ (i:=6) (N:=some 46) #[T_,T_,T_,T_,T_,T_,T_,F_] rfl rfl (one_of HT_.out (by kernel_rfl)) (by decide) (fun K hK=>?_)
           refine goes_ Try.func30 (by kernel_rfl) rfl #[.int .i64 (wrap64 ((wrap64 ((wrap64 (x1_1+1))+1))+1))] (by rfl) rfl rfl (by (try simp only [List.map_toArray,List.map_cons,List.map_nil]);first|done|rfl|(simp only [ld_,lt_];rfl)) ?_
           with_reducible refine (laws_markText.calls k1 (wrap64 ((wrap64 ((wrap64 (x1_1+1))+1))+1)) t309 _ A9.out).mono ?_
           rintro e w23 ⟨rfl,hb⟩
           refine ⟨_,rfl,?_⟩
           have n0_:=A_ (bp_ (by repeat (first|(with_reducible first|exact HB.out|apply ba_|apply pd_|apply b1_)|exact HB.out)) hb)
           clear HB
           have HB:=n0_
           clear n0_
           (try clear hb)
           (try clear hb2)
           (try clear hk)
           (try clear hi)
           refine hK.out _ _ ⟨((HB.out.cell (bl_ w _ hw308_0)).trans hw308_0),((HB.out.cell (bl_ w _ hw308_1)).trans hw308_1),((HB.out.cell (bl_ w _ hw308_2)).trans hw308_2),((HB.out.cell (bl_ w _ hw308_3)).trans hw308_3),((HB.out.cell (bl_ w _ hw308_4)).trans hw308_4),((HB.out.cell (bl_ w _ hw308_5)).trans hw308_5)⟩ (fun hHeld=>?_)
           clear hK K
           refine norm_ (a':=?_) ?_ ?_
           rotate_left
           ·show Act.put _ (some 46) _=_
            simp only [Act.put,ls_,lz_,lc_,i64_w,i32_w]
            rfl
           refine pure_ (i:=7) (N:=some 47) (v:=?_) (a':=?_) #[T_,T_,T_,T_,T_,T_,T_,T_] rfl rfl (any_of HT_.out (by kernel_rfl)) (fun _ _ _ h=>h) (Or.inl ⟨by rfl,?_⟩) ?_ ?_
           rotate_left
           ·intro w'
            go_simp
            with_reducible rfl
           rotate_left
           ·simp only [Act.put,ls_,lz_,lc_,i64_w,i32_w]
            rfl
           refine done_ (done_of HT_.out (by kernel_rfl)) ?_
           have p310:0≤(x5_1:Int):=od_ (by first|(with_reducible assumption)|assumption)
           have q310:x5_1<(l0.length:Int):=od_ (by first|(with_reducible assumption)|assumption)
           obtain ⟨ad310,A310_4,c310_4,A310_5,c310_5,e310,hx310_0,hx310_1,hx310_2,hx310_3,hx310_4,hx310_5,hl310_4,hi310_4,hl310_5,hi310_5⟩:=at_T44 HR0.out x5_1 p310 q310
           obtain rfl:ad304=ad310:=(by injection e310)
           try (have h_:=hx310_4.symm.trans hw308_4;injection h_ with h_;injection h_ with h1_ h3_ h2_;subst h1_;subst h2_)
           try (have h_:=hx310_5.symm.trans hw308_5;injection h_ with h_;injection h_ with h1_ h3_ h2_;subst h1_;subst h2_)
           replace hx310_0:=(HB.out.cell (bl_ w _ hx310_0)).trans hx310_0
           replace hx310_1:=(HB.out.cell (bl_ w _ hx310_1)).trans hx310_1
           replace hx310_2:=(HB.out.cell (bl_ w _ hx310_2)).trans hx310_2
           replace hx310_3:=(HB.out.cell (bl_ w _ hx310_3)).trans hx310_3
           replace hx310_4:=(HB.out.cell (bl_ w _ hx310_4)).trans hx310_4
           replace hx310_5:=(HB.out.cell (bl_ w _ hx310_5)).trans hx310_5
           have HR310_4:=A_ hi310_4
           have HC310_4:=A_ hl310_4
           clear hi310_4 hl310_4
           have HR310_5:=A_ hi310_5
           have HC310_5:=A_ hl310_5
           clear hi310_5 hl310_5
           replace p310:=eq_true p310
           replace q310:=eq_true q310
           try go_wp2_with (first|((with_reducible refine gate_callee (f:=32) rfl ?_);refine goesL_ (some 56) rfl rfl Try.func32 (by kernel_rfl) rfl #[.slice A310_4 ((rd_T44 l0 x5_1).f4).length c310_4,.int .i64 (wrap64 ((wrap64 ((wrap64 ((wrap64 (x1_1+1))+1))+1))+1))] rfl (by (try simp only [List.map_toArray,List.map_cons,List.map_nil]);first|done|rfl|(simp only [ld_,lt_];rfl)) ?_;(with_reducible refine (laws_heldAttrS.calls k1 _ _ ((rd_T44 l0 x5_1).f4) (wrap64 ((wrap64 ((wrap64 ((wrap64 (x1_1+1))+1))+1))+1)) t311 _ ?side1 ?side2 A11.out).mono ?_);(case side1=>repeat (first|exact (cb_ HR310_4.out HB.out)|(with_reducible refine ca_ ?_ _)|(with_reducible refine cn_ ?_ _)|(with_reducible refine cd_ ?_)));(case side2=>exact HC310_4.out);rintro e w24 ⟨rfl,hb⟩;refine ⟨_,rfl,?_⟩;have n0_:=A_ (bp_ (by repeat (first|(with_reducible first|exact HB.out|apply ba_|apply pd_|apply b1_)|exact HB.out)) hb);clear HB;have HB:=n0_;clear n0_;(try clear hb);(try clear hb2);(try clear hk);(try clear hi);have p312:0≤(x5_1:Int):=od_ (by first|(with_reducible assumption)|assumption);have q312:x5_1<(l0.length:Int):=od_ (by first|(with_reducible assumption)|assumption);obtain ⟨ad312,A312_4,c312_4,A312_5,c312_5,e312,hx312_0,hx312_1,hx312_2,hx312_3,hx312_4,hx312_5,hl312_4,hi312_4,hl312_5,hi312_5⟩:=at_T44 HR0.out x5_1 p312 q312;obtain rfl:ad304=ad312:=(by injection e312);replace hx312_0:=(HB.out.cell (bl_ w _ hx312_0)).trans hx312_0;replace hx312_1:=(HB.out.cell (bl_ w _ hx312_1)).trans hx312_1;replace hx312_2:=(HB.out.cell (bl_ w _ hx312_2)).trans hx312_2;replace hx312_3:=(HB.out.cell (bl_ w _ hx312_3)).trans hx312_3;replace hx312_4:=(HB.out.cell (bl_ w _ hx312_4)).trans hx312_4;replace hx312_5:=(HB.out.cell (bl_ w _ hx312_5)).trans hx312_5;have HR312_4:=A_ hi312_4;have HC312_4:=A_ hl312_4;clear hi312_4 hl312_4;have HR312_5:=A_ hi312_5;have HC312_5:=A_ hl312_5;clear hi312_5 hl312_5;replace p312:=eq_true p312;replace q312:=eq_true q312)|((with_reducible refine gate_callee (f:=14) rfl ?_);refine goesL_ (some 65) rfl rfl Try.func14 (by kernel_rfl) rfl #[.slice A312_5 ((rd_T44 l0 x5_1).f5).length c312_5,.int .i64 t311] rfl (by (try simp only [List.map_toArray,List.map_cons,List.map_nil]);first|done|rfl|(simp only [ld_,lt_];rfl)) ?_;(with_reducible refine (ih k1 (by have:=HK1.out;omega) _ _ ((rd_T44 l0 x5_1).f5) t311 t313 _ ?side1 ?side2 A18.out).mono ?_);(case side1=>repeat (first|exact (cb_ HR312_5.out HB.out)|(with_reducible refine ca_ ?_ _)|(with_reducible refine cn_ ?_ _)|(with_reducible refine cd_ ?_)));(case side2=>exact HC312_5.out);rintro e w25 ⟨rfl,hb⟩;refine ⟨_,rfl,?_⟩;have n0_:=A_ (bp_ (by repeat (first|(with_reducible first|exact HB.out|apply ba_|apply pd_|apply b1_)|exact HB.out)) hb);clear HB;have HB:=n0_;clear n0_;(try clear hb);(try clear hb2);(try clear hk);(try clear hi)))
           go_ret
           exact ⟨by first|rfl|(simp [errW_none,errW_some] <;> rfl)|(simp [*,errW_none,errW_some] <;> rfl),by repeat (first|(with_reducible first|exact HB.out|apply ba_|apply pd_|apply b1_)|exact HB.out)⟩
          ·rw [if_neg c19] at H
           have c19b0:decide (t313<0)=false:=df_ c19
           clear c19
           have H':=A_ H
           clear H
           have p304:0≤(x5_1:Int):=od_ (by first|(with_reducible assumption)|assumption)
           have q304:x5_1<(l0.length:Int):=od_ (by first|(with_reducible assumption)|assumption)
           obtain ⟨ad304,A304_4,c304_4,A304_5,c304_5,e304,hx304_0,hx304_1,hx304_2,hx304_3,hx304_4,hx304_5,hl304_4,hi304_4,hl304_5,hi304_5⟩:=at_T44 HR0.out x5_1 p304 q304
           cases e304
           replace hx304_0:=(HB.out.cell (bl_ w _ hx304_0)).trans hx304_0
           replace hx304_1:=(HB.out.cell (bl_ w _ hx304_1)).trans hx304_1
           replace hx304_2:=(HB.out.cell (bl_ w _ hx304_2)).trans hx304_2
           replace hx304_3:=(HB.out.cell (bl_ w _ hx304_3)).trans hx304_3
           replace hx304_4:=(HB.out.cell (bl_ w _ hx304_4)).trans hx304_4
           replace hx304_5:=(HB.out.cell (bl_ w _ hx304_5)).trans hx304_5
           have HR304_4:=A_ hi304_4
           have HC304_4:=A_ hl304_4
           clear hi304_4 hl304_4
           have HR304_5:=A_ hi304_5
           have HC304_5:=A_ hl304_5
           clear hi304_5 hl304_5
           replace p304:=eq_true p304
           replace q304:=eq_true q304
           have p305:0≤(x5_1:Int):=od_ (by first|(with_reducible assumption)|assumption)
           have q305:x5_1<(l0.length:Int):=od_ (by first|(with_reducible assumption)|assumption)
           obtain ⟨ad305,A305_4,c305_4,A305_5,c305_5,e305,hx305_0,hx305_1,hx305_2,hx305_3,hx305_4,hx305_5,hl305_4,hi305_4,hl305_5,hi305_5⟩:=at_T44 HR0.out x5_1 p305 q305
           obtain rfl:ad304=ad305:=(by injection e305)
           try (have h_:=hx305_4.symm.trans hw303_4;injection h_ with h_;injection h_ with h1_ h3_ h2_;subst h1_;subst h2_)
           try (have h_:=hx305_5.symm.trans hw303_5;injection h_ with h_;injection h_ with h1_ h3_ h2_;subst h1_;subst h2_)
           replace hx305_0:=(HB.out.cell (bl_ w _ hx305_0)).trans hx305_0
           replace hx305_1:=(HB.out.cell (bl_ w _ hx305_1)).trans hx305_1
           replace hx305_2:=(HB.out.cell (bl_ w _ hx305_2)).trans hx305_2
           replace hx305_3:=(HB.out.cell (bl_ w _ hx305_3)).trans hx305_3
           replace hx305_4:=(HB.out.cell (bl_ w _ hx305_4)).trans hx305_4
           replace hx305_5:=(HB.out.cell (bl_ w _ hx305_5)).trans hx305_5
           have HR305_4:=A_ hi305_4
           have HC305_4:=A_ hl305_4
           clear hi305_4 hl305_4
           have HR305_5:=A_ hi305_5
           have HC305_5:=A_ hl305_5
           clear hi305_5 hl305_5
           replace p305:=eq_true p305
           replace q305:=eq_true q305
           have ea_:=oi_ (hx304_4.symm.trans hx305_4)
           injection ea_ with ea_ en_ ec_
           subst ea_
           subst ec_
           clear en_
           have ea_:=oi_ (hx304_5.symm.trans hx305_5)
           injection ea_ with ea_ en_ ec_
           subst ea_
           subst ec_
           clear en_
           try go_wp2
           have n0_:=A_ (b1_ HB.out)
           clear HB
           have HB:=n0_
           clear n0_
           have p306:0≤(x5_1:Int):=od_ (by first|(with_reducible assumption)|assumption)
           have q306:x5_1<(l0.length:Int):=od_ (by first|(with_reducible assumption)|assumption)
           obtain ⟨ad306,A306_4,c306_4,A306_5,c306_5,e306,hx306_0,hx306_1,hx306_2,hx306_3,hx306_4,hx306_5,hl306_4,hi306_4,hl306_5,hi306_5⟩:=at_T44 HR0.out x5_1 p306 q306
           have hw306_5:=hx306_5
           have hw306_4:=hx306_4
           have hw306_3:=hx306_3
           have hw306_2:=hx306_2
           have hw306_1:=hx306_1
           have hw306_0:=hx306_0
           obtain rfl:ad304=ad306:=(by injection e306)
           try (have h_:=hx306_4.symm.trans hw304_4;injection h_ with h_;injection h_ with h1_ h3_ h2_;subst h1_;subst h2_)
           try (have h_:=hx306_5.symm.trans hw304_5;injection h_ with h_;injection h_ with h1_ h3_ h2_;subst h1_;subst h2_)
           replace hx306_0:=(HB.out.cell (bl_ w _ hx306_0)).trans hx306_0
           replace hx306_1:=(HB.out.cell (bl_ w _ hx306_1)).trans hx306_1
           replace hx306_2:=(HB.out.cell (bl_ w _ hx306_2)).trans hx306_2
           replace hx306_3:=(HB.out.cell (bl_ w _ hx306_3)).trans hx306_3
           replace hx306_4:=(HB.out.cell (bl_ w _ hx306_4)).trans hx306_4
           replace hx306_5:=(HB.out.cell (bl_ w _ hx306_5)).trans hx306_5
           have HR306_4:=A_ hi306_4
           have HC306_4:=A_ hl306_4
           clear hi306_4 hl306_4
           have HR306_5:=A_ hi306_5
           have HC306_5:=A_ hl306_5
           clear hi306_5 hl306_5
           replace p306:=eq_true p306
           replace q306:=eq_true q306
           refine start_ (n:=8) (S:=fun w'=>w'.cell? (ad304.add ((x5_1).toNat * 6))=some (.int .i64 ((rd_T44 l0 x5_1).f0))∧w'.cell? ⟨(ad304.add ((x5_1).toNat * 6)).block,(ad304.add ((x5_1).toNat * 6)).off+1,none⟩=some (.int .i64 ((rd_T44 l0 x5_1).f1))∧w'.cell? ⟨(ad304.add ((x5_1).toNat * 6)).block,(ad304.add ((x5_1).toNat * 6)).off+2,none⟩=some (.string ((rd_T44 l0 x5_1).f2))∧w'.cell? ⟨(ad304.add ((x5_1).toNat * 6)).block,(ad304.add ((x5_1).toNat * 6)).off+3,none⟩=some (.string ((rd_T44 l0 x5_1).f3))∧w'.cell? ⟨(ad304.add ((x5_1).toNat * 6)).block,(ad304.add ((x5_1).toNat * 6)).off+4,none⟩=some (.slice A306_4 ((rd_T44 l0 x5_1).f4).length c306_4)∧w'.cell? ⟨(ad304.add ((x5_1).toNat * 6)).block,(ad304.add ((x5_1).toNat * 6)).off+5,none⟩=some (.slice A306_5 ((rd_T44 l0 x5_1).f5).length c306_5)) (ds:=[]) #[F_,F_,F_,F_,F_,F_,F_,F_] (by kernel_rfl) rfl rfl ⟨((HB.out.cell (bl_ w _ hw306_0)).trans hw306_0),((HB.out.cell (bl_ w _ hw306_1)).trans hw306_1),((HB.out.cell (bl_ w _ hw306_2)).trans hw306_2),((HB.out.cell (bl_ w _ hw306_3)).trans hw306_3),((HB.out.cell (bl_ w _ hw306_4)).trans hw306_4),((HB.out.cell (bl_ w _ hw306_5)).trans hw306_5)⟩ (fun hHeld=>?_);refine with_tabW laws_heldNodeS.tab10 laws_heldNodeS.bits10 (fun HT_ HW_=>?_)
           generalize wr.drew=w26 at HB HR306_4 HR306_5 hx306_0 hx306_1 hx306_2 hx306_3 hx306_4 hx306_5 hHeld ⊢
           refine pure_ (i:=0) (N:=some 30) (v:=?_) (a':=?_) #[T_,F_,F_,F_,F_,F_,F_,F_] rfl rfl (any_of HT_.out (by kernel_rfl)) (fun _ _ _ h=>h) (Or.inl ⟨by rfl,?_⟩) ?_ ?_
           rotate_left
           ·intro w'
            go_simp
            with_reducible rfl
           rotate_left
           ·simp only [Act.put,ls_,lz_,lc_,i64_w,i32_w]
            rfl
           refine pure_ (i:=1) (N:=some 31) (v:=?_) (a':=?_) #[T_,T_,F_,F_,F_,F_,F_,F_] rfl rfl (any_of HT_.out (by kernel_rfl)) (fun _ _ _ h=>h) (Or.inl ⟨by rfl,?_⟩) ?_ ?_
           rotate_left
           ·intro w'
            go_simp
            with_reducible rfl
           rotate_left
           ·simp only [Act.put,ls_,lz_,lc_,i64_w,i32_w]
            rfl
           refine pure_ (i:=2) (N:=some 32) (v:=?_) (a':=?_) #[T_,T_,T_,F_,F_,F_,F_,F_] rfl rfl (any_of HT_.out (by kernel_rfl)) (fun _ _ _ h=>h) (Or.inl ⟨by rfl,?_⟩) ?_ ?_
           rotate_left
           ·intro w'
            go_simp
            with_reducible rfl
           rotate_left
           ·simp only [Act.put,ls_,lz_,lc_,i64_w,i32_w]
            rfl
           refine pure_ (i:=3) (N:=some 33) (v:=?_) (a':=?_) #[T_,T_,T_,T_,F_,F_,F_,F_] rfl rfl (any_of HT_.out (by kernel_rfl)) (fun _ _ _ h=>h) (Or.inl ⟨by rfl,?_⟩) ?_ ?_
           rotate_left
           ·intro w'
            go_simp
            with_reducible rfl
           rotate_left
           ·simp only [Act.put,ls_,lz_,lc_,i64_w,i32_w]
            rfl
           refine pure_ (i:=5) (N:=some 35) (v:=?_) (a':=?_) #[T_,T_,T_,T_,F_,T_,F_,F_] rfl rfl (any_of HT_.out (by kernel_rfl)) (fun _ _ _ h=>h) (Or.inl ⟨by rfl,?_⟩) ?_ ?_
           rotate_left
           ·intro w'
            go_simp
            with_reducible rfl
           rotate_left
           ·simp only [Act.put,ls_,lz_,lc_,i64_w,i32_w]
            rfl
           refine take_ (i:=4) (N:=some 34) (v:=?_) (a':=?_) #[T_,T_,T_,T_,T_,T_,F_,F_] rfl rfl (take_ofW HT_.out HW_.out (by kernel_rfl)) (fun _ _ _ h=>h) (Or.inl ⟨by rfl,?_⟩) hHeld ?_ ?_
           rotate_left
           ·rintro w' ⟨s0,s1,s2,s3,s4,s5⟩
            go_simp
            with_reducible rfl
           rotate_left
           ·simp only [Act.put,ls_,lz_,lc_,i64_w,i32_w]
            rfl
           refine one_ (i:=6) (N:=some 36) #[T_,T_,T_,T_,T_,T_,T_,F_] rfl rfl (one_of HT_.out (by kernel_rfl)) (by decide) (fun K hK=>?_)
           refine goes_ Try.func30 (by kernel_rfl) rfl #[.int .i64 (wrap64 ((wrap64 (x1_1+1))+1))] (by rfl) rfl rfl (by (try simp only [List.map_toArray,List.map_cons,List.map_nil]);first|done|rfl|(simp only [ld_,lt_];rfl)) ?_
           with_reducible refine (laws_markText.calls k1 (wrap64 ((wrap64 (x1_1+1))+1)) t307 _ A7.out).mono ?_
           rintro e w27 ⟨rfl,hb⟩
           refine ⟨_,rfl,?_⟩
           have n0_:=A_ (bp_ (by repeat (first|(with_reducible first|exact HB.out|apply ba_|apply pd_|apply b1_)|exact HB.out)) hb)
           clear HB
           have HB:=n0_
           clear n0_
           (try clear hb)
           (try clear hb2)
           (try clear hk)
           (try clear hi)
           refine hK.out _ _ ⟨((HB.out.cell (bl_ w _ hw306_0)).trans hw306_0),((HB.out.cell (bl_ w _ hw306_1)).trans hw306_1),((HB.out.cell (bl_ w _ hw306_2)).trans hw306_2),((HB.out.cell (bl_ w _ hw306_3)).trans hw306_3),((HB.out.cell (bl_ w _ hw306_4)).trans hw306_4),((HB.out.cell (bl_ w _ hw306_5)).trans hw306_5)⟩ (fun hHeld=>?_)
           clear hK K
           refine norm_ (a':=?_) ?_ ?_
           rotate_left
           ·show Act.put _ (some 36) _=_
            simp only [Act.put,ls_,lz_,lc_,i64_w,i32_w]
            rfl
           refine pure_ (i:=7) (N:=some 37) (v:=?_) (a':=?_) #[T_,T_,T_,T_,T_,T_,T_,T_] rfl rfl (any_of HT_.out (by kernel_rfl)) (fun _ _ _ h=>h) (Or.inl ⟨by rfl,?_⟩) ?_ ?_
           rotate_left
           ·intro w'
            go_simp
            with_reducible rfl
           rotate_left
           ·simp only [Act.put,ls_,lz_,lc_,i64_w,i32_w]
            rfl
           refine done_ (done_of HT_.out (by kernel_rfl)) ?_
           try go_wp2
           have n0_:=A_ (b1_ HB.out)
           clear HB
           have HB:=n0_
           clear n0_
           have p308:0≤(x5_1:Int):=od_ (by first|(with_reducible assumption)|assumption)
           have q308:x5_1<(l0.length:Int):=od_ (by first|(with_reducible assumption)|assumption)
           obtain ⟨ad308,A308_4,c308_4,A308_5,c308_5,e308,hx308_0,hx308_1,hx308_2,hx308_3,hx308_4,hx308_5,hl308_4,hi308_4,hl308_5,hi308_5⟩:=at_T44 HR0.out x5_1 p308 q308
           have hw308_5:=hx308_5
           have hw308_4:=hx308_4
           have hw308_3:=hx308_3
           have hw308_2:=hx308_2
           have hw308_1:=hx308_1
           have hw308_0:=hx308_0
           obtain rfl:ad304=ad308:=(by injection e308)
           try (have h_:=hx308_4.symm.trans hw306_4;injection h_ with h_;injection h_ with h1_ h3_ h2_;subst h1_;subst h2_)
           try (have h_:=hx308_5.symm.trans hw306_5;injection h_ with h_;injection h_ with h1_ h3_ h2_;subst h1_;subst h2_)
           replace hx308_0:=(HB.out.cell (bl_ w _ hx308_0)).trans hx308_0
           replace hx308_1:=(HB.out.cell (bl_ w _ hx308_1)).trans hx308_1
           replace hx308_2:=(HB.out.cell (bl_ w _ hx308_2)).trans hx308_2
           replace hx308_3:=(HB.out.cell (bl_ w _ hx308_3)).trans hx308_3
           replace hx308_4:=(HB.out.cell (bl_ w _ hx308_4)).trans hx308_4
           replace hx308_5:=(HB.out.cell (bl_ w _ hx308_5)).trans hx308_5
           have HR308_4:=A_ hi308_4
           have HC308_4:=A_ hl308_4
           clear hi308_4 hl308_4
           have HR308_5:=A_ hi308_5
           have HC308_5:=A_ hl308_5
           clear hi308_5 hl308_5
           replace p308:=eq_true p308
           replace q308:=eq_true q308
           refine start_ (n:=8) (S:=fun w'=>w'.cell? (ad304.add ((x5_1).toNat * 6))=some (.int .i64 ((rd_T44 l0 x5_1).f0))∧w'.cell? ⟨(ad304.add ((x5_1).toNat * 6)).block,(ad304.add ((x5_1).toNat * 6)).off+1,none⟩=some (.int .i64 ((rd_T44 l0 x5_1).f1))∧w'.cell? ⟨(ad304.add ((x5_1).toNat * 6)).block,(ad304.add ((x5_1).toNat * 6)).off+2,none⟩=some (.string ((rd_T44 l0 x5_1).f2))∧w'.cell? ⟨(ad304.add ((x5_1).toNat * 6)).block,(ad304.add ((x5_1).toNat * 6)).off+3,none⟩=some (.string ((rd_T44 l0 x5_1).f3))∧w'.cell? ⟨(ad304.add ((x5_1).toNat * 6)).block,(ad304.add ((x5_1).toNat * 6)).off+4,none⟩=some (.slice A308_4 ((rd_T44 l0 x5_1).f4).length c308_4)∧w'.cell? ⟨(ad304.add ((x5_1).toNat * 6)).block,(ad304.add ((x5_1).toNat * 6)).off+5,none⟩=some (.slice A308_5 ((rd_T44 l0 x5_1).f5).length c308_5)) (ds:=[]) #[F_,F_,F_,F_,F_,F_,F_,F_] (by kernel_rfl) rfl rfl ⟨((HB.out.cell (bl_ w _ hw308_0)).trans hw308_0),((HB.out.cell (bl_ w _ hw308_1)).trans hw308_1),((HB.out.cell (bl_ w _ hw308_2)).trans hw308_2),((HB.out.cell (bl_ w _ hw308_3)).trans hw308_3),((HB.out.cell (bl_ w _ hw308_4)).trans hw308_4),((HB.out.cell (bl_ w _ hw308_5)).trans hw308_5)⟩ (fun hHeld=>?_);refine with_tabW laws_heldNodeS.tab13 laws_heldNodeS.bits13 (fun HT_ HW_=>?_)
           generalize w27.drew=w28 at HB HR308_4 HR308_5 hx308_0 hx308_1 hx308_2 hx308_3 hx308_4 hx308_5 hHeld ⊢
           refine pure_ (i:=0) (N:=some 40) (v:=?_) (a':=?_) #[T_,F_,F_,F_,F_,F_,F_,F_] rfl rfl (any_of HT_.out (by kernel_rfl)) (fun _ _ _ h=>h) (Or.inl ⟨by rfl,?_⟩) ?_ ?_
           rotate_left
           ·intro w'
            go_simp
            with_reducible rfl
           rotate_left
           ·simp only [Act.put,ls_,lz_,lc_,i64_w,i32_w]
            rfl
           refine pure_ (i:=1) (N:=some 41) (v:=?_) (a':=?_) #[T_,T_,F_,F_,F_,F_,F_,F_] rfl rfl (any_of HT_.out (by kernel_rfl)) (fun _ _ _ h=>h) (Or.inl ⟨by rfl,?_⟩) ?_ ?_
           rotate_left
           ·intro w'
            go_simp
            with_reducible rfl
           rotate_left
           ·simp only [Act.put,ls_,lz_,lc_,i64_w,i32_w]
            rfl
           refine pure_ (i:=2) (N:=some 42) (v:=?_) (a':=?_) #[T_,T_,T_,F_,F_,F_,F_,F_] rfl rfl (any_of HT_.out (by kernel_rfl)) (fun _ _ _ h=>h) (Or.inl ⟨by rfl,?_⟩) ?_ ?_
           rotate_left
           ·intro w'
            go_simp
            with_reducible rfl
           rotate_left
           ·simp only [Act.put,ls_,lz_,lc_,i64_w,i32_w]
            rfl
           refine pure_ (i:=3) (N:=some 43) (v:=?_) (a':=?_) #[T_,T_,T_,T_,F_,F_,F_,F_] rfl rfl (any_of HT_.out (by kernel_rfl)) (fun _ _ _ h=>h) (Or.inl ⟨by rfl,?_⟩) ?_ ?_
           rotate_left
           ·intro w'
            go_simp
            with_reducible rfl
           rotate_left
           ·simp only [Act.put,ls_,lz_,lc_,i64_w,i32_w]
            rfl
           refine pure_ (i:=5) (N:=some 45) (v:=?_) (a':=?_) #[T_,T_,T_,T_,F_,T_,F_,F_] rfl rfl (any_of HT_.out (by kernel_rfl)) (fun _ _ _ h=>h) (Or.inl ⟨by rfl,?_⟩) ?_ ?_
           rotate_left
           ·intro w'
            go_simp
            with_reducible rfl
           rotate_left
           ·simp only [Act.put,ls_,lz_,lc_,i64_w,i32_w]
            rfl
           refine take_ (i:=4) (N:=some 44) (v:=?_) (a':=?_) #[T_,T_,T_,T_,T_,T_,F_,F_] rfl rfl (take_ofW HT_.out HW_.out (by kernel_rfl)) (fun _ _ _ h=>h) (Or.inl ⟨by rfl,?_⟩) hHeld ?_ ?_
           rotate_left
           ·rintro w' ⟨s0,s1,s2,s3,s4,s5⟩
            go_simp
            with_reducible rfl
           rotate_left
           ·simp only [Act.put,ls_,lz_,lc_,i64_w,i32_w]
            rfl
           refine one_ (i:=6) (N:=some 46) #[T_,T_,T_,T_,T_,T_,T_,F_] rfl rfl (one_of HT_.out (by kernel_rfl)) (by decide) (fun K hK=>?_)
           refine goes_ Try.func30 (by kernel_rfl) rfl #[.int .i64 (wrap64 ((wrap64 ((wrap64 (x1_1+1))+1))+1))] (by rfl) rfl rfl (by (try simp only [List.map_toArray,List.map_cons,List.map_nil]);first|done|rfl|(simp only [ld_,lt_];rfl)) ?_
           with_reducible refine (laws_markText.calls k1 (wrap64 ((wrap64 ((wrap64 (x1_1+1))+1))+1)) t309 _ A9.out).mono ?_
           rintro e w29 ⟨rfl,hb⟩
           refine ⟨_,rfl,?_⟩
           have n0_:=A_ (bp_ (by repeat (first|(with_reducible first|exact HB.out|apply ba_|apply pd_|apply b1_)|exact HB.out)) hb)
           clear HB
           have HB:=n0_
           clear n0_
           (try clear hb)
           (try clear hb2)
           (try clear hk)
           (try clear hi)
           refine hK.out _ _ ⟨((HB.out.cell (bl_ w _ hw308_0)).trans hw308_0),((HB.out.cell (bl_ w _ hw308_1)).trans hw308_1),((HB.out.cell (bl_ w _ hw308_2)).trans hw308_2),((HB.out.cell (bl_ w _ hw308_3)).trans hw308_3),((HB.out.cell (bl_ w _ hw308_4)).trans hw308_4),((HB.out.cell (bl_ w _ hw308_5)).trans hw308_5)⟩ (fun hHeld=>?_)
           clear hK K
           refine norm_ (a':=?_) ?_ ?_
           rotate_left
           ·show Act.put _ (some 46) _=_
            simp only [Act.put,ls_,lz_,lc_,i64_w,i32_w]
            rfl
           refine pure_ (i:=7) (N:=some 47) (v:=?_) (a':=?_) #[T_,T_,T_,T_,T_,T_,T_,T_] rfl rfl (any_of HT_.out (by kernel_rfl)) (fun _ _ _ h=>h) (Or.inl ⟨by rfl,?_⟩) ?_ ?_
           rotate_left
           ·intro w'
            go_simp
            with_reducible rfl
           rotate_left
           ·simp only [Act.put,ls_,lz_,lc_,i64_w,i32_w]
            rfl
           refine done_ (done_of HT_.out (by kernel_rfl)) ?_
           have p310:0≤(x5_1:Int):=od_ (by first|(with_reducible assumption)|assumption)
           have q310:x5_1<(l0.length:Int):=od_ (by first|(with_reducible assumption)|assumption)
           obtain ⟨ad310,A310_4,c310_4,A310_5,c310_5,e310,hx310_0,hx310_1,hx310_2,hx310_3,hx310_4,hx310_5,hl310_4,hi310_4,hl310_5,hi310_5⟩:=at_T44 HR0.out x5_1 p310 q310
           obtain rfl:ad304=ad310:=(by injection e310)
           try (have h_:=hx310_4.symm.trans hw308_4;injection h_ with h_;injection h_ with h1_ h3_ h2_;subst h1_;subst h2_)
           try (have h_:=hx310_5.symm.trans hw308_5;injection h_ with h_;injection h_ with h1_ h3_ h2_;subst h1_;subst h2_)
           replace hx310_0:=(HB.out.cell (bl_ w _ hx310_0)).trans hx310_0
           replace hx310_1:=(HB.out.cell (bl_ w _ hx310_1)).trans hx310_1
           replace hx310_2:=(HB.out.cell (bl_ w _ hx310_2)).trans hx310_2
           replace hx310_3:=(HB.out.cell (bl_ w _ hx310_3)).trans hx310_3
           replace hx310_4:=(HB.out.cell (bl_ w _ hx310_4)).trans hx310_4
           replace hx310_5:=(HB.out.cell (bl_ w _ hx310_5)).trans hx310_5
           have HR310_4:=A_ hi310_4
           have HC310_4:=A_ hl310_4
           clear hi310_4 hl310_4
           have HR310_5:=A_ hi310_5
           have HC310_5:=A_ hl310_5
           clear hi310_5 hl310_5
           replace p310:=eq_true p310
           replace q310:=eq_true q310
           try go_wp2_with (first|((with_reducible refine gate_callee (f:=32) rfl ?_);refine goesL_ (some 56) rfl rfl Try.func32 (by kernel_rfl) rfl #[.slice A310_4 ((rd_T44 l0 x5_1).f4).length c310_4,.int .i64 (wrap64 ((wrap64 ((wrap64 ((wrap64 (x1_1+1))+1))+1))+1))] rfl (by (try simp only [List.map_toArray,List.map_cons,List.map_nil]);first|done|rfl|(simp only [ld_,lt_];rfl)) ?_;(with_reducible refine (laws_heldAttrS.calls k1 _ _ ((rd_T44 l0 x5_1).f4) (wrap64 ((wrap64 ((wrap64 ((wrap64 (x1_1+1))+1))+1))+1)) t311 _ ?side1 ?side2 A11.out).mono ?_);(case side1=>repeat (first|exact (cb_ HR310_4.out HB.out)|(with_reducible refine ca_ ?_ _)|(with_reducible refine cn_ ?_ _)|(with_reducible refine cd_ ?_)));(case side2=>exact HC310_4.out);rintro e w30 ⟨rfl,hb⟩;refine ⟨_,rfl,?_⟩;have n0_:=A_ (bp_ (by repeat (first|(with_reducible first|exact HB.out|apply ba_|apply pd_|apply b1_)|exact HB.out)) hb);clear HB;have HB:=n0_;clear n0_;(try clear hb);(try clear hb2);(try clear hk);(try clear hi);have p312:0≤(x5_1:Int):=od_ (by first|(with_reducible assumption)|assumption);have q312:x5_1<(l0.length:Int):=od_ (by first|(with_reducible assumption)|assumption);obtain ⟨ad312,A312_4,c312_4,A312_5,c312_5,e312,hx312_0,hx312_1,hx312_2,hx312_3,hx312_4,hx312_5,hl312_4,hi312_4,hl312_5,hi312_5⟩:=at_T44 HR0.out x5_1 p312 q312;obtain rfl:ad304=ad312:=(by injection e312);replace hx312_0:=(HB.out.cell (bl_ w _ hx312_0)).trans hx312_0;replace hx312_1:=(HB.out.cell (bl_ w _ hx312_1)).trans hx312_1;replace hx312_2:=(HB.out.cell (bl_ w _ hx312_2)).trans hx312_2;replace hx312_3:=(HB.out.cell (bl_ w _ hx312_3)).trans hx312_3;replace hx312_4:=(HB.out.cell (bl_ w _ hx312_4)).trans hx312_4;replace hx312_5:=(HB.out.cell (bl_ w _ hx312_5)).trans hx312_5;have HR312_4:=A_ hi312_4;have HC312_4:=A_ hl312_4;clear hi312_4 hl312_4;have HR312_5:=A_ hi312_5;have HC312_5:=A_ hl312_5;clear hi312_5 hl312_5;replace p312:=eq_true p312;replace q312:=eq_true q312)|((with_reducible refine gate_callee (f:=14) rfl ?_);refine goesL_ (some 65) rfl rfl Try.func14 (by kernel_rfl) rfl #[.slice A312_5 ((rd_T44 l0 x5_1).f5).length c312_5,.int .i64 t311] rfl (by (try simp only [List.map_toArray,List.map_cons,List.map_nil]);first|done|rfl|(simp only [ld_,lt_];rfl)) ?_;(with_reducible refine (ih k1 (by have:=HK1.out;omega) _ _ ((rd_T44 l0 x5_1).f5) t311 t313 _ ?side1 ?side2 A18.out).mono ?_);(case side1=>repeat (first|exact (cb_ HR312_5.out HB.out)|(with_reducible refine ca_ ?_ _)|(with_reducible refine cn_ ?_ _)|(with_reducible refine cd_ ?_)));(case side2=>exact HC312_5.out);rintro e w31 ⟨rfl,hb⟩;refine ⟨_,rfl,?_⟩;have n0_:=A_ (bp_ (by repeat (first|(with_reducible first|exact HB.out|apply ba_|apply pd_|apply b1_)|exact HB.out)) hb);clear HB;have HB:=n0_;clear n0_;(try clear hb);(try clear hb2);(try clear hk);(try clear hi)))
           go_roundg k1
           case measure=>have:=HK1.out;omega
           case rel=>exact ⟨(t313),(wrap64 (x5_1+1)),(by first|rfl|(simp;done)|(simp [*];done)),(by first|rfl|(simp;done)|(simp [*];done)),H',⟨by have:=HK1.out;omega⟩,⟨by repeat (first|(with_reducible first|exact HB.out|apply ba_|apply pd_|apply b1_)|exact HB.out)⟩⟩
        ·rw [if_neg c10] at H
         have c10b0:(((rd_T44 l0 x5_1).f3).toList == t309.toList)=false:=beq_eq_false_iff_ne.mpr c10
         have c10b1:(((rd_T44 l0 x5_1).f3).toList != t309.toList)=true:=bne_iff_ne.mpr c10
         obtain rfl:=oi_ H
         have p304:0≤(x5_1:Int):=od_ (by first|(with_reducible assumption)|assumption)
         have q304:x5_1<(l0.length:Int):=od_ (by first|(with_reducible assumption)|assumption)
         obtain ⟨ad304,A304_4,c304_4,A304_5,c304_5,e304,hx304_0,hx304_1,hx304_2,hx304_3,hx304_4,hx304_5,hl304_4,hi304_4,hl304_5,hi304_5⟩:=at_T44 HR0.out x5_1 p304 q304
         cases e304
         replace hx304_0:=(HB.out.cell (bl_ w _ hx304_0)).trans hx304_0
         replace hx304_1:=(HB.out.cell (bl_ w _ hx304_1)).trans hx304_1
         replace hx304_2:=(HB.out.cell (bl_ w _ hx304_2)).trans hx304_2
         replace hx304_3:=(HB.out.cell (bl_ w _ hx304_3)).trans hx304_3
         replace hx304_4:=(HB.out.cell (bl_ w _ hx304_4)).trans hx304_4
         replace hx304_5:=(HB.out.cell (bl_ w _ hx304_5)).trans hx304_5
         have HR304_4:=A_ hi304_4
         have HC304_4:=A_ hl304_4
         clear hi304_4 hl304_4
         have HR304_5:=A_ hi304_5
         have HC304_5:=A_ hl304_5
         clear hi304_5 hl304_5
         replace p304:=eq_true p304
         replace q304:=eq_true q304
         have p305:0≤(x5_1:Int):=od_ (by first|(with_reducible assumption)|assumption)
         have q305:x5_1<(l0.length:Int):=od_ (by first|(with_reducible assumption)|assumption)
         obtain ⟨ad305,A305_4,c305_4,A305_5,c305_5,e305,hx305_0,hx305_1,hx305_2,hx305_3,hx305_4,hx305_5,hl305_4,hi305_4,hl305_5,hi305_5⟩:=at_T44 HR0.out x5_1 p305 q305
         obtain rfl:ad304=ad305:=(by injection e305)
         try (have h_:=hx305_4.symm.trans hw303_4;injection h_ with h_;injection h_ with h1_ h3_ h2_;subst h1_;subst h2_)
         try (have h_:=hx305_5.symm.trans hw303_5;injection h_ with h_;injection h_ with h1_ h3_ h2_;subst h1_;subst h2_)
         replace hx305_0:=(HB.out.cell (bl_ w _ hx305_0)).trans hx305_0
         replace hx305_1:=(HB.out.cell (bl_ w _ hx305_1)).trans hx305_1
         replace hx305_2:=(HB.out.cell (bl_ w _ hx305_2)).trans hx305_2
         replace hx305_3:=(HB.out.cell (bl_ w _ hx305_3)).trans hx305_3
         replace hx305_4:=(HB.out.cell (bl_ w _ hx305_4)).trans hx305_4
         replace hx305_5:=(HB.out.cell (bl_ w _ hx305_5)).trans hx305_5
         have HR305_4:=A_ hi305_4
         have HC305_4:=A_ hl305_4
         clear hi305_4 hl305_4
         have HR305_5:=A_ hi305_5
         have HC305_5:=A_ hl305_5
         clear hi305_5 hl305_5
         replace p305:=eq_true p305
         replace q305:=eq_true q305
         have ea_:=oi_ (hx304_4.symm.trans hx305_4)
         injection ea_ with ea_ en_ ec_
         subst ea_
         subst ec_
         clear en_
         have ea_:=oi_ (hx304_5.symm.trans hx305_5)
         injection ea_ with ea_ en_ ec_
         subst ea_
         subst ec_
         clear en_
         try go_wp2
         have n0_:=A_ (b1_ HB.out)
         clear HB
         have HB:=n0_
         clear n0_
         have p306:0≤(x5_1:Int):=od_ (by first|(with_reducible assumption)|assumption)
         have q306:x5_1<(l0.length:Int):=od_ (by first|(with_reducible assumption)|assumption)
         obtain ⟨ad306,A306_4,c306_4,A306_5,c306_5,e306,hx306_0,hx306_1,hx306_2,hx306_3,hx306_4,hx306_5,hl306_4,hi306_4,hl306_5,hi306_5⟩:=at_T44 HR0.out x5_1 p306 q306
         have hw306_5:=hx306_5
         have hw306_4:=hx306_4
         have hw306_3:=hx306_3
         have hw306_2:=hx306_2
         have hw306_1:=hx306_1
         have hw306_0:=hx306_0
         obtain rfl:ad304=ad306:=(by injection e306)
         try (have h_:=hx306_4.symm.trans hw304_4;injection h_ with h_;injection h_ with h1_ h3_ h2_;subst h1_;subst h2_)
         try (have h_:=hx306_5.symm.trans hw304_5;injection h_ with h_;injection h_ with h1_ h3_ h2_;subst h1_;subst h2_)
         replace hx306_0:=(HB.out.cell (bl_ w _ hx306_0)).trans hx306_0
         replace hx306_1:=(HB.out.cell (bl_ w _ hx306_1)).trans hx306_1
         replace hx306_2:=(HB.out.cell (bl_ w _ hx306_2)).trans hx306_2
         replace hx306_3:=(HB.out.cell (bl_ w _ hx306_3)).trans hx306_3
         replace hx306_4:=(HB.out.cell (bl_ w _ hx306_4)).trans hx306_4
         replace hx306_5:=(HB.out.cell (bl_ w _ hx306_5)).trans hx306_5
         have HR306_4:=A_ hi306_4
         have HC306_4:=A_ hl306_4
         clear hi306_4 hl306_4
         have HR306_5:=A_ hi306_5
         have HC306_5:=A_ hl306_5
         clear hi306_5 hl306_5
         replace p306:=eq_true p306
         replace q306:=eq_true q306
         refine start_ (n:=8) (S:=fun w'=>w'.cell? (ad304.add ((x5_1).toNat * 6))=some (.int .i64 ((rd_T44 l0 x5_1).f0))∧w'.cell? ⟨(ad304.add ((x5_1).toNat * 6)).block,(ad304.add ((x5_1).toNat * 6)).off+1,none⟩=some (.int .i64 ((rd_T44 l0 x5_1).f1))∧w'.cell? ⟨(ad304.add ((x5_1).toNat * 6)).block,(ad304.add ((x5_1).toNat * 6)).off+2,none⟩=some (.string ((rd_T44 l0 x5_1).f2))∧w'.cell? ⟨(ad304.add ((x5_1).toNat * 6)).block,(ad304.add ((x5_1).toNat * 6)).off+3,none⟩=some (.string ((rd_T44 l0 x5_1).f3))∧w'.cell? ⟨(ad304.add ((x5_1).toNat * 6)).block,(ad304.add ((x5_1).toNat * 6)).off+4,none⟩=some (.slice A306_4 ((rd_T44 l0 x5_1).f4).length c306_4)∧w'.cell? ⟨(ad304.add ((x5_1).toNat * 6)).block,(ad304.add ((x5_1).toNat * 6)).off+5,none⟩=some (.slice A306_5 ((rd_T44 l0 x5_1).f5).length c306_5)) (ds:=[]) #[F_,F_,F_,F_,F_,F_,F_,F_] (by kernel_rfl) rfl rfl ⟨((HB.out.cell (bl_ w _ hw306_0)).trans hw306_0),((HB.out.cell (bl_ w _ hw306_1)).trans hw306_1),((HB.out.cell (bl_ w _ hw306_2)).trans hw306_2),((HB.out.cell (bl_ w _ hw306_3)).trans hw306_3),((HB.out.cell (bl_ w _ hw306_4)).trans hw306_4),((HB.out.cell (bl_ w _ hw306_5)).trans hw306_5)⟩ (fun hHeld=>?_);refine with_tabW laws_heldNodeS.tab10 laws_heldNodeS.bits10 (fun HT_ HW_=>?_)
         generalize wr.drew=w32 at HB HR306_4 HR306_5 hx306_0 hx306_1 hx306_2 hx306_3 hx306_4 hx306_5 hHeld ⊢
         refine pure_ (i:=0) (N:=some 30) (v:=?_) (a':=?_) #[T_,F_,F_,F_,F_,F_,F_,F_] rfl rfl (any_of HT_.out (by kernel_rfl)) (fun _ _ _ h=>h) (Or.inl ⟨by rfl,?_⟩) ?_ ?_
         rotate_left
         ·intro w'
          go_simp
          with_reducible rfl
         rotate_left
         ·simp only [Act.put,ls_,lz_,lc_,i64_w,i32_w]
          rfl
         refine pure_ (i:=1) (N:=some 31) (v:=?_) (a':=?_) #[T_,T_,F_,F_,F_,F_,F_,F_] rfl rfl (any_of HT_.out (by kernel_rfl)) (fun _ _ _ h=>h) (Or.inl ⟨by rfl,?_⟩) ?_ ?_
         rotate_left
         ·intro w'
          go_simp
          with_reducible rfl
         rotate_left
         ·simp only [Act.put,ls_,lz_,lc_,i64_w,i32_w]
          rfl
         refine pure_ (i:=2) (N:=some 32) (v:=?_) (a':=?_) #[T_,T_,T_,F_,F_,F_,F_,F_] rfl rfl (any_of HT_.out (by kernel_rfl)) (fun _ _ _ h=>h) (Or.inl ⟨by rfl,?_⟩) ?_ ?_
         rotate_left
         ·intro w'
          go_simp
          with_reducible rfl
         rotate_left
         ·simp only [Act.put,ls_,lz_,lc_,i64_w,i32_w]
          rfl
         refine pure_ (i:=3) (N:=some 33) (v:=?_) (a':=?_) #[T_,T_,T_,T_,F_,F_,F_,F_] rfl rfl (any_of HT_.out (by kernel_rfl)) (fun _ _ _ h=>h) (Or.inl ⟨by rfl,?_⟩) ?_ ?_
         rotate_left
         ·intro w'
          go_simp
          with_reducible rfl
         rotate_left
         ·simp only [Act.put,ls_,lz_,lc_,i64_w,i32_w]
          rfl
         refine pure_ (i:=5) (N:=some 35) (v:=?_) (a':=?_) #[T_,T_,T_,T_,F_,T_,F_,F_] rfl rfl (any_of HT_.out (by kernel_rfl)) (fun _ _ _ h=>h) (Or.inl ⟨by rfl,?_⟩) ?_ ?_
         rotate_left
         ·intro w'
          go_simp
          with_reducible rfl
         rotate_left
         ·simp only [Act.put,ls_,lz_,lc_,i64_w,i32_w]
          rfl
         refine take_ (i:=4) (N:=some 34) (v:=?_) (a':=?_) #[T_,T_,T_,T_,T_,T_,F_,F_] rfl rfl (take_ofW HT_.out HW_.out (by kernel_rfl)) (fun _ _ _ h=>h) (Or.inl ⟨by rfl,?_⟩) hHeld ?_ ?_
         rotate_left
         ·rintro w' ⟨s0,s1,s2,s3,s4,s5⟩
          go_simp
          with_reducible rfl
         rotate_left
         ·simp only [Act.put,ls_,lz_,lc_,i64_w,i32_w]
          rfl
         refine one_ (i:=6) (N:=some 36) #[T_,T_,T_,T_,T_,T_,T_,F_] rfl rfl (one_of HT_.out (by kernel_rfl)) (by decide) (fun K hK=>?_)
         refine goes_ Try.func30 (by kernel_rfl) rfl #[.int .i64 (wrap64 ((wrap64 (x1_1+1))+1))] (by rfl) rfl rfl (by (try simp only [List.map_toArray,List.map_cons,List.map_nil]);first|done|rfl|(simp only [ld_,lt_];rfl)) ?_
         with_reducible refine (laws_markText.calls k1 (wrap64 ((wrap64 (x1_1+1))+1)) t307 _ A7.out).mono ?_
         rintro e w33 ⟨rfl,hb⟩
         refine ⟨_,rfl,?_⟩
         have n0_:=A_ (bp_ (by repeat (first|(with_reducible first|exact HB.out|apply ba_|apply pd_|apply b1_)|exact HB.out)) hb)
         clear HB
         have HB:=n0_
         clear n0_
         (try clear hb)
         (try clear hb2)
         (try clear hk)
         (try clear hi)
         refine hK.out _ _ ⟨((HB.out.cell (bl_ w _ hw306_0)).trans hw306_0),((HB.out.cell (bl_ w _ hw306_1)).trans hw306_1),((HB.out.cell (bl_ w _ hw306_2)).trans hw306_2),((HB.out.cell (bl_ w _ hw306_3)).trans hw306_3),((HB.out.cell (bl_ w _ hw306_4)).trans hw306_4),((HB.out.cell (bl_ w _ hw306_5)).trans hw306_5)⟩ (fun hHeld=>?_)
         clear hK K
         refine norm_ (a':=?_) ?_ ?_
         rotate_left
         ·show Act.put _ (some 36) _=_
          simp only [Act.put,ls_,lz_,lc_,i64_w,i32_w]
          rfl
         refine pure_ (i:=7) (N:=some 37) (v:=?_) (a':=?_) #[T_,T_,T_,T_,T_,T_,T_,T_] rfl rfl (any_of HT_.out (by kernel_rfl)) (fun _ _ _ h=>h) (Or.inl ⟨by rfl,?_⟩) ?_ ?_
         rotate_left
         ·intro w'
          go_simp
          with_reducible rfl
         rotate_left
         ·simp only [Act.put,ls_,lz_,lc_,i64_w,i32_w]
          rfl
         refine done_ (done_of HT_.out (by kernel_rfl)) ?_
         try go_wp2
         have n0_:=A_ (b1_ HB.out)
         clear HB
         have HB:=n0_
         clear n0_
         have p308:0≤(x5_1:Int):=od_ (by first|(with_reducible assumption)|assumption)
         have q308:x5_1<(l0.length:Int):=od_ (by first|(with_reducible assumption)|assumption)
         obtain ⟨ad308,A308_4,c308_4,A308_5,c308_5,e308,hx308_0,hx308_1,hx308_2,hx308_3,hx308_4,hx308_5,hl308_4,hi308_4,hl308_5,hi308_5⟩:=at_T44 HR0.out x5_1 p308 q308
         have hw308_5:=hx308_5
         have hw308_4:=hx308_4
         have hw308_3:=hx308_3
         have hw308_2:=hx308_2
         have hw308_1:=hx308_1
         have hw308_0:=hx308_0
         obtain rfl:ad304=ad308:=(by injection e308)
         try (have h_:=hx308_4.symm.trans hw306_4;injection h_ with h_;injection h_ with h1_ h3_ h2_;subst h1_;subst h2_)
         try (have h_:=hx308_5.symm.trans hw306_5;injection h_ with h_;injection h_ with h1_ h3_ h2_;subst h1_;subst h2_)
         replace hx308_0:=(HB.out.cell (bl_ w _ hx308_0)).trans hx308_0
         replace hx308_1:=(HB.out.cell (bl_ w _ hx308_1)).trans hx308_1
         replace hx308_2:=(HB.out.cell (bl_ w _ hx308_2)).trans hx308_2
         replace hx308_3:=(HB.out.cell (bl_ w _ hx308_3)).trans hx308_3
         replace hx308_4:=(HB.out.cell (bl_ w _ hx308_4)).trans hx308_4
         replace hx308_5:=(HB.out.cell (bl_ w _ hx308_5)).trans hx308_5
         have HR308_4:=A_ hi308_4
         have HC308_4:=A_ hl308_4
         clear hi308_4 hl308_4
         have HR308_5:=A_ hi308_5
         have HC308_5:=A_ hl308_5
         clear hi308_5 hl308_5
         replace p308:=eq_true p308
         replace q308:=eq_true q308
         refine start_ (n:=8) (S:=fun w'=>w'.cell? (ad304.add ((x5_1).toNat * 6))=some (.int .i64 ((rd_T44 l0 x5_1).f0))∧w'.cell? ⟨(ad304.add ((x5_1).toNat * 6)).block,(ad304.add ((x5_1).toNat * 6)).off+1,none⟩=some (.int .i64 ((rd_T44 l0 x5_1).f1))∧w'.cell? ⟨(ad304.add ((x5_1).toNat * 6)).block,(ad304.add ((x5_1).toNat * 6)).off+2,none⟩=some (.string ((rd_T44 l0 x5_1).f2))∧w'.cell? ⟨(ad304.add ((x5_1).toNat * 6)).block,(ad304.add ((x5_1).toNat * 6)).off+3,none⟩=some (.string ((rd_T44 l0 x5_1).f3))∧w'.cell? ⟨(ad304.add ((x5_1).toNat * 6)).block,(ad304.add ((x5_1).toNat * 6)).off+4,none⟩=some (.slice A308_4 ((rd_T44 l0 x5_1).f4).length c308_4)∧w'.cell? ⟨(ad304.add ((x5_1).toNat * 6)).block,(ad304.add ((x5_1).toNat * 6)).off+5,none⟩=some (.slice A308_5 ((rd_T44 l0 x5_1).f5).length c308_5)) (ds:=[]) #[F_,F_,F_,F_,F_,F_,F_,F_] (by kernel_rfl) rfl rfl ⟨((HB.out.cell (bl_ w _ hw308_0)).trans hw308_0),((HB.out.cell (bl_ w _ hw308_1)).trans hw308_1),((HB.out.cell (bl_ w _ hw308_2)).trans hw308_2),((HB.out.cell (bl_ w _ hw308_3)).trans hw308_3),((HB.out.cell (bl_ w _ hw308_4)).trans hw308_4),((HB.out.cell (bl_ w _ hw308_5)).trans hw308_5)⟩ (fun hHeld=>?_);refine with_tabW laws_heldNodeS.tab13 laws_heldNodeS.bits13 (fun HT_ HW_=>?_)
         generalize w33.drew=w34 at HB HR308_4 HR308_5 hx308_0 hx308_1 hx308_2 hx308_3 hx308_4 hx308_5 hHeld ⊢
         refine pure_ (i:=0) (N:=some 40) (v:=?_) (a':=?_) #[T_,F_,F_,F_,F_,F_,F_,F_] rfl rfl (any_of HT_.out (by kernel_rfl)) (fun _ _ _ h=>h) (Or.inl ⟨by rfl,?_⟩) ?_ ?_
         rotate_left
         ·intro w'
          go_simp
          with_reducible rfl
         rotate_left
         ·simp only [Act.put,ls_,lz_,lc_,i64_w,i32_w]
          rfl
         refine pure_ (i:=1) (N:=some 41) (v:=?_) (a':=?_) #[T_,T_,F_,F_,F_,F_,F_,F_] rfl rfl (any_of HT_.out (by kernel_rfl)) (fun _ _ _ h=>h) (Or.inl ⟨by rfl,?_⟩) ?_ ?_
         rotate_left
         ·intro w'
          go_simp
          with_reducible rfl
         rotate_left
         ·simp only [Act.put,ls_,lz_,lc_,i64_w,i32_w]
          rfl
         refine pure_ (i:=2) (N:=some 42) (v:=?_) (a':=?_) #[T_,T_,T_,F_,F_,F_,F_,F_] rfl rfl (any_of HT_.out (by kernel_rfl)) (fun _ _ _ h=>h) (Or.inl ⟨by rfl,?_⟩) ?_ ?_
         rotate_left
         ·intro w'
          go_simp
          with_reducible rfl
         rotate_left
         ·simp only [Act.put,ls_,lz_,lc_,i64_w,i32_w]
          rfl
         refine pure_ (i:=3) (N:=some 43) (v:=?_) (a':=?_) #[T_,T_,T_,T_,F_,F_,F_,F_] rfl rfl (any_of HT_.out (by kernel_rfl)) (fun _ _ _ h=>h) (Or.inl ⟨by rfl,?_⟩) ?_ ?_
         rotate_left
         ·intro w'
          go_simp
          with_reducible rfl
         rotate_left
         ·simp only [Act.put,ls_,lz_,lc_,i64_w,i32_w]
          rfl
         refine pure_ (i:=5) (N:=some 45) (v:=?_) (a':=?_) #[T_,T_,T_,T_,F_,T_,F_,F_] rfl rfl (any_of HT_.out (by kernel_rfl)) (fun _ _ _ h=>h) (Or.inl ⟨by rfl,?_⟩) ?_ ?_
         rotate_left
         ·intro w'
          go_simp
          with_reducible rfl
         rotate_left
         ·simp only [Act.put,ls_,lz_,lc_,i64_w,i32_w]
          rfl
         refine take_ (i:=4) (N:=some 44) (v:=?_) (a':=?_) #[T_,T_,T_,T_,T_,T_,F_,F_] rfl rfl (take_ofW HT_.out HW_.out (by kernel_rfl)) (fun _ _ _ h=>h) (Or.inl ⟨by rfl,?_⟩) hHeld ?_ ?_
         rotate_left
         ·rintro w' ⟨s0,s1,s2,s3,s4,s5⟩
          go_simp
          with_reducible rfl
         rotate_left
         ·simp only [Act.put,ls_,lz_,lc_,i64_w,i32_w]
          rfl
         refine one_ (i:=6) (N:=some 46) #[T_,T_,T_,T_,T_,T_,T_,F_] rfl rfl (one_of HT_.out (by kernel_rfl)) (by decide) (fun K hK=>?_)
         refine goes_ Try.func30 (by kernel_rfl) rfl #[.int .i64 (wrap64 ((wrap64 ((wrap64 (x1_1+1))+1))+1))] (by rfl) rfl rfl (by (try simp only [List.map_toArray,List.map_cons,List.map_nil]);first|done|rfl|(simp only [ld_,lt_];rfl)) ?_
         with_reducible refine (laws_markText.calls k1 (wrap64 ((wrap64 ((wrap64 (x1_1+1))+1))+1)) t309 _ A9.out).mono ?_
         rintro e w35 ⟨rfl,hb⟩
         refine ⟨_,rfl,?_⟩
         have n0_:=A_ (bp_ (by repeat (first|(with_reducible first|exact HB.out|apply ba_|apply pd_|apply b1_)|exact HB.out)) hb)
         clear HB
         have HB:=n0_
         clear n0_
         (try clear hb)
         (try clear hb2)
         (try clear hk)
         (try clear hi)
         refine hK.out _ _ ⟨((HB.out.cell (bl_ w _ hw308_0)).trans hw308_0),((HB.out.cell (bl_ w _ hw308_1)).trans hw308_1),((HB.out.cell (bl_ w _ hw308_2)).trans hw308_2),((HB.out.cell (bl_ w _ hw308_3)).trans hw308_3),((HB.out.cell (bl_ w _ hw308_4)).trans hw308_4),((HB.out.cell (bl_ w _ hw308_5)).trans hw308_5)⟩ (fun hHeld=>?_)
         clear hK K
         refine norm_ (a':=?_) ?_ ?_
         rotate_left
         ·show Act.put _ (some 46) _=_
          simp only [Act.put,ls_,lz_,lc_,i64_w,i32_w]
          rfl
         refine pure_ (i:=7) (N:=some 47) (v:=?_) (a':=?_) #[T_,T_,T_,T_,T_,T_,T_,T_] rfl rfl (any_of HT_.out (by kernel_rfl)) (fun _ _ _ h=>h) (Or.inl ⟨by rfl,?_⟩) ?_ ?_
         rotate_left
         ·intro w'
          go_simp
          with_reducible rfl
         rotate_left
         ·simp only [Act.put,ls_,lz_,lc_,i64_w,i32_w]
          rfl
         refine done_ (done_of HT_.out (by kernel_rfl)) ?_
         try go_wp2
         go_ret
         exact ⟨by first|rfl|(simp [errW_none,errW_some] <;> rfl)|(simp [*,errW_none,errW_some] <;> rfl),by repeat (first|(with_reducible first|exact HB.out|apply ba_|apply pd_|apply b1_)|exact HB.out)⟩
       ·rw [if_neg c8] at H
        have c8b0:(((rd_T44 l0 x5_1).f2).toList == t307.toList)=false:=beq_eq_false_iff_ne.mpr c8
        have c8b1:(((rd_T44 l0 x5_1).f2).toList != t307.toList)=true:=bne_iff_ne.mpr c8
        obtain rfl:=oi_ H
        have p304:0≤(x5_1:Int):=od_ (by first|(with_reducible assumption)|assumption)
        have q304:x5_1<(l0.length:Int):=od_ (by first|(with_reducible assumption)|assumption)
        obtain ⟨ad304,A304_4,c304_4,A304_5,c304_5,e304,hx304_0,hx304_1,hx304_2,hx304_3,hx304_4,hx304_5,hl304_4,hi304_4,hl304_5,hi304_5⟩:=at_T44 HR0.out x5_1 p304 q304
        cases e304
        replace hx304_0:=(HB.out.cell (bl_ w _ hx304_0)).trans hx304_0
        replace hx304_1:=(HB.out.cell (bl_ w _ hx304_1)).trans hx304_1
        replace hx304_2:=(HB.out.cell (bl_ w _ hx304_2)).trans hx304_2
        replace hx304_3:=(HB.out.cell (bl_ w _ hx304_3)).trans hx304_3
        replace hx304_4:=(HB.out.cell (bl_ w _ hx304_4)).trans hx304_4
        replace hx304_5:=(HB.out.cell (bl_ w _ hx304_5)).trans hx304_5
        have HR304_4:=A_ hi304_4
        have HC304_4:=A_ hl304_4
        clear hi304_4 hl304_4
        have HR304_5:=A_ hi304_5
        have HC304_5:=A_ hl304_5
        clear hi304_5 hl304_5
        replace p304:=eq_true p304
        replace q304:=eq_true q304
        have p305:0≤(x5_1:Int):=od_ (by first|(with_reducible assumption)|assumption)
        have q305:x5_1<(l0.length:Int):=od_ (by first|(with_reducible assumption)|assumption)
        obtain ⟨ad305,A305_4,c305_4,A305_5,c305_5,e305,hx305_0,hx305_1,hx305_2,hx305_3,hx305_4,hx305_5,hl305_4,hi305_4,hl305_5,hi305_5⟩:=at_T44 HR0.out x5_1 p305 q305
        obtain rfl:ad304=ad305:=(by injection e305)
        try (have h_:=hx305_4.symm.trans hw303_4;injection h_ with h_;injection h_ with h1_ h3_ h2_;subst h1_;subst h2_)
        try (have h_:=hx305_5.symm.trans hw303_5;injection h_ with h_;injection h_ with h1_ h3_ h2_;subst h1_;subst h2_)
        replace hx305_0:=(HB.out.cell (bl_ w _ hx305_0)).trans hx305_0
        replace hx305_1:=(HB.out.cell (bl_ w _ hx305_1)).trans hx305_1
        replace hx305_2:=(HB.out.cell (bl_ w _ hx305_2)).trans hx305_2
        replace hx305_3:=(HB.out.cell (bl_ w _ hx305_3)).trans hx305_3
        replace hx305_4:=(HB.out.cell (bl_ w _ hx305_4)).trans hx305_4
        replace hx305_5:=(HB.out.cell (bl_ w _ hx305_5)).trans hx305_5
        have HR305_4:=A_ hi305_4
        have HC305_4:=A_ hl305_4
        clear hi305_4 hl305_4
        have HR305_5:=A_ hi305_5
        have HC305_5:=A_ hl305_5
        clear hi305_5 hl305_5
        replace p305:=eq_true p305
        replace q305:=eq_true q305
        have ea_:=oi_ (hx304_4.symm.trans hx305_4)
        injection ea_ with ea_ en_ ec_
        subst ea_
        subst ec_
        clear en_
        have ea_:=oi_ (hx304_5.symm.trans hx305_5)
        injection ea_ with ea_ en_ ec_
        subst ea_
        subst ec_
        clear en_
        try go_wp2
        have n0_:=A_ (b1_ HB.out)
        clear HB
        have HB:=n0_
        clear n0_
        have p306:0≤(x5_1:Int):=od_ (by first|(with_reducible assumption)|assumption)
        have q306:x5_1<(l0.length:Int):=od_ (by first|(with_reducible assumption)|assumption)
        obtain ⟨ad306,A306_4,c306_4,A306_5,c306_5,e306,hx306_0,hx306_1,hx306_2,hx306_3,hx306_4,hx306_5,hl306_4,hi306_4,hl306_5,hi306_5⟩:=at_T44 HR0.out x5_1 p306 q306
        have hw306_5:=hx306_5
        have hw306_4:=hx306_4
        have hw306_3:=hx306_3
        have hw306_2:=hx306_2
        have hw306_1:=hx306_1
        have hw306_0:=hx306_0
        obtain rfl:ad304=ad306:=(by injection e306)
        try (have h_:=hx306_4.symm.trans hw304_4;injection h_ with h_;injection h_ with h1_ h3_ h2_;subst h1_;subst h2_)
        try (have h_:=hx306_5.symm.trans hw304_5;injection h_ with h_;injection h_ with h1_ h3_ h2_;subst h1_;subst h2_)
        replace hx306_0:=(HB.out.cell (bl_ w _ hx306_0)).trans hx306_0
        replace hx306_1:=(HB.out.cell (bl_ w _ hx306_1)).trans hx306_1
        replace hx306_2:=(HB.out.cell (bl_ w _ hx306_2)).trans hx306_2
        replace hx306_3:=(HB.out.cell (bl_ w _ hx306_3)).trans hx306_3
        replace hx306_4:=(HB.out.cell (bl_ w _ hx306_4)).trans hx306_4
        replace hx306_5:=(HB.out.cell (bl_ w _ hx306_5)).trans hx306_5
        have HR306_4:=A_ hi306_4
        have HC306_4:=A_ hl306_4
        clear hi306_4 hl306_4
        have HR306_5:=A_ hi306_5
        have HC306_5:=A_ hl306_5
        clear hi306_5 hl306_5
        replace p306:=eq_true p306
        replace q306:=eq_true q306
        refine start_ (n:=8) (S:=fun w'=>w'.cell? (ad304.add ((x5_1).toNat * 6))=some (.int .i64 ((rd_T44 l0 x5_1).f0))∧w'.cell? ⟨(ad304.add ((x5_1).toNat * 6)).block,(ad304.add ((x5_1).toNat * 6)).off+1,none⟩=some (.int .i64 ((rd_T44 l0 x5_1).f1))∧w'.cell? ⟨(ad304.add ((x5_1).toNat * 6)).block,(ad304.add ((x5_1).toNat * 6)).off+2,none⟩=some (.string ((rd_T44 l0 x5_1).f2))∧w'.cell? ⟨(ad304.add ((x5_1).toNat * 6)).block,(ad304.add ((x5_1).toNat * 6)).off+3,none⟩=some (.string ((rd_T44 l0 x5_1).f3))∧w'.cell? ⟨(ad304.add ((x5_1).toNat * 6)).block,(ad304.add ((x5_1).toNat * 6)).off+4,none⟩=some (.slice A306_4 ((rd_T44 l0 x5_1).f4).length c306_4)∧w'.cell? ⟨(ad304.add ((x5_1).toNat * 6)).block,(ad304.add ((x5_1).toNat * 6)).off+5,none⟩=some (.slice A306_5 ((rd_T44 l0 x5_1).f5).length c306_5)) (ds:=[]) #[F_,F_,F_,F_,F_,F_,F_,F_] (by kernel_rfl) rfl rfl ⟨((HB.out.cell (bl_ w _ hw306_0)).trans hw306_0),((HB.out.cell (bl_ w _ hw306_1)).trans hw306_1),((HB.out.cell (bl_ w _ hw306_2)).trans hw306_2),((HB.out.cell (bl_ w _ hw306_3)).trans hw306_3),((HB.out.cell (bl_ w _ hw306_4)).trans hw306_4),((HB.out.cell (bl_ w _ hw306_5)).trans hw306_5)⟩ (fun hHeld=>?_);refine with_tabW laws_heldNodeS.tab10 laws_heldNodeS.bits10 (fun HT_ HW_=>?_)
        generalize wr.drew=w36 at HB HR306_4 HR306_5 hx306_0 hx306_1 hx306_2 hx306_3 hx306_4 hx306_5 hHeld ⊢
        refine pure_ (i:=0) (N:=some 30) (v:=?_) (a':=?_) #[T_,F_,F_,F_,F_,F_,F_,F_] rfl rfl (any_of HT_.out (by kernel_rfl)) (fun _ _ _ h=>h) (Or.inl ⟨by rfl,?_⟩) ?_ ?_
        rotate_left
        ·intro w'
         go_simp
         with_reducible rfl
        rotate_left
        ·simp only [Act.put,ls_,lz_,lc_,i64_w,i32_w]
         rfl
        refine pure_ (i:=1) (N:=some 31) (v:=?_) (a':=?_) #[T_,T_,F_,F_,F_,F_,F_,F_] rfl rfl (any_of HT_.out (by kernel_rfl)) (fun _ _ _ h=>h) (Or.inl ⟨by rfl,?_⟩) ?_ ?_
        rotate_left
        ·intro w'
         go_simp
         with_reducible rfl
        rotate_left
        ·simp only [Act.put,ls_,lz_,lc_,i64_w,i32_w]
         rfl
        refine pure_ (i:=2) (N:=some 32) (v:=?_) (a':=?_) #[T_,T_,T_,F_,F_,F_,F_,F_] rfl rfl (any_of HT_.out (by kernel_rfl)) (fun _ _ _ h=>h) (Or.inl ⟨by rfl,?_⟩) ?_ ?_
        rotate_left
        ·intro w'
         go_simp
         with_reducible rfl
        rotate_left
        ·simp only [Act.put,ls_,lz_,lc_,i64_w,i32_w]
         rfl
        refine pure_ (i:=3) (N:=some 33) (v:=?_) (a':=?_) #[T_,T_,T_,T_,F_,F_,F_,F_] rfl rfl (any_of HT_.out (by kernel_rfl)) (fun _ _ _ h=>h) (Or.inl ⟨by rfl,?_⟩) ?_ ?_
        rotate_left
        ·intro w'
         go_simp
         with_reducible rfl
        rotate_left
        ·simp only [Act.put,ls_,lz_,lc_,i64_w,i32_w]
         rfl
        refine pure_ (i:=5) (N:=some 35) (v:=?_) (a':=?_) #[T_,T_,T_,T_,F_,T_,F_,F_] rfl rfl (any_of HT_.out (by kernel_rfl)) (fun _ _ _ h=>h) (Or.inl ⟨by rfl,?_⟩) ?_ ?_
        rotate_left
        ·intro w'
         go_simp
         with_reducible rfl
        rotate_left
        ·simp only [Act.put,ls_,lz_,lc_,i64_w,i32_w]
         rfl
        refine take_ (i:=4) (N:=some 34) (v:=?_) (a':=?_) #[T_,T_,T_,T_,T_,T_,F_,F_] rfl rfl (take_ofW HT_.out HW_.out (by kernel_rfl)) (fun _ _ _ h=>h) (Or.inl ⟨by rfl,?_⟩) hHeld ?_ ?_
        rotate_left
        ·rintro w' ⟨s0,s1,s2,s3,s4,s5⟩
         go_simp
         with_reducible rfl
        rotate_left
        ·simp only [Act.put,ls_,lz_,lc_,i64_w,i32_w]
         rfl
        refine one_ (i:=6) (N:=some 36) #[T_,T_,T_,T_,T_,T_,T_,F_] rfl rfl (one_of HT_.out (by kernel_rfl)) (by decide) (fun K hK=>?_)
        refine goes_ Try.func30 (by kernel_rfl) rfl #[.int .i64 (wrap64 ((wrap64 (x1_1+1))+1))] (by rfl) rfl rfl (by (try simp only [List.map_toArray,List.map_cons,List.map_nil]);first|done|rfl|(simp only [ld_,lt_];rfl)) ?_
        with_reducible refine (laws_markText.calls k1 (wrap64 ((wrap64 (x1_1+1))+1)) t307 _ A7.out).mono ?_
        rintro e w37 ⟨rfl,hb⟩
        refine ⟨_,rfl,?_⟩
        have n0_:=A_ (bp_ (by repeat (first|(with_reducible first|exact HB.out|apply ba_|apply pd_|apply b1_)|exact HB.out)) hb)
        clear HB
        have HB:=n0_
        clear n0_
        (try clear hb)
        (try clear hb2)
        (try clear hk)
        (try clear hi)
        refine hK.out _ _ ⟨((HB.out.cell (bl_ w _ hw306_0)).trans hw306_0),((HB.out.cell (bl_ w _ hw306_1)).trans hw306_1),((HB.out.cell (bl_ w _ hw306_2)).trans hw306_2),((HB.out.cell (bl_ w _ hw306_3)).trans hw306_3),((HB.out.cell (bl_ w _ hw306_4)).trans hw306_4),((HB.out.cell (bl_ w _ hw306_5)).trans hw306_5)⟩ (fun hHeld=>?_)
        clear hK K
        refine norm_ (a':=?_) ?_ ?_
        rotate_left
        ·show Act.put _ (some 36) _=_
         simp only [Act.put,ls_,lz_,lc_,i64_w,i32_w]
         rfl
        refine pure_ (i:=7) (N:=some 37) (v:=?_) (a':=?_) #[T_,T_,T_,T_,T_,T_,T_,T_] rfl rfl (any_of HT_.out (by kernel_rfl)) (fun _ _ _ h=>h) (Or.inl ⟨by rfl,?_⟩) ?_ ?_
        rotate_left
        ·intro w'
         go_simp
         with_reducible rfl
        rotate_left
        ·simp only [Act.put,ls_,lz_,lc_,i64_w,i32_w]
         rfl
        refine done_ (done_of HT_.out (by kernel_rfl)) ?_
        try go_wp2
        go_ret
        exact ⟨by first|rfl|(simp [errW_none,errW_some] <;> rfl)|(simp [*,errW_none,errW_some] <;> rfl),by repeat (first|(with_reducible first|exact HB.out|apply ba_|apply pd_|apply b1_)|exact HB.out)⟩
      ·rw [if_neg c6] at H
       have c6b0:(((rd_T44 l0 x5_1).f1) == (wrap64 (x1_1+1)))=false:=beq_eq_false_iff_ne.mpr c6
       have c6b1:(((rd_T44 l0 x5_1).f1) != (wrap64 (x1_1+1)))=true:=bne_iff_ne.mpr c6
       obtain rfl:=oi_ H
       have p304:0≤(x5_1:Int):=od_ (by first|(with_reducible assumption)|assumption)
       have q304:x5_1<(l0.length:Int):=od_ (by first|(with_reducible assumption)|assumption)
       obtain ⟨ad304,A304_4,c304_4,A304_5,c304_5,e304,hx304_0,hx304_1,hx304_2,hx304_3,hx304_4,hx304_5,hl304_4,hi304_4,hl304_5,hi304_5⟩:=at_T44 HR0.out x5_1 p304 q304
       cases e304
       replace hx304_0:=(HB.out.cell (bl_ w _ hx304_0)).trans hx304_0
       replace hx304_1:=(HB.out.cell (bl_ w _ hx304_1)).trans hx304_1
       replace hx304_2:=(HB.out.cell (bl_ w _ hx304_2)).trans hx304_2
       replace hx304_3:=(HB.out.cell (bl_ w _ hx304_3)).trans hx304_3
       replace hx304_4:=(HB.out.cell (bl_ w _ hx304_4)).trans hx304_4
       replace hx304_5:=(HB.out.cell (bl_ w _ hx304_5)).trans hx304_5
       have HR304_4:=A_ hi304_4
       have HC304_4:=A_ hl304_4
       clear hi304_4 hl304_4
       have HR304_5:=A_ hi304_5
       have HC304_5:=A_ hl304_5
       clear hi304_5 hl304_5
       replace p304:=eq_true p304
       replace q304:=eq_true q304
       have p305:0≤(x5_1:Int):=od_ (by first|(with_reducible assumption)|assumption)
       have q305:x5_1<(l0.length:Int):=od_ (by first|(with_reducible assumption)|assumption)
       obtain ⟨ad305,A305_4,c305_4,A305_5,c305_5,e305,hx305_0,hx305_1,hx305_2,hx305_3,hx305_4,hx305_5,hl305_4,hi305_4,hl305_5,hi305_5⟩:=at_T44 HR0.out x5_1 p305 q305
       obtain rfl:ad304=ad305:=(by injection e305)
       try (have h_:=hx305_4.symm.trans hw303_4;injection h_ with h_;injection h_ with h1_ h3_ h2_;subst h1_;subst h2_)
       try (have h_:=hx305_5.symm.trans hw303_5;injection h_ with h_;injection h_ with h1_ h3_ h2_;subst h1_;subst h2_)
       replace hx305_0:=(HB.out.cell (bl_ w _ hx305_0)).trans hx305_0
       replace hx305_1:=(HB.out.cell (bl_ w _ hx305_1)).trans hx305_1
       replace hx305_2:=(HB.out.cell (bl_ w _ hx305_2)).trans hx305_2
       replace hx305_3:=(HB.out.cell (bl_ w _ hx305_3)).trans hx305_3
       replace hx305_4:=(HB.out.cell (bl_ w _ hx305_4)).trans hx305_4
       replace hx305_5:=(HB.out.cell (bl_ w _ hx305_5)).trans hx305_5
       have HR305_4:=A_ hi305_4
       have HC305_4:=A_ hl305_4
       clear hi305_4 hl305_4
       have HR305_5:=A_ hi305_5
       have HC305_5:=A_ hl305_5
       clear hi305_5 hl305_5
       replace p305:=eq_true p305
       replace q305:=eq_true q305
       have ea_:=oi_ (hx304_4.symm.trans hx305_4)
       injection ea_ with ea_ en_ ec_
       subst ea_
       subst ec_
       clear en_
       have ea_:=oi_ (hx304_5.symm.trans hx305_5)
       injection ea_ with ea_ en_ ec_
       subst ea_
       subst ec_
       clear en_
       go_wp2
       go_ret
       exact ⟨by first|rfl|(simp [errW_none,errW_some] <;> rfl)|(simp [*,errW_none,errW_some] <;> rfl),by repeat (first|(with_reducible first|exact HB.out|apply ba_|apply pd_|apply b1_)|exact HB.out)⟩
     ·rw [if_neg c5] at H
      have c5b0:(((rd_T44 l0 x5_1).f0) == x1_1)=false:=beq_eq_false_iff_ne.mpr c5
      have c5b1:(((rd_T44 l0 x5_1).f0) != x1_1)=true:=bne_iff_ne.mpr c5
      obtain rfl:=oi_ H
      have p304:0≤(x5_1:Int):=od_ (by first|(with_reducible assumption)|assumption)
      have q304:x5_1<(l0.length:Int):=od_ (by first|(with_reducible assumption)|assumption)
      obtain ⟨ad304,A304_4,c304_4,A304_5,c304_5,e304,hx304_0,hx304_1,hx304_2,hx304_3,hx304_4,hx304_5,hl304_4,hi304_4,hl304_5,hi304_5⟩:=at_T44 HR0.out x5_1 p304 q304
      cases e304
      replace hx304_0:=(HB.out.cell (bl_ w _ hx304_0)).trans hx304_0
      replace hx304_1:=(HB.out.cell (bl_ w _ hx304_1)).trans hx304_1
      replace hx304_2:=(HB.out.cell (bl_ w _ hx304_2)).trans hx304_2
      replace hx304_3:=(HB.out.cell (bl_ w _ hx304_3)).trans hx304_3
      replace hx304_4:=(HB.out.cell (bl_ w _ hx304_4)).trans hx304_4
      replace hx304_5:=(HB.out.cell (bl_ w _ hx304_5)).trans hx304_5
      have HR304_4:=A_ hi304_4
      have HC304_4:=A_ hl304_4
      clear hi304_4 hl304_4
      have HR304_5:=A_ hi304_5
      have HC304_5:=A_ hl304_5
      clear hi304_5 hl304_5
      replace p304:=eq_true p304
      replace q304:=eq_true q304
      go_wp2
      go_ret
      exact ⟨by first|rfl|(simp [errW_none,errW_some] <;> rfl)|(simp [*,errW_none,errW_some] <;> rfl),by repeat (first|(with_reducible first|exact HB.out|apply ba_|apply pd_|apply b1_)|exact HB.out)⟩
    ·rw [if_neg c4] at H
     exact absurd H (by simp)
   ·rw [if_neg c3] at H
    have c3b0:decide (x5_1<(l0.length:Int))=false:=df_ c3
    clear c3
    obtain rfl:=oi_ H
    go_wp2
    go_ret
    exact ⟨by first|rfl|(simp [errW_none,errW_some] <;> rfl)|(simp [*,errW_none,errW_some] <;> rfl),by repeat (first|(with_reducible first|exact HB.out|apply ba_|apply pd_|apply b1_)|exact HB.out)⟩
end Go.Proofs.Ytjlikemmhjclpaa.PFnExactSetKids
