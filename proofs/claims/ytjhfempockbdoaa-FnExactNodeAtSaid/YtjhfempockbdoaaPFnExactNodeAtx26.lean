/- By a program of this session, out of the kit's print and contracts made by hand: the machine side of a law; Lean checks it. No conditions. -/
import Derived.Test.YtjhfempockbdoaaPFnExactNodeAtx0
import Derived.Test.YtjhfempockbdoaaPFnExactNodeAtx19
import Derived.Test.YtjhfempockbdoaaPFnExactNodeAtx25
namespace Go.Proofs.Ytjhfempockbdoaa.PFnExactNodeAt
open Go.RowKit Go.Proofs.YtjhfempockbdoaaW.PrintWords Go.Proofs.YtjhfempockbdoaaW.PrintLast Go.Proofs.YtjhfempockbdoaaW.PrintMore
attribute [local go_sem] max2_int min2_int max_two min_two max_three min_three max_four min_four
set_option linter.unusedVariables false
set_option linter.unusedSimpArgs false
/-! ### laws_heldNodeS: function 28 -/
mutual
def laws_heldNodeS.l0:Nat→List (S28)→Int→Int→Option (Int)
 | 0,_,_,_=>none
 | k+1,x0,x1,x5=>if x5<(x0.length:Int) then (if 0≤x5 then (if ((rd_T28 x0 x5).f0)=x1 then (if ((rd_T28 x0 x5).f1)=(wrap64 (x1+1)) then ((laws_markText.f k (wrap64 ((wrap64 (x1+1))+1))).bind fun t252=>(if ((rd_T28 x0 x5).f2).toList=t252.toList then ((laws_markText.f k (wrap64 ((wrap64 ((wrap64 (x1+1))+1))+1))).bind fun t254=>(if ((rd_T28 x0 x5).f3).toList=t254.toList then ((laws_heldAttrS.f k ((rd_T28 x0 x5).f4) (wrap64 ((wrap64 ((wrap64 ((wrap64 (x1+1))+1))+1))+1))).bind fun t256=>(if t256<0 then (some (-1)) else ((laws_heldNodeS.f k ((rd_T28 x0 x5).f5) t256).bind fun t258=>(if t258<0 then (some (-1)) else (laws_heldNodeS.l0 k x0 t258 (wrap64 (x5+1))))))) else (some (-1)))) else (some (-1)))) else (some (-1))) else (some (-1))) else (none)) else (some x1)
def laws_heldNodeS.f:Nat→List (S28)→Int→Option (Int)
 | 0,_,_=>none
 | k+1,l0,a1=>laws_heldNodeS.l0 k l0 a1 0
end
theorem laws_heldNodeS.mono_l:∀ k,(∀ y0 y1,LeO (laws_heldNodeS.f k y0 y1) (laws_heldNodeS.f (k+1) y0 y1))∧(∀ y0 y1 y2,LeO (laws_heldNodeS.l0 k y0 y1 y2) (laws_heldNodeS.l0 (k+1) y0 y1 y2))
 | 0=>⟨fun _ _ r h=>by simp [laws_heldNodeS.f] at h,fun _ _ _ r h=>by simp [laws_heldNodeS.l0] at h⟩
 | k+1=>by
  obtain ⟨ih0,ih1⟩:=laws_heldNodeS.mono_l k
  refine ⟨?_,?_⟩
  ·intro y0 y1
   unfold laws_heldNodeS.f
   repeat' first
   | (with_reducible exact ih0 _ _)
   | (with_reducible exact ih1 _ _ _)
   | (with_reducible exact laws_heldAttrS.mono _ _ _)
   | (with_reducible exact laws_markText.mono _ _)
   | (with_reducible exact LeO.refl _)
   | (with_reducible exact LeO.none _)
   | (with_reducible refine LeO.ite ?_ ?_)
   | (with_reducible refine LeO.bind ?_ (fun _=>?_))
   | exact ih0 _ _
   | exact ih1 _ _ _
   | exact laws_heldAttrS.mono _ _ _
   | exact laws_markText.mono _ _
   | exact LeO.none _
   | refine LeO.ite ?_ ?_
   | refine LeO.bind ?_ (fun _=>?_)
  ·intro y0 y1 y2
   unfold laws_heldNodeS.l0
   repeat' first
   | (with_reducible exact ih0 _ _)
   | (with_reducible exact ih1 _ _ _)
   | (with_reducible exact laws_heldAttrS.mono _ _ _)
   | (with_reducible exact laws_markText.mono _ _)
   | (with_reducible exact LeO.refl _)
   | (with_reducible exact LeO.none _)
   | (with_reducible refine LeO.ite ?_ ?_)
   | (with_reducible refine LeO.bind ?_ (fun _=>?_))
   | exact ih0 _ _
   | exact ih1 _ _ _
   | exact laws_heldAttrS.mono _ _ _
   | exact laws_markText.mono _ _
   | exact LeO.none _
   | refine LeO.ite ?_ ?_
   | refine LeO.bind ?_ (fun _=>?_)
theorem laws_heldNodeS.mono:∀ a0 a1 k,LeO (laws_heldNodeS.f k a0 a1) (laws_heldNodeS.f (k+1) a0 a1):=by
 intro a0 a1 k
 obtain ⟨ih0,ih1⟩:=laws_heldNodeS.mono_l k
 exact ih0 a0 a1
def laws_heldNodeS.T10:Bool × List (List Nat × List Nat):=(true,[([],[]),([],[]),([0,1],[0,1]),([2],[2]),([3],[3]),([],[]),([5],[5]),([4,6],[4,6])])
def laws_heldNodeS.B10:List Nat:=[0,0,3,7,15,0,32,127]
theorem laws_heldNodeS.tab10:rtab .any (opsOf Try.f28 10)=laws_heldNodeS.T10:=by kernel_rfl
theorem laws_heldNodeS.bits10:waitsOk laws_heldNodeS.T10.2 laws_heldNodeS.B10=true:=by kernel_rfl
def laws_heldNodeS.T13:Bool × List (List Nat × List Nat):=(true,[([],[]),([],[]),([0,1],[0,1]),([2],[2]),([3],[3]),([],[]),([5],[5]),([4,6],[4,6])])
def laws_heldNodeS.B13:List Nat:=[0,0,3,7,15,0,32,127]
theorem laws_heldNodeS.tab13:rtab .any (opsOf Try.f28 13)=laws_heldNodeS.T13:=by kernel_rfl
theorem laws_heldNodeS.bits13:waitsOk laws_heldNodeS.T13.2 laws_heldNodeS.B13=true:=by kernel_rfl
set_option maxHeartbeats 8000000 in
set_option maxRecDepth 100000 in
theorem laws_heldNodeS.calls (k:Nat):∀ (A0:Option Addr) (c0:Nat) (l0:List (S28)) (a1:Int) (r:Int) (w:World) (hr0:Kd.C k28 w A0 l0.length l0) (hc0:l0.length≤c0) (h:laws_heldNodeS.f k l0 a1=some r),
 Calls Try.prog 28 #[.slice A0 l0.length c0,.int .i64 a1] w fun e w'=>e=.returned (.int .i64 r)∧Below w.heap.size w w':=by
 induction k using Nat.strongRecOn with
 | _ k ih =>
 intro A0 c0 l0 a1 r w hr0 hc0 h
 cases k with
 | zero=>exact absurd h (by simp [laws_heldNodeS.f])
 | succ k =>
 simp only [laws_heldNodeS.f] at h
 have HR0:=A_ hr0
 have HC0:=A_ hc0
 clear hr0 hc0
 have HB:=A_ (Below.refl w.heap.size w)
 have H:(laws_heldNodeS.l0 k l0 a1 0)=some r:=h
 clear h
 have H':=A_ H
 clear H
 go_enter Try.func28,Try.ntmps28
 go_wp2
 go_loopg [1,5] k (fun kq v1 v5 w'=>∃ (x1_1:Int) (x5_1:Int),v1=.int .i64 x1_1∧v5=.int .i64 x5_1∧Aside0 (laws_heldNodeS.l0 kq l0 x1_1 x5_1=some r)∧Aside0 (kq≤k)∧Aside0 (Below w.heap.size w w'))
 case atStart=>exact ⟨(a1),(0),(by first|rfl|(simp;done)|(simp [*];done)),(by first|rfl|(simp;done)|(simp [*];done)),H',⟨Nat.le_refl _⟩,⟨by repeat (first|(with_reducible first|exact HB.out|apply ba_|apply pd_|apply b1_)|exact HB.out)⟩⟩
 case round =>
  clear H'
  try clear c2
  try clear p2
  obtain ⟨x1_1,x5_1,rfl,rfl,HA,HK1,HB⟩:=hrel
  cases gk with
  | zero=>exact absurd HA.out (by simp [laws_heldNodeS.l0])
  | succ k1 =>
   have H:=HA.out
   clear HA
   simp only [laws_heldNodeS.l0] at H
   by_cases c3:x5_1<(l0.length:Int)
   ·rw [if_pos c3] at H
    have c3b0:decide (x5_1<(l0.length:Int))=true:=dt_ c3
    clear c3
    by_cases c4:0≤x5_1
    ·rw [if_pos c4] at H
     have c4b0:decide (0≤x5_1)=true:=dt_ c4
     clear c4
     by_cases c5:((rd_T28 l0 x5_1).f0)=x1_1
     ·rw [if_pos c5] at H
      have c5b0:(((rd_T28 l0 x5_1).f0) == x1_1)=true:=beq_iff_eq.mpr c5
      have c5b1:(((rd_T28 l0 x5_1).f0) != x1_1)=false:=bne_eq_false_iff_eq.mpr c5
      clear c5
      by_cases c6:((rd_T28 l0 x5_1).f1)=(wrap64 (x1_1+1))
      ·rw [if_pos c6] at H
       have c6b0:(((rd_T28 l0 x5_1).f1) == (wrap64 (x1_1+1)))=true:=beq_iff_eq.mpr c6
       have c6b1:(((rd_T28 l0 x5_1).f1) != (wrap64 (x1_1+1)))=false:=bne_eq_false_iff_eq.mpr c6
       clear c6
       replace H:=ob_ H
       obtain ⟨t252,A70,H⟩:=H
       replace H:(if ((rd_T28 l0 x5_1).f2).toList=t252.toList then ((laws_markText.f k1 (wrap64 ((wrap64 ((wrap64 (x1_1+1))+1))+1))).bind fun t254=>(if ((rd_T28 l0 x5_1).f3).toList=t254.toList then ((laws_heldAttrS.f k1 ((rd_T28 l0 x5_1).f4) (wrap64 ((wrap64 ((wrap64 ((wrap64 (x1_1+1))+1))+1))+1))).bind fun t256=>(if t256<0 then (some (-1)) else ((laws_heldNodeS.f k1 ((rd_T28 l0 x5_1).f5) t256).bind fun t258=>(if t258<0 then (some (-1)) else (laws_heldNodeS.l0 k1 l0 t258 (wrap64 (x5_1+1))))))) else (some (-1)))) else (some (-1)))=some r:=H
       have A7:=A_ A70
       clear A70
       by_cases c8:((rd_T28 l0 x5_1).f2).toList=t252.toList
       ·rw [if_pos c8] at H
        have c8b0:(((rd_T28 l0 x5_1).f2).toList == t252.toList)=true:=beq_iff_eq.mpr c8
        have c8b1:(((rd_T28 l0 x5_1).f2).toList != t252.toList)=false:=bne_eq_false_iff_eq.mpr c8
        clear c8
        replace H:=ob_ H
        obtain ⟨t254,A90,H⟩:=H
        replace H:(if ((rd_T28 l0 x5_1).f3).toList=t254.toList then ((laws_heldAttrS.f k1 ((rd_T28 l0 x5_1).f4) (wrap64 ((wrap64 ((wrap64 ((wrap64 (x1_1+1))+1))+1))+1))).bind fun t256=>(if t256<0 then (some (-1)) else ((laws_heldNodeS.f k1 ((rd_T28 l0 x5_1).f5) t256).bind fun t258=>(if t258<0 then (some (-1)) else (laws_heldNodeS.l0 k1 l0 t258 (wrap64 (x5_1+1))))))) else (some (-1)))=some r:=H
        have A9:=A_ A90
        clear A90
        by_cases c10:((rd_T28 l0 x5_1).f3).toList=t254.toList
        ·rw [if_pos c10] at H
         have c10b0:(((rd_T28 l0 x5_1).f3).toList == t254.toList)=true:=beq_iff_eq.mpr c10
         have c10b1:(((rd_T28 l0 x5_1).f3).toList != t254.toList)=false:=bne_eq_false_iff_eq.mpr c10
         clear c10
         replace H:=ob_ H
         obtain ⟨t256,A110,H⟩:=H
         replace H:(if t256<0 then (some (-1)) else ((laws_heldNodeS.f k1 ((rd_T28 l0 x5_1).f5) t256).bind fun t258=>(if t258<0 then (some (-1)) else (laws_heldNodeS.l0 k1 l0 t258 (wrap64 (x5_1+1))))))=some r:=H
         have A11:=A_ A110
         clear A110
         by_cases c12:t256<0
         ·rw [if_pos c12] at H
          have c12b0:decide (t256<0)=true:=dt_ c12
          clear c12
          obtain rfl:=oi_ H
          have p249:0≤(x5_1:Int):=od_ (by first|(with_reducible assumption)|assumption)
          have q249:x5_1<(l0.length:Int):=od_ (by first|(with_reducible assumption)|assumption)
          obtain ⟨ad249,A249_4,c249_4,A249_5,c249_5,e249,hx249_0,hx249_1,hx249_2,hx249_3,hx249_4,hx249_5,hl249_4,hi249_4,hl249_5,hi249_5⟩:=at_T28 HR0.out x5_1 p249 q249
          cases e249
          replace hx249_0:=(HB.out.cell (bl_ w _ hx249_0)).trans hx249_0
          replace hx249_1:=(HB.out.cell (bl_ w _ hx249_1)).trans hx249_1
          replace hx249_2:=(HB.out.cell (bl_ w _ hx249_2)).trans hx249_2
          replace hx249_3:=(HB.out.cell (bl_ w _ hx249_3)).trans hx249_3
          replace hx249_4:=(HB.out.cell (bl_ w _ hx249_4)).trans hx249_4
          replace hx249_5:=(HB.out.cell (bl_ w _ hx249_5)).trans hx249_5
          have HR249_4:=A_ hi249_4
          have HC249_4:=A_ hl249_4
          clear hi249_4 hl249_4
          have HR249_5:=A_ hi249_5
          have HC249_5:=A_ hl249_5
          clear hi249_5 hl249_5
          replace p249:=eq_true p249
          replace q249:=eq_true q249
          have p250:0≤(x5_1:Int):=od_ (by first|(with_reducible assumption)|assumption)
          have q250:x5_1<(l0.length:Int):=od_ (by first|(with_reducible assumption)|assumption)
          obtain ⟨ad250,A250_4,c250_4,A250_5,c250_5,e250,hx250_0,hx250_1,hx250_2,hx250_3,hx250_4,hx250_5,hl250_4,hi250_4,hl250_5,hi250_5⟩:=at_T28 HR0.out x5_1 p250 q250
          obtain rfl:ad249=ad250:=(by injection e250)
          try (have h_:=hx250_4.symm.trans hw248_4;injection h_ with h_;injection h_ with h1_ h3_ h2_;subst h1_;subst h2_)
          try (have h_:=hx250_5.symm.trans hw248_5;injection h_ with h_;injection h_ with h1_ h3_ h2_;subst h1_;subst h2_)
          replace hx250_0:=(HB.out.cell (bl_ w _ hx250_0)).trans hx250_0
          replace hx250_1:=(HB.out.cell (bl_ w _ hx250_1)).trans hx250_1
          replace hx250_2:=(HB.out.cell (bl_ w _ hx250_2)).trans hx250_2
          replace hx250_3:=(HB.out.cell (bl_ w _ hx250_3)).trans hx250_3
          replace hx250_4:=(HB.out.cell (bl_ w _ hx250_4)).trans hx250_4
          replace hx250_5:=(HB.out.cell (bl_ w _ hx250_5)).trans hx250_5
          have HR250_4:=A_ hi250_4
          have HC250_4:=A_ hl250_4
          clear hi250_4 hl250_4
          have HR250_5:=A_ hi250_5
          have HC250_5:=A_ hl250_5
          clear hi250_5 hl250_5
          replace p250:=eq_true p250
          replace q250:=eq_true q250
          have ea_:=oi_ (hx249_4.symm.trans hx250_4)
          injection ea_ with ea_ en_ ec_
          subst ea_
          subst ec_
          clear en_
          have ea_:=oi_ (hx249_5.symm.trans hx250_5)
          injection ea_ with ea_ en_ ec_
          subst ea_
          subst ec_
          clear en_
          try go_wp2
          have n0_:=A_ (b1_ HB.out)
          clear HB
          have HB:=n0_
          clear n0_
          have p251:0≤(x5_1:Int):=od_ (by first|(with_reducible assumption)|assumption)
          have q251:x5_1<(l0.length:Int):=od_ (by first|(with_reducible assumption)|assumption)
          obtain ⟨ad251,A251_4,c251_4,A251_5,c251_5,e251,hx251_0,hx251_1,hx251_2,hx251_3,hx251_4,hx251_5,hl251_4,hi251_4,hl251_5,hi251_5⟩:=at_T28 HR0.out x5_1 p251 q251
          have hw251_5:=hx251_5
          have hw251_4:=hx251_4
          have hw251_3:=hx251_3
          have hw251_2:=hx251_2
          have hw251_1:=hx251_1
          have hw251_0:=hx251_0
          obtain rfl:ad249=ad251:=(by injection e251)
          try (have h_:=hx251_4.symm.trans hw249_4;injection h_ with h_;injection h_ with h1_ h3_ h2_;subst h1_;subst h2_)
          try (have h_:=hx251_5.symm.trans hw249_5;injection h_ with h_;injection h_ with h1_ h3_ h2_;subst h1_;subst h2_)
          replace hx251_0:=(HB.out.cell (bl_ w _ hx251_0)).trans hx251_0
          replace hx251_1:=(HB.out.cell (bl_ w _ hx251_1)).trans hx251_1
          replace hx251_2:=(HB.out.cell (bl_ w _ hx251_2)).trans hx251_2
          replace hx251_3:=(HB.out.cell (bl_ w _ hx251_3)).trans hx251_3
          replace hx251_4:=(HB.out.cell (bl_ w _ hx251_4)).trans hx251_4
          replace hx251_5:=(HB.out.cell (bl_ w _ hx251_5)).trans hx251_5
          have HR251_4:=A_ hi251_4
          have HC251_4:=A_ hl251_4
          clear hi251_4 hl251_4
          have HR251_5:=A_ hi251_5
          have HC251_5:=A_ hl251_5
          clear hi251_5 hl251_5
          replace p251:=eq_true p251
          replace q251:=eq_true q251
          refine start_ (n:=8) (S:=fun w'=>w'.cell? (ad249.add ((x5_1).toNat * 6))=some (.int .i64 ((rd_T28 l0 x5_1).f0))∧w'.cell? ⟨(ad249.add ((x5_1).toNat * 6)).block,(ad249.add ((x5_1).toNat * 6)).off+1,none⟩=some (.int .i64 ((rd_T28 l0 x5_1).f1))∧w'.cell? ⟨(ad249.add ((x5_1).toNat * 6)).block,(ad249.add ((x5_1).toNat * 6)).off+2,none⟩=some (.string ((rd_T28 l0 x5_1).f2))∧w'.cell? ⟨(ad249.add ((x5_1).toNat * 6)).block,(ad249.add ((x5_1).toNat * 6)).off+3,none⟩=some (.string ((rd_T28 l0 x5_1).f3))∧w'.cell? ⟨(ad249.add ((x5_1).toNat * 6)).block,(ad249.add ((x5_1).toNat * 6)).off+4,none⟩=some (.slice A251_4 ((rd_T28 l0 x5_1).f4).length c251_4)∧w'.cell? ⟨(ad249.add ((x5_1).toNat * 6)).block,(ad249.add ((x5_1).toNat * 6)).off+5,none⟩=some (.slice A251_5 ((rd_T28 l0 x5_1).f5).length c251_5)) (ds:=[]) #[F_,F_,F_,F_,F_,F_,F_,F_] (by kernel_rfl) rfl rfl ⟨((HB.out.cell (bl_ w _ hw251_0)).trans hw251_0),((HB.out.cell (bl_ w _ hw251_1)).trans hw251_1),((HB.out.cell (bl_ w _ hw251_2)).trans hw251_2),((HB.out.cell (bl_ w _ hw251_3)).trans hw251_3),((HB.out.cell (bl_ w _ hw251_4)).trans hw251_4),((HB.out.cell (bl_ w _ hw251_5)).trans hw251_5)⟩ (fun hHeld=>?_);refine with_tabW laws_heldNodeS.tab10 laws_heldNodeS.bits10 (fun HT_ HW_=>?_)
          generalize wr.drew=w13 at HB HR251_4 HR251_5 hx251_0 hx251_1 hx251_2 hx251_3 hx251_4 hx251_5 hHeld ⊢
          refine pure_ (i:=0) (N:=some 30) (v:=?_) (a':=?_) #[T_,F_,F_,F_,F_,F_,F_,F_] rfl rfl (any_of HT_.out (by kernel_rfl)) (fun _ _ _ h=>h) (Or.inl ⟨by rfl,?_⟩) ?_ ?_
          rotate_left
          ·intro w'
           go_simp
           with_reducible rfl
          rotate_left
          ·simp only [Act.put,ls_,lz_,lc_,i64_w,i32_w]
           rfl
          refine pure_ (i:=1) (N:=some 31) (v:=?_) (a':=?_) #[T_,T_,F_,F_,F_,F_,F_,F_] rfl rfl (any_of HT_.out (by kernel_rfl)) (fun _ _ _ h=>h) (Or.inl ⟨by rfl,?_⟩) ?_ ?_
          rotate_left
          ·intro w'
           go_simp
           with_reducible rfl
          rotate_left
          ·simp only [Act.put,ls_,lz_,lc_,i64_w,i32_w]
           rfl
          refine pure_ (i:=2) (N:=some 32) (v:=?_) (a':=?_) #[T_,T_,T_,F_,F_,F_,F_,F_] rfl rfl (any_of HT_.out (by kernel_rfl)) (fun _ _ _ h=>h) (Or.inl ⟨by rfl,?_⟩) ?_ ?_
          rotate_left
          ·intro w'
           go_simp
           with_reducible rfl
          rotate_left
          ·simp only [Act.put,ls_,lz_,lc_,i64_w,i32_w]
           rfl
          refine pure_ (i:=3) (N:=some 33) (v:=?_) (a':=?_) #[T_,T_,T_,T_,F_,F_,F_,F_] rfl rfl (any_of HT_.out (by kernel_rfl)) (fun _ _ _ h=>h) (Or.inl ⟨by rfl,?_⟩) ?_ ?_
          rotate_left
          ·intro w'
           go_simp
           with_reducible rfl
          rotate_left
          ·simp only [Act.put,ls_,lz_,lc_,i64_w,i32_w]
           rfl
          refine pure_ (i:=5) (N:=some 35) (v:=?_) (a':=?_) #[T_,T_,T_,T_,F_,T_,F_,F_] rfl rfl (any_of HT_.out (by kernel_rfl)) (fun _ _ _ h=>h) (Or.inl ⟨by rfl,?_⟩) ?_ ?_
          rotate_left
          ·intro w'
           go_simp
           with_reducible rfl
          rotate_left
          ·simp only [Act.put,ls_,lz_,lc_,i64_w,i32_w]
           rfl
          refine take_ (i:=4) (N:=some 34) (v:=?_) (a':=?_) #[T_,T_,T_,T_,T_,T_,F_,F_] rfl rfl (take_ofW HT_.out HW_.out (by kernel_rfl)) (fun _ _ _ h=>h) (Or.inl ⟨by rfl,?_⟩) hHeld ?_ ?_
          rotate_left
          ·rintro w' ⟨s0,s1,s2,s3,s4,s5⟩
           go_simp
           with_reducible rfl
          rotate_left
          ·simp only [Act.put,ls_,lz_,lc_,i64_w,i32_w]
           rfl
          refine one_ (i:=6) (N:=some 36) #[T_,T_,T_,T_,T_,T_,T_,F_] rfl rfl (one_of HT_.out (by kernel_rfl)) (by decide) (fun K hK=>?_)
          refine goes_ Try.func25 (by kernel_rfl) rfl #[.int .i64 (wrap64 ((wrap64 (x1_1+1))+1))] (by rfl) rfl rfl (by (try simp only [List.map_toArray,List.map_cons,List.map_nil]);first|done|rfl|(simp only [ld_,lt_];rfl)) ?_
          with_reducible refine (laws_markText.calls k1 (wrap64 ((wrap64 (x1_1+1))+1)) t252 _ A7.out).mono ?_
          rintro e w14 ⟨rfl,hb⟩
          refine ⟨_,rfl,?_⟩
          have n0_:=A_ (bp_ (by repeat (first|(with_reducible first|exact HB.out|apply ba_|apply pd_|apply b1_)|exact HB.out)) hb)
          clear HB
          have HB:=n0_
          clear n0_
          (try clear hb)
          (try clear hb2)
          (try clear hk)
          (try clear hi)
          refine hK.out _ _ ⟨((HB.out.cell (bl_ w _ hw251_0)).trans hw251_0),((HB.out.cell (bl_ w _ hw251_1)).trans hw251_1),((HB.out.cell (bl_ w _ hw251_2)).trans hw251_2),((HB.out.cell (bl_ w _ hw251_3)).trans hw251_3),((HB.out.cell (bl_ w _ hw251_4)).trans hw251_4),((HB.out.cell (bl_ w _ hw251_5)).trans hw251_5)⟩ (fun hHeld=>?_)
          clear hK K
          refine norm_ (a':=?_) ?_ ?_
          rotate_left
          ·show Act.put _ (some 36) _=_
           simp only [Act.put,ls_,lz_,lc_,i64_w,i32_w]
           rfl
          refine pure_ (i:=7) (N:=some 37) (v:=?_) (a':=?_) #[T_,T_,T_,T_,T_,T_,T_,T_] rfl rfl (any_of HT_.out (by kernel_rfl)) (fun _ _ _ h=>h) (Or.inl ⟨by rfl,?_⟩) ?_ ?_
          rotate_left
          ·intro w'
           go_simp
           with_reducible rfl
          rotate_left
          ·simp only [Act.put,ls_,lz_,lc_,i64_w,i32_w]
           rfl
          refine done_ (done_of HT_.out (by kernel_rfl)) ?_
          try go_wp2
          have n0_:=A_ (b1_ HB.out)
          clear HB
          have HB:=n0_
          clear n0_
          have p253:0≤(x5_1:Int):=od_ (by first|(with_reducible assumption)|assumption)
          have q253:x5_1<(l0.length:Int):=od_ (by first|(with_reducible assumption)|assumption)
          obtain ⟨ad253,A253_4,c253_4,A253_5,c253_5,e253,hx253_0,hx253_1,hx253_2,hx253_3,hx253_4,hx253_5,hl253_4,hi253_4,hl253_5,hi253_5⟩:=at_T28 HR0.out x5_1 p253 q253
          have hw253_5:=hx253_5
          have hw253_4:=hx253_4
          have hw253_3:=hx253_3
          have hw253_2:=hx253_2
          have hw253_1:=hx253_1
          have hw253_0:=hx253_0
          obtain rfl:ad249=ad253:=(by injection e253)
          try (have h_:=hx253_4.symm.trans hw251_4;injection h_ with h_;injection h_ with h1_ h3_ h2_;subst h1_;subst h2_)
          try (have h_:=hx253_5.symm.trans hw251_5;injection h_ with h_;injection h_ with h1_ h3_ h2_;subst h1_;subst h2_)
          replace hx253_0:=(HB.out.cell (bl_ w _ hx253_0)).trans hx253_0
          replace hx253_1:=(HB.out.cell (bl_ w _ hx253_1)).trans hx253_1
          replace hx253_2:=(HB.out.cell (bl_ w _ hx253_2)).trans hx253_2
          replace hx253_3:=(HB.out.cell (bl_ w _ hx253_3)).trans hx253_3
          replace hx253_4:=(HB.out.cell (bl_ w _ hx253_4)).trans hx253_4
          replace hx253_5:=(HB.out.cell (bl_ w _ hx253_5)).trans hx253_5
          have HR253_4:=A_ hi253_4
          have HC253_4:=A_ hl253_4
          clear hi253_4 hl253_4
          have HR253_5:=A_ hi253_5
          have HC253_5:=A_ hl253_5
          clear hi253_5 hl253_5
          replace p253:=eq_true p253
          replace q253:=eq_true q253
          refine start_ (n:=8) (S:=fun w'=>w'.cell? (ad249.add ((x5_1).toNat * 6))=some (.int .i64 ((rd_T28 l0 x5_1).f0))∧w'.cell? ⟨(ad249.add ((x5_1).toNat * 6)).block,(ad249.add ((x5_1).toNat * 6)).off+1,none⟩=some (.int .i64 ((rd_T28 l0 x5_1).f1))∧w'.cell? ⟨(ad249.add ((x5_1).toNat * 6)).block,(ad249.add ((x5_1).toNat * 6)).off+2,none⟩=some (.string ((rd_T28 l0 x5_1).f2))∧w'.cell? ⟨(ad249.add ((x5_1).toNat * 6)).block,(ad249.add ((x5_1).toNat * 6)).off+3,none⟩=some (.string ((rd_T28 l0 x5_1).f3))∧w'.cell? ⟨(ad249.add ((x5_1).toNat * 6)).block,(ad249.add ((x5_1).toNat * 6)).off+4,none⟩=some (.slice A253_4 ((rd_T28 l0 x5_1).f4).length c253_4)∧w'.cell? ⟨(ad249.add ((x5_1).toNat * 6)).block,(ad249.add ((x5_1).toNat * 6)).off+5,none⟩=some (.slice A253_5 ((rd_T28 l0 x5_1).f5).length c253_5)) (ds:=[]) #[F_,F_,F_,F_,F_,F_,F_,F_] (by kernel_rfl) rfl rfl ⟨((HB.out.cell (bl_ w _ hw253_0)).trans hw253_0),((HB.out.cell (bl_ w _ hw253_1)).trans hw253_1),((HB.out.cell (bl_ w _ hw253_2)).trans hw253_2),((HB.out.cell (bl_ w _ hw253_3)).trans hw253_3),((HB.out.cell (bl_ w _ hw253_4)).trans hw253_4),((HB.out.cell (bl_ w _ hw253_5)).trans hw253_5)⟩ (fun hHeld=>?_);refine with_tabW laws_heldNodeS.tab13 laws_heldNodeS.bits13 (fun HT_ HW_=>?_)
          generalize w14.drew=w15 at HB HR253_4 HR253_5 hx253_0 hx253_1 hx253_2 hx253_3 hx253_4 hx253_5 hHeld ⊢
          refine pure_ (i:=0) (N:=some 40) (v:=?_) (a':=?_) #[T_,F_,F_,F_,F_,F_,F_,F_] rfl rfl (any_of HT_.out (by kernel_rfl)) (fun _ _ _ h=>h) (Or.inl ⟨by rfl,?_⟩) ?_ ?_
          rotate_left
          ·intro w'
           go_simp
           with_reducible rfl
          rotate_left
          ·simp only [Act.put,ls_,lz_,lc_,i64_w,i32_w]
           rfl
          refine pure_ (i:=1) (N:=some 41) (v:=?_) (a':=?_) #[T_,T_,F_,F_,F_,F_,F_,F_] rfl rfl (any_of HT_.out (by kernel_rfl)) (fun _ _ _ h=>h) (Or.inl ⟨by rfl,?_⟩) ?_ ?_
          rotate_left
          ·intro w'
           go_simp
           with_reducible rfl
          rotate_left
          ·simp only [Act.put,ls_,lz_,lc_,i64_w,i32_w]
           rfl
          refine pure_ (i:=2) (N:=some 42) (v:=?_) (a':=?_) #[T_,T_,T_,F_,F_,F_,F_,F_] rfl rfl (any_of HT_.out (by kernel_rfl)) (fun _ _ _ h=>h) (Or.inl ⟨by rfl,?_⟩) ?_ ?_
          rotate_left
          ·intro w'
           go_simp
           with_reducible rfl
          rotate_left
          ·simp only [Act.put,ls_,lz_,lc_,i64_w,i32_w]
           rfl
          refine pure_ (i:=3) (N:=some 43) (v:=?_) (a':=?_) #[T_,T_,T_,T_,F_,F_,F_,F_] rfl rfl (any_of HT_.out (by kernel_rfl)) (fun _ _ _ h=>h) (Or.inl ⟨by rfl,?_⟩) ?_ ?_
          rotate_left
          ·intro w'
           go_simp
           with_reducible rfl
          rotate_left
          ·simp only [Act.put,ls_,lz_,lc_,i64_w,i32_w]
           rfl
          refine pure_ (i:=5) (N:=some 45) (v:=?_) (a':=?_) #[T_,T_,T_,T_,F_,T_,F_,F_] rfl rfl (any_of HT_.out (by kernel_rfl)) (fun _ _ _ h=>h) (Or.inl ⟨by rfl,?_⟩) ?_ ?_
          rotate_left
          ·intro w'
           go_simp
           with_reducible rfl
          rotate_left
          ·simp only [Act.put,ls_,lz_,lc_,i64_w,i32_w]
           rfl
          refine take_ (i:=4) (N:=some 44) (v:=?_) (a':=?_) #[T_,T_,T_,T_,T_,T_,F_,F_] rfl rfl (take_ofW HT_.out HW_.out (by kernel_rfl)) (fun _ _ _ h=>h) (Or.inl ⟨by rfl,?_⟩) hHeld ?_ ?_
          rotate_left
          ·rintro w' ⟨s0,s1,s2,s3,s4,s5⟩
           go_simp
           with_reducible rfl
          rotate_left
          ·simp only [Act.put,ls_,lz_,lc_,i64_w,i32_w]
           rfl
          refine one_ (i:=6) (N:=some 46) #[T_,T_,T_,T_,T_,T_,T_,F_] rfl rfl (one_of HT_.out (by kernel_rfl)) (by decide) (fun K hK=>?_)
          refine goes_ Try.func25 (by kernel_rfl) rfl #[.int .i64 (wrap64 ((wrap64 ((wrap64 (x1_1+1))+1))+1))] (by rfl) rfl rfl (by (try simp only [List.map_toArray,List.map_cons,List.map_nil]);first|done|rfl|(simp only [ld_,lt_];rfl)) ?_
          with_reducible refine (laws_markText.calls k1 (wrap64 ((wrap64 ((wrap64 (x1_1+1))+1))+1)) t254 _ A9.out).mono ?_
          rintro e w16 ⟨rfl,hb⟩
          refine ⟨_,rfl,?_⟩
          have n0_:=A_ (bp_ (by repeat (first|(with_reducible first|exact HB.out|apply ba_|apply pd_|apply b1_)|exact HB.out)) hb)
          clear HB
          have HB:=n0_
          clear n0_
          (try clear hb)
          (try clear hb2)
          (try clear hk)
          (try clear hi)
          refine hK.out _ _ ⟨((HB.out.cell (bl_ w _ hw253_0)).trans hw253_0),((HB.out.cell (bl_ w _ hw253_1)).trans hw253_1),((HB.out.cell (bl_ w _ hw253_2)).trans hw253_2),((HB.out.cell (bl_ w _ hw253_3)).trans hw253_3),((HB.out.cell (bl_ w _ hw253_4)).trans hw253_4),((HB.out.cell (bl_ w _ hw253_5)).trans hw253_5)⟩ (fun hHeld=>?_)
          clear hK K
          refine norm_ (a':=?_) ?_ ?_
          rotate_left
          ·show Act.put _ (some 46) _=_
           simp only [Act.put,ls_,lz_,lc_,i64_w,i32_w]
           rfl
          refine pure_ (i:=7) (N:=some 47) (v:=?_) (a':=?_) #[T_,T_,T_,T_,T_,T_,T_,T_] rfl rfl (any_of HT_.out (by kernel_rfl)) (fun _ _ _ h=>h) (Or.inl ⟨by rfl,?_⟩) ?_ ?_
          rotate_left
          ·intro w'
           go_simp
           with_reducible rfl
          rotate_left
          ·simp only [Act.put,ls_,lz_,lc_,i64_w,i32_w]
           rfl
          refine done_ (done_of HT_.out (by kernel_rfl)) ?_
          have p255:0≤(x5_1:Int):=od_ (by first|(with_reducible assumption)|assumption)
          have q255:x5_1<(l0.length:Int):=od_ (by first|(with_reducible assumption)|assumption)
          obtain ⟨ad255,A255_4,c255_4,A255_5,c255_5,e255,hx255_0,hx255_1,hx255_2,hx255_3,hx255_4,hx255_5,hl255_4,hi255_4,hl255_5,hi255_5⟩:=at_T28 HR0.out x5_1 p255 q255
          obtain rfl:ad249=ad255:=(by injection e255)
          try (have h_:=hx255_4.symm.trans hw253_4;injection h_ with h_;injection h_ with h1_ h3_ h2_;subst h1_;subst h2_)
          try (have h_:=hx255_5.symm.trans hw253_5;injection h_ with h_;injection h_ with h1_ h3_ h2_;subst h1_;subst h2_)
          replace hx255_0:=(HB.out.cell (bl_ w _ hx255_0)).trans hx255_0
          replace hx255_1:=(HB.out.cell (bl_ w _ hx255_1)).trans hx255_1
          replace hx255_2:=(HB.out.cell (bl_ w _ hx255_2)).trans hx255_2
          replace hx255_3:=(HB.out.cell (bl_ w _ hx255_3)).trans hx255_3
          replace hx255_4:=(HB.out.cell (bl_ w _ hx255_4)).trans hx255_4
          replace hx255_5:=(HB.out.cell (bl_ w _ hx255_5)).trans hx255_5
          have HR255_4:=A_ hi255_4
          have HC255_4:=A_ hl255_4
          clear hi255_4 hl255_4
          have HR255_5:=A_ hi255_5
          have HC255_5:=A_ hl255_5
          clear hi255_5 hl255_5
          replace p255:=eq_true p255
          replace q255:=eq_true q255
          try go_wp2_with (first|((with_reducible refine gate_callee (f:=27) rfl ?_);refine goesL_ (some 56) rfl rfl Try.func27 (by kernel_rfl) rfl #[.slice A255_4 ((rd_T28 l0 x5_1).f4).length c255_4,.int .i64 (wrap64 ((wrap64 ((wrap64 ((wrap64 (x1_1+1))+1))+1))+1))] rfl (by (try simp only [List.map_toArray,List.map_cons,List.map_nil]);first|done|rfl|(simp only [ld_,lt_];rfl)) ?_;(with_reducible refine (laws_heldAttrS.calls k1 _ _ ((rd_T28 l0 x5_1).f4) (wrap64 ((wrap64 ((wrap64 ((wrap64 (x1_1+1))+1))+1))+1)) t256 _ ?side1 ?side2 A11.out).mono ?_);(case side1=>repeat (first|exact (cb_ HR255_4.out HB.out)|(with_reducible refine ca_ ?_ _)|(with_reducible refine cn_ ?_ _)|(with_reducible refine cd_ ?_)));(case side2=>exact HC255_4.out);rintro e w17 ⟨rfl,hb⟩;refine ⟨_,rfl,?_⟩;have n0_:=A_ (bp_ (by repeat (first|(with_reducible first|exact HB.out|apply ba_|apply pd_|apply b1_)|exact HB.out)) hb);clear HB;have HB:=n0_;clear n0_;(try clear hb);(try clear hb2);(try clear hk);(try clear hi)))
          go_ret
          exact ⟨by first|rfl|(simp [errW_none,errW_some] <;> rfl)|(simp [*,errW_none,errW_some] <;> rfl),by repeat (first|(with_reducible first|exact HB.out|apply ba_|apply pd_|apply b1_)|exact HB.out)⟩
         ·rw [if_neg c12] at H
          have c12b0:decide (t256<0)=false:=df_ c12
          clear c12
          replace H:=ob_ H
          obtain ⟨t258,A180,H⟩:=H
          replace H:(if t258<0 then (some (-1)) else (laws_heldNodeS.l0 k1 l0 t258 (wrap64 (x5_1+1))))=some r:=H
          have A18:=A_ A180
          clear A180
          by_cases c19:t258<0
          ·rw [if_pos c19] at H
           have c19b0:decide (t258<0)=true:=dt_ c19
           clear c19
           obtain rfl:=oi_ H
           have p249:0≤(x5_1:Int):=od_ (by first|(with_reducible assumption)|assumption)
           have q249:x5_1<(l0.length:Int):=od_ (by first|(with_reducible assumption)|assumption)
           obtain ⟨ad249,A249_4,c249_4,A249_5,c249_5,e249,hx249_0,hx249_1,hx249_2,hx249_3,hx249_4,hx249_5,hl249_4,hi249_4,hl249_5,hi249_5⟩:=at_T28 HR0.out x5_1 p249 q249
           cases e249
           replace hx249_0:=(HB.out.cell (bl_ w _ hx249_0)).trans hx249_0
           replace hx249_1:=(HB.out.cell (bl_ w _ hx249_1)).trans hx249_1
           replace hx249_2:=(HB.out.cell (bl_ w _ hx249_2)).trans hx249_2
           replace hx249_3:=(HB.out.cell (bl_ w _ hx249_3)).trans hx249_3
           replace hx249_4:=(HB.out.cell (bl_ w _ hx249_4)).trans hx249_4
           replace hx249_5:=(HB.out.cell (bl_ w _ hx249_5)).trans hx249_5
           have HR249_4:=A_ hi249_4
           have HC249_4:=A_ hl249_4
           clear hi249_4 hl249_4
           have HR249_5:=A_ hi249_5
           have HC249_5:=A_ hl249_5
           clear hi249_5 hl249_5
           replace p249:=eq_true p249
           replace q249:=eq_true q249
           have p250:0≤(x5_1:Int):=od_ (by first|(with_reducible assumption)|assumption)
           have q250:x5_1<(l0.length:Int):=od_ (by first|(with_reducible assumption)|assumption)
           obtain ⟨ad250,A250_4,c250_4,A250_5,c250_5,e250,hx250_0,hx250_1,hx250_2,hx250_3,hx250_4,hx250_5,hl250_4,hi250_4,hl250_5,hi250_5⟩:=at_T28 HR0.out x5_1 p250 q250
           obtain rfl:ad249=ad250:=(by injection e250)
           try (have h_:=hx250_4.symm.trans hw248_4;injection h_ with h_;injection h_ with h1_ h3_ h2_;subst h1_;subst h2_)
           try (have h_:=hx250_5.symm.trans hw248_5;injection h_ with h_;injection h_ with h1_ h3_ h2_;subst h1_;subst h2_)
           replace hx250_0:=(HB.out.cell (bl_ w _ hx250_0)).trans hx250_0
           replace hx250_1:=(HB.out.cell (bl_ w _ hx250_1)).trans hx250_1
           replace hx250_2:=(HB.out.cell (bl_ w _ hx250_2)).trans hx250_2
           replace hx250_3:=(HB.out.cell (bl_ w _ hx250_3)).trans hx250_3
           replace hx250_4:=(HB.out.cell (bl_ w _ hx250_4)).trans hx250_4
           replace hx250_5:=(HB.out.cell (bl_ w _ hx250_5)).trans hx250_5
           have HR250_4:=A_ hi250_4
           have HC250_4:=A_ hl250_4
           clear hi250_4 hl250_4
           have HR250_5:=A_ hi250_5
           have HC250_5:=A_ hl250_5
           clear hi250_5 hl250_5
           replace p250:=eq_true p250
           replace q250:=eq_true q250
           have ea_:=oi_ (hx249_4.symm.trans hx250_4)
           injection ea_ with ea_ en_ ec_
           subst ea_
           subst ec_
           clear en_
           have ea_:=oi_ (hx249_5.symm.trans hx250_5)
           injection ea_ with ea_ en_ ec_
           subst ea_
           subst ec_
           clear en_
           try go_wp2
           have n0_:=A_ (b1_ HB.out)
           clear HB
           have HB:=n0_
           clear n0_
           have p251:0≤(x5_1:Int):=od_ (by first|(with_reducible assumption)|assumption)
           have q251:x5_1<(l0.length:Int):=od_ (by first|(with_reducible assumption)|assumption)
           obtain ⟨ad251,A251_4,c251_4,A251_5,c251_5,e251,hx251_0,hx251_1,hx251_2,hx251_3,hx251_4,hx251_5,hl251_4,hi251_4,hl251_5,hi251_5⟩:=at_T28 HR0.out x5_1 p251 q251
           have hw251_5:=hx251_5
           have hw251_4:=hx251_4
           have hw251_3:=hx251_3
           have hw251_2:=hx251_2
           have hw251_1:=hx251_1
           have hw251_0:=hx251_0
           obtain rfl:ad249=ad251:=(by injection e251)
           try (have h_:=hx251_4.symm.trans hw249_4;injection h_ with h_;injection h_ with h1_ h3_ h2_;subst h1_;subst h2_)
           try (have h_:=hx251_5.symm.trans hw249_5;injection h_ with h_;injection h_ with h1_ h3_ h2_;subst h1_;subst h2_)
           replace hx251_0:=(HB.out.cell (bl_ w _ hx251_0)).trans hx251_0
           replace hx251_1:=(HB.out.cell (bl_ w _ hx251_1)).trans hx251_1
           replace hx251_2:=(HB.out.cell (bl_ w _ hx251_2)).trans hx251_2
           replace hx251_3:=(HB.out.cell (bl_ w _ hx251_3)).trans hx251_3
           replace hx251_4:=(HB.out.cell (bl_ w _ hx251_4)).trans hx251_4
           replace hx251_5:=(HB.out.cell (bl_ w _ hx251_5)).trans hx251_5
           have HR251_4:=A_ hi251_4
           have HC251_4:=A_ hl251_4
           clear hi251_4 hl251_4
           have HR251_5:=A_ hi251_5
           have HC251_5:=A_ hl251_5
           clear hi251_5 hl251_5
           replace p251:=eq_true p251
           replace q251:=eq_true q251
           refine start_ (n:=8) (S:=fun w'=>w'.cell? (ad249.add ((x5_1).toNat * 6))=some (.int .i64 ((rd_T28 l0 x5_1).f0))∧w'.cell? ⟨(ad249.add ((x5_1).toNat * 6)).block,(ad249.add ((x5_1).toNat * 6)).off+1,none⟩=some (.int .i64 ((rd_T28 l0 x5_1).f1))∧w'.cell? ⟨(ad249.add ((x5_1).toNat * 6)).block,(ad249.add ((x5_1).toNat * 6)).off+2,none⟩=some (.string ((rd_T28 l0 x5_1).f2))∧w'.cell? ⟨(ad249.add ((x5_1).toNat * 6)).block,(ad249.add ((x5_1).toNat * 6)).off+3,none⟩=some (.string ((rd_T28 l0 x5_1).f3))∧w'.cell? ⟨(ad249.add ((x5_1).toNat * 6)).block,(ad249.add ((x5_1).toNat * 6)).off+4,none⟩=some (.slice A251_4 ((rd_T28 l0 x5_1).f4).length c251_4)∧w'.cell? ⟨(ad249.add ((x5_1).toNat * 6)).block,(ad249.add ((x5_1).toNat * 6)).off+5,none⟩=some (.slice A251_5 ((rd_T28 l0 x5_1).f5).length c251_5)) (ds:=[]) #[F_,F_,F_,F_,F_,F_,F_,F_] (by kernel_rfl) rfl rfl ⟨((HB.out.cell (bl_ w _ hw251_0)).trans hw251_0),((HB.out.cell (bl_ w _ hw251_1)).trans hw251_1),((HB.out.cell (bl_ w _ hw251_2)).trans hw251_2),((HB.out.cell (bl_ w _ hw251_3)).trans hw251_3),((HB.out.cell (bl_ w _ hw251_4)).trans hw251_4),((HB.out.cell (bl_ w _ hw251_5)).trans hw251_5)⟩ (fun hHeld=>?_);refine with_tabW laws_heldNodeS.tab10 laws_heldNodeS.bits10 (fun HT_ HW_=>?_)
           generalize wr.drew=w20 at HB HR251_4 HR251_5 hx251_0 hx251_1 hx251_2 hx251_3 hx251_4 hx251_5 hHeld ⊢
           refine pure_ (i:=0) (N:=some 30) (v:=?_) (a':=?_) #[T_,F_,F_,F_,F_,F_,F_,F_] rfl rfl (any_of HT_.out (by kernel_rfl)) (fun _ _ _ h=>h) (Or.inl ⟨by rfl,?_⟩) ?_ ?_
           rotate_left
           ·intro w'
            go_simp
            with_reducible rfl
           rotate_left
           ·simp only [Act.put,ls_,lz_,lc_,i64_w,i32_w]
            rfl
           refine pure_ (i:=1) (N:=some 31) (v:=?_) (a':=?_) #[T_,T_,F_,F_,F_,F_,F_,F_] rfl rfl (any_of HT_.out (by kernel_rfl)) (fun _ _ _ h=>h) (Or.inl ⟨by rfl,?_⟩) ?_ ?_
           rotate_left
           ·intro w'
            go_simp
            with_reducible rfl
           rotate_left
           ·simp only [Act.put,ls_,lz_,lc_,i64_w,i32_w]
            rfl
           refine pure_ (i:=2) (N:=some 32) (v:=?_) (a':=?_) #[T_,T_,T_,F_,F_,F_,F_,F_] rfl rfl (any_of HT_.out (by kernel_rfl)) (fun _ _ _ h=>h) (Or.inl ⟨by rfl,?_⟩) ?_ ?_
           rotate_left
           ·intro w'
            go_simp
            with_reducible rfl
           rotate_left
           ·simp only [Act.put,ls_,lz_,lc_,i64_w,i32_w]
            rfl
           refine pure_ (i:=3) (N:=some 33) (v:=?_) (a':=?_) #[T_,T_,T_,T_,F_,F_,F_,F_] rfl rfl (any_of HT_.out (by kernel_rfl)) (fun _ _ _ h=>h) (Or.inl ⟨by rfl,?_⟩) ?_ ?_
           rotate_left
           ·intro w'
            go_simp
            with_reducible rfl
           rotate_left
           ·simp only [Act.put,ls_,lz_,lc_,i64_w,i32_w]
            rfl
           refine pure_ (i:=5) (N:=some 35) (v:=?_) (a':=?_) #[T_,T_,T_,T_,F_,T_,F_,F_] rfl rfl (any_of HT_.out (by kernel_rfl)) (fun _ _ _ h=>h) (Or.inl ⟨by rfl,?_⟩) ?_ ?_
           rotate_left
           ·intro w'
            go_simp
            with_reducible rfl
           rotate_left
           ·simp only [Act.put,ls_,lz_,lc_,i64_w,i32_w]
            rfl
           refine take_ (i:=4) (N:=some 34) (v:=?_) (a':=?_) #[T_,T_,T_,T_,T_,T_,F_,F_] rfl rfl (take_ofW HT_.out HW_.out (by kernel_rfl)) (fun _ _ _ h=>h) (Or.inl ⟨by rfl,?_⟩) hHeld ?_ ?_
           rotate_left
           ·rintro w' ⟨s0,s1,s2,s3,s4,s5⟩
            go_simp
            with_reducible rfl
           rotate_left
           ·simp only [Act.put,ls_,lz_,lc_,i64_w,i32_w]
            rfl
           refine one_ (i:=6) (N:=some 36) #[T_,T_,T_,T_,T_,T_,T_,F_] rfl rfl (one_of HT_.out (by kernel_rfl)) (by decide) (fun K hK=>?_)
           refine goes_ Try.func25 (by kernel_rfl) rfl #[.int .i64 (wrap64 ((wrap64 (x1_1+1))+1))] (by rfl) rfl rfl (by (try simp only [List.map_toArray,List.map_cons,List.map_nil]);first|done|rfl|(simp only [ld_,lt_];rfl)) ?_
           with_reducible refine (laws_markText.calls k1 (wrap64 ((wrap64 (x1_1+1))+1)) t252 _ A7.out).mono ?_
           rintro e w21 ⟨rfl,hb⟩
           refine ⟨_,rfl,?_⟩
           have n0_:=A_ (bp_ (by repeat (first|(with_reducible first|exact HB.out|apply ba_|apply pd_|apply b1_)|exact HB.out)) hb)
           clear HB
           have HB:=n0_
           clear n0_
           (try clear hb)
           (try clear hb2)
           (try clear hk)
           (try clear hi)
           refine hK.out _ _ ⟨((HB.out.cell (bl_ w _ hw251_0)).trans hw251_0),((HB.out.cell (bl_ w _ hw251_1)).trans hw251_1),((HB.out.cell (bl_ w _ hw251_2)).trans hw251_2),((HB.out.cell (bl_ w _ hw251_3)).trans hw251_3),((HB.out.cell (bl_ w _ hw251_4)).trans hw251_4),((HB.out.cell (bl_ w _ hw251_5)).trans hw251_5)⟩ (fun hHeld=>?_)
           clear hK K
           refine norm_ (a':=?_) ?_ ?_
           rotate_left
           ·show Act.put _ (some 36) _=_
            simp only [Act.put,ls_,lz_,lc_,i64_w,i32_w]
            rfl
           refine pure_ (i:=7) (N:=some 37) (v:=?_) (a':=?_) #[T_,T_,T_,T_,T_,T_,T_,T_] rfl rfl (any_of HT_.out (by kernel_rfl)) (fun _ _ _ h=>h) (Or.inl ⟨by rfl,?_⟩) ?_ ?_
           rotate_left
           ·intro w'
            go_simp
            with_reducible rfl
           rotate_left
           ·simp only [Act.put,ls_,lz_,lc_,i64_w,i32_w]
            rfl
           refine done_ (done_of HT_.out (by kernel_rfl)) ?_
           try go_wp2
           have n0_:=A_ (b1_ HB.out)
           clear HB
           have HB:=n0_
           clear n0_
           have p253:0≤(x5_1:Int):=od_ (by first|(with_reducible assumption)|assumption)
           have q253:x5_1<(l0.length:Int):=od_ (by first|(with_reducible assumption)|assumption)
           obtain ⟨ad253,A253_4,c253_4,A253_5,c253_5,e253,hx253_0,hx253_1,hx253_2,hx253_3,hx253_4,hx253_5,hl253_4,hi253_4,hl253_5,hi253_5⟩:=at_T28 HR0.out x5_1 p253 q253
           have hw253_5:=hx253_5
           have hw253_4:=hx253_4
           have hw253_3:=hx253_3
           have hw253_2:=hx253_2
           have hw253_1:=hx253_1
           have hw253_0:=hx253_0
           obtain rfl:ad249=ad253:=(by injection e253)
           try (have h_:=hx253_4.symm.trans hw251_4;injection h_ with h_;injection h_ with h1_ h3_ h2_;subst h1_;subst h2_)
           try (have h_:=hx253_5.symm.trans hw251_5;injection h_ with h_;injection h_ with h1_ h3_ h2_;subst h1_;subst h2_)
           replace hx253_0:=(HB.out.cell (bl_ w _ hx253_0)).trans hx253_0
           replace hx253_1:=(HB.out.cell (bl_ w _ hx253_1)).trans hx253_1
           replace hx253_2:=(HB.out.cell (bl_ w _ hx253_2)).trans hx253_2
           replace hx253_3:=(HB.out.cell (bl_ w _ hx253_3)).trans hx253_3
           replace hx253_4:=(HB.out.cell (bl_ w _ hx253_4)).trans hx253_4
           replace hx253_5:=(HB.out.cell (bl_ w _ hx253_5)).trans hx253_5
           have HR253_4:=A_ hi253_4
           have HC253_4:=A_ hl253_4
           clear hi253_4 hl253_4
           have HR253_5:=A_ hi253_5
           have HC253_5:=A_ hl253_5
           clear hi253_5 hl253_5
           replace p253:=eq_true p253
           replace q253:=eq_true q253
           refine start_ (n:=8) (S:=fun w'=>w'.cell? (ad249.add ((x5_1).toNat * 6))=some (.int .i64 ((rd_T28 l0 x5_1).f0))∧w'.cell? ⟨(ad249.add ((x5_1).toNat * 6)).block,(ad249.add ((x5_1).toNat * 6)).off+1,none⟩=some (.int .i64 ((rd_T28 l0 x5_1).f1))∧w'.cell? ⟨(ad249.add ((x5_1).toNat * 6)).block,(ad249.add ((x5_1).toNat * 6)).off+2,none⟩=some (.string ((rd_T28 l0 x5_1).f2))∧w'.cell? ⟨(ad249.add ((x5_1).toNat * 6)).block,(ad249.add ((x5_1).toNat * 6)).off+3,none⟩=some (.string ((rd_T28 l0 x5_1).f3))∧w'.cell? ⟨(ad249.add ((x5_1).toNat * 6)).block,(ad249.add ((x5_1).toNat * 6)).off+4,none⟩=some (.slice A253_4 ((rd_T28 l0 x5_1).f4).length c253_4)∧w'.cell? ⟨(ad249.add ((x5_1).toNat * 6)).block,(ad249.add ((x5_1).toNat * 6)).off+5,none⟩=some (.slice A253_5 ((rd_T28 l0 x5_1).f5).length c253_5)) (ds:=[]) #[F_,F_,F_,F_,F_,F_,F_,F_] (by kernel_rfl) rfl rfl ⟨((HB.out.cell (bl_ w _ hw253_0)).trans hw253_0),((HB.out.cell (bl_ w _ hw253_1)).trans hw253_1),((HB.out.cell (bl_ w _ hw253_2)).trans hw253_2),((HB.out.cell (bl_ w _ hw253_3)).trans hw253_3),((HB.out.cell (bl_ w _ hw253_4)).trans hw253_4),((HB.out.cell (bl_ w _ hw253_5)).trans hw253_5)⟩ (fun hHeld=>?_);refine with_tabW laws_heldNodeS.tab13 laws_heldNodeS.bits13 (fun HT_ HW_=>?_)
           generalize w21.drew=w22 at HB HR253_4 HR253_5 hx253_0 hx253_1 hx253_2 hx253_3 hx253_4 hx253_5 hHeld ⊢
           refine pure_ (i:=0) (N:=some 40) (v:=?_) (a':=?_) #[T_,F_,F_,F_,F_,F_,F_,F_] rfl rfl (any_of HT_.out (by kernel_rfl)) (fun _ _ _ h=>h) (Or.inl ⟨by rfl,?_⟩) ?_ ?_
           rotate_left
           ·intro w'
            go_simp
            with_reducible rfl
           rotate_left
           ·simp only [Act.put,ls_,lz_,lc_,i64_w,i32_w]
            rfl
           refine pure_ (i:=1) (N:=some 41) (v:=?_) (a':=?_) #[T_,T_,F_,F_,F_,F_,F_,F_] rfl rfl (any_of HT_.out (by kernel_rfl)) (fun _ _ _ h=>h) (Or.inl ⟨by rfl,?_⟩) ?_ ?_
           rotate_left
           ·intro w'
            go_simp
            with_reducible rfl
           rotate_left
           ·simp only [Act.put,ls_,lz_,lc_,i64_w,i32_w]
            rfl
           refine pure_ (i:=2) (N:=some 42) (v:=?_) (a':=?_) #[T_,T_,T_,F_,F_,F_,F_,F_] rfl rfl (any_of HT_.out (by kernel_rfl)) (fun _ _ _ h=>h) (Or.inl ⟨by rfl,?_⟩) ?_ ?_
           rotate_left
           ·intro w'
            go_simp
            with_reducible rfl
           rotate_left
           ·simp only [Act.put,ls_,lz_,lc_,i64_w,i32_w]
            rfl
           refine pure_ (i:=3) (N:=some 43) (v:=?_) (a':=?_) #[T_,T_,T_,T_,F_,F_,F_,F_] rfl rfl (any_of HT_.out (by kernel_rfl)) (fun _ _ _ h=>h) (Or.inl ⟨by rfl,?_⟩) ?_ ?_
           rotate_left
           ·intro w'
            go_simp
            with_reducible rfl
           rotate_left
           ·simp only [Act.put,ls_,lz_,lc_,i64_w,i32_w]
            rfl
           refine pure_ (i:=5) (N:=some 45) (v:=?_) (a':=?_) #[T_,T_,T_,T_,F_,T_,F_,F_] rfl rfl (any_of HT_.out (by kernel_rfl)) (fun _ _ _ h=>h) (Or.inl ⟨by rfl,?_⟩) ?_ ?_
           rotate_left
           ·intro w'
            go_simp
            with_reducible rfl
           rotate_left
           ·simp only [Act.put,ls_,lz_,lc_,i64_w,i32_w]
            rfl
           refine take_ (i:=4) (N:=some 44) (v:=?_) (a':=?_) #[T_,T_,T_,T_,T_,T_,F_,F_] rfl rfl (take_ofW HT_.out HW_.out (by kernel_rfl)) (fun _ _ _ h=>h) (Or.inl ⟨by rfl,?_⟩) hHeld ?_ ?_
           rotate_left
           ·rintro w' ⟨s0,s1,s2,s3,s4,s5⟩
            go_simp
            with_reducible rfl
           rotate_left
           ·simp only [Act.put,ls_,lz_,lc_,i64_w,i32_w]
            rfl
           refine one_ (i:=6) (N:=some 46) #[T_,T_,T_,T_,T_,T_,T_,F_] rfl rfl (one_of HT_.out (by kernel_rfl)) (by decide) (fun K hK=>?_)
           refine goes_ Try.func25 (by kernel_rfl) rfl #[.int .i64 (wrap64 ((wrap64 ((wrap64 (x1_1+1))+1))+1))] (by rfl) rfl rfl (by (try simp only [List.map_toArray,List.map_cons,List.map_nil]);first|done|rfl|(simp only [ld_,lt_];rfl)) ?_
           with_reducible refine (laws_markText.calls k1 (wrap64 ((wrap64 ((wrap64 (x1_1+1))+1))+1)) t254 _ A9.out).mono ?_
           rintro e w23 ⟨rfl,hb⟩
           refine ⟨_,rfl,?_⟩
           have n0_:=A_ (bp_ (by repeat (first|(with_reducible first|exact HB.out|apply ba_|apply pd_|apply b1_)|exact HB.out)) hb)
           clear HB
           have HB:=n0_
           clear n0_
           (try clear hb)
           (try clear hb2)
           (try clear hk)
           (try clear hi)
           refine hK.out _ _ ⟨((HB.out.cell (bl_ w _ hw253_0)).trans hw253_0),((HB.out.cell (bl_ w _ hw253_1)).trans hw253_1),((HB.out.cell (bl_ w _ hw253_2)).trans hw253_2),((HB.out.cell (bl_ w _ hw253_3)).trans hw253_3),((HB.out.cell (bl_ w _ hw253_4)).trans hw253_4),((HB.out.cell (bl_ w _ hw253_5)).trans hw253_5)⟩ (fun hHeld=>?_)
           clear hK K
           refine norm_ (a':=?_) ?_ ?_
           rotate_left
           ·show Act.put _ (some 46) _=_
            simp only [Act.put,ls_,lz_,lc_,i64_w,i32_w]
            rfl
           refine pure_ (i:=7) (N:=some 47) (v:=?_) (a':=?_) #[T_,T_,T_,T_,T_,T_,T_,T_] rfl rfl (any_of HT_.out (by kernel_rfl)) (fun _ _ _ h=>h) (Or.inl ⟨by rfl,?_⟩) ?_ ?_
           rotate_left
           ·intro w'
            go_simp
            with_reducible rfl
           rotate_left
           ·simp only [Act.put,ls_,lz_,lc_,i64_w,i32_w]
            rfl
           refine done_ (done_of HT_.out (by kernel_rfl)) ?_
           have p255:0≤(x5_1:Int):=od_ (by first|(with_reducible assumption)|assumption)
           have q255:x5_1<(l0.length:Int):=od_ (by first|(with_reducible assumption)|assumption)
           obtain ⟨ad255,A255_4,c255_4,A255_5,c255_5,e255,hx255_0,hx255_1,hx255_2,hx255_3,hx255_4,hx255_5,hl255_4,hi255_4,hl255_5,hi255_5⟩:=at_T28 HR0.out x5_1 p255 q255
           obtain rfl:ad249=ad255:=(by injection e255)
           try (have h_:=hx255_4.symm.trans hw253_4;injection h_ with h_;injection h_ with h1_ h3_ h2_;subst h1_;subst h2_)
           try (have h_:=hx255_5.symm.trans hw253_5;injection h_ with h_;injection h_ with h1_ h3_ h2_;subst h1_;subst h2_)
           replace hx255_0:=(HB.out.cell (bl_ w _ hx255_0)).trans hx255_0
           replace hx255_1:=(HB.out.cell (bl_ w _ hx255_1)).trans hx255_1
           replace hx255_2:=(HB.out.cell (bl_ w _ hx255_2)).trans hx255_2
           replace hx255_3:=(HB.out.cell (bl_ w _ hx255_3)).trans hx255_3
           replace hx255_4:=(HB.out.cell (bl_ w _ hx255_4)).trans hx255_4
           replace hx255_5:=(HB.out.cell (bl_ w _ hx255_5)).trans hx255_5
           have HR255_4:=A_ hi255_4
           have HC255_4:=A_ hl255_4
           clear hi255_4 hl255_4
           have HR255_5:=A_ hi255_5
           have HC255_5:=A_ hl255_5
           clear hi255_5 hl255_5
           replace p255:=eq_true p255
           replace q255:=eq_true q255
           try go_wp2_with (first|((with_reducible refine gate_callee (f:=27) rfl ?_);refine goesL_ (some 56) rfl rfl Try.func27 (by kernel_rfl) rfl #[.slice A255_4 ((rd_T28 l0 x5_1).f4).length c255_4,.int .i64 (wrap64 ((wrap64 ((wrap64 ((wrap64 (x1_1+1))+1))+1))+1))] rfl (by (try simp only [List.map_toArray,List.map_cons,List.map_nil]);first|done|rfl|(simp only [ld_,lt_];rfl)) ?_;(with_reducible refine (laws_heldAttrS.calls k1 _ _ ((rd_T28 l0 x5_1).f4) (wrap64 ((wrap64 ((wrap64 ((wrap64 (x1_1+1))+1))+1))+1)) t256 _ ?side1 ?side2 A11.out).mono ?_);(case side1=>repeat (first|exact (cb_ HR255_4.out HB.out)|(with_reducible refine ca_ ?_ _)|(with_reducible refine cn_ ?_ _)|(with_reducible refine cd_ ?_)));(case side2=>exact HC255_4.out);rintro e w24 ⟨rfl,hb⟩;refine ⟨_,rfl,?_⟩;have n0_:=A_ (bp_ (by repeat (first|(with_reducible first|exact HB.out|apply ba_|apply pd_|apply b1_)|exact HB.out)) hb);clear HB;have HB:=n0_;clear n0_;(try clear hb);(try clear hb2);(try clear hk);(try clear hi);have p257:0≤(x5_1:Int):=od_ (by first|(with_reducible assumption)|assumption);have q257:x5_1<(l0.length:Int):=od_ (by first|(with_reducible assumption)|assumption);obtain ⟨ad257,A257_4,c257_4,A257_5,c257_5,e257,hx257_0,hx257_1,hx257_2,hx257_3,hx257_4,hx257_5,hl257_4,hi257_4,hl257_5,hi257_5⟩:=at_T28 HR0.out x5_1 p257 q257;obtain rfl:ad249=ad257:=(by injection e257);replace hx257_0:=(HB.out.cell (bl_ w _ hx257_0)).trans hx257_0;replace hx257_1:=(HB.out.cell (bl_ w _ hx257_1)).trans hx257_1;replace hx257_2:=(HB.out.cell (bl_ w _ hx257_2)).trans hx257_2;replace hx257_3:=(HB.out.cell (bl_ w _ hx257_3)).trans hx257_3;replace hx257_4:=(HB.out.cell (bl_ w _ hx257_4)).trans hx257_4;replace hx257_5:=(HB.out.cell (bl_ w _ hx257_5)).trans hx257_5;have HR257_4:=A_ hi257_4;have HC257_4:=A_ hl257_4;clear hi257_4 hl257_4;have HR257_5:=A_ hi257_5;have HC257_5:=A_ hl257_5;clear hi257_5 hl257_5;replace p257:=eq_true p257;replace q257:=eq_true q257)|((with_reducible refine gate_callee (f:=28) rfl ?_);refine goesL_ (some 65) rfl rfl Try.func28 (by kernel_rfl) rfl #[.slice A257_5 ((rd_T28 l0 x5_1).f5).length c257_5,.int .i64 t256] rfl (by (try simp only [List.map_toArray,List.map_cons,List.map_nil]);first|done|rfl|(simp only [ld_,lt_];rfl)) ?_;(with_reducible refine (ih k1 (by have:=HK1.out;omega) _ _ ((rd_T28 l0 x5_1).f5) t256 t258 _ ?side1 ?side2 A18.out).mono ?_);(case side1=>repeat (first|exact (cb_ HR257_5.out HB.out)|(with_reducible refine ca_ ?_ _)|(with_reducible refine cn_ ?_ _)|(with_reducible refine cd_ ?_)));(case side2=>exact HC257_5.out);rintro e w25 ⟨rfl,hb⟩;refine ⟨_,rfl,?_⟩;have n0_:=A_ (bp_ (by repeat (first|(with_reducible first|exact HB.out|apply ba_|apply pd_|apply b1_)|exact HB.out)) hb);clear HB;have HB:=n0_;clear n0_;(try clear hb);(try clear hb2);(try clear hk);(try clear hi)))
           go_ret
           exact ⟨by first|rfl|(simp [errW_none,errW_some] <;> rfl)|(simp [*,errW_none,errW_some] <;> rfl),by repeat (first|(with_reducible first|exact HB.out|apply ba_|apply pd_|apply b1_)|exact HB.out)⟩
          ·rw [if_neg c19] at H
           have c19b0:decide (t258<0)=false:=df_ c19
           clear c19
           have H':=A_ H
           clear H
           have p249:0≤(x5_1:Int):=od_ (by first|(with_reducible assumption)|assumption)
           have q249:x5_1<(l0.length:Int):=od_ (by first|(with_reducible assumption)|assumption)
           obtain ⟨ad249,A249_4,c249_4,A249_5,c249_5,e249,hx249_0,hx249_1,hx249_2,hx249_3,hx249_4,hx249_5,hl249_4,hi249_4,hl249_5,hi249_5⟩:=at_T28 HR0.out x5_1 p249 q249
           cases e249
           replace hx249_0:=(HB.out.cell (bl_ w _ hx249_0)).trans hx249_0
           replace hx249_1:=(HB.out.cell (bl_ w _ hx249_1)).trans hx249_1
           replace hx249_2:=(HB.out.cell (bl_ w _ hx249_2)).trans hx249_2
           replace hx249_3:=(HB.out.cell (bl_ w _ hx249_3)).trans hx249_3
           replace hx249_4:=(HB.out.cell (bl_ w _ hx249_4)).trans hx249_4
           replace hx249_5:=(HB.out.cell (bl_ w _ hx249_5)).trans hx249_5
           have HR249_4:=A_ hi249_4
           have HC249_4:=A_ hl249_4
           clear hi249_4 hl249_4
           have HR249_5:=A_ hi249_5
           have HC249_5:=A_ hl249_5
           clear hi249_5 hl249_5
           replace p249:=eq_true p249
           replace q249:=eq_true q249
           have p250:0≤(x5_1:Int):=od_ (by first|(with_reducible assumption)|assumption)
           have q250:x5_1<(l0.length:Int):=od_ (by first|(with_reducible assumption)|assumption)
           obtain ⟨ad250,A250_4,c250_4,A250_5,c250_5,e250,hx250_0,hx250_1,hx250_2,hx250_3,hx250_4,hx250_5,hl250_4,hi250_4,hl250_5,hi250_5⟩:=at_T28 HR0.out x5_1 p250 q250
           obtain rfl:ad249=ad250:=(by injection e250)
           try (have h_:=hx250_4.symm.trans hw248_4;injection h_ with h_;injection h_ with h1_ h3_ h2_;subst h1_;subst h2_)
           try (have h_:=hx250_5.symm.trans hw248_5;injection h_ with h_;injection h_ with h1_ h3_ h2_;subst h1_;subst h2_)
           replace hx250_0:=(HB.out.cell (bl_ w _ hx250_0)).trans hx250_0
           replace hx250_1:=(HB.out.cell (bl_ w _ hx250_1)).trans hx250_1
           replace hx250_2:=(HB.out.cell (bl_ w _ hx250_2)).trans hx250_2
           replace hx250_3:=(HB.out.cell (bl_ w _ hx250_3)).trans hx250_3
           replace hx250_4:=(HB.out.cell (bl_ w _ hx250_4)).trans hx250_4
           replace hx250_5:=(HB.out.cell (bl_ w _ hx250_5)).trans hx250_5
           have HR250_4:=A_ hi250_4
           have HC250_4:=A_ hl250_4
           clear hi250_4 hl250_4
           have HR250_5:=A_ hi250_5
           have HC250_5:=A_ hl250_5
           clear hi250_5 hl250_5
           replace p250:=eq_true p250
           replace q250:=eq_true q250
           have ea_:=oi_ (hx249_4.symm.trans hx250_4)
           injection ea_ with ea_ en_ ec_
           subst ea_
           subst ec_
           clear en_
           have ea_:=oi_ (hx249_5.symm.trans hx250_5)
           injection ea_ with ea_ en_ ec_
           subst ea_
           subst ec_
           clear en_
           try go_wp2
           have n0_:=A_ (b1_ HB.out)
           clear HB
           have HB:=n0_
           clear n0_
           have p251:0≤(x5_1:Int):=od_ (by first|(with_reducible assumption)|assumption)
           have q251:x5_1<(l0.length:Int):=od_ (by first|(with_reducible assumption)|assumption)
           obtain ⟨ad251,A251_4,c251_4,A251_5,c251_5,e251,hx251_0,hx251_1,hx251_2,hx251_3,hx251_4,hx251_5,hl251_4,hi251_4,hl251_5,hi251_5⟩:=at_T28 HR0.out x5_1 p251 q251
           have hw251_5:=hx251_5
           have hw251_4:=hx251_4
           have hw251_3:=hx251_3
           have hw251_2:=hx251_2
           have hw251_1:=hx251_1
           have hw251_0:=hx251_0
           obtain rfl:ad249=ad251:=(by injection e251)
           try (have h_:=hx251_4.symm.trans hw249_4;injection h_ with h_;injection h_ with h1_ h3_ h2_;subst h1_;subst h2_)
           try (have h_:=hx251_5.symm.trans hw249_5;injection h_ with h_;injection h_ with h1_ h3_ h2_;subst h1_;subst h2_)
           replace hx251_0:=(HB.out.cell (bl_ w _ hx251_0)).trans hx251_0
           replace hx251_1:=(HB.out.cell (bl_ w _ hx251_1)).trans hx251_1
           replace hx251_2:=(HB.out.cell (bl_ w _ hx251_2)).trans hx251_2
           replace hx251_3:=(HB.out.cell (bl_ w _ hx251_3)).trans hx251_3
           replace hx251_4:=(HB.out.cell (bl_ w _ hx251_4)).trans hx251_4
           replace hx251_5:=(HB.out.cell (bl_ w _ hx251_5)).trans hx251_5
           have HR251_4:=A_ hi251_4
           have HC251_4:=A_ hl251_4
           clear hi251_4 hl251_4
           have HR251_5:=A_ hi251_5
           have HC251_5:=A_ hl251_5
           clear hi251_5 hl251_5
           replace p251:=eq_true p251
           replace q251:=eq_true q251
           refine start_ (n:=8) (S:=fun w'=>w'.cell? (ad249.add ((x5_1).toNat * 6))=some (.int .i64 ((rd_T28 l0 x5_1).f0))∧w'.cell? ⟨(ad249.add ((x5_1).toNat * 6)).block,(ad249.add ((x5_1).toNat * 6)).off+1,none⟩=some (.int .i64 ((rd_T28 l0 x5_1).f1))∧w'.cell? ⟨(ad249.add ((x5_1).toNat * 6)).block,(ad249.add ((x5_1).toNat * 6)).off+2,none⟩=some (.string ((rd_T28 l0 x5_1).f2))∧w'.cell? ⟨(ad249.add ((x5_1).toNat * 6)).block,(ad249.add ((x5_1).toNat * 6)).off+3,none⟩=some (.string ((rd_T28 l0 x5_1).f3))∧w'.cell? ⟨(ad249.add ((x5_1).toNat * 6)).block,(ad249.add ((x5_1).toNat * 6)).off+4,none⟩=some (.slice A251_4 ((rd_T28 l0 x5_1).f4).length c251_4)∧w'.cell? ⟨(ad249.add ((x5_1).toNat * 6)).block,(ad249.add ((x5_1).toNat * 6)).off+5,none⟩=some (.slice A251_5 ((rd_T28 l0 x5_1).f5).length c251_5)) (ds:=[]) #[F_,F_,F_,F_,F_,F_,F_,F_] (by kernel_rfl) rfl rfl ⟨((HB.out.cell (bl_ w _ hw251_0)).trans hw251_0),((HB.out.cell (bl_ w _ hw251_1)).trans hw251_1),((HB.out.cell (bl_ w _ hw251_2)).trans hw251_2),((HB.out.cell (bl_ w _ hw251_3)).trans hw251_3),((HB.out.cell (bl_ w _ hw251_4)).trans hw251_4),((HB.out.cell (bl_ w _ hw251_5)).trans hw251_5)⟩ (fun hHeld=>?_);refine with_tabW laws_heldNodeS.tab10 laws_heldNodeS.bits10 (fun HT_ HW_=>?_)
           generalize wr.drew=w26 at HB HR251_4 HR251_5 hx251_0 hx251_1 hx251_2 hx251_3 hx251_4 hx251_5 hHeld ⊢
           refine pure_ (i:=0) (N:=some 30) (v:=?_) (a':=?_) #[T_,F_,F_,F_,F_,F_,F_,F_] rfl rfl (any_of HT_.out (by kernel_rfl)) (fun _ _ _ h=>h) (Or.inl ⟨by rfl,?_⟩) ?_ ?_
           rotate_left
           ·intro w'
            go_simp
            with_reducible rfl
           rotate_left
           ·simp only [Act.put,ls_,lz_,lc_,i64_w,i32_w]
            rfl
           refine pure_ (i:=1) (N:=some 31) (v:=?_) (a':=?_) #[T_,T_,F_,F_,F_,F_,F_,F_] rfl rfl (any_of HT_.out (by kernel_rfl)) (fun _ _ _ h=>h) (Or.inl ⟨by rfl,?_⟩) ?_ ?_
           rotate_left
           ·intro w'
            go_simp
            with_reducible rfl
           rotate_left
           ·simp only [Act.put,ls_,lz_,lc_,i64_w,i32_w]
            rfl
           refine pure_ (i:=2) (N:=some 32) (v:=?_) (a':=?_) #[T_,T_,T_,F_,F_,F_,F_,F_] rfl rfl (any_of HT_.out (by kernel_rfl)) (fun _ _ _ h=>h) (Or.inl ⟨by rfl,?_⟩) ?_ ?_
           rotate_left
           ·intro w'
            go_simp
            with_reducible rfl
           rotate_left
           ·simp only [Act.put,ls_,lz_,lc_,i64_w,i32_w]
            rfl
           refine pure_ (i:=3) (N:=some 33) (v:=?_) (a':=?_) #[T_,T_,T_,T_,F_,F_,F_,F_] rfl rfl (any_of HT_.out (by kernel_rfl)) (fun _ _ _ h=>h) (Or.inl ⟨by rfl,?_⟩) ?_ ?_
           rotate_left
           ·intro w'
            go_simp
            with_reducible rfl
           rotate_left
           ·simp only [Act.put,ls_,lz_,lc_,i64_w,i32_w]
            rfl
           refine pure_ (i:=5) (N:=some 35) (v:=?_) (a':=?_) #[T_,T_,T_,T_,F_,T_,F_,F_] rfl rfl (any_of HT_.out (by kernel_rfl)) (fun _ _ _ h=>h) (Or.inl ⟨by rfl,?_⟩) ?_ ?_
           rotate_left
           ·intro w'
            go_simp
            with_reducible rfl
           rotate_left
           ·simp only [Act.put,ls_,lz_,lc_,i64_w,i32_w]
            rfl
           refine take_ (i:=4) (N:=some 34) (v:=?_) (a':=?_) #[T_,T_,T_,T_,T_,T_,F_,F_] rfl rfl (take_ofW HT_.out HW_.out (by kernel_rfl)) (fun _ _ _ h=>h) (Or.inl ⟨by rfl,?_⟩) hHeld ?_ ?_
           rotate_left
           ·rintro w' ⟨s0,s1,s2,s3,s4,s5⟩
            go_simp
            with_reducible rfl
           rotate_left
           ·simp only [Act.put,ls_,lz_,lc_,i64_w,i32_w]
            rfl
           refine one_ (i:=6) (N:=some 36) #[T_,T_,T_,T_,T_,T_,T_,F_] rfl rfl (one_of HT_.out (by kernel_rfl)) (by decide) (fun K hK=>?_)
           refine goes_ Try.func25 (by kernel_rfl) rfl #[.int .i64 (wrap64 ((wrap64 (x1_1+1))+1))] (by rfl) rfl rfl (by (try simp only [List.map_toArray,List.map_cons,List.map_nil]);first|done|rfl|(simp only [ld_,lt_];rfl)) ?_
           with_reducible refine (laws_markText.calls k1 (wrap64 ((wrap64 (x1_1+1))+1)) t252 _ A7.out).mono ?_
           rintro e w27 ⟨rfl,hb⟩
           refine ⟨_,rfl,?_⟩
           have n0_:=A_ (bp_ (by repeat (first|(with_reducible first|exact HB.out|apply ba_|apply pd_|apply b1_)|exact HB.out)) hb)
           clear HB
           have HB:=n0_
           clear n0_
           (try clear hb)
           (try clear hb2)
           (try clear hk)
           (try clear hi)
           refine hK.out _ _ ⟨((HB.out.cell (bl_ w _ hw251_0)).trans hw251_0),((HB.out.cell (bl_ w _ hw251_1)).trans hw251_1),((HB.out.cell (bl_ w _ hw251_2)).trans hw251_2),((HB.out.cell (bl_ w _ hw251_3)).trans hw251_3),((HB.out.cell (bl_ w _ hw251_4)).trans hw251_4),((HB.out.cell (bl_ w _ hw251_5)).trans hw251_5)⟩ (fun hHeld=>?_)
           clear hK K
           refine norm_ (a':=?_) ?_ ?_
           rotate_left
           ·show Act.put _ (some 36) _=_
            simp only [Act.put,ls_,lz_,lc_,i64_w,i32_w]
            rfl
           refine pure_ (i:=7) (N:=some 37) (v:=?_) (a':=?_) #[T_,T_,T_,T_,T_,T_,T_,T_] rfl rfl (any_of HT_.out (by kernel_rfl)) (fun _ _ _ h=>h) (Or.inl ⟨by rfl,?_⟩) ?_ ?_
           rotate_left
           ·intro w'
            go_simp
            with_reducible rfl
           rotate_left
           ·simp only [Act.put,ls_,lz_,lc_,i64_w,i32_w]
            rfl
           refine done_ (done_of HT_.out (by kernel_rfl)) ?_
           try go_wp2
           have n0_:=A_ (b1_ HB.out)
           clear HB
           have HB:=n0_
           clear n0_
           have p253:0≤(x5_1:Int):=od_ (by first|(with_reducible assumption)|assumption)
           have q253:x5_1<(l0.length:Int):=od_ (by first|(with_reducible assumption)|assumption)
           obtain ⟨ad253,A253_4,c253_4,A253_5,c253_5,e253,hx253_0,hx253_1,hx253_2,hx253_3,hx253_4,hx253_5,hl253_4,hi253_4,hl253_5,hi253_5⟩:=at_T28 HR0.out x5_1 p253 q253
           have hw253_5:=hx253_5
           have hw253_4:=hx253_4
           have hw253_3:=hx253_3
           have hw253_2:=hx253_2
           have hw253_1:=hx253_1
           have hw253_0:=hx253_0
           obtain rfl:ad249=ad253:=(by injection e253)
           try (have h_:=hx253_4.symm.trans hw251_4;injection h_ with h_;injection h_ with h1_ h3_ h2_;subst h1_;subst h2_)
           try (have h_:=hx253_5.symm.trans hw251_5;injection h_ with h_;injection h_ with h1_ h3_ h2_;subst h1_;subst h2_)
           replace hx253_0:=(HB.out.cell (bl_ w _ hx253_0)).trans hx253_0
           replace hx253_1:=(HB.out.cell (bl_ w _ hx253_1)).trans hx253_1
           replace hx253_2:=(HB.out.cell (bl_ w _ hx253_2)).trans hx253_2
           replace hx253_3:=(HB.out.cell (bl_ w _ hx253_3)).trans hx253_3
           replace hx253_4:=(HB.out.cell (bl_ w _ hx253_4)).trans hx253_4
           replace hx253_5:=(HB.out.cell (bl_ w _ hx253_5)).trans hx253_5
           have HR253_4:=A_ hi253_4
           have HC253_4:=A_ hl253_4
           clear hi253_4 hl253_4
           have HR253_5:=A_ hi253_5
           have HC253_5:=A_ hl253_5
           clear hi253_5 hl253_5
           replace p253:=eq_true p253
           replace q253:=eq_true q253
           refine start_ (n:=8) (S:=fun w'=>w'.cell? (ad249.add ((x5_1).toNat * 6))=some (.int .i64 ((rd_T28 l0 x5_1).f0))∧w'.cell? ⟨(ad249.add ((x5_1).toNat * 6)).block,(ad249.add ((x5_1).toNat * 6)).off+1,none⟩=some (.int .i64 ((rd_T28 l0 x5_1).f1))∧w'.cell? ⟨(ad249.add ((x5_1).toNat * 6)).block,(ad249.add ((x5_1).toNat * 6)).off+2,none⟩=some (.string ((rd_T28 l0 x5_1).f2))∧w'.cell? ⟨(ad249.add ((x5_1).toNat * 6)).block,(ad249.add ((x5_1).toNat * 6)).off+3,none⟩=some (.string ((rd_T28 l0 x5_1).f3))∧w'.cell? ⟨(ad249.add ((x5_1).toNat * 6)).block,(ad249.add ((x5_1).toNat * 6)).off+4,none⟩=some (.slice A253_4 ((rd_T28 l0 x5_1).f4).length c253_4)∧w'.cell? ⟨(ad249.add ((x5_1).toNat * 6)).block,(ad249.add ((x5_1).toNat * 6)).off+5,none⟩=some (.slice A253_5 ((rd_T28 l0 x5_1).f5).length c253_5)) (ds:=[]) #[F_,F_,F_,F_,F_,F_,F_,F_] (by kernel_rfl) rfl rfl ⟨((HB.out.cell (bl_ w _ hw253_0)).trans hw253_0),((HB.out.cell (bl_ w _ hw253_1)).trans hw253_1),((HB.out.cell (bl_ w _ hw253_2)).trans hw253_2),((HB.out.cell (bl_ w _ hw253_3)).trans hw253_3),((HB.out.cell (bl_ w _ hw253_4)).trans hw253_4),((HB.out.cell (bl_ w _ hw253_5)).trans hw253_5)⟩ (fun hHeld=>?_);refine with_tabW laws_heldNodeS.tab13 laws_heldNodeS.bits13 (fun HT_ HW_=>?_)
           generalize w27.drew=w28 at HB HR253_4 HR253_5 hx253_0 hx253_1 hx253_2 hx253_3 hx253_4 hx253_5 hHeld ⊢
           refine pure_ (i:=0) (N:=some 40) (v:=?_) (a':=?_) #[T_,F_,F_,F_,F_,F_,F_,F_] rfl rfl (any_of HT_.out (by kernel_rfl)) (fun _ _ _ h=>h) (Or.inl ⟨by rfl,?_⟩) ?_ ?_
           rotate_left
           ·intro w'
            go_simp
            with_reducible rfl
           rotate_left
           ·simp only [Act.put,ls_,lz_,lc_,i64_w,i32_w]
            rfl
           refine pure_ (i:=1) (N:=some 41) (v:=?_) (a':=?_) #[T_,T_,F_,F_,F_,F_,F_,F_] rfl rfl (any_of HT_.out (by kernel_rfl)) (fun _ _ _ h=>h) (Or.inl ⟨by rfl,?_⟩) ?_ ?_
           rotate_left
           ·intro w'
            go_simp
            with_reducible rfl
           rotate_left
           ·simp only [Act.put,ls_,lz_,lc_,i64_w,i32_w]
            rfl
           refine pure_ (i:=2) (N:=some 42) (v:=?_) (a':=?_) #[T_,T_,T_,F_,F_,F_,F_,F_] rfl rfl (any_of HT_.out (by kernel_rfl)) (fun _ _ _ h=>h) (Or.inl ⟨by rfl,?_⟩) ?_ ?_
           rotate_left
           ·intro w'
            go_simp
            with_reducible rfl
           rotate_left
           ·simp only [Act.put,ls_,lz_,lc_,i64_w,i32_w]
            rfl
           refine pure_ (i:=3) (N:=some 43) (v:=?_) (a':=?_) #[T_,T_,T_,T_,F_,F_,F_,F_] rfl rfl (any_of HT_.out (by kernel_rfl)) (fun _ _ _ h=>h) (Or.inl ⟨by rfl,?_⟩) ?_ ?_
           rotate_left
           ·intro w'
            go_simp
            with_reducible rfl
           rotate_left
           ·simp only [Act.put,ls_,lz_,lc_,i64_w,i32_w]
            rfl
           refine pure_ (i:=5) (N:=some 45) (v:=?_) (a':=?_) #[T_,T_,T_,T_,F_,T_,F_,F_] rfl rfl (any_of HT_.out (by kernel_rfl)) (fun _ _ _ h=>h) (Or.inl ⟨by rfl,?_⟩) ?_ ?_
           rotate_left
           ·intro w'
            go_simp
            with_reducible rfl
           rotate_left
           ·simp only [Act.put,ls_,lz_,lc_,i64_w,i32_w]
            rfl
           refine take_ (i:=4) (N:=some 44) (v:=?_) (a':=?_) #[T_,T_,T_,T_,T_,T_,F_,F_] rfl rfl (take_ofW HT_.out HW_.out (by kernel_rfl)) (fun _ _ _ h=>h) (Or.inl ⟨by rfl,?_⟩) hHeld ?_ ?_
           rotate_left
           ·rintro w' ⟨s0,s1,s2,s3,s4,s5⟩
            go_simp
            with_reducible rfl
           rotate_left
           ·simp only [Act.put,ls_,lz_,lc_,i64_w,i32_w]
            rfl
           refine one_ (i:=6) (N:=some 46) #[T_,T_,T_,T_,T_,T_,T_,F_] rfl rfl (one_of HT_.out (by kernel_rfl)) (by decide) (fun K hK=>?_)
           refine goes_ Try.func25 (by kernel_rfl) rfl #[.int .i64 (wrap64 ((wrap64 ((wrap64 (x1_1+1))+1))+1))] (by rfl) rfl rfl (by (try simp only [List.map_toArray,List.map_cons,List.map_nil]);first|done|rfl|(simp only [ld_,lt_];rfl)) ?_
           with_reducible refine (laws_markText.calls k1 (wrap64 ((wrap64 ((wrap64 (x1_1+1))+1))+1)) t254 _ A9.out).mono ?_
           rintro e w29 ⟨rfl,hb⟩
           refine ⟨_,rfl,?_⟩
           have n0_:=A_ (bp_ (by repeat (first|(with_reducible first|exact HB.out|apply ba_|apply pd_|apply b1_)|exact HB.out)) hb)
           clear HB
           have HB:=n0_
           clear n0_
           (try clear hb)
           (try clear hb2)
           (try clear hk)
           (try clear hi)
           refine hK.out _ _ ⟨((HB.out.cell (bl_ w _ hw253_0)).trans hw253_0),((HB.out.cell (bl_ w _ hw253_1)).trans hw253_1),((HB.out.cell (bl_ w _ hw253_2)).trans hw253_2),((HB.out.cell (bl_ w _ hw253_3)).trans hw253_3),((HB.out.cell (bl_ w _ hw253_4)).trans hw253_4),((HB.out.cell (bl_ w _ hw253_5)).trans hw253_5)⟩ (fun hHeld=>?_)
           clear hK K
           refine norm_ (a':=?_) ?_ ?_
           rotate_left
           ·show Act.put _ (some 46) _=_
            simp only [Act.put,ls_,lz_,lc_,i64_w,i32_w]
            rfl
           refine pure_ (i:=7) (N:=some 47) (v:=?_) (a':=?_) #[T_,T_,T_,T_,T_,T_,T_,T_] rfl rfl (any_of HT_.out (by kernel_rfl)) (fun _ _ _ h=>h) (Or.inl ⟨by rfl,?_⟩) ?_ ?_
           rotate_left
           ·intro w'
            go_simp
            with_reducible rfl
           rotate_left
           ·simp only [Act.put,ls_,lz_,lc_,i64_w,i32_w]
            rfl
           refine done_ (done_of HT_.out (by kernel_rfl)) ?_
           have p255:0≤(x5_1:Int):=od_ (by first|(with_reducible assumption)|assumption)
           have q255:x5_1<(l0.length:Int):=od_ (by first|(with_reducible assumption)|assumption)
           obtain ⟨ad255,A255_4,c255_4,A255_5,c255_5,e255,hx255_0,hx255_1,hx255_2,hx255_3,hx255_4,hx255_5,hl255_4,hi255_4,hl255_5,hi255_5⟩:=at_T28 HR0.out x5_1 p255 q255
           obtain rfl:ad249=ad255:=(by injection e255)
           try (have h_:=hx255_4.symm.trans hw253_4;injection h_ with h_;injection h_ with h1_ h3_ h2_;subst h1_;subst h2_)
           try (have h_:=hx255_5.symm.trans hw253_5;injection h_ with h_;injection h_ with h1_ h3_ h2_;subst h1_;subst h2_)
           replace hx255_0:=(HB.out.cell (bl_ w _ hx255_0)).trans hx255_0
           replace hx255_1:=(HB.out.cell (bl_ w _ hx255_1)).trans hx255_1
           replace hx255_2:=(HB.out.cell (bl_ w _ hx255_2)).trans hx255_2
           replace hx255_3:=(HB.out.cell (bl_ w _ hx255_3)).trans hx255_3
           replace hx255_4:=(HB.out.cell (bl_ w _ hx255_4)).trans hx255_4
           replace hx255_5:=(HB.out.cell (bl_ w _ hx255_5)).trans hx255_5
           have HR255_4:=A_ hi255_4
           have HC255_4:=A_ hl255_4
           clear hi255_4 hl255_4
           have HR255_5:=A_ hi255_5
           have HC255_5:=A_ hl255_5
           clear hi255_5 hl255_5
           replace p255:=eq_true p255
           replace q255:=eq_true q255
           try go_wp2_with (first|((with_reducible refine gate_callee (f:=27) rfl ?_);refine goesL_ (some 56) rfl rfl Try.func27 (by kernel_rfl) rfl #[.slice A255_4 ((rd_T28 l0 x5_1).f4).length c255_4,.int .i64 (wrap64 ((wrap64 ((wrap64 ((wrap64 (x1_1+1))+1))+1))+1))] rfl (by (try simp only [List.map_toArray,List.map_cons,List.map_nil]);first|done|rfl|(simp only [ld_,lt_];rfl)) ?_;(with_reducible refine (laws_heldAttrS.calls k1 _ _ ((rd_T28 l0 x5_1).f4) (wrap64 ((wrap64 ((wrap64 ((wrap64 (x1_1+1))+1))+1))+1)) t256 _ ?side1 ?side2 A11.out).mono ?_);(case side1=>repeat (first|exact (cb_ HR255_4.out HB.out)|(with_reducible refine ca_ ?_ _)|(with_reducible refine cn_ ?_ _)|(with_reducible refine cd_ ?_)));(case side2=>exact HC255_4.out);rintro e w30 ⟨rfl,hb⟩;refine ⟨_,rfl,?_⟩;have n0_:=A_ (bp_ (by repeat (first|(with_reducible first|exact HB.out|apply ba_|apply pd_|apply b1_)|exact HB.out)) hb);clear HB;have HB:=n0_;clear n0_;(try clear hb);(try clear hb2);(try clear hk);(try clear hi);have p257:0≤(x5_1:Int):=od_ (by first|(with_reducible assumption)|assumption);have q257:x5_1<(l0.length:Int):=od_ (by first|(with_reducible assumption)|assumption);obtain ⟨ad257,A257_4,c257_4,A257_5,c257_5,e257,hx257_0,hx257_1,hx257_2,hx257_3,hx257_4,hx257_5,hl257_4,hi257_4,hl257_5,hi257_5⟩:=at_T28 HR0.out x5_1 p257 q257;obtain rfl:ad249=ad257:=(by injection e257);replace hx257_0:=(HB.out.cell (bl_ w _ hx257_0)).trans hx257_0;replace hx257_1:=(HB.out.cell (bl_ w _ hx257_1)).trans hx257_1;replace hx257_2:=(HB.out.cell (bl_ w _ hx257_2)).trans hx257_2;replace hx257_3:=(HB.out.cell (bl_ w _ hx257_3)).trans hx257_3;replace hx257_4:=(HB.out.cell (bl_ w _ hx257_4)).trans hx257_4;replace hx257_5:=(HB.out.cell (bl_ w _ hx257_5)).trans hx257_5;have HR257_4:=A_ hi257_4;have HC257_4:=A_ hl257_4;clear hi257_4 hl257_4;have HR257_5:=A_ hi257_5;have HC257_5:=A_ hl257_5;clear hi257_5 hl257_5;replace p257:=eq_true p257;replace q257:=eq_true q257)|((with_reducible refine gate_callee (f:=28) rfl ?_);refine goesL_ (some 65) rfl rfl Try.func28 (by kernel_rfl) rfl #[.slice A257_5 ((rd_T28 l0 x5_1).f5).length c257_5,.int .i64 t256] rfl (by (try simp only [List.map_toArray,List.map_cons,List.map_nil]);first|done|rfl|(simp only [ld_,lt_];rfl)) ?_;(with_reducible refine (ih k1 (by have:=HK1.out;omega) _ _ ((rd_T28 l0 x5_1).f5) t256 t258 _ ?side1 ?side2 A18.out).mono ?_);(case side1=>repeat (first|exact (cb_ HR257_5.out HB.out)|(with_reducible refine ca_ ?_ _)|(with_reducible refine cn_ ?_ _)|(with_reducible refine cd_ ?_)));(case side2=>exact HC257_5.out);rintro e w31 ⟨rfl,hb⟩;refine ⟨_,rfl,?_⟩;have n0_:=A_ (bp_ (by repeat (first|(with_reducible first|exact HB.out|apply ba_|apply pd_|apply b1_)|exact HB.out)) hb);clear HB;have HB:=n0_;clear n0_;(try clear hb);(try clear hb2);(try clear hk);(try clear hi)))
           go_roundg k1
           case measure=>have:=HK1.out;omega
           case rel=>exact ⟨(t258),(wrap64 (x5_1+1)),(by first|rfl|(simp;done)|(simp [*];done)),(by first|rfl|(simp;done)|(simp [*];done)),H',⟨by have:=HK1.out;omega⟩,⟨by repeat (first|(with_reducible first|exact HB.out|apply ba_|apply pd_|apply b1_)|exact HB.out)⟩⟩
        ·rw [if_neg c10] at H
         have c10b0:(((rd_T28 l0 x5_1).f3).toList == t254.toList)=false:=beq_eq_false_iff_ne.mpr c10
         have c10b1:(((rd_T28 l0 x5_1).f3).toList != t254.toList)=true:=bne_iff_ne.mpr c10
         obtain rfl:=oi_ H
         have p249:0≤(x5_1:Int):=od_ (by first|(with_reducible assumption)|assumption)
         have q249:x5_1<(l0.length:Int):=od_ (by first|(with_reducible assumption)|assumption)
         obtain ⟨ad249,A249_4,c249_4,A249_5,c249_5,e249,hx249_0,hx249_1,hx249_2,hx249_3,hx249_4,hx249_5,hl249_4,hi249_4,hl249_5,hi249_5⟩:=at_T28 HR0.out x5_1 p249 q249
         cases e249
         replace hx249_0:=(HB.out.cell (bl_ w _ hx249_0)).trans hx249_0
         replace hx249_1:=(HB.out.cell (bl_ w _ hx249_1)).trans hx249_1
         replace hx249_2:=(HB.out.cell (bl_ w _ hx249_2)).trans hx249_2
         replace hx249_3:=(HB.out.cell (bl_ w _ hx249_3)).trans hx249_3
         replace hx249_4:=(HB.out.cell (bl_ w _ hx249_4)).trans hx249_4
         replace hx249_5:=(HB.out.cell (bl_ w _ hx249_5)).trans hx249_5
         have HR249_4:=A_ hi249_4
         have HC249_4:=A_ hl249_4
         clear hi249_4 hl249_4
         have HR249_5:=A_ hi249_5
         have HC249_5:=A_ hl249_5
         clear hi249_5 hl249_5
         replace p249:=eq_true p249
         replace q249:=eq_true q249
         have p250:0≤(x5_1:Int):=od_ (by first|(with_reducible assumption)|assumption)
         have q250:x5_1<(l0.length:Int):=od_ (by first|(with_reducible assumption)|assumption)
         obtain ⟨ad250,A250_4,c250_4,A250_5,c250_5,e250,hx250_0,hx250_1,hx250_2,hx250_3,hx250_4,hx250_5,hl250_4,hi250_4,hl250_5,hi250_5⟩:=at_T28 HR0.out x5_1 p250 q250
         obtain rfl:ad249=ad250:=(by injection e250)
         try (have h_:=hx250_4.symm.trans hw248_4;injection h_ with h_;injection h_ with h1_ h3_ h2_;subst h1_;subst h2_)
         try (have h_:=hx250_5.symm.trans hw248_5;injection h_ with h_;injection h_ with h1_ h3_ h2_;subst h1_;subst h2_)
         replace hx250_0:=(HB.out.cell (bl_ w _ hx250_0)).trans hx250_0
         replace hx250_1:=(HB.out.cell (bl_ w _ hx250_1)).trans hx250_1
         replace hx250_2:=(HB.out.cell (bl_ w _ hx250_2)).trans hx250_2
         replace hx250_3:=(HB.out.cell (bl_ w _ hx250_3)).trans hx250_3
         replace hx250_4:=(HB.out.cell (bl_ w _ hx250_4)).trans hx250_4
         replace hx250_5:=(HB.out.cell (bl_ w _ hx250_5)).trans hx250_5
         have HR250_4:=A_ hi250_4
         have HC250_4:=A_ hl250_4
         clear hi250_4 hl250_4
         have HR250_5:=A_ hi250_5
         have HC250_5:=A_ hl250_5
         clear hi250_5 hl250_5
         replace p250:=eq_true p250
         replace q250:=eq_true q250
         have ea_:=oi_ (hx249_4.symm.trans hx250_4)
         injection ea_ with ea_ en_ ec_
         subst ea_
         subst ec_
         clear en_
         have ea_:=oi_ (hx249_5.symm.trans hx250_5)
         injection ea_ with ea_ en_ ec_
         subst ea_
         subst ec_
         clear en_
         try go_wp2
         have n0_:=A_ (b1_ HB.out)
         clear HB
         have HB:=n0_
         clear n0_
         have p251:0≤(x5_1:Int):=od_ (by first|(with_reducible assumption)|assumption)
         have q251:x5_1<(l0.length:Int):=od_ (by first|(with_reducible assumption)|assumption)
         obtain ⟨ad251,A251_4,c251_4,A251_5,c251_5,e251,hx251_0,hx251_1,hx251_2,hx251_3,hx251_4,hx251_5,hl251_4,hi251_4,hl251_5,hi251_5⟩:=at_T28 HR0.out x5_1 p251 q251
         have hw251_5:=hx251_5
         have hw251_4:=hx251_4
         have hw251_3:=hx251_3
         have hw251_2:=hx251_2
         have hw251_1:=hx251_1
         have hw251_0:=hx251_0
         obtain rfl:ad249=ad251:=(by injection e251)
         try (have h_:=hx251_4.symm.trans hw249_4;injection h_ with h_;injection h_ with h1_ h3_ h2_;subst h1_;subst h2_)
         try (have h_:=hx251_5.symm.trans hw249_5;injection h_ with h_;injection h_ with h1_ h3_ h2_;subst h1_;subst h2_)
         replace hx251_0:=(HB.out.cell (bl_ w _ hx251_0)).trans hx251_0
         replace hx251_1:=(HB.out.cell (bl_ w _ hx251_1)).trans hx251_1
         replace hx251_2:=(HB.out.cell (bl_ w _ hx251_2)).trans hx251_2
         replace hx251_3:=(HB.out.cell (bl_ w _ hx251_3)).trans hx251_3
         replace hx251_4:=(HB.out.cell (bl_ w _ hx251_4)).trans hx251_4
         replace hx251_5:=(HB.out.cell (bl_ w _ hx251_5)).trans hx251_5
         have HR251_4:=A_ hi251_4
         have HC251_4:=A_ hl251_4
         clear hi251_4 hl251_4
         have HR251_5:=A_ hi251_5
         have HC251_5:=A_ hl251_5
         clear hi251_5 hl251_5
         replace p251:=eq_true p251
         replace q251:=eq_true q251
         refine start_ (n:=8) (S:=fun w'=>w'.cell? (ad249.add ((x5_1).toNat * 6))=some (.int .i64 ((rd_T28 l0 x5_1).f0))∧w'.cell? ⟨(ad249.add ((x5_1).toNat * 6)).block,(ad249.add ((x5_1).toNat * 6)).off+1,none⟩=some (.int .i64 ((rd_T28 l0 x5_1).f1))∧w'.cell? ⟨(ad249.add ((x5_1).toNat * 6)).block,(ad249.add ((x5_1).toNat * 6)).off+2,none⟩=some (.string ((rd_T28 l0 x5_1).f2))∧w'.cell? ⟨(ad249.add ((x5_1).toNat * 6)).block,(ad249.add ((x5_1).toNat * 6)).off+3,none⟩=some (.string ((rd_T28 l0 x5_1).f3))∧w'.cell? ⟨(ad249.add ((x5_1).toNat * 6)).block,(ad249.add ((x5_1).toNat * 6)).off+4,none⟩=some (.slice A251_4 ((rd_T28 l0 x5_1).f4).length c251_4)∧w'.cell? ⟨(ad249.add ((x5_1).toNat * 6)).block,(ad249.add ((x5_1).toNat * 6)).off+5,none⟩=some (.slice A251_5 ((rd_T28 l0 x5_1).f5).length c251_5)) (ds:=[]) #[F_,F_,F_,F_,F_,F_,F_,F_] (by kernel_rfl) rfl rfl ⟨((HB.out.cell (bl_ w _ hw251_0)).trans hw251_0),((HB.out.cell (bl_ w _ hw251_1)).trans hw251_1),((HB.out.cell (bl_ w _ hw251_2)).trans hw251_2),((HB.out.cell (bl_ w _ hw251_3)).trans hw251_3),((HB.out.cell (bl_ w _ hw251_4)).trans hw251_4),((HB.out.cell (bl_ w _ hw251_5)).trans hw251_5)⟩ (fun hHeld=>?_);refine with_tabW laws_heldNodeS.tab10 laws_heldNodeS.bits10 (fun HT_ HW_=>?_)
         generalize wr.drew=w32 at HB HR251_4 HR251_5 hx251_0 hx251_1 hx251_2 hx251_3 hx251_4 hx251_5 hHeld ⊢
         refine pure_ (i:=0) (N:=some 30) (v:=?_) (a':=?_) #[T_,F_,F_,F_,F_,F_,F_,F_] rfl rfl (any_of HT_.out (by kernel_rfl)) (fun _ _ _ h=>h) (Or.inl ⟨by rfl,?_⟩) ?_ ?_
         rotate_left
         ·intro w'
          go_simp
          with_reducible rfl
         rotate_left
         ·simp only [Act.put,ls_,lz_,lc_,i64_w,i32_w]
          rfl
         refine pure_ (i:=1) (N:=some 31) (v:=?_) (a':=?_) #[T_,T_,F_,F_,F_,F_,F_,F_] rfl rfl (any_of HT_.out (by kernel_rfl)) (fun _ _ _ h=>h) (Or.inl ⟨by rfl,?_⟩) ?_ ?_
         rotate_left
         ·intro w'
          go_simp
          with_reducible rfl
         rotate_left
         ·simp only [Act.put,ls_,lz_,lc_,i64_w,i32_w]
          rfl
         refine pure_ (i:=2) (N:=some 32) (v:=?_) (a':=?_) #[T_,T_,T_,F_,F_,F_,F_,F_] rfl rfl (any_of HT_.out (by kernel_rfl)) (fun _ _ _ h=>h) (Or.inl ⟨by rfl,?_⟩) ?_ ?_
         rotate_left
         ·intro w'
          go_simp
          with_reducible rfl
         rotate_left
         ·simp only [Act.put,ls_,lz_,lc_,i64_w,i32_w]
          rfl
         refine pure_ (i:=3) (N:=some 33) (v:=?_) (a':=?_) #[T_,T_,T_,T_,F_,F_,F_,F_] rfl rfl (any_of HT_.out (by kernel_rfl)) (fun _ _ _ h=>h) (Or.inl ⟨by rfl,?_⟩) ?_ ?_
         rotate_left
         ·intro w'
          go_simp
          with_reducible rfl
         rotate_left
         ·simp only [Act.put,ls_,lz_,lc_,i64_w,i32_w]
          rfl
         refine pure_ (i:=5) (N:=some 35) (v:=?_) (a':=?_) #[T_,T_,T_,T_,F_,T_,F_,F_] rfl rfl (any_of HT_.out (by kernel_rfl)) (fun _ _ _ h=>h) (Or.inl ⟨by rfl,?_⟩) ?_ ?_
         rotate_left
         ·intro w'
          go_simp
          with_reducible rfl
         rotate_left
         ·simp only [Act.put,ls_,lz_,lc_,i64_w,i32_w]
          rfl
         refine take_ (i:=4) (N:=some 34) (v:=?_) (a':=?_) #[T_,T_,T_,T_,T_,T_,F_,F_] rfl rfl (take_ofW HT_.out HW_.out (by kernel_rfl)) (fun _ _ _ h=>h) (Or.inl ⟨by rfl,?_⟩) hHeld ?_ ?_
         rotate_left
         ·rintro w' ⟨s0,s1,s2,s3,s4,s5⟩
          go_simp
          with_reducible rfl
         rotate_left
         ·simp only [Act.put,ls_,lz_,lc_,i64_w,i32_w]
          rfl
         refine one_ (i:=6) (N:=some 36) #[T_,T_,T_,T_,T_,T_,T_,F_] rfl rfl (one_of HT_.out (by kernel_rfl)) (by decide) (fun K hK=>?_)
         refine goes_ Try.func25 (by kernel_rfl) rfl #[.int .i64 (wrap64 ((wrap64 (x1_1+1))+1))] (by rfl) rfl rfl (by (try simp only [List.map_toArray,List.map_cons,List.map_nil]);first|done|rfl|(simp only [ld_,lt_];rfl)) ?_
         with_reducible refine (laws_markText.calls k1 (wrap64 ((wrap64 (x1_1+1))+1)) t252 _ A7.out).mono ?_
         rintro e w33 ⟨rfl,hb⟩
         refine ⟨_,rfl,?_⟩
         have n0_:=A_ (bp_ (by repeat (first|(with_reducible first|exact HB.out|apply ba_|apply pd_|apply b1_)|exact HB.out)) hb)
         clear HB
         have HB:=n0_
         clear n0_
         (try clear hb)
         (try clear hb2)
         (try clear hk)
         (try clear hi)
         refine hK.out _ _ ⟨((HB.out.cell (bl_ w _ hw251_0)).trans hw251_0),((HB.out.cell (bl_ w _ hw251_1)).trans hw251_1),((HB.out.cell (bl_ w _ hw251_2)).trans hw251_2),((HB.out.cell (bl_ w _ hw251_3)).trans hw251_3),((HB.out.cell (bl_ w _ hw251_4)).trans hw251_4),((HB.out.cell (bl_ w _ hw251_5)).trans hw251_5)⟩ (fun hHeld=>?_)
         clear hK K
         refine norm_ (a':=?_) ?_ ?_
         rotate_left
         ·show Act.put _ (some 36) _=_
          simp only [Act.put,ls_,lz_,lc_,i64_w,i32_w]
          rfl
         refine pure_ (i:=7) (N:=some 37) (v:=?_) (a':=?_) #[T_,T_,T_,T_,T_,T_,T_,T_] rfl rfl (any_of HT_.out (by kernel_rfl)) (fun _ _ _ h=>h) (Or.inl ⟨by rfl,?_⟩) ?_ ?_
         rotate_left
         ·intro w'
          go_simp
          with_reducible rfl
         rotate_left
         ·simp only [Act.put,ls_,lz_,lc_,i64_w,i32_w]
          rfl
         refine done_ (done_of HT_.out (by kernel_rfl)) ?_
         try go_wp2
         have n0_:=A_ (b1_ HB.out)
         clear HB
         have HB:=n0_
         clear n0_
         have p253:0≤(x5_1:Int):=od_ (by first|(with_reducible assumption)|assumption)
         have q253:x5_1<(l0.length:Int):=od_ (by first|(with_reducible assumption)|assumption)
         obtain ⟨ad253,A253_4,c253_4,A253_5,c253_5,e253,hx253_0,hx253_1,hx253_2,hx253_3,hx253_4,hx253_5,hl253_4,hi253_4,hl253_5,hi253_5⟩:=at_T28 HR0.out x5_1 p253 q253
         have hw253_5:=hx253_5
         have hw253_4:=hx253_4
         have hw253_3:=hx253_3
         have hw253_2:=hx253_2
         have hw253_1:=hx253_1
         have hw253_0:=hx253_0
         obtain rfl:ad249=ad253:=(by injection e253)
         try (have h_:=hx253_4.symm.trans hw251_4;injection h_ with h_;injection h_ with h1_ h3_ h2_;subst h1_;subst h2_)
         try (have h_:=hx253_5.symm.trans hw251_5;injection h_ with h_;injection h_ with h1_ h3_ h2_;subst h1_;subst h2_)
         replace hx253_0:=(HB.out.cell (bl_ w _ hx253_0)).trans hx253_0
         replace hx253_1:=(HB.out.cell (bl_ w _ hx253_1)).trans hx253_1
         replace hx253_2:=(HB.out.cell (bl_ w _ hx253_2)).trans hx253_2
         replace hx253_3:=(HB.out.cell (bl_ w _ hx253_3)).trans hx253_3
         replace hx253_4:=(HB.out.cell (bl_ w _ hx253_4)).trans hx253_4
         replace hx253_5:=(HB.out.cell (bl_ w _ hx253_5)).trans hx253_5
         have HR253_4:=A_ hi253_4
         have HC253_4:=A_ hl253_4
         clear hi253_4 hl253_4
         have HR253_5:=A_ hi253_5
         have HC253_5:=A_ hl253_5
         clear hi253_5 hl253_5
         replace p253:=eq_true p253
         replace q253:=eq_true q253
         refine start_ (n:=8) (S:=fun w'=>w'.cell? (ad249.add ((x5_1).toNat * 6))=some (.int .i64 ((rd_T28 l0 x5_1).f0))∧w'.cell? ⟨(ad249.add ((x5_1).toNat * 6)).block,(ad249.add ((x5_1).toNat * 6)).off+1,none⟩=some (.int .i64 ((rd_T28 l0 x5_1).f1))∧w'.cell? ⟨(ad249.add ((x5_1).toNat * 6)).block,(ad249.add ((x5_1).toNat * 6)).off+2,none⟩=some (.string ((rd_T28 l0 x5_1).f2))∧w'.cell? ⟨(ad249.add ((x5_1).toNat * 6)).block,(ad249.add ((x5_1).toNat * 6)).off+3,none⟩=some (.string ((rd_T28 l0 x5_1).f3))∧w'.cell? ⟨(ad249.add ((x5_1).toNat * 6)).block,(ad249.add ((x5_1).toNat * 6)).off+4,none⟩=some (.slice A253_4 ((rd_T28 l0 x5_1).f4).length c253_4)∧w'.cell? ⟨(ad249.add ((x5_1).toNat * 6)).block,(ad249.add ((x5_1).toNat * 6)).off+5,none⟩=some (.slice A253_5 ((rd_T28 l0 x5_1).f5).length c253_5)) (ds:=[]) #[F_,F_,F_,F_,F_,F_,F_,F_] (by kernel_rfl) rfl rfl ⟨((HB.out.cell (bl_ w _ hw253_0)).trans hw253_0),((HB.out.cell (bl_ w _ hw253_1)).trans hw253_1),((HB.out.cell (bl_ w _ hw253_2)).trans hw253_2),((HB.out.cell (bl_ w _ hw253_3)).trans hw253_3),((HB.out.cell (bl_ w _ hw253_4)).trans hw253_4),((HB.out.cell (bl_ w _ hw253_5)).trans hw253_5)⟩ (fun hHeld=>?_);refine with_tabW laws_heldNodeS.tab13 laws_heldNodeS.bits13 (fun HT_ HW_=>?_)
         generalize w33.drew=w34 at HB HR253_4 HR253_5 hx253_0 hx253_1 hx253_2 hx253_3 hx253_4 hx253_5 hHeld ⊢
         refine pure_ (i:=0) (N:=some 40) (v:=?_) (a':=?_) #[T_,F_,F_,F_,F_,F_,F_,F_] rfl rfl (any_of HT_.out (by kernel_rfl)) (fun _ _ _ h=>h) (Or.inl ⟨by rfl,?_⟩) ?_ ?_
         rotate_left
         ·intro w'
          go_simp
          with_reducible rfl
         rotate_left
         ·simp only [Act.put,ls_,lz_,lc_,i64_w,i32_w]
          rfl
         refine pure_ (i:=1) (N:=some 41) (v:=?_) (a':=?_) #[T_,T_,F_,F_,F_,F_,F_,F_] rfl rfl (any_of HT_.out (by kernel_rfl)) (fun _ _ _ h=>h) (Or.inl ⟨by rfl,?_⟩) ?_ ?_
         rotate_left
         ·intro w'
          go_simp
          with_reducible rfl
         rotate_left
         ·simp only [Act.put,ls_,lz_,lc_,i64_w,i32_w]
          rfl
         refine pure_ (i:=2) (N:=some 42) (v:=?_) (a':=?_) #[T_,T_,T_,F_,F_,F_,F_,F_] rfl rfl (any_of HT_.out (by kernel_rfl)) (fun _ _ _ h=>h) (Or.inl ⟨by rfl,?_⟩) ?_ ?_
         rotate_left
         ·intro w'
          go_simp
          with_reducible rfl
         rotate_left
         ·simp only [Act.put,ls_,lz_,lc_,i64_w,i32_w]
          rfl
         refine pure_ (i:=3) (N:=some 43) (v:=?_) (a':=?_) #[T_,T_,T_,T_,F_,F_,F_,F_] rfl rfl (any_of HT_.out (by kernel_rfl)) (fun _ _ _ h=>h) (Or.inl ⟨by rfl,?_⟩) ?_ ?_
         rotate_left
         ·intro w'
          go_simp
          with_reducible rfl
         rotate_left
         ·simp only [Act.put,ls_,lz_,lc_,i64_w,i32_w]
          rfl
         refine pure_ (i:=5) (N:=some 45) (v:=?_) (a':=?_) #[T_,T_,T_,T_,F_,T_,F_,F_] rfl rfl (any_of HT_.out (by kernel_rfl)) (fun _ _ _ h=>h) (Or.inl ⟨by rfl,?_⟩) ?_ ?_
         rotate_left
         ·intro w'
          go_simp
          with_reducible rfl
         rotate_left
         ·simp only [Act.put,ls_,lz_,lc_,i64_w,i32_w]
          rfl
         refine take_ (i:=4) (N:=some 44) (v:=?_) (a':=?_) #[T_,T_,T_,T_,T_,T_,F_,F_] rfl rfl (take_ofW HT_.out HW_.out (by kernel_rfl)) (fun _ _ _ h=>h) (Or.inl ⟨by rfl,?_⟩) hHeld ?_ ?_
         rotate_left
         ·rintro w' ⟨s0,s1,s2,s3,s4,s5⟩
          go_simp
          with_reducible rfl
         rotate_left
         ·simp only [Act.put,ls_,lz_,lc_,i64_w,i32_w]
          rfl
         refine one_ (i:=6) (N:=some 46) #[T_,T_,T_,T_,T_,T_,T_,F_] rfl rfl (one_of HT_.out (by kernel_rfl)) (by decide) (fun K hK=>?_)
         refine goes_ Try.func25 (by kernel_rfl) rfl #[.int .i64 (wrap64 ((wrap64 ((wrap64 (x1_1+1))+1))+1))] (by rfl) rfl rfl (by (try simp only [List.map_toArray,List.map_cons,List.map_nil]);first|done|rfl|(simp only [ld_,lt_];rfl)) ?_
         with_reducible refine (laws_markText.calls k1 (wrap64 ((wrap64 ((wrap64 (x1_1+1))+1))+1)) t254 _ A9.out).mono ?_
         rintro e w35 ⟨rfl,hb⟩
         refine ⟨_,rfl,?_⟩
         have n0_:=A_ (bp_ (by repeat (first|(with_reducible first|exact HB.out|apply ba_|apply pd_|apply b1_)|exact HB.out)) hb)
         clear HB
         have HB:=n0_
         clear n0_
         (try clear hb)
         (try clear hb2)
         (try clear hk)
         (try clear hi)
         refine hK.out _ _ ⟨((HB.out.cell (bl_ w _ hw253_0)).trans hw253_0),((HB.out.cell (bl_ w _ hw253_1)).trans hw253_1),((HB.out.cell (bl_ w _ hw253_2)).trans hw253_2),((HB.out.cell (bl_ w _ hw253_3)).trans hw253_3),((HB.out.cell (bl_ w _ hw253_4)).trans hw253_4),((HB.out.cell (bl_ w _ hw253_5)).trans hw253_5)⟩ (fun hHeld=>?_)
         clear hK K
         refine norm_ (a':=?_) ?_ ?_
         rotate_left
         ·show Act.put _ (some 46) _=_
          simp only [Act.put,ls_,lz_,lc_,i64_w,i32_w]
          rfl
         refine pure_ (i:=7) (N:=some 47) (v:=?_) (a':=?_) #[T_,T_,T_,T_,T_,T_,T_,T_] rfl rfl (any_of HT_.out (by kernel_rfl)) (fun _ _ _ h=>h) (Or.inl ⟨by rfl,?_⟩) ?_ ?_
         rotate_left
         ·intro w'
          go_simp
          with_reducible rfl
         rotate_left
         ·simp only [Act.put,ls_,lz_,lc_,i64_w,i32_w]
          rfl
         refine done_ (done_of HT_.out (by kernel_rfl)) ?_
         try go_wp2
         go_ret
         exact ⟨by first|rfl|(simp [errW_none,errW_some] <;> rfl)|(simp [*,errW_none,errW_some] <;> rfl),by repeat (first|(with_reducible first|exact HB.out|apply ba_|apply pd_|apply b1_)|exact HB.out)⟩
       ·rw [if_neg c8] at H
        have c8b0:(((rd_T28 l0 x5_1).f2).toList == t252.toList)=false:=beq_eq_false_iff_ne.mpr c8
        have c8b1:(((rd_T28 l0 x5_1).f2).toList != t252.toList)=true:=bne_iff_ne.mpr c8
        obtain rfl:=oi_ H
        have p249:0≤(x5_1:Int):=od_ (by first|(with_reducible assumption)|assumption)
        have q249:x5_1<(l0.length:Int):=od_ (by first|(with_reducible assumption)|assumption)
        obtain ⟨ad249,A249_4,c249_4,A249_5,c249_5,e249,hx249_0,hx249_1,hx249_2,hx249_3,hx249_4,hx249_5,hl249_4,hi249_4,hl249_5,hi249_5⟩:=at_T28 HR0.out x5_1 p249 q249
        cases e249
        replace hx249_0:=(HB.out.cell (bl_ w _ hx249_0)).trans hx249_0
        replace hx249_1:=(HB.out.cell (bl_ w _ hx249_1)).trans hx249_1
        replace hx249_2:=(HB.out.cell (bl_ w _ hx249_2)).trans hx249_2
        replace hx249_3:=(HB.out.cell (bl_ w _ hx249_3)).trans hx249_3
        replace hx249_4:=(HB.out.cell (bl_ w _ hx249_4)).trans hx249_4
        replace hx249_5:=(HB.out.cell (bl_ w _ hx249_5)).trans hx249_5
        have HR249_4:=A_ hi249_4
        have HC249_4:=A_ hl249_4
        clear hi249_4 hl249_4
        have HR249_5:=A_ hi249_5
        have HC249_5:=A_ hl249_5
        clear hi249_5 hl249_5
        replace p249:=eq_true p249
        replace q249:=eq_true q249
        have p250:0≤(x5_1:Int):=od_ (by first|(with_reducible assumption)|assumption)
        have q250:x5_1<(l0.length:Int):=od_ (by first|(with_reducible assumption)|assumption)
        obtain ⟨ad250,A250_4,c250_4,A250_5,c250_5,e250,hx250_0,hx250_1,hx250_2,hx250_3,hx250_4,hx250_5,hl250_4,hi250_4,hl250_5,hi250_5⟩:=at_T28 HR0.out x5_1 p250 q250
        obtain rfl:ad249=ad250:=(by injection e250)
        try (have h_:=hx250_4.symm.trans hw248_4;injection h_ with h_;injection h_ with h1_ h3_ h2_;subst h1_;subst h2_)
        try (have h_:=hx250_5.symm.trans hw248_5;injection h_ with h_;injection h_ with h1_ h3_ h2_;subst h1_;subst h2_)
        replace hx250_0:=(HB.out.cell (bl_ w _ hx250_0)).trans hx250_0
        replace hx250_1:=(HB.out.cell (bl_ w _ hx250_1)).trans hx250_1
        replace hx250_2:=(HB.out.cell (bl_ w _ hx250_2)).trans hx250_2
        replace hx250_3:=(HB.out.cell (bl_ w _ hx250_3)).trans hx250_3
        replace hx250_4:=(HB.out.cell (bl_ w _ hx250_4)).trans hx250_4
        replace hx250_5:=(HB.out.cell (bl_ w _ hx250_5)).trans hx250_5
        have HR250_4:=A_ hi250_4
        have HC250_4:=A_ hl250_4
        clear hi250_4 hl250_4
        have HR250_5:=A_ hi250_5
        have HC250_5:=A_ hl250_5
        clear hi250_5 hl250_5
        replace p250:=eq_true p250
        replace q250:=eq_true q250
        have ea_:=oi_ (hx249_4.symm.trans hx250_4)
        injection ea_ with ea_ en_ ec_
        subst ea_
        subst ec_
        clear en_
        have ea_:=oi_ (hx249_5.symm.trans hx250_5)
        injection ea_ with ea_ en_ ec_
        subst ea_
        subst ec_
        clear en_
        try go_wp2
        have n0_:=A_ (b1_ HB.out)
        clear HB
        have HB:=n0_
        clear n0_
        have p251:0≤(x5_1:Int):=od_ (by first|(with_reducible assumption)|assumption)
        have q251:x5_1<(l0.length:Int):=od_ (by first|(with_reducible assumption)|assumption)
        obtain ⟨ad251,A251_4,c251_4,A251_5,c251_5,e251,hx251_0,hx251_1,hx251_2,hx251_3,hx251_4,hx251_5,hl251_4,hi251_4,hl251_5,hi251_5⟩:=at_T28 HR0.out x5_1 p251 q251
        have hw251_5:=hx251_5
        have hw251_4:=hx251_4
        have hw251_3:=hx251_3
        have hw251_2:=hx251_2
        have hw251_1:=hx251_1
        have hw251_0:=hx251_0
        obtain rfl:ad249=ad251:=(by injection e251)
        try (have h_:=hx251_4.symm.trans hw249_4;injection h_ with h_;injection h_ with h1_ h3_ h2_;subst h1_;subst h2_)
        try (have h_:=hx251_5.symm.trans hw249_5;injection h_ with h_;injection h_ with h1_ h3_ h2_;subst h1_;subst h2_)
        replace hx251_0:=(HB.out.cell (bl_ w _ hx251_0)).trans hx251_0
        replace hx251_1:=(HB.out.cell (bl_ w _ hx251_1)).trans hx251_1
        replace hx251_2:=(HB.out.cell (bl_ w _ hx251_2)).trans hx251_2
        replace hx251_3:=(HB.out.cell (bl_ w _ hx251_3)).trans hx251_3
        replace hx251_4:=(HB.out.cell (bl_ w _ hx251_4)).trans hx251_4
        replace hx251_5:=(HB.out.cell (bl_ w _ hx251_5)).trans hx251_5
        have HR251_4:=A_ hi251_4
        have HC251_4:=A_ hl251_4
        clear hi251_4 hl251_4
        have HR251_5:=A_ hi251_5
        have HC251_5:=A_ hl251_5
        clear hi251_5 hl251_5
        replace p251:=eq_true p251
        replace q251:=eq_true q251
        refine start_ (n:=8) (S:=fun w'=>w'.cell? (ad249.add ((x5_1).toNat * 6))=some (.int .i64 ((rd_T28 l0 x5_1).f0))∧w'.cell? ⟨(ad249.add ((x5_1).toNat * 6)).block,(ad249.add ((x5_1).toNat * 6)).off+1,none⟩=some (.int .i64 ((rd_T28 l0 x5_1).f1))∧w'.cell? ⟨(ad249.add ((x5_1).toNat * 6)).block,(ad249.add ((x5_1).toNat * 6)).off+2,none⟩=some (.string ((rd_T28 l0 x5_1).f2))∧w'.cell? ⟨(ad249.add ((x5_1).toNat * 6)).block,(ad249.add ((x5_1).toNat * 6)).off+3,none⟩=some (.string ((rd_T28 l0 x5_1).f3))∧w'.cell? ⟨(ad249.add ((x5_1).toNat * 6)).block,(ad249.add ((x5_1).toNat * 6)).off+4,none⟩=some (.slice A251_4 ((rd_T28 l0 x5_1).f4).length c251_4)∧w'.cell? ⟨(ad249.add ((x5_1).toNat * 6)).block,(ad249.add ((x5_1).toNat * 6)).off+5,none⟩=some (.slice A251_5 ((rd_T28 l0 x5_1).f5).length c251_5)) (ds:=[]) #[F_,F_,F_,F_,F_,F_,F_,F_] (by kernel_rfl) rfl rfl ⟨((HB.out.cell (bl_ w _ hw251_0)).trans hw251_0),((HB.out.cell (bl_ w _ hw251_1)).trans hw251_1),((HB.out.cell (bl_ w _ hw251_2)).trans hw251_2),((HB.out.cell (bl_ w _ hw251_3)).trans hw251_3),((HB.out.cell (bl_ w _ hw251_4)).trans hw251_4),((HB.out.cell (bl_ w _ hw251_5)).trans hw251_5)⟩ (fun hHeld=>?_);refine with_tabW laws_heldNodeS.tab10 laws_heldNodeS.bits10 (fun HT_ HW_=>?_)
        generalize wr.drew=w36 at HB HR251_4 HR251_5 hx251_0 hx251_1 hx251_2 hx251_3 hx251_4 hx251_5 hHeld ⊢
        refine pure_ (i:=0) (N:=some 30) (v:=?_) (a':=?_) #[T_,F_,F_,F_,F_,F_,F_,F_] rfl rfl (any_of HT_.out (by kernel_rfl)) (fun _ _ _ h=>h) (Or.inl ⟨by rfl,?_⟩) ?_ ?_
        rotate_left
        ·intro w'
         go_simp
         with_reducible rfl
        rotate_left
        ·simp only [Act.put,ls_,lz_,lc_,i64_w,i32_w]
         rfl
        refine pure_ (i:=1) (N:=some 31) (v:=?_) (a':=?_) #[T_,T_,F_,F_,F_,F_,F_,F_] rfl rfl (any_of HT_.out (by kernel_rfl)) (fun _ _ _ h=>h) (Or.inl ⟨by rfl,?_⟩) ?_ ?_
        rotate_left
        ·intro w'
         go_simp
         with_reducible rfl
        rotate_left
        ·simp only [Act.put,ls_,lz_,lc_,i64_w,i32_w]
         rfl
        refine pure_ (i:=2) (N:=some 32) (v:=?_) (a':=?_) #[T_,T_,T_,F_,F_,F_,F_,F_] rfl rfl (any_of HT_.out (by kernel_rfl)) (fun _ _ _ h=>h) (Or.inl ⟨by rfl,?_⟩) ?_ ?_
        rotate_left
        ·intro w'
         go_simp
         with_reducible rfl
        rotate_left
        ·simp only [Act.put,ls_,lz_,lc_,i64_w,i32_w]
         rfl
        refine pure_ (i:=3) (N:=some 33) (v:=?_) (a':=?_) #[T_,T_,T_,T_,F_,F_,F_,F_] rfl rfl (any_of HT_.out (by kernel_rfl)) (fun _ _ _ h=>h) (Or.inl ⟨by rfl,?_⟩) ?_ ?_
        rotate_left
        ·intro w'
         go_simp
         with_reducible rfl
        rotate_left
        ·simp only [Act.put,ls_,lz_,lc_,i64_w,i32_w]
         rfl
        refine pure_ (i:=5) (N:=some 35) (v:=?_) (a':=?_) #[T_,T_,T_,T_,F_,T_,F_,F_] rfl rfl (any_of HT_.out (by kernel_rfl)) (fun _ _ _ h=>h) (Or.inl ⟨by rfl,?_⟩) ?_ ?_
        rotate_left
        ·intro w'
         go_simp
         with_reducible rfl
        rotate_left
        ·simp only [Act.put,ls_,lz_,lc_,i64_w,i32_w]
         rfl
        refine take_ (i:=4) (N:=some 34) (v:=?_) (a':=?_) #[T_,T_,T_,T_,T_,T_,F_,F_] rfl rfl (take_ofW HT_.out HW_.out (by kernel_rfl)) (fun _ _ _ h=>h) (Or.inl ⟨by rfl,?_⟩) hHeld ?_ ?_
        rotate_left
        ·rintro w' ⟨s0,s1,s2,s3,s4,s5⟩
         go_simp
         with_reducible rfl
        rotate_left
        ·simp only [Act.put,ls_,lz_,lc_,i64_w,i32_w]
         rfl
        refine one_ (i:=6) (N:=some 36) #[T_,T_,T_,T_,T_,T_,T_,F_] rfl rfl (one_of HT_.out (by kernel_rfl)) (by decide) (fun K hK=>?_)
        refine goes_ Try.func25 (by kernel_rfl) rfl #[.int .i64 (wrap64 ((wrap64 (x1_1+1))+1))] (by rfl) rfl rfl (by (try simp only [List.map_toArray,List.map_cons,List.map_nil]);first|done|rfl|(simp only [ld_,lt_];rfl)) ?_
        with_reducible refine (laws_markText.calls k1 (wrap64 ((wrap64 (x1_1+1))+1)) t252 _ A7.out).mono ?_
        rintro e w37 ⟨rfl,hb⟩
        refine ⟨_,rfl,?_⟩
        have n0_:=A_ (bp_ (by repeat (first|(with_reducible first|exact HB.out|apply ba_|apply pd_|apply b1_)|exact HB.out)) hb)
        clear HB
        have HB:=n0_
        clear n0_
        (try clear hb)
        (try clear hb2)
        (try clear hk)
        (try clear hi)
        refine hK.out _ _ ⟨((HB.out.cell (bl_ w _ hw251_0)).trans hw251_0),((HB.out.cell (bl_ w _ hw251_1)).trans hw251_1),((HB.out.cell (bl_ w _ hw251_2)).trans hw251_2),((HB.out.cell (bl_ w _ hw251_3)).trans hw251_3),((HB.out.cell (bl_ w _ hw251_4)).trans hw251_4),((HB.out.cell (bl_ w _ hw251_5)).trans hw251_5)⟩ (fun hHeld=>?_)
        clear hK K
        refine norm_ (a':=?_) ?_ ?_
        rotate_left
        ·show Act.put _ (some 36) _=_
         simp only [Act.put,ls_,lz_,lc_,i64_w,i32_w]
         rfl
        refine pure_ (i:=7) (N:=some 37) (v:=?_) (a':=?_) #[T_,T_,T_,T_,T_,T_,T_,T_] rfl rfl (any_of HT_.out (by kernel_rfl)) (fun _ _ _ h=>h) (Or.inl ⟨by rfl,?_⟩) ?_ ?_
        rotate_left
        ·intro w'
         go_simp
         with_reducible rfl
        rotate_left
        ·simp only [Act.put,ls_,lz_,lc_,i64_w,i32_w]
         rfl
        refine done_ (done_of HT_.out (by kernel_rfl)) ?_
        try go_wp2
        go_ret
        exact ⟨by first|rfl|(simp [errW_none,errW_some] <;> rfl)|(simp [*,errW_none,errW_some] <;> rfl),by repeat (first|(with_reducible first|exact HB.out|apply ba_|apply pd_|apply b1_)|exact HB.out)⟩
      ·rw [if_neg c6] at H
       have c6b0:(((rd_T28 l0 x5_1).f1) == (wrap64 (x1_1+1)))=false:=beq_eq_false_iff_ne.mpr c6
       have c6b1:(((rd_T28 l0 x5_1).f1) != (wrap64 (x1_1+1)))=true:=bne_iff_ne.mpr c6
       obtain rfl:=oi_ H
       have p249:0≤(x5_1:Int):=od_ (by first|(with_reducible assumption)|assumption)
       have q249:x5_1<(l0.length:Int):=od_ (by first|(with_reducible assumption)|assumption)
       obtain ⟨ad249,A249_4,c249_4,A249_5,c249_5,e249,hx249_0,hx249_1,hx249_2,hx249_3,hx249_4,hx249_5,hl249_4,hi249_4,hl249_5,hi249_5⟩:=at_T28 HR0.out x5_1 p249 q249
       cases e249
       replace hx249_0:=(HB.out.cell (bl_ w _ hx249_0)).trans hx249_0
       replace hx249_1:=(HB.out.cell (bl_ w _ hx249_1)).trans hx249_1
       replace hx249_2:=(HB.out.cell (bl_ w _ hx249_2)).trans hx249_2
       replace hx249_3:=(HB.out.cell (bl_ w _ hx249_3)).trans hx249_3
       replace hx249_4:=(HB.out.cell (bl_ w _ hx249_4)).trans hx249_4
       replace hx249_5:=(HB.out.cell (bl_ w _ hx249_5)).trans hx249_5
       have HR249_4:=A_ hi249_4
       have HC249_4:=A_ hl249_4
       clear hi249_4 hl249_4
       have HR249_5:=A_ hi249_5
       have HC249_5:=A_ hl249_5
       clear hi249_5 hl249_5
       replace p249:=eq_true p249
       replace q249:=eq_true q249
       have p250:0≤(x5_1:Int):=od_ (by first|(with_reducible assumption)|assumption)
       have q250:x5_1<(l0.length:Int):=od_ (by first|(with_reducible assumption)|assumption)
       obtain ⟨ad250,A250_4,c250_4,A250_5,c250_5,e250,hx250_0,hx250_1,hx250_2,hx250_3,hx250_4,hx250_5,hl250_4,hi250_4,hl250_5,hi250_5⟩:=at_T28 HR0.out x5_1 p250 q250
       obtain rfl:ad249=ad250:=(by injection e250)
       try (have h_:=hx250_4.symm.trans hw248_4;injection h_ with h_;injection h_ with h1_ h3_ h2_;subst h1_;subst h2_)
       try (have h_:=hx250_5.symm.trans hw248_5;injection h_ with h_;injection h_ with h1_ h3_ h2_;subst h1_;subst h2_)
       replace hx250_0:=(HB.out.cell (bl_ w _ hx250_0)).trans hx250_0
       replace hx250_1:=(HB.out.cell (bl_ w _ hx250_1)).trans hx250_1
       replace hx250_2:=(HB.out.cell (bl_ w _ hx250_2)).trans hx250_2
       replace hx250_3:=(HB.out.cell (bl_ w _ hx250_3)).trans hx250_3
       replace hx250_4:=(HB.out.cell (bl_ w _ hx250_4)).trans hx250_4
       replace hx250_5:=(HB.out.cell (bl_ w _ hx250_5)).trans hx250_5
       have HR250_4:=A_ hi250_4
       have HC250_4:=A_ hl250_4
       clear hi250_4 hl250_4
       have HR250_5:=A_ hi250_5
       have HC250_5:=A_ hl250_5
       clear hi250_5 hl250_5
       replace p250:=eq_true p250
       replace q250:=eq_true q250
       have ea_:=oi_ (hx249_4.symm.trans hx250_4)
       injection ea_ with ea_ en_ ec_
       subst ea_
       subst ec_
       clear en_
       have ea_:=oi_ (hx249_5.symm.trans hx250_5)
       injection ea_ with ea_ en_ ec_
       subst ea_
       subst ec_
       clear en_
       go_wp2
       go_ret
       exact ⟨by first|rfl|(simp [errW_none,errW_some] <;> rfl)|(simp [*,errW_none,errW_some] <;> rfl),by repeat (first|(with_reducible first|exact HB.out|apply ba_|apply pd_|apply b1_)|exact HB.out)⟩
     ·rw [if_neg c5] at H
      have c5b0:(((rd_T28 l0 x5_1).f0) == x1_1)=false:=beq_eq_false_iff_ne.mpr c5
      have c5b1:(((rd_T28 l0 x5_1).f0) != x1_1)=true:=bne_iff_ne.mpr c5
      obtain rfl:=oi_ H
      have p249:0≤(x5_1:Int):=od_ (by first|(with_reducible assumption)|assumption)
      have q249:x5_1<(l0.length:Int):=od_ (by first|(with_reducible assumption)|assumption)
      obtain ⟨ad249,A249_4,c249_4,A249_5,c249_5,e249,hx249_0,hx249_1,hx249_2,hx249_3,hx249_4,hx249_5,hl249_4,hi249_4,hl249_5,hi249_5⟩:=at_T28 HR0.out x5_1 p249 q249
      cases e249
      replace hx249_0:=(HB.out.cell (bl_ w _ hx249_0)).trans hx249_0
      replace hx249_1:=(HB.out.cell (bl_ w _ hx249_1)).trans hx249_1
      replace hx249_2:=(HB.out.cell (bl_ w _ hx249_2)).trans hx249_2
      replace hx249_3:=(HB.out.cell (bl_ w _ hx249_3)).trans hx249_3
      replace hx249_4:=(HB.out.cell (bl_ w _ hx249_4)).trans hx249_4
      replace hx249_5:=(HB.out.cell (bl_ w _ hx249_5)).trans hx249_5
      have HR249_4:=A_ hi249_4
      have HC249_4:=A_ hl249_4
      clear hi249_4 hl249_4
      have HR249_5:=A_ hi249_5
      have HC249_5:=A_ hl249_5
      clear hi249_5 hl249_5
      replace p249:=eq_true p249
      replace q249:=eq_true q249
      go_wp2
      go_ret
      exact ⟨by first|rfl|(simp [errW_none,errW_some] <;> rfl)|(simp [*,errW_none,errW_some] <;> rfl),by repeat (first|(with_reducible first|exact HB.out|apply ba_|apply pd_|apply b1_)|exact HB.out)⟩
    ·rw [if_neg c4] at H
     exact absurd H (by simp)
   ·rw [if_neg c3] at H
    have c3b0:decide (x5_1<(l0.length:Int))=false:=df_ c3
    clear c3
    obtain rfl:=oi_ H
    go_wp2
    go_ret
    exact ⟨by first|rfl|(simp [errW_none,errW_some] <;> rfl)|(simp [*,errW_none,errW_some] <;> rfl),by repeat (first|(with_reducible first|exact HB.out|apply ba_|apply pd_|apply b1_)|exact HB.out)⟩
end Go.Proofs.Ytjhfempockbdoaa.PFnExactNodeAt
