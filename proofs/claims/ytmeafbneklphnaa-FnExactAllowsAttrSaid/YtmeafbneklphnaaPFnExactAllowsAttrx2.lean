/- By a program of this session, out of the kit's print and contracts made by hand: the machine side of a law; Lean checks it. No conditions. -/
import Derived.Test.YtmeafbneklphnaaPFnExactAllowsAttrx0
import Derived.Test.YtmeafbneklphnaaPFnExactAllowsAttrx1
namespace Go.Proofs.Ytmeafbneklphnaa.PFnExactAllowsAttr
open Go.RowKit Go.Proofs.YtmeafbneklphnaaW.PrintWords Go.Proofs.YtmeafbneklphnaaW.PrintLast Go.Proofs.YtmeafbneklphnaaW.PrintMore
attribute [local go_sem] max2_int min2_int max_two min_two max_three min_three max_four min_four
set_option linter.unusedVariables false
set_option linter.unusedSimpArgs false
/-! ### laws_eqRuleS: function 26 -/
def laws_eqRuleS.l0:Nat→List (S56)→List (S56)→Int→Option (Bool)
 | 0,_,_,_=>none
 | k+1,x0,x1,x5=>if x5<(x0.length:Int) then (if 0≤x5 then (if x5<(x1.length:Int) then ((laws_eqRule.f k ((rd_T56 x0 x5).f0) ((rd_T56 x0 x5).f1) ((rd_T56 x0 x5).f2) ((rd_T56 x1 x5).f0) ((rd_T56 x1 x5).f1) ((rd_T56 x1 x5).f2)).bind fun t108=>(if t108=true then (laws_eqRuleS.l0 k x0 x1 (wrap64 (x5+1))) else (some false))) else (none)) else (none)) else (some true)
def laws_eqRuleS.f (k:Nat) (l0:List (S56)) (l1:List (S56)):Option (Bool):=if (l0.length:Int)=(l1.length:Int) then (laws_eqRuleS.l0 k l0 l1 0) else (some false)
theorem laws_eqRuleS.mono_l:∀ k,(∀ y0 y1 y2,LeO (laws_eqRuleS.l0 k y0 y1 y2) (laws_eqRuleS.l0 (k+1) y0 y1 y2))
 | 0=>fun _ _ _ r h=>by simp [laws_eqRuleS.l0] at h
 | k+1=>by
  have ih0:=laws_eqRuleS.mono_l k
  ·intro y0 y1 y2
   unfold laws_eqRuleS.l0
   repeat' first
   | (with_reducible exact ih0 _ _ _)
   | (with_reducible exact laws_eqRule.mono _ _ _ _ _ _ _)
   | (with_reducible exact LeO.refl _)
   | (with_reducible exact LeO.none _)
   | (with_reducible refine LeO.ite ?_ ?_)
   | (with_reducible refine LeO.bind ?_ (fun _=>?_))
   | exact ih0 _ _ _
   | exact laws_eqRule.mono _ _ _ _ _ _ _
   | exact LeO.none _
   | refine LeO.ite ?_ ?_
   | refine LeO.bind ?_ (fun _=>?_)
theorem laws_eqRuleS.mono:∀ a0 a1 k,LeO (laws_eqRuleS.f k a0 a1) (laws_eqRuleS.f (k+1) a0 a1):=by
 intro a0 a1 k
 have ih0:=laws_eqRuleS.mono_l k
 unfold laws_eqRuleS.f
 repeat' first
  | (with_reducible exact ih0 _ _ _)
  | (with_reducible exact laws_eqRule.mono _ _ _ _ _ _ _)
  | (with_reducible exact LeO.refl _)
  | (with_reducible exact LeO.none _)
  | (with_reducible refine LeO.ite ?_ ?_)
  | (with_reducible refine LeO.bind ?_ (fun _=>?_))
  | exact ih0 _ _ _
  | exact laws_eqRule.mono _ _ _ _ _ _ _
  | exact LeO.none _
  | refine LeO.ite ?_ ?_
  | refine LeO.bind ?_ (fun _=>?_)
def laws_eqRuleS.T6:Bool × List (List Nat × List Nat):=(true,[([],[]),([],[]),([0,1],[0,1]),([2],[2]),([],[]),([],[]),([4,5],[4,5]),([6],[6]),([3,7],[3,7]),([8],[8])])
def laws_eqRuleS.B6:List Nat:=[0,0,3,7,0,0,48,112,255,511]
theorem laws_eqRuleS.tab6:rtab .any (opsOf Try.f26 6)=laws_eqRuleS.T6:=by kernel_rfl
theorem laws_eqRuleS.bits6:waitsOk laws_eqRuleS.T6.2 laws_eqRuleS.B6=true:=by kernel_rfl
set_option maxHeartbeats 8000000 in
set_option maxRecDepth 100000 in
theorem laws_eqRuleS.calls (k:Nat) (A0:Option Addr) (c0:Nat) (l0:List (S56)) (A1:Option Addr) (c1:Nat) (l1:List (S56)) (r:Bool) (w:World) (hr0:Kd.C k56 w A0 l0.length l0) (hc0:l0.length≤c0) (hr1:Kd.C k56 w A1 l1.length l1) (hc1:l1.length≤c1) (h:laws_eqRuleS.f k l0 l1=some r) :
 Calls Try.prog 26 #[.slice A0 l0.length c0,.slice A1 l1.length c1] w fun e w'=>e=.returned (.bool r)∧Below w.heap.size w w':=by
 have hu56:=Try.underlying56
 have HR0:=A_ hr0
 have HC0:=A_ hc0
 clear hr0 hc0
 have HR1:=A_ hr1
 have HC1:=A_ hc1
 clear hr1 hc1
 have HB:=A_ (Below.refl w.heap.size w)
 have H:(if (l0.length:Int)=(l1.length:Int) then (laws_eqRuleS.l0 k l0 l1 0) else (some false))=some r:=h
 clear h
 by_cases c3:(l0.length:Int)=(l1.length:Int)
 ·rw [if_pos c3] at H
  have c3b0:((l0.length:Int) == (l1.length:Int))=true:=beq_iff_eq.mpr c3
  have c3b1:((l0.length:Int) != (l1.length:Int))=false:=bne_eq_false_iff_eq.mpr c3
  have c3b2:(l0.length == l1.length)=true:=by first|simpa using c3|(simp at c3 ⊢;omega)
  clear c3
  have H':=A_ H
  clear H
  go_enter Try.func26,Try.ntmps26
  go_wp2
  go_loopg [5] k (fun kq v5 w'=>∃ (x5_1:Int),v5=.int .i64 x5_1∧Aside0 (laws_eqRuleS.l0 kq l0 l1 x5_1=some r)∧Aside0 (kq≤k)∧Aside0 (Below w.heap.size w w'))
  case atStart=>exact ⟨(0),(by first|rfl|(simp;done)|(simp [*];done)),H',⟨Nat.le_refl _⟩,⟨by repeat (first|(with_reducible first|exact HB.out|apply ba_|apply pd_|apply b1_)|exact HB.out)⟩⟩
  case round =>
   clear H'
   try clear c1
   try clear c2
   try clear p2
   try clear c3
   try clear c3b0
   try clear c3b1
   try clear c3b2
   obtain ⟨x5_1,rfl,HA,HK1,HB⟩:=hrel
   cases gk with
   | zero=>exact absurd HA.out (by simp [laws_eqRuleS.l0])
   | succ k1 =>
    have H:=HA.out
    clear HA
    simp only [laws_eqRuleS.l0] at H
    by_cases c4:x5_1<(l0.length:Int)
    ·rw [if_pos c4] at H
     have c4b0:decide (x5_1<(l0.length:Int))=true:=dt_ c4
     clear c4
     by_cases c5:0≤x5_1
     ·rw [if_pos c5] at H
      have c5b0:decide (0≤x5_1)=true:=dt_ c5
      clear c5
      by_cases c6:x5_1<(l1.length:Int)
      ·rw [if_pos c6] at H
       have c6b0:decide (x5_1<(l1.length:Int))=true:=dt_ c6
       clear c6
       replace H:=ob_ H
       obtain ⟨t108,A70,H⟩:=H
       replace H:(if t108=true then (laws_eqRuleS.l0 k1 l0 l1 (wrap64 (x5_1+1))) else (some false))=some r:=H
       have A7:=A_ A70
       clear A70
       by_cases c8:t108=true
       ·subst c8
        have H1:(laws_eqRuleS.l0 k1 l0 l1 (wrap64 (x5_1+1)))=some r:=by rw [if_pos rfl] at H;exact H
        clear H
        have H:=H1
        clear H1
        have H':=A_ H
        clear H
        try go_wp2
        have n0_:=A_ (b1_ HB.out)
        clear HB
        have HB:=n0_
        clear n0_
        have p106:0≤(x5_1:Int):=od_ (by first|(with_reducible assumption)|assumption)
        have q106:x5_1<(l0.length:Int):=od_ (by first|(with_reducible assumption)|assumption)
        obtain ⟨ad106,A106_2,c106_2,e106,hx106_0,hx106_1,hx106_2,hl106_2,hi106_2⟩:=at_T56 HR0.out x5_1 p106 q106
        have hw106_2:=hx106_2
        have hw106_1:=hx106_1
        have hw106_0:=hx106_0
        cases e106
        replace hx106_0:=(HB.out.cell (bl_ w _ hx106_0)).trans hx106_0
        replace hx106_1:=(HB.out.cell (bl_ w _ hx106_1)).trans hx106_1
        replace hx106_2:=(HB.out.cell (bl_ w _ hx106_2)).trans hx106_2
        have HR106_2:=A_ hi106_2
        have HC106_2:=A_ hl106_2
        clear hi106_2 hl106_2
        replace p106:=eq_true p106
        replace q106:=eq_true q106
        have p107:0≤(x5_1:Int):=od_ (by first|(with_reducible assumption)|assumption)
        have q107:x5_1<(l1.length:Int):=od_ (by first|(with_reducible assumption)|assumption)
        obtain ⟨ad107,A107_2,c107_2,e107,hx107_0,hx107_1,hx107_2,hl107_2,hi107_2⟩:=at_T56 HR1.out x5_1 p107 q107
        have hw107_2:=hx107_2
        have hw107_1:=hx107_1
        have hw107_0:=hx107_0
        cases e107
        replace hx107_0:=(HB.out.cell (bl_ w _ hx107_0)).trans hx107_0
        replace hx107_1:=(HB.out.cell (bl_ w _ hx107_1)).trans hx107_1
        replace hx107_2:=(HB.out.cell (bl_ w _ hx107_2)).trans hx107_2
        have HR107_2:=A_ hi107_2
        have HC107_2:=A_ hl107_2
        clear hi107_2 hl107_2
        replace p107:=eq_true p107
        replace q107:=eq_true q107
        refine start_ (n:=10) (S:=fun w'=>w'.cell? (ad106.add ((x5_1).toNat * 3))=some (.int .i64 ((rd_T56 l0 x5_1).f0))∧w'.cell? ⟨(ad106.add ((x5_1).toNat * 3)).block,(ad106.add ((x5_1).toNat * 3)).off+1,none⟩=some (.string ((rd_T56 l0 x5_1).f1))∧w'.cell? ⟨(ad106.add ((x5_1).toNat * 3)).block,(ad106.add ((x5_1).toNat * 3)).off+2,none⟩=some (.slice A106_2 ((rd_T56 l0 x5_1).f2).length c106_2)∧w'.cell? (ad107.add ((x5_1).toNat * 3))=some (.int .i64 ((rd_T56 l1 x5_1).f0))∧w'.cell? ⟨(ad107.add ((x5_1).toNat * 3)).block,(ad107.add ((x5_1).toNat * 3)).off+1,none⟩=some (.string ((rd_T56 l1 x5_1).f1))∧w'.cell? ⟨(ad107.add ((x5_1).toNat * 3)).block,(ad107.add ((x5_1).toNat * 3)).off+2,none⟩=some (.slice A107_2 ((rd_T56 l1 x5_1).f2).length c107_2)) (ds:=[]) #[F_,F_,F_,F_,F_,F_,F_,F_,F_,F_] (by kernel_rfl) rfl rfl ⟨((HB.out.cell (bl_ w _ hw106_0)).trans hw106_0),((HB.out.cell (bl_ w _ hw106_1)).trans hw106_1),((HB.out.cell (bl_ w _ hw106_2)).trans hw106_2),((HB.out.cell (bl_ w _ hw107_0)).trans hw107_0),((HB.out.cell (bl_ w _ hw107_1)).trans hw107_1),((HB.out.cell (bl_ w _ hw107_2)).trans hw107_2)⟩ (fun hHeld=>?_);refine with_tabW laws_eqRuleS.tab6 laws_eqRuleS.bits6 (fun HT_ HW_=>?_)
        generalize wr.drew=w9 at HB HR106_2 HR107_2 hx106_0 hx106_1 hx106_2 hx107_0 hx107_1 hx107_2 hHeld ⊢
        refine pure_ (i:=0) (N:=some 17) (v:=?_) (a':=?_) #[T_,F_,F_,F_,F_,F_,F_,F_,F_,F_] rfl rfl (any_of HT_.out (by kernel_rfl)) (fun _ _ _ h=>h) (Or.inl ⟨by rfl,?_⟩) ?_ ?_
        rotate_left
        ·intro w'
         go_simp
         with_reducible rfl
        rotate_left
        ·simp only [Act.put,ls_,lz_,lc_,i64_w,i32_w]
         rfl
        refine pure_ (i:=1) (N:=some 18) (v:=?_) (a':=?_) #[T_,T_,F_,F_,F_,F_,F_,F_,F_,F_] rfl rfl (any_of HT_.out (by kernel_rfl)) (fun _ _ _ h=>h) (Or.inl ⟨by rfl,?_⟩) ?_ ?_
        rotate_left
        ·intro w'
         go_simp
         with_reducible rfl
        rotate_left
        ·simp only [Act.put,ls_,lz_,lc_,i64_w,i32_w]
         rfl
        refine pure_ (i:=2) (N:=some 19) (v:=?_) (a':=?_) #[T_,T_,T_,F_,F_,F_,F_,F_,F_,F_] rfl rfl (any_of HT_.out (by kernel_rfl)) (fun _ _ _ h=>h) (Or.inl ⟨by rfl,?_⟩) ?_ ?_
        rotate_left
        ·intro w'
         go_simp
         with_reducible rfl
        rotate_left
        ·simp only [Act.put,ls_,lz_,lc_,i64_w,i32_w]
         rfl
        refine pure_ (i:=4) (N:=some 21) (v:=?_) (a':=?_) #[T_,T_,T_,F_,T_,F_,F_,F_,F_,F_] rfl rfl (any_of HT_.out (by kernel_rfl)) (fun _ _ _ h=>h) (Or.inl ⟨by rfl,?_⟩) ?_ ?_
        rotate_left
        ·intro w'
         go_simp
         with_reducible rfl
        rotate_left
        ·simp only [Act.put,ls_,lz_,lc_,i64_w,i32_w]
         rfl
        refine pure_ (i:=5) (N:=some 22) (v:=?_) (a':=?_) #[T_,T_,T_,F_,T_,T_,F_,F_,F_,F_] rfl rfl (any_of HT_.out (by kernel_rfl)) (fun _ _ _ h=>h) (Or.inl ⟨by rfl,?_⟩) ?_ ?_
        rotate_left
        ·intro w'
         go_simp
         with_reducible rfl
        rotate_left
        ·simp only [Act.put,ls_,lz_,lc_,i64_w,i32_w]
         rfl
        refine pure_ (i:=6) (N:=some 23) (v:=?_) (a':=?_) #[T_,T_,T_,F_,T_,T_,T_,F_,F_,F_] rfl rfl (any_of HT_.out (by kernel_rfl)) (fun _ _ _ h=>h) (Or.inl ⟨by rfl,?_⟩) ?_ ?_
        rotate_left
        ·intro w'
         go_simp
         with_reducible rfl
        rotate_left
        ·simp only [Act.put,ls_,lz_,lc_,i64_w,i32_w]
         rfl
        refine take_ (i:=3) (N:=some 20) (v:=?_) (a':=?_) #[T_,T_,T_,T_,T_,T_,T_,F_,F_,F_] rfl rfl (take_ofW HT_.out HW_.out (by kernel_rfl)) (fun _ _ _ h=>h) (Or.inl ⟨by rfl,?_⟩) hHeld ?_ ?_
        rotate_left
        ·rintro w' ⟨s0,s1,s2,s3,s4,s5⟩
         go_simp
         with_reducible rfl
        rotate_left
        ·simp only [Act.put,ls_,lz_,lc_,i64_w,i32_w]
         rfl
        refine take_ (i:=7) (N:=some 24) (v:=?_) (a':=?_) #[T_,T_,T_,T_,T_,T_,T_,T_,F_,F_] rfl rfl (take_ofW HT_.out HW_.out (by kernel_rfl)) (fun _ _ _ h=>h) (Or.inl ⟨by rfl,?_⟩) hHeld ?_ ?_
        rotate_left
        ·rintro w' ⟨s0,s1,s2,s3,s4,s5⟩
         go_simp
         with_reducible rfl
        rotate_left
        ·simp only [Act.put,ls_,lz_,lc_,i64_w,i32_w]
         rfl
        refine one_ (i:=8) (N:=some 25) #[T_,T_,T_,T_,T_,T_,T_,T_,T_,F_] rfl rfl (one_of HT_.out (by kernel_rfl)) (by decide) (fun K hK=>?_)
        refine goes_ Try.func53 (by kernel_rfl) rfl #[.agg #[.int .i64 ((rd_T56 l0 x5_1).f0),.string ((rd_T56 l0 x5_1).f1),.slice A106_2 ((rd_T56 l0 x5_1).f2).length c106_2],.agg #[.int .i64 ((rd_T56 l1 x5_1).f0),.string ((rd_T56 l1 x5_1).f1),.slice A107_2 ((rd_T56 l1 x5_1).f2).length c107_2]] (by rfl) rfl rfl (by (try simp only [List.map_toArray,List.map_cons,List.map_nil]);first|done|rfl|(simp only [ld_,lt_];rfl)) ?_
        with_reducible refine (laws_eqRule.calls k1 ((rd_T56 l0 x5_1).f0) ((rd_T56 l0 x5_1).f1) _ _ ((rd_T56 l0 x5_1).f2) ((rd_T56 l1 x5_1).f0) ((rd_T56 l1 x5_1).f1) _ _ ((rd_T56 l1 x5_1).f2) true _ ?side1 ?side2 ?side3 ?side4 A7.out).mono ?_
        (case side1=>repeat (first|exact (cb_ HR106_2.out HB.out)|(with_reducible refine ca_ ?_ _)|(with_reducible refine cn_ ?_ _)|(with_reducible refine cd_ ?_)))
        (case side2=>exact HC106_2.out)
        (case side3=>repeat (first|exact (cb_ HR107_2.out HB.out)|(with_reducible refine ca_ ?_ _)|(with_reducible refine cn_ ?_ _)|(with_reducible refine cd_ ?_)))
        (case side4=>exact HC107_2.out)
        rintro e w10 ⟨rfl,hb⟩
        refine ⟨_,rfl,?_⟩
        have n0_:=A_ (bp_ (by repeat (first|(with_reducible first|exact HB.out|apply ba_|apply pd_|apply b1_)|exact HB.out)) hb)
        clear HB
        have HB:=n0_
        clear n0_
        (try clear hb)
        (try clear hb2)
        (try clear hk)
        (try clear hi)
        refine hK.out _ _ ⟨((HB.out.cell (bl_ w _ hw106_0)).trans hw106_0),((HB.out.cell (bl_ w _ hw106_1)).trans hw106_1),((HB.out.cell (bl_ w _ hw106_2)).trans hw106_2),((HB.out.cell (bl_ w _ hw107_0)).trans hw107_0),((HB.out.cell (bl_ w _ hw107_1)).trans hw107_1),((HB.out.cell (bl_ w _ hw107_2)).trans hw107_2)⟩ (fun hHeld=>?_)
        clear hK K
        refine norm_ (a':=?_) ?_ ?_
        rotate_left
        ·show Act.put _ (some 25) _=_
         simp only [Act.put,ls_,lz_,lc_,i64_w,i32_w]
         rfl
        refine pure_ (i:=9) (N:=some 26) (v:=?_) (a':=?_) #[T_,T_,T_,T_,T_,T_,T_,T_,T_,T_] rfl rfl (any_of HT_.out (by kernel_rfl)) (fun _ _ _ h=>h) (Or.inl ⟨by rfl,?_⟩) ?_ ?_
        rotate_left
        ·intro w'
         go_simp
         with_reducible rfl
        rotate_left
        ·simp only [Act.put,ls_,lz_,lc_,i64_w,i32_w]
         rfl
        refine done_ (done_of HT_.out (by kernel_rfl)) ?_
        try go_wp2
        go_roundg k1
        case measure=>have:=HK1.out;omega
        case rel=>exact ⟨(wrap64 (x5_1+1)),(by first|rfl|(simp;done)|(simp [*];done)),H',⟨by have:=HK1.out;omega⟩,⟨by repeat (first|(with_reducible first|exact HB.out|apply ba_|apply pd_|apply b1_)|exact HB.out)⟩⟩
       ·replace c8:=bm_ c8
        subst c8
        have H1:(some false)=some r:=by rw [if_neg (show ¬ (false=true) by decide)] at H;exact H
        clear H
        have H:=H1
        clear H1
        obtain rfl:=oi_ H
        try go_wp2
        have n0_:=A_ (b1_ HB.out)
        clear HB
        have HB:=n0_
        clear n0_
        have p106:0≤(x5_1:Int):=od_ (by first|(with_reducible assumption)|assumption)
        have q106:x5_1<(l0.length:Int):=od_ (by first|(with_reducible assumption)|assumption)
        obtain ⟨ad106,A106_2,c106_2,e106,hx106_0,hx106_1,hx106_2,hl106_2,hi106_2⟩:=at_T56 HR0.out x5_1 p106 q106
        have hw106_2:=hx106_2
        have hw106_1:=hx106_1
        have hw106_0:=hx106_0
        cases e106
        replace hx106_0:=(HB.out.cell (bl_ w _ hx106_0)).trans hx106_0
        replace hx106_1:=(HB.out.cell (bl_ w _ hx106_1)).trans hx106_1
        replace hx106_2:=(HB.out.cell (bl_ w _ hx106_2)).trans hx106_2
        have HR106_2:=A_ hi106_2
        have HC106_2:=A_ hl106_2
        clear hi106_2 hl106_2
        replace p106:=eq_true p106
        replace q106:=eq_true q106
        have p107:0≤(x5_1:Int):=od_ (by first|(with_reducible assumption)|assumption)
        have q107:x5_1<(l1.length:Int):=od_ (by first|(with_reducible assumption)|assumption)
        obtain ⟨ad107,A107_2,c107_2,e107,hx107_0,hx107_1,hx107_2,hl107_2,hi107_2⟩:=at_T56 HR1.out x5_1 p107 q107
        have hw107_2:=hx107_2
        have hw107_1:=hx107_1
        have hw107_0:=hx107_0
        cases e107
        replace hx107_0:=(HB.out.cell (bl_ w _ hx107_0)).trans hx107_0
        replace hx107_1:=(HB.out.cell (bl_ w _ hx107_1)).trans hx107_1
        replace hx107_2:=(HB.out.cell (bl_ w _ hx107_2)).trans hx107_2
        have HR107_2:=A_ hi107_2
        have HC107_2:=A_ hl107_2
        clear hi107_2 hl107_2
        replace p107:=eq_true p107
        replace q107:=eq_true q107
        refine start_ (n:=10) (S:=fun w'=>w'.cell? (ad106.add ((x5_1).toNat * 3))=some (.int .i64 ((rd_T56 l0 x5_1).f0))∧w'.cell? ⟨(ad106.add ((x5_1).toNat * 3)).block,(ad106.add ((x5_1).toNat * 3)).off+1,none⟩=some (.string ((rd_T56 l0 x5_1).f1))∧w'.cell? ⟨(ad106.add ((x5_1).toNat * 3)).block,(ad106.add ((x5_1).toNat * 3)).off+2,none⟩=some (.slice A106_2 ((rd_T56 l0 x5_1).f2).length c106_2)∧w'.cell? (ad107.add ((x5_1).toNat * 3))=some (.int .i64 ((rd_T56 l1 x5_1).f0))∧w'.cell? ⟨(ad107.add ((x5_1).toNat * 3)).block,(ad107.add ((x5_1).toNat * 3)).off+1,none⟩=some (.string ((rd_T56 l1 x5_1).f1))∧w'.cell? ⟨(ad107.add ((x5_1).toNat * 3)).block,(ad107.add ((x5_1).toNat * 3)).off+2,none⟩=some (.slice A107_2 ((rd_T56 l1 x5_1).f2).length c107_2)) (ds:=[]) #[F_,F_,F_,F_,F_,F_,F_,F_,F_,F_] (by kernel_rfl) rfl rfl ⟨((HB.out.cell (bl_ w _ hw106_0)).trans hw106_0),((HB.out.cell (bl_ w _ hw106_1)).trans hw106_1),((HB.out.cell (bl_ w _ hw106_2)).trans hw106_2),((HB.out.cell (bl_ w _ hw107_0)).trans hw107_0),((HB.out.cell (bl_ w _ hw107_1)).trans hw107_1),((HB.out.cell (bl_ w _ hw107_2)).trans hw107_2)⟩ (fun hHeld=>?_);refine with_tabW laws_eqRuleS.tab6 laws_eqRuleS.bits6 (fun HT_ HW_=>?_)
        generalize wr.drew=w11 at HB HR106_2 HR107_2 hx106_0 hx106_1 hx106_2 hx107_0 hx107_1 hx107_2 hHeld ⊢
        refine pure_ (i:=0) (N:=some 17) (v:=?_) (a':=?_) #[T_,F_,F_,F_,F_,F_,F_,F_,F_,F_] rfl rfl (any_of HT_.out (by kernel_rfl)) (fun _ _ _ h=>h) (Or.inl ⟨by rfl,?_⟩) ?_ ?_
        rotate_left
        ·intro w'
         go_simp
         with_reducible rfl
        rotate_left
        ·simp only [Act.put,ls_,lz_,lc_,i64_w,i32_w]
         rfl
        refine pure_ (i:=1) (N:=some 18) (v:=?_) (a':=?_) #[T_,T_,F_,F_,F_,F_,F_,F_,F_,F_] rfl rfl (any_of HT_.out (by kernel_rfl)) (fun _ _ _ h=>h) (Or.inl ⟨by rfl,?_⟩) ?_ ?_
        rotate_left
        ·intro w'
         go_simp
         with_reducible rfl
        rotate_left
        ·simp only [Act.put,ls_,lz_,lc_,i64_w,i32_w]
         rfl
        refine pure_ (i:=2) (N:=some 19) (v:=?_) (a':=?_) #[T_,T_,T_,F_,F_,F_,F_,F_,F_,F_] rfl rfl (any_of HT_.out (by kernel_rfl)) (fun _ _ _ h=>h) (Or.inl ⟨by rfl,?_⟩) ?_ ?_
        rotate_left
        ·intro w'
         go_simp
         with_reducible rfl
        rotate_left
        ·simp only [Act.put,ls_,lz_,lc_,i64_w,i32_w]
         rfl
        refine pure_ (i:=4) (N:=some 21) (v:=?_) (a':=?_) #[T_,T_,T_,F_,T_,F_,F_,F_,F_,F_] rfl rfl (any_of HT_.out (by kernel_rfl)) (fun _ _ _ h=>h) (Or.inl ⟨by rfl,?_⟩) ?_ ?_
        rotate_left
        ·intro w'
         go_simp
         with_reducible rfl
        rotate_left
        ·simp only [Act.put,ls_,lz_,lc_,i64_w,i32_w]
         rfl
        refine pure_ (i:=5) (N:=some 22) (v:=?_) (a':=?_) #[T_,T_,T_,F_,T_,T_,F_,F_,F_,F_] rfl rfl (any_of HT_.out (by kernel_rfl)) (fun _ _ _ h=>h) (Or.inl ⟨by rfl,?_⟩) ?_ ?_
        rotate_left
        ·intro w'
         go_simp
         with_reducible rfl
        rotate_left
        ·simp only [Act.put,ls_,lz_,lc_,i64_w,i32_w]
         rfl
        refine pure_ (i:=6) (N:=some 23) (v:=?_) (a':=?_) #[T_,T_,T_,F_,T_,T_,T_,F_,F_,F_] rfl rfl (any_of HT_.out (by kernel_rfl)) (fun _ _ _ h=>h) (Or.inl ⟨by rfl,?_⟩) ?_ ?_
        rotate_left
        ·intro w'
         go_simp
         with_reducible rfl
        rotate_left
        ·simp only [Act.put,ls_,lz_,lc_,i64_w,i32_w]
         rfl
        refine take_ (i:=3) (N:=some 20) (v:=?_) (a':=?_) #[T_,T_,T_,T_,T_,T_,T_,F_,F_,F_] rfl rfl (take_ofW HT_.out HW_.out (by kernel_rfl)) (fun _ _ _ h=>h) (Or.inl ⟨by rfl,?_⟩) hHeld ?_ ?_
        rotate_left
        ·rintro w' ⟨s0,s1,s2,s3,s4,s5⟩
         go_simp
         with_reducible rfl
        rotate_left
        ·simp only [Act.put,ls_,lz_,lc_,i64_w,i32_w]
         rfl
        refine take_ (i:=7) (N:=some 24) (v:=?_) (a':=?_) #[T_,T_,T_,T_,T_,T_,T_,T_,F_,F_] rfl rfl (take_ofW HT_.out HW_.out (by kernel_rfl)) (fun _ _ _ h=>h) (Or.inl ⟨by rfl,?_⟩) hHeld ?_ ?_
        rotate_left
        ·rintro w' ⟨s0,s1,s2,s3,s4,s5⟩
         go_simp
         with_reducible rfl
        rotate_left
        ·simp only [Act.put,ls_,lz_,lc_,i64_w,i32_w]
         rfl
        refine one_ (i:=8) (N:=some 25) #[T_,T_,T_,T_,T_,T_,T_,T_,T_,F_] rfl rfl (one_of HT_.out (by kernel_rfl)) (by decide) (fun K hK=>?_)
        refine goes_ Try.func53 (by kernel_rfl) rfl #[.agg #[.int .i64 ((rd_T56 l0 x5_1).f0),.string ((rd_T56 l0 x5_1).f1),.slice A106_2 ((rd_T56 l0 x5_1).f2).length c106_2],.agg #[.int .i64 ((rd_T56 l1 x5_1).f0),.string ((rd_T56 l1 x5_1).f1),.slice A107_2 ((rd_T56 l1 x5_1).f2).length c107_2]] (by rfl) rfl rfl (by (try simp only [List.map_toArray,List.map_cons,List.map_nil]);first|done|rfl|(simp only [ld_,lt_];rfl)) ?_
        with_reducible refine (laws_eqRule.calls k1 ((rd_T56 l0 x5_1).f0) ((rd_T56 l0 x5_1).f1) _ _ ((rd_T56 l0 x5_1).f2) ((rd_T56 l1 x5_1).f0) ((rd_T56 l1 x5_1).f1) _ _ ((rd_T56 l1 x5_1).f2) false _ ?side1 ?side2 ?side3 ?side4 A7.out).mono ?_
        (case side1=>repeat (first|exact (cb_ HR106_2.out HB.out)|(with_reducible refine ca_ ?_ _)|(with_reducible refine cn_ ?_ _)|(with_reducible refine cd_ ?_)))
        (case side2=>exact HC106_2.out)
        (case side3=>repeat (first|exact (cb_ HR107_2.out HB.out)|(with_reducible refine ca_ ?_ _)|(with_reducible refine cn_ ?_ _)|(with_reducible refine cd_ ?_)))
        (case side4=>exact HC107_2.out)
        rintro e w12 ⟨rfl,hb⟩
        refine ⟨_,rfl,?_⟩
        have n0_:=A_ (bp_ (by repeat (first|(with_reducible first|exact HB.out|apply ba_|apply pd_|apply b1_)|exact HB.out)) hb)
        clear HB
        have HB:=n0_
        clear n0_
        (try clear hb)
        (try clear hb2)
        (try clear hk)
        (try clear hi)
        refine hK.out _ _ ⟨((HB.out.cell (bl_ w _ hw106_0)).trans hw106_0),((HB.out.cell (bl_ w _ hw106_1)).trans hw106_1),((HB.out.cell (bl_ w _ hw106_2)).trans hw106_2),((HB.out.cell (bl_ w _ hw107_0)).trans hw107_0),((HB.out.cell (bl_ w _ hw107_1)).trans hw107_1),((HB.out.cell (bl_ w _ hw107_2)).trans hw107_2)⟩ (fun hHeld=>?_)
        clear hK K
        refine norm_ (a':=?_) ?_ ?_
        rotate_left
        ·show Act.put _ (some 25) _=_
         simp only [Act.put,ls_,lz_,lc_,i64_w,i32_w]
         rfl
        refine pure_ (i:=9) (N:=some 26) (v:=?_) (a':=?_) #[T_,T_,T_,T_,T_,T_,T_,T_,T_,T_] rfl rfl (any_of HT_.out (by kernel_rfl)) (fun _ _ _ h=>h) (Or.inl ⟨by rfl,?_⟩) ?_ ?_
        rotate_left
        ·intro w'
         go_simp
         with_reducible rfl
        rotate_left
        ·simp only [Act.put,ls_,lz_,lc_,i64_w,i32_w]
         rfl
        refine done_ (done_of HT_.out (by kernel_rfl)) ?_
        try go_wp2
        go_ret
        exact ⟨by first|rfl|(simp [errW_none,errW_some] <;> rfl)|(simp [*,errW_none,errW_some] <;> rfl),by repeat (first|(with_reducible first|exact HB.out|apply ba_|apply pd_|apply b1_)|exact HB.out)⟩
      ·rw [if_neg c6] at H
       exact absurd H (by simp)
     ·rw [if_neg c5] at H
      exact absurd H (by simp)
    ·rw [if_neg c4] at H
     have c4b0:decide (x5_1<(l0.length:Int))=false:=df_ c4
     clear c4
     obtain rfl:=oi_ H
     go_wp2
     go_ret
     exact ⟨by first|rfl|(simp [errW_none,errW_some] <;> rfl)|(simp [*,errW_none,errW_some] <;> rfl),by repeat (first|(with_reducible first|exact HB.out|apply ba_|apply pd_|apply b1_)|exact HB.out)⟩
 ·rw [if_neg c3] at H
  have c3b0:((l0.length:Int) == (l1.length:Int))=false:=beq_eq_false_iff_ne.mpr c3
  have c3b1:((l0.length:Int) != (l1.length:Int))=true:=bne_iff_ne.mpr c3
  have c3b2:(l0.length == l1.length)=false:=by first|simpa using c3|(simp at c3 ⊢;omega)
  obtain rfl:=oi_ H
  go_enter Try.func26,Try.ntmps26
  go_wp2
  go_ret
  exact ⟨by first|rfl|(simp [errW_none,errW_some] <;> rfl)|(simp [*,errW_none,errW_some] <;> rfl),by repeat (first|(with_reducible first|exact HB.out|apply ba_|apply pd_|apply b1_)|exact HB.out)⟩
/-! ### laws_eqConfig: function 8, by hand -/
def laws_eqConfig.f (k:Nat) (a0_0 a0_1:Bool) (l0_2 l0_3 l0_4:List S56) (l0_5 l0_6:List ByteArray) (a0_7 a0_8:Bool) (a1_0 a1_1:Bool) (l1_2 l1_3 l1_4:List S56) (l1_5 l1_6:List ByteArray) (a1_7 a1_8:Bool):Option Bool :=
 if (a0_0 != a1_0)=true then some false else if (a0_1 != a1_1)=true then some false else (laws_eqRuleS.f k l0_2 l1_2).bind fun t2=>if t2=true then (laws_eqRuleS.f k l0_3 l1_3).bind fun t3=>if t3=true then (laws_eqRuleS.f k l0_4 l1_4).bind fun t4=>if t4=true then (laws_eqStringS.f k l0_5 l1_5).bind fun t5=>if t5=true then (laws_eqStringS.f k l0_6 l1_6).bind fun t6=>if t6=true then (if (a0_7 != a1_7)=true then some false else if (a0_8 != a1_8)=true then some false else some true) else some false else some false else some false else some false else some false
theorem laws_eqConfig.mono:∀ a0 a1 a2 a3 a4 a5 a6 a7 a8 a9 a10 a11 a12 a13 a14 a15 a16 a17 k,LeO (laws_eqConfig.f k a0 a1 a2 a3 a4 a5 a6 a7 a8 a9 a10 a11 a12 a13 a14 a15 a16 a17) (laws_eqConfig.f (k+1) a0 a1 a2 a3 a4 a5 a6 a7 a8 a9 a10 a11 a12 a13 a14 a15 a16 a17):=by
 intro a0 a1 a2 a3 a4 a5 a6 a7 a8 a9 a10 a11 a12 a13 a14 a15 a16 a17 k
 unfold laws_eqConfig.f
 repeat' first
  | (with_reducible exact laws_eqRuleS.mono _ _ _)
  | (with_reducible exact laws_eqStringS.mono _ _ _)
  | (with_reducible exact LeO.refl _)
  | (with_reducible refine LeO.ite ?_ ?_)
  | (with_reducible refine LeO.bind ?_ (fun _=>?_))
  | exact laws_eqRuleS.mono _ _ _
  | exact laws_eqStringS.mono _ _ _
  | refine LeO.ite ?_ ?_
  | refine LeO.bind ?_ (fun _=>?_)
theorem twoNew {w V:World} {c0 c1:Array Value} {t:TypeId} (h:Below ((w.alloc (.cells c0 t)).alloc (.cells c1 t)).heap.size ((w.alloc (.cells c0 t)).alloc (.cells c1 t)) V):(∀ i v,c0[i]? = some v→V.cell? ⟨w.heap.size,i,none⟩=some v)∧(∀ i v,c1[i]? = some v→V.cell? ⟨w.heap.size+1,i,none⟩=some v)∧Below w.heap.size w V:=by
 have h9:∀ (u:World) (c:Array Value) (i:Nat) (v:Value),c[i]? = some v→(u.alloc (.cells c t)).cell? ⟨u.heap.size,i,none⟩=some v:=fun u c i v h=>by have h1:c[i]? = some v:=h;simp [h1]
 have hb:=ba_ (ba_ (Below.refl w.heap.size w) (.cells c0 t)) (.cells c1 t)
 refine ⟨fun i v hv=>pc_ h (pc_ (ba_ (Below.refl _ _) _) (h9 w c0 i v hv)),fun i v hv=>pc_ h ?_,hb.trans (h.mono hb.size)⟩
 have:=h9 (w.alloc (.cells c0 t)) c1 i v hv
 rwa [World.size_alloc] at this
set_option maxHeartbeats 8000000 in
set_option maxRecDepth 100000 in
theorem laws_eqConfig.calls (k:Nat) (a0_0 a0_1:Bool) (A0_2:Option Addr) (c0_2:Nat) (l0_2:List S56) (A0_3:Option Addr) (c0_3:Nat) (l0_3:List S56) (A0_4:Option Addr) (c0_4:Nat) (l0_4:List S56) (A0_5:Option Addr) (c0_5:Nat) (l0_5:List ByteArray) (A0_6:Option Addr) (c0_6:Nat) (l0_6:List ByteArray) (a0_7 a0_8:Bool) (a1_0 a1_1:Bool) (A1_2:Option Addr) (c1_2:Nat) (l1_2:List S56) (A1_3:Option Addr) (c1_3:Nat) (l1_3:List S56) (A1_4:Option Addr) (c1_4:Nat) (l1_4:List S56) (A1_5:Option Addr) (c1_5:Nat) (l1_5:List ByteArray) (A1_6:Option Addr) (c1_6:Nat) (l1_6:List ByteArray) (a1_7 a1_8:Bool) (r:Bool) (w:World) (hr0_2:Kd.C k56 w A0_2 l0_2.length l0_2) (hc0_2:l0_2.length≤c0_2) (hr0_3:Kd.C k56 w A0_3 l0_3.length l0_3) (hc0_3:l0_3.length≤c0_3) (hr0_4:Kd.C k56 w A0_4 l0_4.length l0_4) (hc0_4:l0_4.length≤c0_4) (hr0_5:Kd.C Kd.string w A0_5 l0_5.length l0_5) (hc0_5:l0_5.length≤c0_5) (hr0_6:Kd.C Kd.string w A0_6 l0_6.length l0_6) (hc0_6:l0_6.length≤c0_6) (hr1_2:Kd.C k56 w A1_2 l1_2.length l1_2) (hc1_2:l1_2.length≤c1_2) (hr1_3:Kd.C k56 w A1_3 l1_3.length l1_3) (hc1_3:l1_3.length≤c1_3) (hr1_4:Kd.C k56 w A1_4 l1_4.length l1_4) (hc1_4:l1_4.length≤c1_4) (hr1_5:Kd.C Kd.string w A1_5 l1_5.length l1_5) (hc1_5:l1_5.length≤c1_5) (hr1_6:Kd.C Kd.string w A1_6 l1_6.length l1_6) (hc1_6:l1_6.length≤c1_6) (h:laws_eqConfig.f k a0_0 a0_1 l0_2 l0_3 l0_4 l0_5 l0_6 a0_7 a0_8 a1_0 a1_1 l1_2 l1_3 l1_4 l1_5 l1_6 a1_7 a1_8=some r) :
 Calls Try.prog 8 #[.agg #[.bool a0_0,.bool a0_1,.slice A0_2 l0_2.length c0_2,.slice A0_3 l0_3.length c0_3,.slice A0_4 l0_4.length c0_4,.slice A0_5 l0_5.length c0_5,.slice A0_6 l0_6.length c0_6,.bool a0_7,.bool a0_8],.agg #[.bool a1_0,.bool a1_1,.slice A1_2 l1_2.length c1_2,.slice A1_3 l1_3.length c1_3,.slice A1_4 l1_4.length c1_4,.slice A1_5 l1_5.length c1_5,.slice A1_6 l1_6.length c1_6,.bool a1_7,.bool a1_8]] w fun e w'=>e=.returned (.bool r)∧Below w.heap.size w w':=by
 unfold laws_eqConfig.f at h
 have HB1:=A_ (Below.refl ((w.alloc (.cells #[.bool a0_0,.bool a0_1,.slice A0_2 l0_2.length c0_2,.slice A0_3 l0_3.length c0_3,.slice A0_4 l0_4.length c0_4,.slice A0_5 l0_5.length c0_5,.slice A0_6 l0_6.length c0_6,.bool a0_7,.bool a0_8] 25)).alloc (.cells #[.bool a1_0,.bool a1_1,.slice A1_2 l1_2.length c1_2,.slice A1_3 l1_3.length c1_3,.slice A1_4 l1_4.length c1_4,.slice A1_5 l1_5.length c1_5,.slice A1_6 l1_6.length c1_6,.bool a1_7,.bool a1_8] 25)).heap.size ((w.alloc (.cells #[.bool a0_0,.bool a0_1,.slice A0_2 l0_2.length c0_2,.slice A0_3 l0_3.length c0_3,.slice A0_4 l0_4.length c0_4,.slice A0_5 l0_5.length c0_5,.slice A0_6 l0_6.length c0_6,.bool a0_7,.bool a0_8] 25)).alloc (.cells #[.bool a1_0,.bool a1_1,.slice A1_2 l1_2.length c1_2,.slice A1_3 l1_3.length c1_3,.slice A1_4 l1_4.length c1_4,.slice A1_5 l1_5.length c1_5,.slice A1_6 l1_6.length c1_6,.bool a1_7,.bool a1_8] 25)))
 have E:=fun V (h:Aside0 (Below ((w.alloc (.cells #[.bool a0_0,.bool a0_1,.slice A0_2 l0_2.length c0_2,.slice A0_3 l0_3.length c0_3,.slice A0_4 l0_4.length c0_4,.slice A0_5 l0_5.length c0_5,.slice A0_6 l0_6.length c0_6,.bool a0_7,.bool a0_8] 25)).alloc (.cells #[.bool a1_0,.bool a1_1,.slice A1_2 l1_2.length c1_2,.slice A1_3 l1_3.length c1_3,.slice A1_4 l1_4.length c1_4,.slice A1_5 l1_5.length c1_5,.slice A1_6 l1_6.length c1_6,.bool a1_7,.bool a1_8] 25)).heap.size ((w.alloc (.cells #[.bool a0_0,.bool a0_1,.slice A0_2 l0_2.length c0_2,.slice A0_3 l0_3.length c0_3,.slice A0_4 l0_4.length c0_4,.slice A0_5 l0_5.length c0_5,.slice A0_6 l0_6.length c0_6,.bool a0_7,.bool a0_8] 25)).alloc (.cells #[.bool a1_0,.bool a1_1,.slice A1_2 l1_2.length c1_2,.slice A1_3 l1_3.length c1_3,.slice A1_4 l1_4.length c1_4,.slice A1_5 l1_5.length c1_5,.slice A1_6 l1_6.length c1_6,.bool a1_7,.bool a1_8] 25)) V))=>twoNew h.out
 have E:=A_ E
 have Q2:Aside0 (∀ t V,laws_eqRuleS.f k l0_2 l1_2=some t→Below w.heap.size w V→Calls Try.prog 26 #[.slice A0_2 l0_2.length c0_2,.slice A1_2 l1_2.length c1_2] V fun e w'=>e=.returned (.bool t)∧Below V.heap.size V w'):=⟨fun t V e hV=>laws_eqRuleS.calls k A0_2 c0_2 l0_2 A1_2 c1_2 l1_2 t V (cb_ hr0_2 hV) hc0_2 (cb_ hr1_2 hV) hc1_2 e⟩
 have Q3:Aside0 (∀ t V,laws_eqRuleS.f k l0_3 l1_3=some t→Below w.heap.size w V→Calls Try.prog 26 #[.slice A0_3 l0_3.length c0_3,.slice A1_3 l1_3.length c1_3] V fun e w'=>e=.returned (.bool t)∧Below V.heap.size V w'):=⟨fun t V e hV=>laws_eqRuleS.calls k A0_3 c0_3 l0_3 A1_3 c1_3 l1_3 t V (cb_ hr0_3 hV) hc0_3 (cb_ hr1_3 hV) hc1_3 e⟩
 have Q4:Aside0 (∀ t V,laws_eqRuleS.f k l0_4 l1_4=some t→Below w.heap.size w V→Calls Try.prog 26 #[.slice A0_4 l0_4.length c0_4,.slice A1_4 l1_4.length c1_4] V fun e w'=>e=.returned (.bool t)∧Below V.heap.size V w'):=⟨fun t V e hV=>laws_eqRuleS.calls k A0_4 c0_4 l0_4 A1_4 c1_4 l1_4 t V (cb_ hr0_4 hV) hc0_4 (cb_ hr1_4 hV) hc1_4 e⟩
 have Q5:Aside0 (∀ t V,laws_eqStringS.f k l0_5 l1_5=some t→Below w.heap.size w V→Calls Try.prog 27 #[.slice A0_5 l0_5.length c0_5,.slice A1_5 l1_5.length c1_5] V fun e w'=>e=.returned (.bool t)∧Below V.heap.size V w'):=⟨fun t V e hV=>(laws_eqStringS.calls k A0_5 c0_5 l0_5 A1_5 c1_5 l1_5 t V (cb_ hr0_5 hV) hc0_5 (cb_ hr1_5 hV) hc1_5 e).mono fun e w' ⟨he,hd⟩=>⟨he,hd.below⟩⟩
 have Q6:Aside0 (∀ t V,laws_eqStringS.f k l0_6 l1_6=some t→Below w.heap.size w V→Calls Try.prog 27 #[.slice A0_6 l0_6.length c0_6,.slice A1_6 l1_6.length c1_6] V fun e w'=>e=.returned (.bool t)∧Below V.heap.size V w'):=⟨fun t V e hV=>(laws_eqStringS.calls k A0_6 c0_6 l0_6 A1_6 c1_6 l1_6 t V (cb_ hr0_6 hV) hc0_6 (cb_ hr1_6 hV) hc1_6 e).mono fun e w' ⟨he,hd⟩=>⟨he,hd.below⟩⟩
 clear hr0_2 hc0_2 hr0_3 hc0_3 hr0_4 hc0_4 hr0_5 hc0_5 hr0_6 hc0_6
 clear hr1_2 hc1_2 hr1_3 hc1_3 hr1_4 hc1_4 hr1_5 hc1_5 hr1_6 hc1_6
 generalize l0_2.length=n0_2 at *
 generalize l0_3.length=n0_3 at *
 generalize l0_4.length=n0_4 at *
 generalize l0_5.length=n0_5 at *
 generalize l0_6.length=n0_6 at *
 generalize l1_2.length=n1_2 at *
 generalize l1_3.length=n1_3 at *
 generalize l1_4.length=n1_4 at *
 generalize l1_5.length=n1_5 at *
 generalize l1_6.length=n1_6 at *
 by_cases b0:a0_0=a1_0
 case neg =>
  have z0:(a0_0 != a1_0)=true:=by simpa using b0
  have u0:(a0_0 == a1_0)=false:=by simpa using b0
  clear b0
  rw [if_pos z0] at h
  obtain rfl:=oi_ h
  clear h
  go_enter Try.func8,Try.ntmps8
  go_wp2
  go_ret
  exact ⟨rfl,(E.out _ HB1).2.2⟩
 subst b0
 have z0:(a0_0 != a0_0)=false:=by simp
 rw [if_neg (by rw [z0];exact Bool.false_ne_true)] at h
 by_cases b1:a0_1=a1_1
 case neg =>
  have z1:(a0_1 != a1_1)=true:=by simpa using b1
  have u1:(a0_1 == a1_1)=false:=by simpa using b1
  clear b1
  rw [if_pos z1] at h
  obtain rfl:=oi_ h
  clear h
  go_enter Try.func8,Try.ntmps8
  go_wp2
  go_ret
  exact ⟨rfl,(E.out _ HB1).2.2⟩
 subst b1
 have z1:(a0_1 != a0_1)=false:=by simp
 rw [if_neg (by rw [z1];exact Bool.false_ne_true)] at h
 have h9:=ob_ h
 clear h
 obtain ⟨t2,e2,h⟩:=h9
 cases t2
 case false =>
  rw [if_neg Bool.false_ne_true] at h
  obtain rfl:=oi_ h
  clear h
  go_enter Try.func8,Try.ntmps8
  go_wp2_with (first|(go_at_call 26;(with_reducible refine (Q2.out _ _ e2 (E.out _ HB1).2.2).mono ?_);rintro e w2 ⟨rfl,hb⟩;have HB2:=A_ (HB1.out.trans (hb.mono HB1.out.size));have x23:=(E.out _ HB2).1 3 (.slice A0_3 n0_3 c0_3) rfl;have y23:=(E.out _ HB2).2.1 3 (.slice A1_3 n1_3 c1_3) rfl;clear hb))
  go_ret
  exact ⟨rfl,(E.out _ HB2).2.2⟩
 rw [if_pos rfl] at h
 have h9:=ob_ h
 clear h
 obtain ⟨t3,e3,h⟩:=h9
 cases t3
 case false =>
  rw [if_neg Bool.false_ne_true] at h
  obtain rfl:=oi_ h
  clear h
  go_enter Try.func8,Try.ntmps8
  go_wp2_with (first|(go_at_call 26;(with_reducible refine (Q2.out _ _ e2 (E.out _ HB1).2.2).mono ?_);rintro e w2 ⟨rfl,hb⟩;have HB2:=A_ (HB1.out.trans (hb.mono HB1.out.size));have x23:=(E.out _ HB2).1 3 (.slice A0_3 n0_3 c0_3) rfl;have y23:=(E.out _ HB2).2.1 3 (.slice A1_3 n1_3 c1_3) rfl;clear hb)|(go_at_call 26;(with_reducible refine (Q3.out _ _ e3 (E.out _ HB2).2.2).mono ?_);rintro e w3 ⟨rfl,hb⟩;have HB3:=A_ (HB2.out.trans (hb.mono HB2.out.size));have x34:=(E.out _ HB3).1 4 (.slice A0_4 n0_4 c0_4) rfl;have y34:=(E.out _ HB3).2.1 4 (.slice A1_4 n1_4 c1_4) rfl;clear hb))
  go_ret
  exact ⟨rfl,(E.out _ HB3).2.2⟩
 rw [if_pos rfl] at h
 have h9:=ob_ h
 clear h
 obtain ⟨t4,e4,h⟩:=h9
 cases t4
 case false =>
  rw [if_neg Bool.false_ne_true] at h
  obtain rfl:=oi_ h
  clear h
  go_enter Try.func8,Try.ntmps8
  go_wp2_with (first|(go_at_call 26;(with_reducible refine (Q2.out _ _ e2 (E.out _ HB1).2.2).mono ?_);rintro e w2 ⟨rfl,hb⟩;have HB2:=A_ (HB1.out.trans (hb.mono HB1.out.size));have x23:=(E.out _ HB2).1 3 (.slice A0_3 n0_3 c0_3) rfl;have y23:=(E.out _ HB2).2.1 3 (.slice A1_3 n1_3 c1_3) rfl;clear hb)|(go_at_call 26;(with_reducible refine (Q3.out _ _ e3 (E.out _ HB2).2.2).mono ?_);rintro e w3 ⟨rfl,hb⟩;have HB3:=A_ (HB2.out.trans (hb.mono HB2.out.size));have x34:=(E.out _ HB3).1 4 (.slice A0_4 n0_4 c0_4) rfl;have y34:=(E.out _ HB3).2.1 4 (.slice A1_4 n1_4 c1_4) rfl;clear hb)|(go_at_call 26;(with_reducible refine (Q4.out _ _ e4 (E.out _ HB3).2.2).mono ?_);rintro e w4 ⟨rfl,hb⟩;have HB4:=A_ (HB3.out.trans (hb.mono HB3.out.size));have x45:=(E.out _ HB4).1 5 (.slice A0_5 n0_5 c0_5) rfl;have y45:=(E.out _ HB4).2.1 5 (.slice A1_5 n1_5 c1_5) rfl;clear hb))
  go_ret
  exact ⟨rfl,(E.out _ HB4).2.2⟩
 rw [if_pos rfl] at h
 have h9:=ob_ h
 clear h
 obtain ⟨t5,e5,h⟩:=h9
 cases t5
 case false =>
  rw [if_neg Bool.false_ne_true] at h
  obtain rfl:=oi_ h
  clear h
  go_enter Try.func8,Try.ntmps8
  go_wp2_with (first|(go_at_call 26;(with_reducible refine (Q2.out _ _ e2 (E.out _ HB1).2.2).mono ?_);rintro e w2 ⟨rfl,hb⟩;have HB2:=A_ (HB1.out.trans (hb.mono HB1.out.size));have x23:=(E.out _ HB2).1 3 (.slice A0_3 n0_3 c0_3) rfl;have y23:=(E.out _ HB2).2.1 3 (.slice A1_3 n1_3 c1_3) rfl;clear hb)|(go_at_call 26;(with_reducible refine (Q3.out _ _ e3 (E.out _ HB2).2.2).mono ?_);rintro e w3 ⟨rfl,hb⟩;have HB3:=A_ (HB2.out.trans (hb.mono HB2.out.size));have x34:=(E.out _ HB3).1 4 (.slice A0_4 n0_4 c0_4) rfl;have y34:=(E.out _ HB3).2.1 4 (.slice A1_4 n1_4 c1_4) rfl;clear hb)|(go_at_call 26;(with_reducible refine (Q4.out _ _ e4 (E.out _ HB3).2.2).mono ?_);rintro e w4 ⟨rfl,hb⟩;have HB4:=A_ (HB3.out.trans (hb.mono HB3.out.size));have x45:=(E.out _ HB4).1 5 (.slice A0_5 n0_5 c0_5) rfl;have y45:=(E.out _ HB4).2.1 5 (.slice A1_5 n1_5 c1_5) rfl;clear hb)|(go_at_call 27;(with_reducible refine (Q5.out _ _ e5 (E.out _ HB4).2.2).mono ?_);rintro e w5 ⟨rfl,hb⟩;have HB5:=A_ (HB4.out.trans (hb.mono HB4.out.size));have x56:=(E.out _ HB5).1 6 (.slice A0_6 n0_6 c0_6) rfl;have y56:=(E.out _ HB5).2.1 6 (.slice A1_6 n1_6 c1_6) rfl;clear hb))
  go_ret
  exact ⟨rfl,(E.out _ HB5).2.2⟩
 rw [if_pos rfl] at h
 have h9:=ob_ h
 clear h
 obtain ⟨t6,e6,h⟩:=h9
 cases t6
 case false =>
  rw [if_neg Bool.false_ne_true] at h
  obtain rfl:=oi_ h
  clear h
  go_enter Try.func8,Try.ntmps8
  go_wp2_with (first|(go_at_call 26;(with_reducible refine (Q2.out _ _ e2 (E.out _ HB1).2.2).mono ?_);rintro e w2 ⟨rfl,hb⟩;have HB2:=A_ (HB1.out.trans (hb.mono HB1.out.size));have x23:=(E.out _ HB2).1 3 (.slice A0_3 n0_3 c0_3) rfl;have y23:=(E.out _ HB2).2.1 3 (.slice A1_3 n1_3 c1_3) rfl;clear hb)|(go_at_call 26;(with_reducible refine (Q3.out _ _ e3 (E.out _ HB2).2.2).mono ?_);rintro e w3 ⟨rfl,hb⟩;have HB3:=A_ (HB2.out.trans (hb.mono HB2.out.size));have x34:=(E.out _ HB3).1 4 (.slice A0_4 n0_4 c0_4) rfl;have y34:=(E.out _ HB3).2.1 4 (.slice A1_4 n1_4 c1_4) rfl;clear hb)|(go_at_call 26;(with_reducible refine (Q4.out _ _ e4 (E.out _ HB3).2.2).mono ?_);rintro e w4 ⟨rfl,hb⟩;have HB4:=A_ (HB3.out.trans (hb.mono HB3.out.size));have x45:=(E.out _ HB4).1 5 (.slice A0_5 n0_5 c0_5) rfl;have y45:=(E.out _ HB4).2.1 5 (.slice A1_5 n1_5 c1_5) rfl;clear hb)|(go_at_call 27;(with_reducible refine (Q5.out _ _ e5 (E.out _ HB4).2.2).mono ?_);rintro e w5 ⟨rfl,hb⟩;have HB5:=A_ (HB4.out.trans (hb.mono HB4.out.size));have x56:=(E.out _ HB5).1 6 (.slice A0_6 n0_6 c0_6) rfl;have y56:=(E.out _ HB5).2.1 6 (.slice A1_6 n1_6 c1_6) rfl;clear hb)|(go_at_call 27;(with_reducible refine (Q6.out _ _ e6 (E.out _ HB5).2.2).mono ?_);rintro e w6 ⟨rfl,hb⟩;have HB6:=A_ (HB5.out.trans (hb.mono HB5.out.size));have x67:=(E.out _ HB6).1 7 (.bool _) rfl;have y67:=(E.out _ HB6).2.1 7 (.bool _) rfl;have x68:=(E.out _ HB6).1 8 (.bool _) rfl;have y68:=(E.out _ HB6).2.1 8 (.bool _) rfl;clear hb))
  go_ret
  exact ⟨rfl,(E.out _ HB6).2.2⟩
 rw [if_pos rfl] at h
 by_cases b7:a0_7=a1_7
 case neg =>
  have z7:(a0_7 != a1_7)=true:=by simpa using b7
  have u7:(a0_7 == a1_7)=false:=by simpa using b7
  clear b7
  rw [if_pos z7] at h
  obtain rfl:=oi_ h
  clear h
  go_enter Try.func8,Try.ntmps8
  go_wp2_with (first|(go_at_call 26;(with_reducible refine (Q2.out _ _ e2 (E.out _ HB1).2.2).mono ?_);rintro e w2 ⟨rfl,hb⟩;have HB2:=A_ (HB1.out.trans (hb.mono HB1.out.size));have x23:=(E.out _ HB2).1 3 (.slice A0_3 n0_3 c0_3) rfl;have y23:=(E.out _ HB2).2.1 3 (.slice A1_3 n1_3 c1_3) rfl;clear hb)|(go_at_call 26;(with_reducible refine (Q3.out _ _ e3 (E.out _ HB2).2.2).mono ?_);rintro e w3 ⟨rfl,hb⟩;have HB3:=A_ (HB2.out.trans (hb.mono HB2.out.size));have x34:=(E.out _ HB3).1 4 (.slice A0_4 n0_4 c0_4) rfl;have y34:=(E.out _ HB3).2.1 4 (.slice A1_4 n1_4 c1_4) rfl;clear hb)|(go_at_call 26;(with_reducible refine (Q4.out _ _ e4 (E.out _ HB3).2.2).mono ?_);rintro e w4 ⟨rfl,hb⟩;have HB4:=A_ (HB3.out.trans (hb.mono HB3.out.size));have x45:=(E.out _ HB4).1 5 (.slice A0_5 n0_5 c0_5) rfl;have y45:=(E.out _ HB4).2.1 5 (.slice A1_5 n1_5 c1_5) rfl;clear hb)|(go_at_call 27;(with_reducible refine (Q5.out _ _ e5 (E.out _ HB4).2.2).mono ?_);rintro e w5 ⟨rfl,hb⟩;have HB5:=A_ (HB4.out.trans (hb.mono HB4.out.size));have x56:=(E.out _ HB5).1 6 (.slice A0_6 n0_6 c0_6) rfl;have y56:=(E.out _ HB5).2.1 6 (.slice A1_6 n1_6 c1_6) rfl;clear hb)|(go_at_call 27;(with_reducible refine (Q6.out _ _ e6 (E.out _ HB5).2.2).mono ?_);rintro e w6 ⟨rfl,hb⟩;have HB6:=A_ (HB5.out.trans (hb.mono HB5.out.size));have x67:=(E.out _ HB6).1 7 (.bool _) rfl;have y67:=(E.out _ HB6).2.1 7 (.bool _) rfl;have x68:=(E.out _ HB6).1 8 (.bool _) rfl;have y68:=(E.out _ HB6).2.1 8 (.bool _) rfl;clear hb))
  go_ret
  exact ⟨rfl,(E.out _ HB6).2.2⟩
 subst b7
 have z7:(a0_7 != a0_7)=false:=by simp
 rw [if_neg (by rw [z7];exact Bool.false_ne_true)] at h
 by_cases b8:a0_8=a1_8
 case neg =>
  have z8:(a0_8 != a1_8)=true:=by simpa using b8
  have u8:(a0_8 == a1_8)=false:=by simpa using b8
  clear b8
  rw [if_pos z8] at h
  obtain rfl:=oi_ h
  clear h
  go_enter Try.func8,Try.ntmps8
  go_wp2_with (first|(go_at_call 26;(with_reducible refine (Q2.out _ _ e2 (E.out _ HB1).2.2).mono ?_);rintro e w2 ⟨rfl,hb⟩;have HB2:=A_ (HB1.out.trans (hb.mono HB1.out.size));have x23:=(E.out _ HB2).1 3 (.slice A0_3 n0_3 c0_3) rfl;have y23:=(E.out _ HB2).2.1 3 (.slice A1_3 n1_3 c1_3) rfl;clear hb)|(go_at_call 26;(with_reducible refine (Q3.out _ _ e3 (E.out _ HB2).2.2).mono ?_);rintro e w3 ⟨rfl,hb⟩;have HB3:=A_ (HB2.out.trans (hb.mono HB2.out.size));have x34:=(E.out _ HB3).1 4 (.slice A0_4 n0_4 c0_4) rfl;have y34:=(E.out _ HB3).2.1 4 (.slice A1_4 n1_4 c1_4) rfl;clear hb)|(go_at_call 26;(with_reducible refine (Q4.out _ _ e4 (E.out _ HB3).2.2).mono ?_);rintro e w4 ⟨rfl,hb⟩;have HB4:=A_ (HB3.out.trans (hb.mono HB3.out.size));have x45:=(E.out _ HB4).1 5 (.slice A0_5 n0_5 c0_5) rfl;have y45:=(E.out _ HB4).2.1 5 (.slice A1_5 n1_5 c1_5) rfl;clear hb)|(go_at_call 27;(with_reducible refine (Q5.out _ _ e5 (E.out _ HB4).2.2).mono ?_);rintro e w5 ⟨rfl,hb⟩;have HB5:=A_ (HB4.out.trans (hb.mono HB4.out.size));have x56:=(E.out _ HB5).1 6 (.slice A0_6 n0_6 c0_6) rfl;have y56:=(E.out _ HB5).2.1 6 (.slice A1_6 n1_6 c1_6) rfl;clear hb)|(go_at_call 27;(with_reducible refine (Q6.out _ _ e6 (E.out _ HB5).2.2).mono ?_);rintro e w6 ⟨rfl,hb⟩;have HB6:=A_ (HB5.out.trans (hb.mono HB5.out.size));have x67:=(E.out _ HB6).1 7 (.bool _) rfl;have y67:=(E.out _ HB6).2.1 7 (.bool _) rfl;have x68:=(E.out _ HB6).1 8 (.bool _) rfl;have y68:=(E.out _ HB6).2.1 8 (.bool _) rfl;clear hb))
  go_ret
  exact ⟨rfl,(E.out _ HB6).2.2⟩
 subst b8
 have z8:(a0_8 != a0_8)=false:=by simp
 rw [if_neg (by rw [z8];exact Bool.false_ne_true)] at h
 obtain rfl:=oi_ h
 clear h
 go_enter Try.func8,Try.ntmps8
 go_wp2_with (first|(go_at_call 26;(with_reducible refine (Q2.out _ _ e2 (E.out _ HB1).2.2).mono ?_);rintro e w2 ⟨rfl,hb⟩;have HB2:=A_ (HB1.out.trans (hb.mono HB1.out.size));have x23:=(E.out _ HB2).1 3 (.slice A0_3 n0_3 c0_3) rfl;have y23:=(E.out _ HB2).2.1 3 (.slice A1_3 n1_3 c1_3) rfl;clear hb)|(go_at_call 26;(with_reducible refine (Q3.out _ _ e3 (E.out _ HB2).2.2).mono ?_);rintro e w3 ⟨rfl,hb⟩;have HB3:=A_ (HB2.out.trans (hb.mono HB2.out.size));have x34:=(E.out _ HB3).1 4 (.slice A0_4 n0_4 c0_4) rfl;have y34:=(E.out _ HB3).2.1 4 (.slice A1_4 n1_4 c1_4) rfl;clear hb)|(go_at_call 26;(with_reducible refine (Q4.out _ _ e4 (E.out _ HB3).2.2).mono ?_);rintro e w4 ⟨rfl,hb⟩;have HB4:=A_ (HB3.out.trans (hb.mono HB3.out.size));have x45:=(E.out _ HB4).1 5 (.slice A0_5 n0_5 c0_5) rfl;have y45:=(E.out _ HB4).2.1 5 (.slice A1_5 n1_5 c1_5) rfl;clear hb)|(go_at_call 27;(with_reducible refine (Q5.out _ _ e5 (E.out _ HB4).2.2).mono ?_);rintro e w5 ⟨rfl,hb⟩;have HB5:=A_ (HB4.out.trans (hb.mono HB4.out.size));have x56:=(E.out _ HB5).1 6 (.slice A0_6 n0_6 c0_6) rfl;have y56:=(E.out _ HB5).2.1 6 (.slice A1_6 n1_6 c1_6) rfl;clear hb)|(go_at_call 27;(with_reducible refine (Q6.out _ _ e6 (E.out _ HB5).2.2).mono ?_);rintro e w6 ⟨rfl,hb⟩;have HB6:=A_ (HB5.out.trans (hb.mono HB5.out.size));have x67:=(E.out _ HB6).1 7 (.bool _) rfl;have y67:=(E.out _ HB6).2.1 7 (.bool _) rfl;have x68:=(E.out _ HB6).1 8 (.bool _) rfl;have y68:=(E.out _ HB6).2.1 8 (.bool _) rfl;clear hb))
 go_ret
 exact ⟨rfl,(E.out _ HB6).2.2⟩
end Go.Proofs.Ytmeafbneklphnaa.PFnExactAllowsAttr
