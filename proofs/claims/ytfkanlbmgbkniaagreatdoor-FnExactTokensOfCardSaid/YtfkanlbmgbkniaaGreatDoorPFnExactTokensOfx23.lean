/- The machine side of a law, printed by a program. No conditions. -/
import Derived.Test.YtfkanlbmgbkniaaGreatDoorPFnExactTokensOfx0
import Derived.Test.YtfkanlbmgbkniaaGreatDoorPFnExactTokensOfx22
namespace Go.Proofs.YtfkanlbmgbkniaaGreatDoor.PFnExactTokensOf
open Go.RowKit Go.Proofs.YtfkanlbmgbkniaaGreatDoorW.PrintWords Go.Proofs.YtfkanlbmgbkniaaGreatDoorW.PrintLast Go.Proofs.YtfkanlbmgbkniaaGreatDoorW.PrintMore
attribute [local go_sem] max2_int min2_int max_two min_two max_three min_three max_four min_four
set_option linter.unusedVariables false
set_option linter.unusedSimpArgs false
def laws_eqAttrS.l0:Nat→List (S52)→List (S52)→Int→Option (Bool)
 | 0,_,_,_=>none
 | k+1,x0,x1,x5=>if x5<(x0.length:Int) then (if 0≤x5 then (if x5<(x1.length:Int) then ((laws_eqAttr.f ((rd_T52 x0 x5).f0) ((rd_T52 x0 x5).f1) ((rd_T52 x1 x5).f0) ((rd_T52 x1 x5).f1)).bind fun t470=>(if t470=true then (laws_eqAttrS.l0 k x0 x1 (wrap64 (x5+1))) else (some false))) else (none)) else (none)) else (some true)
def laws_eqAttrS.f (k:Nat) (l0:List (S52)) (l1:List (S52)):Option (Bool):=if (l0.length:Int)=(l1.length:Int) then (laws_eqAttrS.l0 k l0 l1 0) else (some false)
theorem laws_eqAttrS.mono_l:∀ k,(∀ y0 y1 y2,LeO (laws_eqAttrS.l0 k y0 y1 y2) (laws_eqAttrS.l0 (k+1) y0 y1 y2))
 | 0=>fun _ _ _ r h=>by simp [laws_eqAttrS.l0] at h
 | k+1=>by
  have ih0:=laws_eqAttrS.mono_l k
  ·intro y0 y1 y2
   unfold laws_eqAttrS.l0
   repeat' first|(with_reducible first|exact ih0 ..|exact LeO.refl _|exact LeO.none _|refine LeO.ite ?_ ?_|refine LeO.bind ?_ (fun _=>?_))|exact ih0 ..|exact LeO.none _|refine LeO.ite ?_ ?_|refine LeO.bind ?_ (fun _=>?_)
theorem laws_eqAttrS.mono:∀ a0 a1 k,LeO (laws_eqAttrS.f k a0 a1) (laws_eqAttrS.f (k+1) a0 a1):=by
 intro a0 a1 k
 have ih0:=laws_eqAttrS.mono_l k
 unfold laws_eqAttrS.f
 repeat' first|(with_reducible first|exact ih0 ..|exact LeO.refl _|exact LeO.none _|refine LeO.ite ?_ ?_|refine LeO.bind ?_ (fun _=>?_))|exact ih0 ..|exact LeO.none _|refine LeO.ite ?_ ?_|refine LeO.bind ?_ (fun _=>?_)
def laws_eqAttrS.T6:Bool × List (List Nat × List Nat):=(true,[([],[]),([],[]),([0,1],[0,1]),([2],[2]),([],[]),([],[]),([4,5],[4,5]),([6],[6]),([3,7],[3,7]),([8],[8])])
def laws_eqAttrS.B6:List Nat:=[0,0,3,7,0,0,48,112,255,511]
theorem laws_eqAttrS.tab6:rtab .any (opsOf Tryz.f22 6)=laws_eqAttrS.T6:=by kernel_rfl
theorem laws_eqAttrS.bits6:waitsOk laws_eqAttrS.T6.2 laws_eqAttrS.B6=true:=by kernel_rfl
set_option maxHeartbeats 8000000 in
set_option maxRecDepth 100000 in
theorem laws_eqAttrS.calls (k:Nat) (A0:Option Addr) (c0:Nat) (l0:List (S52)) (A1:Option Addr) (c1:Nat) (l1:List (S52)) (r:Bool) (w:World) (hr0:Kd.C k52 w A0 l0.length l0) (hc0:l0.length≤c0) (hr1:Kd.C k52 w A1 l1.length l1) (hc1:l1.length≤c1) (h:laws_eqAttrS.f k l0 l1=some r) :
 Calls Tryz.prog 22 #[.slice A0 l0.length c0,.slice A1 l1.length c1] w fun e w'=>e=.returned (.bool r)∧Below w.heap.size w w':=by
 have hu52:=Tryz.underlying52
 have HR0:=A_ hr0
 have HC0:=A_ hc0
 clear hr0 hc0
 have HR1:=A_ hr1
 have HC1:=A_ hc1
 clear hr1 hc1
 have HB:=A_ (Below.refl w.heap.size w)
 have H:(if (l0.length:Int)=(l1.length:Int) then (laws_eqAttrS.l0 k l0 l1 0) else (some false))=some r:=h
 clear h
 by_cases c3:(l0.length:Int)=(l1.length:Int)
 ·rw [if_pos c3] at H
  have c3b0:((l0.length:Int) == (l1.length:Int))=true:=beq_iff_eq.mpr c3
  have c3b1:((l0.length:Int) != (l1.length:Int))=false:=bne_eq_false_iff_eq.mpr c3
  have c3b2:(l0.length == l1.length)=true:=by first|simpa using c3|(simp at c3 ⊢;omega)
  clear c3
  have H':=A_ H
  clear H
  go_enter Tryz.func22,Tryz.ntmps22
  go_wp2
  go_loopg [5] k (fun kq v5 w'=>∃ (x5_1:Int),v5=.int .i64 x5_1∧Aside0 (laws_eqAttrS.l0 kq l0 l1 x5_1=some r)∧Aside0 (kq≤k)∧Aside0 (Below w.heap.size w w'))
  case atStart=>exact ⟨(0),rs_,H',⟨Nat.le_refl _⟩,⟨bq0_ HB.out⟩⟩
  case round =>
   clear H'
   try clear c1
   try clear c2
   try clear p2
   try clear c3
   try clear c3b0
   try clear c3b1
   try clear c3b2
   obtain ⟨x5_1,rfl,HA,HK1,HB⟩:=hrel
   cases gk with
   | zero=>exact absurd HA.out (by simp [laws_eqAttrS.l0])
   | succ k1 =>
    have H:=HA.out
    clear HA
    simp only [laws_eqAttrS.l0] at H
    by_cases c4:x5_1<(l0.length:Int)
    ·rw [if_pos c4] at H
     have c4b0:decide (x5_1<(l0.length:Int))=true:=dt_ c4
     clear c4
     by_cases c5:0≤x5_1
     ·rw [if_pos c5] at H
      have c5b0:decide (0≤x5_1)=true:=dt_ c5
      clear c5
      by_cases c6:x5_1<(l1.length:Int)
      ·rw [if_pos c6] at H
       have c6b0:decide (x5_1<(l1.length:Int))=true:=dt_ c6
       clear c6
       replace H:=ob_ H
       obtain ⟨t470,A70,H⟩:=H
       replace H:(if t470=true then (laws_eqAttrS.l0 k1 l0 l1 (wrap64 (x5_1+1))) else (some false))=some r:=H
       have A7:=A_ A70
       clear A70
       by_cases c8:t470=true
       ·subst c8
        have H1:(laws_eqAttrS.l0 k1 l0 l1 (wrap64 (x5_1+1)))=some r:=by rw [if_pos rfl] at H;exact H
        clear H
        have H:=H1
        clear H1
        have H':=A_ H
        clear H
        try go_wp2
        have n0_:=A_ (b1_ HB.out)
        clear HB
        have HB:=n0_
        clear n0_
        have p468:0≤(x5_1:Int):=oa_
        have q468:x5_1<(l0.length:Int):=oa_
        obtain ⟨ad468,e468,hx468_0,hx468_1⟩:=at_T52 HR0.out x5_1 p468 q468
        have hw468_1:=hx468_1
        have hw468_0:=hx468_0
        cases e468
        replace hx468_0:=ph_ HB.out hx468_0
        replace hx468_1:=ph_ HB.out hx468_1
        replace p468:=eq_true p468
        replace q468:=eq_true q468
        have p469:0≤(x5_1:Int):=oa_
        have q469:x5_1<(l1.length:Int):=oa_
        obtain ⟨ad469,e469,hx469_0,hx469_1⟩:=at_T52 HR1.out x5_1 p469 q469
        have hw469_1:=hx469_1
        have hw469_0:=hx469_0
        cases e469
        replace hx469_0:=ph_ HB.out hx469_0
        replace hx469_1:=ph_ HB.out hx469_1
        replace p469:=eq_true p469
        replace q469:=eq_true q469
        refine start_ (n:=10) (S:=fun w'=>w'.cell? (ad468.add ((x5_1).toNat * 2))=some (.string ((rd_T52 l0 x5_1).f0))∧w'.cell? ⟨(ad468.add ((x5_1).toNat * 2)).block,(ad468.add ((x5_1).toNat * 2)).off+1,none⟩=some (.string ((rd_T52 l0 x5_1).f1))∧w'.cell? (ad469.add ((x5_1).toNat * 2))=some (.string ((rd_T52 l1 x5_1).f0))∧w'.cell? ⟨(ad469.add ((x5_1).toNat * 2)).block,(ad469.add ((x5_1).toNat * 2)).off+1,none⟩=some (.string ((rd_T52 l1 x5_1).f1))) (ds:=[]) #[F_,F_,F_,F_,F_,F_,F_,F_,F_,F_] (by kernel_rfl) rfl rfl ⟨(ph_ HB.out hw468_0),(ph_ HB.out hw468_1),(ph_ HB.out hw469_0),(ph_ HB.out hw469_1)⟩ (fun hHeld=>?_);refine with_tabW laws_eqAttrS.tab6 laws_eqAttrS.bits6 (fun HT_ HW_=>?_)
        generalize wr.drew=w9 at HB hx468_0 hx468_1 hx469_0 hx469_1 hHeld ⊢
        refine pure_ (i:=0) (N:=some 17) (v:=?_) (a':=?_) #[T_,F_,F_,F_,F_,F_,F_,F_,F_,F_] rfl rfl (any_of HT_.out (by kernel_rfl)) (fun _ _ _ h=>h) (Or.inl ⟨by rfl,?_⟩) ?_ ?_
        rotate_left
        ·intro w'
         go_simp
         with_reducible rfl
        rotate_left
        ·simp only [Act.put,ls_,lz_,lc_,i64_w,i32_w]
         rfl
        refine pure_ (i:=1) (N:=some 18) (v:=?_) (a':=?_) #[T_,T_,F_,F_,F_,F_,F_,F_,F_,F_] rfl rfl (any_of HT_.out (by kernel_rfl)) (fun _ _ _ h=>h) (Or.inl ⟨by rfl,?_⟩) ?_ ?_
        rotate_left
        ·intro w'
         go_simp
         with_reducible rfl
        rotate_left
        ·simp only [Act.put,ls_,lz_,lc_,i64_w,i32_w]
         rfl
        refine pure_ (i:=2) (N:=some 19) (v:=?_) (a':=?_) #[T_,T_,T_,F_,F_,F_,F_,F_,F_,F_] rfl rfl (any_of HT_.out (by kernel_rfl)) (fun _ _ _ h=>h) (Or.inl ⟨by rfl,?_⟩) ?_ ?_
        rotate_left
        ·intro w'
         go_simp
         with_reducible rfl
        rotate_left
        ·simp only [Act.put,ls_,lz_,lc_,i64_w,i32_w]
         rfl
        refine pure_ (i:=4) (N:=some 21) (v:=?_) (a':=?_) #[T_,T_,T_,F_,T_,F_,F_,F_,F_,F_] rfl rfl (any_of HT_.out (by kernel_rfl)) (fun _ _ _ h=>h) (Or.inl ⟨by rfl,?_⟩) ?_ ?_
        rotate_left
        ·intro w'
         go_simp
         with_reducible rfl
        rotate_left
        ·simp only [Act.put,ls_,lz_,lc_,i64_w,i32_w]
         rfl
        refine pure_ (i:=5) (N:=some 22) (v:=?_) (a':=?_) #[T_,T_,T_,F_,T_,T_,F_,F_,F_,F_] rfl rfl (any_of HT_.out (by kernel_rfl)) (fun _ _ _ h=>h) (Or.inl ⟨by rfl,?_⟩) ?_ ?_
        rotate_left
        ·intro w'
         go_simp
         with_reducible rfl
        rotate_left
        ·simp only [Act.put,ls_,lz_,lc_,i64_w,i32_w]
         rfl
        refine pure_ (i:=6) (N:=some 23) (v:=?_) (a':=?_) #[T_,T_,T_,F_,T_,T_,T_,F_,F_,F_] rfl rfl (any_of HT_.out (by kernel_rfl)) (fun _ _ _ h=>h) (Or.inl ⟨by rfl,?_⟩) ?_ ?_
        rotate_left
        ·intro w'
         go_simp
         with_reducible rfl
        rotate_left
        ·simp only [Act.put,ls_,lz_,lc_,i64_w,i32_w]
         rfl
        refine take_ (i:=3) (N:=some 20) (v:=?_) (a':=?_) #[T_,T_,T_,T_,T_,T_,T_,F_,F_,F_] rfl rfl (take_ofW HT_.out HW_.out (by kernel_rfl)) (fun _ _ _ h=>h) (Or.inl ⟨by rfl,?_⟩) hHeld ?_ ?_
        rotate_left
        ·rintro w' ⟨s0,s1,s2,s3⟩
         go_simp
         with_reducible rfl
        rotate_left
        ·simp only [Act.put,ls_,lz_,lc_,i64_w,i32_w]
         rfl
        refine take_ (i:=7) (N:=some 24) (v:=?_) (a':=?_) #[T_,T_,T_,T_,T_,T_,T_,T_,F_,F_] rfl rfl (take_ofW HT_.out HW_.out (by kernel_rfl)) (fun _ _ _ h=>h) (Or.inl ⟨by rfl,?_⟩) hHeld ?_ ?_
        rotate_left
        ·rintro w' ⟨s0,s1,s2,s3⟩
         go_simp
         with_reducible rfl
        rotate_left
        ·simp only [Act.put,ls_,lz_,lc_,i64_w,i32_w]
         rfl
        refine one_ (i:=8) (N:=some 25) #[T_,T_,T_,T_,T_,T_,T_,T_,T_,F_] rfl rfl (one_of HT_.out (by kernel_rfl)) (by decide) (fun K hK=>?_)
        refine goes_ Tryz.func47 (by kernel_rfl) rfl #[.agg #[.string ((rd_T52 l0 x5_1).f0),.string ((rd_T52 l0 x5_1).f1)],.agg #[.string ((rd_T52 l1 x5_1).f0),.string ((rd_T52 l1 x5_1).f1)]] (by rfl) rfl rfl (by (try simp only [List.map_toArray,List.map_cons,List.map_nil]);first|done|rfl|(simp only [ld_,lt_];rfl)) ?_
        with_reducible refine (laws_eqAttr.calls ((rd_T52 l0 x5_1).f0) ((rd_T52 l0 x5_1).f1) ((rd_T52 l1 x5_1).f0) ((rd_T52 l1 x5_1).f1) true _ A7.out).mono ?_
        rintro e w10 ⟨rfl,hb⟩
        refine ⟨_,rfl,?_⟩
        have n0_:=A_ (bp_ (bq0_ HB.out) hb)
        clear HB
        have HB:=n0_
        clear n0_
        (try clear hb)
        (try clear hb2)
        (try clear hk)
        (try clear hi)
        refine hK.out _ _ ⟨(ph_ HB.out hw468_0),(ph_ HB.out hw468_1),(ph_ HB.out hw469_0),(ph_ HB.out hw469_1)⟩ (fun hHeld=>?_)
        clear hK K
        refine norm_ (a':=?_) ?_ ?_
        rotate_left
        ·show Act.put _ (some 25) _=_
         simp only [Act.put,ls_,lz_,lc_,i64_w,i32_w]
         rfl
        refine pure_ (i:=9) (N:=some 26) (v:=?_) (a':=?_) #[T_,T_,T_,T_,T_,T_,T_,T_,T_,T_] rfl rfl (any_of HT_.out (by kernel_rfl)) (fun _ _ _ h=>h) (Or.inl ⟨by rfl,?_⟩) ?_ ?_
        rotate_left
        ·intro w'
         go_simp
         with_reducible rfl
        rotate_left
        ·simp only [Act.put,ls_,lz_,lc_,i64_w,i32_w]
         rfl
        refine done_ (done_of HT_.out (by kernel_rfl)) ?_
        try go_wp2
        go_roundg k1
        case measure=>have:=HK1.out;omega
        case rel=>exact ⟨(wrap64 (x5_1+1)),rs_,H',⟨by have:=HK1.out;omega⟩,⟨bq0_ HB.out⟩⟩
       ·replace c8:=bm_ c8
        subst c8
        have H1:(some false)=some r:=by rw [if_neg (show ¬ (false=true) by decide)] at H;exact H
        clear H
        have H:=H1
        clear H1
        obtain rfl:=oi_ H
        try go_wp2
        have n0_:=A_ (b1_ HB.out)
        clear HB
        have HB:=n0_
        clear n0_
        have p468:0≤(x5_1:Int):=oa_
        have q468:x5_1<(l0.length:Int):=oa_
        obtain ⟨ad468,e468,hx468_0,hx468_1⟩:=at_T52 HR0.out x5_1 p468 q468
        have hw468_1:=hx468_1
        have hw468_0:=hx468_0
        cases e468
        replace hx468_0:=ph_ HB.out hx468_0
        replace hx468_1:=ph_ HB.out hx468_1
        replace p468:=eq_true p468
        replace q468:=eq_true q468
        have p469:0≤(x5_1:Int):=oa_
        have q469:x5_1<(l1.length:Int):=oa_
        obtain ⟨ad469,e469,hx469_0,hx469_1⟩:=at_T52 HR1.out x5_1 p469 q469
        have hw469_1:=hx469_1
        have hw469_0:=hx469_0
        cases e469
        replace hx469_0:=ph_ HB.out hx469_0
        replace hx469_1:=ph_ HB.out hx469_1
        replace p469:=eq_true p469
        replace q469:=eq_true q469
        refine start_ (n:=10) (S:=fun w'=>w'.cell? (ad468.add ((x5_1).toNat * 2))=some (.string ((rd_T52 l0 x5_1).f0))∧w'.cell? ⟨(ad468.add ((x5_1).toNat * 2)).block,(ad468.add ((x5_1).toNat * 2)).off+1,none⟩=some (.string ((rd_T52 l0 x5_1).f1))∧w'.cell? (ad469.add ((x5_1).toNat * 2))=some (.string ((rd_T52 l1 x5_1).f0))∧w'.cell? ⟨(ad469.add ((x5_1).toNat * 2)).block,(ad469.add ((x5_1).toNat * 2)).off+1,none⟩=some (.string ((rd_T52 l1 x5_1).f1))) (ds:=[]) #[F_,F_,F_,F_,F_,F_,F_,F_,F_,F_] (by kernel_rfl) rfl rfl ⟨(ph_ HB.out hw468_0),(ph_ HB.out hw468_1),(ph_ HB.out hw469_0),(ph_ HB.out hw469_1)⟩ (fun hHeld=>?_);refine with_tabW laws_eqAttrS.tab6 laws_eqAttrS.bits6 (fun HT_ HW_=>?_)
        generalize wr.drew=w11 at HB hx468_0 hx468_1 hx469_0 hx469_1 hHeld ⊢
        refine pure_ (i:=0) (N:=some 17) (v:=?_) (a':=?_) #[T_,F_,F_,F_,F_,F_,F_,F_,F_,F_] rfl rfl (any_of HT_.out (by kernel_rfl)) (fun _ _ _ h=>h) (Or.inl ⟨by rfl,?_⟩) ?_ ?_
        rotate_left
        ·intro w'
         go_simp
         with_reducible rfl
        rotate_left
        ·simp only [Act.put,ls_,lz_,lc_,i64_w,i32_w]
         rfl
        refine pure_ (i:=1) (N:=some 18) (v:=?_) (a':=?_) #[T_,T_,F_,F_,F_,F_,F_,F_,F_,F_] rfl rfl (any_of HT_.out (by kernel_rfl)) (fun _ _ _ h=>h) (Or.inl ⟨by rfl,?_⟩) ?_ ?_
        rotate_left
        ·intro w'
         go_simp
         with_reducible rfl
        rotate_left
        ·simp only [Act.put,ls_,lz_,lc_,i64_w,i32_w]
         rfl
        refine pure_ (i:=2) (N:=some 19) (v:=?_) (a':=?_) #[T_,T_,T_,F_,F_,F_,F_,F_,F_,F_] rfl rfl (any_of HT_.out (by kernel_rfl)) (fun _ _ _ h=>h) (Or.inl ⟨by rfl,?_⟩) ?_ ?_
        rotate_left
        ·intro w'
         go_simp
         with_reducible rfl
        rotate_left
        ·simp only [Act.put,ls_,lz_,lc_,i64_w,i32_w]
         rfl
        refine pure_ (i:=4) (N:=some 21) (v:=?_) (a':=?_) #[T_,T_,T_,F_,T_,F_,F_,F_,F_,F_] rfl rfl (any_of HT_.out (by kernel_rfl)) (fun _ _ _ h=>h) (Or.inl ⟨by rfl,?_⟩) ?_ ?_
        rotate_left
        ·intro w'
         go_simp
         with_reducible rfl
        rotate_left
        ·simp only [Act.put,ls_,lz_,lc_,i64_w,i32_w]
         rfl
        refine pure_ (i:=5) (N:=some 22) (v:=?_) (a':=?_) #[T_,T_,T_,F_,T_,T_,F_,F_,F_,F_] rfl rfl (any_of HT_.out (by kernel_rfl)) (fun _ _ _ h=>h) (Or.inl ⟨by rfl,?_⟩) ?_ ?_
        rotate_left
        ·intro w'
         go_simp
         with_reducible rfl
        rotate_left
        ·simp only [Act.put,ls_,lz_,lc_,i64_w,i32_w]
         rfl
        refine pure_ (i:=6) (N:=some 23) (v:=?_) (a':=?_) #[T_,T_,T_,F_,T_,T_,T_,F_,F_,F_] rfl rfl (any_of HT_.out (by kernel_rfl)) (fun _ _ _ h=>h) (Or.inl ⟨by rfl,?_⟩) ?_ ?_
        rotate_left
        ·intro w'
         go_simp
         with_reducible rfl
        rotate_left
        ·simp only [Act.put,ls_,lz_,lc_,i64_w,i32_w]
         rfl
        refine take_ (i:=3) (N:=some 20) (v:=?_) (a':=?_) #[T_,T_,T_,T_,T_,T_,T_,F_,F_,F_] rfl rfl (take_ofW HT_.out HW_.out (by kernel_rfl)) (fun _ _ _ h=>h) (Or.inl ⟨by rfl,?_⟩) hHeld ?_ ?_
        rotate_left
        ·rintro w' ⟨s0,s1,s2,s3⟩
         go_simp
         with_reducible rfl
        rotate_left
        ·simp only [Act.put,ls_,lz_,lc_,i64_w,i32_w]
         rfl
        refine take_ (i:=7) (N:=some 24) (v:=?_) (a':=?_) #[T_,T_,T_,T_,T_,T_,T_,T_,F_,F_] rfl rfl (take_ofW HT_.out HW_.out (by kernel_rfl)) (fun _ _ _ h=>h) (Or.inl ⟨by rfl,?_⟩) hHeld ?_ ?_
        rotate_left
        ·rintro w' ⟨s0,s1,s2,s3⟩
         go_simp
         with_reducible rfl
        rotate_left
        ·simp only [Act.put,ls_,lz_,lc_,i64_w,i32_w]
         rfl
        refine one_ (i:=8) (N:=some 25) #[T_,T_,T_,T_,T_,T_,T_,T_,T_,F_] rfl rfl (one_of HT_.out (by kernel_rfl)) (by decide) (fun K hK=>?_)
        refine goes_ Tryz.func47 (by kernel_rfl) rfl #[.agg #[.string ((rd_T52 l0 x5_1).f0),.string ((rd_T52 l0 x5_1).f1)],.agg #[.string ((rd_T52 l1 x5_1).f0),.string ((rd_T52 l1 x5_1).f1)]] (by rfl) rfl rfl (by (try simp only [List.map_toArray,List.map_cons,List.map_nil]);first|done|rfl|(simp only [ld_,lt_];rfl)) ?_
        with_reducible refine (laws_eqAttr.calls ((rd_T52 l0 x5_1).f0) ((rd_T52 l0 x5_1).f1) ((rd_T52 l1 x5_1).f0) ((rd_T52 l1 x5_1).f1) false _ A7.out).mono ?_
        rintro e w12 ⟨rfl,hb⟩
        refine ⟨_,rfl,?_⟩
        have n0_:=A_ (bp_ (bq0_ HB.out) hb)
        clear HB
        have HB:=n0_
        clear n0_
        (try clear hb)
        (try clear hb2)
        (try clear hk)
        (try clear hi)
        refine hK.out _ _ ⟨(ph_ HB.out hw468_0),(ph_ HB.out hw468_1),(ph_ HB.out hw469_0),(ph_ HB.out hw469_1)⟩ (fun hHeld=>?_)
        clear hK K
        refine norm_ (a':=?_) ?_ ?_
        rotate_left
        ·show Act.put _ (some 25) _=_
         simp only [Act.put,ls_,lz_,lc_,i64_w,i32_w]
         rfl
        refine pure_ (i:=9) (N:=some 26) (v:=?_) (a':=?_) #[T_,T_,T_,T_,T_,T_,T_,T_,T_,T_] rfl rfl (any_of HT_.out (by kernel_rfl)) (fun _ _ _ h=>h) (Or.inl ⟨by rfl,?_⟩) ?_ ?_
        rotate_left
        ·intro w'
         go_simp
         with_reducible rfl
        rotate_left
        ·simp only [Act.put,ls_,lz_,lc_,i64_w,i32_w]
         rfl
        refine done_ (done_of HT_.out (by kernel_rfl)) ?_
        try go_wp2
        go_ret
        exact ⟨by first|rfl|(simp [errW_none,errW_some] <;> rfl)|(simp [*,errW_none,errW_some] <;> rfl),bq0_ HB.out⟩
      ·rw [if_neg c6] at H
       exact absurd H (by simp)
     ·rw [if_neg c5] at H
      exact absurd H (by simp)
    ·rw [if_neg c4] at H
     have c4b0:decide (x5_1<(l0.length:Int))=false:=df_ c4
     clear c4
     obtain rfl:=oi_ H
     go_wp2
     go_ret
     exact ⟨by first|rfl|(simp [errW_none,errW_some] <;> rfl)|(simp [*,errW_none,errW_some] <;> rfl),bq0_ HB.out⟩
 ·rw [if_neg c3] at H
  have c3b0:((l0.length:Int) == (l1.length:Int))=false:=beq_eq_false_iff_ne.mpr c3
  have c3b1:((l0.length:Int) != (l1.length:Int))=true:=bne_iff_ne.mpr c3
  have c3b2:(l0.length == l1.length)=false:=by first|simpa using c3|(simp at c3 ⊢;omega)
  obtain rfl:=oi_ H
  go_enter Tryz.func22,Tryz.ntmps22
  go_wp2
  go_ret
  exact ⟨by first|rfl|(simp [errW_none,errW_some] <;> rfl)|(simp [*,errW_none,errW_some] <;> rfl),bq0_ HB.out⟩
def laws_eqToken.f (k:Nat) (a0_0:Int) (a0_1:Int) (a0_2:Int) (a0_3:ByteArray) (a0_4:ByteArray) (l0_5:List (S52)) (a0_6:Bool) (a1_0:Int) (a1_1:Int) (a1_2:Int) (a1_3:ByteArray) (a1_4:ByteArray) (l1_5:List (S52)) (a1_6:Bool):Option (Bool):=if a0_0=a1_0 then (if a0_1=a1_1 then (if a0_2=a1_2 then (if a0_3.toList=a1_3.toList then (if a0_4.toList=a1_4.toList then ((laws_eqAttrS.f k l0_5 l1_5).bind fun t473=>(if t473=true then (if (a0_6 != a1_6)=true then (some false) else (some true)) else (some false))) else (some false)) else (some false)) else (some false)) else (some false)) else (some false)
theorem laws_eqToken.mono:∀ a0 a1 a2 a3 a4 a5 a6 a7 a8 a9 a10 a11 a12 a13 k,LeO (laws_eqToken.f k a0 a1 a2 a3 a4 a5 a6 a7 a8 a9 a10 a11 a12 a13) (laws_eqToken.f (k+1) a0 a1 a2 a3 a4 a5 a6 a7 a8 a9 a10 a11 a12 a13):=by
 intro a0 a1 a2 a3 a4 a5 a6 a7 a8 a9 a10 a11 a12 a13 k
 unfold laws_eqToken.f
 repeat' first|(with_reducible first|exact laws_eqAttrS.mono ..|exact LeO.refl _|exact LeO.none _|refine LeO.ite ?_ ?_|refine LeO.bind ?_ (fun _=>?_))|exact LeO.none _|refine LeO.ite ?_ ?_|refine LeO.bind ?_ (fun _=>?_)
set_option maxHeartbeats 8000000 in
set_option maxRecDepth 100000 in
theorem laws_eqToken.calls (k:Nat) (a0_0:Int) (a0_1:Int) (a0_2:Int) (a0_3:ByteArray) (a0_4:ByteArray) (A0_5:Option Addr) (c0_5:Nat) (l0_5:List (S52)) (a0_6:Bool) (a1_0:Int) (a1_1:Int) (a1_2:Int) (a1_3:ByteArray) (a1_4:ByteArray) (A1_5:Option Addr) (c1_5:Nat) (l1_5:List (S52)) (a1_6:Bool) (r:Bool) (w:World) (hr0_5:Kd.C k52 w A0_5 l0_5.length l0_5) (hc0_5:l0_5.length≤c0_5) (hr1_5:Kd.C k52 w A1_5 l1_5.length l1_5) (hc1_5:l1_5.length≤c1_5) (h:laws_eqToken.f k a0_0 a0_1 a0_2 a0_3 a0_4 l0_5 a0_6 a1_0 a1_1 a1_2 a1_3 a1_4 l1_5 a1_6=some r) :
 Calls Tryz.prog 7 #[.agg #[.int .i64 a0_0,.int .i64 a0_1,.int .i64 a0_2,.string a0_3,.string a0_4,.slice A0_5 l0_5.length c0_5,.bool a0_6],.agg #[.int .i64 a1_0,.int .i64 a1_1,.int .i64 a1_2,.string a1_3,.string a1_4,.slice A1_5 l1_5.length c1_5,.bool a1_6]] w fun e w'=>e=.returned (.bool r)∧Below w.heap.size w w':=by
 have hu24:=Tryz.underlying24
 have HR0_5:=A_ hr0_5
 have HC0_5:=A_ hc0_5
 clear hr0_5 hc0_5
 have HR1_5:=A_ hr1_5
 have HC1_5:=A_ hc1_5
 clear hr1_5 hc1_5
 have HB:=A_ (Below.refl w.heap.size w)
 have H:(if a0_0=a1_0 then (if a0_1=a1_1 then (if a0_2=a1_2 then (if a0_3.toList=a1_3.toList then (if a0_4.toList=a1_4.toList then ((laws_eqAttrS.f k l0_5 l1_5).bind fun t473=>(if t473=true then (if (a0_6 != a1_6)=true then (some false) else (some true)) else (some false))) else (some false)) else (some false)) else (some false)) else (some false)) else (some false))=some r:=h
 clear h
 by_cases c3:a0_0=a1_0
 ·rw [if_pos c3] at H
  have c3b0:(a0_0 == a1_0)=true:=beq_iff_eq.mpr c3
  have c3b1:(a0_0 != a1_0)=false:=bne_eq_false_iff_eq.mpr c3
  clear c3
  by_cases c4:a0_1=a1_1
  ·rw [if_pos c4] at H
   have c4b0:(a0_1 == a1_1)=true:=beq_iff_eq.mpr c4
   have c4b1:(a0_1 != a1_1)=false:=bne_eq_false_iff_eq.mpr c4
   clear c4
   by_cases c5:a0_2=a1_2
   ·rw [if_pos c5] at H
    have c5b0:(a0_2 == a1_2)=true:=beq_iff_eq.mpr c5
    have c5b1:(a0_2 != a1_2)=false:=bne_eq_false_iff_eq.mpr c5
    clear c5
    by_cases c6:a0_3.toList=a1_3.toList
    ·rw [if_pos c6] at H
     have c6b0:(a0_3.toList == a1_3.toList)=true:=beq_iff_eq.mpr c6
     have c6b1:(a0_3.toList != a1_3.toList)=false:=bne_eq_false_iff_eq.mpr c6
     clear c6
     by_cases c7:a0_4.toList=a1_4.toList
     ·rw [if_pos c7] at H
      have c7b0:(a0_4.toList == a1_4.toList)=true:=beq_iff_eq.mpr c7
      have c7b1:(a0_4.toList != a1_4.toList)=false:=bne_eq_false_iff_eq.mpr c7
      clear c7
      replace H:=ob_ H
      obtain ⟨t473,A80,H⟩:=H
      replace H:(if t473=true then (if (a0_6 != a1_6)=true then (some false) else (some true)) else (some false))=some r:=H
      have A8:=A_ A80
      clear A80
      by_cases c9:t473=true
      ·subst c9
       have H1:(if (a0_6 != a1_6)=true then (some false) else (some true))=some r:=by rw [if_pos rfl] at H;exact H
       clear H
       have H:=H1
       clear H1
       by_cases c10:(a0_6 != a1_6)=true
       ·rw [if_pos c10] at H
        have c10b0:(a0_6 != a1_6)=true:=c10
        (try (have c10b1:decide (a0_6=a1_6)=false:=by simpa using c10))
        (try (have c10b2:(a0_6 == a1_6)=false:=by simpa using c10))
        (try (have c10b3:¬ (a0_6=a1_6):=by simpa using c10))
        clear c10
        obtain rfl:=oi_ H
        go_enter Tryz.func7,Tryz.ntmps7
        go_wp2_with (first|((with_reducible refine gate_dst (N:=2) rfl ?_);refine box_event ?hg (N:=2) ?hd (cs:=#[.int .i64 a0_0,.int .i64 a0_1,.int .i64 a0_2,.string a0_3,.string a0_4,.slice A0_5 l0_5.length c0_5,.bool a0_6]) (t:=24) ?hr ?_;(case hd=>rfl);(case hg=>rfl);(case hr=>first|(go_simp;done)|(go_simp;rfl));intro gb471 hg w11 hbox hb;have n0_:=A_ (bp_ (bq0_ HB.out) hb);have n1_:=A_ (hbox);have n2_:=A_ ((by rw [hg];exact (bz_ (bq0_ HB.out)):w.heap.size≤gb471));have n3_:=A_ ((by rw [hg];exact (bz_ (bq0_ HB.out)):w.heap.size≤gb471));clear HB;have HB:=n0_;have BK471:=n1_;have GW471:=n2_;have GE471:=n3_;clear n0_ n1_ n2_ n3_;clear hb hbox hg)|((with_reducible refine gate_dst (N:=3) rfl ?_);refine box_event ?hg (N:=3) ?hd (cs:=#[.int .i64 a1_0,.int .i64 a1_1,.int .i64 a1_2,.string a1_3,.string a1_4,.slice A1_5 l1_5.length c1_5,.bool a1_6]) (t:=24) ?hr ?_;(case hd=>rfl);(case hg=>rfl);(case hr=>first|(go_simp;done)|(go_simp;rfl));intro gb472 hg w12 hbox hb;have n0_:=A_ (kb_ (kq_ BK471.out) hb);have n1_:=A_ (bp_ (bq1_ HB.out GE471.out) hb);have n2_:=A_ (hbox);have n3_:=A_ ((by rw [hg];exact (bz_ (bq1_ HB.out GE471.out)):w.heap.size≤gb472));have n4_:=A_ ((by rw [hg];exact (bz_ (bq1_ HB.out GE471.out)):w.heap.size≤gb472));have n5_:=A_ ((by rw [hg];exact Nat.ne_of_lt (blk_lt (g:=gb471) (o:=.cells #[.int .i64 a0_0,.int .i64 a0_1,.int .i64 a0_2,.string a0_3,.string a0_4,.slice A0_5 l0_5.length c0_5,.bool a0_6] 24 (0,0)) (kq_ BK471.out)):gb471≠gb472));have n6_:=A_ ((by rw [hg];exact Nat.ne_of_gt (blk_lt (g:=gb471) (o:=.cells #[.int .i64 a0_0,.int .i64 a0_1,.int .i64 a0_2,.string a0_3,.string a0_4,.slice A0_5 l0_5.length c0_5,.bool a0_6] 24 (0,0)) (kq_ BK471.out)):gb472≠gb471));clear BK471;clear HB;have BK471:=n0_;have HB:=n1_;have BK472:=n2_;have GW472:=n3_;have GE472:=n4_;have NB471_472:=n5_;have NB472_471:=n6_;clear n0_ n1_ n2_ n3_ n4_ n5_ n6_;clear hb hbox hg;have hnb13:=NB471_472.out;have hnc13:=NB472_471.out;obtain ⟨_,_,_,_,_,_,_,_,_,_,_,_,_,_⟩:=g7_ BK471.out;obtain ⟨_,_,_,_,_,_,_,_,_,_,_,_,_,_⟩:=g7_ BK472.out)|((with_reducible refine gate_callee (f:=22) rfl ?_);refine gl_ (some 34) rfl rfl Tryz.func22 (by kernel_rfl) rfl #[.slice A0_5 l0_5.length c0_5,.slice A1_5 l1_5.length c1_5] rfl  ?_;(with_reducible refine (laws_eqAttrS.calls k _ _ l0_5 _ _ l1_5 true _ ?side1 ?side2 ?side3 ?side4 A8.out).mono ?_);(case side1=>repeat (first|exact (cb_ HR0_5.out HB.out)|(with_reducible refine ca_ ?_ _)|(with_reducible refine cn_ ?_ _)|(with_reducible refine cd_ ?_)));(case side2=>exact HC0_5.out);(case side3=>repeat (first|exact (cb_ HR1_5.out HB.out)|(with_reducible refine ca_ ?_ _)|(with_reducible refine cn_ ?_ _)|(with_reducible refine cd_ ?_)));(case side4=>exact HC1_5.out);rintro e w16 ⟨rfl,hb⟩;refine ⟨_,rfl,?_⟩;have n0_:=A_ (kb_ (kq_ BK471.out) hb);have n1_:=A_ (kb_ (kq_ BK472.out) hb);have n2_:=A_ (bp_ (bq2_ HB.out GE471.out GE472.out) hb);clear BK471;clear BK472;clear HB;have BK471:=n0_;have BK472:=n1_;have HB:=n2_;clear n0_ n1_ n2_;(try clear hb);(try clear hb2);(try clear hk);(try clear hi);obtain ⟨_,_,_,_,_,_,_,_,_,_,_,_,_,_⟩:=g7_ BK471.out;obtain ⟨_,_,_,_,_,_,_,_,_,_,_,_,_,_⟩:=g7_ BK472.out))
        go_ret
        exact ⟨by first|rfl|(simp [errW_none,errW_some] <;> rfl)|(simp [*,errW_none,errW_some] <;> rfl),bq2_ HB.out GE471.out GE472.out⟩
       ·rw [if_neg c10] at H
        have c10b0:(a0_6 != a1_6)=false:=by simpa using c10
        (try (have c10b1:decide (a0_6=a1_6)=true:=by simpa using c10))
        (try (have c10b2:(a0_6 == a1_6)=true:=by simpa using c10))
        clear c10
        obtain rfl:=oi_ H
        go_enter Tryz.func7,Tryz.ntmps7
        go_wp2_with (first|((with_reducible refine gate_dst (N:=2) rfl ?_);refine box_event ?hg (N:=2) ?hd (cs:=#[.int .i64 a0_0,.int .i64 a0_1,.int .i64 a0_2,.string a0_3,.string a0_4,.slice A0_5 l0_5.length c0_5,.bool a0_6]) (t:=24) ?hr ?_;(case hd=>rfl);(case hg=>rfl);(case hr=>first|(go_simp;done)|(go_simp;rfl));intro gb471 hg w19 hbox hb;have n0_:=A_ (bp_ (bq0_ HB.out) hb);have n1_:=A_ (hbox);have n2_:=A_ ((by rw [hg];exact (bz_ (bq0_ HB.out)):w.heap.size≤gb471));have n3_:=A_ ((by rw [hg];exact (bz_ (bq0_ HB.out)):w.heap.size≤gb471));clear HB;have HB:=n0_;have BK471:=n1_;have GW471:=n2_;have GE471:=n3_;clear n0_ n1_ n2_ n3_;clear hb hbox hg)|((with_reducible refine gate_dst (N:=3) rfl ?_);refine box_event ?hg (N:=3) ?hd (cs:=#[.int .i64 a1_0,.int .i64 a1_1,.int .i64 a1_2,.string a1_3,.string a1_4,.slice A1_5 l1_5.length c1_5,.bool a1_6]) (t:=24) ?hr ?_;(case hd=>rfl);(case hg=>rfl);(case hr=>first|(go_simp;done)|(go_simp;rfl));intro gb472 hg w20 hbox hb;have n0_:=A_ (kb_ (kq_ BK471.out) hb);have n1_:=A_ (bp_ (bq1_ HB.out GE471.out) hb);have n2_:=A_ (hbox);have n3_:=A_ ((by rw [hg];exact (bz_ (bq1_ HB.out GE471.out)):w.heap.size≤gb472));have n4_:=A_ ((by rw [hg];exact (bz_ (bq1_ HB.out GE471.out)):w.heap.size≤gb472));have n5_:=A_ ((by rw [hg];exact Nat.ne_of_lt (blk_lt (g:=gb471) (o:=.cells #[.int .i64 a0_0,.int .i64 a0_1,.int .i64 a0_2,.string a0_3,.string a0_4,.slice A0_5 l0_5.length c0_5,.bool a0_6] 24 (0,0)) (kq_ BK471.out)):gb471≠gb472));have n6_:=A_ ((by rw [hg];exact Nat.ne_of_gt (blk_lt (g:=gb471) (o:=.cells #[.int .i64 a0_0,.int .i64 a0_1,.int .i64 a0_2,.string a0_3,.string a0_4,.slice A0_5 l0_5.length c0_5,.bool a0_6] 24 (0,0)) (kq_ BK471.out)):gb472≠gb471));clear BK471;clear HB;have BK471:=n0_;have HB:=n1_;have BK472:=n2_;have GW472:=n3_;have GE472:=n4_;have NB471_472:=n5_;have NB472_471:=n6_;clear n0_ n1_ n2_ n3_ n4_ n5_ n6_;clear hb hbox hg;have hnb21:=NB471_472.out;have hnc21:=NB472_471.out;obtain ⟨_,_,_,_,_,_,_,_,_,_,_,_,_,_⟩:=g7_ BK471.out;obtain ⟨_,_,_,_,_,_,_,_,_,_,_,_,_,_⟩:=g7_ BK472.out)|((with_reducible refine gate_callee (f:=22) rfl ?_);refine gl_ (some 34) rfl rfl Tryz.func22 (by kernel_rfl) rfl #[.slice A0_5 l0_5.length c0_5,.slice A1_5 l1_5.length c1_5] rfl  ?_;(with_reducible refine (laws_eqAttrS.calls k _ _ l0_5 _ _ l1_5 true _ ?side1 ?side2 ?side3 ?side4 A8.out).mono ?_);(case side1=>repeat (first|exact (cb_ HR0_5.out HB.out)|(with_reducible refine ca_ ?_ _)|(with_reducible refine cn_ ?_ _)|(with_reducible refine cd_ ?_)));(case side2=>exact HC0_5.out);(case side3=>repeat (first|exact (cb_ HR1_5.out HB.out)|(with_reducible refine ca_ ?_ _)|(with_reducible refine cn_ ?_ _)|(with_reducible refine cd_ ?_)));(case side4=>exact HC1_5.out);rintro e w24 ⟨rfl,hb⟩;refine ⟨_,rfl,?_⟩;have n0_:=A_ (kb_ (kq_ BK471.out) hb);have n1_:=A_ (kb_ (kq_ BK472.out) hb);have n2_:=A_ (bp_ (bq2_ HB.out GE471.out GE472.out) hb);clear BK471;clear BK472;clear HB;have BK471:=n0_;have BK472:=n1_;have HB:=n2_;clear n0_ n1_ n2_;(try clear hb);(try clear hb2);(try clear hk);(try clear hi);obtain ⟨_,_,_,_,_,_,_,_,_,_,_,_,_,_⟩:=g7_ BK471.out;obtain ⟨_,_,_,_,_,_,_,_,_,_,_,_,_,_⟩:=g7_ BK472.out))
        go_ret
        exact ⟨by first|rfl|(simp [errW_none,errW_some] <;> rfl)|(simp [*,errW_none,errW_some] <;> rfl),bq2_ HB.out GE471.out GE472.out⟩
      ·replace c9:=bm_ c9
       subst c9
       have H1:(some false)=some r:=by rw [if_neg (show ¬ (false=true) by decide)] at H;exact H
       clear H
       have H:=H1
       clear H1
       obtain rfl:=oi_ H
       go_enter Tryz.func7,Tryz.ntmps7
       go_wp2_with (first|((with_reducible refine gate_dst (N:=2) rfl ?_);refine box_event ?hg (N:=2) ?hd (cs:=#[.int .i64 a0_0,.int .i64 a0_1,.int .i64 a0_2,.string a0_3,.string a0_4,.slice A0_5 l0_5.length c0_5,.bool a0_6]) (t:=24) ?hr ?_;(case hd=>rfl);(case hg=>rfl);(case hr=>first|(go_simp;done)|(go_simp;rfl));intro gb471 hg w27 hbox hb;have n0_:=A_ (bp_ (bq0_ HB.out) hb);have n1_:=A_ (hbox);have n2_:=A_ ((by rw [hg];exact (bz_ (bq0_ HB.out)):w.heap.size≤gb471));have n3_:=A_ ((by rw [hg];exact (bz_ (bq0_ HB.out)):w.heap.size≤gb471));clear HB;have HB:=n0_;have BK471:=n1_;have GW471:=n2_;have GE471:=n3_;clear n0_ n1_ n2_ n3_;clear hb hbox hg)|((with_reducible refine gate_dst (N:=3) rfl ?_);refine box_event ?hg (N:=3) ?hd (cs:=#[.int .i64 a1_0,.int .i64 a1_1,.int .i64 a1_2,.string a1_3,.string a1_4,.slice A1_5 l1_5.length c1_5,.bool a1_6]) (t:=24) ?hr ?_;(case hd=>rfl);(case hg=>rfl);(case hr=>first|(go_simp;done)|(go_simp;rfl));intro gb472 hg w28 hbox hb;have n0_:=A_ (kb_ (kq_ BK471.out) hb);have n1_:=A_ (bp_ (bq1_ HB.out GE471.out) hb);have n2_:=A_ (hbox);have n3_:=A_ ((by rw [hg];exact (bz_ (bq1_ HB.out GE471.out)):w.heap.size≤gb472));have n4_:=A_ ((by rw [hg];exact (bz_ (bq1_ HB.out GE471.out)):w.heap.size≤gb472));have n5_:=A_ ((by rw [hg];exact Nat.ne_of_lt (blk_lt (g:=gb471) (o:=.cells #[.int .i64 a0_0,.int .i64 a0_1,.int .i64 a0_2,.string a0_3,.string a0_4,.slice A0_5 l0_5.length c0_5,.bool a0_6] 24 (0,0)) (kq_ BK471.out)):gb471≠gb472));have n6_:=A_ ((by rw [hg];exact Nat.ne_of_gt (blk_lt (g:=gb471) (o:=.cells #[.int .i64 a0_0,.int .i64 a0_1,.int .i64 a0_2,.string a0_3,.string a0_4,.slice A0_5 l0_5.length c0_5,.bool a0_6] 24 (0,0)) (kq_ BK471.out)):gb472≠gb471));clear BK471;clear HB;have BK471:=n0_;have HB:=n1_;have BK472:=n2_;have GW472:=n3_;have GE472:=n4_;have NB471_472:=n5_;have NB472_471:=n6_;clear n0_ n1_ n2_ n3_ n4_ n5_ n6_;clear hb hbox hg;have hnb29:=NB471_472.out;have hnc29:=NB472_471.out;obtain ⟨_,_,_,_,_,_,_,_,_,_,_,_,_,_⟩:=g7_ BK471.out;obtain ⟨_,_,_,_,_,_,_,_,_,_,_,_,_,_⟩:=g7_ BK472.out)|((with_reducible refine gate_callee (f:=22) rfl ?_);refine gl_ (some 34) rfl rfl Tryz.func22 (by kernel_rfl) rfl #[.slice A0_5 l0_5.length c0_5,.slice A1_5 l1_5.length c1_5] rfl  ?_;(with_reducible refine (laws_eqAttrS.calls k _ _ l0_5 _ _ l1_5 false _ ?side1 ?side2 ?side3 ?side4 A8.out).mono ?_);(case side1=>repeat (first|exact (cb_ HR0_5.out HB.out)|(with_reducible refine ca_ ?_ _)|(with_reducible refine cn_ ?_ _)|(with_reducible refine cd_ ?_)));(case side2=>exact HC0_5.out);(case side3=>repeat (first|exact (cb_ HR1_5.out HB.out)|(with_reducible refine ca_ ?_ _)|(with_reducible refine cn_ ?_ _)|(with_reducible refine cd_ ?_)));(case side4=>exact HC1_5.out);rintro e w32 ⟨rfl,hb⟩;refine ⟨_,rfl,?_⟩;have n0_:=A_ (kb_ (kq_ BK471.out) hb);have n1_:=A_ (kb_ (kq_ BK472.out) hb);have n2_:=A_ (bp_ (bq2_ HB.out GE471.out GE472.out) hb);clear BK471;clear BK472;clear HB;have BK471:=n0_;have BK472:=n1_;have HB:=n2_;clear n0_ n1_ n2_;(try clear hb);(try clear hb2);(try clear hk);(try clear hi)))
       go_ret
       exact ⟨by first|rfl|(simp [errW_none,errW_some] <;> rfl)|(simp [*,errW_none,errW_some] <;> rfl),bq2_ HB.out GE471.out GE472.out⟩
     ·rw [if_neg c7] at H
      have c7b0:(a0_4.toList == a1_4.toList)=false:=beq_eq_false_iff_ne.mpr c7
      have c7b1:(a0_4.toList != a1_4.toList)=true:=bne_iff_ne.mpr c7
      obtain rfl:=oi_ H
      go_enter Tryz.func7,Tryz.ntmps7
      go_wp2_with (first|((with_reducible refine gate_dst (N:=2) rfl ?_);refine box_event ?hg (N:=2) ?hd (cs:=#[.int .i64 a0_0,.int .i64 a0_1,.int .i64 a0_2,.string a0_3,.string a0_4,.slice A0_5 l0_5.length c0_5,.bool a0_6]) (t:=24) ?hr ?_;(case hd=>rfl);(case hg=>rfl);(case hr=>first|(go_simp;done)|(go_simp;rfl));intro gb471 hg w33 hbox hb;have n0_:=A_ (bp_ (bq0_ HB.out) hb);have n1_:=A_ (hbox);have n2_:=A_ ((by rw [hg];exact (bz_ (bq0_ HB.out)):w.heap.size≤gb471));have n3_:=A_ ((by rw [hg];exact (bz_ (bq0_ HB.out)):w.heap.size≤gb471));clear HB;have HB:=n0_;have BK471:=n1_;have GW471:=n2_;have GE471:=n3_;clear n0_ n1_ n2_ n3_;clear hb hbox hg)|((with_reducible refine gate_dst (N:=3) rfl ?_);refine box_event ?hg (N:=3) ?hd (cs:=#[.int .i64 a1_0,.int .i64 a1_1,.int .i64 a1_2,.string a1_3,.string a1_4,.slice A1_5 l1_5.length c1_5,.bool a1_6]) (t:=24) ?hr ?_;(case hd=>rfl);(case hg=>rfl);(case hr=>first|(go_simp;done)|(go_simp;rfl));intro gb472 hg w34 hbox hb;have n0_:=A_ (kb_ (kq_ BK471.out) hb);have n1_:=A_ (bp_ (bq1_ HB.out GE471.out) hb);have n2_:=A_ (hbox);have n3_:=A_ ((by rw [hg];exact (bz_ (bq1_ HB.out GE471.out)):w.heap.size≤gb472));have n4_:=A_ ((by rw [hg];exact (bz_ (bq1_ HB.out GE471.out)):w.heap.size≤gb472));have n5_:=A_ ((by rw [hg];exact Nat.ne_of_lt (blk_lt (g:=gb471) (o:=.cells #[.int .i64 a0_0,.int .i64 a0_1,.int .i64 a0_2,.string a0_3,.string a0_4,.slice A0_5 l0_5.length c0_5,.bool a0_6] 24 (0,0)) (kq_ BK471.out)):gb471≠gb472));have n6_:=A_ ((by rw [hg];exact Nat.ne_of_gt (blk_lt (g:=gb471) (o:=.cells #[.int .i64 a0_0,.int .i64 a0_1,.int .i64 a0_2,.string a0_3,.string a0_4,.slice A0_5 l0_5.length c0_5,.bool a0_6] 24 (0,0)) (kq_ BK471.out)):gb472≠gb471));clear BK471;clear HB;have BK471:=n0_;have HB:=n1_;have BK472:=n2_;have GW472:=n3_;have GE472:=n4_;have NB471_472:=n5_;have NB472_471:=n6_;clear n0_ n1_ n2_ n3_ n4_ n5_ n6_;clear hb hbox hg;have hnb35:=NB471_472.out;have hnc35:=NB472_471.out;obtain ⟨_,_,_,_,_,_,_,_,_,_,_,_,_,_⟩:=g7_ BK471.out;obtain ⟨_,_,_,_,_,_,_,_,_,_,_,_,_,_⟩:=g7_ BK472.out))
      go_ret
      exact ⟨by first|rfl|(simp [errW_none,errW_some] <;> rfl)|(simp [*,errW_none,errW_some] <;> rfl),bq2_ HB.out GE471.out GE472.out⟩
    ·rw [if_neg c6] at H
     have c6b0:(a0_3.toList == a1_3.toList)=false:=beq_eq_false_iff_ne.mpr c6
     have c6b1:(a0_3.toList != a1_3.toList)=true:=bne_iff_ne.mpr c6
     obtain rfl:=oi_ H
     go_enter Tryz.func7,Tryz.ntmps7
     go_wp2_with (first|((with_reducible refine gate_dst (N:=2) rfl ?_);refine box_event ?hg (N:=2) ?hd (cs:=#[.int .i64 a0_0,.int .i64 a0_1,.int .i64 a0_2,.string a0_3,.string a0_4,.slice A0_5 l0_5.length c0_5,.bool a0_6]) (t:=24) ?hr ?_;(case hd=>rfl);(case hg=>rfl);(case hr=>first|(go_simp;done)|(go_simp;rfl));intro gb471 hg w38 hbox hb;have n0_:=A_ (bp_ (bq0_ HB.out) hb);have n1_:=A_ (hbox);have n2_:=A_ ((by rw [hg];exact (bz_ (bq0_ HB.out)):w.heap.size≤gb471));have n3_:=A_ ((by rw [hg];exact (bz_ (bq0_ HB.out)):w.heap.size≤gb471));clear HB;have HB:=n0_;have BK471:=n1_;have GW471:=n2_;have GE471:=n3_;clear n0_ n1_ n2_ n3_;clear hb hbox hg)|((with_reducible refine gate_dst (N:=3) rfl ?_);refine box_event ?hg (N:=3) ?hd (cs:=#[.int .i64 a1_0,.int .i64 a1_1,.int .i64 a1_2,.string a1_3,.string a1_4,.slice A1_5 l1_5.length c1_5,.bool a1_6]) (t:=24) ?hr ?_;(case hd=>rfl);(case hg=>rfl);(case hr=>first|(go_simp;done)|(go_simp;rfl));intro gb472 hg w39 hbox hb;have n0_:=A_ (kb_ (kq_ BK471.out) hb);have n1_:=A_ (bp_ (bq1_ HB.out GE471.out) hb);have n2_:=A_ (hbox);have n3_:=A_ ((by rw [hg];exact (bz_ (bq1_ HB.out GE471.out)):w.heap.size≤gb472));have n4_:=A_ ((by rw [hg];exact (bz_ (bq1_ HB.out GE471.out)):w.heap.size≤gb472));have n5_:=A_ ((by rw [hg];exact Nat.ne_of_lt (blk_lt (g:=gb471) (o:=.cells #[.int .i64 a0_0,.int .i64 a0_1,.int .i64 a0_2,.string a0_3,.string a0_4,.slice A0_5 l0_5.length c0_5,.bool a0_6] 24 (0,0)) (kq_ BK471.out)):gb471≠gb472));have n6_:=A_ ((by rw [hg];exact Nat.ne_of_gt (blk_lt (g:=gb471) (o:=.cells #[.int .i64 a0_0,.int .i64 a0_1,.int .i64 a0_2,.string a0_3,.string a0_4,.slice A0_5 l0_5.length c0_5,.bool a0_6] 24 (0,0)) (kq_ BK471.out)):gb472≠gb471));clear BK471;clear HB;have BK471:=n0_;have HB:=n1_;have BK472:=n2_;have GW472:=n3_;have GE472:=n4_;have NB471_472:=n5_;have NB472_471:=n6_;clear n0_ n1_ n2_ n3_ n4_ n5_ n6_;clear hb hbox hg;have hnb40:=NB471_472.out;have hnc40:=NB472_471.out;obtain ⟨_,_,_,_,_,_,_,_,_,_,_,_,_,_⟩:=g7_ BK471.out;obtain ⟨_,_,_,_,_,_,_,_,_,_,_,_,_,_⟩:=g7_ BK472.out))
     go_ret
     exact ⟨by first|rfl|(simp [errW_none,errW_some] <;> rfl)|(simp [*,errW_none,errW_some] <;> rfl),bq2_ HB.out GE471.out GE472.out⟩
   ·rw [if_neg c5] at H
    have c5b0:(a0_2 == a1_2)=false:=beq_eq_false_iff_ne.mpr c5
    have c5b1:(a0_2 != a1_2)=true:=bne_iff_ne.mpr c5
    obtain rfl:=oi_ H
    go_enter Tryz.func7,Tryz.ntmps7
    go_wp2_with (first|((with_reducible refine gate_dst (N:=2) rfl ?_);refine box_event ?hg (N:=2) ?hd (cs:=#[.int .i64 a0_0,.int .i64 a0_1,.int .i64 a0_2,.string a0_3,.string a0_4,.slice A0_5 l0_5.length c0_5,.bool a0_6]) (t:=24) ?hr ?_;(case hd=>rfl);(case hg=>rfl);(case hr=>first|(go_simp;done)|(go_simp;rfl));intro gb471 hg w43 hbox hb;have n0_:=A_ (bp_ (bq0_ HB.out) hb);have n1_:=A_ (hbox);have n2_:=A_ ((by rw [hg];exact (bz_ (bq0_ HB.out)):w.heap.size≤gb471));have n3_:=A_ ((by rw [hg];exact (bz_ (bq0_ HB.out)):w.heap.size≤gb471));clear HB;have HB:=n0_;have BK471:=n1_;have GW471:=n2_;have GE471:=n3_;clear n0_ n1_ n2_ n3_;clear hb hbox hg)|((with_reducible refine gate_dst (N:=3) rfl ?_);refine box_event ?hg (N:=3) ?hd (cs:=#[.int .i64 a1_0,.int .i64 a1_1,.int .i64 a1_2,.string a1_3,.string a1_4,.slice A1_5 l1_5.length c1_5,.bool a1_6]) (t:=24) ?hr ?_;(case hd=>rfl);(case hg=>rfl);(case hr=>first|(go_simp;done)|(go_simp;rfl));intro gb472 hg w44 hbox hb;have n0_:=A_ (kb_ (kq_ BK471.out) hb);have n1_:=A_ (bp_ (bq1_ HB.out GE471.out) hb);have n2_:=A_ (hbox);have n3_:=A_ ((by rw [hg];exact (bz_ (bq1_ HB.out GE471.out)):w.heap.size≤gb472));have n4_:=A_ ((by rw [hg];exact (bz_ (bq1_ HB.out GE471.out)):w.heap.size≤gb472));have n5_:=A_ ((by rw [hg];exact Nat.ne_of_lt (blk_lt (g:=gb471) (o:=.cells #[.int .i64 a0_0,.int .i64 a0_1,.int .i64 a0_2,.string a0_3,.string a0_4,.slice A0_5 l0_5.length c0_5,.bool a0_6] 24 (0,0)) (kq_ BK471.out)):gb471≠gb472));have n6_:=A_ ((by rw [hg];exact Nat.ne_of_gt (blk_lt (g:=gb471) (o:=.cells #[.int .i64 a0_0,.int .i64 a0_1,.int .i64 a0_2,.string a0_3,.string a0_4,.slice A0_5 l0_5.length c0_5,.bool a0_6] 24 (0,0)) (kq_ BK471.out)):gb472≠gb471));clear BK471;clear HB;have BK471:=n0_;have HB:=n1_;have BK472:=n2_;have GW472:=n3_;have GE472:=n4_;have NB471_472:=n5_;have NB472_471:=n6_;clear n0_ n1_ n2_ n3_ n4_ n5_ n6_;clear hb hbox hg;have hnb45:=NB471_472.out;have hnc45:=NB472_471.out;obtain ⟨_,_,_,_,_,_,_,_,_,_,_,_,_,_⟩:=g7_ BK471.out;obtain ⟨_,_,_,_,_,_,_,_,_,_,_,_,_,_⟩:=g7_ BK472.out))
    go_ret
    exact ⟨by first|rfl|(simp [errW_none,errW_some] <;> rfl)|(simp [*,errW_none,errW_some] <;> rfl),bq2_ HB.out GE471.out GE472.out⟩
  ·rw [if_neg c4] at H
   have c4b0:(a0_1 == a1_1)=false:=beq_eq_false_iff_ne.mpr c4
   have c4b1:(a0_1 != a1_1)=true:=bne_iff_ne.mpr c4
   obtain rfl:=oi_ H
   go_enter Tryz.func7,Tryz.ntmps7
   go_wp2_with (first|((with_reducible refine gate_dst (N:=2) rfl ?_);refine box_event ?hg (N:=2) ?hd (cs:=#[.int .i64 a0_0,.int .i64 a0_1,.int .i64 a0_2,.string a0_3,.string a0_4,.slice A0_5 l0_5.length c0_5,.bool a0_6]) (t:=24) ?hr ?_;(case hd=>rfl);(case hg=>rfl);(case hr=>first|(go_simp;done)|(go_simp;rfl));intro gb471 hg w48 hbox hb;have n0_:=A_ (bp_ (bq0_ HB.out) hb);have n1_:=A_ (hbox);have n2_:=A_ ((by rw [hg];exact (bz_ (bq0_ HB.out)):w.heap.size≤gb471));have n3_:=A_ ((by rw [hg];exact (bz_ (bq0_ HB.out)):w.heap.size≤gb471));clear HB;have HB:=n0_;have BK471:=n1_;have GW471:=n2_;have GE471:=n3_;clear n0_ n1_ n2_ n3_;clear hb hbox hg)|((with_reducible refine gate_dst (N:=3) rfl ?_);refine box_event ?hg (N:=3) ?hd (cs:=#[.int .i64 a1_0,.int .i64 a1_1,.int .i64 a1_2,.string a1_3,.string a1_4,.slice A1_5 l1_5.length c1_5,.bool a1_6]) (t:=24) ?hr ?_;(case hd=>rfl);(case hg=>rfl);(case hr=>first|(go_simp;done)|(go_simp;rfl));intro gb472 hg w49 hbox hb;have n0_:=A_ (kb_ (kq_ BK471.out) hb);have n1_:=A_ (bp_ (bq1_ HB.out GE471.out) hb);have n2_:=A_ (hbox);have n3_:=A_ ((by rw [hg];exact (bz_ (bq1_ HB.out GE471.out)):w.heap.size≤gb472));have n4_:=A_ ((by rw [hg];exact (bz_ (bq1_ HB.out GE471.out)):w.heap.size≤gb472));have n5_:=A_ ((by rw [hg];exact Nat.ne_of_lt (blk_lt (g:=gb471) (o:=.cells #[.int .i64 a0_0,.int .i64 a0_1,.int .i64 a0_2,.string a0_3,.string a0_4,.slice A0_5 l0_5.length c0_5,.bool a0_6] 24 (0,0)) (kq_ BK471.out)):gb471≠gb472));have n6_:=A_ ((by rw [hg];exact Nat.ne_of_gt (blk_lt (g:=gb471) (o:=.cells #[.int .i64 a0_0,.int .i64 a0_1,.int .i64 a0_2,.string a0_3,.string a0_4,.slice A0_5 l0_5.length c0_5,.bool a0_6] 24 (0,0)) (kq_ BK471.out)):gb472≠gb471));clear BK471;clear HB;have BK471:=n0_;have HB:=n1_;have BK472:=n2_;have GW472:=n3_;have GE472:=n4_;have NB471_472:=n5_;have NB472_471:=n6_;clear n0_ n1_ n2_ n3_ n4_ n5_ n6_;clear hb hbox hg;have hnb50:=NB471_472.out;have hnc50:=NB472_471.out;obtain ⟨_,_,_,_,_,_,_,_,_,_,_,_,_,_⟩:=g7_ BK471.out;obtain ⟨_,_,_,_,_,_,_,_,_,_,_,_,_,_⟩:=g7_ BK472.out))
   go_ret
   exact ⟨by first|rfl|(simp [errW_none,errW_some] <;> rfl)|(simp [*,errW_none,errW_some] <;> rfl),bq2_ HB.out GE471.out GE472.out⟩
 ·rw [if_neg c3] at H
  have c3b0:(a0_0 == a1_0)=false:=beq_eq_false_iff_ne.mpr c3
  have c3b1:(a0_0 != a1_0)=true:=bne_iff_ne.mpr c3
  obtain rfl:=oi_ H
  go_enter Tryz.func7,Tryz.ntmps7
  go_wp2_with (first|((with_reducible refine gate_dst (N:=2) rfl ?_);refine box_event ?hg (N:=2) ?hd (cs:=#[.int .i64 a0_0,.int .i64 a0_1,.int .i64 a0_2,.string a0_3,.string a0_4,.slice A0_5 l0_5.length c0_5,.bool a0_6]) (t:=24) ?hr ?_;(case hd=>rfl);(case hg=>rfl);(case hr=>first|(go_simp;done)|(go_simp;rfl));intro gb471 hg w53 hbox hb;have n0_:=A_ (bp_ (bq0_ HB.out) hb);have n1_:=A_ (hbox);have n2_:=A_ ((by rw [hg];exact (bz_ (bq0_ HB.out)):w.heap.size≤gb471));have n3_:=A_ ((by rw [hg];exact (bz_ (bq0_ HB.out)):w.heap.size≤gb471));clear HB;have HB:=n0_;have BK471:=n1_;have GW471:=n2_;have GE471:=n3_;clear n0_ n1_ n2_ n3_;clear hb hbox hg)|((with_reducible refine gate_dst (N:=3) rfl ?_);refine box_event ?hg (N:=3) ?hd (cs:=#[.int .i64 a1_0,.int .i64 a1_1,.int .i64 a1_2,.string a1_3,.string a1_4,.slice A1_5 l1_5.length c1_5,.bool a1_6]) (t:=24) ?hr ?_;(case hd=>rfl);(case hg=>rfl);(case hr=>first|(go_simp;done)|(go_simp;rfl));intro gb472 hg w54 hbox hb;have n0_:=A_ (kb_ (kq_ BK471.out) hb);have n1_:=A_ (bp_ (bq1_ HB.out GE471.out) hb);have n2_:=A_ (hbox);have n3_:=A_ ((by rw [hg];exact (bz_ (bq1_ HB.out GE471.out)):w.heap.size≤gb472));have n4_:=A_ ((by rw [hg];exact (bz_ (bq1_ HB.out GE471.out)):w.heap.size≤gb472));have n5_:=A_ ((by rw [hg];exact Nat.ne_of_lt (blk_lt (g:=gb471) (o:=.cells #[.int .i64 a0_0,.int .i64 a0_1,.int .i64 a0_2,.string a0_3,.string a0_4,.slice A0_5 l0_5.length c0_5,.bool a0_6] 24 (0,0)) (kq_ BK471.out)):gb471≠gb472));have n6_:=A_ ((by rw [hg];exact Nat.ne_of_gt (blk_lt (g:=gb471) (o:=.cells #[.int .i64 a0_0,.int .i64 a0_1,.int .i64 a0_2,.string a0_3,.string a0_4,.slice A0_5 l0_5.length c0_5,.bool a0_6] 24 (0,0)) (kq_ BK471.out)):gb472≠gb471));clear BK471;clear HB;have BK471:=n0_;have HB:=n1_;have BK472:=n2_;have GW472:=n3_;have GE472:=n4_;have NB471_472:=n5_;have NB472_471:=n6_;clear n0_ n1_ n2_ n3_ n4_ n5_ n6_;clear hb hbox hg;have hnb55:=NB471_472.out;have hnc55:=NB472_471.out;obtain ⟨_,_,_,_,_,_,_,_,_,_,_,_,_,_⟩:=g7_ BK471.out;obtain ⟨_,_,_,_,_,_,_,_,_,_,_,_,_,_⟩:=g7_ BK472.out))
  go_ret
  exact ⟨by first|rfl|(simp [errW_none,errW_some] <;> rfl)|(simp [*,errW_none,errW_some] <;> rfl),bq2_ HB.out GE471.out GE472.out⟩
end Go.Proofs.YtfkanlbmgbkniaaGreatDoor.PFnExactTokensOf
