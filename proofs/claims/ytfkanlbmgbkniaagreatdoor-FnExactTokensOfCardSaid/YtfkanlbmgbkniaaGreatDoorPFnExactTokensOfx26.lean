/- The machine side of a law, printed by a program. No conditions. -/
import Derived.Test.YtfkanlbmgbkniaaGreatDoorPFnExactTokensOfx0
import Derived.Test.YtfkanlbmgbkniaaGreatDoorPFnExactTokensOfx24
namespace Go.Proofs.YtfkanlbmgbkniaaGreatDoor.PFnExactTokensOf
open Go.RowKit Go.Proofs.YtfkanlbmgbkniaaGreatDoorW.PrintWords Go.Proofs.YtfkanlbmgbkniaaGreatDoorW.PrintLast Go.Proofs.YtfkanlbmgbkniaaGreatDoorW.PrintMore
attribute [local go_sem] max2_int min2_int max_two min_two max_three min_three max_four min_four
set_option linter.unusedVariables false
set_option linter.unusedSimpArgs false
def laws_heldAttrS.l0:Nat→List (S52)→Int→Int→Option (Int)
 | 0,_,_,_=>none
 | k+1,x0,x1,x5=>if x5<(x0.length:Int) then (if 0≤x5 then ((laws_markText.f k x1).bind fun t485=>(if ((rd_T52 x0 x5).f0).toList=t485.toList then ((laws_markText.f k (wrap64 (x1+1))).bind fun t487=>(if ((rd_T52 x0 x5).f1).toList=t487.toList then (laws_heldAttrS.l0 k x0 (wrap64 ((wrap64 (x1+1))+1)) (wrap64 (x5+1))) else (some (-1)))) else (some (-1)))) else (none)) else (some x1)
def laws_heldAttrS.f (k:Nat) (l0:List (S52)) (a1:Int):Option (Int):=laws_heldAttrS.l0 k l0 a1 0
theorem laws_heldAttrS.mono_l:∀ k,(∀ y0 y1 y2,LeO (laws_heldAttrS.l0 k y0 y1 y2) (laws_heldAttrS.l0 (k+1) y0 y1 y2))
 | 0=>fun _ _ _ r h=>by simp [laws_heldAttrS.l0] at h
 | k+1=>by
  have ih0:=laws_heldAttrS.mono_l k
  ·intro y0 y1 y2
   unfold laws_heldAttrS.l0
   repeat' first|(with_reducible first|exact ih0 ..|exact laws_markText.mono ..|exact LeO.refl _|exact LeO.none _|refine LeO.ite ?_ ?_|refine LeO.bind ?_ (fun _=>?_))|exact ih0 ..|exact LeO.none _|refine LeO.ite ?_ ?_|refine LeO.bind ?_ (fun _=>?_)
theorem laws_heldAttrS.mono:∀ a0 a1 k,LeO (laws_heldAttrS.f k a0 a1) (laws_heldAttrS.f (k+1) a0 a1):=by
 intro a0 a1 k
 have ih0:=laws_heldAttrS.mono_l k
 unfold laws_heldAttrS.f
 repeat' first|(with_reducible first|exact ih0 ..|exact laws_markText.mono ..|exact LeO.refl _|exact LeO.none _|refine LeO.ite ?_ ?_|refine LeO.bind ?_ (fun _=>?_))|exact ih0 ..|exact LeO.none _|refine LeO.ite ?_ ?_|refine LeO.bind ?_ (fun _=>?_)
def laws_heldAttrS.T4:Bool × List (List Nat × List Nat):=(true,[([],[]),([],[]),([0,1],[0,1]),([2],[2]),([3],[3]),([],[]),([5],[5]),([4,6],[4,6])])
def laws_heldAttrS.B4:List Nat:=[0,0,3,7,15,0,32,127]
theorem laws_heldAttrS.tab4:rtab .any (opsOf Tryz.f24 4)=laws_heldAttrS.T4:=by kernel_rfl
theorem laws_heldAttrS.bits4:waitsOk laws_heldAttrS.T4.2 laws_heldAttrS.B4=true:=by kernel_rfl
def laws_heldAttrS.T7:Bool × List (List Nat × List Nat):=(true,[([],[]),([],[]),([0,1],[0,1]),([2],[2]),([3],[3]),([],[]),([5],[5]),([4,6],[4,6])])
def laws_heldAttrS.B7:List Nat:=[0,0,3,7,15,0,32,127]
theorem laws_heldAttrS.tab7:rtab .any (opsOf Tryz.f24 7)=laws_heldAttrS.T7:=by kernel_rfl
theorem laws_heldAttrS.bits7:waitsOk laws_heldAttrS.T7.2 laws_heldAttrS.B7=true:=by kernel_rfl
set_option maxHeartbeats 8000000 in
set_option maxRecDepth 100000 in
theorem laws_heldAttrS.calls (k:Nat) (A0:Option Addr) (c0:Nat) (l0:List (S52)) (a1:Int) (r:Int) (w:World) (hr0:Kd.C k52 w A0 l0.length l0) (hc0:l0.length≤c0) (h:laws_heldAttrS.f k l0 a1=some r) :
 Calls Tryz.prog 24 #[.slice A0 l0.length c0,.int .i64 a1] w fun e w'=>e=.returned (.int .i64 r)∧Below w.heap.size w w':=by
 have HR0:=A_ hr0
 have HC0:=A_ hc0
 clear hr0 hc0
 have HB:=A_ (Below.refl w.heap.size w)
 have H:(laws_heldAttrS.l0 k l0 a1 0)=some r:=h
 clear h
 have H':=A_ H
 clear H
 go_enter Tryz.func24,Tryz.ntmps24
 go_wp2
 go_loopg [1,5] k (fun kq v1 v5 w'=>∃ (x1_1:Int) (x5_1:Int),v1=.int .i64 x1_1∧v5=.int .i64 x5_1∧Aside0 (laws_heldAttrS.l0 kq l0 x1_1 x5_1=some r)∧Aside0 (kq≤k)∧Aside0 (Below w.heap.size w w'))
 case atStart=>exact ⟨(a1),(0),rs_,rs_,H',⟨Nat.le_refl _⟩,⟨bq0_ HB.out⟩⟩
 case round =>
  clear H'
  try clear c2
  try clear p2
  obtain ⟨x1_1,x5_1,rfl,rfl,HA,HK1,HB⟩:=hrel
  cases gk with
  | zero=>exact absurd HA.out (by simp [laws_heldAttrS.l0])
  | succ k1 =>
   have H:=HA.out
   clear HA
   simp only [laws_heldAttrS.l0] at H
   by_cases c3:x5_1<(l0.length:Int)
   ·rw [if_pos c3] at H
    have c3b0:decide (x5_1<(l0.length:Int))=true:=dt_ c3
    clear c3
    by_cases c4:0≤x5_1
    ·rw [if_pos c4] at H
     have c4b0:decide (0≤x5_1)=true:=dt_ c4
     clear c4
     replace H:=ob_ H
     obtain ⟨t485,A50,H⟩:=H
     replace H:(if ((rd_T52 l0 x5_1).f0).toList=t485.toList then ((laws_markText.f k1 (wrap64 (x1_1+1))).bind fun t487=>(if ((rd_T52 l0 x5_1).f1).toList=t487.toList then (laws_heldAttrS.l0 k1 l0 (wrap64 ((wrap64 (x1_1+1))+1)) (wrap64 (x5_1+1))) else (some (-1)))) else (some (-1)))=some r:=H
     have A5:=A_ A50
     clear A50
     by_cases c6:((rd_T52 l0 x5_1).f0).toList=t485.toList
     ·rw [if_pos c6] at H
      have c6b0:(((rd_T52 l0 x5_1).f0).toList == t485.toList)=true:=beq_iff_eq.mpr c6
      have c6b1:(((rd_T52 l0 x5_1).f0).toList != t485.toList)=false:=bne_eq_false_iff_eq.mpr c6
      clear c6
      replace H:=ob_ H
      obtain ⟨t487,A70,H⟩:=H
      replace H:(if ((rd_T52 l0 x5_1).f1).toList=t487.toList then (laws_heldAttrS.l0 k1 l0 (wrap64 ((wrap64 (x1_1+1))+1)) (wrap64 (x5_1+1))) else (some (-1)))=some r:=H
      have A7:=A_ A70
      clear A70
      by_cases c8:((rd_T52 l0 x5_1).f1).toList=t487.toList
      ·rw [if_pos c8] at H
       have c8b0:(((rd_T52 l0 x5_1).f1).toList == t487.toList)=true:=beq_iff_eq.mpr c8
       have c8b1:(((rd_T52 l0 x5_1).f1).toList != t487.toList)=false:=bne_eq_false_iff_eq.mpr c8
       clear c8
       have H':=A_ H
       clear H
       try go_wp2
       have n0_:=A_ (b1_ HB.out)
       clear HB
       have HB:=n0_
       clear n0_
       have p484:0≤(x5_1:Int):=oa_
       have q484:x5_1<(l0.length:Int):=oa_
       obtain ⟨ad484,e484,hx484_0,hx484_1⟩:=at_T52 HR0.out x5_1 p484 q484
       have hw484_1:=hx484_1
       have hw484_0:=hx484_0
       cases e484
       replace hx484_0:=ph_ HB.out hx484_0
       replace hx484_1:=ph_ HB.out hx484_1
       replace p484:=eq_true p484
       replace q484:=eq_true q484
       refine start_ (n:=8) (S:=fun w'=>w'.cell? (ad484.add ((x5_1).toNat * 2))=some (.string ((rd_T52 l0 x5_1).f0))∧w'.cell? ⟨(ad484.add ((x5_1).toNat * 2)).block,(ad484.add ((x5_1).toNat * 2)).off+1,none⟩=some (.string ((rd_T52 l0 x5_1).f1))) (ds:=[]) #[F_,F_,F_,F_,F_,F_,F_,F_] (by kernel_rfl) rfl rfl ⟨(ph_ HB.out hw484_0),(ph_ HB.out hw484_1)⟩ (fun hHeld=>?_);refine with_tabW laws_heldAttrS.tab4 laws_heldAttrS.bits4 (fun HT_ HW_=>?_)
       generalize wr.drew=w9 at HB hx484_0 hx484_1 hHeld ⊢
       refine pure_ (i:=0) (N:=some 12) (v:=?_) (a':=?_) #[T_,F_,F_,F_,F_,F_,F_,F_] rfl rfl (any_of HT_.out (by kernel_rfl)) (fun _ _ _ h=>h) (Or.inl ⟨by rfl,?_⟩) ?_ ?_
       rotate_left
       ·intro w'
        go_simp
        with_reducible rfl
       rotate_left
       ·simp only [Act.put,ls_,lz_,lc_,i64_w,i32_w]
        rfl
       refine pure_ (i:=1) (N:=some 13) (v:=?_) (a':=?_) #[T_,T_,F_,F_,F_,F_,F_,F_] rfl rfl (any_of HT_.out (by kernel_rfl)) (fun _ _ _ h=>h) (Or.inl ⟨by rfl,?_⟩) ?_ ?_
       rotate_left
       ·intro w'
        go_simp
        with_reducible rfl
       rotate_left
       ·simp only [Act.put,ls_,lz_,lc_,i64_w,i32_w]
        rfl
       refine pure_ (i:=2) (N:=some 14) (v:=?_) (a':=?_) #[T_,T_,T_,F_,F_,F_,F_,F_] rfl rfl (any_of HT_.out (by kernel_rfl)) (fun _ _ _ h=>h) (Or.inl ⟨by rfl,?_⟩) ?_ ?_
       rotate_left
       ·intro w'
        go_simp
        with_reducible rfl
       rotate_left
       ·simp only [Act.put,ls_,lz_,lc_,i64_w,i32_w]
        rfl
       refine pure_ (i:=3) (N:=some 15) (v:=?_) (a':=?_) #[T_,T_,T_,T_,F_,F_,F_,F_] rfl rfl (any_of HT_.out (by kernel_rfl)) (fun _ _ _ h=>h) (Or.inl ⟨by rfl,?_⟩) ?_ ?_
       rotate_left
       ·intro w'
        go_simp
        with_reducible rfl
       rotate_left
       ·simp only [Act.put,ls_,lz_,lc_,i64_w,i32_w]
        rfl
       refine pure_ (i:=5) (N:=some 17) (v:=?_) (a':=?_) #[T_,T_,T_,T_,F_,T_,F_,F_] rfl rfl (any_of HT_.out (by kernel_rfl)) (fun _ _ _ h=>h) (Or.inl ⟨by rfl,?_⟩) ?_ ?_
       rotate_left
       ·intro w'
        go_simp
        with_reducible rfl
       rotate_left
       ·simp only [Act.put,ls_,lz_,lc_,i64_w,i32_w]
        rfl
       refine take_ (i:=4) (N:=some 16) (v:=?_) (a':=?_) #[T_,T_,T_,T_,T_,T_,F_,F_] rfl rfl (take_ofW HT_.out HW_.out (by kernel_rfl)) (fun _ _ _ h=>h) (Or.inl ⟨by rfl,?_⟩) hHeld ?_ ?_
       rotate_left
       ·rintro w' ⟨s0,s1⟩
        go_simp
        with_reducible rfl
       rotate_left
       ·simp only [Act.put,ls_,lz_,lc_,i64_w,i32_w]
        rfl
       refine one_ (i:=6) (N:=some 18) #[T_,T_,T_,T_,T_,T_,T_,F_] rfl rfl (one_of HT_.out (by kernel_rfl)) (by decide) (fun K hK=>?_)
       refine goes_ Tryz.func27 (by kernel_rfl) rfl #[.int .i64 x1_1] (by rfl) rfl rfl (by (try simp only [List.map_toArray,List.map_cons,List.map_nil]);first|done|rfl|(simp only [ld_,lt_];rfl)) ?_
       with_reducible refine (laws_markText.calls k1 x1_1 t485 _ A5.out).mono ?_
       rintro e w10 ⟨rfl,hb⟩
       refine ⟨_,rfl,?_⟩
       have n0_:=A_ (bp_ (bq0_ HB.out) hb)
       clear HB
       have HB:=n0_
       clear n0_
       (try clear hb)
       (try clear hb2)
       (try clear hk)
       (try clear hi)
       refine hK.out _ _ ⟨(ph_ HB.out hw484_0),(ph_ HB.out hw484_1)⟩ (fun hHeld=>?_)
       clear hK K
       refine norm_ (a':=?_) ?_ ?_
       rotate_left
       ·show Act.put _ (some 18) _=_
        simp only [Act.put,ls_,lz_,lc_,i64_w,i32_w]
        rfl
       refine pure_ (i:=7) (N:=some 19) (v:=?_) (a':=?_) #[T_,T_,T_,T_,T_,T_,T_,T_] rfl rfl (any_of HT_.out (by kernel_rfl)) (fun _ _ _ h=>h) (Or.inl ⟨by rfl,?_⟩) ?_ ?_
       rotate_left
       ·intro w'
        go_simp
        with_reducible rfl
       rotate_left
       ·simp only [Act.put,ls_,lz_,lc_,i64_w,i32_w]
        rfl
       refine done_ (done_of HT_.out (by kernel_rfl)) ?_
       try go_wp2
       have n0_:=A_ (b1_ HB.out)
       clear HB
       have HB:=n0_
       clear n0_
       have p486:0≤(x5_1:Int):=oa_
       have q486:x5_1<(l0.length:Int):=oa_
       obtain ⟨ad486,e486,hx486_0,hx486_1⟩:=at_T52 HR0.out x5_1 p486 q486
       have hw486_1:=hx486_1
       have hw486_0:=hx486_0
       obtain rfl:ad484=ad486:=(by injection e486)
       replace hx486_0:=ph_ HB.out hx486_0
       replace hx486_1:=ph_ HB.out hx486_1
       replace p486:=eq_true p486
       replace q486:=eq_true q486
       refine start_ (n:=8) (S:=fun w'=>w'.cell? (ad484.add ((x5_1).toNat * 2))=some (.string ((rd_T52 l0 x5_1).f0))∧w'.cell? ⟨(ad484.add ((x5_1).toNat * 2)).block,(ad484.add ((x5_1).toNat * 2)).off+1,none⟩=some (.string ((rd_T52 l0 x5_1).f1))) (ds:=[]) #[F_,F_,F_,F_,F_,F_,F_,F_] (by kernel_rfl) rfl rfl ⟨(ph_ HB.out hw486_0),(ph_ HB.out hw486_1)⟩ (fun hHeld=>?_);refine with_tabW laws_heldAttrS.tab7 laws_heldAttrS.bits7 (fun HT_ HW_=>?_)
       generalize w10.drew=w11 at HB hx486_0 hx486_1 hHeld ⊢
       refine pure_ (i:=0) (N:=some 22) (v:=?_) (a':=?_) #[T_,F_,F_,F_,F_,F_,F_,F_] rfl rfl (any_of HT_.out (by kernel_rfl)) (fun _ _ _ h=>h) (Or.inl ⟨by rfl,?_⟩) ?_ ?_
       rotate_left
       ·intro w'
        go_simp
        with_reducible rfl
       rotate_left
       ·simp only [Act.put,ls_,lz_,lc_,i64_w,i32_w]
        rfl
       refine pure_ (i:=1) (N:=some 23) (v:=?_) (a':=?_) #[T_,T_,F_,F_,F_,F_,F_,F_] rfl rfl (any_of HT_.out (by kernel_rfl)) (fun _ _ _ h=>h) (Or.inl ⟨by rfl,?_⟩) ?_ ?_
       rotate_left
       ·intro w'
        go_simp
        with_reducible rfl
       rotate_left
       ·simp only [Act.put,ls_,lz_,lc_,i64_w,i32_w]
        rfl
       refine pure_ (i:=2) (N:=some 24) (v:=?_) (a':=?_) #[T_,T_,T_,F_,F_,F_,F_,F_] rfl rfl (any_of HT_.out (by kernel_rfl)) (fun _ _ _ h=>h) (Or.inl ⟨by rfl,?_⟩) ?_ ?_
       rotate_left
       ·intro w'
        go_simp
        with_reducible rfl
       rotate_left
       ·simp only [Act.put,ls_,lz_,lc_,i64_w,i32_w]
        rfl
       refine pure_ (i:=3) (N:=some 25) (v:=?_) (a':=?_) #[T_,T_,T_,T_,F_,F_,F_,F_] rfl rfl (any_of HT_.out (by kernel_rfl)) (fun _ _ _ h=>h) (Or.inl ⟨by rfl,?_⟩) ?_ ?_
       rotate_left
       ·intro w'
        go_simp
        with_reducible rfl
       rotate_left
       ·simp only [Act.put,ls_,lz_,lc_,i64_w,i32_w]
        rfl
       refine pure_ (i:=5) (N:=some 27) (v:=?_) (a':=?_) #[T_,T_,T_,T_,F_,T_,F_,F_] rfl rfl (any_of HT_.out (by kernel_rfl)) (fun _ _ _ h=>h) (Or.inl ⟨by rfl,?_⟩) ?_ ?_
       rotate_left
       ·intro w'
        go_simp
        with_reducible rfl
       rotate_left
       ·simp only [Act.put,ls_,lz_,lc_,i64_w,i32_w]
        rfl
       refine take_ (i:=4) (N:=some 26) (v:=?_) (a':=?_) #[T_,T_,T_,T_,T_,T_,F_,F_] rfl rfl (take_ofW HT_.out HW_.out (by kernel_rfl)) (fun _ _ _ h=>h) (Or.inl ⟨by rfl,?_⟩) hHeld ?_ ?_
       rotate_left
       ·rintro w' ⟨s0,s1⟩
        go_simp
        with_reducible rfl
       rotate_left
       ·simp only [Act.put,ls_,lz_,lc_,i64_w,i32_w]
        rfl
       refine one_ (i:=6) (N:=some 28) #[T_,T_,T_,T_,T_,T_,T_,F_] rfl rfl (one_of HT_.out (by kernel_rfl)) (by decide) (fun K hK=>?_)
       refine goes_ Tryz.func27 (by kernel_rfl) rfl #[.int .i64 (wrap64 (x1_1+1))] (by rfl) rfl rfl (by (try simp only [List.map_toArray,List.map_cons,List.map_nil]);first|done|rfl|(simp only [ld_,lt_];rfl)) ?_
       with_reducible refine (laws_markText.calls k1 (wrap64 (x1_1+1)) t487 _ A7.out).mono ?_
       rintro e w12 ⟨rfl,hb⟩
       refine ⟨_,rfl,?_⟩
       have n0_:=A_ (bp_ (bq0_ HB.out) hb)
       clear HB
       have HB:=n0_
       clear n0_
       (try clear hb)
       (try clear hb2)
       (try clear hk)
       (try clear hi)
       refine hK.out _ _ ⟨(ph_ HB.out hw486_0),(ph_ HB.out hw486_1)⟩ (fun hHeld=>?_)
       clear hK K
       refine norm_ (a':=?_) ?_ ?_
       rotate_left
       ·show Act.put _ (some 28) _=_
        simp only [Act.put,ls_,lz_,lc_,i64_w,i32_w]
        rfl
       refine pure_ (i:=7) (N:=some 29) (v:=?_) (a':=?_) #[T_,T_,T_,T_,T_,T_,T_,T_] rfl rfl (any_of HT_.out (by kernel_rfl)) (fun _ _ _ h=>h) (Or.inl ⟨by rfl,?_⟩) ?_ ?_
       rotate_left
       ·intro w'
        go_simp
        with_reducible rfl
       rotate_left
       ·simp only [Act.put,ls_,lz_,lc_,i64_w,i32_w]
        rfl
       refine done_ (done_of HT_.out (by kernel_rfl)) ?_
       try go_wp2
       go_roundg k1
       case measure=>have:=HK1.out;omega
       case rel=>exact ⟨(wrap64 ((wrap64 (x1_1+1))+1)),(wrap64 (x5_1+1)),rs_,rs_,H',⟨by have:=HK1.out;omega⟩,⟨bq0_ HB.out⟩⟩
      ·rw [if_neg c8] at H
       have c8b0:(((rd_T52 l0 x5_1).f1).toList == t487.toList)=false:=beq_eq_false_iff_ne.mpr c8
       have c8b1:(((rd_T52 l0 x5_1).f1).toList != t487.toList)=true:=bne_iff_ne.mpr c8
       obtain rfl:=oi_ H
       try go_wp2
       have n0_:=A_ (b1_ HB.out)
       clear HB
       have HB:=n0_
       clear n0_
       have p484:0≤(x5_1:Int):=oa_
       have q484:x5_1<(l0.length:Int):=oa_
       obtain ⟨ad484,e484,hx484_0,hx484_1⟩:=at_T52 HR0.out x5_1 p484 q484
       have hw484_1:=hx484_1
       have hw484_0:=hx484_0
       cases e484
       replace hx484_0:=ph_ HB.out hx484_0
       replace hx484_1:=ph_ HB.out hx484_1
       replace p484:=eq_true p484
       replace q484:=eq_true q484
       refine start_ (n:=8) (S:=fun w'=>w'.cell? (ad484.add ((x5_1).toNat * 2))=some (.string ((rd_T52 l0 x5_1).f0))∧w'.cell? ⟨(ad484.add ((x5_1).toNat * 2)).block,(ad484.add ((x5_1).toNat * 2)).off+1,none⟩=some (.string ((rd_T52 l0 x5_1).f1))) (ds:=[]) #[F_,F_,F_,F_,F_,F_,F_,F_] (by kernel_rfl) rfl rfl ⟨(ph_ HB.out hw484_0),(ph_ HB.out hw484_1)⟩ (fun hHeld=>?_);refine with_tabW laws_heldAttrS.tab4 laws_heldAttrS.bits4 (fun HT_ HW_=>?_)
       generalize wr.drew=w13 at HB hx484_0 hx484_1 hHeld ⊢
       refine pure_ (i:=0) (N:=some 12) (v:=?_) (a':=?_) #[T_,F_,F_,F_,F_,F_,F_,F_] rfl rfl (any_of HT_.out (by kernel_rfl)) (fun _ _ _ h=>h) (Or.inl ⟨by rfl,?_⟩) ?_ ?_
       rotate_left
       ·intro w'
        go_simp
        with_reducible rfl
       rotate_left
       ·simp only [Act.put,ls_,lz_,lc_,i64_w,i32_w]
        rfl
       refine pure_ (i:=1) (N:=some 13) (v:=?_) (a':=?_) #[T_,T_,F_,F_,F_,F_,F_,F_] rfl rfl (any_of HT_.out (by kernel_rfl)) (fun _ _ _ h=>h) (Or.inl ⟨by rfl,?_⟩) ?_ ?_
       rotate_left
       ·intro w'
        go_simp
        with_reducible rfl
       rotate_left
       ·simp only [Act.put,ls_,lz_,lc_,i64_w,i32_w]
        rfl
       refine pure_ (i:=2) (N:=some 14) (v:=?_) (a':=?_) #[T_,T_,T_,F_,F_,F_,F_,F_] rfl rfl (any_of HT_.out (by kernel_rfl)) (fun _ _ _ h=>h) (Or.inl ⟨by rfl,?_⟩) ?_ ?_
       rotate_left
       ·intro w'
        go_simp
        with_reducible rfl
       rotate_left
       ·simp only [Act.put,ls_,lz_,lc_,i64_w,i32_w]
        rfl
       refine pure_ (i:=3) (N:=some 15) (v:=?_) (a':=?_) #[T_,T_,T_,T_,F_,F_,F_,F_] rfl rfl (any_of HT_.out (by kernel_rfl)) (fun _ _ _ h=>h) (Or.inl ⟨by rfl,?_⟩) ?_ ?_
       rotate_left
       ·intro w'
        go_simp
        with_reducible rfl
       rotate_left
       ·simp only [Act.put,ls_,lz_,lc_,i64_w,i32_w]
        rfl
       refine pure_ (i:=5) (N:=some 17) (v:=?_) (a':=?_) #[T_,T_,T_,T_,F_,T_,F_,F_] rfl rfl (any_of HT_.out (by kernel_rfl)) (fun _ _ _ h=>h) (Or.inl ⟨by rfl,?_⟩) ?_ ?_
       rotate_left
       ·intro w'
        go_simp
        with_reducible rfl
       rotate_left
       ·simp only [Act.put,ls_,lz_,lc_,i64_w,i32_w]
        rfl
       refine take_ (i:=4) (N:=some 16) (v:=?_) (a':=?_) #[T_,T_,T_,T_,T_,T_,F_,F_] rfl rfl (take_ofW HT_.out HW_.out (by kernel_rfl)) (fun _ _ _ h=>h) (Or.inl ⟨by rfl,?_⟩) hHeld ?_ ?_
       rotate_left
       ·rintro w' ⟨s0,s1⟩
        go_simp
        with_reducible rfl
       rotate_left
       ·simp only [Act.put,ls_,lz_,lc_,i64_w,i32_w]
        rfl
       refine one_ (i:=6) (N:=some 18) #[T_,T_,T_,T_,T_,T_,T_,F_] rfl rfl (one_of HT_.out (by kernel_rfl)) (by decide) (fun K hK=>?_)
       refine goes_ Tryz.func27 (by kernel_rfl) rfl #[.int .i64 x1_1] (by rfl) rfl rfl (by (try simp only [List.map_toArray,List.map_cons,List.map_nil]);first|done|rfl|(simp only [ld_,lt_];rfl)) ?_
       with_reducible refine (laws_markText.calls k1 x1_1 t485 _ A5.out).mono ?_
       rintro e w14 ⟨rfl,hb⟩
       refine ⟨_,rfl,?_⟩
       have n0_:=A_ (bp_ (bq0_ HB.out) hb)
       clear HB
       have HB:=n0_
       clear n0_
       (try clear hb)
       (try clear hb2)
       (try clear hk)
       (try clear hi)
       refine hK.out _ _ ⟨(ph_ HB.out hw484_0),(ph_ HB.out hw484_1)⟩ (fun hHeld=>?_)
       clear hK K
       refine norm_ (a':=?_) ?_ ?_
       rotate_left
       ·show Act.put _ (some 18) _=_
        simp only [Act.put,ls_,lz_,lc_,i64_w,i32_w]
        rfl
       refine pure_ (i:=7) (N:=some 19) (v:=?_) (a':=?_) #[T_,T_,T_,T_,T_,T_,T_,T_] rfl rfl (any_of HT_.out (by kernel_rfl)) (fun _ _ _ h=>h) (Or.inl ⟨by rfl,?_⟩) ?_ ?_
       rotate_left
       ·intro w'
        go_simp
        with_reducible rfl
       rotate_left
       ·simp only [Act.put,ls_,lz_,lc_,i64_w,i32_w]
        rfl
       refine done_ (done_of HT_.out (by kernel_rfl)) ?_
       try go_wp2
       have n0_:=A_ (b1_ HB.out)
       clear HB
       have HB:=n0_
       clear n0_
       have p486:0≤(x5_1:Int):=oa_
       have q486:x5_1<(l0.length:Int):=oa_
       obtain ⟨ad486,e486,hx486_0,hx486_1⟩:=at_T52 HR0.out x5_1 p486 q486
       have hw486_1:=hx486_1
       have hw486_0:=hx486_0
       obtain rfl:ad484=ad486:=(by injection e486)
       replace hx486_0:=ph_ HB.out hx486_0
       replace hx486_1:=ph_ HB.out hx486_1
       replace p486:=eq_true p486
       replace q486:=eq_true q486
       refine start_ (n:=8) (S:=fun w'=>w'.cell? (ad484.add ((x5_1).toNat * 2))=some (.string ((rd_T52 l0 x5_1).f0))∧w'.cell? ⟨(ad484.add ((x5_1).toNat * 2)).block,(ad484.add ((x5_1).toNat * 2)).off+1,none⟩=some (.string ((rd_T52 l0 x5_1).f1))) (ds:=[]) #[F_,F_,F_,F_,F_,F_,F_,F_] (by kernel_rfl) rfl rfl ⟨(ph_ HB.out hw486_0),(ph_ HB.out hw486_1)⟩ (fun hHeld=>?_);refine with_tabW laws_heldAttrS.tab7 laws_heldAttrS.bits7 (fun HT_ HW_=>?_)
       generalize w14.drew=w15 at HB hx486_0 hx486_1 hHeld ⊢
       refine pure_ (i:=0) (N:=some 22) (v:=?_) (a':=?_) #[T_,F_,F_,F_,F_,F_,F_,F_] rfl rfl (any_of HT_.out (by kernel_rfl)) (fun _ _ _ h=>h) (Or.inl ⟨by rfl,?_⟩) ?_ ?_
       rotate_left
       ·intro w'
        go_simp
        with_reducible rfl
       rotate_left
       ·simp only [Act.put,ls_,lz_,lc_,i64_w,i32_w]
        rfl
       refine pure_ (i:=1) (N:=some 23) (v:=?_) (a':=?_) #[T_,T_,F_,F_,F_,F_,F_,F_] rfl rfl (any_of HT_.out (by kernel_rfl)) (fun _ _ _ h=>h) (Or.inl ⟨by rfl,?_⟩) ?_ ?_
       rotate_left
       ·intro w'
        go_simp
        with_reducible rfl
       rotate_left
       ·simp only [Act.put,ls_,lz_,lc_,i64_w,i32_w]
        rfl
       refine pure_ (i:=2) (N:=some 24) (v:=?_) (a':=?_) #[T_,T_,T_,F_,F_,F_,F_,F_] rfl rfl (any_of HT_.out (by kernel_rfl)) (fun _ _ _ h=>h) (Or.inl ⟨by rfl,?_⟩) ?_ ?_
       rotate_left
       ·intro w'
        go_simp
        with_reducible rfl
       rotate_left
       ·simp only [Act.put,ls_,lz_,lc_,i64_w,i32_w]
        rfl
       refine pure_ (i:=3) (N:=some 25) (v:=?_) (a':=?_) #[T_,T_,T_,T_,F_,F_,F_,F_] rfl rfl (any_of HT_.out (by kernel_rfl)) (fun _ _ _ h=>h) (Or.inl ⟨by rfl,?_⟩) ?_ ?_
       rotate_left
       ·intro w'
        go_simp
        with_reducible rfl
       rotate_left
       ·simp only [Act.put,ls_,lz_,lc_,i64_w,i32_w]
        rfl
       refine pure_ (i:=5) (N:=some 27) (v:=?_) (a':=?_) #[T_,T_,T_,T_,F_,T_,F_,F_] rfl rfl (any_of HT_.out (by kernel_rfl)) (fun _ _ _ h=>h) (Or.inl ⟨by rfl,?_⟩) ?_ ?_
       rotate_left
       ·intro w'
        go_simp
        with_reducible rfl
       rotate_left
       ·simp only [Act.put,ls_,lz_,lc_,i64_w,i32_w]
        rfl
       refine take_ (i:=4) (N:=some 26) (v:=?_) (a':=?_) #[T_,T_,T_,T_,T_,T_,F_,F_] rfl rfl (take_ofW HT_.out HW_.out (by kernel_rfl)) (fun _ _ _ h=>h) (Or.inl ⟨by rfl,?_⟩) hHeld ?_ ?_
       rotate_left
       ·rintro w' ⟨s0,s1⟩
        go_simp
        with_reducible rfl
       rotate_left
       ·simp only [Act.put,ls_,lz_,lc_,i64_w,i32_w]
        rfl
       refine one_ (i:=6) (N:=some 28) #[T_,T_,T_,T_,T_,T_,T_,F_] rfl rfl (one_of HT_.out (by kernel_rfl)) (by decide) (fun K hK=>?_)
       refine goes_ Tryz.func27 (by kernel_rfl) rfl #[.int .i64 (wrap64 (x1_1+1))] (by rfl) rfl rfl (by (try simp only [List.map_toArray,List.map_cons,List.map_nil]);first|done|rfl|(simp only [ld_,lt_];rfl)) ?_
       with_reducible refine (laws_markText.calls k1 (wrap64 (x1_1+1)) t487 _ A7.out).mono ?_
       rintro e w16 ⟨rfl,hb⟩
       refine ⟨_,rfl,?_⟩
       have n0_:=A_ (bp_ (bq0_ HB.out) hb)
       clear HB
       have HB:=n0_
       clear n0_
       (try clear hb)
       (try clear hb2)
       (try clear hk)
       (try clear hi)
       refine hK.out _ _ ⟨(ph_ HB.out hw486_0),(ph_ HB.out hw486_1)⟩ (fun hHeld=>?_)
       clear hK K
       refine norm_ (a':=?_) ?_ ?_
       rotate_left
       ·show Act.put _ (some 28) _=_
        simp only [Act.put,ls_,lz_,lc_,i64_w,i32_w]
        rfl
       refine pure_ (i:=7) (N:=some 29) (v:=?_) (a':=?_) #[T_,T_,T_,T_,T_,T_,T_,T_] rfl rfl (any_of HT_.out (by kernel_rfl)) (fun _ _ _ h=>h) (Or.inl ⟨by rfl,?_⟩) ?_ ?_
       rotate_left
       ·intro w'
        go_simp
        with_reducible rfl
       rotate_left
       ·simp only [Act.put,ls_,lz_,lc_,i64_w,i32_w]
        rfl
       refine done_ (done_of HT_.out (by kernel_rfl)) ?_
       try go_wp2
       go_ret
       exact ⟨by first|rfl|(simp [errW_none,errW_some] <;> rfl)|(simp [*,errW_none,errW_some] <;> rfl),bq0_ HB.out⟩
     ·rw [if_neg c6] at H
      have c6b0:(((rd_T52 l0 x5_1).f0).toList == t485.toList)=false:=beq_eq_false_iff_ne.mpr c6
      have c6b1:(((rd_T52 l0 x5_1).f0).toList != t485.toList)=true:=bne_iff_ne.mpr c6
      obtain rfl:=oi_ H
      try go_wp2
      have n0_:=A_ (b1_ HB.out)
      clear HB
      have HB:=n0_
      clear n0_
      have p484:0≤(x5_1:Int):=oa_
      have q484:x5_1<(l0.length:Int):=oa_
      obtain ⟨ad484,e484,hx484_0,hx484_1⟩:=at_T52 HR0.out x5_1 p484 q484
      have hw484_1:=hx484_1
      have hw484_0:=hx484_0
      cases e484
      replace hx484_0:=ph_ HB.out hx484_0
      replace hx484_1:=ph_ HB.out hx484_1
      replace p484:=eq_true p484
      replace q484:=eq_true q484
      refine start_ (n:=8) (S:=fun w'=>w'.cell? (ad484.add ((x5_1).toNat * 2))=some (.string ((rd_T52 l0 x5_1).f0))∧w'.cell? ⟨(ad484.add ((x5_1).toNat * 2)).block,(ad484.add ((x5_1).toNat * 2)).off+1,none⟩=some (.string ((rd_T52 l0 x5_1).f1))) (ds:=[]) #[F_,F_,F_,F_,F_,F_,F_,F_] (by kernel_rfl) rfl rfl ⟨(ph_ HB.out hw484_0),(ph_ HB.out hw484_1)⟩ (fun hHeld=>?_);refine with_tabW laws_heldAttrS.tab4 laws_heldAttrS.bits4 (fun HT_ HW_=>?_)
      generalize wr.drew=w17 at HB hx484_0 hx484_1 hHeld ⊢
      refine pure_ (i:=0) (N:=some 12) (v:=?_) (a':=?_) #[T_,F_,F_,F_,F_,F_,F_,F_] rfl rfl (any_of HT_.out (by kernel_rfl)) (fun _ _ _ h=>h) (Or.inl ⟨by rfl,?_⟩) ?_ ?_
      rotate_left
      ·intro w'
       go_simp
       with_reducible rfl
      rotate_left
      ·simp only [Act.put,ls_,lz_,lc_,i64_w,i32_w]
       rfl
      refine pure_ (i:=1) (N:=some 13) (v:=?_) (a':=?_) #[T_,T_,F_,F_,F_,F_,F_,F_] rfl rfl (any_of HT_.out (by kernel_rfl)) (fun _ _ _ h=>h) (Or.inl ⟨by rfl,?_⟩) ?_ ?_
      rotate_left
      ·intro w'
       go_simp
       with_reducible rfl
      rotate_left
      ·simp only [Act.put,ls_,lz_,lc_,i64_w,i32_w]
       rfl
      refine pure_ (i:=2) (N:=some 14) (v:=?_) (a':=?_) #[T_,T_,T_,F_,F_,F_,F_,F_] rfl rfl (any_of HT_.out (by kernel_rfl)) (fun _ _ _ h=>h) (Or.inl ⟨by rfl,?_⟩) ?_ ?_
      rotate_left
      ·intro w'
       go_simp
       with_reducible rfl
      rotate_left
      ·simp only [Act.put,ls_,lz_,lc_,i64_w,i32_w]
       rfl
      refine pure_ (i:=3) (N:=some 15) (v:=?_) (a':=?_) #[T_,T_,T_,T_,F_,F_,F_,F_] rfl rfl (any_of HT_.out (by kernel_rfl)) (fun _ _ _ h=>h) (Or.inl ⟨by rfl,?_⟩) ?_ ?_
      rotate_left
      ·intro w'
       go_simp
       with_reducible rfl
      rotate_left
      ·simp only [Act.put,ls_,lz_,lc_,i64_w,i32_w]
       rfl
      refine pure_ (i:=5) (N:=some 17) (v:=?_) (a':=?_) #[T_,T_,T_,T_,F_,T_,F_,F_] rfl rfl (any_of HT_.out (by kernel_rfl)) (fun _ _ _ h=>h) (Or.inl ⟨by rfl,?_⟩) ?_ ?_
      rotate_left
      ·intro w'
       go_simp
       with_reducible rfl
      rotate_left
      ·simp only [Act.put,ls_,lz_,lc_,i64_w,i32_w]
       rfl
      refine take_ (i:=4) (N:=some 16) (v:=?_) (a':=?_) #[T_,T_,T_,T_,T_,T_,F_,F_] rfl rfl (take_ofW HT_.out HW_.out (by kernel_rfl)) (fun _ _ _ h=>h) (Or.inl ⟨by rfl,?_⟩) hHeld ?_ ?_
      rotate_left
      ·rintro w' ⟨s0,s1⟩
       go_simp
       with_reducible rfl
      rotate_left
      ·simp only [Act.put,ls_,lz_,lc_,i64_w,i32_w]
       rfl
      refine one_ (i:=6) (N:=some 18) #[T_,T_,T_,T_,T_,T_,T_,F_] rfl rfl (one_of HT_.out (by kernel_rfl)) (by decide) (fun K hK=>?_)
      refine goes_ Tryz.func27 (by kernel_rfl) rfl #[.int .i64 x1_1] (by rfl) rfl rfl (by (try simp only [List.map_toArray,List.map_cons,List.map_nil]);first|done|rfl|(simp only [ld_,lt_];rfl)) ?_
      with_reducible refine (laws_markText.calls k1 x1_1 t485 _ A5.out).mono ?_
      rintro e w18 ⟨rfl,hb⟩
      refine ⟨_,rfl,?_⟩
      have n0_:=A_ (bp_ (bq0_ HB.out) hb)
      clear HB
      have HB:=n0_
      clear n0_
      (try clear hb)
      (try clear hb2)
      (try clear hk)
      (try clear hi)
      refine hK.out _ _ ⟨(ph_ HB.out hw484_0),(ph_ HB.out hw484_1)⟩ (fun hHeld=>?_)
      clear hK K
      refine norm_ (a':=?_) ?_ ?_
      rotate_left
      ·show Act.put _ (some 18) _=_
       simp only [Act.put,ls_,lz_,lc_,i64_w,i32_w]
       rfl
      refine pure_ (i:=7) (N:=some 19) (v:=?_) (a':=?_) #[T_,T_,T_,T_,T_,T_,T_,T_] rfl rfl (any_of HT_.out (by kernel_rfl)) (fun _ _ _ h=>h) (Or.inl ⟨by rfl,?_⟩) ?_ ?_
      rotate_left
      ·intro w'
       go_simp
       with_reducible rfl
      rotate_left
      ·simp only [Act.put,ls_,lz_,lc_,i64_w,i32_w]
       rfl
      refine done_ (done_of HT_.out (by kernel_rfl)) ?_
      try go_wp2
      go_ret
      exact ⟨by first|rfl|(simp [errW_none,errW_some] <;> rfl)|(simp [*,errW_none,errW_some] <;> rfl),bq0_ HB.out⟩
    ·rw [if_neg c4] at H
     exact absurd H (by simp)
   ·rw [if_neg c3] at H
    have c3b0:decide (x5_1<(l0.length:Int))=false:=df_ c3
    clear c3
    obtain rfl:=oi_ H
    go_wp2
    go_ret
    exact ⟨by first|rfl|(simp [errW_none,errW_some] <;> rfl)|(simp [*,errW_none,errW_some] <;> rfl),bq0_ HB.out⟩
end Go.Proofs.YtfkanlbmgbkniaaGreatDoor.PFnExactTokensOf
