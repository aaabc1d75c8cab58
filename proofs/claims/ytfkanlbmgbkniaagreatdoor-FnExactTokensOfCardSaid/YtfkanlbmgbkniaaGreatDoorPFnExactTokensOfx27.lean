/- The machine side of a law, printed by a program. No conditions. -/
import Derived.Test.YtfkanlbmgbkniaaGreatDoorPFnExactTokensOfx0
import Derived.Test.YtfkanlbmgbkniaaGreatDoorPFnExactTokensOfx24
import Derived.Test.YtfkanlbmgbkniaaGreatDoorPFnExactTokensOfx26
namespace Go.Proofs.YtfkanlbmgbkniaaGreatDoor.PFnExactTokensOf
open Go.RowKit Go.Proofs.YtfkanlbmgbkniaaGreatDoorW.PrintWords Go.Proofs.YtfkanlbmgbkniaaGreatDoorW.PrintLast Go.Proofs.YtfkanlbmgbkniaaGreatDoorW.PrintMore
attribute [local go_sem] max2_int min2_int max_two min_two max_three min_three max_four min_four
set_option linter.unusedVariables false
set_option linter.unusedSimpArgs false
def laws_heldTokenS.l0:Nat→List (S24)→Int→Int→Option (Int)
 | 0,_,_,_=>none
 | k+1,x0,x1,x5=>if x5<(x0.length:Int) then (if 0≤x5 then (if ((rd_T24 x0 x5).f0)=x1 then (if ((rd_T24 x0 x5).f1)=(wrap64 (x1+1)) then (if ((rd_T24 x0 x5).f2)=(wrap64 ((wrap64 (x1+1))+1)) then ((laws_markText.f k (wrap64 ((wrap64 ((wrap64 (x1+1))+1))+1))).bind fun t492=>(if ((rd_T24 x0 x5).f3).toList=t492.toList then ((laws_markText.f k (wrap64 ((wrap64 ((wrap64 ((wrap64 (x1+1))+1))+1))+1))).bind fun t494=>(if ((rd_T24 x0 x5).f4).toList=t494.toList then ((laws_heldAttrS.f k ((rd_T24 x0 x5).f5) (wrap64 ((wrap64 ((wrap64 ((wrap64 ((wrap64 (x1+1))+1))+1))+1))+1))).bind fun t496=>(if t496<0 then (some (-1)) else (if (((rd_T24 x0 x5).f6) != ((Int.tmod t496 3) == 0))=true then (some (-1)) else (laws_heldTokenS.l0 k x0 (wrap64 (t496+1)) (wrap64 (x5+1)))))) else (some (-1)))) else (some (-1)))) else (some (-1))) else (some (-1))) else (some (-1))) else (none)) else (some x1)
def laws_heldTokenS.f (k:Nat) (l0:List (S24)) (a1:Int):Option (Int):=laws_heldTokenS.l0 k l0 a1 0
theorem laws_heldTokenS.mono_l:∀ k,(∀ y0 y1 y2,LeO (laws_heldTokenS.l0 k y0 y1 y2) (laws_heldTokenS.l0 (k+1) y0 y1 y2))
 | 0=>fun _ _ _ r h=>by simp [laws_heldTokenS.l0] at h
 | k+1=>by
  have ih0:=laws_heldTokenS.mono_l k
  ·intro y0 y1 y2
   unfold laws_heldTokenS.l0
   repeat' first|(with_reducible first|exact ih0 ..|exact laws_heldAttrS.mono ..|exact laws_markText.mono ..|exact LeO.refl _|exact LeO.none _|refine LeO.ite ?_ ?_|refine LeO.bind ?_ (fun _=>?_))|exact ih0 ..|exact LeO.none _|refine LeO.ite ?_ ?_|refine LeO.bind ?_ (fun _=>?_)
theorem laws_heldTokenS.mono:∀ a0 a1 k,LeO (laws_heldTokenS.f k a0 a1) (laws_heldTokenS.f (k+1) a0 a1):=by
 intro a0 a1 k
 have ih0:=laws_heldTokenS.mono_l k
 unfold laws_heldTokenS.f
 repeat' first|(with_reducible first|exact ih0 ..|exact laws_heldAttrS.mono ..|exact laws_markText.mono ..|exact LeO.refl _|exact LeO.none _|refine LeO.ite ?_ ?_|refine LeO.bind ?_ (fun _=>?_))|exact ih0 ..|exact LeO.none _|refine LeO.ite ?_ ?_|refine LeO.bind ?_ (fun _=>?_)
def laws_heldTokenS.T13:Bool × List (List Nat × List Nat):=(true,[([],[]),([],[]),([0,1],[0,1]),([2],[2]),([3],[3]),([],[]),([5],[5]),([4,6],[4,6])])
def laws_heldTokenS.B13:List Nat:=[0,0,3,7,15,0,32,127]
theorem laws_heldTokenS.tab13:rtab .any (opsOf Tryz.f14 13)=laws_heldTokenS.T13:=by kernel_rfl
theorem laws_heldTokenS.bits13:waitsOk laws_heldTokenS.T13.2 laws_heldTokenS.B13=true:=by kernel_rfl
def laws_heldTokenS.T16:Bool × List (List Nat × List Nat):=(true,[([],[]),([],[]),([0,1],[0,1]),([2],[2]),([3],[3]),([],[]),([5],[5]),([4,6],[4,6])])
def laws_heldTokenS.B16:List Nat:=[0,0,3,7,15,0,32,127]
theorem laws_heldTokenS.tab16:rtab .any (opsOf Tryz.f14 16)=laws_heldTokenS.T16:=by kernel_rfl
theorem laws_heldTokenS.bits16:waitsOk laws_heldTokenS.T16.2 laws_heldTokenS.B16=true:=by kernel_rfl
set_option maxHeartbeats 8000000 in
set_option maxRecDepth 100000 in
theorem laws_heldTokenS.calls (k:Nat) (A0:Option Addr) (c0:Nat) (l0:List (S24)) (a1:Int) (r:Int) (w:World) (hr0:Kd.C k24 w A0 l0.length l0) (hc0:l0.length≤c0) (h:laws_heldTokenS.f k l0 a1=some r) :
 Calls Tryz.prog 14 #[.slice A0 l0.length c0,.int .i64 a1] w fun e w'=>e=.returned (.int .i64 r)∧Below w.heap.size w w':=by
 have HR0:=A_ hr0
 have HC0:=A_ hc0
 clear hr0 hc0
 have HB:=A_ (Below.refl w.heap.size w)
 have H:(laws_heldTokenS.l0 k l0 a1 0)=some r:=h
 clear h
 have H':=A_ H
 clear H
 go_enter Tryz.func14,Tryz.ntmps14
 go_wp2
 go_loopg [1,5] k (fun kq v1 v5 w'=>∃ (x1_1:Int) (x5_1:Int),v1=.int .i64 x1_1∧v5=.int .i64 x5_1∧Aside0 (laws_heldTokenS.l0 kq l0 x1_1 x5_1=some r)∧Aside0 (kq≤k)∧Aside0 (Below w.heap.size w w'))
 case atStart=>exact ⟨(a1),(0),rs_,rs_,H',⟨Nat.le_refl _⟩,⟨bq0_ HB.out⟩⟩
 case round =>
  clear H'
  try clear c1
  try clear p2
  obtain ⟨x1_1,x5_1,rfl,rfl,HA,HK1,HB⟩:=hrel
  cases gk with
  | zero=>exact absurd HA.out (by simp [laws_heldTokenS.l0])
  | succ k1 =>
   have H:=HA.out
   clear HA
   simp only [laws_heldTokenS.l0] at H
   by_cases c3:x5_1<(l0.length:Int)
   ·rw [if_pos c3] at H
    have c3b0:decide (x5_1<(l0.length:Int))=true:=dt_ c3
    clear c3
    by_cases c4:0≤x5_1
    ·rw [if_pos c4] at H
     have c4b0:decide (0≤x5_1)=true:=dt_ c4
     clear c4
     by_cases c5:((rd_T24 l0 x5_1).f0)=x1_1
     ·rw [if_pos c5] at H
      have c5b0:(((rd_T24 l0 x5_1).f0) == x1_1)=true:=beq_iff_eq.mpr c5
      have c5b1:(((rd_T24 l0 x5_1).f0) != x1_1)=false:=bne_eq_false_iff_eq.mpr c5
      clear c5
      by_cases c6:((rd_T24 l0 x5_1).f1)=(wrap64 (x1_1+1))
      ·rw [if_pos c6] at H
       have c6b0:(((rd_T24 l0 x5_1).f1) == (wrap64 (x1_1+1)))=true:=beq_iff_eq.mpr c6
       have c6b1:(((rd_T24 l0 x5_1).f1) != (wrap64 (x1_1+1)))=false:=bne_eq_false_iff_eq.mpr c6
       clear c6
       by_cases c7:((rd_T24 l0 x5_1).f2)=(wrap64 ((wrap64 (x1_1+1))+1))
       ·rw [if_pos c7] at H
        have c7b0:(((rd_T24 l0 x5_1).f2) == (wrap64 ((wrap64 (x1_1+1))+1)))=true:=beq_iff_eq.mpr c7
        have c7b1:(((rd_T24 l0 x5_1).f2) != (wrap64 ((wrap64 (x1_1+1))+1)))=false:=bne_eq_false_iff_eq.mpr c7
        clear c7
        replace H:=ob_ H
        obtain ⟨t492,A80,H⟩:=H
        replace H:(if ((rd_T24 l0 x5_1).f3).toList=t492.toList then ((laws_markText.f k1 (wrap64 ((wrap64 ((wrap64 ((wrap64 (x1_1+1))+1))+1))+1))).bind fun t494=>(if ((rd_T24 l0 x5_1).f4).toList=t494.toList then ((laws_heldAttrS.f k1 ((rd_T24 l0 x5_1).f5) (wrap64 ((wrap64 ((wrap64 ((wrap64 ((wrap64 (x1_1+1))+1))+1))+1))+1))).bind fun t496=>(if t496<0 then (some (-1)) else (if (((rd_T24 l0 x5_1).f6) != ((Int.tmod t496 3) == 0))=true then (some (-1)) else (laws_heldTokenS.l0 k1 l0 (wrap64 (t496+1)) (wrap64 (x5_1+1)))))) else (some (-1)))) else (some (-1)))=some r:=H
        have A8:=A_ A80
        clear A80
        by_cases c9:((rd_T24 l0 x5_1).f3).toList=t492.toList
        ·rw [if_pos c9] at H
         have c9b0:(((rd_T24 l0 x5_1).f3).toList == t492.toList)=true:=beq_iff_eq.mpr c9
         have c9b1:(((rd_T24 l0 x5_1).f3).toList != t492.toList)=false:=bne_eq_false_iff_eq.mpr c9
         clear c9
         replace H:=ob_ H
         obtain ⟨t494,A100,H⟩:=H
         replace H:(if ((rd_T24 l0 x5_1).f4).toList=t494.toList then ((laws_heldAttrS.f k1 ((rd_T24 l0 x5_1).f5) (wrap64 ((wrap64 ((wrap64 ((wrap64 ((wrap64 (x1_1+1))+1))+1))+1))+1))).bind fun t496=>(if t496<0 then (some (-1)) else (if (((rd_T24 l0 x5_1).f6) != ((Int.tmod t496 3) == 0))=true then (some (-1)) else (laws_heldTokenS.l0 k1 l0 (wrap64 (t496+1)) (wrap64 (x5_1+1)))))) else (some (-1)))=some r:=H
         have A10:=A_ A100
         clear A100
         by_cases c11:((rd_T24 l0 x5_1).f4).toList=t494.toList
         ·rw [if_pos c11] at H
          have c11b0:(((rd_T24 l0 x5_1).f4).toList == t494.toList)=true:=beq_iff_eq.mpr c11
          have c11b1:(((rd_T24 l0 x5_1).f4).toList != t494.toList)=false:=bne_eq_false_iff_eq.mpr c11
          clear c11
          replace H:=ob_ H
          obtain ⟨t496,A120,H⟩:=H
          replace H:(if t496<0 then (some (-1)) else (if (((rd_T24 l0 x5_1).f6) != ((Int.tmod t496 3) == 0))=true then (some (-1)) else (laws_heldTokenS.l0 k1 l0 (wrap64 (t496+1)) (wrap64 (x5_1+1)))))=some r:=H
          have A12:=A_ A120
          clear A120
          by_cases c13:t496<0
          ·rw [if_pos c13] at H
           have c13b0:decide (t496<0)=true:=dt_ c13
           clear c13
           obtain rfl:=oi_ H
           have p488:0≤(x5_1:Int):=oa_
           have q488:x5_1<(l0.length:Int):=oa_
           obtain ⟨ad488,A488_5,c488_5,e488,hx488_0,hx488_1,hx488_2,hx488_3,hx488_4,hx488_5,hx488_6,hl488_5,hi488_5⟩:=at_T24 HR0.out x5_1 p488 q488
           cases e488
           replace hx488_0:=ph_ HB.out hx488_0
           replace hx488_1:=ph_ HB.out hx488_1
           replace hx488_2:=ph_ HB.out hx488_2
           replace hx488_3:=ph_ HB.out hx488_3
           replace hx488_4:=ph_ HB.out hx488_4
           replace hx488_5:=ph_ HB.out hx488_5
           replace hx488_6:=ph_ HB.out hx488_6
           have HR488_5:=A_ hi488_5
           have HC488_5:=A_ hl488_5
           clear hi488_5 hl488_5
           replace p488:=eq_true p488
           replace q488:=eq_true q488
           have p489:0≤(x5_1:Int):=oa_
           have q489:x5_1<(l0.length:Int):=oa_
           obtain ⟨ad489,A489_5,c489_5,e489,hx489_0,hx489_1,hx489_2,hx489_3,hx489_4,hx489_5,hx489_6,hl489_5,hi489_5⟩:=at_T24 HR0.out x5_1 p489 q489
           obtain rfl:ad488=ad489:=(by injection e489)
           try (have h_:=hx489_5.symm.trans hw487_5;injection h_ with h_;injection h_ with h1_ h3_ h2_;subst h1_;subst h2_)
           replace hx489_0:=ph_ HB.out hx489_0
           replace hx489_1:=ph_ HB.out hx489_1
           replace hx489_2:=ph_ HB.out hx489_2
           replace hx489_3:=ph_ HB.out hx489_3
           replace hx489_4:=ph_ HB.out hx489_4
           replace hx489_5:=ph_ HB.out hx489_5
           replace hx489_6:=ph_ HB.out hx489_6
           have HR489_5:=A_ hi489_5
           have HC489_5:=A_ hl489_5
           clear hi489_5 hl489_5
           replace p489:=eq_true p489
           replace q489:=eq_true q489
           have ea_:=oi_ (hx488_5.symm.trans hx489_5)
           injection ea_ with ea_ en_ ec_
           subst ea_
           subst ec_
           clear en_
           have p490:0≤(x5_1:Int):=oa_
           have q490:x5_1<(l0.length:Int):=oa_
           obtain ⟨ad490,A490_5,c490_5,e490,hx490_0,hx490_1,hx490_2,hx490_3,hx490_4,hx490_5,hx490_6,hl490_5,hi490_5⟩:=at_T24 HR0.out x5_1 p490 q490
           obtain rfl:ad488=ad490:=(by injection e490)
           try (have h_:=hx490_5.symm.trans hw488_5;injection h_ with h_;injection h_ with h1_ h3_ h2_;subst h1_;subst h2_)
           replace hx490_0:=ph_ HB.out hx490_0
           replace hx490_1:=ph_ HB.out hx490_1
           replace hx490_2:=ph_ HB.out hx490_2
           replace hx490_3:=ph_ HB.out hx490_3
           replace hx490_4:=ph_ HB.out hx490_4
           replace hx490_5:=ph_ HB.out hx490_5
           replace hx490_6:=ph_ HB.out hx490_6
           have HR490_5:=A_ hi490_5
           have HC490_5:=A_ hl490_5
           clear hi490_5 hl490_5
           replace p490:=eq_true p490
           replace q490:=eq_true q490
           have ea_:=oi_ (hx488_5.symm.trans hx490_5)
           injection ea_ with ea_ en_ ec_
           subst ea_
           subst ec_
           clear en_
           try go_wp2
           have n0_:=A_ (b1_ HB.out)
           clear HB
           have HB:=n0_
           clear n0_
           have p491:0≤(x5_1:Int):=oa_
           have q491:x5_1<(l0.length:Int):=oa_
           obtain ⟨ad491,A491_5,c491_5,e491,hx491_0,hx491_1,hx491_2,hx491_3,hx491_4,hx491_5,hx491_6,hl491_5,hi491_5⟩:=at_T24 HR0.out x5_1 p491 q491
           have hw491_6:=hx491_6
           have hw491_5:=hx491_5
           have hw491_4:=hx491_4
           have hw491_3:=hx491_3
           have hw491_2:=hx491_2
           have hw491_1:=hx491_1
           have hw491_0:=hx491_0
           obtain rfl:ad488=ad491:=(by injection e491)
           try (have h_:=hx491_5.symm.trans hw489_5;injection h_ with h_;injection h_ with h1_ h3_ h2_;subst h1_;subst h2_)
           replace hx491_0:=ph_ HB.out hx491_0
           replace hx491_1:=ph_ HB.out hx491_1
           replace hx491_2:=ph_ HB.out hx491_2
           replace hx491_3:=ph_ HB.out hx491_3
           replace hx491_4:=ph_ HB.out hx491_4
           replace hx491_5:=ph_ HB.out hx491_5
           replace hx491_6:=ph_ HB.out hx491_6
           have HR491_5:=A_ hi491_5
           have HC491_5:=A_ hl491_5
           clear hi491_5 hl491_5
           replace p491:=eq_true p491
           replace q491:=eq_true q491
           refine start_ (n:=8) (S:=fun w'=>w'.cell? (ad488.add ((x5_1).toNat * 7))=some (.int .i64 ((rd_T24 l0 x5_1).f0))∧w'.cell? ⟨(ad488.add ((x5_1).toNat * 7)).block,(ad488.add ((x5_1).toNat * 7)).off+1,none⟩=some (.int .i64 ((rd_T24 l0 x5_1).f1))∧w'.cell? ⟨(ad488.add ((x5_1).toNat * 7)).block,(ad488.add ((x5_1).toNat * 7)).off+2,none⟩=some (.int .i64 ((rd_T24 l0 x5_1).f2))∧w'.cell? ⟨(ad488.add ((x5_1).toNat * 7)).block,(ad488.add ((x5_1).toNat * 7)).off+3,none⟩=some (.string ((rd_T24 l0 x5_1).f3))∧w'.cell? ⟨(ad488.add ((x5_1).toNat * 7)).block,(ad488.add ((x5_1).toNat * 7)).off+4,none⟩=some (.string ((rd_T24 l0 x5_1).f4))∧w'.cell? ⟨(ad488.add ((x5_1).toNat * 7)).block,(ad488.add ((x5_1).toNat * 7)).off+5,none⟩=some (.slice A491_5 ((rd_T24 l0 x5_1).f5).length c491_5)∧w'.cell? ⟨(ad488.add ((x5_1).toNat * 7)).block,(ad488.add ((x5_1).toNat * 7)).off+6,none⟩=some (.bool ((rd_T24 l0 x5_1).f6))) (ds:=[]) #[F_,F_,F_,F_,F_,F_,F_,F_] (by kernel_rfl) rfl rfl ⟨(ph_ HB.out hw491_0),(ph_ HB.out hw491_1),(ph_ HB.out hw491_2),(ph_ HB.out hw491_3),(ph_ HB.out hw491_4),(ph_ HB.out hw491_5),(ph_ HB.out hw491_6)⟩ (fun hHeld=>?_);refine with_tabW laws_heldTokenS.tab13 laws_heldTokenS.bits13 (fun HT_ HW_=>?_)
           generalize wr.drew=w14 at HB HR491_5 hx491_0 hx491_1 hx491_2 hx491_3 hx491_4 hx491_5 hx491_6 hHeld ⊢
           refine pure_ (i:=0) (N:=some 39) (v:=?_) (a':=?_) #[T_,F_,F_,F_,F_,F_,F_,F_] rfl rfl (any_of HT_.out (by kernel_rfl)) (fun _ _ _ h=>h) (Or.inl ⟨by rfl,?_⟩) ?_ ?_
           rotate_left
           ·intro w'
            go_simp
            with_reducible rfl
           rotate_left
           ·simp only [Act.put,ls_,lz_,lc_,i64_w,i32_w]
            rfl
           refine pure_ (i:=1) (N:=some 40) (v:=?_) (a':=?_) #[T_,T_,F_,F_,F_,F_,F_,F_] rfl rfl (any_of HT_.out (by kernel_rfl)) (fun _ _ _ h=>h) (Or.inl ⟨by rfl,?_⟩) ?_ ?_
           rotate_left
           ·intro w'
            go_simp
            with_reducible rfl
           rotate_left
           ·simp only [Act.put,ls_,lz_,lc_,i64_w,i32_w]
            rfl
           refine pure_ (i:=2) (N:=some 41) (v:=?_) (a':=?_) #[T_,T_,T_,F_,F_,F_,F_,F_] rfl rfl (any_of HT_.out (by kernel_rfl)) (fun _ _ _ h=>h) (Or.inl ⟨by rfl,?_⟩) ?_ ?_
           rotate_left
           ·intro w'
            go_simp
            with_reducible rfl
           rotate_left
           ·simp only [Act.put,ls_,lz_,lc_,i64_w,i32_w]
            rfl
           refine pure_ (i:=3) (N:=some 42) (v:=?_) (a':=?_) #[T_,T_,T_,T_,F_,F_,F_,F_] rfl rfl (any_of HT_.out (by kernel_rfl)) (fun _ _ _ h=>h) (Or.inl ⟨by rfl,?_⟩) ?_ ?_
           rotate_left
           ·intro w'
            go_simp
            with_reducible rfl
           rotate_left
           ·simp only [Act.put,ls_,lz_,lc_,i64_w,i32_w]
            rfl
           refine pure_ (i:=5) (N:=some 44) (v:=?_) (a':=?_) #[T_,T_,T_,T_,F_,T_,F_,F_] rfl rfl (any_of HT_.out (by kernel_rfl)) (fun _ _ _ h=>h) (Or.inl ⟨by rfl,?_⟩) ?_ ?_
           rotate_left
           ·intro w'
            go_simp
            with_reducible rfl
           rotate_left
           ·simp only [Act.put,ls_,lz_,lc_,i64_w,i32_w]
            rfl
           refine take_ (i:=4) (N:=some 43) (v:=?_) (a':=?_) #[T_,T_,T_,T_,T_,T_,F_,F_] rfl rfl (take_ofW HT_.out HW_.out (by kernel_rfl)) (fun _ _ _ h=>h) (Or.inl ⟨by rfl,?_⟩) hHeld ?_ ?_
           rotate_left
           ·rintro w' ⟨s0,s1,s2,s3,s4,s5,s6⟩
            go_simp
            with_reducible rfl
           rotate_left
           ·simp only [Act.put,ls_,lz_,lc_,i64_w,i32_w]
            rfl
           refine one_ (i:=6) (N:=some 45) #[T_,T_,T_,T_,T_,T_,T_,F_] rfl rfl (one_of HT_.out (by kernel_rfl)) (by decide) (fun K hK=>?_)
           refine goes_ Tryz.func27 (by kernel_rfl) rfl #[.int .i64 (wrap64 ((wrap64 ((wrap64 (x1_1+1))+1))+1))] (by rfl) rfl rfl (by (try simp only [List.map_toArray,List.map_cons,List.map_nil]);first|done|rfl|(simp only [ld_,lt_];rfl)) ?_
           with_reducible refine (laws_markText.calls k1 (wrap64 ((wrap64 ((wrap64 (x1_1+1))+1))+1)) t492 _ A8.out).mono ?_
           rintro e w15 ⟨rfl,hb⟩
           refine ⟨_,rfl,?_⟩
           have n0_:=A_ (bp_ (bq0_ HB.out) hb)
           clear HB
           have HB:=n0_
           clear n0_
           (try clear hb)
           (try clear hb2)
           (try clear hk)
           (try clear hi)
           refine hK.out _ _ ⟨(ph_ HB.out hw491_0),(ph_ HB.out hw491_1),(ph_ HB.out hw491_2),(ph_ HB.out hw491_3),(ph_ HB.out hw491_4),(ph_ HB.out hw491_5),(ph_ HB.out hw491_6)⟩ (fun hHeld=>?_)
           clear hK K
           refine norm_ (a':=?_) ?_ ?_
           rotate_left
           ·show Act.put _ (some 45) _=_
            simp only [Act.put,ls_,lz_,lc_,i64_w,i32_w]
            rfl
           refine pure_ (i:=7) (N:=some 46) (v:=?_) (a':=?_) #[T_,T_,T_,T_,T_,T_,T_,T_] rfl rfl (any_of HT_.out (by kernel_rfl)) (fun _ _ _ h=>h) (Or.inl ⟨by rfl,?_⟩) ?_ ?_
           rotate_left
           ·intro w'
            go_simp
            with_reducible rfl
           rotate_left
           ·simp only [Act.put,ls_,lz_,lc_,i64_w,i32_w]
            rfl
           refine done_ (done_of HT_.out (by kernel_rfl)) ?_
           try go_wp2
           have n0_:=A_ (b1_ HB.out)
           clear HB
           have HB:=n0_
           clear n0_
           have p493:0≤(x5_1:Int):=oa_
           have q493:x5_1<(l0.length:Int):=oa_
           obtain ⟨ad493,A493_5,c493_5,e493,hx493_0,hx493_1,hx493_2,hx493_3,hx493_4,hx493_5,hx493_6,hl493_5,hi493_5⟩:=at_T24 HR0.out x5_1 p493 q493
           have hw493_6:=hx493_6
           have hw493_5:=hx493_5
           have hw493_4:=hx493_4
           have hw493_3:=hx493_3
           have hw493_2:=hx493_2
           have hw493_1:=hx493_1
           have hw493_0:=hx493_0
           obtain rfl:ad488=ad493:=(by injection e493)
           try (have h_:=hx493_5.symm.trans hw491_5;injection h_ with h_;injection h_ with h1_ h3_ h2_;subst h1_;subst h2_)
           replace hx493_0:=ph_ HB.out hx493_0
           replace hx493_1:=ph_ HB.out hx493_1
           replace hx493_2:=ph_ HB.out hx493_2
           replace hx493_3:=ph_ HB.out hx493_3
           replace hx493_4:=ph_ HB.out hx493_4
           replace hx493_5:=ph_ HB.out hx493_5
           replace hx493_6:=ph_ HB.out hx493_6
           have HR493_5:=A_ hi493_5
           have HC493_5:=A_ hl493_5
           clear hi493_5 hl493_5
           replace p493:=eq_true p493
           replace q493:=eq_true q493
           refine start_ (n:=8) (S:=fun w'=>w'.cell? (ad488.add ((x5_1).toNat * 7))=some (.int .i64 ((rd_T24 l0 x5_1).f0))∧w'.cell? ⟨(ad488.add ((x5_1).toNat * 7)).block,(ad488.add ((x5_1).toNat * 7)).off+1,none⟩=some (.int .i64 ((rd_T24 l0 x5_1).f1))∧w'.cell? ⟨(ad488.add ((x5_1).toNat * 7)).block,(ad488.add ((x5_1).toNat * 7)).off+2,none⟩=some (.int .i64 ((rd_T24 l0 x5_1).f2))∧w'.cell? ⟨(ad488.add ((x5_1).toNat * 7)).block,(ad488.add ((x5_1).toNat * 7)).off+3,none⟩=some (.string ((rd_T24 l0 x5_1).f3))∧w'.cell? ⟨(ad488.add ((x5_1).toNat * 7)).block,(ad488.add ((x5_1).toNat * 7)).off+4,none⟩=some (.string ((rd_T24 l0 x5_1).f4))∧w'.cell? ⟨(ad488.add ((x5_1).toNat * 7)).block,(ad488.add ((x5_1).toNat * 7)).off+5,none⟩=some (.slice A493_5 ((rd_T24 l0 x5_1).f5).length c493_5)∧w'.cell? ⟨(ad488.add ((x5_1).toNat * 7)).block,(ad488.add ((x5_1).toNat * 7)).off+6,none⟩=some (.bool ((rd_T24 l0 x5_1).f6))) (ds:=[]) #[F_,F_,F_,F_,F_,F_,F_,F_] (by kernel_rfl) rfl rfl ⟨(ph_ HB.out hw493_0),(ph_ HB.out hw493_1),(ph_ HB.out hw493_2),(ph_ HB.out hw493_3),(ph_ HB.out hw493_4),(ph_ HB.out hw493_5),(ph_ HB.out hw493_6)⟩ (fun hHeld=>?_);refine with_tabW laws_heldTokenS.tab16 laws_heldTokenS.bits16 (fun HT_ HW_=>?_)
           generalize w15.drew=w16 at HB HR493_5 hx493_0 hx493_1 hx493_2 hx493_3 hx493_4 hx493_5 hx493_6 hHeld ⊢
           refine pure_ (i:=0) (N:=some 49) (v:=?_) (a':=?_) #[T_,F_,F_,F_,F_,F_,F_,F_] rfl rfl (any_of HT_.out (by kernel_rfl)) (fun _ _ _ h=>h) (Or.inl ⟨by rfl,?_⟩) ?_ ?_
           rotate_left
           ·intro w'
            go_simp
            with_reducible rfl
           rotate_left
           ·simp only [Act.put,ls_,lz_,lc_,i64_w,i32_w]
            rfl
           refine pure_ (i:=1) (N:=some 50) (v:=?_) (a':=?_) #[T_,T_,F_,F_,F_,F_,F_,F_] rfl rfl (any_of HT_.out (by kernel_rfl)) (fun _ _ _ h=>h) (Or.inl ⟨by rfl,?_⟩) ?_ ?_
           rotate_left
           ·intro w'
            go_simp
            with_reducible rfl
           rotate_left
           ·simp only [Act.put,ls_,lz_,lc_,i64_w,i32_w]
            rfl
           refine pure_ (i:=2) (N:=some 51) (v:=?_) (a':=?_) #[T_,T_,T_,F_,F_,F_,F_,F_] rfl rfl (any_of HT_.out (by kernel_rfl)) (fun _ _ _ h=>h) (Or.inl ⟨by rfl,?_⟩) ?_ ?_
           rotate_left
           ·intro w'
            go_simp
            with_reducible rfl
           rotate_left
           ·simp only [Act.put,ls_,lz_,lc_,i64_w,i32_w]
            rfl
           refine pure_ (i:=3) (N:=some 52) (v:=?_) (a':=?_) #[T_,T_,T_,T_,F_,F_,F_,F_] rfl rfl (any_of HT_.out (by kernel_rfl)) (fun _ _ _ h=>h) (Or.inl ⟨by rfl,?_⟩) ?_ ?_
           rotate_left
           ·intro w'
            go_simp
            with_reducible rfl
           rotate_left
           ·simp only [Act.put,ls_,lz_,lc_,i64_w,i32_w]
            rfl
           refine pure_ (i:=5) (N:=some 54) (v:=?_) (a':=?_) #[T_,T_,T_,T_,F_,T_,F_,F_] rfl rfl (any_of HT_.out (by kernel_rfl)) (fun _ _ _ h=>h) (Or.inl ⟨by rfl,?_⟩) ?_ ?_
           rotate_left
           ·intro w'
            go_simp
            with_reducible rfl
           rotate_left
           ·simp only [Act.put,ls_,lz_,lc_,i64_w,i32_w]
            rfl
           refine take_ (i:=4) (N:=some 53) (v:=?_) (a':=?_) #[T_,T_,T_,T_,T_,T_,F_,F_] rfl rfl (take_ofW HT_.out HW_.out (by kernel_rfl)) (fun _ _ _ h=>h) (Or.inl ⟨by rfl,?_⟩) hHeld ?_ ?_
           rotate_left
           ·rintro w' ⟨s0,s1,s2,s3,s4,s5,s6⟩
            go_simp
            with_reducible rfl
           rotate_left
           ·simp only [Act.put,ls_,lz_,lc_,i64_w,i32_w]
            rfl
           refine one_ (i:=6) (N:=some 55) #[T_,T_,T_,T_,T_,T_,T_,F_] rfl rfl (one_of HT_.out (by kernel_rfl)) (by decide) (fun K hK=>?_)
           refine goes_ Tryz.func27 (by kernel_rfl) rfl #[.int .i64 (wrap64 ((wrap64 ((wrap64 ((wrap64 (x1_1+1))+1))+1))+1))] (by rfl) rfl rfl (by (try simp only [List.map_toArray,List.map_cons,List.map_nil]);first|done|rfl|(simp only [ld_,lt_];rfl)) ?_
           with_reducible refine (laws_markText.calls k1 (wrap64 ((wrap64 ((wrap64 ((wrap64 (x1_1+1))+1))+1))+1)) t494 _ A10.out).mono ?_
           rintro e w17 ⟨rfl,hb⟩
           refine ⟨_,rfl,?_⟩
           have n0_:=A_ (bp_ (bq0_ HB.out) hb)
           clear HB
           have HB:=n0_
           clear n0_
           (try clear hb)
           (try clear hb2)
           (try clear hk)
           (try clear hi)
           refine hK.out _ _ ⟨(ph_ HB.out hw493_0),(ph_ HB.out hw493_1),(ph_ HB.out hw493_2),(ph_ HB.out hw493_3),(ph_ HB.out hw493_4),(ph_ HB.out hw493_5),(ph_ HB.out hw493_6)⟩ (fun hHeld=>?_)
           clear hK K
           refine norm_ (a':=?_) ?_ ?_
           rotate_left
           ·show Act.put _ (some 55) _=_
            simp only [Act.put,ls_,lz_,lc_,i64_w,i32_w]
            rfl
           refine pure_ (i:=7) (N:=some 56) (v:=?_) (a':=?_) #[T_,T_,T_,T_,T_,T_,T_,T_] rfl rfl (any_of HT_.out (by kernel_rfl)) (fun _ _ _ h=>h) (Or.inl ⟨by rfl,?_⟩) ?_ ?_
           rotate_left
           ·intro w'
            go_simp
            with_reducible rfl
           rotate_left
           ·simp only [Act.put,ls_,lz_,lc_,i64_w,i32_w]
            rfl
           refine done_ (done_of HT_.out (by kernel_rfl)) ?_
           have p495:0≤(x5_1:Int):=oa_
           have q495:x5_1<(l0.length:Int):=oa_
           obtain ⟨ad495,A495_5,c495_5,e495,hx495_0,hx495_1,hx495_2,hx495_3,hx495_4,hx495_5,hx495_6,hl495_5,hi495_5⟩:=at_T24 HR0.out x5_1 p495 q495
           obtain rfl:ad488=ad495:=(by injection e495)
           try (have h_:=hx495_5.symm.trans hw493_5;injection h_ with h_;injection h_ with h1_ h3_ h2_;subst h1_;subst h2_)
           replace hx495_0:=ph_ HB.out hx495_0
           replace hx495_1:=ph_ HB.out hx495_1
           replace hx495_2:=ph_ HB.out hx495_2
           replace hx495_3:=ph_ HB.out hx495_3
           replace hx495_4:=ph_ HB.out hx495_4
           replace hx495_5:=ph_ HB.out hx495_5
           replace hx495_6:=ph_ HB.out hx495_6
           have HR495_5:=A_ hi495_5
           have HC495_5:=A_ hl495_5
           clear hi495_5 hl495_5
           replace p495:=eq_true p495
           replace q495:=eq_true q495
           try go_wp2_with (first|((with_reducible refine gate_callee (f:=24) rfl ?_);refine gl_ (some 65) rfl rfl Tryz.func24 (by kernel_rfl) rfl #[.slice A495_5 ((rd_T24 l0 x5_1).f5).length c495_5,.int .i64 (wrap64 ((wrap64 ((wrap64 ((wrap64 ((wrap64 (x1_1+1))+1))+1))+1))+1))] rfl  ?_;(with_reducible refine (laws_heldAttrS.calls k1 _ _ ((rd_T24 l0 x5_1).f5) (wrap64 ((wrap64 ((wrap64 ((wrap64 ((wrap64 (x1_1+1))+1))+1))+1))+1)) t496 _ ?side1 ?side2 A12.out).mono ?_);(case side1=>repeat (first|exact (cb_ HR495_5.out HB.out)|(with_reducible refine ca_ ?_ _)|(with_reducible refine cn_ ?_ _)|(with_reducible refine cd_ ?_)));(case side2=>exact HC495_5.out);rintro e w18 ⟨rfl,hb⟩;refine ⟨_,rfl,?_⟩;have n0_:=A_ (bp_ (bq0_ HB.out) hb);clear HB;have HB:=n0_;clear n0_;(try clear hb);(try clear hb2);(try clear hk);(try clear hi)))
           go_ret
           exact ⟨by first|rfl|(simp [errW_none,errW_some] <;> rfl)|(simp [*,errW_none,errW_some] <;> rfl),bq0_ HB.out⟩
          ·rw [if_neg c13] at H
           have c13b0:decide (t496<0)=false:=df_ c13
           clear c13
           by_cases c19:(((rd_T24 l0 x5_1).f6) != ((Int.tmod t496 3) == 0))=true
           ·rw [if_pos c19] at H
            have c19b0:(((rd_T24 l0 x5_1).f6) != ((Int.tmod t496 3) == 0))=true:=c19
            (try (have c19b1:decide (((rd_T24 l0 x5_1).f6)=((Int.tmod t496 3) == 0))=false:=by simpa using c19))
            (try (have c19b2:(((rd_T24 l0 x5_1).f6) == ((Int.tmod t496 3) == 0))=false:=by simpa using c19))
            (try (have c19b3:¬ (((rd_T24 l0 x5_1).f6)=((Int.tmod t496 3) == 0)):=by simpa using c19))
            clear c19
            obtain rfl:=oi_ H
            have p488:0≤(x5_1:Int):=oa_
            have q488:x5_1<(l0.length:Int):=oa_
            obtain ⟨ad488,A488_5,c488_5,e488,hx488_0,hx488_1,hx488_2,hx488_3,hx488_4,hx488_5,hx488_6,hl488_5,hi488_5⟩:=at_T24 HR0.out x5_1 p488 q488
            cases e488
            replace hx488_0:=ph_ HB.out hx488_0
            replace hx488_1:=ph_ HB.out hx488_1
            replace hx488_2:=ph_ HB.out hx488_2
            replace hx488_3:=ph_ HB.out hx488_3
            replace hx488_4:=ph_ HB.out hx488_4
            replace hx488_5:=ph_ HB.out hx488_5
            replace hx488_6:=ph_ HB.out hx488_6
            have HR488_5:=A_ hi488_5
            have HC488_5:=A_ hl488_5
            clear hi488_5 hl488_5
            replace p488:=eq_true p488
            replace q488:=eq_true q488
            have p489:0≤(x5_1:Int):=oa_
            have q489:x5_1<(l0.length:Int):=oa_
            obtain ⟨ad489,A489_5,c489_5,e489,hx489_0,hx489_1,hx489_2,hx489_3,hx489_4,hx489_5,hx489_6,hl489_5,hi489_5⟩:=at_T24 HR0.out x5_1 p489 q489
            obtain rfl:ad488=ad489:=(by injection e489)
            try (have h_:=hx489_5.symm.trans hw487_5;injection h_ with h_;injection h_ with h1_ h3_ h2_;subst h1_;subst h2_)
            replace hx489_0:=ph_ HB.out hx489_0
            replace hx489_1:=ph_ HB.out hx489_1
            replace hx489_2:=ph_ HB.out hx489_2
            replace hx489_3:=ph_ HB.out hx489_3
            replace hx489_4:=ph_ HB.out hx489_4
            replace hx489_5:=ph_ HB.out hx489_5
            replace hx489_6:=ph_ HB.out hx489_6
            have HR489_5:=A_ hi489_5
            have HC489_5:=A_ hl489_5
            clear hi489_5 hl489_5
            replace p489:=eq_true p489
            replace q489:=eq_true q489
            have ea_:=oi_ (hx488_5.symm.trans hx489_5)
            injection ea_ with ea_ en_ ec_
            subst ea_
            subst ec_
            clear en_
            have p490:0≤(x5_1:Int):=oa_
            have q490:x5_1<(l0.length:Int):=oa_
            obtain ⟨ad490,A490_5,c490_5,e490,hx490_0,hx490_1,hx490_2,hx490_3,hx490_4,hx490_5,hx490_6,hl490_5,hi490_5⟩:=at_T24 HR0.out x5_1 p490 q490
            obtain rfl:ad488=ad490:=(by injection e490)
            try (have h_:=hx490_5.symm.trans hw488_5;injection h_ with h_;injection h_ with h1_ h3_ h2_;subst h1_;subst h2_)
            replace hx490_0:=ph_ HB.out hx490_0
            replace hx490_1:=ph_ HB.out hx490_1
            replace hx490_2:=ph_ HB.out hx490_2
            replace hx490_3:=ph_ HB.out hx490_3
            replace hx490_4:=ph_ HB.out hx490_4
            replace hx490_5:=ph_ HB.out hx490_5
            replace hx490_6:=ph_ HB.out hx490_6
            have HR490_5:=A_ hi490_5
            have HC490_5:=A_ hl490_5
            clear hi490_5 hl490_5
            replace p490:=eq_true p490
            replace q490:=eq_true q490
            have ea_:=oi_ (hx488_5.symm.trans hx490_5)
            injection ea_ with ea_ en_ ec_
            subst ea_
            subst ec_
            clear en_
            try go_wp2
            have n0_:=A_ (b1_ HB.out)
            clear HB
            have HB:=n0_
            clear n0_
            have p491:0≤(x5_1:Int):=oa_
            have q491:x5_1<(l0.length:Int):=oa_
            obtain ⟨ad491,A491_5,c491_5,e491,hx491_0,hx491_1,hx491_2,hx491_3,hx491_4,hx491_5,hx491_6,hl491_5,hi491_5⟩:=at_T24 HR0.out x5_1 p491 q491
            have hw491_6:=hx491_6
            have hw491_5:=hx491_5
            have hw491_4:=hx491_4
            have hw491_3:=hx491_3
            have hw491_2:=hx491_2
            have hw491_1:=hx491_1
            have hw491_0:=hx491_0
            obtain rfl:ad488=ad491:=(by injection e491)
            try (have h_:=hx491_5.symm.trans hw489_5;injection h_ with h_;injection h_ with h1_ h3_ h2_;subst h1_;subst h2_)
            replace hx491_0:=ph_ HB.out hx491_0
            replace hx491_1:=ph_ HB.out hx491_1
            replace hx491_2:=ph_ HB.out hx491_2
            replace hx491_3:=ph_ HB.out hx491_3
            replace hx491_4:=ph_ HB.out hx491_4
            replace hx491_5:=ph_ HB.out hx491_5
            replace hx491_6:=ph_ HB.out hx491_6
            have HR491_5:=A_ hi491_5
            have HC491_5:=A_ hl491_5
            clear hi491_5 hl491_5
            replace p491:=eq_true p491
            replace q491:=eq_true q491
            refine start_ (n:=8) (S:=fun w'=>w'.cell? (ad488.add ((x5_1).toNat * 7))=some (.int .i64 ((rd_T24 l0 x5_1).f0))∧w'.cell? ⟨(ad488.add ((x5_1).toNat * 7)).block,(ad488.add ((x5_1).toNat * 7)).off+1,none⟩=some (.int .i64 ((rd_T24 l0 x5_1).f1))∧w'.cell? ⟨(ad488.add ((x5_1).toNat * 7)).block,(ad488.add ((x5_1).toNat * 7)).off+2,none⟩=some (.int .i64 ((rd_T24 l0 x5_1).f2))∧w'.cell? ⟨(ad488.add ((x5_1).toNat * 7)).block,(ad488.add ((x5_1).toNat * 7)).off+3,none⟩=some (.string ((rd_T24 l0 x5_1).f3))∧w'.cell? ⟨(ad488.add ((x5_1).toNat * 7)).block,(ad488.add ((x5_1).toNat * 7)).off+4,none⟩=some (.string ((rd_T24 l0 x5_1).f4))∧w'.cell? ⟨(ad488.add ((x5_1).toNat * 7)).block,(ad488.add ((x5_1).toNat * 7)).off+5,none⟩=some (.slice A491_5 ((rd_T24 l0 x5_1).f5).length c491_5)∧w'.cell? ⟨(ad488.add ((x5_1).toNat * 7)).block,(ad488.add ((x5_1).toNat * 7)).off+6,none⟩=some (.bool ((rd_T24 l0 x5_1).f6))) (ds:=[]) #[F_,F_,F_,F_,F_,F_,F_,F_] (by kernel_rfl) rfl rfl ⟨(ph_ HB.out hw491_0),(ph_ HB.out hw491_1),(ph_ HB.out hw491_2),(ph_ HB.out hw491_3),(ph_ HB.out hw491_4),(ph_ HB.out hw491_5),(ph_ HB.out hw491_6)⟩ (fun hHeld=>?_);refine with_tabW laws_heldTokenS.tab13 laws_heldTokenS.bits13 (fun HT_ HW_=>?_)
            generalize wr.drew=w20 at HB HR491_5 hx491_0 hx491_1 hx491_2 hx491_3 hx491_4 hx491_5 hx491_6 hHeld ⊢
            refine pure_ (i:=0) (N:=some 39) (v:=?_) (a':=?_) #[T_,F_,F_,F_,F_,F_,F_,F_] rfl rfl (any_of HT_.out (by kernel_rfl)) (fun _ _ _ h=>h) (Or.inl ⟨by rfl,?_⟩) ?_ ?_
            rotate_left
            ·intro w'
             go_simp
             with_reducible rfl
            rotate_left
            ·simp only [Act.put,ls_,lz_,lc_,i64_w,i32_w]
             rfl
            refine pure_ (i:=1) (N:=some 40) (v:=?_) (a':=?_) #[T_,T_,F_,F_,F_,F_,F_,F_] rfl rfl (any_of HT_.out (by kernel_rfl)) (fun _ _ _ h=>h) (Or.inl ⟨by rfl,?_⟩) ?_ ?_
            rotate_left
            ·intro w'
             go_simp
             with_reducible rfl
            rotate_left
            ·simp only [Act.put,ls_,lz_,lc_,i64_w,i32_w]
             rfl
            refine pure_ (i:=2) (N:=some 41) (v:=?_) (a':=?_) #[T_,T_,T_,F_,F_,F_,F_,F_] rfl rfl (any_of HT_.out (by kernel_rfl)) (fun _ _ _ h=>h) (Or.inl ⟨by rfl,?_⟩) ?_ ?_
            rotate_left
            ·intro w'
             go_simp
             with_reducible rfl
            rotate_left
            ·simp only [Act.put,ls_,lz_,lc_,i64_w,i32_w]
             rfl
            refine pure_ (i:=3) (N:=some 42) (v:=?_) (a':=?_) #[T_,T_,T_,T_,F_,F_,F_,F_] rfl rfl (any_of HT_.out (by kernel_rfl)) (fun _ _ _ h=>h) (Or.inl ⟨by rfl,?_⟩) ?_ ?_
            rotate_left
            ·intro w'
             go_simp
             with_reducible rfl
            rotate_left
            ·simp only [Act.put,ls_,lz_,lc_,i64_w,i32_w]
             rfl
            refine pure_ (i:=5) (N:=some 44) (v:=?_) (a':=?_) #[T_,T_,T_,T_,F_,T_,F_,F_] rfl rfl (any_of HT_.out (by kernel_rfl)) (fun _ _ _ h=>h) (Or.inl ⟨by rfl,?_⟩) ?_ ?_
            rotate_left
            ·intro w'
             go_simp
             with_reducible rfl
            rotate_left
            ·simp only [Act.put,ls_,lz_,lc_,i64_w,i32_w]
             rfl
            refine take_ (i:=4) (N:=some 43) (v:=?_) (a':=?_) #[T_,T_,T_,T_,T_,T_,F_,F_] rfl rfl (take_ofW HT_.out HW_.out (by kernel_rfl)) (fun _ _ _ h=>h) (Or.inl ⟨by rfl,?_⟩) hHeld ?_ ?_
            rotate_left
            ·rintro w' ⟨s0,s1,s2,s3,s4,s5,s6⟩
             go_simp
             with_reducible rfl
            rotate_left
            ·simp only [Act.put,ls_,lz_,lc_,i64_w,i32_w]
             rfl
            refine one_ (i:=6) (N:=some 45) #[T_,T_,T_,T_,T_,T_,T_,F_] rfl rfl (one_of HT_.out (by kernel_rfl)) (by decide) (fun K hK=>?_)
            refine goes_ Tryz.func27 (by kernel_rfl) rfl #[.int .i64 (wrap64 ((wrap64 ((wrap64 (x1_1+1))+1))+1))] (by rfl) rfl rfl (by (try simp only [List.map_toArray,List.map_cons,List.map_nil]);first|done|rfl|(simp only [ld_,lt_];rfl)) ?_
            with_reducible refine (laws_markText.calls k1 (wrap64 ((wrap64 ((wrap64 (x1_1+1))+1))+1)) t492 _ A8.out).mono ?_
            rintro e w21 ⟨rfl,hb⟩
            refine ⟨_,rfl,?_⟩
            have n0_:=A_ (bp_ (bq0_ HB.out) hb)
            clear HB
            have HB:=n0_
            clear n0_
            (try clear hb)
            (try clear hb2)
            (try clear hk)
            (try clear hi)
            refine hK.out _ _ ⟨(ph_ HB.out hw491_0),(ph_ HB.out hw491_1),(ph_ HB.out hw491_2),(ph_ HB.out hw491_3),(ph_ HB.out hw491_4),(ph_ HB.out hw491_5),(ph_ HB.out hw491_6)⟩ (fun hHeld=>?_)
            clear hK K
            refine norm_ (a':=?_) ?_ ?_
            rotate_left
            ·show Act.put _ (some 45) _=_
             simp only [Act.put,ls_,lz_,lc_,i64_w,i32_w]
             rfl
            refine pure_ (i:=7) (N:=some 46) (v:=?_) (a':=?_) #[T_,T_,T_,T_,T_,T_,T_,T_] rfl rfl (any_of HT_.out (by kernel_rfl)) (fun _ _ _ h=>h) (Or.inl ⟨by rfl,?_⟩) ?_ ?_
            rotate_left
            ·intro w'
             go_simp
             with_reducible rfl
            rotate_left
            ·simp only [Act.put,ls_,lz_,lc_,i64_w,i32_w]
             rfl
            refine done_ (done_of HT_.out (by kernel_rfl)) ?_
            try go_wp2
            have n0_:=A_ (b1_ HB.out)
            clear HB
            have HB:=n0_
            clear n0_
            have p493:0≤(x5_1:Int):=oa_
            have q493:x5_1<(l0.length:Int):=oa_
            obtain ⟨ad493,A493_5,c493_5,e493,hx493_0,hx493_1,hx493_2,hx493_3,hx493_4,hx493_5,hx493_6,hl493_5,hi493_5⟩:=at_T24 HR0.out x5_1 p493 q493
            have hw493_6:=hx493_6
            have hw493_5:=hx493_5
            have hw493_4:=hx493_4
            have hw493_3:=hx493_3
            have hw493_2:=hx493_2
            have hw493_1:=hx493_1
            have hw493_0:=hx493_0
            obtain rfl:ad488=ad493:=(by injection e493)
            try (have h_:=hx493_5.symm.trans hw491_5;injection h_ with h_;injection h_ with h1_ h3_ h2_;subst h1_;subst h2_)
            replace hx493_0:=ph_ HB.out hx493_0
            replace hx493_1:=ph_ HB.out hx493_1
            replace hx493_2:=ph_ HB.out hx493_2
            replace hx493_3:=ph_ HB.out hx493_3
            replace hx493_4:=ph_ HB.out hx493_4
            replace hx493_5:=ph_ HB.out hx493_5
            replace hx493_6:=ph_ HB.out hx493_6
            have HR493_5:=A_ hi493_5
            have HC493_5:=A_ hl493_5
            clear hi493_5 hl493_5
            replace p493:=eq_true p493
            replace q493:=eq_true q493
            refine start_ (n:=8) (S:=fun w'=>w'.cell? (ad488.add ((x5_1).toNat * 7))=some (.int .i64 ((rd_T24 l0 x5_1).f0))∧w'.cell? ⟨(ad488.add ((x5_1).toNat * 7)).block,(ad488.add ((x5_1).toNat * 7)).off+1,none⟩=some (.int .i64 ((rd_T24 l0 x5_1).f1))∧w'.cell? ⟨(ad488.add ((x5_1).toNat * 7)).block,(ad488.add ((x5_1).toNat * 7)).off+2,none⟩=some (.int .i64 ((rd_T24 l0 x5_1).f2))∧w'.cell? ⟨(ad488.add ((x5_1).toNat * 7)).block,(ad488.add ((x5_1).toNat * 7)).off+3,none⟩=some (.string ((rd_T24 l0 x5_1).f3))∧w'.cell? ⟨(ad488.add ((x5_1).toNat * 7)).block,(ad488.add ((x5_1).toNat * 7)).off+4,none⟩=some (.string ((rd_T24 l0 x5_1).f4))∧w'.cell? ⟨(ad488.add ((x5_1).toNat * 7)).block,(ad488.add ((x5_1).toNat * 7)).off+5,none⟩=some (.slice A493_5 ((rd_T24 l0 x5_1).f5).length c493_5)∧w'.cell? ⟨(ad488.add ((x5_1).toNat * 7)).block,(ad488.add ((x5_1).toNat * 7)).off+6,none⟩=some (.bool ((rd_T24 l0 x5_1).f6))) (ds:=[]) #[F_,F_,F_,F_,F_,F_,F_,F_] (by kernel_rfl) rfl rfl ⟨(ph_ HB.out hw493_0),(ph_ HB.out hw493_1),(ph_ HB.out hw493_2),(ph_ HB.out hw493_3),(ph_ HB.out hw493_4),(ph_ HB.out hw493_5),(ph_ HB.out hw493_6)⟩ (fun hHeld=>?_);refine with_tabW laws_heldTokenS.tab16 laws_heldTokenS.bits16 (fun HT_ HW_=>?_)
            generalize w21.drew=w22 at HB HR493_5 hx493_0 hx493_1 hx493_2 hx493_3 hx493_4 hx493_5 hx493_6 hHeld ⊢
            refine pure_ (i:=0) (N:=some 49) (v:=?_) (a':=?_) #[T_,F_,F_,F_,F_,F_,F_,F_] rfl rfl (any_of HT_.out (by kernel_rfl)) (fun _ _ _ h=>h) (Or.inl ⟨by rfl,?_⟩) ?_ ?_
            rotate_left
            ·intro w'
             go_simp
             with_reducible rfl
            rotate_left
            ·simp only [Act.put,ls_,lz_,lc_,i64_w,i32_w]
             rfl
            refine pure_ (i:=1) (N:=some 50) (v:=?_) (a':=?_) #[T_,T_,F_,F_,F_,F_,F_,F_] rfl rfl (any_of HT_.out (by kernel_rfl)) (fun _ _ _ h=>h) (Or.inl ⟨by rfl,?_⟩) ?_ ?_
            rotate_left
            ·intro w'
             go_simp
             with_reducible rfl
            rotate_left
            ·simp only [Act.put,ls_,lz_,lc_,i64_w,i32_w]
             rfl
            refine pure_ (i:=2) (N:=some 51) (v:=?_) (a':=?_) #[T_,T_,T_,F_,F_,F_,F_,F_] rfl rfl (any_of HT_.out (by kernel_rfl)) (fun _ _ _ h=>h) (Or.inl ⟨by rfl,?_⟩) ?_ ?_
            rotate_left
            ·intro w'
             go_simp
             with_reducible rfl
            rotate_left
            ·simp only [Act.put,ls_,lz_,lc_,i64_w,i32_w]
             rfl
            refine pure_ (i:=3) (N:=some 52) (v:=?_) (a':=?_) #[T_,T_,T_,T_,F_,F_,F_,F_] rfl rfl (any_of HT_.out (by kernel_rfl)) (fun _ _ _ h=>h) (Or.inl ⟨by rfl,?_⟩) ?_ ?_
            rotate_left
            ·intro w'
             go_simp
             with_reducible rfl
            rotate_left
            ·simp only [Act.put,ls_,lz_,lc_,i64_w,i32_w]
             rfl
            refine pure_ (i:=5) (N:=some 54) (v:=?_) (a':=?_) #[T_,T_,T_,T_,F_,T_,F_,F_] rfl rfl (any_of HT_.out (by kernel_rfl)) (fun _ _ _ h=>h) (Or.inl ⟨by rfl,?_⟩) ?_ ?_
            rotate_left
            ·intro w'
             go_simp
             with_reducible rfl
            rotate_left
            ·simp only [Act.put,ls_,lz_,lc_,i64_w,i32_w]
             rfl
            refine take_ (i:=4) (N:=some 53) (v:=?_) (a':=?_) #[T_,T_,T_,T_,T_,T_,F_,F_] rfl rfl (take_ofW HT_.out HW_.out (by kernel_rfl)) (fun _ _ _ h=>h) (Or.inl ⟨by rfl,?_⟩) hHeld ?_ ?_
            rotate_left
            ·rintro w' ⟨s0,s1,s2,s3,s4,s5,s6⟩
             go_simp
             with_reducible rfl
            rotate_left
            ·simp only [Act.put,ls_,lz_,lc_,i64_w,i32_w]
             rfl
            refine one_ (i:=6) (N:=some 55) #[T_,T_,T_,T_,T_,T_,T_,F_] rfl rfl (one_of HT_.out (by kernel_rfl)) (by decide) (fun K hK=>?_)
            refine goes_ Tryz.func27 (by kernel_rfl) rfl #[.int .i64 (wrap64 ((wrap64 ((wrap64 ((wrap64 (x1_1+1))+1))+1))+1))] (by rfl) rfl rfl (by (try simp only [List.map_toArray,List.map_cons,List.map_nil]);first|done|rfl|(simp only [ld_,lt_];rfl)) ?_
            with_reducible refine (laws_markText.calls k1 (wrap64 ((wrap64 ((wrap64 ((wrap64 (x1_1+1))+1))+1))+1)) t494 _ A10.out).mono ?_
            rintro e w23 ⟨rfl,hb⟩
            refine ⟨_,rfl,?_⟩
            have n0_:=A_ (bp_ (bq0_ HB.out) hb)
            clear HB
            have HB:=n0_
            clear n0_
            (try clear hb)
            (try clear hb2)
            (try clear hk)
            (try clear hi)
            refine hK.out _ _ ⟨(ph_ HB.out hw493_0),(ph_ HB.out hw493_1),(ph_ HB.out hw493_2),(ph_ HB.out hw493_3),(ph_ HB.out hw493_4),(ph_ HB.out hw493_5),(ph_ HB.out hw493_6)⟩ (fun hHeld=>?_)
            clear hK K
            refine norm_ (a':=?_) ?_ ?_
            rotate_left
            ·show Act.put _ (some 55) _=_
             simp only [Act.put,ls_,lz_,lc_,i64_w,i32_w]
             rfl
            refine pure_ (i:=7) (N:=some 56) (v:=?_) (a':=?_) #[T_,T_,T_,T_,T_,T_,T_,T_] rfl rfl (any_of HT_.out (by kernel_rfl)) (fun _ _ _ h=>h) (Or.inl ⟨by rfl,?_⟩) ?_ ?_
            rotate_left
            ·intro w'
             go_simp
             with_reducible rfl
            rotate_left
            ·simp only [Act.put,ls_,lz_,lc_,i64_w,i32_w]
             rfl
            refine done_ (done_of HT_.out (by kernel_rfl)) ?_
            have p495:0≤(x5_1:Int):=oa_
            have q495:x5_1<(l0.length:Int):=oa_
            obtain ⟨ad495,A495_5,c495_5,e495,hx495_0,hx495_1,hx495_2,hx495_3,hx495_4,hx495_5,hx495_6,hl495_5,hi495_5⟩:=at_T24 HR0.out x5_1 p495 q495
            obtain rfl:ad488=ad495:=(by injection e495)
            try (have h_:=hx495_5.symm.trans hw493_5;injection h_ with h_;injection h_ with h1_ h3_ h2_;subst h1_;subst h2_)
            replace hx495_0:=ph_ HB.out hx495_0
            replace hx495_1:=ph_ HB.out hx495_1
            replace hx495_2:=ph_ HB.out hx495_2
            replace hx495_3:=ph_ HB.out hx495_3
            replace hx495_4:=ph_ HB.out hx495_4
            replace hx495_5:=ph_ HB.out hx495_5
            replace hx495_6:=ph_ HB.out hx495_6
            have HR495_5:=A_ hi495_5
            have HC495_5:=A_ hl495_5
            clear hi495_5 hl495_5
            replace p495:=eq_true p495
            replace q495:=eq_true q495
            try go_wp2_with (first|((with_reducible refine gate_callee (f:=24) rfl ?_);refine gl_ (some 65) rfl rfl Tryz.func24 (by kernel_rfl) rfl #[.slice A495_5 ((rd_T24 l0 x5_1).f5).length c495_5,.int .i64 (wrap64 ((wrap64 ((wrap64 ((wrap64 ((wrap64 (x1_1+1))+1))+1))+1))+1))] rfl  ?_;(with_reducible refine (laws_heldAttrS.calls k1 _ _ ((rd_T24 l0 x5_1).f5) (wrap64 ((wrap64 ((wrap64 ((wrap64 ((wrap64 (x1_1+1))+1))+1))+1))+1)) t496 _ ?side1 ?side2 A12.out).mono ?_);(case side1=>repeat (first|exact (cb_ HR495_5.out HB.out)|(with_reducible refine ca_ ?_ _)|(with_reducible refine cn_ ?_ _)|(with_reducible refine cd_ ?_)));(case side2=>exact HC495_5.out);rintro e w24 ⟨rfl,hb⟩;refine ⟨_,rfl,?_⟩;have n0_:=A_ (bp_ (bq0_ HB.out) hb);clear HB;have HB:=n0_;clear n0_;(try clear hb);(try clear hb2);(try clear hk);(try clear hi);have p497:0≤(x5_1:Int):=oa_;have q497:x5_1<(l0.length:Int):=oa_;obtain ⟨ad497,A497_5,c497_5,e497,hx497_0,hx497_1,hx497_2,hx497_3,hx497_4,hx497_5,hx497_6,hl497_5,hi497_5⟩:=at_T24 HR0.out x5_1 p497 q497;obtain rfl:ad488=ad497:=(by injection e497);replace hx497_0:=ph_ HB.out hx497_0;replace hx497_1:=ph_ HB.out hx497_1;replace hx497_2:=ph_ HB.out hx497_2;replace hx497_3:=ph_ HB.out hx497_3;replace hx497_4:=ph_ HB.out hx497_4;replace hx497_5:=ph_ HB.out hx497_5;replace hx497_6:=ph_ HB.out hx497_6;have HR497_5:=A_ hi497_5;have HC497_5:=A_ hl497_5;clear hi497_5 hl497_5;replace p497:=eq_true p497;replace q497:=eq_true q497))
            go_ret
            exact ⟨by first|rfl|(simp [errW_none,errW_some] <;> rfl)|(simp [*,errW_none,errW_some] <;> rfl),bq0_ HB.out⟩
           ·rw [if_neg c19] at H
            have c19b0:(((rd_T24 l0 x5_1).f6) != ((Int.tmod t496 3) == 0))=false:=by simpa using c19
            (try (have c19b1:decide (((rd_T24 l0 x5_1).f6)=((Int.tmod t496 3) == 0))=true:=by simpa using c19))
            (try (have c19b2:(((rd_T24 l0 x5_1).f6) == ((Int.tmod t496 3) == 0))=true:=by simpa using c19))
            clear c19
            have H':=A_ H
            clear H
            have p488:0≤(x5_1:Int):=oa_
            have q488:x5_1<(l0.length:Int):=oa_
            obtain ⟨ad488,A488_5,c488_5,e488,hx488_0,hx488_1,hx488_2,hx488_3,hx488_4,hx488_5,hx488_6,hl488_5,hi488_5⟩:=at_T24 HR0.out x5_1 p488 q488
            cases e488
            replace hx488_0:=ph_ HB.out hx488_0
            replace hx488_1:=ph_ HB.out hx488_1
            replace hx488_2:=ph_ HB.out hx488_2
            replace hx488_3:=ph_ HB.out hx488_3
            replace hx488_4:=ph_ HB.out hx488_4
            replace hx488_5:=ph_ HB.out hx488_5
            replace hx488_6:=ph_ HB.out hx488_6
            have HR488_5:=A_ hi488_5
            have HC488_5:=A_ hl488_5
            clear hi488_5 hl488_5
            replace p488:=eq_true p488
            replace q488:=eq_true q488
            have p489:0≤(x5_1:Int):=oa_
            have q489:x5_1<(l0.length:Int):=oa_
            obtain ⟨ad489,A489_5,c489_5,e489,hx489_0,hx489_1,hx489_2,hx489_3,hx489_4,hx489_5,hx489_6,hl489_5,hi489_5⟩:=at_T24 HR0.out x5_1 p489 q489
            obtain rfl:ad488=ad489:=(by injection e489)
            try (have h_:=hx489_5.symm.trans hw487_5;injection h_ with h_;injection h_ with h1_ h3_ h2_;subst h1_;subst h2_)
            replace hx489_0:=ph_ HB.out hx489_0
            replace hx489_1:=ph_ HB.out hx489_1
            replace hx489_2:=ph_ HB.out hx489_2
            replace hx489_3:=ph_ HB.out hx489_3
            replace hx489_4:=ph_ HB.out hx489_4
            replace hx489_5:=ph_ HB.out hx489_5
            replace hx489_6:=ph_ HB.out hx489_6
            have HR489_5:=A_ hi489_5
            have HC489_5:=A_ hl489_5
            clear hi489_5 hl489_5
            replace p489:=eq_true p489
            replace q489:=eq_true q489
            have ea_:=oi_ (hx488_5.symm.trans hx489_5)
            injection ea_ with ea_ en_ ec_
            subst ea_
            subst ec_
            clear en_
            have p490:0≤(x5_1:Int):=oa_
            have q490:x5_1<(l0.length:Int):=oa_
            obtain ⟨ad490,A490_5,c490_5,e490,hx490_0,hx490_1,hx490_2,hx490_3,hx490_4,hx490_5,hx490_6,hl490_5,hi490_5⟩:=at_T24 HR0.out x5_1 p490 q490
            obtain rfl:ad488=ad490:=(by injection e490)
            try (have h_:=hx490_5.symm.trans hw488_5;injection h_ with h_;injection h_ with h1_ h3_ h2_;subst h1_;subst h2_)
            replace hx490_0:=ph_ HB.out hx490_0
            replace hx490_1:=ph_ HB.out hx490_1
            replace hx490_2:=ph_ HB.out hx490_2
            replace hx490_3:=ph_ HB.out hx490_3
            replace hx490_4:=ph_ HB.out hx490_4
            replace hx490_5:=ph_ HB.out hx490_5
            replace hx490_6:=ph_ HB.out hx490_6
            have HR490_5:=A_ hi490_5
            have HC490_5:=A_ hl490_5
            clear hi490_5 hl490_5
            replace p490:=eq_true p490
            replace q490:=eq_true q490
            have ea_:=oi_ (hx488_5.symm.trans hx490_5)
            injection ea_ with ea_ en_ ec_
            subst ea_
            subst ec_
            clear en_
            try go_wp2
            have n0_:=A_ (b1_ HB.out)
            clear HB
            have HB:=n0_
            clear n0_
            have p491:0≤(x5_1:Int):=oa_
            have q491:x5_1<(l0.length:Int):=oa_
            obtain ⟨ad491,A491_5,c491_5,e491,hx491_0,hx491_1,hx491_2,hx491_3,hx491_4,hx491_5,hx491_6,hl491_5,hi491_5⟩:=at_T24 HR0.out x5_1 p491 q491
            have hw491_6:=hx491_6
            have hw491_5:=hx491_5
            have hw491_4:=hx491_4
            have hw491_3:=hx491_3
            have hw491_2:=hx491_2
            have hw491_1:=hx491_1
            have hw491_0:=hx491_0
            obtain rfl:ad488=ad491:=(by injection e491)
            try (have h_:=hx491_5.symm.trans hw489_5;injection h_ with h_;injection h_ with h1_ h3_ h2_;subst h1_;subst h2_)
            replace hx491_0:=ph_ HB.out hx491_0
            replace hx491_1:=ph_ HB.out hx491_1
            replace hx491_2:=ph_ HB.out hx491_2
            replace hx491_3:=ph_ HB.out hx491_3
            replace hx491_4:=ph_ HB.out hx491_4
            replace hx491_5:=ph_ HB.out hx491_5
            replace hx491_6:=ph_ HB.out hx491_6
            have HR491_5:=A_ hi491_5
            have HC491_5:=A_ hl491_5
            clear hi491_5 hl491_5
            replace p491:=eq_true p491
            replace q491:=eq_true q491
            refine start_ (n:=8) (S:=fun w'=>w'.cell? (ad488.add ((x5_1).toNat * 7))=some (.int .i64 ((rd_T24 l0 x5_1).f0))∧w'.cell? ⟨(ad488.add ((x5_1).toNat * 7)).block,(ad488.add ((x5_1).toNat * 7)).off+1,none⟩=some (.int .i64 ((rd_T24 l0 x5_1).f1))∧w'.cell? ⟨(ad488.add ((x5_1).toNat * 7)).block,(ad488.add ((x5_1).toNat * 7)).off+2,none⟩=some (.int .i64 ((rd_T24 l0 x5_1).f2))∧w'.cell? ⟨(ad488.add ((x5_1).toNat * 7)).block,(ad488.add ((x5_1).toNat * 7)).off+3,none⟩=some (.string ((rd_T24 l0 x5_1).f3))∧w'.cell? ⟨(ad488.add ((x5_1).toNat * 7)).block,(ad488.add ((x5_1).toNat * 7)).off+4,none⟩=some (.string ((rd_T24 l0 x5_1).f4))∧w'.cell? ⟨(ad488.add ((x5_1).toNat * 7)).block,(ad488.add ((x5_1).toNat * 7)).off+5,none⟩=some (.slice A491_5 ((rd_T24 l0 x5_1).f5).length c491_5)∧w'.cell? ⟨(ad488.add ((x5_1).toNat * 7)).block,(ad488.add ((x5_1).toNat * 7)).off+6,none⟩=some (.bool ((rd_T24 l0 x5_1).f6))) (ds:=[]) #[F_,F_,F_,F_,F_,F_,F_,F_] (by kernel_rfl) rfl rfl ⟨(ph_ HB.out hw491_0),(ph_ HB.out hw491_1),(ph_ HB.out hw491_2),(ph_ HB.out hw491_3),(ph_ HB.out hw491_4),(ph_ HB.out hw491_5),(ph_ HB.out hw491_6)⟩ (fun hHeld=>?_);refine with_tabW laws_heldTokenS.tab13 laws_heldTokenS.bits13 (fun HT_ HW_=>?_)
            generalize wr.drew=w25 at HB HR491_5 hx491_0 hx491_1 hx491_2 hx491_3 hx491_4 hx491_5 hx491_6 hHeld ⊢
            refine pure_ (i:=0) (N:=some 39) (v:=?_) (a':=?_) #[T_,F_,F_,F_,F_,F_,F_,F_] rfl rfl (any_of HT_.out (by kernel_rfl)) (fun _ _ _ h=>h) (Or.inl ⟨by rfl,?_⟩) ?_ ?_
            rotate_left
            ·intro w'
             go_simp
             with_reducible rfl
            rotate_left
            ·simp only [Act.put,ls_,lz_,lc_,i64_w,i32_w]
             rfl
            refine pure_ (i:=1) (N:=some 40) (v:=?_) (a':=?_) #[T_,T_,F_,F_,F_,F_,F_,F_] rfl rfl (any_of HT_.out (by kernel_rfl)) (fun _ _ _ h=>h) (Or.inl ⟨by rfl,?_⟩) ?_ ?_
            rotate_left
            ·intro w'
             go_simp
             with_reducible rfl
            rotate_left
            ·simp only [Act.put,ls_,lz_,lc_,i64_w,i32_w]
             rfl
            refine pure_ (i:=2) (N:=some 41) (v:=?_) (a':=?_) #[T_,T_,T_,F_,F_,F_,F_,F_] rfl rfl (any_of HT_.out (by kernel_rfl)) (fun _ _ _ h=>h) (Or.inl ⟨by rfl,?_⟩) ?_ ?_
            rotate_left
            ·intro w'
             go_simp
             with_reducible rfl
            rotate_left
            ·simp only [Act.put,ls_,lz_,lc_,i64_w,i32_w]
             rfl
            refine pure_ (i:=3) (N:=some 42) (v:=?_) (a':=?_) #[T_,T_,T_,T_,F_,F_,F_,F_] rfl rfl (any_of HT_.out (by kernel_rfl)) (fun _ _ _ h=>h) (Or.inl ⟨by rfl,?_⟩) ?_ ?_
            rotate_left
            ·intro w'
             go_simp
             with_reducible rfl
            rotate_left
            ·simp only [Act.put,ls_,lz_,lc_,i64_w,i32_w]
             rfl
            refine pure_ (i:=5) (N:=some 44) (v:=?_) (a':=?_) #[T_,T_,T_,T_,F_,T_,F_,F_] rfl rfl (any_of HT_.out (by kernel_rfl)) (fun _ _ _ h=>h) (Or.inl ⟨by rfl,?_⟩) ?_ ?_
            rotate_left
            ·intro w'
             go_simp
             with_reducible rfl
            rotate_left
            ·simp only [Act.put,ls_,lz_,lc_,i64_w,i32_w]
             rfl
            refine take_ (i:=4) (N:=some 43) (v:=?_) (a':=?_) #[T_,T_,T_,T_,T_,T_,F_,F_] rfl rfl (take_ofW HT_.out HW_.out (by kernel_rfl)) (fun _ _ _ h=>h) (Or.inl ⟨by rfl,?_⟩) hHeld ?_ ?_
            rotate_left
            ·rintro w' ⟨s0,s1,s2,s3,s4,s5,s6⟩
             go_simp
             with_reducible rfl
            rotate_left
            ·simp only [Act.put,ls_,lz_,lc_,i64_w,i32_w]
             rfl
            refine one_ (i:=6) (N:=some 45) #[T_,T_,T_,T_,T_,T_,T_,F_] rfl rfl (one_of HT_.out (by kernel_rfl)) (by decide) (fun K hK=>?_)
            refine goes_ Tryz.func27 (by kernel_rfl) rfl #[.int .i64 (wrap64 ((wrap64 ((wrap64 (x1_1+1))+1))+1))] (by rfl) rfl rfl (by (try simp only [List.map_toArray,List.map_cons,List.map_nil]);first|done|rfl|(simp only [ld_,lt_];rfl)) ?_
            with_reducible refine (laws_markText.calls k1 (wrap64 ((wrap64 ((wrap64 (x1_1+1))+1))+1)) t492 _ A8.out).mono ?_
            rintro e w26 ⟨rfl,hb⟩
            refine ⟨_,rfl,?_⟩
            have n0_:=A_ (bp_ (bq0_ HB.out) hb)
            clear HB
            have HB:=n0_
            clear n0_
            (try clear hb)
            (try clear hb2)
            (try clear hk)
            (try clear hi)
            refine hK.out _ _ ⟨(ph_ HB.out hw491_0),(ph_ HB.out hw491_1),(ph_ HB.out hw491_2),(ph_ HB.out hw491_3),(ph_ HB.out hw491_4),(ph_ HB.out hw491_5),(ph_ HB.out hw491_6)⟩ (fun hHeld=>?_)
            clear hK K
            refine norm_ (a':=?_) ?_ ?_
            rotate_left
            ·show Act.put _ (some 45) _=_
             simp only [Act.put,ls_,lz_,lc_,i64_w,i32_w]
             rfl
            refine pure_ (i:=7) (N:=some 46) (v:=?_) (a':=?_) #[T_,T_,T_,T_,T_,T_,T_,T_] rfl rfl (any_of HT_.out (by kernel_rfl)) (fun _ _ _ h=>h) (Or.inl ⟨by rfl,?_⟩) ?_ ?_
            rotate_left
            ·intro w'
             go_simp
             with_reducible rfl
            rotate_left
            ·simp only [Act.put,ls_,lz_,lc_,i64_w,i32_w]
             rfl
            refine done_ (done_of HT_.out (by kernel_rfl)) ?_
            try go_wp2
            have n0_:=A_ (b1_ HB.out)
            clear HB
            have HB:=n0_
            clear n0_
            have p493:0≤(x5_1:Int):=oa_
            have q493:x5_1<(l0.length:Int):=oa_
            obtain ⟨ad493,A493_5,c493_5,e493,hx493_0,hx493_1,hx493_2,hx493_3,hx493_4,hx493_5,hx493_6,hl493_5,hi493_5⟩:=at_T24 HR0.out x5_1 p493 q493
            have hw493_6:=hx493_6
            have hw493_5:=hx493_5
            have hw493_4:=hx493_4
            have hw493_3:=hx493_3
            have hw493_2:=hx493_2
            have hw493_1:=hx493_1
            have hw493_0:=hx493_0
            obtain rfl:ad488=ad493:=(by injection e493)
            try (have h_:=hx493_5.symm.trans hw491_5;injection h_ with h_;injection h_ with h1_ h3_ h2_;subst h1_;subst h2_)
            replace hx493_0:=ph_ HB.out hx493_0
            replace hx493_1:=ph_ HB.out hx493_1
            replace hx493_2:=ph_ HB.out hx493_2
            replace hx493_3:=ph_ HB.out hx493_3
            replace hx493_4:=ph_ HB.out hx493_4
            replace hx493_5:=ph_ HB.out hx493_5
            replace hx493_6:=ph_ HB.out hx493_6
            have HR493_5:=A_ hi493_5
            have HC493_5:=A_ hl493_5
            clear hi493_5 hl493_5
            replace p493:=eq_true p493
            replace q493:=eq_true q493
            refine start_ (n:=8) (S:=fun w'=>w'.cell? (ad488.add ((x5_1).toNat * 7))=some (.int .i64 ((rd_T24 l0 x5_1).f0))∧w'.cell? ⟨(ad488.add ((x5_1).toNat * 7)).block,(ad488.add ((x5_1).toNat * 7)).off+1,none⟩=some (.int .i64 ((rd_T24 l0 x5_1).f1))∧w'.cell? ⟨(ad488.add ((x5_1).toNat * 7)).block,(ad488.add ((x5_1).toNat * 7)).off+2,none⟩=some (.int .i64 ((rd_T24 l0 x5_1).f2))∧w'.cell? ⟨(ad488.add ((x5_1).toNat * 7)).block,(ad488.add ((x5_1).toNat * 7)).off+3,none⟩=some (.string ((rd_T24 l0 x5_1).f3))∧w'.cell? ⟨(ad488.add ((x5_1).toNat * 7)).block,(ad488.add ((x5_1).toNat * 7)).off+4,none⟩=some (.string ((rd_T24 l0 x5_1).f4))∧w'.cell? ⟨(ad488.add ((x5_1).toNat * 7)).block,(ad488.add ((x5_1).toNat * 7)).off+5,none⟩=some (.slice A493_5 ((rd_T24 l0 x5_1).f5).length c493_5)∧w'.cell? ⟨(ad488.add ((x5_1).toNat * 7)).block,(ad488.add ((x5_1).toNat * 7)).off+6,none⟩=some (.bool ((rd_T24 l0 x5_1).f6))) (ds:=[]) #[F_,F_,F_,F_,F_,F_,F_,F_] (by kernel_rfl) rfl rfl ⟨(ph_ HB.out hw493_0),(ph_ HB.out hw493_1),(ph_ HB.out hw493_2),(ph_ HB.out hw493_3),(ph_ HB.out hw493_4),(ph_ HB.out hw493_5),(ph_ HB.out hw493_6)⟩ (fun hHeld=>?_);refine with_tabW laws_heldTokenS.tab16 laws_heldTokenS.bits16 (fun HT_ HW_=>?_)
            generalize w26.drew=w27 at HB HR493_5 hx493_0 hx493_1 hx493_2 hx493_3 hx493_4 hx493_5 hx493_6 hHeld ⊢
            refine pure_ (i:=0) (N:=some 49) (v:=?_) (a':=?_) #[T_,F_,F_,F_,F_,F_,F_,F_] rfl rfl (any_of HT_.out (by kernel_rfl)) (fun _ _ _ h=>h) (Or.inl ⟨by rfl,?_⟩) ?_ ?_
            rotate_left
            ·intro w'
             go_simp
             with_reducible rfl
            rotate_left
            ·simp only [Act.put,ls_,lz_,lc_,i64_w,i32_w]
             rfl
            refine pure_ (i:=1) (N:=some 50) (v:=?_) (a':=?_) #[T_,T_,F_,F_,F_,F_,F_,F_] rfl rfl (any_of HT_.out (by kernel_rfl)) (fun _ _ _ h=>h) (Or.inl ⟨by rfl,?_⟩) ?_ ?_
            rotate_left
            ·intro w'
             go_simp
             with_reducible rfl
            rotate_left
            ·simp only [Act.put,ls_,lz_,lc_,i64_w,i32_w]
             rfl
            refine pure_ (i:=2) (N:=some 51) (v:=?_) (a':=?_) #[T_,T_,T_,F_,F_,F_,F_,F_] rfl rfl (any_of HT_.out (by kernel_rfl)) (fun _ _ _ h=>h) (Or.inl ⟨by rfl,?_⟩) ?_ ?_
            rotate_left
            ·intro w'
             go_simp
             with_reducible rfl
            rotate_left
            ·simp only [Act.put,ls_,lz_,lc_,i64_w,i32_w]
             rfl
            refine pure_ (i:=3) (N:=some 52) (v:=?_) (a':=?_) #[T_,T_,T_,T_,F_,F_,F_,F_] rfl rfl (any_of HT_.out (by kernel_rfl)) (fun _ _ _ h=>h) (Or.inl ⟨by rfl,?_⟩) ?_ ?_
            rotate_left
            ·intro w'
             go_simp
             with_reducible rfl
            rotate_left
            ·simp only [Act.put,ls_,lz_,lc_,i64_w,i32_w]
             rfl
            refine pure_ (i:=5) (N:=some 54) (v:=?_) (a':=?_) #[T_,T_,T_,T_,F_,T_,F_,F_] rfl rfl (any_of HT_.out (by kernel_rfl)) (fun _ _ _ h=>h) (Or.inl ⟨by rfl,?_⟩) ?_ ?_
            rotate_left
            ·intro w'
             go_simp
             with_reducible rfl
            rotate_left
            ·simp only [Act.put,ls_,lz_,lc_,i64_w,i32_w]
             rfl
            refine take_ (i:=4) (N:=some 53) (v:=?_) (a':=?_) #[T_,T_,T_,T_,T_,T_,F_,F_] rfl rfl (take_ofW HT_.out HW_.out (by kernel_rfl)) (fun _ _ _ h=>h) (Or.inl ⟨by rfl,?_⟩) hHeld ?_ ?_
            rotate_left
            ·rintro w' ⟨s0,s1,s2,s3,s4,s5,s6⟩
             go_simp
             with_reducible rfl
            rotate_left
            ·simp only [Act.put,ls_,lz_,lc_,i64_w,i32_w]
             rfl
            refine one_ (i:=6) (N:=some 55) #[T_,T_,T_,T_,T_,T_,T_,F_] rfl rfl (one_of HT_.out (by kernel_rfl)) (by decide) (fun K hK=>?_)
            refine goes_ Tryz.func27 (by kernel_rfl) rfl #[.int .i64 (wrap64 ((wrap64 ((wrap64 ((wrap64 (x1_1+1))+1))+1))+1))] (by rfl) rfl rfl (by (try simp only [List.map_toArray,List.map_cons,List.map_nil]);first|done|rfl|(simp only [ld_,lt_];rfl)) ?_
            with_reducible refine (laws_markText.calls k1 (wrap64 ((wrap64 ((wrap64 ((wrap64 (x1_1+1))+1))+1))+1)) t494 _ A10.out).mono ?_
            rintro e w28 ⟨rfl,hb⟩
            refine ⟨_,rfl,?_⟩
            have n0_:=A_ (bp_ (bq0_ HB.out) hb)
            clear HB
            have HB:=n0_
            clear n0_
            (try clear hb)
            (try clear hb2)
            (try clear hk)
            (try clear hi)
            refine hK.out _ _ ⟨(ph_ HB.out hw493_0),(ph_ HB.out hw493_1),(ph_ HB.out hw493_2),(ph_ HB.out hw493_3),(ph_ HB.out hw493_4),(ph_ HB.out hw493_5),(ph_ HB.out hw493_6)⟩ (fun hHeld=>?_)
            clear hK K
            refine norm_ (a':=?_) ?_ ?_
            rotate_left
            ·show Act.put _ (some 55) _=_
             simp only [Act.put,ls_,lz_,lc_,i64_w,i32_w]
             rfl
            refine pure_ (i:=7) (N:=some 56) (v:=?_) (a':=?_) #[T_,T_,T_,T_,T_,T_,T_,T_] rfl rfl (any_of HT_.out (by kernel_rfl)) (fun _ _ _ h=>h) (Or.inl ⟨by rfl,?_⟩) ?_ ?_
            rotate_left
            ·intro w'
             go_simp
             with_reducible rfl
            rotate_left
            ·simp only [Act.put,ls_,lz_,lc_,i64_w,i32_w]
             rfl
            refine done_ (done_of HT_.out (by kernel_rfl)) ?_
            have p495:0≤(x5_1:Int):=oa_
            have q495:x5_1<(l0.length:Int):=oa_
            obtain ⟨ad495,A495_5,c495_5,e495,hx495_0,hx495_1,hx495_2,hx495_3,hx495_4,hx495_5,hx495_6,hl495_5,hi495_5⟩:=at_T24 HR0.out x5_1 p495 q495
            obtain rfl:ad488=ad495:=(by injection e495)
            try (have h_:=hx495_5.symm.trans hw493_5;injection h_ with h_;injection h_ with h1_ h3_ h2_;subst h1_;subst h2_)
            replace hx495_0:=ph_ HB.out hx495_0
            replace hx495_1:=ph_ HB.out hx495_1
            replace hx495_2:=ph_ HB.out hx495_2
            replace hx495_3:=ph_ HB.out hx495_3
            replace hx495_4:=ph_ HB.out hx495_4
            replace hx495_5:=ph_ HB.out hx495_5
            replace hx495_6:=ph_ HB.out hx495_6
            have HR495_5:=A_ hi495_5
            have HC495_5:=A_ hl495_5
            clear hi495_5 hl495_5
            replace p495:=eq_true p495
            replace q495:=eq_true q495
            try go_wp2_with (first|((with_reducible refine gate_callee (f:=24) rfl ?_);refine gl_ (some 65) rfl rfl Tryz.func24 (by kernel_rfl) rfl #[.slice A495_5 ((rd_T24 l0 x5_1).f5).length c495_5,.int .i64 (wrap64 ((wrap64 ((wrap64 ((wrap64 ((wrap64 (x1_1+1))+1))+1))+1))+1))] rfl  ?_;(with_reducible refine (laws_heldAttrS.calls k1 _ _ ((rd_T24 l0 x5_1).f5) (wrap64 ((wrap64 ((wrap64 ((wrap64 ((wrap64 (x1_1+1))+1))+1))+1))+1)) t496 _ ?side1 ?side2 A12.out).mono ?_);(case side1=>repeat (first|exact (cb_ HR495_5.out HB.out)|(with_reducible refine ca_ ?_ _)|(with_reducible refine cn_ ?_ _)|(with_reducible refine cd_ ?_)));(case side2=>exact HC495_5.out);rintro e w29 ⟨rfl,hb⟩;refine ⟨_,rfl,?_⟩;have n0_:=A_ (bp_ (bq0_ HB.out) hb);clear HB;have HB:=n0_;clear n0_;(try clear hb);(try clear hb2);(try clear hk);(try clear hi);have p497:0≤(x5_1:Int):=oa_;have q497:x5_1<(l0.length:Int):=oa_;obtain ⟨ad497,A497_5,c497_5,e497,hx497_0,hx497_1,hx497_2,hx497_3,hx497_4,hx497_5,hx497_6,hl497_5,hi497_5⟩:=at_T24 HR0.out x5_1 p497 q497;obtain rfl:ad488=ad497:=(by injection e497);replace hx497_0:=ph_ HB.out hx497_0;replace hx497_1:=ph_ HB.out hx497_1;replace hx497_2:=ph_ HB.out hx497_2;replace hx497_3:=ph_ HB.out hx497_3;replace hx497_4:=ph_ HB.out hx497_4;replace hx497_5:=ph_ HB.out hx497_5;replace hx497_6:=ph_ HB.out hx497_6;have HR497_5:=A_ hi497_5;have HC497_5:=A_ hl497_5;clear hi497_5 hl497_5;replace p497:=eq_true p497;replace q497:=eq_true q497))
            go_roundg k1
            case measure=>have:=HK1.out;omega
            case rel=>exact ⟨(wrap64 (t496+1)),(wrap64 (x5_1+1)),rs_,rs_,H',⟨by have:=HK1.out;omega⟩,⟨bq0_ HB.out⟩⟩
         ·rw [if_neg c11] at H
          have c11b0:(((rd_T24 l0 x5_1).f4).toList == t494.toList)=false:=beq_eq_false_iff_ne.mpr c11
          have c11b1:(((rd_T24 l0 x5_1).f4).toList != t494.toList)=true:=bne_iff_ne.mpr c11
          obtain rfl:=oi_ H
          have p488:0≤(x5_1:Int):=oa_
          have q488:x5_1<(l0.length:Int):=oa_
          obtain ⟨ad488,A488_5,c488_5,e488,hx488_0,hx488_1,hx488_2,hx488_3,hx488_4,hx488_5,hx488_6,hl488_5,hi488_5⟩:=at_T24 HR0.out x5_1 p488 q488
          cases e488
          replace hx488_0:=ph_ HB.out hx488_0
          replace hx488_1:=ph_ HB.out hx488_1
          replace hx488_2:=ph_ HB.out hx488_2
          replace hx488_3:=ph_ HB.out hx488_3
          replace hx488_4:=ph_ HB.out hx488_4
          replace hx488_5:=ph_ HB.out hx488_5
          replace hx488_6:=ph_ HB.out hx488_6
          have HR488_5:=A_ hi488_5
          have HC488_5:=A_ hl488_5
          clear hi488_5 hl488_5
          replace p488:=eq_true p488
          replace q488:=eq_true q488
          have p489:0≤(x5_1:Int):=oa_
          have q489:x5_1<(l0.length:Int):=oa_
          obtain ⟨ad489,A489_5,c489_5,e489,hx489_0,hx489_1,hx489_2,hx489_3,hx489_4,hx489_5,hx489_6,hl489_5,hi489_5⟩:=at_T24 HR0.out x5_1 p489 q489
          obtain rfl:ad488=ad489:=(by injection e489)
          try (have h_:=hx489_5.symm.trans hw487_5;injection h_ with h_;injection h_ with h1_ h3_ h2_;subst h1_;subst h2_)
          replace hx489_0:=ph_ HB.out hx489_0
          replace hx489_1:=ph_ HB.out hx489_1
          replace hx489_2:=ph_ HB.out hx489_2
          replace hx489_3:=ph_ HB.out hx489_3
          replace hx489_4:=ph_ HB.out hx489_4
          replace hx489_5:=ph_ HB.out hx489_5
          replace hx489_6:=ph_ HB.out hx489_6
          have HR489_5:=A_ hi489_5
          have HC489_5:=A_ hl489_5
          clear hi489_5 hl489_5
          replace p489:=eq_true p489
          replace q489:=eq_true q489
          have ea_:=oi_ (hx488_5.symm.trans hx489_5)
          injection ea_ with ea_ en_ ec_
          subst ea_
          subst ec_
          clear en_
          have p490:0≤(x5_1:Int):=oa_
          have q490:x5_1<(l0.length:Int):=oa_
          obtain ⟨ad490,A490_5,c490_5,e490,hx490_0,hx490_1,hx490_2,hx490_3,hx490_4,hx490_5,hx490_6,hl490_5,hi490_5⟩:=at_T24 HR0.out x5_1 p490 q490
          obtain rfl:ad488=ad490:=(by injection e490)
          try (have h_:=hx490_5.symm.trans hw488_5;injection h_ with h_;injection h_ with h1_ h3_ h2_;subst h1_;subst h2_)
          replace hx490_0:=ph_ HB.out hx490_0
          replace hx490_1:=ph_ HB.out hx490_1
          replace hx490_2:=ph_ HB.out hx490_2
          replace hx490_3:=ph_ HB.out hx490_3
          replace hx490_4:=ph_ HB.out hx490_4
          replace hx490_5:=ph_ HB.out hx490_5
          replace hx490_6:=ph_ HB.out hx490_6
          have HR490_5:=A_ hi490_5
          have HC490_5:=A_ hl490_5
          clear hi490_5 hl490_5
          replace p490:=eq_true p490
          replace q490:=eq_true q490
          have ea_:=oi_ (hx488_5.symm.trans hx490_5)
          injection ea_ with ea_ en_ ec_
          subst ea_
          subst ec_
          clear en_
          try go_wp2
          have n0_:=A_ (b1_ HB.out)
          clear HB
          have HB:=n0_
          clear n0_
          have p491:0≤(x5_1:Int):=oa_
          have q491:x5_1<(l0.length:Int):=oa_
          obtain ⟨ad491,A491_5,c491_5,e491,hx491_0,hx491_1,hx491_2,hx491_3,hx491_4,hx491_5,hx491_6,hl491_5,hi491_5⟩:=at_T24 HR0.out x5_1 p491 q491
          have hw491_6:=hx491_6
          have hw491_5:=hx491_5
          have hw491_4:=hx491_4
          have hw491_3:=hx491_3
          have hw491_2:=hx491_2
          have hw491_1:=hx491_1
          have hw491_0:=hx491_0
          obtain rfl:ad488=ad491:=(by injection e491)
          try (have h_:=hx491_5.symm.trans hw489_5;injection h_ with h_;injection h_ with h1_ h3_ h2_;subst h1_;subst h2_)
          replace hx491_0:=ph_ HB.out hx491_0
          replace hx491_1:=ph_ HB.out hx491_1
          replace hx491_2:=ph_ HB.out hx491_2
          replace hx491_3:=ph_ HB.out hx491_3
          replace hx491_4:=ph_ HB.out hx491_4
          replace hx491_5:=ph_ HB.out hx491_5
          replace hx491_6:=ph_ HB.out hx491_6
          have HR491_5:=A_ hi491_5
          have HC491_5:=A_ hl491_5
          clear hi491_5 hl491_5
          replace p491:=eq_true p491
          replace q491:=eq_true q491
          refine start_ (n:=8) (S:=fun w'=>w'.cell? (ad488.add ((x5_1).toNat * 7))=some (.int .i64 ((rd_T24 l0 x5_1).f0))∧w'.cell? ⟨(ad488.add ((x5_1).toNat * 7)).block,(ad488.add ((x5_1).toNat * 7)).off+1,none⟩=some (.int .i64 ((rd_T24 l0 x5_1).f1))∧w'.cell? ⟨(ad488.add ((x5_1).toNat * 7)).block,(ad488.add ((x5_1).toNat * 7)).off+2,none⟩=some (.int .i64 ((rd_T24 l0 x5_1).f2))∧w'.cell? ⟨(ad488.add ((x5_1).toNat * 7)).block,(ad488.add ((x5_1).toNat * 7)).off+3,none⟩=some (.string ((rd_T24 l0 x5_1).f3))∧w'.cell? ⟨(ad488.add ((x5_1).toNat * 7)).block,(ad488.add ((x5_1).toNat * 7)).off+4,none⟩=some (.string ((rd_T24 l0 x5_1).f4))∧w'.cell? ⟨(ad488.add ((x5_1).toNat * 7)).block,(ad488.add ((x5_1).toNat * 7)).off+5,none⟩=some (.slice A491_5 ((rd_T24 l0 x5_1).f5).length c491_5)∧w'.cell? ⟨(ad488.add ((x5_1).toNat * 7)).block,(ad488.add ((x5_1).toNat * 7)).off+6,none⟩=some (.bool ((rd_T24 l0 x5_1).f6))) (ds:=[]) #[F_,F_,F_,F_,F_,F_,F_,F_] (by kernel_rfl) rfl rfl ⟨(ph_ HB.out hw491_0),(ph_ HB.out hw491_1),(ph_ HB.out hw491_2),(ph_ HB.out hw491_3),(ph_ HB.out hw491_4),(ph_ HB.out hw491_5),(ph_ HB.out hw491_6)⟩ (fun hHeld=>?_);refine with_tabW laws_heldTokenS.tab13 laws_heldTokenS.bits13 (fun HT_ HW_=>?_)
          generalize wr.drew=w30 at HB HR491_5 hx491_0 hx491_1 hx491_2 hx491_3 hx491_4 hx491_5 hx491_6 hHeld ⊢
          refine pure_ (i:=0) (N:=some 39) (v:=?_) (a':=?_) #[T_,F_,F_,F_,F_,F_,F_,F_] rfl rfl (any_of HT_.out (by kernel_rfl)) (fun _ _ _ h=>h) (Or.inl ⟨by rfl,?_⟩) ?_ ?_
          rotate_left
          ·intro w'
           go_simp
           with_reducible rfl
          rotate_left
          ·simp only [Act.put,ls_,lz_,lc_,i64_w,i32_w]
           rfl
          refine pure_ (i:=1) (N:=some 40) (v:=?_) (a':=?_) #[T_,T_,F_,F_,F_,F_,F_,F_] rfl rfl (any_of HT_.out (by kernel_rfl)) (fun _ _ _ h=>h) (Or.inl ⟨by rfl,?_⟩) ?_ ?_
          rotate_left
          ·intro w'
           go_simp
           with_reducible rfl
          rotate_left
          ·simp only [Act.put,ls_,lz_,lc_,i64_w,i32_w]
           rfl
          refine pure_ (i:=2) (N:=some 41) (v:=?_) (a':=?_) #[T_,T_,T_,F_,F_,F_,F_,F_] rfl rfl (any_of HT_.out (by kernel_rfl)) (fun _ _ _ h=>h) (Or.inl ⟨by rfl,?_⟩) ?_ ?_
          rotate_left
          ·intro w'
           go_simp
           with_reducible rfl
          rotate_left
          ·simp only [Act.put,ls_,lz_,lc_,i64_w,i32_w]
           rfl
          refine pure_ (i:=3) (N:=some 42) (v:=?_) (a':=?_) #[T_,T_,T_,T_,F_,F_,F_,F_] rfl rfl (any_of HT_.out (by kernel_rfl)) (fun _ _ _ h=>h) (Or.inl ⟨by rfl,?_⟩) ?_ ?_
          rotate_left
          ·intro w'
           go_simp
           with_reducible rfl
          rotate_left
          ·simp only [Act.put,ls_,lz_,lc_,i64_w,i32_w]
           rfl
          refine pure_ (i:=5) (N:=some 44) (v:=?_) (a':=?_) #[T_,T_,T_,T_,F_,T_,F_,F_] rfl rfl (any_of HT_.out (by kernel_rfl)) (fun _ _ _ h=>h) (Or.inl ⟨by rfl,?_⟩) ?_ ?_
          rotate_left
          ·intro w'
           go_simp
           with_reducible rfl
          rotate_left
          ·simp only [Act.put,ls_,lz_,lc_,i64_w,i32_w]
           rfl
          refine take_ (i:=4) (N:=some 43) (v:=?_) (a':=?_) #[T_,T_,T_,T_,T_,T_,F_,F_] rfl rfl (take_ofW HT_.out HW_.out (by kernel_rfl)) (fun _ _ _ h=>h) (Or.inl ⟨by rfl,?_⟩) hHeld ?_ ?_
          rotate_left
          ·rintro w' ⟨s0,s1,s2,s3,s4,s5,s6⟩
           go_simp
           with_reducible rfl
          rotate_left
          ·simp only [Act.put,ls_,lz_,lc_,i64_w,i32_w]
           rfl
          refine one_ (i:=6) (N:=some 45) #[T_,T_,T_,T_,T_,T_,T_,F_] rfl rfl (one_of HT_.out (by kernel_rfl)) (by decide) (fun K hK=>?_)
          refine goes_ Tryz.func27 (by kernel_rfl) rfl #[.int .i64 (wrap64 ((wrap64 ((wrap64 (x1_1+1))+1))+1))] (by rfl) rfl rfl (by (try simp only [List.map_toArray,List.map_cons,List.map_nil]);first|done|rfl|(simp only [ld_,lt_];rfl)) ?_
          with_reducible refine (laws_markText.calls k1 (wrap64 ((wrap64 ((wrap64 (x1_1+1))+1))+1)) t492 _ A8.out).mono ?_
          rintro e w31 ⟨rfl,hb⟩
          refine ⟨_,rfl,?_⟩
          have n0_:=A_ (bp_ (bq0_ HB.out) hb)
          clear HB
          have HB:=n0_
          clear n0_
          (try clear hb)
          (try clear hb2)
          (try clear hk)
          (try clear hi)
          refine hK.out _ _ ⟨(ph_ HB.out hw491_0),(ph_ HB.out hw491_1),(ph_ HB.out hw491_2),(ph_ HB.out hw491_3),(ph_ HB.out hw491_4),(ph_ HB.out hw491_5),(ph_ HB.out hw491_6)⟩ (fun hHeld=>?_)
          clear hK K
          refine norm_ (a':=?_) ?_ ?_
          rotate_left
          ·show Act.put _ (some 45) _=_
           simp only [Act.put,ls_,lz_,lc_,i64_w,i32_w]
           rfl
          refine pure_ (i:=7) (N:=some 46) (v:=?_) (a':=?_) #[T_,T_,T_,T_,T_,T_,T_,T_] rfl rfl (any_of HT_.out (by kernel_rfl)) (fun _ _ _ h=>h) (Or.inl ⟨by rfl,?_⟩) ?_ ?_
          rotate_left
          ·intro w'
           go_simp
           with_reducible rfl
          rotate_left
          ·simp only [Act.put,ls_,lz_,lc_,i64_w,i32_w]
           rfl
          refine done_ (done_of HT_.out (by kernel_rfl)) ?_
          try go_wp2
          have n0_:=A_ (b1_ HB.out)
          clear HB
          have HB:=n0_
          clear n0_
          have p493:0≤(x5_1:Int):=oa_
          have q493:x5_1<(l0.length:Int):=oa_
          obtain ⟨ad493,A493_5,c493_5,e493,hx493_0,hx493_1,hx493_2,hx493_3,hx493_4,hx493_5,hx493_6,hl493_5,hi493_5⟩:=at_T24 HR0.out x5_1 p493 q493
          have hw493_6:=hx493_6
          have hw493_5:=hx493_5
          have hw493_4:=hx493_4
          have hw493_3:=hx493_3
          have hw493_2:=hx493_2
          have hw493_1:=hx493_1
          have hw493_0:=hx493_0
          obtain rfl:ad488=ad493:=(by injection e493)
          try (have h_:=hx493_5.symm.trans hw491_5;injection h_ with h_;injection h_ with h1_ h3_ h2_;subst h1_;subst h2_)
          replace hx493_0:=ph_ HB.out hx493_0
          replace hx493_1:=ph_ HB.out hx493_1
          replace hx493_2:=ph_ HB.out hx493_2
          replace hx493_3:=ph_ HB.out hx493_3
          replace hx493_4:=ph_ HB.out hx493_4
          replace hx493_5:=ph_ HB.out hx493_5
          replace hx493_6:=ph_ HB.out hx493_6
          have HR493_5:=A_ hi493_5
          have HC493_5:=A_ hl493_5
          clear hi493_5 hl493_5
          replace p493:=eq_true p493
          replace q493:=eq_true q493
          refine start_ (n:=8) (S:=fun w'=>w'.cell? (ad488.add ((x5_1).toNat * 7))=some (.int .i64 ((rd_T24 l0 x5_1).f0))∧w'.cell? ⟨(ad488.add ((x5_1).toNat * 7)).block,(ad488.add ((x5_1).toNat * 7)).off+1,none⟩=some (.int .i64 ((rd_T24 l0 x5_1).f1))∧w'.cell? ⟨(ad488.add ((x5_1).toNat * 7)).block,(ad488.add ((x5_1).toNat * 7)).off+2,none⟩=some (.int .i64 ((rd_T24 l0 x5_1).f2))∧w'.cell? ⟨(ad488.add ((x5_1).toNat * 7)).block,(ad488.add ((x5_1).toNat * 7)).off+3,none⟩=some (.string ((rd_T24 l0 x5_1).f3))∧w'.cell? ⟨(ad488.add ((x5_1).toNat * 7)).block,(ad488.add ((x5_1).toNat * 7)).off+4,none⟩=some (.string ((rd_T24 l0 x5_1).f4))∧w'.cell? ⟨(ad488.add ((x5_1).toNat * 7)).block,(ad488.add ((x5_1).toNat * 7)).off+5,none⟩=some (.slice A493_5 ((rd_T24 l0 x5_1).f5).length c493_5)∧w'.cell? ⟨(ad488.add ((x5_1).toNat * 7)).block,(ad488.add ((x5_1).toNat * 7)).off+6,none⟩=some (.bool ((rd_T24 l0 x5_1).f6))) (ds:=[]) #[F_,F_,F_,F_,F_,F_,F_,F_] (by kernel_rfl) rfl rfl ⟨(ph_ HB.out hw493_0),(ph_ HB.out hw493_1),(ph_ HB.out hw493_2),(ph_ HB.out hw493_3),(ph_ HB.out hw493_4),(ph_ HB.out hw493_5),(ph_ HB.out hw493_6)⟩ (fun hHeld=>?_);refine with_tabW laws_heldTokenS.tab16 laws_heldTokenS.bits16 (fun HT_ HW_=>?_)
          generalize w31.drew=w32 at HB HR493_5 hx493_0 hx493_1 hx493_2 hx493_3 hx493_4 hx493_5 hx493_6 hHeld ⊢
          refine pure_ (i:=0) (N:=some 49) (v:=?_) (a':=?_) #[T_,F_,F_,F_,F_,F_,F_,F_] rfl rfl (any_of HT_.out (by kernel_rfl)) (fun _ _ _ h=>h) (Or.inl ⟨by rfl,?_⟩) ?_ ?_
          rotate_left
          ·intro w'
           go_simp
           with_reducible rfl
          rotate_left
          ·simp only [Act.put,ls_,lz_,lc_,i64_w,i32_w]
           rfl
          refine pure_ (i:=1) (N:=some 50) (v:=?_) (a':=?_) #[T_,T_,F_,F_,F_,F_,F_,F_] rfl rfl (any_of HT_.out (by kernel_rfl)) (fun _ _ _ h=>h) (Or.inl ⟨by rfl,?_⟩) ?_ ?_
          rotate_left
          ·intro w'
           go_simp
           with_reducible rfl
          rotate_left
          ·simp only [Act.put,ls_,lz_,lc_,i64_w,i32_w]
           rfl
          refine pure_ (i:=2) (N:=some 51) (v:=?_) (a':=?_) #[T_,T_,T_,F_,F_,F_,F_,F_] rfl rfl (any_of HT_.out (by kernel_rfl)) (fun _ _ _ h=>h) (Or.inl ⟨by rfl,?_⟩) ?_ ?_
          rotate_left
          ·intro w'
           go_simp
           with_reducible rfl
          rotate_left
          ·simp only [Act.put,ls_,lz_,lc_,i64_w,i32_w]
           rfl
          refine pure_ (i:=3) (N:=some 52) (v:=?_) (a':=?_) #[T_,T_,T_,T_,F_,F_,F_,F_] rfl rfl (any_of HT_.out (by kernel_rfl)) (fun _ _ _ h=>h) (Or.inl ⟨by rfl,?_⟩) ?_ ?_
          rotate_left
          ·intro w'
           go_simp
           with_reducible rfl
          rotate_left
          ·simp only [Act.put,ls_,lz_,lc_,i64_w,i32_w]
           rfl
          refine pure_ (i:=5) (N:=some 54) (v:=?_) (a':=?_) #[T_,T_,T_,T_,F_,T_,F_,F_] rfl rfl (any_of HT_.out (by kernel_rfl)) (fun _ _ _ h=>h) (Or.inl ⟨by rfl,?_⟩) ?_ ?_
          rotate_left
          ·intro w'
           go_simp
           with_reducible rfl
          rotate_left
          ·simp only [Act.put,ls_,lz_,lc_,i64_w,i32_w]
           rfl
          refine take_ (i:=4) (N:=some 53) (v:=?_) (a':=?_) #[T_,T_,T_,T_,T_,T_,F_,F_] rfl rfl (take_ofW HT_.out HW_.out (by kernel_rfl)) (fun _ _ _ h=>h) (Or.inl ⟨by rfl,?_⟩) hHeld ?_ ?_
          rotate_left
          ·rintro w' ⟨s0,s1,s2,s3,s4,s5,s6⟩
           go_simp
           with_reducible rfl
          rotate_left
          ·simp only [Act.put,ls_,lz_,lc_,i64_w,i32_w]
           rfl
          refine one_ (i:=6) (N:=some 55) #[T_,T_,T_,T_,T_,T_,T_,F_] rfl rfl (one_of HT_.out (by kernel_rfl)) (by decide) (fun K hK=>?_)
          refine goes_ Tryz.func27 (by kernel_rfl) rfl #[.int .i64 (wrap64 ((wrap64 ((wrap64 ((wrap64 (x1_1+1))+1))+1))+1))] (by rfl) rfl rfl (by (try simp only [List.map_toArray,List.map_cons,List.map_nil]);first|done|rfl|(simp only [ld_,lt_];rfl)) ?_
          with_reducible refine (laws_markText.calls k1 (wrap64 ((wrap64 ((wrap64 ((wrap64 (x1_1+1))+1))+1))+1)) t494 _ A10.out).mono ?_
          rintro e w33 ⟨rfl,hb⟩
          refine ⟨_,rfl,?_⟩
          have n0_:=A_ (bp_ (bq0_ HB.out) hb)
          clear HB
          have HB:=n0_
          clear n0_
          (try clear hb)
          (try clear hb2)
          (try clear hk)
          (try clear hi)
          refine hK.out _ _ ⟨(ph_ HB.out hw493_0),(ph_ HB.out hw493_1),(ph_ HB.out hw493_2),(ph_ HB.out hw493_3),(ph_ HB.out hw493_4),(ph_ HB.out hw493_5),(ph_ HB.out hw493_6)⟩ (fun hHeld=>?_)
          clear hK K
          refine norm_ (a':=?_) ?_ ?_
          rotate_left
          ·show Act.put _ (some 55) _=_
           simp only [Act.put,ls_,lz_,lc_,i64_w,i32_w]
           rfl
          refine pure_ (i:=7) (N:=some 56) (v:=?_) (a':=?_) #[T_,T_,T_,T_,T_,T_,T_,T_] rfl rfl (any_of HT_.out (by kernel_rfl)) (fun _ _ _ h=>h) (Or.inl ⟨by rfl,?_⟩) ?_ ?_
          rotate_left
          ·intro w'
           go_simp
           with_reducible rfl
          rotate_left
          ·simp only [Act.put,ls_,lz_,lc_,i64_w,i32_w]
           rfl
          refine done_ (done_of HT_.out (by kernel_rfl)) ?_
          try go_wp2
          go_ret
          exact ⟨by first|rfl|(simp [errW_none,errW_some] <;> rfl)|(simp [*,errW_none,errW_some] <;> rfl),bq0_ HB.out⟩
        ·rw [if_neg c9] at H
         have c9b0:(((rd_T24 l0 x5_1).f3).toList == t492.toList)=false:=beq_eq_false_iff_ne.mpr c9
         have c9b1:(((rd_T24 l0 x5_1).f3).toList != t492.toList)=true:=bne_iff_ne.mpr c9
         obtain rfl:=oi_ H
         have p488:0≤(x5_1:Int):=oa_
         have q488:x5_1<(l0.length:Int):=oa_
         obtain ⟨ad488,A488_5,c488_5,e488,hx488_0,hx488_1,hx488_2,hx488_3,hx488_4,hx488_5,hx488_6,hl488_5,hi488_5⟩:=at_T24 HR0.out x5_1 p488 q488
         cases e488
         replace hx488_0:=ph_ HB.out hx488_0
         replace hx488_1:=ph_ HB.out hx488_1
         replace hx488_2:=ph_ HB.out hx488_2
         replace hx488_3:=ph_ HB.out hx488_3
         replace hx488_4:=ph_ HB.out hx488_4
         replace hx488_5:=ph_ HB.out hx488_5
         replace hx488_6:=ph_ HB.out hx488_6
         have HR488_5:=A_ hi488_5
         have HC488_5:=A_ hl488_5
         clear hi488_5 hl488_5
         replace p488:=eq_true p488
         replace q488:=eq_true q488
         have p489:0≤(x5_1:Int):=oa_
         have q489:x5_1<(l0.length:Int):=oa_
         obtain ⟨ad489,A489_5,c489_5,e489,hx489_0,hx489_1,hx489_2,hx489_3,hx489_4,hx489_5,hx489_6,hl489_5,hi489_5⟩:=at_T24 HR0.out x5_1 p489 q489
         obtain rfl:ad488=ad489:=(by injection e489)
         try (have h_:=hx489_5.symm.trans hw487_5;injection h_ with h_;injection h_ with h1_ h3_ h2_;subst h1_;subst h2_)
         replace hx489_0:=ph_ HB.out hx489_0
         replace hx489_1:=ph_ HB.out hx489_1
         replace hx489_2:=ph_ HB.out hx489_2
         replace hx489_3:=ph_ HB.out hx489_3
         replace hx489_4:=ph_ HB.out hx489_4
         replace hx489_5:=ph_ HB.out hx489_5
         replace hx489_6:=ph_ HB.out hx489_6
         have HR489_5:=A_ hi489_5
         have HC489_5:=A_ hl489_5
         clear hi489_5 hl489_5
         replace p489:=eq_true p489
         replace q489:=eq_true q489
         have ea_:=oi_ (hx488_5.symm.trans hx489_5)
         injection ea_ with ea_ en_ ec_
         subst ea_
         subst ec_
         clear en_
         have p490:0≤(x5_1:Int):=oa_
         have q490:x5_1<(l0.length:Int):=oa_
         obtain ⟨ad490,A490_5,c490_5,e490,hx490_0,hx490_1,hx490_2,hx490_3,hx490_4,hx490_5,hx490_6,hl490_5,hi490_5⟩:=at_T24 HR0.out x5_1 p490 q490
         obtain rfl:ad488=ad490:=(by injection e490)
         try (have h_:=hx490_5.symm.trans hw488_5;injection h_ with h_;injection h_ with h1_ h3_ h2_;subst h1_;subst h2_)
         replace hx490_0:=ph_ HB.out hx490_0
         replace hx490_1:=ph_ HB.out hx490_1
         replace hx490_2:=ph_ HB.out hx490_2
         replace hx490_3:=ph_ HB.out hx490_3
         replace hx490_4:=ph_ HB.out hx490_4
         replace hx490_5:=ph_ HB.out hx490_5
         replace hx490_6:=ph_ HB.out hx490_6
         have HR490_5:=A_ hi490_5
         have HC490_5:=A_ hl490_5
         clear hi490_5 hl490_5
         replace p490:=eq_true p490
         replace q490:=eq_true q490
         have ea_:=oi_ (hx488_5.symm.trans hx490_5)
         injection ea_ with ea_ en_ ec_
         subst ea_
         subst ec_
         clear en_
         try go_wp2
         have n0_:=A_ (b1_ HB.out)
         clear HB
         have HB:=n0_
         clear n0_
         have p491:0≤(x5_1:Int):=oa_
         have q491:x5_1<(l0.length:Int):=oa_
         obtain ⟨ad491,A491_5,c491_5,e491,hx491_0,hx491_1,hx491_2,hx491_3,hx491_4,hx491_5,hx491_6,hl491_5,hi491_5⟩:=at_T24 HR0.out x5_1 p491 q491
         have hw491_6:=hx491_6
         have hw491_5:=hx491_5
         have hw491_4:=hx491_4
         have hw491_3:=hx491_3
         have hw491_2:=hx491_2
         have hw491_1:=hx491_1
         have hw491_0:=hx491_0
         obtain rfl:ad488=ad491:=(by injection e491)
         try (have h_:=hx491_5.symm.trans hw489_5;injection h_ with h_;injection h_ with h1_ h3_ h2_;subst h1_;subst h2_)
         replace hx491_0:=ph_ HB.out hx491_0
         replace hx491_1:=ph_ HB.out hx491_1
         replace hx491_2:=ph_ HB.out hx491_2
         replace hx491_3:=ph_ HB.out hx491_3
         replace hx491_4:=ph_ HB.out hx491_4
         replace hx491_5:=ph_ HB.out hx491_5
         replace hx491_6:=ph_ HB.out hx491_6
         have HR491_5:=A_ hi491_5
         have HC491_5:=A_ hl491_5
         clear hi491_5 hl491_5
         replace p491:=eq_true p491
         replace q491:=eq_true q491
         refine start_ (n:=8) (S:=fun w'=>w'.cell? (ad488.add ((x5_1).toNat * 7))=some (.int .i64 ((rd_T24 l0 x5_1).f0))∧w'.cell? ⟨(ad488.add ((x5_1).toNat * 7)).block,(ad488.add ((x5_1).toNat * 7)).off+1,none⟩=some (.int .i64 ((rd_T24 l0 x5_1).f1))∧w'.cell? ⟨(ad488.add ((x5_1).toNat * 7)).block,(ad488.add ((x5_1).toNat * 7)).off+2,none⟩=some (.int .i64 ((rd_T24 l0 x5_1).f2))∧w'.cell? ⟨(ad488.add ((x5_1).toNat * 7)).block,(ad488.add ((x5_1).toNat * 7)).off+3,none⟩=some (.string ((rd_T24 l0 x5_1).f3))∧w'.cell? ⟨(ad488.add ((x5_1).toNat * 7)).block,(ad488.add ((x5_1).toNat * 7)).off+4,none⟩=some (.string ((rd_T24 l0 x5_1).f4))∧w'.cell? ⟨(ad488.add ((x5_1).toNat * 7)).block,(ad488.add ((x5_1).toNat * 7)).off+5,none⟩=some (.slice A491_5 ((rd_T24 l0 x5_1).f5).length c491_5)∧w'.cell? ⟨(ad488.add ((x5_1).toNat * 7)).block,(ad488.add ((x5_1).toNat * 7)).off+6,none⟩=some (.bool ((rd_T24 l0 x5_1).f6))) (ds:=[]) #[F_,F_,F_,F_,F_,F_,F_,F_] (by kernel_rfl) rfl rfl ⟨(ph_ HB.out hw491_0),(ph_ HB.out hw491_1),(ph_ HB.out hw491_2),(ph_ HB.out hw491_3),(ph_ HB.out hw491_4),(ph_ HB.out hw491_5),(ph_ HB.out hw491_6)⟩ (fun hHeld=>?_);refine with_tabW laws_heldTokenS.tab13 laws_heldTokenS.bits13 (fun HT_ HW_=>?_)
         generalize wr.drew=w34 at HB HR491_5 hx491_0 hx491_1 hx491_2 hx491_3 hx491_4 hx491_5 hx491_6 hHeld ⊢
         refine pure_ (i:=0) (N:=some 39) (v:=?_) (a':=?_) #[T_,F_,F_,F_,F_,F_,F_,F_] rfl rfl (any_of HT_.out (by kernel_rfl)) (fun _ _ _ h=>h) (Or.inl ⟨by rfl,?_⟩) ?_ ?_
         rotate_left
         ·intro w'
          go_simp
          with_reducible rfl
         rotate_left
         ·simp only [Act.put,ls_,lz_,lc_,i64_w,i32_w]
          rfl
         refine pure_ (i:=1) (N:=some 40) (v:=?_) (a':=?_) #[T_,T_,F_,F_,F_,F_,F_,F_] rfl rfl (any_of HT_.out (by kernel_rfl)) (fun _ _ _ h=>h) (Or.inl ⟨by rfl,?_⟩) ?_ ?_
         rotate_left
         ·intro w'
          go_simp
          with_reducible rfl
         rotate_left
         ·simp only [Act.put,ls_,lz_,lc_,i64_w,i32_w]
          rfl
         refine pure_ (i:=2) (N:=some 41) (v:=?_) (a':=?_) #[T_,T_,T_,F_,F_,F_,F_,F_] rfl rfl (any_of HT_.out (by kernel_rfl)) (fun _ _ _ h=>h) (Or.inl ⟨by rfl,?_⟩) ?_ ?_
         rotate_left
         ·intro w'
          go_simp
          with_reducible rfl
         rotate_left
         ·simp only [Act.put,ls_,lz_,lc_,i64_w,i32_w]
          rfl
         refine pure_ (i:=3) (N:=some 42) (v:=?_) (a':=?_) #[T_,T_,T_,T_,F_,F_,F_,F_] rfl rfl (any_of HT_.out (by kernel_rfl)) (fun _ _ _ h=>h) (Or.inl ⟨by rfl,?_⟩) ?_ ?_
         rotate_left
         ·intro w'
          go_simp
          with_reducible rfl
         rotate_left
         ·simp only [Act.put,ls_,lz_,lc_,i64_w,i32_w]
          rfl
         refine pure_ (i:=5) (N:=some 44) (v:=?_) (a':=?_) #[T_,T_,T_,T_,F_,T_,F_,F_] rfl rfl (any_of HT_.out (by kernel_rfl)) (fun _ _ _ h=>h) (Or.inl ⟨by rfl,?_⟩) ?_ ?_
         rotate_left
         ·intro w'
          go_simp
          with_reducible rfl
         rotate_left
         ·simp only [Act.put,ls_,lz_,lc_,i64_w,i32_w]
          rfl
         refine take_ (i:=4) (N:=some 43) (v:=?_) (a':=?_) #[T_,T_,T_,T_,T_,T_,F_,F_] rfl rfl (take_ofW HT_.out HW_.out (by kernel_rfl)) (fun _ _ _ h=>h) (Or.inl ⟨by rfl,?_⟩) hHeld ?_ ?_
         rotate_left
         ·rintro w' ⟨s0,s1,s2,s3,s4,s5,s6⟩
          go_simp
          with_reducible rfl
         rotate_left
         ·simp only [Act.put,ls_,lz_,lc_,i64_w,i32_w]
          rfl
         refine one_ (i:=6) (N:=some 45) #[T_,T_,T_,T_,T_,T_,T_,F_] rfl rfl (one_of HT_.out (by kernel_rfl)) (by decide) (fun K hK=>?_)
         refine goes_ Tryz.func27 (by kernel_rfl) rfl #[.int .i64 (wrap64 ((wrap64 ((wrap64 (x1_1+1))+1))+1))] (by rfl) rfl rfl (by (try simp only [List.map_toArray,List.map_cons,List.map_nil]);first|done|rfl|(simp only [ld_,lt_];rfl)) ?_
         with_reducible refine (laws_markText.calls k1 (wrap64 ((wrap64 ((wrap64 (x1_1+1))+1))+1)) t492 _ A8.out).mono ?_
         rintro e w35 ⟨rfl,hb⟩
         refine ⟨_,rfl,?_⟩
         have n0_:=A_ (bp_ (bq0_ HB.out) hb)
         clear HB
         have HB:=n0_
         clear n0_
         (try clear hb)
         (try clear hb2)
         (try clear hk)
         (try clear hi)
         refine hK.out _ _ ⟨(ph_ HB.out hw491_0),(ph_ HB.out hw491_1),(ph_ HB.out hw491_2),(ph_ HB.out hw491_3),(ph_ HB.out hw491_4),(ph_ HB.out hw491_5),(ph_ HB.out hw491_6)⟩ (fun hHeld=>?_)
         clear hK K
         refine norm_ (a':=?_) ?_ ?_
         rotate_left
         ·show Act.put _ (some 45) _=_
          simp only [Act.put,ls_,lz_,lc_,i64_w,i32_w]
          rfl
         refine pure_ (i:=7) (N:=some 46) (v:=?_) (a':=?_) #[T_,T_,T_,T_,T_,T_,T_,T_] rfl rfl (any_of HT_.out (by kernel_rfl)) (fun _ _ _ h=>h) (Or.inl ⟨by rfl,?_⟩) ?_ ?_
         rotate_left
         ·intro w'
          go_simp
          with_reducible rfl
         rotate_left
         ·simp only [Act.put,ls_,lz_,lc_,i64_w,i32_w]
          rfl
         refine done_ (done_of HT_.out (by kernel_rfl)) ?_
         try go_wp2
         go_ret
         exact ⟨by first|rfl|(simp [errW_none,errW_some] <;> rfl)|(simp [*,errW_none,errW_some] <;> rfl),bq0_ HB.out⟩
       ·rw [if_neg c7] at H
        have c7b0:(((rd_T24 l0 x5_1).f2) == (wrap64 ((wrap64 (x1_1+1))+1)))=false:=beq_eq_false_iff_ne.mpr c7
        have c7b1:(((rd_T24 l0 x5_1).f2) != (wrap64 ((wrap64 (x1_1+1))+1)))=true:=bne_iff_ne.mpr c7
        obtain rfl:=oi_ H
        have p488:0≤(x5_1:Int):=oa_
        have q488:x5_1<(l0.length:Int):=oa_
        obtain ⟨ad488,A488_5,c488_5,e488,hx488_0,hx488_1,hx488_2,hx488_3,hx488_4,hx488_5,hx488_6,hl488_5,hi488_5⟩:=at_T24 HR0.out x5_1 p488 q488
        cases e488
        replace hx488_0:=ph_ HB.out hx488_0
        replace hx488_1:=ph_ HB.out hx488_1
        replace hx488_2:=ph_ HB.out hx488_2
        replace hx488_3:=ph_ HB.out hx488_3
        replace hx488_4:=ph_ HB.out hx488_4
        replace hx488_5:=ph_ HB.out hx488_5
        replace hx488_6:=ph_ HB.out hx488_6
        have HR488_5:=A_ hi488_5
        have HC488_5:=A_ hl488_5
        clear hi488_5 hl488_5
        replace p488:=eq_true p488
        replace q488:=eq_true q488
        have p489:0≤(x5_1:Int):=oa_
        have q489:x5_1<(l0.length:Int):=oa_
        obtain ⟨ad489,A489_5,c489_5,e489,hx489_0,hx489_1,hx489_2,hx489_3,hx489_4,hx489_5,hx489_6,hl489_5,hi489_5⟩:=at_T24 HR0.out x5_1 p489 q489
        obtain rfl:ad488=ad489:=(by injection e489)
        try (have h_:=hx489_5.symm.trans hw487_5;injection h_ with h_;injection h_ with h1_ h3_ h2_;subst h1_;subst h2_)
        replace hx489_0:=ph_ HB.out hx489_0
        replace hx489_1:=ph_ HB.out hx489_1
        replace hx489_2:=ph_ HB.out hx489_2
        replace hx489_3:=ph_ HB.out hx489_3
        replace hx489_4:=ph_ HB.out hx489_4
        replace hx489_5:=ph_ HB.out hx489_5
        replace hx489_6:=ph_ HB.out hx489_6
        have HR489_5:=A_ hi489_5
        have HC489_5:=A_ hl489_5
        clear hi489_5 hl489_5
        replace p489:=eq_true p489
        replace q489:=eq_true q489
        have ea_:=oi_ (hx488_5.symm.trans hx489_5)
        injection ea_ with ea_ en_ ec_
        subst ea_
        subst ec_
        clear en_
        have p490:0≤(x5_1:Int):=oa_
        have q490:x5_1<(l0.length:Int):=oa_
        obtain ⟨ad490,A490_5,c490_5,e490,hx490_0,hx490_1,hx490_2,hx490_3,hx490_4,hx490_5,hx490_6,hl490_5,hi490_5⟩:=at_T24 HR0.out x5_1 p490 q490
        obtain rfl:ad488=ad490:=(by injection e490)
        try (have h_:=hx490_5.symm.trans hw488_5;injection h_ with h_;injection h_ with h1_ h3_ h2_;subst h1_;subst h2_)
        replace hx490_0:=ph_ HB.out hx490_0
        replace hx490_1:=ph_ HB.out hx490_1
        replace hx490_2:=ph_ HB.out hx490_2
        replace hx490_3:=ph_ HB.out hx490_3
        replace hx490_4:=ph_ HB.out hx490_4
        replace hx490_5:=ph_ HB.out hx490_5
        replace hx490_6:=ph_ HB.out hx490_6
        have HR490_5:=A_ hi490_5
        have HC490_5:=A_ hl490_5
        clear hi490_5 hl490_5
        replace p490:=eq_true p490
        replace q490:=eq_true q490
        have ea_:=oi_ (hx488_5.symm.trans hx490_5)
        injection ea_ with ea_ en_ ec_
        subst ea_
        subst ec_
        clear en_
        go_wp2
        go_ret
        exact ⟨by first|rfl|(simp [errW_none,errW_some] <;> rfl)|(simp [*,errW_none,errW_some] <;> rfl),bq0_ HB.out⟩
      ·rw [if_neg c6] at H
       have c6b0:(((rd_T24 l0 x5_1).f1) == (wrap64 (x1_1+1)))=false:=beq_eq_false_iff_ne.mpr c6
       have c6b1:(((rd_T24 l0 x5_1).f1) != (wrap64 (x1_1+1)))=true:=bne_iff_ne.mpr c6
       obtain rfl:=oi_ H
       have p488:0≤(x5_1:Int):=oa_
       have q488:x5_1<(l0.length:Int):=oa_
       obtain ⟨ad488,A488_5,c488_5,e488,hx488_0,hx488_1,hx488_2,hx488_3,hx488_4,hx488_5,hx488_6,hl488_5,hi488_5⟩:=at_T24 HR0.out x5_1 p488 q488
       cases e488
       replace hx488_0:=ph_ HB.out hx488_0
       replace hx488_1:=ph_ HB.out hx488_1
       replace hx488_2:=ph_ HB.out hx488_2
       replace hx488_3:=ph_ HB.out hx488_3
       replace hx488_4:=ph_ HB.out hx488_4
       replace hx488_5:=ph_ HB.out hx488_5
       replace hx488_6:=ph_ HB.out hx488_6
       have HR488_5:=A_ hi488_5
       have HC488_5:=A_ hl488_5
       clear hi488_5 hl488_5
       replace p488:=eq_true p488
       replace q488:=eq_true q488
       have p489:0≤(x5_1:Int):=oa_
       have q489:x5_1<(l0.length:Int):=oa_
       obtain ⟨ad489,A489_5,c489_5,e489,hx489_0,hx489_1,hx489_2,hx489_3,hx489_4,hx489_5,hx489_6,hl489_5,hi489_5⟩:=at_T24 HR0.out x5_1 p489 q489
       obtain rfl:ad488=ad489:=(by injection e489)
       try (have h_:=hx489_5.symm.trans hw487_5;injection h_ with h_;injection h_ with h1_ h3_ h2_;subst h1_;subst h2_)
       replace hx489_0:=ph_ HB.out hx489_0
       replace hx489_1:=ph_ HB.out hx489_1
       replace hx489_2:=ph_ HB.out hx489_2
       replace hx489_3:=ph_ HB.out hx489_3
       replace hx489_4:=ph_ HB.out hx489_4
       replace hx489_5:=ph_ HB.out hx489_5
       replace hx489_6:=ph_ HB.out hx489_6
       have HR489_5:=A_ hi489_5
       have HC489_5:=A_ hl489_5
       clear hi489_5 hl489_5
       replace p489:=eq_true p489
       replace q489:=eq_true q489
       have ea_:=oi_ (hx488_5.symm.trans hx489_5)
       injection ea_ with ea_ en_ ec_
       subst ea_
       subst ec_
       clear en_
       go_wp2
       go_ret
       exact ⟨by first|rfl|(simp [errW_none,errW_some] <;> rfl)|(simp [*,errW_none,errW_some] <;> rfl),bq0_ HB.out⟩
     ·rw [if_neg c5] at H
      have c5b0:(((rd_T24 l0 x5_1).f0) == x1_1)=false:=beq_eq_false_iff_ne.mpr c5
      have c5b1:(((rd_T24 l0 x5_1).f0) != x1_1)=true:=bne_iff_ne.mpr c5
      obtain rfl:=oi_ H
      have p488:0≤(x5_1:Int):=oa_
      have q488:x5_1<(l0.length:Int):=oa_
      obtain ⟨ad488,A488_5,c488_5,e488,hx488_0,hx488_1,hx488_2,hx488_3,hx488_4,hx488_5,hx488_6,hl488_5,hi488_5⟩:=at_T24 HR0.out x5_1 p488 q488
      cases e488
      replace hx488_0:=ph_ HB.out hx488_0
      replace hx488_1:=ph_ HB.out hx488_1
      replace hx488_2:=ph_ HB.out hx488_2
      replace hx488_3:=ph_ HB.out hx488_3
      replace hx488_4:=ph_ HB.out hx488_4
      replace hx488_5:=ph_ HB.out hx488_5
      replace hx488_6:=ph_ HB.out hx488_6
      have HR488_5:=A_ hi488_5
      have HC488_5:=A_ hl488_5
      clear hi488_5 hl488_5
      replace p488:=eq_true p488
      replace q488:=eq_true q488
      go_wp2
      go_ret
      exact ⟨by first|rfl|(simp [errW_none,errW_some] <;> rfl)|(simp [*,errW_none,errW_some] <;> rfl),bq0_ HB.out⟩
    ·rw [if_neg c4] at H
     exact absurd H (by simp)
   ·rw [if_neg c3] at H
    have c3b0:decide (x5_1<(l0.length:Int))=false:=df_ c3
    clear c3
    obtain rfl:=oi_ H
    go_wp2
    go_ret
    exact ⟨by first|rfl|(simp [errW_none,errW_some] <;> rfl)|(simp [*,errW_none,errW_some] <;> rfl),bq0_ HB.out⟩
end Go.Proofs.YtfkanlbmgbkniaaGreatDoor.PFnExactTokensOf
