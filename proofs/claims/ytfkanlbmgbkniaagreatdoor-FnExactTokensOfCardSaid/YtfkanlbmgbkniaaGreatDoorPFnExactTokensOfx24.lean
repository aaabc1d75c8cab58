/- The machine side of a law, printed by a program. No conditions. -/
import Derived.Test.YtfkanlbmgbkniaaGreatDoorPFnExactTokensOfx0
import Derived.Test.YtfkanlbmgbkniaaGreatDoorPFnExactTokensOfx23
namespace Go.Proofs.YtfkanlbmgbkniaaGreatDoor.PFnExactTokensOf
open Go.RowKit Go.Proofs.YtfkanlbmgbkniaaGreatDoorW.PrintWords Go.Proofs.YtfkanlbmgbkniaaGreatDoorW.PrintLast Go.Proofs.YtfkanlbmgbkniaaGreatDoorW.PrintMore
attribute [local go_sem] max2_int min2_int max_two min_two max_three min_three max_four min_four
set_option linter.unusedVariables false
set_option linter.unusedSimpArgs false
def laws_eqTokenS.l0:Nat→List (S24)→List (S24)→Int→Option (Bool)
 | 0,_,_,_=>none
 | k+1,x0,x1,x5=>if x5<(x0.length:Int) then (if 0≤x5 then (if x5<(x1.length:Int) then ((laws_eqToken.f k ((rd_T24 x0 x5).f0) ((rd_T24 x0 x5).f1) ((rd_T24 x0 x5).f2) ((rd_T24 x0 x5).f3) ((rd_T24 x0 x5).f4) ((rd_T24 x0 x5).f5) ((rd_T24 x0 x5).f6) ((rd_T24 x1 x5).f0) ((rd_T24 x1 x5).f1) ((rd_T24 x1 x5).f2) ((rd_T24 x1 x5).f3) ((rd_T24 x1 x5).f4) ((rd_T24 x1 x5).f5) ((rd_T24 x1 x5).f6)).bind fun t476=>(if t476=true then (laws_eqTokenS.l0 k x0 x1 (wrap64 (x5+1))) else (some false))) else (none)) else (none)) else (some true)
def laws_eqTokenS.f (k:Nat) (l0:List (S24)) (l1:List (S24)):Option (Bool):=if (l0.length:Int)=(l1.length:Int) then (laws_eqTokenS.l0 k l0 l1 0) else (some false)
theorem laws_eqTokenS.mono_l:∀ k,(∀ y0 y1 y2,LeO (laws_eqTokenS.l0 k y0 y1 y2) (laws_eqTokenS.l0 (k+1) y0 y1 y2))
 | 0=>fun _ _ _ r h=>by simp [laws_eqTokenS.l0] at h
 | k+1=>by
  have ih0:=laws_eqTokenS.mono_l k
  ·intro y0 y1 y2
   unfold laws_eqTokenS.l0
   repeat' first|(with_reducible first|exact ih0 ..|exact laws_eqToken.mono ..|exact LeO.refl _|exact LeO.none _|refine LeO.ite ?_ ?_|refine LeO.bind ?_ (fun _=>?_))|exact ih0 ..|exact LeO.none _|refine LeO.ite ?_ ?_|refine LeO.bind ?_ (fun _=>?_)
theorem laws_eqTokenS.mono:∀ a0 a1 k,LeO (laws_eqTokenS.f k a0 a1) (laws_eqTokenS.f (k+1) a0 a1):=by
 intro a0 a1 k
 have ih0:=laws_eqTokenS.mono_l k
 unfold laws_eqTokenS.f
 repeat' first|(with_reducible first|exact ih0 ..|exact laws_eqToken.mono ..|exact LeO.refl _|exact LeO.none _|refine LeO.ite ?_ ?_|refine LeO.bind ?_ (fun _=>?_))|exact ih0 ..|exact LeO.none _|refine LeO.ite ?_ ?_|refine LeO.bind ?_ (fun _=>?_)
def laws_eqTokenS.T6:Bool × List (List Nat × List Nat):=(true,[([],[]),([],[]),([0,1],[0,1]),([2],[2]),([],[]),([],[]),([4,5],[4,5]),([6],[6]),([3,7],[3,7]),([8],[8])])
def laws_eqTokenS.B6:List Nat:=[0,0,3,7,0,0,48,112,255,511]
theorem laws_eqTokenS.tab6:rtab .any (opsOf Tryz.f12 6)=laws_eqTokenS.T6:=by kernel_rfl
theorem laws_eqTokenS.bits6:waitsOk laws_eqTokenS.T6.2 laws_eqTokenS.B6=true:=by kernel_rfl
set_option maxHeartbeats 8000000 in
set_option maxRecDepth 100000 in
theorem laws_eqTokenS.calls (k:Nat) (A0:Option Addr) (c0:Nat) (l0:List (S24)) (A1:Option Addr) (c1:Nat) (l1:List (S24)) (r:Bool) (w:World) (hr0:Kd.C k24 w A0 l0.length l0) (hc0:l0.length≤c0) (hr1:Kd.C k24 w A1 l1.length l1) (hc1:l1.length≤c1) (h:laws_eqTokenS.f k l0 l1=some r) :
 Calls Tryz.prog 12 #[.slice A0 l0.length c0,.slice A1 l1.length c1] w fun e w'=>e=.returned (.bool r)∧Below w.heap.size w w':=by
 have hu24:=Tryz.underlying24
 have HR0:=A_ hr0
 have HC0:=A_ hc0
 clear hr0 hc0
 have HR1:=A_ hr1
 have HC1:=A_ hc1
 clear hr1 hc1
 have HB:=A_ (Below.refl w.heap.size w)
 have H:(if (l0.length:Int)=(l1.length:Int) then (laws_eqTokenS.l0 k l0 l1 0) else (some false))=some r:=h
 clear h
 by_cases c3:(l0.length:Int)=(l1.length:Int)
 ·rw [if_pos c3] at H
  have c3b0:((l0.length:Int) == (l1.length:Int))=true:=beq_iff_eq.mpr c3
  have c3b1:((l0.length:Int) != (l1.length:Int))=false:=bne_eq_false_iff_eq.mpr c3
  have c3b2:(l0.length == l1.length)=true:=by first|simpa using c3|(simp at c3 ⊢;omega)
  clear c3
  have H':=A_ H
  clear H
  go_enter Tryz.func12,Tryz.ntmps12
  go_wp2
  go_loopg [5] k (fun kq v5 w'=>∃ (x5_1:Int),v5=.int .i64 x5_1∧Aside0 (laws_eqTokenS.l0 kq l0 l1 x5_1=some r)∧Aside0 (kq≤k)∧Aside0 (Below w.heap.size w w'))
  case atStart=>exact ⟨(0),rs_,H',⟨Nat.le_refl _⟩,⟨bq0_ HB.out⟩⟩
  case round =>
   clear H'
   try clear c1
   try clear p2
   try clear c3
   try clear c3b0
   try clear c3b1
   try clear c3b2
   obtain ⟨x5_1,rfl,HA,HK1,HB⟩:=hrel
   cases gk with
   | zero=>exact absurd HA.out (by simp [laws_eqTokenS.l0])
   | succ k1 =>
    have H:=HA.out
    clear HA
    simp only [laws_eqTokenS.l0] at H
    by_cases c4:x5_1<(l0.length:Int)
    ·rw [if_pos c4] at H
     have c4b0:decide (x5_1<(l0.length:Int))=true:=dt_ c4
     clear c4
     by_cases c5:0≤x5_1
     ·rw [if_pos c5] at H
      have c5b0:decide (0≤x5_1)=true:=dt_ c5
      clear c5
      by_cases c6:x5_1<(l1.length:Int)
      ·rw [if_pos c6] at H
       have c6b0:decide (x5_1<(l1.length:Int))=true:=dt_ c6
       clear c6
       replace H:=ob_ H
       obtain ⟨t476,A70,H⟩:=H
       replace H:(if t476=true then (laws_eqTokenS.l0 k1 l0 l1 (wrap64 (x5_1+1))) else (some false))=some r:=H
       have A7:=A_ A70
       clear A70
       by_cases c8:t476=true
       ·subst c8
        have H1:(laws_eqTokenS.l0 k1 l0 l1 (wrap64 (x5_1+1)))=some r:=by rw [if_pos rfl] at H;exact H
        clear H
        have H:=H1
        clear H1
        have H':=A_ H
        clear H
        try go_wp2
        have n0_:=A_ (b1_ HB.out)
        clear HB
        have HB:=n0_
        clear n0_
        have p474:0≤(x5_1:Int):=oa_
        have q474:x5_1<(l0.length:Int):=oa_
        obtain ⟨ad474,A474_5,c474_5,e474,hx474_0,hx474_1,hx474_2,hx474_3,hx474_4,hx474_5,hx474_6,hl474_5,hi474_5⟩:=at_T24 HR0.out x5_1 p474 q474
        have hw474_6:=hx474_6
        have hw474_5:=hx474_5
        have hw474_4:=hx474_4
        have hw474_3:=hx474_3
        have hw474_2:=hx474_2
        have hw474_1:=hx474_1
        have hw474_0:=hx474_0
        cases e474
        replace hx474_0:=ph_ HB.out hx474_0
        replace hx474_1:=ph_ HB.out hx474_1
        replace hx474_2:=ph_ HB.out hx474_2
        replace hx474_3:=ph_ HB.out hx474_3
        replace hx474_4:=ph_ HB.out hx474_4
        replace hx474_5:=ph_ HB.out hx474_5
        replace hx474_6:=ph_ HB.out hx474_6
        have HR474_5:=A_ hi474_5
        have HC474_5:=A_ hl474_5
        clear hi474_5 hl474_5
        replace p474:=eq_true p474
        replace q474:=eq_true q474
        have p475:0≤(x5_1:Int):=oa_
        have q475:x5_1<(l1.length:Int):=oa_
        obtain ⟨ad475,A475_5,c475_5,e475,hx475_0,hx475_1,hx475_2,hx475_3,hx475_4,hx475_5,hx475_6,hl475_5,hi475_5⟩:=at_T24 HR1.out x5_1 p475 q475
        have hw475_6:=hx475_6
        have hw475_5:=hx475_5
        have hw475_4:=hx475_4
        have hw475_3:=hx475_3
        have hw475_2:=hx475_2
        have hw475_1:=hx475_1
        have hw475_0:=hx475_0
        cases e475
        replace hx475_0:=ph_ HB.out hx475_0
        replace hx475_1:=ph_ HB.out hx475_1
        replace hx475_2:=ph_ HB.out hx475_2
        replace hx475_3:=ph_ HB.out hx475_3
        replace hx475_4:=ph_ HB.out hx475_4
        replace hx475_5:=ph_ HB.out hx475_5
        replace hx475_6:=ph_ HB.out hx475_6
        have HR475_5:=A_ hi475_5
        have HC475_5:=A_ hl475_5
        clear hi475_5 hl475_5
        replace p475:=eq_true p475
        replace q475:=eq_true q475
        refine start_ (n:=10) (S:=fun w'=>w'.cell? (ad474.add ((x5_1).toNat * 7))=some (.int .i64 ((rd_T24 l0 x5_1).f0))∧w'.cell? ⟨(ad474.add ((x5_1).toNat * 7)).block,(ad474.add ((x5_1).toNat * 7)).off+1,none⟩=some (.int .i64 ((rd_T24 l0 x5_1).f1))∧w'.cell? ⟨(ad474.add ((x5_1).toNat * 7)).block,(ad474.add ((x5_1).toNat * 7)).off+2,none⟩=some (.int .i64 ((rd_T24 l0 x5_1).f2))∧w'.cell? ⟨(ad474.add ((x5_1).toNat * 7)).block,(ad474.add ((x5_1).toNat * 7)).off+3,none⟩=some (.string ((rd_T24 l0 x5_1).f3))∧w'.cell? ⟨(ad474.add ((x5_1).toNat * 7)).block,(ad474.add ((x5_1).toNat * 7)).off+4,none⟩=some (.string ((rd_T24 l0 x5_1).f4))∧w'.cell? ⟨(ad474.add ((x5_1).toNat * 7)).block,(ad474.add ((x5_1).toNat * 7)).off+5,none⟩=some (.slice A474_5 ((rd_T24 l0 x5_1).f5).length c474_5)∧w'.cell? ⟨(ad474.add ((x5_1).toNat * 7)).block,(ad474.add ((x5_1).toNat * 7)).off+6,none⟩=some (.bool ((rd_T24 l0 x5_1).f6))∧w'.cell? (ad475.add ((x5_1).toNat * 7))=some (.int .i64 ((rd_T24 l1 x5_1).f0))∧w'.cell? ⟨(ad475.add ((x5_1).toNat * 7)).block,(ad475.add ((x5_1).toNat * 7)).off+1,none⟩=some (.int .i64 ((rd_T24 l1 x5_1).f1))∧w'.cell? ⟨(ad475.add ((x5_1).toNat * 7)).block,(ad475.add ((x5_1).toNat * 7)).off+2,none⟩=some (.int .i64 ((rd_T24 l1 x5_1).f2))∧w'.cell? ⟨(ad475.add ((x5_1).toNat * 7)).block,(ad475.add ((x5_1).toNat * 7)).off+3,none⟩=some (.string ((rd_T24 l1 x5_1).f3))∧w'.cell? ⟨(ad475.add ((x5_1).toNat * 7)).block,(ad475.add ((x5_1).toNat * 7)).off+4,none⟩=some (.string ((rd_T24 l1 x5_1).f4))∧w'.cell? ⟨(ad475.add ((x5_1).toNat * 7)).block,(ad475.add ((x5_1).toNat * 7)).off+5,none⟩=some (.slice A475_5 ((rd_T24 l1 x5_1).f5).length c475_5)∧w'.cell? ⟨(ad475.add ((x5_1).toNat * 7)).block,(ad475.add ((x5_1).toNat * 7)).off+6,none⟩=some (.bool ((rd_T24 l1 x5_1).f6))) (ds:=[]) #[F_,F_,F_,F_,F_,F_,F_,F_,F_,F_] (by kernel_rfl) rfl rfl ⟨(ph_ HB.out hw474_0),(ph_ HB.out hw474_1),(ph_ HB.out hw474_2),(ph_ HB.out hw474_3),(ph_ HB.out hw474_4),(ph_ HB.out hw474_5),(ph_ HB.out hw474_6),(ph_ HB.out hw475_0),(ph_ HB.out hw475_1),(ph_ HB.out hw475_2),(ph_ HB.out hw475_3),(ph_ HB.out hw475_4),(ph_ HB.out hw475_5),(ph_ HB.out hw475_6)⟩ (fun hHeld=>?_);refine with_tabW laws_eqTokenS.tab6 laws_eqTokenS.bits6 (fun HT_ HW_=>?_)
        generalize wr.drew=w9 at HB HR474_5 HR475_5 hx474_0 hx474_1 hx474_2 hx474_3 hx474_4 hx474_5 hx474_6 hx475_0 hx475_1 hx475_2 hx475_3 hx475_4 hx475_5 hx475_6 hHeld ⊢
        refine pure_ (i:=0) (N:=some 17) (v:=?_) (a':=?_) #[T_,F_,F_,F_,F_,F_,F_,F_,F_,F_] rfl rfl (any_of HT_.out (by kernel_rfl)) (fun _ _ _ h=>h) (Or.inl ⟨by rfl,?_⟩) ?_ ?_
        rotate_left
        ·intro w'
         go_simp
         with_reducible rfl
        rotate_left
        ·simp only [Act.put,ls_,lz_,lc_,i64_w,i32_w]
         rfl
        refine pure_ (i:=1) (N:=some 18) (v:=?_) (a':=?_) #[T_,T_,F_,F_,F_,F_,F_,F_,F_,F_] rfl rfl (any_of HT_.out (by kernel_rfl)) (fun _ _ _ h=>h) (Or.inl ⟨by rfl,?_⟩) ?_ ?_
        rotate_left
        ·intro w'
         go_simp
         with_reducible rfl
        rotate_left
        ·simp only [Act.put,ls_,lz_,lc_,i64_w,i32_w]
         rfl
        refine pure_ (i:=2) (N:=some 19) (v:=?_) (a':=?_) #[T_,T_,T_,F_,F_,F_,F_,F_,F_,F_] rfl rfl (any_of HT_.out (by kernel_rfl)) (fun _ _ _ h=>h) (Or.inl ⟨by rfl,?_⟩) ?_ ?_
        rotate_left
        ·intro w'
         go_simp
         with_reducible rfl
        rotate_left
        ·simp only [Act.put,ls_,lz_,lc_,i64_w,i32_w]
         rfl
        refine pure_ (i:=4) (N:=some 21) (v:=?_) (a':=?_) #[T_,T_,T_,F_,T_,F_,F_,F_,F_,F_] rfl rfl (any_of HT_.out (by kernel_rfl)) (fun _ _ _ h=>h) (Or.inl ⟨by rfl,?_⟩) ?_ ?_
        rotate_left
        ·intro w'
         go_simp
         with_reducible rfl
        rotate_left
        ·simp only [Act.put,ls_,lz_,lc_,i64_w,i32_w]
         rfl
        refine pure_ (i:=5) (N:=some 22) (v:=?_) (a':=?_) #[T_,T_,T_,F_,T_,T_,F_,F_,F_,F_] rfl rfl (any_of HT_.out (by kernel_rfl)) (fun _ _ _ h=>h) (Or.inl ⟨by rfl,?_⟩) ?_ ?_
        rotate_left
        ·intro w'
         go_simp
         with_reducible rfl
        rotate_left
        ·simp only [Act.put,ls_,lz_,lc_,i64_w,i32_w]
         rfl
        refine pure_ (i:=6) (N:=some 23) (v:=?_) (a':=?_) #[T_,T_,T_,F_,T_,T_,T_,F_,F_,F_] rfl rfl (any_of HT_.out (by kernel_rfl)) (fun _ _ _ h=>h) (Or.inl ⟨by rfl,?_⟩) ?_ ?_
        rotate_left
        ·intro w'
         go_simp
         with_reducible rfl
        rotate_left
        ·simp only [Act.put,ls_,lz_,lc_,i64_w,i32_w]
         rfl
        refine take_ (i:=3) (N:=some 20) (v:=?_) (a':=?_) #[T_,T_,T_,T_,T_,T_,T_,F_,F_,F_] rfl rfl (take_ofW HT_.out HW_.out (by kernel_rfl)) (fun _ _ _ h=>h) (Or.inl ⟨by rfl,?_⟩) hHeld ?_ ?_
        rotate_left
        ·rintro w' ⟨s0,s1,s2,s3,s4,s5,s6,s7,s8,s9,s10,s11,s12,s13⟩
         go_simp
         with_reducible rfl
        rotate_left
        ·simp only [Act.put,ls_,lz_,lc_,i64_w,i32_w]
         rfl
        refine take_ (i:=7) (N:=some 24) (v:=?_) (a':=?_) #[T_,T_,T_,T_,T_,T_,T_,T_,F_,F_] rfl rfl (take_ofW HT_.out HW_.out (by kernel_rfl)) (fun _ _ _ h=>h) (Or.inl ⟨by rfl,?_⟩) hHeld ?_ ?_
        rotate_left
        ·rintro w' ⟨s0,s1,s2,s3,s4,s5,s6,s7,s8,s9,s10,s11,s12,s13⟩
         go_simp
         with_reducible rfl
        rotate_left
        ·simp only [Act.put,ls_,lz_,lc_,i64_w,i32_w]
         rfl
        refine one_ (i:=8) (N:=some 25) #[T_,T_,T_,T_,T_,T_,T_,T_,T_,F_] rfl rfl (one_of HT_.out (by kernel_rfl)) (by decide) (fun K hK=>?_)
        refine goes_ Tryz.func7 (by kernel_rfl) rfl #[.agg #[.int .i64 ((rd_T24 l0 x5_1).f0),.int .i64 ((rd_T24 l0 x5_1).f1),.int .i64 ((rd_T24 l0 x5_1).f2),.string ((rd_T24 l0 x5_1).f3),.string ((rd_T24 l0 x5_1).f4),.slice A474_5 ((rd_T24 l0 x5_1).f5).length c474_5,.bool ((rd_T24 l0 x5_1).f6)],.agg #[.int .i64 ((rd_T24 l1 x5_1).f0),.int .i64 ((rd_T24 l1 x5_1).f1),.int .i64 ((rd_T24 l1 x5_1).f2),.string ((rd_T24 l1 x5_1).f3),.string ((rd_T24 l1 x5_1).f4),.slice A475_5 ((rd_T24 l1 x5_1).f5).length c475_5,.bool ((rd_T24 l1 x5_1).f6)]] (by rfl) rfl rfl (by (try simp only [List.map_toArray,List.map_cons,List.map_nil]);first|done|rfl|(simp only [ld_,lt_];rfl)) ?_
        with_reducible refine (laws_eqToken.calls k1 ((rd_T24 l0 x5_1).f0) ((rd_T24 l0 x5_1).f1) ((rd_T24 l0 x5_1).f2) ((rd_T24 l0 x5_1).f3) ((rd_T24 l0 x5_1).f4) _ _ ((rd_T24 l0 x5_1).f5) ((rd_T24 l0 x5_1).f6) ((rd_T24 l1 x5_1).f0) ((rd_T24 l1 x5_1).f1) ((rd_T24 l1 x5_1).f2) ((rd_T24 l1 x5_1).f3) ((rd_T24 l1 x5_1).f4) _ _ ((rd_T24 l1 x5_1).f5) ((rd_T24 l1 x5_1).f6) true _ ?side1 ?side2 ?side3 ?side4 A7.out).mono ?_
        (case side1=>repeat (first|exact (cb_ HR474_5.out HB.out)|(with_reducible refine ca_ ?_ _)|(with_reducible refine cn_ ?_ _)|(with_reducible refine cd_ ?_)))
        (case side2=>exact HC474_5.out)
        (case side3=>repeat (first|exact (cb_ HR475_5.out HB.out)|(with_reducible refine ca_ ?_ _)|(with_reducible refine cn_ ?_ _)|(with_reducible refine cd_ ?_)))
        (case side4=>exact HC475_5.out)
        rintro e w10 ⟨rfl,hb⟩
        refine ⟨_,rfl,?_⟩
        have n0_:=A_ (bp_ (bq0_ HB.out) hb)
        clear HB
        have HB:=n0_
        clear n0_
        (try clear hb)
        (try clear hb2)
        (try clear hk)
        (try clear hi)
        refine hK.out _ _ ⟨(ph_ HB.out hw474_0),(ph_ HB.out hw474_1),(ph_ HB.out hw474_2),(ph_ HB.out hw474_3),(ph_ HB.out hw474_4),(ph_ HB.out hw474_5),(ph_ HB.out hw474_6),(ph_ HB.out hw475_0),(ph_ HB.out hw475_1),(ph_ HB.out hw475_2),(ph_ HB.out hw475_3),(ph_ HB.out hw475_4),(ph_ HB.out hw475_5),(ph_ HB.out hw475_6)⟩ (fun hHeld=>?_)
        clear hK K
        refine norm_ (a':=?_) ?_ ?_
        rotate_left
        ·show Act.put _ (some 25) _=_
         simp only [Act.put,ls_,lz_,lc_,i64_w,i32_w]
         rfl
        refine pure_ (i:=9) (N:=some 26) (v:=?_) (a':=?_) #[T_,T_,T_,T_,T_,T_,T_,T_,T_,T_] rfl rfl (any_of HT_.out (by kernel_rfl)) (fun _ _ _ h=>h) (Or.inl ⟨by rfl,?_⟩) ?_ ?_
        rotate_left
        ·intro w'
         go_simp
         with_reducible rfl
        rotate_left
        ·simp only [Act.put,ls_,lz_,lc_,i64_w,i32_w]
         rfl
        refine done_ (done_of HT_.out (by kernel_rfl)) ?_
        try go_wp2
        go_roundg k1
        case measure=>have:=HK1.out;omega
        case rel=>exact ⟨(wrap64 (x5_1+1)),rs_,H',⟨by have:=HK1.out;omega⟩,⟨bq0_ HB.out⟩⟩
       ·replace c8:=bm_ c8
        subst c8
        have H1:(some false)=some r:=by rw [if_neg (show ¬ (false=true) by decide)] at H;exact H
        clear H
        have H:=H1
        clear H1
        obtain rfl:=oi_ H
        try go_wp2
        have n0_:=A_ (b1_ HB.out)
        clear HB
        have HB:=n0_
        clear n0_
        have p474:0≤(x5_1:Int):=oa_
        have q474:x5_1<(l0.length:Int):=oa_
        obtain ⟨ad474,A474_5,c474_5,e474,hx474_0,hx474_1,hx474_2,hx474_3,hx474_4,hx474_5,hx474_6,hl474_5,hi474_5⟩:=at_T24 HR0.out x5_1 p474 q474
        have hw474_6:=hx474_6
        have hw474_5:=hx474_5
        have hw474_4:=hx474_4
        have hw474_3:=hx474_3
        have hw474_2:=hx474_2
        have hw474_1:=hx474_1
        have hw474_0:=hx474_0
        cases e474
        replace hx474_0:=ph_ HB.out hx474_0
        replace hx474_1:=ph_ HB.out hx474_1
        replace hx474_2:=ph_ HB.out hx474_2
        replace hx474_3:=ph_ HB.out hx474_3
        replace hx474_4:=ph_ HB.out hx474_4
        replace hx474_5:=ph_ HB.out hx474_5
        replace hx474_6:=ph_ HB.out hx474_6
        have HR474_5:=A_ hi474_5
        have HC474_5:=A_ hl474_5
        clear hi474_5 hl474_5
        replace p474:=eq_true p474
        replace q474:=eq_true q474
        have p475:0≤(x5_1:Int):=oa_
        have q475:x5_1<(l1.length:Int):=oa_
        obtain ⟨ad475,A475_5,c475_5,e475,hx475_0,hx475_1,hx475_2,hx475_3,hx475_4,hx475_5,hx475_6,hl475_5,hi475_5⟩:=at_T24 HR1.out x5_1 p475 q475
        have hw475_6:=hx475_6
        have hw475_5:=hx475_5
        have hw475_4:=hx475_4
        have hw475_3:=hx475_3
        have hw475_2:=hx475_2
        have hw475_1:=hx475_1
        have hw475_0:=hx475_0
        cases e475
        replace hx475_0:=ph_ HB.out hx475_0
        replace hx475_1:=ph_ HB.out hx475_1
        replace hx475_2:=ph_ HB.out hx475_2
        replace hx475_3:=ph_ HB.out hx475_3
        replace hx475_4:=ph_ HB.out hx475_4
        replace hx475_5:=ph_ HB.out hx475_5
        replace hx475_6:=ph_ HB.out hx475_6
        have HR475_5:=A_ hi475_5
        have HC475_5:=A_ hl475_5
        clear hi475_5 hl475_5
        replace p475:=eq_true p475
        replace q475:=eq_true q475
        refine start_ (n:=10) (S:=fun w'=>w'.cell? (ad474.add ((x5_1).toNat * 7))=some (.int .i64 ((rd_T24 l0 x5_1).f0))∧w'.cell? ⟨(ad474.add ((x5_1).toNat * 7)).block,(ad474.add ((x5_1).toNat * 7)).off+1,none⟩=some (.int .i64 ((rd_T24 l0 x5_1).f1))∧w'.cell? ⟨(ad474.add ((x5_1).toNat * 7)).block,(ad474.add ((x5_1).toNat * 7)).off+2,none⟩=some (.int .i64 ((rd_T24 l0 x5_1).f2))∧w'.cell? ⟨(ad474.add ((x5_1).toNat * 7)).block,(ad474.add ((x5_1).toNat * 7)).off+3,none⟩=some (.string ((rd_T24 l0 x5_1).f3))∧w'.cell? ⟨(ad474.add ((x5_1).toNat * 7)).block,(ad474.add ((x5_1).toNat * 7)).off+4,none⟩=some (.string ((rd_T24 l0 x5_1).f4))∧w'.cell? ⟨(ad474.add ((x5_1).toNat * 7)).block,(ad474.add ((x5_1).toNat * 7)).off+5,none⟩=some (.slice A474_5 ((rd_T24 l0 x5_1).f5).length c474_5)∧w'.cell? ⟨(ad474.add ((x5_1).toNat * 7)).block,(ad474.add ((x5_1).toNat * 7)).off+6,none⟩=some (.bool ((rd_T24 l0 x5_1).f6))∧w'.cell? (ad475.add ((x5_1).toNat * 7))=some (.int .i64 ((rd_T24 l1 x5_1).f0))∧w'.cell? ⟨(ad475.add ((x5_1).toNat * 7)).block,(ad475.add ((x5_1).toNat * 7)).off+1,none⟩=some (.int .i64 ((rd_T24 l1 x5_1).f1))∧w'.cell? ⟨(ad475.add ((x5_1).toNat * 7)).block,(ad475.add ((x5_1).toNat * 7)).off+2,none⟩=some (.int .i64 ((rd_T24 l1 x5_1).f2))∧w'.cell? ⟨(ad475.add ((x5_1).toNat * 7)).block,(ad475.add ((x5_1).toNat * 7)).off+3,none⟩=some (.string ((rd_T24 l1 x5_1).f3))∧w'.cell? ⟨(ad475.add ((x5_1).toNat * 7)).block,(ad475.add ((x5_1).toNat * 7)).off+4,none⟩=some (.string ((rd_T24 l1 x5_1).f4))∧w'.cell? ⟨(ad475.add ((x5_1).toNat * 7)).block,(ad475.add ((x5_1).toNat * 7)).off+5,none⟩=some (.slice A475_5 ((rd_T24 l1 x5_1).f5).length c475_5)∧w'.cell? ⟨(ad475.add ((x5_1).toNat * 7)).block,(ad475.add ((x5_1).toNat * 7)).off+6,none⟩=some (.bool ((rd_T24 l1 x5_1).f6))) (ds:=[]) #[F_,F_,F_,F_,F_,F_,F_,F_,F_,F_] (by kernel_rfl) rfl rfl ⟨(ph_ HB.out hw474_0),(ph_ HB.out hw474_1),(ph_ HB.out hw474_2),(ph_ HB.out hw474_3),(ph_ HB.out hw474_4),(ph_ HB.out hw474_5),(ph_ HB.out hw474_6),(ph_ HB.out hw475_0),(ph_ HB.out hw475_1),(ph_ HB.out hw475_2),(ph_ HB.out hw475_3),(ph_ HB.out hw475_4),(ph_ HB.out hw475_5),(ph_ HB.out hw475_6)⟩ (fun hHeld=>?_);refine with_tabW laws_eqTokenS.tab6 laws_eqTokenS.bits6 (fun HT_ HW_=>?_)
        generalize wr.drew=w11 at HB HR474_5 HR475_5 hx474_0 hx474_1 hx474_2 hx474_3 hx474_4 hx474_5 hx474_6 hx475_0 hx475_1 hx475_2 hx475_3 hx475_4 hx475_5 hx475_6 hHeld ⊢
        refine pure_ (i:=0) (N:=some 17) (v:=?_) (a':=?_) #[T_,F_,F_,F_,F_,F_,F_,F_,F_,F_] rfl rfl (any_of HT_.out (by kernel_rfl)) (fun _ _ _ h=>h) (Or.inl ⟨by rfl,?_⟩) ?_ ?_
        rotate_left
        ·intro w'
         go_simp
         with_reducible rfl
        rotate_left
        ·simp only [Act.put,ls_,lz_,lc_,i64_w,i32_w]
         rfl
        refine pure_ (i:=1) (N:=some 18) (v:=?_) (a':=?_) #[T_,T_,F_,F_,F_,F_,F_,F_,F_,F_] rfl rfl (any_of HT_.out (by kernel_rfl)) (fun _ _ _ h=>h) (Or.inl ⟨by rfl,?_⟩) ?_ ?_
        rotate_left
        ·intro w'
         go_simp
         with_reducible rfl
        rotate_left
        ·simp only [Act.put,ls_,lz_,lc_,i64_w,i32_w]
         rfl
        refine pure_ (i:=2) (N:=some 19) (v:=?_) (a':=?_) #[T_,T_,T_,F_,F_,F_,F_,F_,F_,F_] rfl rfl (any_of HT_.out (by kernel_rfl)) (fun _ _ _ h=>h) (Or.inl ⟨by rfl,?_⟩) ?_ ?_
        rotate_left
        ·intro w'
         go_simp
         with_reducible rfl
        rotate_left
        ·simp only [Act.put,ls_,lz_,lc_,i64_w,i32_w]
         rfl
        refine pure_ (i:=4) (N:=some 21) (v:=?_) (a':=?_) #[T_,T_,T_,F_,T_,F_,F_,F_,F_,F_] rfl rfl (any_of HT_.out (by kernel_rfl)) (fun _ _ _ h=>h) (Or.inl ⟨by rfl,?_⟩) ?_ ?_
        rotate_left
        ·intro w'
         go_simp
         with_reducible rfl
        rotate_left
        ·simp only [Act.put,ls_,lz_,lc_,i64_w,i32_w]
         rfl
        refine pure_ (i:=5) (N:=some 22) (v:=?_) (a':=?_) #[T_,T_,T_,F_,T_,T_,F_,F_,F_,F_] rfl rfl (any_of HT_.out (by kernel_rfl)) (fun _ _ _ h=>h) (Or.inl ⟨by rfl,?_⟩) ?_ ?_
        rotate_left
        ·intro w'
         go_simp
         with_reducible rfl
        rotate_left
        ·simp only [Act.put,ls_,lz_,lc_,i64_w,i32_w]
         rfl
        refine pure_ (i:=6) (N:=some 23) (v:=?_) (a':=?_) #[T_,T_,T_,F_,T_,T_,T_,F_,F_,F_] rfl rfl (any_of HT_.out (by kernel_rfl)) (fun _ _ _ h=>h) (Or.inl ⟨by rfl,?_⟩) ?_ ?_
        rotate_left
        ·intro w'
         go_simp
         with_reducible rfl
        rotate_left
        ·simp only [Act.put,ls_,lz_,lc_,i64_w,i32_w]
         rfl
        refine take_ (i:=3) (N:=some 20) (v:=?_) (a':=?_) #[T_,T_,T_,T_,T_,T_,T_,F_,F_,F_] rfl rfl (take_ofW HT_.out HW_.out (by kernel_rfl)) (fun _ _ _ h=>h) (Or.inl ⟨by rfl,?_⟩) hHeld ?_ ?_
        rotate_left
        ·rintro w' ⟨s0,s1,s2,s3,s4,s5,s6,s7,s8,s9,s10,s11,s12,s13⟩
         go_simp
         with_reducible rfl
        rotate_left
        ·simp only [Act.put,ls_,lz_,lc_,i64_w,i32_w]
         rfl
        refine take_ (i:=7) (N:=some 24) (v:=?_) (a':=?_) #[T_,T_,T_,T_,T_,T_,T_,T_,F_,F_] rfl rfl (take_ofW HT_.out HW_.out (by kernel_rfl)) (fun _ _ _ h=>h) (Or.inl ⟨by rfl,?_⟩) hHeld ?_ ?_
        rotate_left
        ·rintro w' ⟨s0,s1,s2,s3,s4,s5,s6,s7,s8,s9,s10,s11,s12,s13⟩
         go_simp
         with_reducible rfl
        rotate_left
        ·simp only [Act.put,ls_,lz_,lc_,i64_w,i32_w]
         rfl
        refine one_ (i:=8) (N:=some 25) #[T_,T_,T_,T_,T_,T_,T_,T_,T_,F_] rfl rfl (one_of HT_.out (by kernel_rfl)) (by decide) (fun K hK=>?_)
        refine goes_ Tryz.func7 (by kernel_rfl) rfl #[.agg #[.int .i64 ((rd_T24 l0 x5_1).f0),.int .i64 ((rd_T24 l0 x5_1).f1),.int .i64 ((rd_T24 l0 x5_1).f2),.string ((rd_T24 l0 x5_1).f3),.string ((rd_T24 l0 x5_1).f4),.slice A474_5 ((rd_T24 l0 x5_1).f5).length c474_5,.bool ((rd_T24 l0 x5_1).f6)],.agg #[.int .i64 ((rd_T24 l1 x5_1).f0),.int .i64 ((rd_T24 l1 x5_1).f1),.int .i64 ((rd_T24 l1 x5_1).f2),.string ((rd_T24 l1 x5_1).f3),.string ((rd_T24 l1 x5_1).f4),.slice A475_5 ((rd_T24 l1 x5_1).f5).length c475_5,.bool ((rd_T24 l1 x5_1).f6)]] (by rfl) rfl rfl (by (try simp only [List.map_toArray,List.map_cons,List.map_nil]);first|done|rfl|(simp only [ld_,lt_];rfl)) ?_
        with_reducible refine (laws_eqToken.calls k1 ((rd_T24 l0 x5_1).f0) ((rd_T24 l0 x5_1).f1) ((rd_T24 l0 x5_1).f2) ((rd_T24 l0 x5_1).f3) ((rd_T24 l0 x5_1).f4) _ _ ((rd_T24 l0 x5_1).f5) ((rd_T24 l0 x5_1).f6) ((rd_T24 l1 x5_1).f0) ((rd_T24 l1 x5_1).f1) ((rd_T24 l1 x5_1).f2) ((rd_T24 l1 x5_1).f3) ((rd_T24 l1 x5_1).f4) _ _ ((rd_T24 l1 x5_1).f5) ((rd_T24 l1 x5_1).f6) false _ ?side1 ?side2 ?side3 ?side4 A7.out).mono ?_
        (case side1=>repeat (first|exact (cb_ HR474_5.out HB.out)|(with_reducible refine ca_ ?_ _)|(with_reducible refine cn_ ?_ _)|(with_reducible refine cd_ ?_)))
        (case side2=>exact HC474_5.out)
        (case side3=>repeat (first|exact (cb_ HR475_5.out HB.out)|(with_reducible refine ca_ ?_ _)|(with_reducible refine cn_ ?_ _)|(with_reducible refine cd_ ?_)))
        (case side4=>exact HC475_5.out)
        rintro e w12 ⟨rfl,hb⟩
        refine ⟨_,rfl,?_⟩
        have n0_:=A_ (bp_ (bq0_ HB.out) hb)
        clear HB
        have HB:=n0_
        clear n0_
        (try clear hb)
        (try clear hb2)
        (try clear hk)
        (try clear hi)
        refine hK.out _ _ ⟨(ph_ HB.out hw474_0),(ph_ HB.out hw474_1),(ph_ HB.out hw474_2),(ph_ HB.out hw474_3),(ph_ HB.out hw474_4),(ph_ HB.out hw474_5),(ph_ HB.out hw474_6),(ph_ HB.out hw475_0),(ph_ HB.out hw475_1),(ph_ HB.out hw475_2),(ph_ HB.out hw475_3),(ph_ HB.out hw475_4),(ph_ HB.out hw475_5),(ph_ HB.out hw475_6)⟩ (fun hHeld=>?_)
        clear hK K
        refine norm_ (a':=?_) ?_ ?_
        rotate_left
        ·show Act.put _ (some 25) _=_
         simp only [Act.put,ls_,lz_,lc_,i64_w,i32_w]
         rfl
        refine pure_ (i:=9) (N:=some 26) (v:=?_) (a':=?_) #[T_,T_,T_,T_,T_,T_,T_,T_,T_,T_] rfl rfl (any_of HT_.out (by kernel_rfl)) (fun _ _ _ h=>h) (Or.inl ⟨by rfl,?_⟩) ?_ ?_
        rotate_left
        ·intro w'
         go_simp
         with_reducible rfl
        rotate_left
        ·simp only [Act.put,ls_,lz_,lc_,i64_w,i32_w]
         rfl
        refine done_ (done_of HT_.out (by kernel_rfl)) ?_
        try go_wp2
        go_ret
        exact ⟨by first|rfl|(simp [errW_none,errW_some] <;> rfl)|(simp [*,errW_none,errW_some] <;> rfl),bq0_ HB.out⟩
      ·rw [if_neg c6] at H
       exact absurd H (by simp)
     ·rw [if_neg c5] at H
      exact absurd H (by simp)
    ·rw [if_neg c4] at H
     have c4b0:decide (x5_1<(l0.length:Int))=false:=df_ c4
     clear c4
     obtain rfl:=oi_ H
     go_wp2
     go_ret
     exact ⟨by first|rfl|(simp [errW_none,errW_some] <;> rfl)|(simp [*,errW_none,errW_some] <;> rfl),bq0_ HB.out⟩
 ·rw [if_neg c3] at H
  have c3b0:((l0.length:Int) == (l1.length:Int))=false:=beq_eq_false_iff_ne.mpr c3
  have c3b1:((l0.length:Int) != (l1.length:Int))=true:=bne_iff_ne.mpr c3
  have c3b2:(l0.length == l1.length)=false:=by first|simpa using c3|(simp at c3 ⊢;omega)
  obtain rfl:=oi_ H
  go_enter Tryz.func12,Tryz.ntmps12
  go_wp2
  go_ret
  exact ⟨by first|rfl|(simp [errW_none,errW_some] <;> rfl)|(simp [*,errW_none,errW_some] <;> rfl),bq0_ HB.out⟩
def laws_markText.l0:Nat→Int→ByteArray→Option (ByteArray)
 | 0,_,_=>none
 | k+1,x0,x3=>if x0>0 then ((some (([(wrap64 (48+(Int.tmod x0 10))) % 256]:List Int):List Int)).bind fun y477=>(if (strOfNums y477).size+x3.size≤9223372036854775807 then (laws_markText.l0 k (wrap64 (Int.tdiv x0 10)) ((strOfNums y477)++x3)) else (none))) else (if 1+x3.size≤9223372036854775807 then (some ((⟨#[109]⟩:ByteArray)++x3)) else (none))
def laws_markText.f (k:Nat) (a0:Int):Option (ByteArray):=if a0≤0 then (some (⟨#[109,48]⟩:ByteArray)) else (laws_markText.l0 k a0 (⟨#[]⟩:ByteArray))
theorem laws_markText.mono_l:∀ k,(∀ y0 y1,LeO (laws_markText.l0 k y0 y1) (laws_markText.l0 (k+1) y0 y1))
 | 0=>fun _ _ r h=>by simp [laws_markText.l0] at h
 | k+1=>by
  have ih0:=laws_markText.mono_l k
  ·intro y0 y1
   unfold laws_markText.l0
   repeat' first|(with_reducible first|exact ih0 ..|exact LeO.refl _|exact LeO.none _|refine LeO.ite ?_ ?_|refine LeO.bind ?_ (fun _=>?_))|exact ih0 ..|exact LeO.none _|refine LeO.ite ?_ ?_|refine LeO.bind ?_ (fun _=>?_)
theorem laws_markText.mono:∀ a0 k,LeO (laws_markText.f k a0) (laws_markText.f (k+1) a0):=by
 intro a0 k
 have ih0:=laws_markText.mono_l k
 unfold laws_markText.f
 repeat' first|(with_reducible first|exact ih0 ..|exact LeO.refl _|exact LeO.none _|refine LeO.ite ?_ ?_|refine LeO.bind ?_ (fun _=>?_))|exact ih0 ..|exact LeO.none _|refine LeO.ite ?_ ?_|refine LeO.bind ?_ (fun _=>?_)
set_option maxHeartbeats 8000000 in
set_option maxRecDepth 100000 in
theorem laws_markText.calls (k:Nat) (a0:Int) (r:ByteArray) (w:World) (h:laws_markText.f k a0=some r) :
 Calls Tryz.prog 27 #[.int .i64 a0] w fun e w'=>e=.returned (.string r)∧Below w.heap.size w w':=by
 have HB:=A_ (Below.refl w.heap.size w)
 have H:(if a0≤0 then (some (⟨#[109,48]⟩:ByteArray)) else (laws_markText.l0 k a0 (⟨#[]⟩:ByteArray)))=some r:=h
 clear h
 by_cases c2:a0≤0
 ·rw [if_pos c2] at H
  have c2b0:decide (a0≤0)=true:=dt_ c2
  clear c2
  obtain rfl:=oi_ H
  go_enter Tryz.func27,Tryz.ntmps27
  go_wp2
  go_ret
  exact ⟨by first|rfl|(simp [errW_none,errW_some] <;> rfl)|(simp [*,errW_none,errW_some] <;> rfl),bq0_ HB.out⟩
 ·rw [if_neg c2] at H
  have c2b0:decide (a0≤0)=false:=df_ c2
  clear c2
  have H':=A_ H
  clear H
  go_enter Tryz.func27,Tryz.ntmps27
  go_wp2
  go_loopg [0,3] k (fun kq v0 v3 w'=>∃ (x0_1:Int) (x3_1:ByteArray),v0=.int .i64 x0_1∧v3=.string x3_1∧Aside0 (laws_markText.l0 kq x0_1 x3_1=some r)∧Aside0 (kq≤k)∧Aside0 (Below w.heap.size w w'))
  case atStart=>exact ⟨(a0),((⟨#[]⟩:ByteArray)),rs_,rs_,H',⟨Nat.le_refl _⟩,⟨bq0_ HB.out⟩⟩
  case round =>
   clear H'
   try clear c2
   try clear c2b0
   try clear p2
   obtain ⟨x0_1,x3_1,rfl,rfl,HA,HK1,HB⟩:=hrel
   cases gk with
   | zero=>exact absurd HA.out (by simp [laws_markText.l0])
   | succ k1 =>
    have H:=HA.out
    clear HA
    simp only [laws_markText.l0] at H
    by_cases c3:x0_1>0
    ·rw [if_pos c3] at H
     have c3b0:decide (0<x0_1)=true:=dt_ c3
     clear c3
     obtain ⟨y477,hy477⟩:∃ y_:List Int,y_=(([(wrap64 (48+(Int.tmod x0_1 10))) % 256]:List Int)):=⟨_,rfl⟩
     replace H:(if (strOfNums y477).size+x3_1.size≤9223372036854775807 then (laws_markText.l0 k1 (wrap64 (Int.tdiv x0_1 10)) ((strOfNums y477)++x3_1)) else (none))=some r:=by first|(rw [hy477];with_reducible exact H)|(have H2_:=(Option.bind_some _ _).symm.trans H;rw [hy477];with_reducible exact H2_)|(have H2_:=(Option.bind_some _ _).symm.trans H;with_reducible exact H2_)|with_reducible exact H|(rw [hy477];exact H)|exact H
     have Ny477:=A_ hy477
     clear hy477
     by_cases c4:(strOfNums y477).size+x3_1.size≤9223372036854775807
     ·rw [if_pos c4] at H
      have c4b0:=eq_true c4
      have c4b1:decide ((strOfNums y477).size+x3_1.size≤9223372036854775807)=true:=dt_ c4
      try have c4b2:(9223372036854775807<(strOfNums y477).size+x3_1.size)=False:=eq_false (Nat.not_lt.2 c4)
      have H':=A_ H
      clear H
      go_wp2_with (first|((with_reducible refine gate_dst (N:=12) rfl ?_);refine Kd.R_lit (Kd.int .u8) _ 5 ?hg (N:=12) ?hd (xs:=([(wrap64 (48+(Int.tmod x0_1 10))) % 256]:List Int)) (inner:=[.int .u8 ((wrap64 (48+(Int.tmod x0_1 10))) % 256)]) (ok:=fun _=>True) (okp:=fun _=>True) ?hr ?hp (fun _ hk=>hk) trivial (Below.refl _ _) (Nat.le_refl _) (by simp) ?_;(case hd=>rfl);(case hg=>rfl);(case hr=>first|(go_simp;done)|(go_simp;rfl)|(first|(go_simp;done)|(go_simp;rfl)));(case hp=>exact (Reps.one (show Kd.M (Kd.int .u8) _ _ _ ((wrap64 (48+(Int.tmod x0_1 10))) % 256) [.int .u8 ((wrap64 (48+(Int.tmod x0_1 10))) % 256)] from rfl) (Reps.none _ _)));intro v478 w5 ho6 hb hg_ hnew_;clear hg_ hnew_;(first|rw [←Ny477.out] at ho6|(simp only [Int.reduceToNat] at ho6;rw [←Ny477.out] at ho6));have n0_:=A_ (Kd.R_lower ho6 (bz_ (bq0_ HB.out)));have n1_:=A_ (bp_ (bq0_ HB.out) hb);clear HB;have HO479:=n0_;have HB:=n1_;clear n0_ n1_;clear hb ho6;have hcv7:=own_string (P:=Tryz.prog) Tryz.underlying54 Tryz.underlying5 Tryz.underlying9 (Kd.own_of_R HO479.out)))
      go_roundg k1
      case measure=>have:=HK1.out;omega
      case rel=>exact ⟨(wrap64 (Int.tdiv x0_1 10)),((strOfNums y477)++x3_1),rs_,rs_,H',⟨by have:=HK1.out;omega⟩,⟨bq0_ HB.out⟩⟩
     ·rw [if_neg c4] at H
      exact absurd H (by simp)
    ·rw [if_neg c3] at H
     have c3b0:decide (0<x0_1)=false:=df_ c3
     clear c3
     by_cases c8:1+x3_1.size≤9223372036854775807
     ·rw [if_pos c8] at H
      have c8b0:=eq_true c8
      have c8b1:decide (1+x3_1.size≤9223372036854775807)=true:=dt_ c8
      try have c8b2:(9223372036854775807<1+x3_1.size)=False:=eq_false (Nat.not_lt.2 c8)
      obtain rfl:=oi_ H
      go_wp2
      go_ret
      exact ⟨by first|rfl|(simp [errW_none,errW_some] <;> rfl)|(simp [*,errW_none,errW_some] <;> rfl),bq0_ HB.out⟩
     ·rw [if_neg c8] at H
      exact absurd H (by simp)
end Go.Proofs.YtfkanlbmgbkniaaGreatDoor.PFnExactTokensOf
