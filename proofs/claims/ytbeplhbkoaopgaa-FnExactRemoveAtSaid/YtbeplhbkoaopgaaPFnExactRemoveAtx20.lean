/- By a program of this session, out of the kit's print and contracts made by hand: the machine side of a law; Lean checks it. No conditions. -/
import Derived.Test.YtbeplhbkoaopgaaPFnExactRemoveAtx0
namespace Go.Proofs.Ytbeplhbkoaopgaa.PFnExactRemoveAt
open Go.RowKit Go.Proofs.YtbeplhbkoaopgaaW.PrintWords Go.Proofs.YtbeplhbkoaopgaaW.PrintLast Go.Proofs.YtbeplhbkoaopgaaW.PrintMore
attribute [local go_sem] max2_int min2_int max_two min_two max_three min_three max_four min_four
set_option linter.unusedVariables false
set_option linter.unusedSimpArgs false
/-! ### spec_l09Put: function 37 -/
def spec_l09Put.f:Nat→List (S28)→List Int→List (S28)→Option ((List (S28)))
 | 0,_,_,_=>none
 | k+1,l0,l1,l2=>if 0<(l1.length:Int) then ((some (([]:List (S28)):List (S28))).bind fun y233=>(if 0≤(rd l1 0) then (if (rd l1 0)≤(l0.length:Int) then ((some (l0.take ((rd l1 0):Int).toNat:List (S28))).bind fun y236=>(if y233.length+y236.length<1466015503701 then ((some (y233++y236:List (S28))).bind fun y241=>(if (l1.length:Int)=1 then (if y241.length+l2.length<1466015503701 then ((some (y241++l2:List (S28))).bind fun y244=>(if 0≤(wrap64 ((rd l1 0)+1)) then (if (wrap64 ((rd l1 0)+1))≤(l0.length:Int) then ((some (l0.drop ((wrap64 ((rd l1 0)+1)):Int).toNat:List (S28))).bind fun y247=>(if y244.length+y247.length<1466015503701 then (some (y244++y247)) else (none))) else (none)) else (none))) else (none)) else (if (rd l1 0)<(l0.length:Int) then (if 1≤(l1.length:Int) then ((spec_l09Put.f k ((rd_T28 l0 (rd l1 0)).f5) (l1.drop 1) l2).bind fun t258=>(if y241.length<1466015503701 then ((some (y241++[(⟨(rd_T28 l0 (rd l1 0)).f0,(rd_T28 l0 (rd l1 0)).f1,(rd_T28 l0 (rd l1 0)).f2,(rd_T28 l0 (rd l1 0)).f3,(rd_T28 l0 (rd l1 0)).f4,t258⟩:S28)]:List (S28))).bind fun y261=>(if 0≤(wrap64 ((rd l1 0)+1)) then (if (wrap64 ((rd l1 0)+1))≤(l0.length:Int) then ((some (l0.drop ((wrap64 ((rd l1 0)+1)):Int).toNat:List (S28))).bind fun y264=>(if y261.length+y264.length<1466015503701 then (some (y261++y264)) else (none))) else (none)) else (none))) else (none))) else (none)) else (none)))) else (none))) else (none)) else (none))) else (none)
theorem spec_l09Put.mono_l:∀ k,(∀ y0 y1 y2,LeO (spec_l09Put.f k y0 y1 y2) (spec_l09Put.f (k+1) y0 y1 y2))
 | 0=>fun _ _ _ r h=>by simp [spec_l09Put.f] at h
 | k+1=>by
  have ih0:=spec_l09Put.mono_l k
  ·intro y0 y1 y2
   unfold spec_l09Put.f
   repeat' first
   | (with_reducible exact ih0 _ _ _)
   | (with_reducible exact LeO.refl _)
   | (with_reducible exact LeO.none _)
   | (with_reducible refine LeO.ite ?_ ?_)
   | (with_reducible refine LeO.bind ?_ (fun _=>?_))
   | exact ih0 _ _ _
   | exact LeO.none _
   | refine LeO.ite ?_ ?_
   | refine LeO.bind ?_ (fun _=>?_)
theorem spec_l09Put.mono:∀ a0 a1 a2 k,LeO (spec_l09Put.f k a0 a1 a2) (spec_l09Put.f (k+1) a0 a1 a2):=by
 intro a0 a1 a2 k
 have ih0:=spec_l09Put.mono_l k
 exact ih0 a0 a1 a2
def spec_l09Put.T4:Bool × List (List Nat × List Nat):=(true,[([],[]),([],[]),([0,1],[0,1]),([],[]),([],[]),([4],[4]),([3,5],[3,5]),([2,6,2],[2,6]),([7,7,0,1,2,3,4,5,6,7],[7])])
def spec_l09Put.B4:List Nat:=[0,0,3,0,0,16,56,127,255]
theorem spec_l09Put.tab4:rtab .any (opsOf Try.f37 4)=spec_l09Put.T4:=by kernel_rfl
theorem spec_l09Put.bits4:waitsOk spec_l09Put.T4.2 spec_l09Put.B4=true:=by kernel_rfl
def spec_l09Put.T6:Bool × List (List Nat × List Nat):=(true,[([],[]),([0],[0]),([],[]),([2],[2]),([],[]),([1,3,4],[1,3,4]),([0,1,2,3,4,5],[]),([6,5,5,0,1,2,3,4,5],[5,6])])
def spec_l09Put.B6:List Nat:=[0,1,0,4,0,31,63,127]
theorem spec_l09Put.tab6:rtab .any (opsOf Try.f37 6)=spec_l09Put.T6:=by kernel_rfl
theorem spec_l09Put.bits6:waitsOk spec_l09Put.T6.2 spec_l09Put.B6=true:=by kernel_rfl
def spec_l09Put.T7:Bool × List (List Nat × List Nat):=(true,[([],[]),([],[]),([1],[1]),([0,2],[0,2]),([],[]),([],[]),([5],[5]),([4,6],[4,6]),([3,7,3],[3,7]),([8,8,0,1,2,3,4,5,6,7,8],[8])])
def spec_l09Put.B7:List Nat:=[0,0,2,7,0,0,32,112,255,511]
theorem spec_l09Put.tab7:rtab .any (opsOf Try.f37 7)=spec_l09Put.T7:=by kernel_rfl
theorem spec_l09Put.bits7:waitsOk spec_l09Put.T7.2 spec_l09Put.B7=true:=by kernel_rfl
set_option maxHeartbeats 8000000 in
set_option maxRecDepth 100000 in
theorem spec_l09Put.calls (k:Nat):∀ (P0_:Nat→Prop) (A0:Option Addr) (c0:Nat) (l0:List (S28)) (A1:Option Addr) (c1:Nat) (l1:List Int) (P2_:Nat→Prop) (A2:Option Addr) (c2:Nat) (l2:List (S28)) (r:List (S28)) (w:World) (hs0:Kd.V k28 28 w w.heap.size (fun k_=>P0_ k_) (.slice A0 l0.length c0) l0) (hr1:Kd.C (Kd.int .i64) w A1 l1.length l1) (hc1:l1.length≤c1) (hs2:Kd.V k28 28 w w.heap.size (fun k_=>P2_ k_) (.slice A2 l2.length c2) l2) (h:spec_l09Put.f k l0 l1 l2=some r),
 Calls Try.prog 37 #[.slice A0 l0.length c0,.slice A1 l1.length c1,.slice A2 l2.length c2] w fun e w'=>∃ v0_:Value,e=.returned (v0_)∧Kd.N k28 28 w' w.heap.size (fun k_=>((P0_ k_∨P2_ k_)∨w.heap.size≤k_)) v0_ r∧Below w.heap.size w w':=by
 induction k using Nat.strongRecOn with
 | _ k ih =>
 intro P0_ A0 c0 l0 A1 c1 l1 P2_ A2 c2 l2 r w hs0 hr1 hc1 hs2 h
 cases k with
 | zero=>exact absurd h (by simp [spec_l09Put.f])
 | succ k =>
 simp only [spec_l09Put.f] at h
 have hu28:=Try.underlying28
 have HO0:=A_ (show Kd.V k28 28 w w.heap.size (fun k_=>((P0_ k_∨P2_ k_)∨w.heap.size≤k_)) (.slice A0 l0.length c0) l0 from Kd.V_mono hs0 (fun k_ hk=>.inl (.inl hk)))
 have HR1:=A_ hr1
 have HC1:=A_ hc1
 clear hr1 hc1
 have HO2:=A_ (show Kd.V k28 28 w w.heap.size (fun k_=>((P0_ k_∨P2_ k_)∨w.heap.size≤k_)) (.slice A2 l2.length c2) l2 from Kd.V_mono hs2 (fun k_ hk=>.inl (.inr hk)))
 have HB:=A_ (Below.refl w.heap.size w)
 have H:(if 0<(l1.length:Int) then ((some (([]:List (S28)):List (S28))).bind fun y233=>(if 0≤(rd l1 0) then (if (rd l1 0)≤(l0.length:Int) then ((some (l0.take ((rd l1 0):Int).toNat:List (S28))).bind fun y236=>(if y233.length+y236.length<1466015503701 then ((some (y233++y236:List (S28))).bind fun y241=>(if (l1.length:Int)=1 then (if y241.length+l2.length<1466015503701 then ((some (y241++l2:List (S28))).bind fun y244=>(if 0≤(wrap64 ((rd l1 0)+1)) then (if (wrap64 ((rd l1 0)+1))≤(l0.length:Int) then ((some (l0.drop ((wrap64 ((rd l1 0)+1)):Int).toNat:List (S28))).bind fun y247=>(if y244.length+y247.length<1466015503701 then (some (y244++y247)) else (none))) else (none)) else (none))) else (none)) else (if (rd l1 0)<(l0.length:Int) then (if 1≤(l1.length:Int) then ((spec_l09Put.f k ((rd_T28 l0 (rd l1 0)).f5) (l1.drop 1) l2).bind fun t258=>(if y241.length<1466015503701 then ((some (y241++[(⟨(rd_T28 l0 (rd l1 0)).f0,(rd_T28 l0 (rd l1 0)).f1,(rd_T28 l0 (rd l1 0)).f2,(rd_T28 l0 (rd l1 0)).f3,(rd_T28 l0 (rd l1 0)).f4,t258⟩:S28)]:List (S28))).bind fun y261=>(if 0≤(wrap64 ((rd l1 0)+1)) then (if (wrap64 ((rd l1 0)+1))≤(l0.length:Int) then ((some (l0.drop ((wrap64 ((rd l1 0)+1)):Int).toNat:List (S28))).bind fun y264=>(if y261.length+y264.length<1466015503701 then (some (y261++y264)) else (none))) else (none)) else (none))) else (none))) else (none)) else (none)))) else (none))) else (none)) else (none))) else (none))=some r:=h
 clear h
 by_cases c4:0<(l1.length:Int)
 ·rw [if_pos c4] at H
  have c4b0:decide (0<(l1.length:Int))=true:=dt_ c4
  have c4b1:decide (0<l1.length)=true:=dt_ (by omega)
  clear c4
  obtain ⟨y233,hy233⟩:∃ y_:List (S28),y_=(([]:List (S28))):=⟨_,rfl⟩
  replace H:(if 0≤(rd l1 0) then (if (rd l1 0)≤(l0.length:Int) then ((some (l0.take ((rd l1 0):Int).toNat:List (S28))).bind fun y236=>(if y233.length+y236.length<1466015503701 then ((some (y233++y236:List (S28))).bind fun y241=>(if (l1.length:Int)=1 then (if y241.length+l2.length<1466015503701 then ((some (y241++l2:List (S28))).bind fun y244=>(if 0≤(wrap64 ((rd l1 0)+1)) then (if (wrap64 ((rd l1 0)+1))≤(l0.length:Int) then ((some (l0.drop ((wrap64 ((rd l1 0)+1)):Int).toNat:List (S28))).bind fun y247=>(if y244.length+y247.length<1466015503701 then (some (y244++y247)) else (none))) else (none)) else (none))) else (none)) else (if (rd l1 0)<(l0.length:Int) then (if 1≤(l1.length:Int) then ((spec_l09Put.f k ((rd_T28 l0 (rd l1 0)).f5) (l1.drop 1) l2).bind fun t258=>(if y241.length<1466015503701 then ((some (y241++[(⟨(rd_T28 l0 (rd l1 0)).f0,(rd_T28 l0 (rd l1 0)).f1,(rd_T28 l0 (rd l1 0)).f2,(rd_T28 l0 (rd l1 0)).f3,(rd_T28 l0 (rd l1 0)).f4,t258⟩:S28)]:List (S28))).bind fun y261=>(if 0≤(wrap64 ((rd l1 0)+1)) then (if (wrap64 ((rd l1 0)+1))≤(l0.length:Int) then ((some (l0.drop ((wrap64 ((rd l1 0)+1)):Int).toNat:List (S28))).bind fun y264=>(if y261.length+y264.length<1466015503701 then (some (y261++y264)) else (none))) else (none)) else (none))) else (none))) else (none)) else (none)))) else (none))) else (none)) else (none))=some r:=by first|(rw [hy233];with_reducible exact H)|(have H2_:=(Option.bind_some _ _).symm.trans H;rw [hy233];with_reducible exact H2_)|(have H2_:=(Option.bind_some _ _).symm.trans H;with_reducible exact H2_)|with_reducible exact H|(rw [hy233];exact H)|exact H
  have Ny233:=A_ hy233
  clear hy233
  by_cases c5:0≤(rd l1 0)
  ·rw [if_pos c5] at H
   have c5b0:=eq_true c5
   have c5b1:decide (0≤(rd l1 0))=true:=dt_ c5
   clear c5
   by_cases c6:(rd l1 0)≤(l0.length:Int)
   ·rw [if_pos c6] at H
    have c6b0:=eq_true c6
    have c6b1:decide ((rd l1 0)≤(l0.length:Int))=true:=dt_ c6
    clear c6
    obtain ⟨y236,hy236⟩:∃ y_:List (S28),y_=(l0.take ((rd l1 0):Int).toNat):=⟨_,rfl⟩
    replace H:(if y233.length+y236.length<1466015503701 then ((some (y233++y236:List (S28))).bind fun y241=>(if (l1.length:Int)=1 then (if y241.length+l2.length<1466015503701 then ((some (y241++l2:List (S28))).bind fun y244=>(if 0≤(wrap64 ((rd l1 0)+1)) then (if (wrap64 ((rd l1 0)+1))≤(l0.length:Int) then ((some (l0.drop ((wrap64 ((rd l1 0)+1)):Int).toNat:List (S28))).bind fun y247=>(if y244.length+y247.length<1466015503701 then (some (y244++y247)) else (none))) else (none)) else (none))) else (none)) else (if (rd l1 0)<(l0.length:Int) then (if 1≤(l1.length:Int) then ((spec_l09Put.f k ((rd_T28 l0 (rd l1 0)).f5) (l1.drop 1) l2).bind fun t258=>(if y241.length<1466015503701 then ((some (y241++[(⟨(rd_T28 l0 (rd l1 0)).f0,(rd_T28 l0 (rd l1 0)).f1,(rd_T28 l0 (rd l1 0)).f2,(rd_T28 l0 (rd l1 0)).f3,(rd_T28 l0 (rd l1 0)).f4,t258⟩:S28)]:List (S28))).bind fun y261=>(if 0≤(wrap64 ((rd l1 0)+1)) then (if (wrap64 ((rd l1 0)+1))≤(l0.length:Int) then ((some (l0.drop ((wrap64 ((rd l1 0)+1)):Int).toNat:List (S28))).bind fun y264=>(if y261.length+y264.length<1466015503701 then (some (y261++y264)) else (none))) else (none)) else (none))) else (none))) else (none)) else (none)))) else (none))=some r:=by first|(rw [hy236];with_reducible exact H)|(have H2_:=(Option.bind_some _ _).symm.trans H;rw [hy236];with_reducible exact H2_)|(have H2_:=(Option.bind_some _ _).symm.trans H;with_reducible exact H2_)|with_reducible exact H|(rw [hy236];exact H)|exact H
    have Ny236:=A_ hy236
    clear hy236
    by_cases c7:y233.length+y236.length<1466015503701
    ·rw [if_pos c7] at H
     have LMc7:=A_ c7
     clear c7
     obtain ⟨y241,hy241⟩:∃ y_:List (S28),y_=(y233++y236):=⟨_,rfl⟩
     replace H:(if (l1.length:Int)=1 then (if y241.length+l2.length<1466015503701 then ((some (y241++l2:List (S28))).bind fun y244=>(if 0≤(wrap64 ((rd l1 0)+1)) then (if (wrap64 ((rd l1 0)+1))≤(l0.length:Int) then ((some (l0.drop ((wrap64 ((rd l1 0)+1)):Int).toNat:List (S28))).bind fun y247=>(if y244.length+y247.length<1466015503701 then (some (y244++y247)) else (none))) else (none)) else (none))) else (none)) else (if (rd l1 0)<(l0.length:Int) then (if 1≤(l1.length:Int) then ((spec_l09Put.f k ((rd_T28 l0 (rd l1 0)).f5) (l1.drop 1) l2).bind fun t258=>(if y241.length<1466015503701 then ((some (y241++[(⟨(rd_T28 l0 (rd l1 0)).f0,(rd_T28 l0 (rd l1 0)).f1,(rd_T28 l0 (rd l1 0)).f2,(rd_T28 l0 (rd l1 0)).f3,(rd_T28 l0 (rd l1 0)).f4,t258⟩:S28)]:List (S28))).bind fun y261=>(if 0≤(wrap64 ((rd l1 0)+1)) then (if (wrap64 ((rd l1 0)+1))≤(l0.length:Int) then ((some (l0.drop ((wrap64 ((rd l1 0)+1)):Int).toNat:List (S28))).bind fun y264=>(if y261.length+y264.length<1466015503701 then (some (y261++y264)) else (none))) else (none)) else (none))) else (none))) else (none)) else (none)))=some r:=by first|(rw [hy241];with_reducible exact H)|(have H2_:=(Option.bind_some _ _).symm.trans H;rw [hy241];with_reducible exact H2_)|(have H2_:=(Option.bind_some _ _).symm.trans H;with_reducible exact H2_)|with_reducible exact H|(rw [hy241];exact H)|exact H
     have Ny241:=A_ hy241
     clear hy241
     by_cases c8:(l1.length:Int)=1
     ·rw [if_pos c8] at H
      have c8b0:((l1.length:Int) == 1)=true:=beq_iff_eq.mpr c8
      have c8b1:((l1.length:Int) != 1)=false:=bne_eq_false_iff_eq.mpr c8
      clear c8
      by_cases c9:y241.length+l2.length<1466015503701
      ·rw [if_pos c9] at H
       have LMc9:=A_ c9
       clear c9
       obtain ⟨y244,hy244⟩:∃ y_:List (S28),y_=(y241++l2):=⟨_,rfl⟩
       replace H:(if 0≤(wrap64 ((rd l1 0)+1)) then (if (wrap64 ((rd l1 0)+1))≤(l0.length:Int) then ((some (l0.drop ((wrap64 ((rd l1 0)+1)):Int).toNat:List (S28))).bind fun y247=>(if y244.length+y247.length<1466015503701 then (some (y244++y247)) else (none))) else (none)) else (none))=some r:=by first|(rw [hy244];with_reducible exact H)|(have H2_:=(Option.bind_some _ _).symm.trans H;rw [hy244];with_reducible exact H2_)|(have H2_:=(Option.bind_some _ _).symm.trans H;with_reducible exact H2_)|with_reducible exact H|(rw [hy244];exact H)|exact H
       have Ny244:=A_ hy244
       clear hy244
       obtain ⟨ji10,hji10⟩:∃ j_:Int,(wrap64 ((rd l1 0)+1))=j_:=⟨_,rfl⟩
       replace H:(if 0≤(ji10) then (if (ji10)≤(l0.length:Int) then ((some (l0.drop ((ji10):Int).toNat:List (S28))).bind fun y247=>(if y244.length+y247.length<1466015503701 then (some (y244++y247)) else (none))) else (none)) else (none))=some r:=by first|(rw [hji10] at H;exact H)|(simp only [hji10] at H ⊢;exact H)
       have hji10w:(IntKind.i64.wrap ((rd l1 0)+1))=ji10:=(i64_w _).trans hji10
       by_cases c11:0≤(ji10)
       ·rw [if_pos c11] at H
        have c11b0:=eq_true c11
        have c11b1:decide (0≤(ji10))=true:=dt_ c11
        clear c11
        by_cases c12:(ji10)≤(l0.length:Int)
        ·rw [if_pos c12] at H
         have c12b0:=eq_true c12
         have c12b1:decide ((ji10)≤(l0.length:Int))=true:=dt_ c12
         clear c12
         obtain ⟨y247,hy247⟩:∃ y_:List (S28),y_=(l0.drop ((ji10):Int).toNat):=⟨_,rfl⟩
         replace H:(if y244.length+y247.length<1466015503701 then (some (y244++y247)) else (none))=some r:=by first|(rw [hy247];with_reducible exact H)|(have H2_:=(Option.bind_some _ _).symm.trans H;rw [hy247];with_reducible exact H2_)|(have H2_:=(Option.bind_some _ _).symm.trans H;with_reducible exact H2_)|with_reducible exact H|(rw [hy247];exact H)|exact H
         have Ny247:=A_ hy247
         clear hy247
         by_cases c13:y244.length+y247.length<1466015503701
         ·rw [if_pos c13] at H
          have LMc13:=A_ c13
          clear c13
          obtain ⟨y252,hy252⟩:∃ y_:List (S28),y_=(y244++y247):=⟨_,rfl⟩
          replace H:(some y252)=some r:=by first|(rw [hy252];with_reducible exact H)|(have H2_:=(Option.bind_some _ _).symm.trans H;rw [hy252];with_reducible exact H2_)|(have H2_:=(Option.bind_some _ _).symm.trans H;with_reducible exact H2_)|with_reducible exact H|(rw [hy252];exact H)|exact H
          have Ny252:=A_ hy252
          clear hy252
          obtain rfl:=oi_ H
          have p232:0≤(0:Int):=(by omega)
          have q232:0<(l1.length:Int):=od_ (by first|(with_reducible assumption)|assumption)
          obtain ⟨ad232,e232,hx232_0⟩:=Kd.at_int HR1.out 0 p232 q232
          cases e232
          have qi232:(0<l1.length)=True:=eq_true (by omega)
          (try rw [show ((0:Int)).toNat=0 from rfl] at hx232_0)
          (try rw [Addr.add_zero'] at hx232_0)
          replace p232:=eq_true p232
          replace q232:=eq_true q232
          go_enter Try.func37,Try.ntmps37
          try go_wp2_with (first|((with_reducible refine gate_dst (N:=13) rfl ?_);refine Kd.N_lit k28 _ 28 ?hg (N':=13) ?hd (xs:=([]:List (S28))) (inner:=[]) (ok:=(fun k_=>((P0_ k_∨P2_ k_)∨w.heap.size≤k_))) (okp:=(fun k_=>((P0_ k_∨P2_ k_)∨w.heap.size≤k_))) ?hr ?hp (fun _ hk=>hk) ((show ∀ k_,w.heap.size≤k_→(fun k_=>((P0_ k_∨P2_ k_)∨w.heap.size≤k_)) k_ from fun k_ hk=>(.inr (Nat.le_trans (bz_ (by repeat (first|(with_reducible first|exact HB.out|apply ba_|apply pd_|apply b1_)|exact HB.out))) hk))) _ (Nat.le_refl _)) (Below.refl _ _) (Nat.le_refl _) (by simp) ?_;(case hd=>rfl);(case hg=>rfl);(case hr=>first|(go_simp;done)|(go_simp;rfl)|((first|(obtain ⟨_,_,rfl⟩:=Kd.R_slice HO0.out)|(obtain ⟨_,_,rfl⟩:=Kd.S_slice HO0.out)|skip);(first|(obtain ⟨_,_,rfl⟩:=Kd.R_slice HO2.out)|(obtain ⟨_,_,rfl⟩:=Kd.S_slice HO2.out)|skip);first|(go_simp;done)|(go_simp;rfl)));(case hp=>exact (Reps.none _ _));intro v234 w14 ho15 hb hg_ hnew_;clear hg_ hnew_;(first|rw [←Ny233.out] at ho15|(simp only [Int.reduceToNat] at ho15;rw [←Ny233.out] at ho15));have n0_:=A_ (Kd.V_elder' (by (with_reducible repeat (first|apply Kd.V_alloc|apply Kd.V_drewN|apply Kd.V_drew));exact HO0.out) (Kd.N_base ho15) hb);have n1_:=A_ (Kd.V_elder' (by (with_reducible repeat (first|apply Kd.V_alloc|apply Kd.V_drewN|apply Kd.V_drew));exact HO2.out) (Kd.N_base ho15) hb);have n2_:=A_ (Kd.N_lower ho15 (bz_ (by repeat (first|(with_reducible first|exact HB.out|apply ba_|apply pd_|apply b1_)|exact HB.out))));have n3_:=A_ (bp_ (by repeat (first|(with_reducible first|exact HB.out|apply ba_|apply pd_|apply b1_)|exact HB.out)) hb);clear HO0;clear HO2;clear HB;have HO0:=n0_;have HO2:=n1_;have HO235:=n2_;have HB:=n3_;clear n0_ n1_ n2_ n3_;clear hb ho15;have q16:((rd l1 0):Int)≤((l0.length:Int):Int):=od_ (by first|(with_reducible assumption)|assumption);obtain ⟨i016,hi016,_,hsz16,_⟩:=info_parts info28;have hroom16:l0.length≤c0:=(Kd.V_reads' HO0.out).2.1;have hC16:Kd.F k28 _ _ A0 l0.length l0:=(Kd.V_at (base:=w.heap.size) HO0.out).2.2;have hcut16:=cut_to (P:=Try.prog) 26 28 .i64 Try.underlying26 hi016 A0 l0.length c0 (rd l1 0) (od_ (by first|(with_reducible assumption)|assumption)) q16 hroom16;have hr16:=Kd.F_take (m:=((rd l1 0):Int).toNat) hC16 (by omega);have hy16:y236.length=((rd l1 0):Int).toNat:=(by rw [Ny236.out,lt_];omega);rw [←Ny236.out] at hr16;rw [←hy16] at hcut16;have HO240:=A_ (show Kd.V k28 28 _ w.heap.size _ (.slice A0 y236.length c0) y236 from Kd.V_mk (by omega) hr16);have HC240:=A_ (show y236.length≤c0 from by omega);clear hr16 hC16 hroom16 hi016 hsz16;have KY16:=A_ hy16;clear hy16;replace q16:=eq_true q16)|((with_reducible refine gate_builtin (b:=.append) (xs:=#[.tmp 13,.tmp 16]) rfl ?_);at_builtin;refine Kd.N_append_rows k28 (w0:=w) w.heap.size rfl (.tmp 13) (.tmp 16) 26 28 (.agg #[(.int .i64 0),(.int .i64 0),(.string ⟨#[]⟩),(.string ⟨#[]⟩),(.slice none 0 0),(.slice none 0 0)]) 96 rfl Try.underlying26 info28 rfl (by decide) (by omega) v234 y233 y236 _ _ _ (fun k_=>((P0_ k_∨P2_ k_)∨w.heap.size≤k_)) (fun k_=>((fun k_=>((P0_ k_∨P2_ k_)∨w.heap.size≤k_))) k_∧some k_≠(v234:Value).ownBlock) rfl rfl ?aO ?aR (fun _ hk=>hk) ?aF ?aB ?aS ?aL ?_;(case aR=>exact (by skip;exact Kd.V_F (Kd.V_mono (ok':=(fun k_=>((fun k_=>((P0_ k_∨P2_ k_)∨w.heap.size≤k_))) k_∧some k_≠(v234:Value).ownBlock)) (HO240.out) (fun k_ hk=>⟨hk.1,hk.2⟩))));(case aB=>exact (by repeat (first|(with_reducible first|exact HB.out|apply ba_|apply pd_|apply b1_)|exact HB.out)));(case aF=>exact (fun k_ hk=>(.inr (Nat.le_trans (bz_ (by repeat (first|(with_reducible first|exact HB.out|apply ba_|apply pd_|apply b1_)|exact HB.out))) hk))));(case aO=>exact (by (with_reducible repeat (first|apply Kd.N_alloc|apply Kd.N_drewN|apply Kd.N_drew));exact HO235.out));(case aS=>exact (bz_ (by repeat (first|(with_reducible first|exact HB.out|apply ba_|apply pd_|apply b1_)|exact HB.out))));(case aL=>have:=LMc7.out;omega);intro v242 w17 ho hb hg hat;rw [←Ny241.out] at ho;have n0_:=A_ (Kd.V_afterv (ok:=(fun k_=>((P0_ k_∨P2_ k_)∨w.heap.size≤k_))) (by (with_reducible repeat (first|apply Kd.V_alloc|apply Kd.V_drewN|apply Kd.V_drew));exact HO0.out) hg hat);have n1_:=A_ (Kd.V_afterv (ok:=(fun k_=>((P0_ k_∨P2_ k_)∨w.heap.size≤k_))) (by (with_reducible repeat (first|apply Kd.V_alloc|apply Kd.V_drewN|apply Kd.V_drew));exact HO2.out) hg hat);have n2_:=A_ (Kd.V_afterv (ok:=(fun k_=>((P0_ k_∨P2_ k_)∨w.heap.size≤k_))) (by (with_reducible repeat (first|apply Kd.V_alloc|apply Kd.V_drewN|apply Kd.V_drew));exact HO240.out) hg hat);have n3_:=A_ (hb);have n4_:=A_ (ho);clear HO0;clear HO2;clear HO240;clear HB;clear HO235;have HO0:=n0_;have HO2:=n1_;have HO240:=n2_;have HB:=n3_;have HO243:=n4_;clear n0_ n1_ n2_ n3_ n4_;clear ho hb hg hat))
          have n0_:=A_ (Kd.V_drew HO0.out)
          have n1_:=A_ (Kd.V_drew HO2.out)
          have n2_:=A_ (Kd.V_drew HO240.out)
          have n3_:=A_ (Kd.N_drew HO243.out)
          have n4_:=A_ (b1_ HB.out)
          clear HO0
          clear HO2
          clear HO240
          clear HO243
          clear HB
          have HO0:=n0_
          have HO2:=n1_
          have HO240:=n2_
          have HO243:=n3_
          have HB:=n4_
          clear n0_ n1_ n2_ n3_ n4_
          have q19:((ji10):Int)≤((l0.length:Int):Int):=od_ (by first|(with_reducible assumption)|assumption)
          obtain ⟨i019,hi019,_,hsz19,_⟩:=info_parts info28
          have hroom19:l0.length≤c0:=(Kd.V_reads' HO0.out).2.1
          have hC19:Kd.F k28 _ _ A0 l0.length l0:=(Kd.V_at (base:=w.heap.size) HO0.out).2.2
          have q019:(0:Int)≤((ji10):Int):=od_ (by first|(with_reducible assumption)|assumption)
          have hcut19:=cut_from (P:=Try.prog) 26 28 .i64 Try.underlying26 hi019 6 hsz19 A0 l0.length c0 (ji10) q019 q19
          have hr19:=Kd.F_cut (m:=((ji10):Int).toNat) (c:=c0) hC19 (by omega) hroom19
          obtain ⟨A19,hA19⟩:∃ A1,A1=(if c0=((ji10):Int).toNat then A0 else (A0:Option Addr).map (·.add (((ji10):Int).toNat * 6))):=⟨_,rfl⟩
          obtain ⟨c19,hc19⟩:∃ c1,c1=c0 - ((ji10):Int).toNat:=⟨_,rfl⟩
          have hy19:y247.length=l0.length - ((ji10):Int).toNat:=(by rw [Ny247.out,ld_] <;> omega)
          rw [show (l0).drop ((ji10):Int).toNat=y247 from Ny247.out.symm] at hr19
          replace hr19:Kd.F k28 _ _ A19 y247.length y247:=(by rw [hA19];exact hr19)
          rw [←hy19,←hA19,←hc19] at hcut19
          have HO251:=A_ (show Kd.V k28 28 _ w.heap.size _ (.slice A19 y247.length c19) y247 from Kd.V_mk (by rw [hy19,hc19];exact Nat.sub_le_sub_right hroom19 _) hr19)
          have HC251:=A_ (show y247.length≤c19 from by rw [hy19,hc19];exact Nat.sub_le_sub_right hroom19 _)
          clear hr19 hC19 hroom19 hi019 hsz19 hc19
          have KY19:=A_ hy19
          have KA19:=A_ hA19
          clear hy19 hA19
          replace q19:=eq_true q19
          refine start_ (n:=9) (S:=fun w'=>True) (ds:=[]) #[F_,F_,F_,F_,F_,F_,F_,F_,F_] (by kernel_rfl) rfl rfl trivial (fun hHeld=>?_);refine with_tabW spec_l09Put.tab4 spec_l09Put.bits4 (fun HT_ HW_=>?_)
          generalize w17.drew=w18 at HO0 HO2 HO240 HO243 HB HO251 hHeld ⊢
          refine pure_ (i:=0) (N:=some 21) (v:=?_) (a':=?_) #[T_,F_,F_,F_,F_,F_,F_,F_,F_] rfl rfl (any_of HT_.out (by kernel_rfl)) (fun _ _ _ h=>h) (Or.inl ⟨by rfl,?_⟩) ?_ ?_
          rotate_left
          ·intro w'
           go_simp
           with_reducible rfl
          rotate_left
          ·simp only [Act.put,ls_,lz_,lc_,i64_w,i32_w]
           rfl
          refine pure_ (i:=1) (N:=some 22) (v:=?_) (a':=?_) #[T_,T_,F_,F_,F_,F_,F_,F_,F_] rfl rfl (any_of HT_.out (by kernel_rfl)) (fun _ _ _ h=>h) (Or.inl ⟨by rfl,?_⟩) ?_ ?_
          rotate_left
          ·intro w'
           go_simp
           with_reducible rfl
          rotate_left
          ·simp only [Act.put,ls_,lz_,lc_,i64_w,i32_w]
           rfl
          refine pure_ (i:=3) (N:=some 24) (v:=?_) (a':=?_) #[T_,T_,F_,T_,F_,F_,F_,F_,F_] rfl rfl (any_of HT_.out (by kernel_rfl)) (fun _ _ _ h=>h) (Or.inl ⟨by rfl,?_⟩) ?_ ?_
          rotate_left
          ·intro w'
           go_simp
           with_reducible rfl
          rotate_left
          ·simp only [Act.put,ls_,lz_,lc_,i64_w,i32_w]
           rfl
          refine pure_ (i:=4) (N:=some 25) (v:=?_) (a':=?_) #[T_,T_,F_,T_,T_,F_,F_,F_,F_] rfl rfl (any_of HT_.out (by kernel_rfl)) (fun _ _ _ h=>h) (Or.inl ⟨by rfl,?_⟩) ?_ ?_
          rotate_left
          ·intro w'
           go_simp
           with_reducible rfl
          rotate_left
          ·simp only [Act.put,ls_,lz_,lc_,i64_w,i32_w]
           rfl
          refine pure_ (i:=5) (N:=some 26) (v:=?_) (a':=?_) #[T_,T_,F_,T_,T_,T_,F_,F_,F_] rfl rfl (any_of HT_.out (by kernel_rfl)) (fun _ _ _ h=>h) (Or.inl ⟨by rfl,?_⟩) ?_ ?_
          rotate_left
          ·intro w'
           go_simp
           with_reducible rfl
          rotate_left
          ·simp only [Act.put,ls_,lz_,lc_,i64_w,i32_w]
           rfl
          refine pure_ (i:=6) (N:=some 27) (v:=?_) (a':=?_) #[T_,T_,F_,T_,T_,T_,T_,F_,F_] rfl rfl (any_of HT_.out (by kernel_rfl)) (fun _ _ _ h=>h) (Or.inl ⟨by rfl,?_⟩) ?_ ?_
          rotate_left
          ·intro w'
           go_simp
           with_reducible rfl
          rotate_left
          ·simp only [Act.put,ls_,lz_,lc_,i64_w,i32_w]
           rfl
          refine one_ (i:=2) (N:=some 23) #[T_,T_,T_,T_,T_,T_,T_,F_,F_] rfl rfl (one_of HT_.out (by kernel_rfl)) (by decide) (fun K hK=>?_)
          refine Kd.N_append_rows_step k28 (w0:=w) w.heap.size (by rfl) (.tmp 21) (.tmp 22) 26 28 (.agg #[(.int .i64 0),(.int .i64 0),(.string ⟨#[]⟩),(.string ⟨#[]⟩),(.slice none 0 0),(.slice none 0 0)]) 96 rfl Try.underlying26 info28 rfl (by decide) (by omega) v242 y241 l2 _ _ _ (fun k_=>((P0_ k_∨P2_ k_)∨w.heap.size≤k_)) (fun k_=>((fun k_=>((P0_ k_∨P2_ k_)∨w.heap.size≤k_))) k_∧some k_≠(v242:Value).ownBlock) rfl rfl ?aO ?aR (fun _ hk=>hk) ?aF ?aB ?aS ?aL ?_
          (case aR=>exact (by skip;exact Kd.V_F (Kd.V_mono (ok':=(fun k_=>((fun k_=>((P0_ k_∨P2_ k_)∨w.heap.size≤k_))) k_∧some k_≠(v242:Value).ownBlock)) (HO2.out) (fun k_ hk=>⟨hk.1,hk.2⟩))))
          (case aB=>exact (by repeat (first|(with_reducible first|exact HB.out|apply ba_|apply pd_|apply b1_)|exact HB.out)))
          (case aF=>exact (fun k_ hk=>(.inr (Nat.le_trans (bz_ (by repeat (first|(with_reducible first|exact HB.out|apply ba_|apply pd_|apply b1_)|exact HB.out))) hk))))
          (case aO=>exact (by (with_reducible repeat (first|apply Kd.N_alloc|apply Kd.N_drewN|apply Kd.N_drew));exact HO243.out))
          (case aS=>exact (bz_ (by repeat (first|(with_reducible first|exact HB.out|apply ba_|apply pd_|apply b1_)|exact HB.out))))
          (case aL=>have:=LMc9.out;omega)
          intro v245 w20 ho hb hg hat
          rw [←Ny244.out] at ho
          have n0_:=A_ (Kd.V_afterv (ok:=(fun k_=>((P0_ k_∨P2_ k_)∨w.heap.size≤k_))) (by (with_reducible repeat (first|apply Kd.V_alloc|apply Kd.V_drewN|apply Kd.V_drew));exact HO0.out) hg hat)
          have n1_:=A_ (Kd.V_afterv (ok:=(fun k_=>((P0_ k_∨P2_ k_)∨w.heap.size≤k_))) (by (with_reducible repeat (first|apply Kd.V_alloc|apply Kd.V_drewN|apply Kd.V_drew));exact HO2.out) hg hat)
          have n2_:=A_ (Kd.V_afterv (ok:=(fun k_=>((P0_ k_∨P2_ k_)∨w.heap.size≤k_))) (by (with_reducible repeat (first|apply Kd.V_alloc|apply Kd.V_drewN|apply Kd.V_drew));exact HO240.out) hg hat)
          have n3_:=A_ (Kd.V_afterv (ok:=(fun k_=>((P0_ k_∨P2_ k_)∨w.heap.size≤k_))) (by (with_reducible repeat (first|apply Kd.V_alloc|apply Kd.V_drewN|apply Kd.V_drew));exact HO251.out) hg hat)
          have n4_:=A_ (hb)
          have n5_:=A_ (ho)
          clear HO0
          clear HO2
          clear HO240
          clear HO251
          clear HB
          clear HO243
          have HO0:=n0_
          have HO2:=n1_
          have HO240:=n2_
          have HO251:=n3_
          have HB:=n4_
          have HO246:=n5_
          clear n0_ n1_ n2_ n3_ n4_ n5_
          clear ho hb hg hat
          refine hK.out _ _ trivial (fun hHeld=>?_)
          clear hK K
          refine norm_ (a':=?_) ?_ ?_
          rotate_left
          ·show Act.put _ (some 23) _=_
           simp only [Act.put,ls_,lz_,lc_,i64_w,i32_w]
           rfl
          refine one_ (i:=7) (N:=some 28) #[T_,T_,T_,T_,T_,T_,T_,T_,F_] rfl rfl (one_of HT_.out (by kernel_rfl)) (by decide) (fun K hK=>?_)
          refine Kd.N_append_rows_step k28 (w0:=w) w.heap.size (by rfl) (.tmp 23) (.tmp 27) 26 28 (.agg #[(.int .i64 0),(.int .i64 0),(.string ⟨#[]⟩),(.string ⟨#[]⟩),(.slice none 0 0),(.slice none 0 0)]) 96 rfl Try.underlying26 info28 rfl (by decide) (by omega) v245 y244 y247 _ _ _ (fun k_=>((P0_ k_∨P2_ k_)∨w.heap.size≤k_)) (fun k_=>((fun k_=>((P0_ k_∨P2_ k_)∨w.heap.size≤k_))) k_∧some k_≠(v245:Value).ownBlock) rfl rfl ?aO ?aR (fun _ hk=>hk) ?aF ?aB ?aS ?aL ?_
          (case aR=>exact (by skip;exact Kd.V_F (Kd.V_mono (ok':=(fun k_=>((fun k_=>((P0_ k_∨P2_ k_)∨w.heap.size≤k_))) k_∧some k_≠(v245:Value).ownBlock)) (HO251.out) (fun k_ hk=>⟨hk.1,hk.2⟩))))
          (case aB=>exact (by repeat (first|(with_reducible first|exact HB.out|apply ba_|apply pd_|apply b1_)|exact HB.out)))
          (case aF=>exact (fun k_ hk=>(.inr (Nat.le_trans (bz_ (by repeat (first|(with_reducible first|exact HB.out|apply ba_|apply pd_|apply b1_)|exact HB.out))) hk))))
          (case aO=>exact (by (with_reducible repeat (first|apply Kd.N_alloc|apply Kd.N_drewN|apply Kd.N_drew));exact HO246.out))
          (case aS=>exact (bz_ (by repeat (first|(with_reducible first|exact HB.out|apply ba_|apply pd_|apply b1_)|exact HB.out))))
          (case aL=>have:=LMc13.out;omega)
          intro v253 w21 ho hb hg hat
          rw [←Ny252.out] at ho
          have n0_:=A_ (Kd.V_afterv (ok:=(fun k_=>((P0_ k_∨P2_ k_)∨w.heap.size≤k_))) (by (with_reducible repeat (first|apply Kd.V_alloc|apply Kd.V_drewN|apply Kd.V_drew));exact HO0.out) hg hat)
          have n1_:=A_ (Kd.V_afterv (ok:=(fun k_=>((P0_ k_∨P2_ k_)∨w.heap.size≤k_))) (by (with_reducible repeat (first|apply Kd.V_alloc|apply Kd.V_drewN|apply Kd.V_drew));exact HO2.out) hg hat)
          have n2_:=A_ (Kd.V_afterv (ok:=(fun k_=>((P0_ k_∨P2_ k_)∨w.heap.size≤k_))) (by (with_reducible repeat (first|apply Kd.V_alloc|apply Kd.V_drewN|apply Kd.V_drew));exact HO240.out) hg hat)
          have n3_:=A_ (Kd.V_afterv (ok:=(fun k_=>((P0_ k_∨P2_ k_)∨w.heap.size≤k_))) (by (with_reducible repeat (first|apply Kd.V_alloc|apply Kd.V_drewN|apply Kd.V_drew));exact HO251.out) hg hat)
          have n4_:=A_ (hb)
          have n5_:=A_ (ho)
          clear HO0
          clear HO2
          clear HO240
          clear HO251
          clear HB
          clear HO246
          have HO0:=n0_
          have HO2:=n1_
          have HO240:=n2_
          have HO251:=n3_
          have HB:=n4_
          have HO254:=n5_
          clear n0_ n1_ n2_ n3_ n4_ n5_
          clear ho hb hg hat
          refine hK.out _ _ trivial (fun hHeld=>?_)
          clear hK K
          refine norm_ (a':=?_) ?_ ?_
          rotate_left
          ·show Act.put _ (some 28) _=_
           simp only [Act.put,ls_,lz_,lc_,i64_w,i32_w]
           rfl
          refine pure_ (i:=8) (N:=some 6) (v:=?_) (a':=?_) #[T_,T_,T_,T_,T_,T_,T_,T_,T_] rfl rfl (any_of HT_.out (by kernel_rfl)) (fun _ _ _ h=>h) (Or.inl ⟨by rfl,?_⟩) ?_ ?_
          rotate_left
          ·intro w'
           go_simp
           with_reducible rfl
          rotate_left
          ·simp only [Act.put,ls_,lz_,lc_,i64_w,i32_w]
           rfl
          refine done_ (done_of HT_.out (by kernel_rfl)) ?_
          try go_wp2
          go_ret
          exact ⟨_,by first|rfl|(simp [errW_none,errW_some] <;> rfl)|(simp only [←hji10];first|rfl|(simp [errW_none,errW_some] <;> rfl))|(simp [*,errW_none,errW_some] <;> rfl),by (with_reducible repeat (first|apply Kd.N_alloc|apply Kd.N_drewN|apply Kd.N_drew));exact HO254.out,by repeat (first|(with_reducible first|exact HB.out|apply ba_|apply pd_|apply b1_)|exact HB.out)⟩
         ·rw [if_neg c13] at H
          exact absurd H (by simp)
        ·rw [if_neg c12] at H
         exact absurd H (by simp)
       ·rw [if_neg c11] at H
        exact absurd H (by simp)
      ·rw [if_neg c9] at H
       exact absurd H (by simp)
     ·rw [if_neg c8] at H
      have c8b0:((l1.length:Int) == 1)=false:=beq_eq_false_iff_ne.mpr c8
      have c8b1:((l1.length:Int) != 1)=true:=bne_iff_ne.mpr c8
      by_cases c22:(rd l1 0)<(l0.length:Int)
      ·rw [if_pos c22] at H
       have c22b0:decide ((rd l1 0)<(l0.length:Int))=true:=dt_ c22
       clear c22
       by_cases c23:1≤(l1.length:Int)
       ·rw [if_pos c23] at H
        have c23b0:=eq_true c23
        have c23b1:decide (1≤(l1.length:Int))=true:=dt_ c23
        clear c23
        replace H:=ob_ H
        obtain ⟨t258,A240,H⟩:=H
        replace H:(if y241.length<1466015503701 then ((some (y241++[(⟨(rd_T28 l0 (rd l1 0)).f0,(rd_T28 l0 (rd l1 0)).f1,(rd_T28 l0 (rd l1 0)).f2,(rd_T28 l0 (rd l1 0)).f3,(rd_T28 l0 (rd l1 0)).f4,t258⟩:S28)]:List (S28))).bind fun y261=>(if 0≤(wrap64 ((rd l1 0)+1)) then (if (wrap64 ((rd l1 0)+1))≤(l0.length:Int) then ((some (l0.drop ((wrap64 ((rd l1 0)+1)):Int).toNat:List (S28))).bind fun y264=>(if y261.length+y264.length<1466015503701 then (some (y261++y264)) else (none))) else (none)) else (none))) else (none))=some r:=H
        have A24:=A_ A240
        clear A240
        by_cases c25:y241.length<1466015503701
        ·rw [if_pos c25] at H
         have LMc25:=A_ c25
         clear c25
         obtain ⟨y261,hy261⟩:∃ y_:List (S28),y_=(y241++[(⟨(rd_T28 l0 (rd l1 0)).f0,(rd_T28 l0 (rd l1 0)).f1,(rd_T28 l0 (rd l1 0)).f2,(rd_T28 l0 (rd l1 0)).f3,(rd_T28 l0 (rd l1 0)).f4,t258⟩:S28)]):=⟨_,rfl⟩
         replace H:(if 0≤(wrap64 ((rd l1 0)+1)) then (if (wrap64 ((rd l1 0)+1))≤(l0.length:Int) then ((some (l0.drop ((wrap64 ((rd l1 0)+1)):Int).toNat:List (S28))).bind fun y264=>(if y261.length+y264.length<1466015503701 then (some (y261++y264)) else (none))) else (none)) else (none))=some r:=by first|(rw [hy261];with_reducible exact H)|(have H2_:=(Option.bind_some _ _).symm.trans H;rw [hy261];with_reducible exact H2_)|(have H2_:=(Option.bind_some _ _).symm.trans H;with_reducible exact H2_)|with_reducible exact H|(rw [hy261];exact H)|exact H
         have Ny261:=A_ hy261
         clear hy261
         obtain ⟨ji26,hji26⟩:∃ j_:Int,(wrap64 ((rd l1 0)+1))=j_:=⟨_,rfl⟩
         replace H:(if 0≤(ji26) then (if (ji26)≤(l0.length:Int) then ((some (l0.drop ((ji26):Int).toNat:List (S28))).bind fun y264=>(if y261.length+y264.length<1466015503701 then (some (y261++y264)) else (none))) else (none)) else (none))=some r:=by first|(rw [hji26] at H;exact H)|(simp only [hji26] at H ⊢;exact H)
         (try rw [hji26] at A24)
         have hji26w:(IntKind.i64.wrap ((rd l1 0)+1))=ji26:=(i64_w _).trans hji26
         by_cases c27:0≤(ji26)
         ·rw [if_pos c27] at H
          have c27b0:=eq_true c27
          have c27b1:decide (0≤(ji26))=true:=dt_ c27
          clear c27
          by_cases c28:(ji26)≤(l0.length:Int)
          ·rw [if_pos c28] at H
           have c28b0:=eq_true c28
           have c28b1:decide ((ji26)≤(l0.length:Int))=true:=dt_ c28
           clear c28
           obtain ⟨y264,hy264⟩:∃ y_:List (S28),y_=(l0.drop ((ji26):Int).toNat):=⟨_,rfl⟩
           replace H:(if y261.length+y264.length<1466015503701 then (some (y261++y264)) else (none))=some r:=by first|(rw [hy264];with_reducible exact H)|(have H2_:=(Option.bind_some _ _).symm.trans H;rw [hy264];with_reducible exact H2_)|(have H2_:=(Option.bind_some _ _).symm.trans H;with_reducible exact H2_)|with_reducible exact H|(rw [hy264];exact H)|exact H
           have Ny264:=A_ hy264
           clear hy264
           by_cases c29:y261.length+y264.length<1466015503701
           ·rw [if_pos c29] at H
            have LMc29:=A_ c29
            clear c29
            obtain ⟨y269,hy269⟩:∃ y_:List (S28),y_=(y261++y264):=⟨_,rfl⟩
            replace H:(some y269)=some r:=by first|(rw [hy269];with_reducible exact H)|(have H2_:=(Option.bind_some _ _).symm.trans H;rw [hy269];with_reducible exact H2_)|(have H2_:=(Option.bind_some _ _).symm.trans H;with_reducible exact H2_)|with_reducible exact H|(rw [hy269];exact H)|exact H
            have Ny269:=A_ hy269
            clear hy269
            obtain rfl:=oi_ H
            have p232:0≤(0:Int):=(by omega)
            have q232:0<(l1.length:Int):=od_ (by first|(with_reducible assumption)|assumption)
            obtain ⟨ad232,e232,hx232_0⟩:=Kd.at_int HR1.out 0 p232 q232
            cases e232
            have qi232:(0<l1.length)=True:=eq_true (by omega)
            (try rw [show ((0:Int)).toNat=0 from rfl] at hx232_0)
            (try rw [Addr.add_zero'] at hx232_0)
            replace p232:=eq_true p232
            replace q232:=eq_true q232
            go_enter Try.func37,Try.ntmps37
            try go_wp2_with (first|((with_reducible refine gate_dst (N:=13) rfl ?_);refine Kd.N_lit k28 _ 28 ?hg (N':=13) ?hd (xs:=([]:List (S28))) (inner:=[]) (ok:=(fun k_=>((P0_ k_∨P2_ k_)∨w.heap.size≤k_))) (okp:=(fun k_=>((P0_ k_∨P2_ k_)∨w.heap.size≤k_))) ?hr ?hp (fun _ hk=>hk) ((show ∀ k_,w.heap.size≤k_→(fun k_=>((P0_ k_∨P2_ k_)∨w.heap.size≤k_)) k_ from fun k_ hk=>(.inr (Nat.le_trans (bz_ (by repeat (first|(with_reducible first|exact HB.out|apply ba_|apply pd_|apply b1_)|exact HB.out))) hk))) _ (Nat.le_refl _)) (Below.refl _ _) (Nat.le_refl _) (by simp) ?_;(case hd=>rfl);(case hg=>rfl);(case hr=>first|(go_simp;done)|(go_simp;rfl)|((first|(obtain ⟨_,_,rfl⟩:=Kd.R_slice HO0.out)|(obtain ⟨_,_,rfl⟩:=Kd.S_slice HO0.out)|skip);(first|(obtain ⟨_,_,rfl⟩:=Kd.R_slice HO2.out)|(obtain ⟨_,_,rfl⟩:=Kd.S_slice HO2.out)|skip);(first|(obtain ⟨_,_,rfl⟩:=Kd.R_slice HO235.out)|(obtain ⟨_,_,rfl⟩:=Kd.S_slice HO235.out)|skip);(first|(obtain ⟨_,_,rfl⟩:=Kd.R_slice HO240.out)|(obtain ⟨_,_,rfl⟩:=Kd.S_slice HO240.out)|skip);(first|(obtain ⟨_,_,rfl⟩:=Kd.R_slice HO243.out)|(obtain ⟨_,_,rfl⟩:=Kd.S_slice HO243.out)|skip);(first|(obtain ⟨_,_,rfl⟩:=Kd.R_slice HO246.out)|(obtain ⟨_,_,rfl⟩:=Kd.S_slice HO246.out)|skip);(first|(obtain ⟨_,_,rfl⟩:=Kd.R_slice HO251.out)|(obtain ⟨_,_,rfl⟩:=Kd.S_slice HO251.out)|skip);(first|(obtain ⟨_,_,rfl⟩:=Kd.R_slice HO254.out)|(obtain ⟨_,_,rfl⟩:=Kd.S_slice HO254.out)|skip);first|(go_simp;done)|(go_simp;rfl)));(case hp=>exact (Reps.none _ _));intro v234 w30 ho31 hb hg_ hnew_;clear hg_ hnew_;(first|rw [←Ny233.out] at ho31|(simp only [Int.reduceToNat] at ho31;rw [←Ny233.out] at ho31));have n0_:=A_ (Kd.V_elder' (by (with_reducible repeat (first|apply Kd.V_alloc|apply Kd.V_drewN|apply Kd.V_drew));exact HO0.out) (Kd.N_base ho31) hb);have n1_:=A_ (Kd.V_elder' (by (with_reducible repeat (first|apply Kd.V_alloc|apply Kd.V_drewN|apply Kd.V_drew));exact HO2.out) (Kd.N_base ho31) hb);have n2_:=A_ (Kd.N_lower ho31 (bz_ (by repeat (first|(with_reducible first|exact HB.out|apply ba_|apply pd_|apply b1_)|exact HB.out))));have n3_:=A_ (bp_ (by repeat (first|(with_reducible first|exact HB.out|apply ba_|apply pd_|apply b1_)|exact HB.out)) hb);clear HO0;clear HO2;clear HB;have HO0:=n0_;have HO2:=n1_;have HO235:=n2_;have HB:=n3_;clear n0_ n1_ n2_ n3_;clear hb ho31;have q32:((rd l1 0):Int)≤((l0.length:Int):Int):=od_ (by first|(with_reducible assumption)|assumption);obtain ⟨i032,hi032,_,hsz32,_⟩:=info_parts info28;have hroom32:l0.length≤c0:=(Kd.V_reads' HO0.out).2.1;have hC32:Kd.F k28 _ _ A0 l0.length l0:=(Kd.V_at (base:=w.heap.size) HO0.out).2.2;have hcut32:=cut_to (P:=Try.prog) 26 28 .i64 Try.underlying26 hi032 A0 l0.length c0 (rd l1 0) (od_ (by first|(with_reducible assumption)|assumption)) q32 hroom32;have hr32:=Kd.F_take (m:=((rd l1 0):Int).toNat) hC32 (by omega);have hy32:y236.length=((rd l1 0):Int).toNat:=(by rw [Ny236.out,lt_];omega);rw [←Ny236.out] at hr32;rw [←hy32] at hcut32;have HO240:=A_ (show Kd.V k28 28 _ w.heap.size _ (.slice A0 y236.length c0) y236 from Kd.V_mk (by omega) hr32);have HC240:=A_ (show y236.length≤c0 from by omega);clear hr32 hC32 hroom32 hi032 hsz32;have KY32:=A_ hy32;clear hy32;replace q32:=eq_true q32)|((with_reducible refine gate_builtin (b:=.append) (xs:=#[.tmp 13,.tmp 16]) rfl ?_);at_builtin;refine Kd.N_append_rows k28 (w0:=w) w.heap.size rfl (.tmp 13) (.tmp 16) 26 28 (.agg #[(.int .i64 0),(.int .i64 0),(.string ⟨#[]⟩),(.string ⟨#[]⟩),(.slice none 0 0),(.slice none 0 0)]) 96 rfl Try.underlying26 info28 rfl (by decide) (by omega) v234 y233 y236 _ _ _ (fun k_=>((P0_ k_∨P2_ k_)∨w.heap.size≤k_)) (fun k_=>((fun k_=>((P0_ k_∨P2_ k_)∨w.heap.size≤k_))) k_∧some k_≠(v234:Value).ownBlock) rfl rfl ?aO ?aR (fun _ hk=>hk) ?aF ?aB ?aS ?aL ?_;(case aR=>exact (by skip;exact Kd.V_F (Kd.V_mono (ok':=(fun k_=>((fun k_=>((P0_ k_∨P2_ k_)∨w.heap.size≤k_))) k_∧some k_≠(v234:Value).ownBlock)) (HO240.out) (fun k_ hk=>⟨hk.1,hk.2⟩))));(case aB=>exact (by repeat (first|(with_reducible first|exact HB.out|apply ba_|apply pd_|apply b1_)|exact HB.out)));(case aF=>exact (fun k_ hk=>(.inr (Nat.le_trans (bz_ (by repeat (first|(with_reducible first|exact HB.out|apply ba_|apply pd_|apply b1_)|exact HB.out))) hk))));(case aO=>exact (by (with_reducible repeat (first|apply Kd.N_alloc|apply Kd.N_drewN|apply Kd.N_drew));exact HO235.out));(case aS=>exact (bz_ (by repeat (first|(with_reducible first|exact HB.out|apply ba_|apply pd_|apply b1_)|exact HB.out))));(case aL=>have:=LMc7.out;omega);intro v242 w33 ho hb hg hat;rw [←Ny241.out] at ho;have n0_:=A_ (Kd.V_afterv (ok:=(fun k_=>((P0_ k_∨P2_ k_)∨w.heap.size≤k_))) (by (with_reducible repeat (first|apply Kd.V_alloc|apply Kd.V_drewN|apply Kd.V_drew));exact HO0.out) hg hat);have n1_:=A_ (Kd.V_afterv (ok:=(fun k_=>((P0_ k_∨P2_ k_)∨w.heap.size≤k_))) (by (with_reducible repeat (first|apply Kd.V_alloc|apply Kd.V_drewN|apply Kd.V_drew));exact HO2.out) hg hat);have n2_:=A_ (Kd.V_afterv (ok:=(fun k_=>((P0_ k_∨P2_ k_)∨w.heap.size≤k_))) (by (with_reducible repeat (first|apply Kd.V_alloc|apply Kd.V_drewN|apply Kd.V_drew));exact HO240.out) hg hat);have n3_:=A_ (hb);have n4_:=A_ (ho);clear HO0;clear HO2;clear HO240;clear HB;clear HO235;have HO0:=n0_;have HO2:=n1_;have HO240:=n2_;have HB:=n3_;have HO243:=n4_;clear n0_ n1_ n2_ n3_ n4_;clear ho hb hg hat;have p255:0≤((rd l1 0):Int):=od_ (by first|(with_reducible assumption)|assumption);have q255:(rd l1 0)<(l0.length:Int):=od_ (by first|(with_reducible assumption)|assumption);obtain ⟨ad255,A255_4,c255_4,A255_5,c255_5,e255,hx255_0,hx255_1,hx255_2,hx255_3,hx255_4,hx255_5,hl255_4,hi255_4,hl255_5,hi255_5⟩:=at_T28 (Kd.V_reads' HO0.out).2.2 (rd l1 0) p255 q255;cases e255;obtain ⟨ce255,hce255,hMe255,hcc255⟩:=Kd.V_get HO0.out z28 (rd l1 0) p255 (by first|exact q255|exact od_ (by first|(with_reducible assumption)|assumption)|(have e_:=(Kd.V_reads' HO0.out).1;omega));obtain ⟨ua255_4,uc255_4,ua255_5,uc255_5,rfl,ul255_4,ge255_4,ul255_5,ge255_5⟩:=k28_openF hMe255;have hv255_4:=hcc255 4 _ rfl;rw [add_field _ _ 4 (by omega)] at hv255_4;replace hv255_4:=oi_ (hv255_4.symm.trans hx255_4);injection hv255_4 with hva_ hvn_ hvc_;rw [hva_] at ge255_4;rw [hvc_] at ul255_4;have HL255_4:=A_ (show Kd.V k71 71 _ w.heap.size _ _ ((rd_T28 l0 (rd l1 0)).f4) from Kd.V_mk ul255_4 ge255_4);clear hva_ hvn_ hvc_ ge255_4 ul255_4;have hv255_5:=hcc255 5 _ rfl;rw [add_field _ _ 5 (by omega)] at hv255_5;replace hv255_5:=oi_ (hv255_5.symm.trans hx255_5);injection hv255_5 with hva_ hvn_ hvc_;rw [hva_] at ge255_5;rw [hvc_] at ul255_5;have HL255_5:=A_ (show Kd.V k28 28 _ w.heap.size _ _ ((rd_T28 l0 (rd l1 0)).f5) from Kd.V_mk ul255_5 ge255_5);clear hva_ hvn_ hvc_ ge255_5 ul255_5;clear hcc255 hce255;have HR255_4:=A_ hi255_4;have HC255_4:=A_ hl255_4;clear hi255_4 hl255_4;have HR255_5:=A_ hi255_5;have HC255_5:=A_ hl255_5;clear hi255_5 hl255_5;replace p255:=eq_true p255;replace q255:=eq_true q255)|((with_reducible refine gate_dst (N:=9) rfl ?_);refine box_event ?hg (N:=9) ?hd (cs:=#[.int .i64 0,.int .i64 0,.string (⟨#[]⟩:ByteArray),.string (⟨#[]⟩:ByteArray),.slice none 0 0,.slice none 0 0]) (t:=28) ?hr ?_;(case hd=>rfl);(case hg=>rfl);(case hr=>first|(go_simp;done)|(go_simp;rfl)|((first|(obtain ⟨_,_,rfl⟩:=Kd.R_slice HO0.out)|(obtain ⟨_,_,rfl⟩:=Kd.S_slice HO0.out)|skip);(first|(obtain ⟨_,_,rfl⟩:=Kd.R_slice HO2.out)|(obtain ⟨_,_,rfl⟩:=Kd.S_slice HO2.out)|skip);(first|(obtain ⟨_,_,rfl⟩:=Kd.R_slice HO235.out)|(obtain ⟨_,_,rfl⟩:=Kd.S_slice HO235.out)|skip);(first|(obtain ⟨_,_,rfl⟩:=Kd.R_slice HO240.out)|(obtain ⟨_,_,rfl⟩:=Kd.S_slice HO240.out)|skip);(first|(obtain ⟨_,_,rfl⟩:=Kd.R_slice HO243.out)|(obtain ⟨_,_,rfl⟩:=Kd.S_slice HO243.out)|skip);(first|(obtain ⟨_,_,rfl⟩:=Kd.R_slice HO246.out)|(obtain ⟨_,_,rfl⟩:=Kd.S_slice HO246.out)|skip);(first|(obtain ⟨_,_,rfl⟩:=Kd.R_slice HO251.out)|(obtain ⟨_,_,rfl⟩:=Kd.S_slice HO251.out)|skip);(first|(obtain ⟨_,_,rfl⟩:=Kd.R_slice HO254.out)|(obtain ⟨_,_,rfl⟩:=Kd.S_slice HO254.out)|skip);first|(go_simp;done)|(go_simp;rfl)));intro gb256 hg w34 hbox hb;have n0_:=A_ (Kd.V_below (Kd.V_elderB (by (with_reducible repeat (first|apply Kd.V_alloc|apply Kd.V_drewN|apply Kd.V_drew));exact HO0.out) gb256 (Nat.le_of_eq hg.symm)) hb);have n1_:=A_ (Kd.V_below (Kd.V_elderB (by (with_reducible repeat (first|apply Kd.V_alloc|apply Kd.V_drewN|apply Kd.V_drew));exact HO2.out) gb256 (Nat.le_of_eq hg.symm)) hb);have n2_:=A_ (Kd.V_below (Kd.V_elderB (by (with_reducible repeat (first|apply Kd.V_alloc|apply Kd.V_drewN|apply Kd.V_drew));exact HO240.out) gb256 (Nat.le_of_eq hg.symm)) hb);have n3_:=A_ (Kd.N_below (Kd.N_elderB (by (with_reducible repeat (first|apply Kd.N_alloc|apply Kd.N_drewN|apply Kd.N_drew));exact HO243.out) gb256 (Nat.le_of_eq hg.symm)) hb);have n4_:=A_ (Kd.V_below (Kd.V_elderB (by (with_reducible repeat (first|apply Kd.V_alloc|apply Kd.V_drewN|apply Kd.V_drew));exact HL255_4.out) gb256 (Nat.le_of_eq hg.symm)) hb);have n5_:=A_ (Kd.V_below (Kd.V_elderB (by (with_reducible repeat (first|apply Kd.V_alloc|apply Kd.V_drewN|apply Kd.V_drew));exact HL255_5.out) gb256 (Nat.le_of_eq hg.symm)) hb);have n6_:=A_ (cb_ (by repeat (first|(with_reducible exact HR255_4.out)|(with_reducible refine ca_ ?_ _)|(with_reducible refine cn_ ?_ _)|(with_reducible refine cd_ ?_)|exact HR255_4.out)) hb);have n7_:=A_ (cb_ (by repeat (first|(with_reducible exact HR255_5.out)|(with_reducible refine ca_ ?_ _)|(with_reducible refine cn_ ?_ _)|(with_reducible refine cd_ ?_)|exact HR255_5.out)) hb);have n8_:=A_ (bp_ (by repeat (first|(with_reducible first|exact HB.out|apply ba_|apply pd_|apply b1_)|exact HB.out)) hb);have n9_:=A_ (hbox);have n10_:=A_ ((by rw [hg];exact (bz_ (by repeat (first|(with_reducible first|exact HB.out|apply ba_|apply pd_|apply b1_)|exact HB.out))):w.heap.size≤gb256));have n11_:=A_ ((by rw [hg];exact (bz_ (by repeat (first|(with_reducible first|exact HB.out|apply ba_|apply pd_|apply b1_)|exact HB.out))):w.heap.size≤gb256));clear HO0;clear HO2;clear HO240;clear HO243;clear HL255_4;clear HL255_5;clear HR255_4;clear HR255_5;clear HB;have HO0:=n0_;have HO2:=n1_;have HO240:=n2_;have HO243:=n3_;have HL255_4:=n4_;have HL255_5:=n5_;have HR255_4:=n6_;have HR255_5:=n7_;have HB:=n8_;have BK256:=n9_;have GW256:=n10_;have GE256:=n11_;clear n0_ n1_ n2_ n3_ n4_ n5_ n6_ n7_ n8_ n9_ n10_ n11_;clear hb hbox hg;have hcz35_0:w34.cell? ⟨gb256,0,none⟩=some (.int .i64 0):=(bc_ BK256.out 0).trans rfl;have hcz35_1:w34.cell? ⟨gb256,1,none⟩=some (.int .i64 0):=(bc_ BK256.out 1).trans rfl;have hcz35_2:w34.cell? ⟨gb256,2,none⟩=some (.string (⟨#[]⟩:ByteArray)):=(bc_ BK256.out 2).trans rfl;have hcz35_3:w34.cell? ⟨gb256,3,none⟩=some (.string (⟨#[]⟩:ByteArray)):=(bc_ BK256.out 3).trans rfl;have hcz35_4:w34.cell? ⟨gb256,4,none⟩=some (.slice none 0 0):=(bc_ BK256.out 4).trans rfl;have hcz35_5:w34.cell? ⟨gb256,5,none⟩=some (.slice none 0 0):=(bc_ BK256.out 5).trans rfl;have hfz35_0:=bf_ BK256.out 0;have hfz35_1:=bf_ BK256.out 1;have hfz35_2:=bf_ BK256.out 2;have hfz35_3:=bf_ BK256.out 3;have hfz35_4:=bf_ BK256.out 4;have hfz35_5:=bf_ BK256.out 5))
            have n0_:Aside0 (Kd.V k28 28 ((((((w34.setCell ⟨gb256,0,none⟩ (.int .i64 ((rd_T28 l0 (rd l1 0)).f0))).setCell ⟨gb256,1,none⟩ (.int .i64 ((rd_T28 l0 (rd l1 0)).f1))).setCell ⟨gb256,2,none⟩ (.string ((rd_T28 l0 (rd l1 0)).f2))).setCell ⟨gb256,3,none⟩ (.string ((rd_T28 l0 (rd l1 0)).f3))).setCell ⟨gb256,4,none⟩ (.slice A255_4 ((rd_T28 l0 (rd l1 0)).f4).length c255_4)).setCell ⟨gb256,5,none⟩ (.slice A255_5 ((rd_T28 l0 (rd l1 0)).f5).length c255_5)) w.heap.size (fun k_=>((P0_ k_∨P2_ k_)∨w.heap.size≤k_)∧some k_≠(v242:Value).ownBlock∧k_≠gb256) (.slice (some ad255) l0.length c0) l0):=⟨by (with_reducible repeat (first|apply Kd.V_alloc|apply Kd.V_drewN|apply Kd.V_drew));exact Kd.V_mono (Kd.V_far (p:=⟨gb256,5,none⟩) (Kd.V_far (p:=⟨gb256,4,none⟩) (Kd.V_far (p:=⟨gb256,3,none⟩) (Kd.V_far (p:=⟨gb256,2,none⟩) (Kd.V_far (p:=⟨gb256,1,none⟩) (Kd.V_far (p:=⟨gb256,0,none⟩) (Kd.V_mono HO0.out (fun k_ hk=>(⟨hk,hk.2⟩:_∧k_≠gb256))) (fun _ hk=>hk.2) (.int .i64 ((rd_T28 l0 (rd l1 0)).f0))) (fun _ hk=>hk.2) (.int .i64 ((rd_T28 l0 (rd l1 0)).f1))) (fun _ hk=>hk.2) (.string ((rd_T28 l0 (rd l1 0)).f2))) (fun _ hk=>hk.2) (.string ((rd_T28 l0 (rd l1 0)).f3))) (fun _ hk=>hk.2) (.slice A255_4 ((rd_T28 l0 (rd l1 0)).f4).length c255_4)) (fun _ hk=>hk.2) (.slice A255_5 ((rd_T28 l0 (rd l1 0)).f5).length c255_5)) (fun _ hk=>⟨hk.1.1.1,⟨hk.1.1.2,hk.1.2⟩⟩)⟩
            have n1_:Aside0 (Kd.V k28 28 ((((((w34.setCell ⟨gb256,0,none⟩ (.int .i64 ((rd_T28 l0 (rd l1 0)).f0))).setCell ⟨gb256,1,none⟩ (.int .i64 ((rd_T28 l0 (rd l1 0)).f1))).setCell ⟨gb256,2,none⟩ (.string ((rd_T28 l0 (rd l1 0)).f2))).setCell ⟨gb256,3,none⟩ (.string ((rd_T28 l0 (rd l1 0)).f3))).setCell ⟨gb256,4,none⟩ (.slice A255_4 ((rd_T28 l0 (rd l1 0)).f4).length c255_4)).setCell ⟨gb256,5,none⟩ (.slice A255_5 ((rd_T28 l0 (rd l1 0)).f5).length c255_5)) w.heap.size (fun k_=>((P0_ k_∨P2_ k_)∨w.heap.size≤k_)∧some k_≠(v242:Value).ownBlock∧k_≠gb256) (.slice A2 l2.length c2) l2):=⟨by (with_reducible repeat (first|apply Kd.V_alloc|apply Kd.V_drewN|apply Kd.V_drew));exact Kd.V_mono (Kd.V_far (p:=⟨gb256,5,none⟩) (Kd.V_far (p:=⟨gb256,4,none⟩) (Kd.V_far (p:=⟨gb256,3,none⟩) (Kd.V_far (p:=⟨gb256,2,none⟩) (Kd.V_far (p:=⟨gb256,1,none⟩) (Kd.V_far (p:=⟨gb256,0,none⟩) (Kd.V_mono HO2.out (fun k_ hk=>(⟨hk,hk.2⟩:_∧k_≠gb256))) (fun _ hk=>hk.2) (.int .i64 ((rd_T28 l0 (rd l1 0)).f0))) (fun _ hk=>hk.2) (.int .i64 ((rd_T28 l0 (rd l1 0)).f1))) (fun _ hk=>hk.2) (.string ((rd_T28 l0 (rd l1 0)).f2))) (fun _ hk=>hk.2) (.string ((rd_T28 l0 (rd l1 0)).f3))) (fun _ hk=>hk.2) (.slice A255_4 ((rd_T28 l0 (rd l1 0)).f4).length c255_4)) (fun _ hk=>hk.2) (.slice A255_5 ((rd_T28 l0 (rd l1 0)).f5).length c255_5)) (fun _ hk=>⟨hk.1.1.1,⟨hk.1.1.2,hk.1.2⟩⟩)⟩
            have n2_:Aside0 (Kd.V k28 28 ((((((w34.setCell ⟨gb256,0,none⟩ (.int .i64 ((rd_T28 l0 (rd l1 0)).f0))).setCell ⟨gb256,1,none⟩ (.int .i64 ((rd_T28 l0 (rd l1 0)).f1))).setCell ⟨gb256,2,none⟩ (.string ((rd_T28 l0 (rd l1 0)).f2))).setCell ⟨gb256,3,none⟩ (.string ((rd_T28 l0 (rd l1 0)).f3))).setCell ⟨gb256,4,none⟩ (.slice A255_4 ((rd_T28 l0 (rd l1 0)).f4).length c255_4)).setCell ⟨gb256,5,none⟩ (.slice A255_5 ((rd_T28 l0 (rd l1 0)).f5).length c255_5)) w.heap.size (fun k_=>((P0_ k_∨P2_ k_)∨w.heap.size≤k_)∧some k_≠(v242:Value).ownBlock∧k_≠gb256) (.slice (some ad255) y236.length c0) y236):=⟨by (with_reducible repeat (first|apply Kd.V_alloc|apply Kd.V_drewN|apply Kd.V_drew));exact Kd.V_mono (Kd.V_far (p:=⟨gb256,5,none⟩) (Kd.V_far (p:=⟨gb256,4,none⟩) (Kd.V_far (p:=⟨gb256,3,none⟩) (Kd.V_far (p:=⟨gb256,2,none⟩) (Kd.V_far (p:=⟨gb256,1,none⟩) (Kd.V_far (p:=⟨gb256,0,none⟩) (Kd.V_mono HO240.out (fun k_ hk=>(⟨hk,hk.2⟩:_∧k_≠gb256))) (fun _ hk=>hk.2) (.int .i64 ((rd_T28 l0 (rd l1 0)).f0))) (fun _ hk=>hk.2) (.int .i64 ((rd_T28 l0 (rd l1 0)).f1))) (fun _ hk=>hk.2) (.string ((rd_T28 l0 (rd l1 0)).f2))) (fun _ hk=>hk.2) (.string ((rd_T28 l0 (rd l1 0)).f3))) (fun _ hk=>hk.2) (.slice A255_4 ((rd_T28 l0 (rd l1 0)).f4).length c255_4)) (fun _ hk=>hk.2) (.slice A255_5 ((rd_T28 l0 (rd l1 0)).f5).length c255_5)) (fun _ hk=>⟨hk.1.1.1,⟨hk.1.1.2,hk.1.2⟩⟩)⟩
            have n3_:Aside0 (Kd.N k28 28 ((((((w34.setCell ⟨gb256,0,none⟩ (.int .i64 ((rd_T28 l0 (rd l1 0)).f0))).setCell ⟨gb256,1,none⟩ (.int .i64 ((rd_T28 l0 (rd l1 0)).f1))).setCell ⟨gb256,2,none⟩ (.string ((rd_T28 l0 (rd l1 0)).f2))).setCell ⟨gb256,3,none⟩ (.string ((rd_T28 l0 (rd l1 0)).f3))).setCell ⟨gb256,4,none⟩ (.slice A255_4 ((rd_T28 l0 (rd l1 0)).f4).length c255_4)).setCell ⟨gb256,5,none⟩ (.slice A255_5 ((rd_T28 l0 (rd l1 0)).f5).length c255_5)) w.heap.size (fun k_=>((P0_ k_∨P2_ k_)∨w.heap.size≤k_)∧k_≠gb256) v242 y241):=⟨by (with_reducible repeat (first|apply Kd.N_alloc|apply Kd.N_drewN|apply Kd.N_drew));exact Kd.N_mono (Kd.N_far (p:=⟨gb256,5,none⟩) (Kd.N_far (p:=⟨gb256,4,none⟩) (Kd.N_far (p:=⟨gb256,3,none⟩) (Kd.N_far (p:=⟨gb256,2,none⟩) (Kd.N_far (p:=⟨gb256,1,none⟩) (Kd.N_far (p:=⟨gb256,0,none⟩) (Kd.N_mono HO243.out (fun k_ hk=>(⟨hk,hk.2⟩:_∧k_≠gb256))) (fun _ hk=>hk.2) (.int .i64 ((rd_T28 l0 (rd l1 0)).f0))) (fun _ hk=>hk.2) (.int .i64 ((rd_T28 l0 (rd l1 0)).f1))) (fun _ hk=>hk.2) (.string ((rd_T28 l0 (rd l1 0)).f2))) (fun _ hk=>hk.2) (.string ((rd_T28 l0 (rd l1 0)).f3))) (fun _ hk=>hk.2) (.slice A255_4 ((rd_T28 l0 (rd l1 0)).f4).length c255_4)) (fun _ hk=>hk.2) (.slice A255_5 ((rd_T28 l0 (rd l1 0)).f5).length c255_5)) (fun _ hk=>⟨hk.1.1,hk.1.2⟩)⟩
            have n4_:Aside0 (Kd.V k71 71 ((((((w34.setCell ⟨gb256,0,none⟩ (.int .i64 ((rd_T28 l0 (rd l1 0)).f0))).setCell ⟨gb256,1,none⟩ (.int .i64 ((rd_T28 l0 (rd l1 0)).f1))).setCell ⟨gb256,2,none⟩ (.string ((rd_T28 l0 (rd l1 0)).f2))).setCell ⟨gb256,3,none⟩ (.string ((rd_T28 l0 (rd l1 0)).f3))).setCell ⟨gb256,4,none⟩ (.slice A255_4 ((rd_T28 l0 (rd l1 0)).f4).length c255_4)).setCell ⟨gb256,5,none⟩ (.slice A255_5 ((rd_T28 l0 (rd l1 0)).f5).length c255_5)) w.heap.size (fun k_=>((P0_ k_∨P2_ k_)∨w.heap.size≤k_)∧some k_≠(v242:Value).ownBlock∧k_≠gb256) (.slice A255_4 ((rd_T28 l0 (rd l1 0)).f4).length c255_4) ((rd_T28 l0 (rd l1 0)).f4)):=⟨by (with_reducible repeat (first|apply Kd.V_alloc|apply Kd.V_drewN|apply Kd.V_drew));exact Kd.V_mono (Kd.V_far (p:=⟨gb256,5,none⟩) (Kd.V_far (p:=⟨gb256,4,none⟩) (Kd.V_far (p:=⟨gb256,3,none⟩) (Kd.V_far (p:=⟨gb256,2,none⟩) (Kd.V_far (p:=⟨gb256,1,none⟩) (Kd.V_far (p:=⟨gb256,0,none⟩) (Kd.V_mono HL255_4.out (fun k_ hk=>(⟨hk,hk.2⟩:_∧k_≠gb256))) (fun _ hk=>hk.2) (.int .i64 ((rd_T28 l0 (rd l1 0)).f0))) (fun _ hk=>hk.2) (.int .i64 ((rd_T28 l0 (rd l1 0)).f1))) (fun _ hk=>hk.2) (.string ((rd_T28 l0 (rd l1 0)).f2))) (fun _ hk=>hk.2) (.string ((rd_T28 l0 (rd l1 0)).f3))) (fun _ hk=>hk.2) (.slice A255_4 ((rd_T28 l0 (rd l1 0)).f4).length c255_4)) (fun _ hk=>hk.2) (.slice A255_5 ((rd_T28 l0 (rd l1 0)).f5).length c255_5)) (fun _ hk=>⟨hk.1.1.1,⟨hk.1.1.2,hk.1.2⟩⟩)⟩
            have n5_:Aside0 (Kd.V k28 28 ((((((w34.setCell ⟨gb256,0,none⟩ (.int .i64 ((rd_T28 l0 (rd l1 0)).f0))).setCell ⟨gb256,1,none⟩ (.int .i64 ((rd_T28 l0 (rd l1 0)).f1))).setCell ⟨gb256,2,none⟩ (.string ((rd_T28 l0 (rd l1 0)).f2))).setCell ⟨gb256,3,none⟩ (.string ((rd_T28 l0 (rd l1 0)).f3))).setCell ⟨gb256,4,none⟩ (.slice A255_4 ((rd_T28 l0 (rd l1 0)).f4).length c255_4)).setCell ⟨gb256,5,none⟩ (.slice A255_5 ((rd_T28 l0 (rd l1 0)).f5).length c255_5)) w.heap.size (fun k_=>((P0_ k_∨P2_ k_)∨w.heap.size≤k_)∧some k_≠(v242:Value).ownBlock∧k_≠gb256) (.slice A255_5 ((rd_T28 l0 (rd l1 0)).f5).length c255_5) ((rd_T28 l0 (rd l1 0)).f5)):=⟨by (with_reducible repeat (first|apply Kd.V_alloc|apply Kd.V_drewN|apply Kd.V_drew));exact Kd.V_mono (Kd.V_far (p:=⟨gb256,5,none⟩) (Kd.V_far (p:=⟨gb256,4,none⟩) (Kd.V_far (p:=⟨gb256,3,none⟩) (Kd.V_far (p:=⟨gb256,2,none⟩) (Kd.V_far (p:=⟨gb256,1,none⟩) (Kd.V_far (p:=⟨gb256,0,none⟩) (Kd.V_mono HL255_5.out (fun k_ hk=>(⟨hk,hk.2⟩:_∧k_≠gb256))) (fun _ hk=>hk.2) (.int .i64 ((rd_T28 l0 (rd l1 0)).f0))) (fun _ hk=>hk.2) (.int .i64 ((rd_T28 l0 (rd l1 0)).f1))) (fun _ hk=>hk.2) (.string ((rd_T28 l0 (rd l1 0)).f2))) (fun _ hk=>hk.2) (.string ((rd_T28 l0 (rd l1 0)).f3))) (fun _ hk=>hk.2) (.slice A255_4 ((rd_T28 l0 (rd l1 0)).f4).length c255_4)) (fun _ hk=>hk.2) (.slice A255_5 ((rd_T28 l0 (rd l1 0)).f5).length c255_5)) (fun _ hk=>⟨hk.1.1.1,⟨hk.1.1.2,hk.1.2⟩⟩)⟩
            have n6_:Aside0 (((((((w34.setCell ⟨gb256,0,none⟩ (.int .i64 ((rd_T28 l0 (rd l1 0)).f0))).setCell ⟨gb256,1,none⟩ (.int .i64 ((rd_T28 l0 (rd l1 0)).f1))).setCell ⟨gb256,2,none⟩ (.string ((rd_T28 l0 (rd l1 0)).f2))).setCell ⟨gb256,3,none⟩ (.string ((rd_T28 l0 (rd l1 0)).f3))).setCell ⟨gb256,4,none⟩ (.slice A255_4 ((rd_T28 l0 (rd l1 0)).f4).length c255_4)).setCell ⟨gb256,5,none⟩ (.slice A255_5 ((rd_T28 l0 (rd l1 0)).f5).length c255_5)).heap[gb256]? = some (.cells #[.int .i64 ((rd_T28 l0 (rd l1 0)).f0),.int .i64 ((rd_T28 l0 (rd l1 0)).f1),.string ((rd_T28 l0 (rd l1 0)).f2),.string ((rd_T28 l0 (rd l1 0)).f3),.slice A255_4 ((rd_T28 l0 (rd l1 0)).f4).length c255_4,.slice A255_5 ((rd_T28 l0 (rd l1 0)).f5).length c255_5] 28 (0,0))):=⟨by (with_reducible repeat (first|refine kn_ ?_ _|refine kd_ ?_|refine ka_ ?_ _));refine blk_put (cs:=#[.int .i64 ((rd_T28 l0 (rd l1 0)).f0),.int .i64 ((rd_T28 l0 (rd l1 0)).f1),.string ((rd_T28 l0 (rd l1 0)).f2),.string ((rd_T28 l0 (rd l1 0)).f3),.slice A255_4 ((rd_T28 l0 (rd l1 0)).f4).length c255_4,.slice none 0 0]) ?_ 5 _ rfl;(with_reducible repeat (first|refine kn_ ?_ _|refine kd_ ?_|refine ka_ ?_ _));refine blk_put (cs:=#[.int .i64 ((rd_T28 l0 (rd l1 0)).f0),.int .i64 ((rd_T28 l0 (rd l1 0)).f1),.string ((rd_T28 l0 (rd l1 0)).f2),.string ((rd_T28 l0 (rd l1 0)).f3),.slice none 0 0,.slice none 0 0]) ?_ 4 _ rfl;(with_reducible repeat (first|refine kn_ ?_ _|refine kd_ ?_|refine ka_ ?_ _));refine blk_put (cs:=#[.int .i64 ((rd_T28 l0 (rd l1 0)).f0),.int .i64 ((rd_T28 l0 (rd l1 0)).f1),.string ((rd_T28 l0 (rd l1 0)).f2),.string (⟨#[]⟩:ByteArray),.slice none 0 0,.slice none 0 0]) ?_ 3 _ rfl;(with_reducible repeat (first|refine kn_ ?_ _|refine kd_ ?_|refine ka_ ?_ _));refine blk_put (cs:=#[.int .i64 ((rd_T28 l0 (rd l1 0)).f0),.int .i64 ((rd_T28 l0 (rd l1 0)).f1),.string (⟨#[]⟩:ByteArray),.string (⟨#[]⟩:ByteArray),.slice none 0 0,.slice none 0 0]) ?_ 2 _ rfl;(with_reducible repeat (first|refine kn_ ?_ _|refine kd_ ?_|refine ka_ ?_ _));refine blk_put (cs:=#[.int .i64 ((rd_T28 l0 (rd l1 0)).f0),.int .i64 0,.string (⟨#[]⟩:ByteArray),.string (⟨#[]⟩:ByteArray),.slice none 0 0,.slice none 0 0]) ?_ 1 _ rfl;(with_reducible repeat (first|refine kn_ ?_ _|refine kd_ ?_|refine ka_ ?_ _));refine blk_put (cs:=#[.int .i64 0,.int .i64 0,.string (⟨#[]⟩:ByteArray),.string (⟨#[]⟩:ByteArray),.slice none 0 0,.slice none 0 0]) ?_ 0 _ rfl;(with_reducible repeat (first|refine kn_ ?_ _|refine kd_ ?_|refine ka_ ?_ _));exact BK256.out⟩
            have n7_:Aside0 (Below w.heap.size w ((((((w34.setCell ⟨gb256,0,none⟩ (.int .i64 ((rd_T28 l0 (rd l1 0)).f0))).setCell ⟨gb256,1,none⟩ (.int .i64 ((rd_T28 l0 (rd l1 0)).f1))).setCell ⟨gb256,2,none⟩ (.string ((rd_T28 l0 (rd l1 0)).f2))).setCell ⟨gb256,3,none⟩ (.string ((rd_T28 l0 (rd l1 0)).f3))).setCell ⟨gb256,4,none⟩ (.slice A255_4 ((rd_T28 l0 (rd l1 0)).f4).length c255_4)).setCell ⟨gb256,5,none⟩ (.slice A255_5 ((rd_T28 l0 (rd l1 0)).f5).length c255_5))):=⟨by repeat (first|(with_reducible first|exact HB.out|apply ba_|apply pd_|apply b1_|refine bs_ ?_ GE256.out)|exact HB.out)⟩
            (try clear HO0)
            (try clear HO2)
            (try clear HO240)
            (try clear HO243)
            (try clear HL255_4)
            (try clear HL255_5)
            (try clear BK256)
            (try clear HB)
            generalize ((((((w34.setCell ⟨gb256,0,none⟩ (.int .i64 ((rd_T28 l0 (rd l1 0)).f0))).setCell ⟨gb256,1,none⟩ (.int .i64 ((rd_T28 l0 (rd l1 0)).f1))).setCell ⟨gb256,2,none⟩ (.string ((rd_T28 l0 (rd l1 0)).f2))).setCell ⟨gb256,3,none⟩ (.string ((rd_T28 l0 (rd l1 0)).f3))).setCell ⟨gb256,4,none⟩ (.slice A255_4 ((rd_T28 l0 (rd l1 0)).f4).length c255_4)).setCell ⟨gb256,5,none⟩ (.slice A255_5 ((rd_T28 l0 (rd l1 0)).f5).length c255_5))=w36 at n0_ n1_ n2_ n3_ n4_ n5_ n6_ n7_ ⊢
            have HO0:=n0_
            have HO2:=n1_
            have HO240:=n2_
            have HO243:=n3_
            have HL255_4:=n4_
            have HL255_5:=n5_
            have BK256:=n6_
            have HB:=n7_
            clear n0_ n1_ n2_ n3_ n4_ n5_ n6_ n7_
            have n0_:=A_ (Kd.V_drew HO0.out)
            have n1_:=A_ (Kd.V_drew HO2.out)
            have n2_:=A_ (Kd.V_drew HO240.out)
            have n3_:=A_ (Kd.N_drew HO243.out)
            have n4_:=A_ (Kd.V_drew HL255_4.out)
            have n5_:=A_ (Kd.V_drew HL255_5.out)
            have n6_:=A_ (kd_ BK256.out)
            have n7_:=A_ (b1_ HB.out)
            clear HO0
            clear HO2
            clear HO240
            clear HO243
            clear HL255_4
            clear HL255_5
            clear BK256
            clear HB
            have HO0:=n0_
            have HO2:=n1_
            have HO240:=n2_
            have HO243:=n3_
            have HL255_4:=n4_
            have HL255_5:=n5_
            have BK256:=n6_
            have HB:=n7_
            clear n0_ n1_ n2_ n3_ n4_ n5_ n6_ n7_
            obtain ⟨i038,hi038,_,hsz38,_⟩:=info_parts info3
            obtain ⟨A38,hcut38,hA38,hC38⟩:=print_drop_of (P:=Try.prog) (Value.int .i64) 0 23 3 .i64 Try.underlying23 hi038 hsz38 (some ad232) c1 l1 1 (by omega) (od_ (by first|(with_reducible assumption)|assumption)) HC1.out
            have HR257:=A_ (Kd.C_of_reads (h1:=fun _=>rfl) (hA38 _ (Kd.reads_of_C HR1.out)))
            have HC257:=A_ hC38
            clear hA38 hC38 hi038 hsz38
            refine start_ (n:=8) (S:=fun w'=>w'.cell? ⟨gb256,0,none⟩=some (.int .i64 ((rd_T28 l0 (rd l1 0)).f0))∧w'.cell? ⟨gb256,1,none⟩=some (.int .i64 ((rd_T28 l0 (rd l1 0)).f1))∧w'.cell? ⟨gb256,2,none⟩=some (.string ((rd_T28 l0 (rd l1 0)).f2))∧w'.cell? ⟨gb256,3,none⟩=some (.string ((rd_T28 l0 (rd l1 0)).f3))∧w'.cell? ⟨gb256,4,none⟩=some (.slice A255_4 ((rd_T28 l0 (rd l1 0)).f4).length c255_4)∧w'.cell? ⟨gb256,5,none⟩=some (.slice A255_5 ((rd_T28 l0 (rd l1 0)).f5).length c255_5)) (ds:=[7]) #[F_,F_,F_,F_,F_,F_,F_,F_] (by kernel_rfl) rfl rfl ⟨(bc_ BK256.out 0).trans rfl,(bc_ BK256.out 1).trans rfl,(bc_ BK256.out 2).trans rfl,(bc_ BK256.out 3).trans rfl,(bc_ BK256.out 4).trans rfl,(bc_ BK256.out 5).trans rfl⟩ (fun hHeld=>?_);refine with_tabW spec_l09Put.tab6 spec_l09Put.bits6 (fun HT_ HW_=>?_)
            generalize w36.drew=w37 at HO0 HO2 HO240 HO243 HL255_4 HL255_5 BK256 HB HR257 hHeld ⊢
            refine pure_ (i:=0) (N:=some 33) (v:=?_) (a':=?_) #[T_,F_,F_,F_,F_,F_,F_,F_] rfl rfl (any_of HT_.out (by kernel_rfl)) (fun _ _ _ h=>h) (Or.inl ⟨by rfl,?_⟩) ?_ ?_
            rotate_left
            ·intro w'
             go_simp
             with_reducible rfl
            rotate_left
            ·simp only [Act.put,ls_,lz_,lc_,i64_w,i32_w]
             rfl
            refine pure_ (i:=2) (N:=some 35) (v:=?_) (a':=?_) #[T_,F_,T_,F_,F_,F_,F_,F_] rfl rfl (any_of HT_.out (by kernel_rfl)) (fun _ _ _ h=>h) (Or.inl ⟨by rfl,?_⟩) ?_ ?_
            rotate_left
            ·intro w'
             go_simp
             with_reducible rfl
            rotate_left
            ·simp only [Act.put,ls_,lz_,lc_,i64_w,i32_w]
             rfl
            refine pure_ (i:=3) (N:=some 36) (v:=?_) (a':=?_) #[T_,F_,T_,T_,F_,F_,F_,F_] rfl rfl (any_of HT_.out (by kernel_rfl)) (fun _ _ _ h=>h) (Or.inl ⟨by rfl,?_⟩) ?_ ?_
            rotate_left
            ·intro w'
             go_simp
             with_reducible rfl
            rotate_left
            ·simp only [Act.put,ls_,lz_,lc_,i64_w,i32_w]
             rfl
            refine pure_ (i:=4) (N:=some 37) (v:=?_) (a':=?_) #[T_,F_,T_,T_,T_,F_,F_,F_] rfl rfl (any_of HT_.out (by kernel_rfl)) (fun _ _ _ h=>h) (Or.inl ⟨by rfl,?_⟩) ?_ ?_
            rotate_left
            ·intro w'
             go_simp
             with_reducible rfl
            rotate_left
            ·simp only [Act.put,ls_,lz_,lc_,i64_w,i32_w]
             rfl
            refine take_ (i:=1) (N:=some 34) (v:=?_) (a':=?_) #[T_,T_,T_,T_,T_,F_,F_,F_] rfl rfl (take_ofW HT_.out HW_.out (by kernel_rfl)) (fun _ _ _ h=>h) (Or.inl ⟨by rfl,?_⟩) hHeld ?_ ?_
            rotate_left
            ·rintro w' ⟨s0,s1,s2,s3,s4,s5⟩
             go_simp
             with_reducible rfl
            rotate_left
            ·simp only [Act.put,ls_,lz_,lc_,i64_w,i32_w]
             rfl
            refine one_ (i:=5) (N:=some 38) #[T_,T_,T_,T_,T_,T_,F_,F_] rfl rfl (one_of HT_.out (by kernel_rfl)) (by decide) (fun K hK=>?_)
            refine goes_ Try.func37 (by kernel_rfl) rfl #[.slice A255_5 ((rd_T28 l0 (rd l1 0)).f5).length c255_5,.slice A38 (l1.drop 1).length (c1 - 1),.slice A2 l2.length c2] (by rfl) rfl rfl (by (try simp only [List.map_toArray,List.map_cons,List.map_nil]);first|done|(rw [show (l1.drop 1).length=(l1.length - 1) from ld_] <;> rfl)|rfl|(simp only [ld_,lt_];rfl)) ?_
            with_reducible refine (ih k (by omega) (fun k_=>(((P0_ k_∨P2_ k_)∨w.heap.size≤k_)∧(some k_≠(v242:Value).ownBlock∧k_≠gb256))) _ _ ((rd_T28 l0 (rd l1 0)).f5) _ _ (l1.drop 1) (fun k_=>(((P0_ k_∨P2_ k_)∨w.heap.size≤k_)∧(some k_≠(v242:Value).ownBlock∧k_≠gb256))) _ _ l2 t258 _ ?side1 ?side2 ?side3 ?side4 A24.out).mono ?_
            (case side1=>exact HL255_5.out)
            (case side2=>repeat (first|exact (cb_ HR257.out HB.out)|(with_reducible refine ca_ ?_ _)|(with_reducible refine cn_ ?_ _)|(with_reducible refine cd_ ?_)))
            (case side3=>exact HC257.out)
            (case side4=>exact HO2.out)
            rintro e w39 ⟨v259,rfl,ho0,hb⟩
            refine ⟨_,rfl,?_⟩
            have n0_:=A_ (Kd.V_elder' (by (with_reducible repeat (first|apply Kd.V_alloc|apply Kd.V_drewN|apply Kd.V_drew));exact HO0.out) (Kd.N_base ho0) hb)
            have n1_:=A_ (Kd.V_elder' (by (with_reducible repeat (first|apply Kd.V_alloc|apply Kd.V_drewN|apply Kd.V_drew));exact HO2.out) (Kd.N_base ho0) hb)
            have n2_:=A_ (Kd.V_elder' (by (with_reducible repeat (first|apply Kd.V_alloc|apply Kd.V_drewN|apply Kd.V_drew));exact HO240.out) (Kd.N_base ho0) hb)
            have n3_:=A_ (Kd.N_elder' (by (with_reducible repeat (first|apply Kd.N_alloc|apply Kd.N_drewN|apply Kd.N_drew));exact HO243.out) (Kd.N_base ho0) hb)
            have n4_:=A_ (Kd.V_elder' (by (with_reducible repeat (first|apply Kd.V_alloc|apply Kd.V_drewN|apply Kd.V_drew));exact HL255_4.out) (Kd.N_base ho0) hb)
            have n5_:=A_ (Kd.V_elder' (by (with_reducible repeat (first|apply Kd.V_alloc|apply Kd.V_drewN|apply Kd.V_drew));exact HL255_5.out) (Kd.N_base ho0) hb)
            have n6_:=A_ (Kd.N_lower (Kd.N_mono (ok':=fun k_=>((P0_ k_∨P2_ k_)∨w.heap.size≤k_)∧some k_≠(v242:Value).ownBlock∧k_≠gb256) ho0 (fun k_ hk_=>⟨Or.elim hk_ (fun hs_=>Or.elim hs_ (fun hs_=>hs_.1) (fun hs_=>hs_.1)) (fun hn_=>(.inr (Nat.le_trans (bz_ (by repeat (first|(with_reducible first|exact HB.out|apply ba_|apply pd_|apply b1_|refine bs_ ?_ GE256.out)|exact HB.out))) hn_))),Or.elim hk_ (fun hs_=>Or.elim hs_ (fun hs_=>hs_.2.1) (fun hs_=>hs_.2.1)) (fun hn_=>(Kd.fresh' (Kd.N_lt (by (with_reducible repeat (first|apply Kd.N_alloc|apply Kd.N_drewN|apply Kd.N_drew));exact HO243.out)) k_ hn_)),Or.elim hk_ (fun hs_=>Or.elim hs_ (fun hs_=>hs_.2.2) (fun hs_=>hs_.2.2)) (fun hn_=>(Kd.freshB (g:=gb256) (o:=.cells #[.int .i64 ((rd_T28 l0 (rd l1 0)).f0),.int .i64 ((rd_T28 l0 (rd l1 0)).f1),.string ((rd_T28 l0 (rd l1 0)).f2),.string ((rd_T28 l0 (rd l1 0)).f3),.slice A255_4 ((rd_T28 l0 (rd l1 0)).f4).length c255_4,.slice A255_5 ((rd_T28 l0 (rd l1 0)).f5).length c255_5] 28 (0,0)) (by (with_reducible repeat (first|refine kn_ ?_ _|refine kd_ ?_|refine ka_ ?_ _));exact BK256.out) k_ hn_))⟩)) (bz_ (by repeat (first|(with_reducible first|exact HB.out|apply ba_|apply pd_|apply b1_|refine bs_ ?_ GE256.out)|exact HB.out))))
            have n7_:=A_ (kb_ (g:=gb256) (o:=.cells #[.int .i64 ((rd_T28 l0 (rd l1 0)).f0),.int .i64 ((rd_T28 l0 (rd l1 0)).f1),.string ((rd_T28 l0 (rd l1 0)).f2),.string ((rd_T28 l0 (rd l1 0)).f3),.slice A255_4 ((rd_T28 l0 (rd l1 0)).f4).length c255_4,.slice A255_5 ((rd_T28 l0 (rd l1 0)).f5).length c255_5] 28 (0,0)) (by (with_reducible repeat (first|refine kn_ ?_ _|refine kd_ ?_|refine ka_ ?_ _));exact BK256.out) hb)
            have n8_:=A_ (bp_ (by repeat (first|(with_reducible first|exact HB.out|apply ba_|apply pd_|apply b1_|refine bs_ ?_ GE256.out)|exact HB.out)) hb)
            clear HO0
            clear HO2
            clear HO240
            clear HO243
            clear HL255_4
            clear HL255_5
            clear BK256
            clear HB
            have HO0:=n0_
            have HO2:=n1_
            have HO240:=n2_
            have HO243:=n3_
            have HL255_4:=n4_
            have HL255_5:=n5_
            have HO260:=n6_
            have BK256:=n7_
            have HB:=n8_
            clear n0_ n1_ n2_ n3_ n4_ n5_ n6_ n7_ n8_
            (try clear hb)
            (try clear hb2)
            (try clear hk)
            (try clear hi)
            (try clear ho0)
            obtain ⟨Ao40,co40,eo40⟩:=Kd.N_slice HO260.out
            (first|subst eo40|(injection eo40 with f1_ f2_ f3_;have f4_:=f1_.symm;have f5_:=f3_.symm;clear f1_ f2_ f3_;subst f4_;subst f5_))
            refine hK.out _ _ ⟨(bc_ BK256.out 0).trans rfl,(bc_ BK256.out 1).trans rfl,(bc_ BK256.out 2).trans rfl,(bc_ BK256.out 3).trans rfl,(bc_ BK256.out 4).trans rfl,(bc_ BK256.out 5).trans rfl⟩ (fun hHeld=>?_)
            clear hK K
            refine norm_ (a':=?_) ?_ ?_
            rotate_left
            ·show Act.put _ (some 38) _=_
             simp only [Act.put,ls_,lz_,lc_,i64_w,i32_w]
             rfl
            refine pure_ (i:=6) (N:=some 39) (v:=?_) (a':=?_) #[T_,T_,T_,T_,T_,T_,T_,F_] rfl rfl (any_of HT_.out (by kernel_rfl)) (fun _ _ _ h=>h) (Or.inl ⟨by rfl,?_⟩) ?_ ?_
            rotate_left
            ·intro w'
             go_simp
             with_reducible rfl
            rotate_left
            ·simp only [Act.put,ls_,lz_,lc_,i64_w,i32_w]
             rfl
            refine last_ (i:=7) (N:=none) #[T_,T_,T_,T_,T_,T_,T_,T_] rfl rfl (one_of HT_.out (by kernel_rfl)) (by decide) (fun K hK=>?_)
            have hs41:w39.cell? ⟨gb256,5,none⟩=some (.slice A255_5 ((rd_T28 l0 (rd l1 0)).f5).length c255_5):=(bc_ BK256.out 5).trans rfl
            have hfs41:=bf_ BK256.out 5
            refine skip_ (w1:=?_) (by rfl) rfl ?_ ?_
            rotate_left
            ·go_simp
             rfl
            refine hK.out _ _ ?_
            clear hK K
            refine done_ (done_of HT_.out (by kernel_rfl)) ?_
            try go_wp2
            have n0_:Aside0 (Kd.V k28 28 (w39.setCell ⟨gb256,5,none⟩ (.slice Ao40 t258.length co40)) w.heap.size (fun k_=>((P0_ k_∨P2_ k_)∨w.heap.size≤k_)∧some k_≠(v242:Value).ownBlock∧some k_≠(.slice Ao40 t258.length co40:Value).ownBlock∧k_≠gb256) (.slice (some ad255) l0.length c0) l0):=⟨by (with_reducible repeat (first|apply Kd.V_alloc|apply Kd.V_drewN|apply Kd.V_drew));exact Kd.V_mono (Kd.V_far (p:=⟨gb256,5,none⟩) (Kd.V_mono HO0.out (fun k_ hk=>(⟨hk,hk.1.2.2⟩:_∧k_≠gb256))) (fun _ hk=>hk.2) (.slice Ao40 t258.length co40)) (fun _ hk=>⟨hk.1.1.1,⟨hk.1.1.2.1,⟨hk.1.2,hk.1.1.2.2⟩⟩⟩)⟩
            have n1_:Aside0 (Kd.V k28 28 (w39.setCell ⟨gb256,5,none⟩ (.slice Ao40 t258.length co40)) w.heap.size (fun k_=>((P0_ k_∨P2_ k_)∨w.heap.size≤k_)∧some k_≠(v242:Value).ownBlock∧some k_≠(.slice Ao40 t258.length co40:Value).ownBlock∧k_≠gb256) (.slice A2 l2.length c2) l2):=⟨by (with_reducible repeat (first|apply Kd.V_alloc|apply Kd.V_drewN|apply Kd.V_drew));exact Kd.V_mono (Kd.V_far (p:=⟨gb256,5,none⟩) (Kd.V_mono HO2.out (fun k_ hk=>(⟨hk,hk.1.2.2⟩:_∧k_≠gb256))) (fun _ hk=>hk.2) (.slice Ao40 t258.length co40)) (fun _ hk=>⟨hk.1.1.1,⟨hk.1.1.2.1,⟨hk.1.2,hk.1.1.2.2⟩⟩⟩)⟩
            have n2_:Aside0 (Kd.V k28 28 (w39.setCell ⟨gb256,5,none⟩ (.slice Ao40 t258.length co40)) w.heap.size (fun k_=>((P0_ k_∨P2_ k_)∨w.heap.size≤k_)∧some k_≠(v242:Value).ownBlock∧some k_≠(.slice Ao40 t258.length co40:Value).ownBlock∧k_≠gb256) (.slice (some ad255) y236.length c0) y236):=⟨by (with_reducible repeat (first|apply Kd.V_alloc|apply Kd.V_drewN|apply Kd.V_drew));exact Kd.V_mono (Kd.V_far (p:=⟨gb256,5,none⟩) (Kd.V_mono HO240.out (fun k_ hk=>(⟨hk,hk.1.2.2⟩:_∧k_≠gb256))) (fun _ hk=>hk.2) (.slice Ao40 t258.length co40)) (fun _ hk=>⟨hk.1.1.1,⟨hk.1.1.2.1,⟨hk.1.2,hk.1.1.2.2⟩⟩⟩)⟩
            have n3_:Aside0 (Kd.N k28 28 (w39.setCell ⟨gb256,5,none⟩ (.slice Ao40 t258.length co40)) w.heap.size (fun k_=>((P0_ k_∨P2_ k_)∨w.heap.size≤k_)∧some k_≠(.slice Ao40 t258.length co40:Value).ownBlock∧k_≠gb256) v242 y241):=⟨by (with_reducible repeat (first|apply Kd.N_alloc|apply Kd.N_drewN|apply Kd.N_drew));exact Kd.N_mono (Kd.N_far (p:=⟨gb256,5,none⟩) (Kd.N_mono HO243.out (fun k_ hk=>(⟨hk,hk.1.2⟩:_∧k_≠gb256))) (fun _ hk=>hk.2) (.slice Ao40 t258.length co40)) (fun _ hk=>⟨hk.1.1.1,⟨hk.1.2,hk.1.1.2⟩⟩)⟩
            have n4_:Aside0 (Kd.V k71 71 (w39.setCell ⟨gb256,5,none⟩ (.slice Ao40 t258.length co40)) w.heap.size (fun k_=>((P0_ k_∨P2_ k_)∨w.heap.size≤k_)∧some k_≠(v242:Value).ownBlock∧some k_≠(.slice Ao40 t258.length co40:Value).ownBlock∧k_≠gb256) (.slice A255_4 ((rd_T28 l0 (rd l1 0)).f4).length c255_4) ((rd_T28 l0 (rd l1 0)).f4)):=⟨by (with_reducible repeat (first|apply Kd.V_alloc|apply Kd.V_drewN|apply Kd.V_drew));exact Kd.V_mono (Kd.V_far (p:=⟨gb256,5,none⟩) (Kd.V_mono HL255_4.out (fun k_ hk=>(⟨hk,hk.1.2.2⟩:_∧k_≠gb256))) (fun _ hk=>hk.2) (.slice Ao40 t258.length co40)) (fun _ hk=>⟨hk.1.1.1,⟨hk.1.1.2.1,⟨hk.1.2,hk.1.1.2.2⟩⟩⟩)⟩
            have n5_:Aside0 (Kd.V k28 28 (w39.setCell ⟨gb256,5,none⟩ (.slice Ao40 t258.length co40)) w.heap.size (fun k_=>((P0_ k_∨P2_ k_)∨w.heap.size≤k_)∧some k_≠(v242:Value).ownBlock∧some k_≠(.slice Ao40 t258.length co40:Value).ownBlock∧k_≠gb256) (.slice A255_5 ((rd_T28 l0 (rd l1 0)).f5).length c255_5) ((rd_T28 l0 (rd l1 0)).f5)):=⟨by (with_reducible repeat (first|apply Kd.V_alloc|apply Kd.V_drewN|apply Kd.V_drew));exact Kd.V_mono (Kd.V_far (p:=⟨gb256,5,none⟩) (Kd.V_mono HL255_5.out (fun k_ hk=>(⟨hk,hk.1.2.2⟩:_∧k_≠gb256))) (fun _ hk=>hk.2) (.slice Ao40 t258.length co40)) (fun _ hk=>⟨hk.1.1.1,⟨hk.1.1.2.1,⟨hk.1.2,hk.1.1.2.2⟩⟩⟩)⟩
            have n6_:Aside0 (Kd.N k28 28 (w39.setCell ⟨gb256,5,none⟩ (.slice Ao40 t258.length co40)) w.heap.size (fun k_=>((P0_ k_∨P2_ k_)∨w.heap.size≤k_)∧some k_≠(v242:Value).ownBlock∧k_≠gb256) (.slice Ao40 t258.length co40) t258):=⟨by (with_reducible repeat (first|apply Kd.N_alloc|apply Kd.N_drewN|apply Kd.N_drew));exact Kd.N_mono (Kd.N_far (p:=⟨gb256,5,none⟩) (Kd.N_mono HO260.out (fun k_ hk=>(⟨hk,hk.2.2⟩:_∧k_≠gb256))) (fun _ hk=>hk.2) (.slice Ao40 t258.length co40)) (fun _ hk=>⟨hk.1.1,⟨hk.1.2.1,hk.1.2.2⟩⟩)⟩
            have n7_:Aside0 ((w39.setCell ⟨gb256,5,none⟩ (.slice Ao40 t258.length co40)).heap[gb256]? = some (.cells #[.int .i64 ((rd_T28 l0 (rd l1 0)).f0),.int .i64 ((rd_T28 l0 (rd l1 0)).f1),.string ((rd_T28 l0 (rd l1 0)).f2),.string ((rd_T28 l0 (rd l1 0)).f3),.slice A255_4 ((rd_T28 l0 (rd l1 0)).f4).length c255_4,.slice Ao40 t258.length co40] 28 (0,0))):=⟨by (with_reducible repeat (first|refine kn_ ?_ _|refine kd_ ?_|refine ka_ ?_ _));refine blk_put (cs:=#[.int .i64 ((rd_T28 l0 (rd l1 0)).f0),.int .i64 ((rd_T28 l0 (rd l1 0)).f1),.string ((rd_T28 l0 (rd l1 0)).f2),.string ((rd_T28 l0 (rd l1 0)).f3),.slice A255_4 ((rd_T28 l0 (rd l1 0)).f4).length c255_4,.slice A255_5 ((rd_T28 l0 (rd l1 0)).f5).length c255_5]) ?_ 5 _ rfl;(with_reducible repeat (first|refine kn_ ?_ _|refine kd_ ?_|refine ka_ ?_ _));exact BK256.out⟩
            have n8_:Aside0 (Below w.heap.size w (w39.setCell ⟨gb256,5,none⟩ (.slice Ao40 t258.length co40))):=⟨by repeat (first|(with_reducible first|exact HB.out|apply ba_|apply pd_|apply b1_|refine bs_ ?_ GE256.out)|exact HB.out)⟩
            (try clear HO0)
            (try clear HO2)
            (try clear HO240)
            (try clear HO243)
            (try clear HL255_4)
            (try clear HL255_5)
            (try clear HO260)
            (try clear BK256)
            (try clear HB)
            generalize (w39.setCell ⟨gb256,5,none⟩ (.slice Ao40 t258.length co40))=w42 at n0_ n1_ n2_ n3_ n4_ n5_ n6_ n7_ n8_ ⊢
            have HO0:=n0_
            have HO2:=n1_
            have HO240:=n2_
            have HO243:=n3_
            have HL255_4:=n4_
            have HL255_5:=n5_
            have HO260:=n6_
            have BK256:=n7_
            have HB:=n8_
            clear n0_ n1_ n2_ n3_ n4_ n5_ n6_ n7_ n8_
            have n0_:=A_ (Kd.V_drew HO0.out)
            have n1_:=A_ (Kd.V_drew HO2.out)
            have n2_:=A_ (Kd.V_drew HO240.out)
            have n3_:=A_ (Kd.N_drew HO243.out)
            have n4_:=A_ (Kd.V_drew HL255_4.out)
            have n5_:=A_ (Kd.V_drew HL255_5.out)
            have n6_:=A_ (Kd.N_drew HO260.out)
            have n7_:=A_ (kd_ BK256.out)
            have n8_:=A_ (b1_ HB.out)
            clear HO0
            clear HO2
            clear HO240
            clear HO243
            clear HL255_4
            clear HL255_5
            clear HO260
            clear BK256
            clear HB
            have HO0:=n0_
            have HO2:=n1_
            have HO240:=n2_
            have HO243:=n3_
            have HL255_4:=n4_
            have HL255_5:=n5_
            have HO260:=n6_
            have BK256:=n7_
            have HB:=n8_
            clear n0_ n1_ n2_ n3_ n4_ n5_ n6_ n7_ n8_
            have q44:((ji26):Int)≤((l0.length:Int):Int):=od_ (by first|(with_reducible assumption)|assumption)
            obtain ⟨i044,hi044,_,hsz44,_⟩:=info_parts info28
            have hroom44:l0.length≤c0:=(Kd.V_reads' HO0.out).2.1
            have hC44:Kd.F k28 _ _ (some ad255) l0.length l0:=(Kd.V_at (base:=w.heap.size) HO0.out).2.2
            have q044:(0:Int)≤((ji26):Int):=od_ (by first|(with_reducible assumption)|assumption)
            have hcut44:=cut_from (P:=Try.prog) 26 28 .i64 Try.underlying26 hi044 6 hsz44 (some ad255) l0.length c0 (ji26) q044 q44
            have hr44:=Kd.F_cut (m:=((ji26):Int).toNat) (c:=c0) hC44 (by omega) hroom44
            obtain ⟨A44,hA44⟩:∃ A1,A1=(if c0=((ji26):Int).toNat then (some ad255) else ((some ad255):Option Addr).map (·.add (((ji26):Int).toNat * 6))):=⟨_,rfl⟩
            obtain ⟨c44,hc44⟩:∃ c1,c1=c0 - ((ji26):Int).toNat:=⟨_,rfl⟩
            have hy44:y264.length=l0.length - ((ji26):Int).toNat:=(by rw [Ny264.out,ld_] <;> omega)
            rw [show (l0).drop ((ji26):Int).toNat=y264 from Ny264.out.symm] at hr44
            replace hr44:Kd.F k28 _ _ A44 y264.length y264:=(by rw [hA44];exact hr44)
            rw [←hy44,←hA44,←hc44] at hcut44
            have HO268:=A_ (show Kd.V k28 28 _ w.heap.size _ (.slice A44 y264.length c44) y264 from Kd.V_mk (by rw [hy44,hc44];exact Nat.sub_le_sub_right hroom44 _) hr44)
            have HC268:=A_ (show y264.length≤c44 from by rw [hy44,hc44];exact Nat.sub_le_sub_right hroom44 _)
            clear hr44 hC44 hroom44 hi044 hsz44 hc44
            have KY44:=A_ hy44
            have KA44:=A_ hA44
            clear hy44 hA44
            replace q44:=eq_true q44
            refine start_ (n:=10) (S:=fun w'=>w'.cell? ⟨gb256,0,none⟩=some (.int .i64 ((rd_T28 l0 (rd l1 0)).f0))∧w'.cell? ⟨gb256,1,none⟩=some (.int .i64 ((rd_T28 l0 (rd l1 0)).f1))∧w'.cell? ⟨gb256,2,none⟩=some (.string ((rd_T28 l0 (rd l1 0)).f2))∧w'.cell? ⟨gb256,3,none⟩=some (.string ((rd_T28 l0 (rd l1 0)).f3))∧w'.cell? ⟨gb256,4,none⟩=some (.slice A255_4 ((rd_T28 l0 (rd l1 0)).f4).length c255_4)∧w'.cell? ⟨gb256,5,none⟩=some (.slice Ao40 t258.length co40)) (ds:=[]) #[F_,F_,F_,F_,F_,F_,F_,F_,F_,F_] (by kernel_rfl) rfl rfl ⟨(bc_ BK256.out 0).trans rfl,(bc_ BK256.out 1).trans rfl,(bc_ BK256.out 2).trans rfl,(bc_ BK256.out 3).trans rfl,(bc_ BK256.out 4).trans rfl,(bc_ BK256.out 5).trans rfl⟩ (fun hHeld=>?_);refine with_tabW spec_l09Put.tab7 spec_l09Put.bits7 (fun HT_ HW_=>?_)
            generalize w42.drew=w43 at HO0 HO2 HO240 HO243 HL255_4 HL255_5 HO260 BK256 HB HO268 hHeld ⊢
            refine pure_ (i:=0) (N:=some 40) (v:=?_) (a':=?_) #[T_,F_,F_,F_,F_,F_,F_,F_,F_,F_] rfl rfl (any_of HT_.out (by kernel_rfl)) (fun _ _ _ h=>h) (Or.inl ⟨by rfl,?_⟩) ?_ ?_
            rotate_left
            ·intro w'
             go_simp
             with_reducible rfl
            rotate_left
            ·simp only [Act.put,ls_,lz_,lc_,i64_w,i32_w]
             rfl
            refine pure_ (i:=4) (N:=some 44) (v:=?_) (a':=?_) #[T_,F_,F_,F_,T_,F_,F_,F_,F_,F_] rfl rfl (any_of HT_.out (by kernel_rfl)) (fun _ _ _ h=>h) (Or.inl ⟨by rfl,?_⟩) ?_ ?_
            rotate_left
            ·intro w'
             go_simp
             with_reducible rfl
            rotate_left
            ·simp only [Act.put,ls_,lz_,lc_,i64_w,i32_w]
             rfl
            refine pure_ (i:=5) (N:=some 45) (v:=?_) (a':=?_) #[T_,F_,F_,F_,T_,T_,F_,F_,F_,F_] rfl rfl (any_of HT_.out (by kernel_rfl)) (fun _ _ _ h=>h) (Or.inl ⟨by rfl,?_⟩) ?_ ?_
            rotate_left
            ·intro w'
             go_simp
             with_reducible rfl
            rotate_left
            ·simp only [Act.put,ls_,lz_,lc_,i64_w,i32_w]
             rfl
            refine pure_ (i:=6) (N:=some 46) (v:=?_) (a':=?_) #[T_,F_,F_,F_,T_,T_,T_,F_,F_,F_] rfl rfl (any_of HT_.out (by kernel_rfl)) (fun _ _ _ h=>h) (Or.inl ⟨by rfl,?_⟩) ?_ ?_
            rotate_left
            ·intro w'
             go_simp
             with_reducible rfl
            rotate_left
            ·simp only [Act.put,ls_,lz_,lc_,i64_w,i32_w]
             rfl
            refine pure_ (i:=7) (N:=some 47) (v:=?_) (a':=?_) #[T_,F_,F_,F_,T_,T_,T_,T_,F_,F_] rfl rfl (any_of HT_.out (by kernel_rfl)) (fun _ _ _ h=>h) (Or.inl ⟨by rfl,?_⟩) ?_ ?_
            rotate_left
            ·intro w'
             go_simp
             with_reducible rfl
            rotate_left
            ·simp only [Act.put,ls_,lz_,lc_,i64_w,i32_w]
             rfl
            refine take_ (i:=1) (N:=some 41) (v:=?_) (a':=?_) #[T_,T_,F_,F_,T_,T_,T_,T_,F_,F_] rfl rfl (take_ofW HT_.out HW_.out (by kernel_rfl)) (fun _ _ _ h=>h) (Or.inl ⟨by rfl,?_⟩) hHeld ?_ ?_
            rotate_left
            ·rintro w' ⟨s0,s1,s2,s3,s4,s5⟩
             go_simp
             with_reducible rfl
            rotate_left
            ·simp only [Act.put,ls_,lz_,lc_,i64_w,i32_w]
             rfl
            refine one_ (i:=2) (N:=some 42) #[T_,T_,T_,F_,T_,T_,T_,T_,F_,F_] rfl rfl (one_of HT_.out (by kernel_rfl)) (by decide) (fun K hK=>?_)
            refine value_ (w1:=?_) (v:=?_) (by rfl) rfl ?_ ?_
            rotate_left 2
            ·go_simp
             constructor
             ·rfl
             ·rfl
            refine hK.out _ _ ⟨(bc_ (ka_ BK256.out _) 0).trans rfl,(bc_ (ka_ BK256.out _) 1).trans rfl,(bc_ (ka_ BK256.out _) 2).trans rfl,(bc_ (ka_ BK256.out _) 3).trans rfl,(bc_ (ka_ BK256.out _) 4).trans rfl,(bc_ (ka_ BK256.out _) 5).trans rfl⟩ (fun hHeld=>?_)
            clear hK K
            refine norm_ (a':=?_) ?_ ?_
            rotate_left
            ·show Act.put _ (some 42) _=_
             simp only [Act.put,ls_,lz_,lc_,i64_w,i32_w]
             rfl
            refine one_ (i:=3) (N:=some 43) #[T_,T_,T_,T_,T_,T_,T_,T_,F_,F_] rfl rfl (one_of HT_.out (by kernel_rfl)) (by decide) (fun K hK=>?_)
            refine Kd.N_append_step k28 (w0:=w) w.heap.size (by rfl) (.tmp 40) (.tmp 42) 26 28 (.agg #[(.int .i64 0),(.int .i64 0),(.string ⟨#[]⟩),(.string ⟨#[]⟩),(.slice none 0 0),(.slice none 0 0)]) 96 rfl Try.underlying26 info28 rfl (by decide) (by omega) v242 y241 (⟨(rd_T28 l0 (rd l1 0)).f0,(rd_T28 l0 (rd l1 0)).f1,(rd_T28 l0 (rd l1 0)).f2,(rd_T28 l0 (rd l1 0)).f3,(rd_T28 l0 (rd l1 0)).f4,t258⟩:S28) [.int .i64 ((rd_T28 l0 (rd l1 0)).f0),.int .i64 ((rd_T28 l0 (rd l1 0)).f1),.string ((rd_T28 l0 (rd l1 0)).f2),.string ((rd_T28 l0 (rd l1 0)).f3),.slice A255_4 ((rd_T28 l0 (rd l1 0)).f4).length c255_4,.slice Ao40 t258.length co40] (fun k_=>((P0_ k_∨P2_ k_)∨w.heap.size≤k_)∧k_≠gb256) (fun k_=>((fun k_=>((P0_ k_∨P2_ k_)∨w.heap.size≤k_)∧k_≠gb256)) k_∧some k_≠(v242:Value).ownBlock) rfl rfl ?aP (fun _ hk=>hk) ?aF ?aO ?aB ?aS ?aL ?_
            (case aP=>exact (k28_mkF _ _ (⟨(rd_T28 l0 (rd l1 0)).f0,(rd_T28 l0 (rd l1 0)).f1,(rd_T28 l0 (rd l1 0)).f2,(rd_T28 l0 (rd l1 0)).f3,(rd_T28 l0 (rd l1 0)).f4,t258⟩:S28) (Kd.V_reads' (Kd.V_mono (ok':=(fun k_=>((fun k_=>((P0_ k_∨P2_ k_)∨w.heap.size≤k_)∧k_≠gb256)) k_∧some k_≠(v242:Value).ownBlock)) (HL255_4.out) (fun k_ hk=>⟨⟨hk.1,hk.2.2.2⟩,hk.2.1⟩))).2.1 (Kd.V_F (Kd.V_mono (ok':=(fun k_=>((fun k_=>((P0_ k_∨P2_ k_)∨w.heap.size≤k_)∧k_≠gb256)) k_∧some k_≠(v242:Value).ownBlock)) (HL255_4.out) (fun k_ hk=>⟨⟨hk.1,hk.2.2.2⟩,hk.2.1⟩))) (Kd.N_reads' (Kd.N_mono (ok':=(fun k_=>((fun k_=>((P0_ k_∨P2_ k_)∨w.heap.size≤k_)∧k_≠gb256)) k_∧some k_≠(v242:Value).ownBlock)) (HO260.out) (fun k_ hk=>⟨⟨hk.1,hk.2.2⟩,hk.2.1⟩))).2.1 (Kd.N_F (Kd.N_mono (ok':=(fun k_=>((fun k_=>((P0_ k_∨P2_ k_)∨w.heap.size≤k_)∧k_≠gb256)) k_∧some k_≠(v242:Value).ownBlock)) (HO260.out) (fun k_ hk=>⟨⟨hk.1,hk.2.2⟩,hk.2.1⟩)))))
            (case aB=>exact (by repeat (first|(with_reducible first|exact HB.out|apply ba_|apply pd_|apply b1_|refine bs_ ?_ GE256.out)|exact HB.out)))
            (case aF=>exact (fun k_ hk=>⟨(.inr (Nat.le_trans (bz_ (by repeat (first|(with_reducible first|exact HB.out|apply ba_|apply pd_|apply b1_|refine bs_ ?_ GE256.out)|exact HB.out))) hk)),Kd.freshB (g:=gb256) (o:=.cells #[.int .i64 ((rd_T28 l0 (rd l1 0)).f0),.int .i64 ((rd_T28 l0 (rd l1 0)).f1),.string ((rd_T28 l0 (rd l1 0)).f2),.string ((rd_T28 l0 (rd l1 0)).f3),.slice A255_4 ((rd_T28 l0 (rd l1 0)).f4).length c255_4,.slice Ao40 t258.length co40] 28 (0,0)) (by (with_reducible repeat (first|refine kn_ ?_ _|refine kd_ ?_|refine ka_ ?_ _));exact BK256.out) k_ hk⟩))
            (case aO=>exact (by (with_reducible repeat (first|apply Kd.N_alloc|apply Kd.N_drewN|apply Kd.N_drew));exact Kd.N_mono HO243.out (fun _ hk=>⟨hk.1,hk.2.2⟩)))
            (case aS=>exact (bz_ (by repeat (first|(with_reducible first|exact HB.out|apply ba_|apply pd_|apply b1_|refine bs_ ?_ GE256.out)|exact HB.out))))
            (case aL=>have:=LMc25.out;omega)
            intro v262 w45 ho hb hg hat
            rw [←Ny261.out] at ho
            have n0_:=A_ (Kd.V_afterv (ok:=(fun k_=>((P0_ k_∨P2_ k_)∨w.heap.size≤k_)∧some k_≠(.slice Ao40 t258.length co40:Value).ownBlock∧k_≠gb256)) (by (with_reducible repeat (first|apply Kd.V_alloc|apply Kd.V_drewN|apply Kd.V_drew));exact Kd.V_mono HO0.out (fun _ hk=>⟨⟨hk.1,⟨hk.2.2.1,hk.2.2.2⟩⟩,hk.2.1⟩)) hg hat)
            have n1_:=A_ (Kd.V_afterv (ok:=(fun k_=>((P0_ k_∨P2_ k_)∨w.heap.size≤k_)∧some k_≠(.slice Ao40 t258.length co40:Value).ownBlock∧k_≠gb256)) (by (with_reducible repeat (first|apply Kd.V_alloc|apply Kd.V_drewN|apply Kd.V_drew));exact Kd.V_mono HO2.out (fun _ hk=>⟨⟨hk.1,⟨hk.2.2.1,hk.2.2.2⟩⟩,hk.2.1⟩)) hg hat)
            have n2_:=A_ (Kd.V_afterv (ok:=(fun k_=>((P0_ k_∨P2_ k_)∨w.heap.size≤k_)∧some k_≠(.slice Ao40 t258.length co40:Value).ownBlock∧k_≠gb256)) (by (with_reducible repeat (first|apply Kd.V_alloc|apply Kd.V_drewN|apply Kd.V_drew));exact Kd.V_mono HO240.out (fun _ hk=>⟨⟨hk.1,⟨hk.2.2.1,hk.2.2.2⟩⟩,hk.2.1⟩)) hg hat)
            have n3_:=A_ (Kd.V_afterv (ok:=(fun k_=>((P0_ k_∨P2_ k_)∨w.heap.size≤k_)∧some k_≠(.slice Ao40 t258.length co40:Value).ownBlock∧k_≠gb256)) (by (with_reducible repeat (first|apply Kd.V_alloc|apply Kd.V_drewN|apply Kd.V_drew));exact Kd.V_mono HL255_4.out (fun _ hk=>⟨⟨hk.1,⟨hk.2.2.1,hk.2.2.2⟩⟩,hk.2.1⟩)) hg hat)
            have n4_:=A_ (Kd.V_afterv (ok:=(fun k_=>((P0_ k_∨P2_ k_)∨w.heap.size≤k_)∧some k_≠(.slice Ao40 t258.length co40:Value).ownBlock∧k_≠gb256)) (by (with_reducible repeat (first|apply Kd.V_alloc|apply Kd.V_drewN|apply Kd.V_drew));exact Kd.V_mono HL255_5.out (fun _ hk=>⟨⟨hk.1,⟨hk.2.2.1,hk.2.2.2⟩⟩,hk.2.1⟩)) hg hat)
            have n5_:=A_ (blk_grown (g:=gb256) (o:=.cells #[.int .i64 ((rd_T28 l0 (rd l1 0)).f0),.int .i64 ((rd_T28 l0 (rd l1 0)).f1),.string ((rd_T28 l0 (rd l1 0)).f2),.string ((rd_T28 l0 (rd l1 0)).f3),.slice A255_4 ((rd_T28 l0 (rd l1 0)).f4).length c255_4,.slice Ao40 t258.length co40] 28 (0,0)) (by (with_reducible repeat (first|refine kn_ ?_ _|refine kd_ ?_|refine ka_ ?_ _));exact BK256.out) hg (Kd.N_away HO243.out (fun _ hk=>hk.2.2)))
            have n6_:=A_ (Kd.V_afterv (ok:=(fun k_=>((P0_ k_∨P2_ k_)∨w.heap.size≤k_)∧some k_≠(.slice Ao40 t258.length co40:Value).ownBlock∧k_≠gb256)) (by (with_reducible repeat (first|apply Kd.V_alloc|apply Kd.V_drewN|apply Kd.V_drew));exact Kd.V_mono HO268.out (fun _ hk=>⟨⟨hk.1,⟨hk.2.2.1,hk.2.2.2⟩⟩,hk.2.1⟩)) hg hat)
            have n7_:=A_ (hb)
            have n8_:=A_ (ho)
            clear HO0
            clear HO2
            clear HO240
            clear HL255_4
            clear HL255_5
            clear BK256
            clear HO268
            clear HB
            clear HO243
            clear HO260
            have HO0:=n0_
            have HO2:=n1_
            have HO240:=n2_
            have HL255_4:=n3_
            have HL255_5:=n4_
            have BK256:=n5_
            have HO268:=n6_
            have HB:=n7_
            have HO263:=n8_
            clear n0_ n1_ n2_ n3_ n4_ n5_ n6_ n7_ n8_
            clear ho hb hg hat
            refine hK.out _ _ ⟨(bc_ BK256.out 0).trans rfl,(bc_ BK256.out 1).trans rfl,(bc_ BK256.out 2).trans rfl,(bc_ BK256.out 3).trans rfl,(bc_ BK256.out 4).trans rfl,(bc_ BK256.out 5).trans rfl⟩ (fun hHeld=>?_)
            clear hK K
            refine norm_ (a':=?_) ?_ ?_
            rotate_left
            ·show Act.put _ (some 43) _=_
             simp only [Act.put,ls_,lz_,lc_,i64_w,i32_w]
             rfl
            refine one_ (i:=8) (N:=some 48) #[T_,T_,T_,T_,T_,T_,T_,T_,T_,F_] rfl rfl (one_of HT_.out (by kernel_rfl)) (by decide) (fun K hK=>?_)
            refine Kd.N_append_rows_step k28 (w0:=w) w.heap.size (by rfl) (.tmp 43) (.tmp 47) 26 28 (.agg #[(.int .i64 0),(.int .i64 0),(.string ⟨#[]⟩),(.string ⟨#[]⟩),(.slice none 0 0),(.slice none 0 0)]) 96 rfl Try.underlying26 info28 rfl (by decide) (by omega) v262 y261 y264 _ _ _ (fun k_=>((P0_ k_∨P2_ k_)∨w.heap.size≤k_)∧k_≠gb256) (fun k_=>((fun k_=>((P0_ k_∨P2_ k_)∨w.heap.size≤k_)∧k_≠gb256)) k_∧some k_≠(v262:Value).ownBlock) rfl rfl ?aO ?aR (fun _ hk=>hk) ?aF ?aB ?aS ?aL ?_
            (case aR=>exact (by skip;exact Kd.V_F (Kd.V_mono (ok':=(fun k_=>((fun k_=>((P0_ k_∨P2_ k_)∨w.heap.size≤k_)∧k_≠gb256)) k_∧some k_≠(v262:Value).ownBlock)) (HO268.out) (fun k_ hk=>⟨⟨hk.1.1,hk.1.2.2⟩,hk.2⟩))))
            (case aB=>exact (by repeat (first|(with_reducible first|exact HB.out|apply ba_|apply pd_|apply b1_|refine bs_ ?_ GE256.out)|exact HB.out)))
            (case aF=>exact (fun k_ hk=>⟨(.inr (Nat.le_trans (bz_ (by repeat (first|(with_reducible first|exact HB.out|apply ba_|apply pd_|apply b1_|refine bs_ ?_ GE256.out)|exact HB.out))) hk)),Kd.freshB (g:=gb256) (o:=.cells #[.int .i64 ((rd_T28 l0 (rd l1 0)).f0),.int .i64 ((rd_T28 l0 (rd l1 0)).f1),.string ((rd_T28 l0 (rd l1 0)).f2),.string ((rd_T28 l0 (rd l1 0)).f3),.slice A255_4 ((rd_T28 l0 (rd l1 0)).f4).length c255_4,.slice Ao40 t258.length co40] 28 (0,0)) (by (with_reducible repeat (first|refine kn_ ?_ _|refine kd_ ?_|refine ka_ ?_ _));exact BK256.out) k_ hk⟩))
            (case aO=>exact (by (with_reducible repeat (first|apply Kd.N_alloc|apply Kd.N_drewN|apply Kd.N_drew));exact HO263.out))
            (case aS=>exact (bz_ (by repeat (first|(with_reducible first|exact HB.out|apply ba_|apply pd_|apply b1_|refine bs_ ?_ GE256.out)|exact HB.out))))
            (case aL=>have:=LMc29.out;omega)
            intro v270 w46 ho hb hg hat
            rw [←Ny269.out] at ho
            have n0_:=A_ (Kd.V_afterv (ok:=(fun k_=>((P0_ k_∨P2_ k_)∨w.heap.size≤k_)∧k_≠gb256)) (by (with_reducible repeat (first|apply Kd.V_alloc|apply Kd.V_drewN|apply Kd.V_drew));exact Kd.V_mono HO0.out (fun _ hk=>⟨⟨hk.1.1,hk.1.2.2⟩,hk.2⟩)) hg hat)
            have n1_:=A_ (Kd.V_afterv (ok:=(fun k_=>((P0_ k_∨P2_ k_)∨w.heap.size≤k_)∧k_≠gb256)) (by (with_reducible repeat (first|apply Kd.V_alloc|apply Kd.V_drewN|apply Kd.V_drew));exact Kd.V_mono HO2.out (fun _ hk=>⟨⟨hk.1.1,hk.1.2.2⟩,hk.2⟩)) hg hat)
            have n2_:=A_ (Kd.V_afterv (ok:=(fun k_=>((P0_ k_∨P2_ k_)∨w.heap.size≤k_)∧k_≠gb256)) (by (with_reducible repeat (first|apply Kd.V_alloc|apply Kd.V_drewN|apply Kd.V_drew));exact Kd.V_mono HO240.out (fun _ hk=>⟨⟨hk.1.1,hk.1.2.2⟩,hk.2⟩)) hg hat)
            have n3_:=A_ (Kd.V_afterv (ok:=(fun k_=>((P0_ k_∨P2_ k_)∨w.heap.size≤k_)∧k_≠gb256)) (by (with_reducible repeat (first|apply Kd.V_alloc|apply Kd.V_drewN|apply Kd.V_drew));exact Kd.V_mono HL255_4.out (fun _ hk=>⟨⟨hk.1.1,hk.1.2.2⟩,hk.2⟩)) hg hat)
            have n4_:=A_ (Kd.V_afterv (ok:=(fun k_=>((P0_ k_∨P2_ k_)∨w.heap.size≤k_)∧k_≠gb256)) (by (with_reducible repeat (first|apply Kd.V_alloc|apply Kd.V_drewN|apply Kd.V_drew));exact Kd.V_mono HL255_5.out (fun _ hk=>⟨⟨hk.1.1,hk.1.2.2⟩,hk.2⟩)) hg hat)
            have n5_:=A_ (blk_grown (g:=gb256) (o:=.cells #[.int .i64 ((rd_T28 l0 (rd l1 0)).f0),.int .i64 ((rd_T28 l0 (rd l1 0)).f1),.string ((rd_T28 l0 (rd l1 0)).f2),.string ((rd_T28 l0 (rd l1 0)).f3),.slice A255_4 ((rd_T28 l0 (rd l1 0)).f4).length c255_4,.slice Ao40 t258.length co40] 28 (0,0)) (by (with_reducible repeat (first|refine kn_ ?_ _|refine kd_ ?_|refine ka_ ?_ _));exact BK256.out) hg (Kd.N_away HO263.out (fun _ hk=>hk.2)))
            have n6_:=A_ (Kd.V_afterv (ok:=(fun k_=>((P0_ k_∨P2_ k_)∨w.heap.size≤k_)∧k_≠gb256)) (by (with_reducible repeat (first|apply Kd.V_alloc|apply Kd.V_drewN|apply Kd.V_drew));exact Kd.V_mono HO268.out (fun _ hk=>⟨⟨hk.1.1,hk.1.2.2⟩,hk.2⟩)) hg hat)
            have n7_:=A_ (hb)
            have n8_:=A_ (ho)
            clear HO0
            clear HO2
            clear HO240
            clear HL255_4
            clear HL255_5
            clear BK256
            clear HO268
            clear HB
            clear HO263
            have HO0:=n0_
            have HO2:=n1_
            have HO240:=n2_
            have HL255_4:=n3_
            have HL255_5:=n4_
            have BK256:=n5_
            have HO268:=n6_
            have HB:=n7_
            have HO271:=n8_
            clear n0_ n1_ n2_ n3_ n4_ n5_ n6_ n7_ n8_
            clear ho hb hg hat
            refine hK.out _ _ ⟨(bc_ BK256.out 0).trans rfl,(bc_ BK256.out 1).trans rfl,(bc_ BK256.out 2).trans rfl,(bc_ BK256.out 3).trans rfl,(bc_ BK256.out 4).trans rfl,(bc_ BK256.out 5).trans rfl⟩ (fun hHeld=>?_)
            clear hK K
            refine norm_ (a':=?_) ?_ ?_
            rotate_left
            ·show Act.put _ (some 48) _=_
             simp only [Act.put,ls_,lz_,lc_,i64_w,i32_w]
             rfl
            refine pure_ (i:=9) (N:=some 6) (v:=?_) (a':=?_) #[T_,T_,T_,T_,T_,T_,T_,T_,T_,T_] rfl rfl (any_of HT_.out (by kernel_rfl)) (fun _ _ _ h=>h) (Or.inl ⟨by rfl,?_⟩) ?_ ?_
            rotate_left
            ·intro w'
             go_simp
             with_reducible rfl
            rotate_left
            ·simp only [Act.put,ls_,lz_,lc_,i64_w,i32_w]
             rfl
            refine done_ (done_of HT_.out (by kernel_rfl)) ?_
            try go_wp2
            go_ret
            exact ⟨_,by first|rfl|(simp [errW_none,errW_some] <;> rfl)|(simp only [←hji26];first|rfl|(simp [errW_none,errW_some] <;> rfl))|(simp [*,errW_none,errW_some] <;> rfl),by (with_reducible repeat (first|apply Kd.N_alloc|apply Kd.N_drewN|apply Kd.N_drew));exact Kd.N_mono HO271.out (fun _ hk=>hk.1),by repeat (first|(with_reducible first|exact HB.out|apply ba_|apply pd_|apply b1_|refine bs_ ?_ GE256.out)|exact HB.out)⟩
           ·rw [if_neg c29] at H
            exact absurd H (by simp)
          ·rw [if_neg c28] at H
           exact absurd H (by simp)
         ·rw [if_neg c27] at H
          exact absurd H (by simp)
        ·rw [if_neg c25] at H
         exact absurd H (by simp)
       ·rw [if_neg c23] at H
        exact absurd H (by simp)
      ·rw [if_neg c22] at H
       exact absurd H (by simp)
    ·rw [if_neg c7] at H
     exact absurd H (by simp)
   ·rw [if_neg c6] at H
    exact absurd H (by simp)
  ·rw [if_neg c5] at H
   exact absurd H (by simp)
 ·rw [if_neg c4] at H
  exact absurd H (by simp)
end Go.Proofs.Ytbeplhbkoaopgaa.PFnExactRemoveAt
