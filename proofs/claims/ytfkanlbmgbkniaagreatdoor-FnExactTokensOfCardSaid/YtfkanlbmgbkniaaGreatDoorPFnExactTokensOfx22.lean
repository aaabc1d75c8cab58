/- The machine side of a law, printed by a program. No conditions. -/
import Derived.Test.YtfkanlbmgbkniaaGreatDoorPFnExactTokensOfx0
import Derived.Test.YtfkanlbmgbkniaaGreatDoorPFnExactTokensOfx12
import Derived.Test.YtfkanlbmgbkniaaGreatDoorPFnExactTokensOfx20
import Derived.Test.YtfkanlbmgbkniaaGreatDoorPFnExactTokensOfx21
namespace Go.Proofs.YtfkanlbmgbkniaaGreatDoor.PFnExactTokensOf
open Go.RowKit Go.Proofs.YtfkanlbmgbkniaaGreatDoorW.PrintWords Go.Proofs.YtfkanlbmgbkniaaGreatDoorW.PrintLast Go.Proofs.YtfkanlbmgbkniaaGreatDoorW.PrintMore
attribute [local go_sem] max2_int min2_int max_two min_two max_three min_three max_four min_four
set_option linter.unusedVariables false
set_option linter.unusedSimpArgs false
mutual
def impl_TokensOf.l0:Nat→ByteArray→List (S24)→ByteArray→Int→Option ((List (S24)) × Int)
 | 0,_,_,_,_=>none
 | k+1,x0,x4,x5,x6=>if x6<(x0.size:Int) then ((impl_nextToken.f k x0 x6 x5).bind fun bt452=>(if x4.length<1599289640401 then ((some (x4++[(⟨bt452.1,bt452.2.1,bt452.2.2.1,bt452.2.2.2.1,bt452.2.2.2.2.1,bt452.2.2.2.2.2.1,bt452.2.2.2.2.2.2⟩:S24)]:List (S24))).bind fun y462=>(if bt452.1=2 then ((impl_IsRaw.f k bt452.2.2.2.1).bind fun t465=>(impl_TokensOf.j1 k x0 y462 (⟨#[]⟩:ByteArray) (wrap64 (x6+bt452.2.2.1)) t465 bt452.1 bt452.2.1 bt452.2.2.1 bt452.2.2.2.1 bt452.2.2.2.2.1 bt452.2.2.2.2.2.1 bt452.2.2.2.2.2.2)) else (impl_TokensOf.j1 k x0 y462 (⟨#[]⟩:ByteArray) (wrap64 (x6+bt452.2.2.1)) false bt452.1 bt452.2.1 bt452.2.2.1 bt452.2.2.2.1 bt452.2.2.2.2.1 bt452.2.2.2.2.2.1 bt452.2.2.2.2.2.2))) else (none))) else (some (x4,0))
def impl_TokensOf.j1:Nat→ByteArray→List (S24)→ByteArray→Int→Bool→Int→Int→Int→ByteArray→ByteArray→List (S52)→Bool→Option ((List (S24)) × Int)
 | 0,_,_,_,_,_,_,_,_,_,_,_,_=>none
 | k+1,x0,x4,x5,x6,x35,x462000,x462001,x462002,x462003,x462004,x462005,x462006=>if x35=true then (if (x4.length:Int)>4096 then (some (([]:List (S24)),6)) else (impl_TokensOf.l0 k x0 x4 x462003 x6)) else (if (x4.length:Int)>4096 then (some (([]:List (S24)),6)) else (impl_TokensOf.l0 k x0 x4 x5 x6))
end
def impl_TokensOf.f (k:Nat) (a0:ByteArray):Option ((List (S24)) × Int):=(impl_isLong.f (([a0]:List ByteArray))).bind fun t448=>(if t448=true then (some (([]:List (S24)),2)) else (impl_TokensOf.l0 k a0 (([]:List (S24))) (⟨#[]⟩:ByteArray) 0))
theorem impl_TokensOf.mono_l:∀ k,(∀ y0 y1 y2 y3,LeO (impl_TokensOf.l0 k y0 y1 y2 y3) (impl_TokensOf.l0 (k+1) y0 y1 y2 y3))∧(∀ y0 y1 y2 y3 y4 y5 y6 y7 y8 y9 y10 y11,LeO (impl_TokensOf.j1 k y0 y1 y2 y3 y4 y5 y6 y7 y8 y9 y10 y11) (impl_TokensOf.j1 (k+1) y0 y1 y2 y3 y4 y5 y6 y7 y8 y9 y10 y11))
 | 0=>⟨fun _ _ _ _ r h=>by simp [impl_TokensOf.l0] at h,fun _ _ _ _ _ _ _ _ _ _ _ _ r h=>by simp [impl_TokensOf.j1] at h⟩
 | k+1=>by
  obtain ⟨ih0,ih1⟩:=impl_TokensOf.mono_l k
  refine ⟨?_,?_⟩
  ·intro y0 y1 y2 y3
   unfold impl_TokensOf.l0
   repeat' first|(with_reducible first|exact ih0 ..|exact ih1 ..|exact impl_IsRaw.mono ..|exact impl_nextToken.mono ..|exact LeO.refl _|exact LeO.none _|refine LeO.ite ?_ ?_|refine LeO.bind ?_ (fun _=>?_))|exact ih0 ..|exact ih1 ..|exact LeO.none _|refine LeO.ite ?_ ?_|refine LeO.bind ?_ (fun _=>?_)
  ·intro y0 y1 y2 y3 y4 y5 y6 y7 y8 y9 y10 y11
   unfold impl_TokensOf.j1
   repeat' first|(with_reducible first|exact ih0 ..|exact ih1 ..|exact impl_IsRaw.mono ..|exact impl_nextToken.mono ..|exact LeO.refl _|exact LeO.none _|refine LeO.ite ?_ ?_|refine LeO.bind ?_ (fun _=>?_))|exact ih0 ..|exact ih1 ..|exact LeO.none _|refine LeO.ite ?_ ?_|refine LeO.bind ?_ (fun _=>?_)
theorem impl_TokensOf.mono:∀ a0 k,LeO (impl_TokensOf.f k a0) (impl_TokensOf.f (k+1) a0):=by
 intro a0 k
 obtain ⟨ih0,ih1⟩:=impl_TokensOf.mono_l k
 unfold impl_TokensOf.f
 repeat' first|(with_reducible first|exact ih0 ..|exact ih1 ..|exact impl_IsRaw.mono ..|exact impl_nextToken.mono ..|exact LeO.refl _|exact LeO.none _|refine LeO.ite ?_ ?_|refine LeO.bind ?_ (fun _=>?_))|exact ih0 ..|exact ih1 ..|exact LeO.none _|refine LeO.ite ?_ ?_|refine LeO.bind ?_ (fun _=>?_)
def impl_TokensOf.T7:Bool × List (List Nat × List Nat):=(true,[([],[]),([],[]),([1],[1]),([0,2],[0,2]),([],[]),([],[]),([5],[5]),([4,6],[4,6]),([3,3,0,1,2,3],[0,3]),([7,8,0,1,2,3,4,5,6,7,8],[4,7]),([9,0,1,2,3,4,5,6,7,8,9],[])])
def impl_TokensOf.B7:List Nat:=[0,0,2,7,0,0,32,112,15,511,1023]
theorem impl_TokensOf.tab7:rtab .any (opsOf Tryz.f11 7)=impl_TokensOf.T7:=by kernel_rfl
theorem impl_TokensOf.bits7:waitsOk impl_TokensOf.T7.2 impl_TokensOf.B7=true:=by kernel_rfl
set_option maxHeartbeats 8000000 in
set_option maxRecDepth 100000 in
theorem impl_TokensOf.calls (k:Nat) (a0:ByteArray) (r1:List (S24)) (r2:Int) (w:World) (hL:Laid w) (h:impl_TokensOf.f k a0=some (r1,r2)) :
 Calls Tryz.prog 11 #[.string a0] w fun e w'=>∃ v0_:Value,e=.returned (.tuple #[v0_,.int .i64 r2])∧Kd.S k24 24 w' w.heap.size (fun _=>True) v0_ r1∧Below w.heap.size w w':=by
 have hu24:=Tryz.underlying24
 have HB:=A_ (Below.refl w.heap.size w)
 have HL:=A_ hL
 clear hL
 have H:((impl_isLong.f (([a0]:List ByteArray))).bind fun t448=>(if t448=true then (some (([]:List (S24)),2)) else (impl_TokensOf.l0 k a0 (([]:List (S24))) (⟨#[]⟩:ByteArray) 0)))=some (r1,r2):=h
 clear h
 obtain ⟨y445,hy445⟩:∃ y_:List ByteArray,y_=(([a0]:List ByteArray)):=⟨_,rfl⟩
 replace H:((impl_isLong.f y445).bind fun t448=>(if t448=true then (some (([]:List (S24)),2)) else (impl_TokensOf.l0 k a0 (([]:List (S24))) (⟨#[]⟩:ByteArray) 0)))=some (r1,r2):=by first|(rw [hy445];with_reducible exact H)|(have H2_:=(Option.bind_some _ _).symm.trans H;rw [hy445];with_reducible exact H2_)|(have H2_:=(Option.bind_some _ _).symm.trans H;with_reducible exact H2_)|with_reducible exact H|(rw [hy445];exact H)|exact H
 have Ny445:=A_ hy445
 clear hy445
 replace H:=ob_ H
 obtain ⟨t448,A20,H⟩:=H
 replace H:(if t448=true then (some (([]:List (S24)),2)) else (impl_TokensOf.l0 k a0 (([]:List (S24))) (⟨#[]⟩:ByteArray) 0))=some (r1,r2):=H
 have A2:=A_ A20
 clear A20
 by_cases c3:t448=true
 ·subst c3
  have H1:(some (([]:List (S24)),2))=some (r1,r2):=by rw [if_pos rfl] at H;exact H
  clear H
  have H:=H1
  clear H1
  simp only [Option.some.injEq,Prod.mk.injEq] at H
  obtain ⟨rfl,rfl⟩:=H
  go_enter Tryz.func11,Tryz.ntmps11
  go_wp2_with (first|((with_reducible refine gate_dst (N:=9) rfl ?_);refine Kd.R_lit Kd.string _ 9 ?hg (N:=9) ?hd (xs:=([a0]:List ByteArray)) (inner:=[.string a0]) (ok:=fun _=>True) (okp:=fun _=>True) ?hr ?hp (fun _ hk=>hk) trivial (Below.refl _ _) (Nat.le_refl _) (by simp) ?_;(case hd=>rfl);(case hg=>rfl);(case hr=>first|(go_simp;done)|(go_simp;rfl)|(first|(go_simp;done)|(go_simp;rfl)));(case hp=>exact (Reps.one (show Kd.M Kd.string _ _ _ a0 [.string a0] from rfl) (Reps.none _ _)));intro v446 w4 ho5 hb hg_ hnew_;clear hg_ hnew_;(first|rw [←Ny445.out] at ho5|(simp only [Int.reduceToNat] at ho5;rw [←Ny445.out] at ho5));have n0_:=A_ (Kd.R_lower ho5 (bz_ (bq0_ HB.out)));have n1_:=A_ (bp_ (bq0_ HB.out) hb);clear HB;have HO447:=n0_;have HB:=n1_;clear n0_ n1_;clear hb ho5;obtain ⟨Ao6,co6,eo6⟩:=Kd.R_slice HO447.out;subst eo6)|((with_reducible refine gate_callee (f:=18) rfl ?_);refine gl_ (some 10) rfl rfl Tryz.func18 (by kernel_rfl) rfl #[.slice Ao6 y445.length co6] rfl  ?_;(with_reducible refine (impl_isLong.calls _ _ y445 true _ ?side1 ?side2 A2.out).mono ?_);(case side1=>repeat (first|exact (Kd.R_reads' HO447.out).2.2|(with_reducible refine ca_ ?_ _)|(with_reducible refine cn_ ?_ _)|(with_reducible refine cd_ ?_)));(case side2=>exact (Kd.R_reads' HO447.out).2.1);rintro e w7 ⟨rfl,hb⟩;refine ⟨_,rfl,?_⟩;have n0_:=A_ (Kd.R_below (rq_ HO447.out) hb);have n1_:=A_ (bp_ (bq0_ HB.out) hb);clear HO447;clear HB;have HO447:=n0_;have HB:=n1_;clear n0_ n1_;(try clear hb);(try clear hb2);(try clear hk);(try clear hi)))
  go_ret2
  exact ⟨_,by first|rfl|(simp [errW_none,errW_some] <;> rfl)|(simp [*,errW_none,errW_some] <;> rfl),by first|exact Kd.S_nil _ _ _ _ _|exact Kd.N_nil _ _ _ _ _|exact Kd.V_nil _ _ _ _ _|exact Kd.Q_nil _ _ _ _ _|exact Kd.R_nil _ _ _ _ _,bq0_ HB.out⟩
 ·replace c3:=bm_ c3
  subst c3
  have H1:(impl_TokensOf.l0 k a0 (([]:List (S24))) (⟨#[]⟩:ByteArray) 0)=some (r1,r2):=by rw [if_neg (show ¬ (false=true) by decide)] at H;exact H
  clear H
  have H:=H1
  clear H1
  obtain ⟨y449,hy449⟩:∃ y_:List (S24),y_=(([]:List (S24))):=⟨_,rfl⟩
  replace H:(impl_TokensOf.l0 k a0 y449 (⟨#[]⟩:ByteArray) 0)=some (r1,r2):=by first|(rw [hy449];with_reducible exact H)|(have H2_:=(Option.bind_some _ _).symm.trans H;rw [hy449];with_reducible exact H2_)|(have H2_:=(Option.bind_some _ _).symm.trans H;with_reducible exact H2_)|with_reducible exact H|(rw [hy449];exact H)|exact H
  have Ny449:=A_ hy449
  clear hy449
  have H':=A_ H
  clear H
  go_enter Tryz.func11,Tryz.ntmps11
  go_wp2_with (first|((with_reducible refine gate_dst (N:=9) rfl ?_);refine Kd.R_lit Kd.string _ 9 ?hg (N:=9) ?hd (xs:=([a0]:List ByteArray)) (inner:=[.string a0]) (ok:=fun _=>True) (okp:=fun _=>True) ?hr ?hp (fun _ hk=>hk) trivial (Below.refl _ _) (Nat.le_refl _) (by simp) ?_;(case hd=>rfl);(case hg=>rfl);(case hr=>first|(go_simp;done)|(go_simp;rfl)|((first|(obtain ⟨_,_,rfl⟩:=Kd.R_slice HO447.out)|(obtain ⟨_,_,rfl⟩:=Kd.S_slice HO447.out)|skip);first|(go_simp;done)|(go_simp;rfl)));(case hp=>exact (Reps.one (show Kd.M Kd.string _ _ _ a0 [.string a0] from rfl) (Reps.none _ _)));intro v446 w8 ho9 hb hg_ hnew_;clear hg_ hnew_;(first|rw [←Ny445.out] at ho9|(simp only [Int.reduceToNat] at ho9;rw [←Ny445.out] at ho9));have n0_:=A_ (Kd.R_lower ho9 (bz_ (bq0_ HB.out)));have n1_:=A_ (bp_ (bq0_ HB.out) hb);clear HB;have HO447:=n0_;have HB:=n1_;clear n0_ n1_;clear hb ho9;obtain ⟨Ao10,co10,eo10⟩:=Kd.R_slice HO447.out;subst eo10)|((with_reducible refine gate_callee (f:=18) rfl ?_);refine gl_ (some 10) rfl rfl Tryz.func18 (by kernel_rfl) rfl #[.slice Ao10 y445.length co10] rfl  ?_;(with_reducible refine (impl_isLong.calls _ _ y445 false _ ?side1 ?side2 A2.out).mono ?_);(case side1=>repeat (first|exact (Kd.R_reads' HO447.out).2.2|(with_reducible refine ca_ ?_ _)|(with_reducible refine cn_ ?_ _)|(with_reducible refine cd_ ?_)));(case side2=>exact (Kd.R_reads' HO447.out).2.1);rintro e w11 ⟨rfl,hb⟩;refine ⟨_,rfl,?_⟩;have n0_:=A_ (Kd.R_below (rq_ HO447.out) hb);have n1_:=A_ (bp_ (bq0_ HB.out) hb);clear HO447;clear HB;have HO447:=n0_;have HB:=n1_;clear n0_ n1_;(try clear hb);(try clear hb2);(try clear hk);(try clear hi))|((with_reducible refine gate_dst (N:=11) rfl ?_);refine Kd.S_lit k24 _ 24 ?hg (N:=11) ?hd (xs:=([]:List (S24))) (inner:=[]) (ok:=fun _=>True) (okp:=fun _=>True) ?hr ?hp (fun _ hk=>hk) trivial (Below.refl _ _) (Nat.le_refl _) (by simp) ?_;(case hd=>rfl);(case hg=>rfl);(case hr=>first|(go_simp;done)|(go_simp;rfl)|((first|(obtain ⟨_,_,rfl⟩:=Kd.R_slice HO447.out)|(obtain ⟨_,_,rfl⟩:=Kd.S_slice HO447.out)|skip);first|(go_simp;done)|(go_simp;rfl)));(case hp=>exact (Reps.none _ _));intro v450 w12 ho13 hb hg_ hnew_;clear hg_ hnew_;(first|rw [←Ny449.out] at ho13|(simp only [Int.reduceToNat] at ho13;rw [←Ny449.out] at ho13));have n0_:=A_ (Kd.R_below (rq_ HO447.out) hb);have n1_:=A_ (Kd.S_lower ho13 (bz_ (bq0_ HB.out)));have n2_:=A_ (bp_ (bq0_ HB.out) hb);clear HO447;clear HB;have HO447:=n0_;have HO451:=n1_;have HB:=n2_;clear n0_ n1_ n2_;clear hb ho13))
  go_loopg [4,5,6] k (fun kq v4 v5 v6 w'=>∃ (x4_1:List (S24)) (x5_1:ByteArray) (x6_1:Int),v5=.string x5_1∧v6=.int .i64 x6_1∧Aside0 (impl_TokensOf.l0 kq a0 x4_1 x5_1 x6_1=some (r1,r2))∧Aside0 (kq≤k)∧Aside0 (Kd.S k24 24 w' w.heap.size (fun _=>True) v4 x4_1)∧Aside0 (Below w.heap.size w w'))
  case atStart=>exact ⟨(y449),((⟨#[]⟩:ByteArray)),(0),rs_,rs_,H',⟨Nat.le_refl _⟩,⟨by (with_reducible repeat (first|apply Kd.S_alloc|apply Kd.S_drewN|apply Kd.S_drew));exact HO451.out⟩,⟨bq0_ HB.out⟩⟩
  case round =>
   clear H'
   try clear c1
   try clear p2
   try clear c3
   try clear c11
   obtain ⟨x4_1,x5_1,x6_1,rfl,rfl,HA,HK1,HO_4,HB⟩:=hrel
   cases gk with
   | zero=>exact absurd HA.out (by simp [impl_TokensOf.l0])
   | succ k1 =>
    have H:=HA.out
    clear HA
    simp only [impl_TokensOf.l0] at H
    by_cases c14:x6_1<(a0.size:Int)
    ·rw [if_pos c14] at H
     have c14b0:decide (x6_1<(a0.size:Int))=true:=dt_ c14
     clear c14
     replace H:=ob_ H
     obtain ⟨⟨t452,t453,t454,t455,t456,t457,t460⟩,A150,H⟩:=H
     replace H:(if x4_1.length<1599289640401 then ((some (x4_1++[(⟨t452,t453,t454,t455,t456,t457,t460⟩:S24)]:List (S24))).bind fun y462=>(if t452=2 then ((impl_IsRaw.f k1 t455).bind fun t465=>(impl_TokensOf.j1 k1 a0 y462 (⟨#[]⟩:ByteArray) (wrap64 (x6_1+t454)) t465 t452 t453 t454 t455 t456 t457 t460)) else (impl_TokensOf.j1 k1 a0 y462 (⟨#[]⟩:ByteArray) (wrap64 (x6_1+t454)) false t452 t453 t454 t455 t456 t457 t460))) else (none))=some (r1,r2):=H
     have A15:=A_ A150
     clear A150
     by_cases c16:x4_1.length<1599289640401
     ·rw [if_pos c16] at H
      have LMc16:=A_ c16
      clear c16
      obtain ⟨y462,hy462⟩:∃ y_:List (S24),y_=(x4_1++[(⟨t452,t453,t454,t455,t456,t457,t460⟩:S24)]):=⟨_,rfl⟩
      replace H:(if t452=2 then ((impl_IsRaw.f k1 t455).bind fun t465=>(impl_TokensOf.j1 k1 a0 y462 (⟨#[]⟩:ByteArray) (wrap64 (x6_1+t454)) t465 t452 t453 t454 t455 t456 t457 t460)) else (impl_TokensOf.j1 k1 a0 y462 (⟨#[]⟩:ByteArray) (wrap64 (x6_1+t454)) false t452 t453 t454 t455 t456 t457 t460))=some (r1,r2):=by first|(rw [hy462];with_reducible exact H)|(have H2_:=(Option.bind_some _ _).symm.trans H;rw [hy462];with_reducible exact H2_)|(have H2_:=(Option.bind_some _ _).symm.trans H;with_reducible exact H2_)|with_reducible exact H|(rw [hy462];exact H)|exact H
      have Ny462:=A_ hy462
      clear hy462
      have HC17:=A_ H
      clear H
      try go_wp2_with (first|((with_reducible refine gate_callee (f:=21) rfl ?_);refine gl_ (some 19) rfl rfl Tryz.func21 (by kernel_rfl) rfl #[.string a0,.int .i64 x6_1,.string x5_1] rfl  ?_;(with_reducible refine (impl_nextToken.calls k1 a0 x6_1 x5_1 t452 t453 t454 t455 t456 t457 t460 _ ?sideL A15.out).mono ?_);(case sideL=>exact HL.out.below (bq0_ HB.out));rintro e w18 ⟨v458,rfl,ho0,hb⟩;refine ⟨_,rfl,?_⟩;have n0_:=A_ (Kd.S_elder' (by (with_reducible repeat (first|apply Kd.S_alloc|apply Kd.S_drewN|apply Kd.S_drew));exact HO_4.out) (Kd.R_base ho0) hb);have n1_:=A_ (Kd.R_lower ho0 (bz_ (bq0_ HB.out)));have n2_:=A_ (bp_ (bq0_ HB.out) hb);clear HO_4;clear HB;have HO_4:=n0_;have HO459:=n1_;have HB:=n2_;clear n0_ n1_ n2_;(try clear hb);(try clear hb2);(try clear hk);(try clear hi);(try clear ho0))|((with_reducible refine gate_dst (N:=7) rfl ?_);refine box_event ?hg (N:=7) ?hd (cs:=#[.int .i64 0,.int .i64 0,.int .i64 0,.string (⟨#[]⟩:ByteArray),.string (⟨#[]⟩:ByteArray),.slice none 0 0,.bool false]) (t:=24) ?hr ?_;(case hd=>rfl);(case hg=>rfl);(case hr=>first|(go_simp;done)|(go_simp;rfl)|((first|(obtain ⟨_,_,rfl⟩:=Kd.R_slice HO447.out)|(obtain ⟨_,_,rfl⟩:=Kd.S_slice HO447.out)|skip);(first|(obtain ⟨_,_,rfl⟩:=Kd.R_slice HO451.out)|(obtain ⟨_,_,rfl⟩:=Kd.S_slice HO451.out)|skip);(first|(obtain ⟨_,_,rfl⟩:=Kd.R_slice HO459.out)|(obtain ⟨_,_,rfl⟩:=Kd.S_slice HO459.out)|skip);first|(go_simp;done)|(go_simp;rfl)));intro gb461 hg w19 hbox hb;have n0_:=A_ (Kd.S_below (Kd.S_elderB (by (with_reducible repeat (first|apply Kd.S_alloc|apply Kd.S_drewN|apply Kd.S_drew));exact HO_4.out) gb461 (Nat.le_of_eq hg.symm)) hb);have n1_:=A_ (Kd.R_below (rq_ HO459.out) hb);have n2_:=A_ (bp_ (bq0_ HB.out) hb);have n3_:=A_ (hbox);have n4_:=A_ ((by rw [hg];exact (bz_ (bq0_ HB.out)):w.heap.size≤gb461));have n5_:=A_ ((by rw [hg];exact (bz_ (bq0_ HB.out)):w.heap.size≤gb461));clear HO_4;clear HO459;clear HB;have HO_4:=n0_;have HO459:=n1_;have HB:=n2_;have BK461:=n3_;have GW461:=n4_;have GE461:=n5_;clear n0_ n1_ n2_ n3_ n4_ n5_;clear hb hbox hg;obtain ⟨hcz20_0,hcz20_1,hcz20_2,hcz20_3,hcz20_4,hcz20_5,hcz20_6,hfz20_0,hfz20_1,hfz20_2,hfz20_3,hfz20_4,hfz20_5,hfz20_6⟩:=g7_ BK461.out;obtain ⟨Ao21,co21,eo21⟩:=Kd.R_slice HO459.out;subst eo21))
      have n0_:Aside0 (Kd.S k24 24 (((((((w19.setCell ⟨gb461,0,none⟩ (.int .i64 t452)).setCell ⟨gb461,1,none⟩ (.int .i64 t453)).setCell ⟨gb461,2,none⟩ (.int .i64 t454)).setCell ⟨gb461,3,none⟩ (.string t455)).setCell ⟨gb461,4,none⟩ (.string t456)).setCell ⟨gb461,5,none⟩ (.slice Ao21 t457.length co21)).setCell ⟨gb461,6,none⟩ (.bool t460)) w.heap.size (fun k_=>some k_≠(.slice Ao21 t457.length co21:Value).ownBlock∧k_≠gb461) u4 x4_1):=⟨by (with_reducible repeat (first|apply Kd.S_alloc|apply Kd.S_drewN|apply Kd.S_drew));exact Kd.S_mono (Kd.S_far (p:=⟨gb461,6,none⟩) (Kd.S_far (p:=⟨gb461,5,none⟩) (Kd.S_far (p:=⟨gb461,4,none⟩) (Kd.S_far (p:=⟨gb461,3,none⟩) (Kd.S_far (p:=⟨gb461,2,none⟩) (Kd.S_far (p:=⟨gb461,1,none⟩) (Kd.S_far (p:=⟨gb461,0,none⟩) (Kd.S_mono HO_4.out (fun k_ hk=>(⟨hk,hk.2⟩:_∧k_≠gb461))) (fun _ hk=>hk.2) (.int .i64 t452)) (fun _ hk=>hk.2) (.int .i64 t453)) (fun _ hk=>hk.2) (.int .i64 t454)) (fun _ hk=>hk.2) (.string t455)) (fun _ hk=>hk.2) (.string t456)) (fun _ hk=>hk.2) (.slice Ao21 t457.length co21)) (fun _ hk=>hk.2) (.bool t460)) (fun _ hk=>⟨hk.1.1.2,hk.1.2⟩)⟩
      have n1_:Aside0 (Kd.R k52 52 (((((((w19.setCell ⟨gb461,0,none⟩ (.int .i64 t452)).setCell ⟨gb461,1,none⟩ (.int .i64 t453)).setCell ⟨gb461,2,none⟩ (.int .i64 t454)).setCell ⟨gb461,3,none⟩ (.string t455)).setCell ⟨gb461,4,none⟩ (.string t456)).setCell ⟨gb461,5,none⟩ (.slice Ao21 t457.length co21)).setCell ⟨gb461,6,none⟩ (.bool t460)) w.heap.size (fun _=>True) (.slice Ao21 t457.length co21) t457):=⟨by (with_reducible repeat first|apply ra_|apply rn_|apply rd_);exact Kd.R_mono (f7_ (g:=gb461) (Kd.R_types HO459.out BK461.out (by decide)) (fun _ hk=>hk.2) (.int .i64 t452) (.int .i64 t453) (.int .i64 t454) (.string t455) (.string t456) (.slice Ao21 t457.length co21) (.bool t460)) (fun _ hk=>trivial)⟩
      have n2_:Aside0 ((((((((w19.setCell ⟨gb461,0,none⟩ (.int .i64 t452)).setCell ⟨gb461,1,none⟩ (.int .i64 t453)).setCell ⟨gb461,2,none⟩ (.int .i64 t454)).setCell ⟨gb461,3,none⟩ (.string t455)).setCell ⟨gb461,4,none⟩ (.string t456)).setCell ⟨gb461,5,none⟩ (.slice Ao21 t457.length co21)).setCell ⟨gb461,6,none⟩ (.bool t460)).heap[gb461]? = some (.cells #[.int .i64 t452,.int .i64 t453,.int .i64 t454,.string t455,.string t456,.slice Ao21 t457.length co21,.bool t460] 24 (0,0))):=⟨by (with_reducible repeat first|apply kn_|apply kd_|apply ka_);exact p7_ (kq_ BK461.out)⟩
      have n3_:Aside0 (Below w.heap.size w (((((((w19.setCell ⟨gb461,0,none⟩ (.int .i64 t452)).setCell ⟨gb461,1,none⟩ (.int .i64 t453)).setCell ⟨gb461,2,none⟩ (.int .i64 t454)).setCell ⟨gb461,3,none⟩ (.string t455)).setCell ⟨gb461,4,none⟩ (.string t456)).setCell ⟨gb461,5,none⟩ (.slice Ao21 t457.length co21)).setCell ⟨gb461,6,none⟩ (.bool t460))):=⟨bq1_ HB.out GE461.out⟩
      (try clear HO_4)
      (try clear HO459)
      (try clear BK461)
      (try clear HB)
      generalize (((((((w19.setCell ⟨gb461,0,none⟩ (.int .i64 t452)).setCell ⟨gb461,1,none⟩ (.int .i64 t453)).setCell ⟨gb461,2,none⟩ (.int .i64 t454)).setCell ⟨gb461,3,none⟩ (.string t455)).setCell ⟨gb461,4,none⟩ (.string t456)).setCell ⟨gb461,5,none⟩ (.slice Ao21 t457.length co21)).setCell ⟨gb461,6,none⟩ (.bool t460))=w22 at n0_ n1_ n2_ n3_ ⊢
      have HO_4:=n0_
      have HO459:=n1_
      have BK461:=n2_
      have HB:=n3_
      clear n0_ n1_ n2_ n3_
      have n0_:=A_ (Kd.S_drew HO_4.out)
      have n1_:=A_ (Kd.R_drew HO459.out)
      have n2_:=A_ (kd_ BK461.out)
      have n3_:=A_ (b1_ HB.out)
      clear HO_4
      clear HO459
      clear BK461
      clear HB
      have HO_4:=n0_
      have HO459:=n1_
      have BK461:=n2_
      have HB:=n3_
      clear n0_ n1_ n2_ n3_
      refine start_ (n:=11) (S:=fun w'=>w'.cell? ⟨gb461,0,none⟩=some (.int .i64 t452)∧w'.cell? ⟨gb461,1,none⟩=some (.int .i64 t453)∧w'.cell? ⟨gb461,2,none⟩=some (.int .i64 t454)∧w'.cell? ⟨gb461,3,none⟩=some (.string t455)∧w'.cell? ⟨gb461,4,none⟩=some (.string t456)∧w'.cell? ⟨gb461,5,none⟩=some (.slice Ao21 t457.length co21)∧w'.cell? ⟨gb461,6,none⟩=some (.bool t460)) (ds:=[]) #[F_,F_,F_,F_,F_,F_,F_,F_,F_,F_,F_] (by kernel_rfl) rfl rfl ⟨(bc_ BK461.out 0).trans rfl,(bc_ BK461.out 1).trans rfl,(bc_ BK461.out 2).trans rfl,(bc_ BK461.out 3).trans rfl,(bc_ BK461.out 4).trans rfl,(bc_ BK461.out 5).trans rfl,(bc_ BK461.out 6).trans rfl⟩ (fun hHeld=>?_);refine with_tabW impl_TokensOf.tab7 impl_TokensOf.bits7 (fun HT_ HW_=>?_)
      generalize w22.drew=w23 at HO_4 HO459 BK461 HB hHeld ⊢
      refine pure_ (i:=0) (N:=some 20) (v:=?_) (a':=?_) #[T_,F_,F_,F_,F_,F_,F_,F_,F_,F_,F_] rfl rfl (any_of HT_.out (by kernel_rfl)) (fun _ _ _ h=>h) (Or.inl ⟨by rfl,?_⟩) ?_ ?_
      rotate_left
      ·intro w'
       go_simp
       with_reducible rfl
      rotate_left
      ·simp only [Act.put,ls_,lz_,lc_,i64_w,i32_w]
       rfl
      refine pure_ (i:=4) (N:=some 24) (v:=?_) (a':=?_) #[T_,F_,F_,F_,T_,F_,F_,F_,F_,F_,F_] rfl rfl (any_of HT_.out (by kernel_rfl)) (fun _ _ _ h=>h) (Or.inl ⟨by rfl,?_⟩) ?_ ?_
      rotate_left
      ·intro w'
       go_simp
       with_reducible rfl
      rotate_left
      ·simp only [Act.put,ls_,lz_,lc_,i64_w,i32_w]
       rfl
      refine pure_ (i:=5) (N:=some 25) (v:=?_) (a':=?_) #[T_,F_,F_,F_,T_,T_,F_,F_,F_,F_,F_] rfl rfl (any_of HT_.out (by kernel_rfl)) (fun _ _ _ h=>h) (Or.inl ⟨by rfl,?_⟩) ?_ ?_
      rotate_left
      ·intro w'
       go_simp
       with_reducible rfl
      rotate_left
      ·simp only [Act.put,ls_,lz_,lc_,i64_w,i32_w]
       rfl
      refine take_ (i:=1) (N:=some 21) (v:=?_) (a':=?_) #[T_,T_,F_,F_,T_,T_,F_,F_,F_,F_,F_] rfl rfl (take_ofW HT_.out HW_.out (by kernel_rfl)) (fun _ _ _ h=>h) (Or.inl ⟨by rfl,?_⟩) hHeld ?_ ?_
      rotate_left
      ·rintro w' ⟨s0,s1,s2,s3,s4,s5,s6⟩
       go_simp
       with_reducible rfl
      rotate_left
      ·simp only [Act.put,ls_,lz_,lc_,i64_w,i32_w]
       rfl
      refine take_ (i:=6) (N:=some 26) (v:=?_) (a':=?_) #[T_,T_,F_,F_,T_,T_,T_,F_,F_,F_,F_] rfl rfl (take_ofW HT_.out HW_.out (by kernel_rfl)) (fun _ _ _ h=>h) (Or.inl ⟨by rfl,?_⟩) hHeld ?_ ?_
      rotate_left
      ·rintro w' ⟨s0,s1,s2,s3,s4,s5,s6⟩
       go_simp
       with_reducible rfl
      rotate_left
      ·simp only [Act.put,ls_,lz_,lc_,i64_w,i32_w]
       rfl
      refine pure_ (i:=7) (N:=some 27) (v:=?_) (a':=?_) #[T_,T_,F_,F_,T_,T_,T_,T_,F_,F_,F_] rfl rfl (any_of HT_.out (by kernel_rfl)) (fun _ _ _ h=>h) (Or.inl ⟨by rfl,?_⟩) ?_ ?_
      rotate_left
      ·intro w'
       go_simp
       with_reducible rfl
      rotate_left
      ·simp only [Act.put,ls_,lz_,lc_,i64_w,i32_w]
       rfl
      refine one_ (i:=2) (N:=some 22) #[T_,T_,T_,F_,T_,T_,T_,T_,F_,F_,F_] rfl rfl (one_of HT_.out (by kernel_rfl)) (by decide) (fun K hK=>?_)
      refine value_ (w1:=?_) (v:=?_) (by rfl) rfl ?_ ?_
      rotate_left 2
      ·go_simp
       constructor
       ·rfl
       ·rfl
      refine hK.out _ _ ⟨(bc_ (ka_ BK461.out _) 0).trans rfl,(bc_ (ka_ BK461.out _) 1).trans rfl,(bc_ (ka_ BK461.out _) 2).trans rfl,(bc_ (ka_ BK461.out _) 3).trans rfl,(bc_ (ka_ BK461.out _) 4).trans rfl,(bc_ (ka_ BK461.out _) 5).trans rfl,(bc_ (ka_ BK461.out _) 6).trans rfl⟩ (fun hHeld=>?_)
      clear hK K
      refine norm_ (a':=?_) ?_ ?_
      rotate_left
      ·show Act.put _ (some 22) _=_
       simp only [Act.put,ls_,lz_,lc_,i64_w,i32_w]
       rfl
      refine one_ (i:=3) (N:=some 23) #[T_,T_,T_,T_,T_,T_,T_,T_,F_,F_,F_] rfl rfl (one_of HT_.out (by kernel_rfl)) (by decide) (fun K hK=>?_)
      refine Kd.S_append_step k24 (w0:=w) w.heap.size (by rfl) (.tmp 20) (.tmp 22) 30 24 (.agg #[(.int .i64 0),(.int .i64 0),(.int .i64 0),(.string ⟨#[]⟩),(.string ⟨#[]⟩),(.slice none 0 0),(.bool false)]) 88 rfl Tryz.underlying30 info24 rfl (by decide) (by omega) u4 x4_1 (⟨t452,t453,t454,t455,t456,t457,t460⟩:S24) [.int .i64 t452,.int .i64 t453,.int .i64 t454,.string t455,.string t456,.slice Ao21 t457.length co21,.bool t460] (fun k_=>k_≠gb461) (fun k_=>some k_=(.slice Ao21 t457.length co21:Value).ownBlock) rfl rfl ?aP (fun k_ hk_=>((Kd.R_mono (ok':=fun k_=>((fun k_=>k_≠gb461)) k_∧some k_≠(u4:Value).ownBlock) (Kd.R_types (Kd.R_apart' (HO459.out) (Kd.S_typed HO_4.out) (by decide)) BK461.out (by decide)) (fun k_ hk=>⟨hk.2,hk.1.2⟩))).1 k_ hk_.symm) ?aF ?aO ?aB ?aS ?aL ?_
      (case aP=>exact k24_mkM _ _ _ (⟨t452,t453,t454,t455,t456,t457,t460⟩:S24) (Kd.R_mono (Kd.R_tight rfl (Kd.R_mono (ok':=fun k_=>((fun k_=>k_≠gb461)) k_∧some k_≠(u4:Value).ownBlock) (Kd.R_types (Kd.R_apart' (HO459.out) (Kd.S_typed HO_4.out) (by decide)) BK461.out (by decide)) (fun k_ hk=>⟨hk.2,hk.1.2⟩))) (fun _ h_=>h_)))
      (case aB=>exact (bq1_ HB.out GE461.out))
      (case aF=>exact (fun k_ hk=>Kd.freshB (g:=gb461) (o:=.cells #[.int .i64 t452,.int .i64 t453,.int .i64 t454,.string t455,.string t456,.slice Ao21 t457.length co21,.bool t460] 24 (0,0)) (kq_ BK461.out) k_ hk))
      (case aO=>exact (by (with_reducible repeat (first|apply Kd.S_alloc|apply Kd.S_drewN|apply Kd.S_drew));exact Kd.S_mono HO_4.out (fun k_ hk=>⟨hk.2,fun e_=>hk.1 e_⟩)))
      (case aS=>exact (bz_ (bq1_ HB.out GE461.out)))
      (case aL=>have:=LMc16.out;omega)
      intro v463 w24 ho hb hg hat
      rw [←Ny462.out] at ho
      have n0_:=A_ (blk_grown (g:=gb461) (o:=.cells #[.int .i64 t452,.int .i64 t453,.int .i64 t454,.string t455,.string t456,.slice Ao21 t457.length co21,.bool t460] 24 (0,0)) (kq_ BK461.out) hg (Kd.S_away HO_4.out (fun _ hk=>hk.2)))
      have n1_:=A_ (hb)
      have n2_:=A_ (ho)
      clear BK461
      clear HB
      clear HO_4
      clear HO459
      have BK461:=n0_
      have HB:=n1_
      have HO464:=n2_
      clear n0_ n1_ n2_
      clear ho hb hg hat
      refine hK.out _ _ ⟨(bc_ BK461.out 0).trans rfl,(bc_ BK461.out 1).trans rfl,(bc_ BK461.out 2).trans rfl,(bc_ BK461.out 3).trans rfl,(bc_ BK461.out 4).trans rfl,(bc_ BK461.out 5).trans rfl,(bc_ BK461.out 6).trans rfl⟩ (fun hHeld=>?_)
      clear hK K
      refine norm_ (a':=?_) ?_ ?_
      rotate_left
      ·show Act.put _ (some 23) _=_
       simp only [Act.put,ls_,lz_,lc_,i64_w,i32_w]
       rfl
      refine pure_ (i:=8) (N:=some 4) (v:=?_) (a':=?_) #[T_,T_,T_,T_,T_,T_,T_,T_,T_,F_,F_] rfl rfl (any_of HT_.out (by kernel_rfl)) (fun _ _ _ h=>h) (Or.inl ⟨by rfl,?_⟩) ?_ ?_
      rotate_left
      ·intro w'
       go_simp
       with_reducible rfl
      rotate_left
      ·simp only [Act.put,ls_,lz_,lc_,i64_w,i32_w]
       rfl
      refine pure_ (i:=9) (N:=some 6) (v:=?_) (a':=?_) #[T_,T_,T_,T_,T_,T_,T_,T_,T_,T_,F_] rfl rfl (any_of HT_.out (by kernel_rfl)) (fun _ _ _ h=>h) (Or.inl ⟨by rfl,?_⟩) ?_ ?_
      rotate_left
      ·intro w'
       go_simp
       with_reducible rfl
      rotate_left
      ·simp only [Act.put,ls_,lz_,lc_,i64_w,i32_w]
       rfl
      refine pure_ (i:=10) (N:=some 5) (v:=?_) (a':=?_) #[T_,T_,T_,T_,T_,T_,T_,T_,T_,T_,T_] rfl rfl (any_of HT_.out (by kernel_rfl)) (fun _ _ _ h=>h) (Or.inl ⟨by rfl,?_⟩) ?_ ?_
      rotate_left
      ·intro w'
       go_simp
       with_reducible rfl
      rotate_left
      ·simp only [Act.put,ls_,lz_,lc_,i64_w,i32_w]
       rfl
      refine done_ (done_of HT_.out (by kernel_rfl)) ?_
      go_upto_region 8 with (fail)
      go_cut [35] (fun v35 wc=>∃ (kq:Nat) (x35_16:Bool),v35=.bool x35_16∧Aside0 (impl_TokensOf.j1 kq a0 y462 (⟨#[]⟩:ByteArray) (wrap64 (x6_1+t454)) x35_16 t452 t453 t454 t455 t456 t457 t460=some (r1,r2))∧Aside0 (kq≤k1)∧Aside0 (Kd.S k24 24 wc w.heap.size (fun k_=>k_≠gb461) v463 y462)∧Aside0 (wc.heap[gb461]? = some (.cells #[.int .i64 t452,.int .i64 t453,.int .i64 t454,.string t455,.string t456,(.slice Ao21 t457.length co21),.bool t460] 24 (0,0)))∧Aside0 (Below w.heap.size w wc))
      case first =>
       have H:=HC17.out
       clear HC17
       by_cases c25:t452=2
       ·rw [if_pos c25] at H
        have c25b0:(t452 == 2)=true:=beq_iff_eq.mpr c25
        have c25b1:(t452 != 2)=false:=bne_eq_false_iff_eq.mpr c25
        clear c25
        (first|rw [c25b0]|(simp only [i64_w,i32_w];rw [c25b0])|skip)
        replace H:=ob_ H
        obtain ⟨t465,A260,H⟩:=H
        replace H:(impl_TokensOf.j1 k1 a0 y462 (⟨#[]⟩:ByteArray) (wrap64 (x6_1+t454)) t465 t452 t453 t454 t455 t456 t457 t460)=some (r1,r2):=H
        have A26:=A_ A260
        clear A260
        have H':=A_ H
        clear H
        obtain ⟨hcz27_0,hcz27_1,hcz27_2,hcz27_3,hcz27_4,hcz27_5,hcz27_6,hfz27_0,hfz27_1,hfz27_2,hfz27_3,hfz27_4,hfz27_5,hfz27_6⟩:=g7_ BK461.out
        go_wp2_with (first|(go_at_call 26;(with_reducible refine (impl_IsRaw.calls k1 t455 t465 _ A26.out).mono ?_);rintro e w28 ⟨rfl,hb⟩;have n0_:=A_ (Kd.S_below (by (with_reducible repeat (first|apply Kd.S_alloc|apply Kd.S_drewN|apply Kd.S_drew));exact HO464.out) hb);have n1_:=A_ (kb_ (kq_ BK461.out) hb);have n2_:=A_ (bp_ (bq1_ HB.out GE461.out) hb);clear HO464;clear BK461;clear HB;have HO464:=n0_;have BK461:=n1_;have HB:=n2_;clear n0_ n1_ n2_;(try clear hb);(try clear hb2);(try clear hk);(try clear hi)))
        go_meet
        case rel=>exact ⟨_,(t465),rs_,H',⟨by have:=HK1.out;first|omega|exact Nat.le_refl _⟩,⟨by (with_reducible repeat (first|apply Kd.S_alloc|apply Kd.S_drewN|apply Kd.S_drew));exact HO464.out⟩,⟨kq_ BK461.out⟩,⟨bq1_ HB.out GE461.out⟩⟩
       ·rw [if_neg c25] at H
        have c25b0:(t452 == 2)=false:=beq_eq_false_iff_ne.mpr c25
        have c25b1:(t452 != 2)=true:=bne_iff_ne.mpr c25
        (first|rw [c25b0]|(simp only [i64_w,i32_w];rw [c25b0])|skip)
        have H':=A_ H
        clear H
        obtain ⟨hcz29_0,hcz29_1,hcz29_2,hcz29_3,hcz29_4,hcz29_5,hcz29_6,hfz29_0,hfz29_1,hfz29_2,hfz29_3,hfz29_4,hfz29_5,hfz29_6⟩:=g7_ BK461.out
        go_wp2
        go_meet
        case rel=>exact ⟨_,(false),rs_,H',⟨by have:=HK1.out;first|omega|exact Nat.le_refl _⟩,⟨by (with_reducible repeat (first|apply Kd.S_alloc|apply Kd.S_drewN|apply Kd.S_drew));exact HO464.out⟩,⟨kq_ BK461.out⟩,⟨bq1_ HB.out GE461.out⟩⟩
      case rest =>
       clear HC17
       try clear c1
       try clear c2
       try clear p2
       try clear c3
       try clear p6
       try clear c11
       try clear c14
       try clear c14b0
       try clear c16
       try clear c18
       try clear c21
       try clear c25
       try clear c25b0
       try clear c25b1
       try clear hcz20_0
       try clear hcz20_1
       try clear hcz20_2
       try clear hcz20_3
       try clear hcz20_4
       try clear hcz20_5
       try clear hcz20_6
       try clear hcz27_0
       try clear hcz27_1
       try clear hcz27_2
       try clear hcz27_3
       try clear hcz27_4
       try clear hcz27_5
       try clear hcz27_6
       try clear hcz29_0
       try clear hcz29_1
       try clear hcz29_2
       try clear hcz29_3
       try clear hcz29_4
       try clear hcz29_5
       try clear hcz29_6
       try clear hfz20_0
       try clear hfz20_1
       try clear hfz20_2
       try clear hfz20_3
       try clear hfz20_4
       try clear hfz20_5
       try clear hfz20_6
       try clear hfz27_0
       try clear hfz27_1
       try clear hfz27_2
       try clear hfz27_3
       try clear hfz27_4
       try clear hfz27_5
       try clear hfz27_6
       try clear hfz29_0
       try clear hfz29_1
       try clear hfz29_2
       try clear hfz29_3
       try clear hfz29_4
       try clear hfz29_5
       try clear hfz29_6
       try clear p2
       obtain ⟨kq,x35_16,rfl,HA,HJ16,HO_4,BK461,HB⟩:=hcut
       cases kq with
       | zero=>exact absurd HA.out (by simp [impl_TokensOf.j1])
       | succ kj16 =>
        have H:=HA.out
        clear HA
        simp only [impl_TokensOf.j1] at H
        by_cases c30:x35_16=true
        ·subst c30
         have H1:(if (y462.length:Int)>4096 then (some (([]:List (S24)),6)) else (impl_TokensOf.l0 kj16 a0 y462 t455 (wrap64 (x6_1+t454))))=some (r1,r2):=by rw [if_pos rfl] at H;exact H
         clear H
         have H:=H1
         clear H1
         by_cases c31:(y462.length:Int)>4096
         ·rw [if_pos c31] at H
          have c31b0:decide (4096<(y462.length:Int))=true:=dt_ c31
          have c31b1:decide (4096<y462.length)=true:=dt_ (by omega)
          clear c31
          simp only [Option.some.injEq,Prod.mk.injEq] at H
          obtain ⟨rfl,rfl⟩:=H
          obtain ⟨_,_,_,_,_,_,_,_,_,_,_,_,_,_⟩:=g7_ BK461.out
          obtain ⟨Ao33,co33,eo33⟩:=Kd.S_slice HO_4.out
          subst eo33
          go_wp2
          go_ret2
          exact ⟨_,by first|rfl|(simp [errW_none,errW_some] <;> rfl)|(simp [*,errW_none,errW_some] <;> rfl),by first|exact Kd.S_nil _ _ _ _ _|exact Kd.N_nil _ _ _ _ _|exact Kd.V_nil _ _ _ _ _|exact Kd.Q_nil _ _ _ _ _|exact Kd.R_nil _ _ _ _ _,bq1_ HB.out GE461.out⟩
         ·rw [if_neg c31] at H
          have c31b0:decide (4096<(y462.length:Int))=false:=df_ c31
          have c31b1:decide (4096<y462.length)=false:=df_ (by omega)
          clear c31
          have H':=A_ H
          clear H
          obtain ⟨_,_,_,_,_,_,_,_,_,_,_,_,_,_⟩:=g7_ BK461.out
          obtain ⟨Ao35,co35,eo35⟩:=Kd.S_slice HO_4.out
          subst eo35
          go_wp2
          go_roundg kj16
          case measure=>have:=HK1.out;have:=HJ16.out;omega
          case rel=>exact ⟨(y462),(t455),((wrap64 (x6_1+t454))),rs_,rs_,H',⟨by have:=HK1.out;have:=HJ16.out;omega⟩,⟨by (with_reducible repeat (first|apply Kd.S_alloc|apply Kd.S_drewN|apply Kd.S_drew));exact Kd.S_mono HO_4.out (fun _ hk=>trivial)⟩,⟨bq1_ HB.out GE461.out⟩⟩
        ·replace c30:=bm_ c30
         subst c30
         have H1:(if (y462.length:Int)>4096 then (some (([]:List (S24)),6)) else (impl_TokensOf.l0 kj16 a0 y462 (⟨#[]⟩:ByteArray) (wrap64 (x6_1+t454))))=some (r1,r2):=by rw [if_neg (show ¬ (false=true) by decide)] at H;exact H
         clear H
         have H:=H1
         clear H1
         by_cases c36:(y462.length:Int)>4096
         ·rw [if_pos c36] at H
          have c36b0:decide (4096<(y462.length:Int))=true:=dt_ c36
          have c36b1:decide (4096<y462.length)=true:=dt_ (by omega)
          clear c36
          simp only [Option.some.injEq,Prod.mk.injEq] at H
          obtain ⟨rfl,rfl⟩:=H
          obtain ⟨Ao37,co37,eo37⟩:=Kd.S_slice HO_4.out
          subst eo37
          go_wp2
          go_ret2
          exact ⟨_,by first|rfl|(simp [errW_none,errW_some] <;> rfl)|(simp [*,errW_none,errW_some] <;> rfl),by first|exact Kd.S_nil _ _ _ _ _|exact Kd.N_nil _ _ _ _ _|exact Kd.V_nil _ _ _ _ _|exact Kd.Q_nil _ _ _ _ _|exact Kd.R_nil _ _ _ _ _,bq1_ HB.out GE461.out⟩
         ·rw [if_neg c36] at H
          have c36b0:decide (4096<(y462.length:Int))=false:=df_ c36
          have c36b1:decide (4096<y462.length)=false:=df_ (by omega)
          clear c36
          have H':=A_ H
          clear H
          obtain ⟨Ao38,co38,eo38⟩:=Kd.S_slice HO_4.out
          subst eo38
          go_wp2
          go_roundg kj16
          case measure=>have:=HK1.out;have:=HJ16.out;omega
          case rel=>exact ⟨(y462),((⟨#[]⟩:ByteArray)),((wrap64 (x6_1+t454))),rs_,rs_,H',⟨by have:=HK1.out;have:=HJ16.out;omega⟩,⟨by (with_reducible repeat (first|apply Kd.S_alloc|apply Kd.S_drewN|apply Kd.S_drew));exact Kd.S_mono HO_4.out (fun _ hk=>trivial)⟩,⟨bq1_ HB.out GE461.out⟩⟩
     ·rw [if_neg c16] at H
      exact absurd H (by simp)
    ·rw [if_neg c14] at H
     have c14b0:decide (x6_1<(a0.size:Int))=false:=df_ c14
     clear c14
     simp only [Option.some.injEq,Prod.mk.injEq] at H
     obtain ⟨rfl,rfl⟩:=H
     go_wp2
     go_ret2
     exact ⟨_,by first|rfl|(simp [errW_none,errW_some] <;> rfl)|(simp [*,errW_none,errW_some] <;> rfl),by (with_reducible repeat (first|apply Kd.S_alloc|apply Kd.S_drewN|apply Kd.S_drew));exact HO_4.out,bq0_ HB.out⟩
def laws_eqAttr.f (a0_0:ByteArray) (a0_1:ByteArray) (a1_0:ByteArray) (a1_1:ByteArray):Option (Bool):=if a0_0.toList=a1_0.toList then (if a0_1.toList=a1_1.toList then (some true) else (some false)) else (some false)
set_option maxHeartbeats 8000000 in
set_option maxRecDepth 100000 in
theorem laws_eqAttr.calls (a0_0:ByteArray) (a0_1:ByteArray) (a1_0:ByteArray) (a1_1:ByteArray) (r:Bool) (w:World) (h:laws_eqAttr.f a0_0 a0_1 a1_0 a1_1=some r) :
 Calls Tryz.prog 47 #[.agg #[.string a0_0,.string a0_1],.agg #[.string a1_0,.string a1_1]] w fun e w'=>e=.returned (.bool r)∧Below w.heap.size w w':=by
 have hu52:=Tryz.underlying52
 have HB:=A_ (Below.refl w.heap.size w)
 have H:(if a0_0.toList=a1_0.toList then (if a0_1.toList=a1_1.toList then (some true) else (some false)) else (some false))=some r:=h
 clear h
 by_cases c3:a0_0.toList=a1_0.toList
 ·rw [if_pos c3] at H
  have c3b0:(a0_0.toList == a1_0.toList)=true:=beq_iff_eq.mpr c3
  have c3b1:(a0_0.toList != a1_0.toList)=false:=bne_eq_false_iff_eq.mpr c3
  clear c3
  by_cases c4:a0_1.toList=a1_1.toList
  ·rw [if_pos c4] at H
   have c4b0:(a0_1.toList == a1_1.toList)=true:=beq_iff_eq.mpr c4
   have c4b1:(a0_1.toList != a1_1.toList)=false:=bne_eq_false_iff_eq.mpr c4
   clear c4
   obtain rfl:=oi_ H
   go_enter Tryz.func47,Tryz.ntmps47
   go_wp2_with (first|((with_reducible refine gate_dst (N:=2) rfl ?_);refine box_event ?hg (N:=2) ?hd (cs:=#[.string a0_0,.string a0_1]) (t:=52) ?hr ?_;(case hd=>rfl);(case hg=>rfl);(case hr=>first|(go_simp;done)|(go_simp;rfl));intro gb466 hg w5 hbox hb;have n0_:=A_ (bp_ (bq0_ HB.out) hb);have n1_:=A_ (hbox);have n2_:=A_ ((by rw [hg];exact (bz_ (bq0_ HB.out)):w.heap.size≤gb466));have n3_:=A_ ((by rw [hg];exact (bz_ (bq0_ HB.out)):w.heap.size≤gb466));clear HB;have HB:=n0_;have BK466:=n1_;have GW466:=n2_;have GE466:=n3_;clear n0_ n1_ n2_ n3_;clear hb hbox hg)|((with_reducible refine gate_dst (N:=3) rfl ?_);refine box_event ?hg (N:=3) ?hd (cs:=#[.string a1_0,.string a1_1]) (t:=52) ?hr ?_;(case hd=>rfl);(case hg=>rfl);(case hr=>first|(go_simp;done)|(go_simp;rfl));intro gb467 hg w6 hbox hb;have n0_:=A_ (kb_ (kq_ BK466.out) hb);have n1_:=A_ (bp_ (bq1_ HB.out GE466.out) hb);have n2_:=A_ (hbox);have n3_:=A_ ((by rw [hg];exact (bz_ (bq1_ HB.out GE466.out)):w.heap.size≤gb467));have n4_:=A_ ((by rw [hg];exact (bz_ (bq1_ HB.out GE466.out)):w.heap.size≤gb467));have n5_:=A_ ((by rw [hg];exact Nat.ne_of_lt (blk_lt (g:=gb466) (o:=.cells #[.string a0_0,.string a0_1] 52 (0,0)) (kq_ BK466.out)):gb466≠gb467));have n6_:=A_ ((by rw [hg];exact Nat.ne_of_gt (blk_lt (g:=gb466) (o:=.cells #[.string a0_0,.string a0_1] 52 (0,0)) (kq_ BK466.out)):gb467≠gb466));clear BK466;clear HB;have BK466:=n0_;have HB:=n1_;have BK467:=n2_;have GW467:=n3_;have GE467:=n4_;have NB466_467:=n5_;have NB467_466:=n6_;clear n0_ n1_ n2_ n3_ n4_ n5_ n6_;clear hb hbox hg;have hnb7:=NB466_467.out;have hnc7:=NB467_466.out;obtain ⟨_,_,_,_⟩:=g2_ BK466.out;obtain ⟨_,_,_,_⟩:=g2_ BK467.out))
   go_ret
   exact ⟨by first|rfl|(simp [errW_none,errW_some] <;> rfl)|(simp [*,errW_none,errW_some] <;> rfl),bq2_ HB.out GE466.out GE467.out⟩
  ·rw [if_neg c4] at H
   have c4b0:(a0_1.toList == a1_1.toList)=false:=beq_eq_false_iff_ne.mpr c4
   have c4b1:(a0_1.toList != a1_1.toList)=true:=bne_iff_ne.mpr c4
   obtain rfl:=oi_ H
   go_enter Tryz.func47,Tryz.ntmps47
   go_wp2_with (first|((with_reducible refine gate_dst (N:=2) rfl ?_);refine box_event ?hg (N:=2) ?hd (cs:=#[.string a0_0,.string a0_1]) (t:=52) ?hr ?_;(case hd=>rfl);(case hg=>rfl);(case hr=>first|(go_simp;done)|(go_simp;rfl));intro gb466 hg w10 hbox hb;have n0_:=A_ (bp_ (bq0_ HB.out) hb);have n1_:=A_ (hbox);have n2_:=A_ ((by rw [hg];exact (bz_ (bq0_ HB.out)):w.heap.size≤gb466));have n3_:=A_ ((by rw [hg];exact (bz_ (bq0_ HB.out)):w.heap.size≤gb466));clear HB;have HB:=n0_;have BK466:=n1_;have GW466:=n2_;have GE466:=n3_;clear n0_ n1_ n2_ n3_;clear hb hbox hg)|((with_reducible refine gate_dst (N:=3) rfl ?_);refine box_event ?hg (N:=3) ?hd (cs:=#[.string a1_0,.string a1_1]) (t:=52) ?hr ?_;(case hd=>rfl);(case hg=>rfl);(case hr=>first|(go_simp;done)|(go_simp;rfl));intro gb467 hg w11 hbox hb;have n0_:=A_ (kb_ (kq_ BK466.out) hb);have n1_:=A_ (bp_ (bq1_ HB.out GE466.out) hb);have n2_:=A_ (hbox);have n3_:=A_ ((by rw [hg];exact (bz_ (bq1_ HB.out GE466.out)):w.heap.size≤gb467));have n4_:=A_ ((by rw [hg];exact (bz_ (bq1_ HB.out GE466.out)):w.heap.size≤gb467));have n5_:=A_ ((by rw [hg];exact Nat.ne_of_lt (blk_lt (g:=gb466) (o:=.cells #[.string a0_0,.string a0_1] 52 (0,0)) (kq_ BK466.out)):gb466≠gb467));have n6_:=A_ ((by rw [hg];exact Nat.ne_of_gt (blk_lt (g:=gb466) (o:=.cells #[.string a0_0,.string a0_1] 52 (0,0)) (kq_ BK466.out)):gb467≠gb466));clear BK466;clear HB;have BK466:=n0_;have HB:=n1_;have BK467:=n2_;have GW467:=n3_;have GE467:=n4_;have NB466_467:=n5_;have NB467_466:=n6_;clear n0_ n1_ n2_ n3_ n4_ n5_ n6_;clear hb hbox hg;have hnb12:=NB466_467.out;have hnc12:=NB467_466.out;obtain ⟨_,_,_,_⟩:=g2_ BK466.out;obtain ⟨_,_,_,_⟩:=g2_ BK467.out))
   go_ret
   exact ⟨by first|rfl|(simp [errW_none,errW_some] <;> rfl)|(simp [*,errW_none,errW_some] <;> rfl),bq2_ HB.out GE466.out GE467.out⟩
 ·rw [if_neg c3] at H
  have c3b0:(a0_0.toList == a1_0.toList)=false:=beq_eq_false_iff_ne.mpr c3
  have c3b1:(a0_0.toList != a1_0.toList)=true:=bne_iff_ne.mpr c3
  obtain rfl:=oi_ H
  go_enter Tryz.func47,Tryz.ntmps47
  go_wp2_with (first|((with_reducible refine gate_dst (N:=2) rfl ?_);refine box_event ?hg (N:=2) ?hd (cs:=#[.string a0_0,.string a0_1]) (t:=52) ?hr ?_;(case hd=>rfl);(case hg=>rfl);(case hr=>first|(go_simp;done)|(go_simp;rfl));intro gb466 hg w15 hbox hb;have n0_:=A_ (bp_ (bq0_ HB.out) hb);have n1_:=A_ (hbox);have n2_:=A_ ((by rw [hg];exact (bz_ (bq0_ HB.out)):w.heap.size≤gb466));have n3_:=A_ ((by rw [hg];exact (bz_ (bq0_ HB.out)):w.heap.size≤gb466));clear HB;have HB:=n0_;have BK466:=n1_;have GW466:=n2_;have GE466:=n3_;clear n0_ n1_ n2_ n3_;clear hb hbox hg)|((with_reducible refine gate_dst (N:=3) rfl ?_);refine box_event ?hg (N:=3) ?hd (cs:=#[.string a1_0,.string a1_1]) (t:=52) ?hr ?_;(case hd=>rfl);(case hg=>rfl);(case hr=>first|(go_simp;done)|(go_simp;rfl));intro gb467 hg w16 hbox hb;have n0_:=A_ (kb_ (kq_ BK466.out) hb);have n1_:=A_ (bp_ (bq1_ HB.out GE466.out) hb);have n2_:=A_ (hbox);have n3_:=A_ ((by rw [hg];exact (bz_ (bq1_ HB.out GE466.out)):w.heap.size≤gb467));have n4_:=A_ ((by rw [hg];exact (bz_ (bq1_ HB.out GE466.out)):w.heap.size≤gb467));have n5_:=A_ ((by rw [hg];exact Nat.ne_of_lt (blk_lt (g:=gb466) (o:=.cells #[.string a0_0,.string a0_1] 52 (0,0)) (kq_ BK466.out)):gb466≠gb467));have n6_:=A_ ((by rw [hg];exact Nat.ne_of_gt (blk_lt (g:=gb466) (o:=.cells #[.string a0_0,.string a0_1] 52 (0,0)) (kq_ BK466.out)):gb467≠gb466));clear BK466;clear HB;have BK466:=n0_;have HB:=n1_;have BK467:=n2_;have GW467:=n3_;have GE467:=n4_;have NB466_467:=n5_;have NB467_466:=n6_;clear n0_ n1_ n2_ n3_ n4_ n5_ n6_;clear hb hbox hg;have hnb17:=NB466_467.out;have hnc17:=NB467_466.out;obtain ⟨_,_,_,_⟩:=g2_ BK466.out;obtain ⟨_,_,_,_⟩:=g2_ BK467.out))
  go_ret
  exact ⟨by first|rfl|(simp [errW_none,errW_some] <;> rfl)|(simp [*,errW_none,errW_some] <;> rfl),bq2_ HB.out GE466.out GE467.out⟩
end Go.Proofs.YtfkanlbmgbkniaaGreatDoor.PFnExactTokensOf
