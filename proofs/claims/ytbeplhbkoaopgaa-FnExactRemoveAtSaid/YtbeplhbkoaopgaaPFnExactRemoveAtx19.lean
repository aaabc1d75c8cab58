/- By a program of this session, out of the kit's print and contracts made by hand: the machine side of a law; Lean checks it. No conditions. -/
import Derived.Test.YtbeplhbkoaopgaaPFnExactRemoveAtx0
import Derived.Test.YtbeplhbkoaopgaaPFnExactRemoveAtx18
namespace Go.Proofs.Ytbeplhbkoaopgaa.PFnExactRemoveAt
open Go.RowKit Go.Proofs.YtbeplhbkoaopgaaW.PrintWords Go.Proofs.YtbeplhbkoaopgaaW.PrintLast Go.Proofs.YtbeplhbkoaopgaaW.PrintMore
attribute [local go_sem] max2_int min2_int max_two min_two max_three min_three max_four min_four
set_option linter.unusedVariables false
set_option linter.unusedSimpArgs false
/-! ### spec_l03Tree: function 24 -/
def spec_l03Tree.f (k:Nat) (l0:List (S28)):Option (Bool):=(spec_l03OK.f k l0 10).bind fun bt205=>(some bt205.2)
theorem spec_l03Tree.mono:∀ a0 k,LeO (spec_l03Tree.f k a0) (spec_l03Tree.f (k+1) a0):=by
 intro a0 k
 unfold spec_l03Tree.f
 repeat' first
  | (with_reducible exact spec_l03OK.mono _ _ _)
  | (with_reducible exact LeO.refl _)
  | (with_reducible exact LeO.none _)
  | (with_reducible refine LeO.ite ?_ ?_)
  | (with_reducible refine LeO.bind ?_ (fun _=>?_))
  | exact spec_l03OK.mono _ _ _
  | exact LeO.none _
  | refine LeO.ite ?_ ?_
  | refine LeO.bind ?_ (fun _=>?_)
set_option maxHeartbeats 8000000 in
set_option maxRecDepth 100000 in
theorem spec_l03Tree.calls (k:Nat) (A0:Option Addr) (c0:Nat) (l0:List (S28)) (r:Bool) (w:World) (hr0:Kd.C k28 w A0 l0.length l0) (hc0:l0.length≤c0) (h:spec_l03Tree.f k l0=some r) :
 Calls Try.prog 24 #[.slice A0 l0.length c0] w fun e w'=>e=.returned (.bool r)∧Below w.heap.size w w':=by
 have HR0:=A_ hr0
 have HC0:=A_ hc0
 clear hr0 hc0
 have HB:=A_ (Below.refl w.heap.size w)
 have H:((spec_l03OK.f k l0 10).bind fun bt205=>(some bt205.2))=some r:=h
 clear h
 replace H:=ob_ H
 obtain ⟨⟨t205,t206⟩,A20,H⟩:=H
 replace H:(some t206)=some r:=H
 have A2:=A_ A20
 clear A20
 obtain rfl:=oi_ H
 go_enter Try.func24,Try.ntmps24
 go_wp2_with (first|((with_reducible refine gate_callee (f:=44) rfl ?_);refine goesL_ (some 7) rfl rfl Try.func44 (by kernel_rfl) rfl #[.slice A0 l0.length c0,.int .i64 10] rfl (by (try simp only [List.map_toArray,List.map_cons,List.map_nil]);first|done|rfl|(simp only [ld_,lt_];rfl)) ?_;(with_reducible refine (spec_l03OK.calls k _ _ l0 10 t205 t206 _ ?side1 ?side2 A2.out).mono ?_);(case side1=>repeat (first|exact HR0.out|(with_reducible refine ca_ ?_ _)|(with_reducible refine cn_ ?_ _)|(with_reducible refine cd_ ?_)));(case side2=>exact HC0.out);rintro e w3 ⟨rfl,hb⟩;refine ⟨_,rfl,?_⟩;have n0_:=A_ (bp_ (by repeat (first|(with_reducible first|exact HB.out|apply ba_|apply pd_|apply b1_)|exact HB.out)) hb);clear HB;have HB:=n0_;clear n0_;(try clear hb);(try clear hb2);(try clear hk);(try clear hi)))
 go_ret
 exact ⟨by first|rfl|(simp [errW_none,errW_some] <;> rfl)|(simp [*,errW_none,errW_some] <;> rfl),by repeat (first|(with_reducible first|exact HB.out|apply ba_|apply pd_|apply b1_)|exact HB.out)⟩
/-! ### spec_l09Ask: function 35 -/
def spec_l09Ask.j0:Nat→List (S28)→Bool→Option (Int)
 | 0,_,_=>none
 | k+1,x0,x12=>if x12=true then (some 2) else ((spec_l03Tree.f k x0).bind fun t207=>(if t207=true then (some 0) else (some 1)))
def spec_l09Ask.f (k:Nat) (l0:List (S28)) (l1:List Int):Option (Int):=if (l0.length:Int)>4096 then (spec_l09Ask.j0 k l0 true) else (spec_l09Ask.j0 k l0 (decide ((l1.length:Int)>4096)))
theorem spec_l09Ask.mono_l:∀ k,(∀ y0 y1,LeO (spec_l09Ask.j0 k y0 y1) (spec_l09Ask.j0 (k+1) y0 y1))
 | 0=>fun _ _ r h=>by simp [spec_l09Ask.j0] at h
 | k+1=>by
  have ih0:=spec_l09Ask.mono_l k
  ·intro y0 y1
   unfold spec_l09Ask.j0
   repeat' first
   | (with_reducible exact ih0 _ _)
   | (with_reducible exact spec_l03Tree.mono _ _)
   | (with_reducible exact LeO.refl _)
   | (with_reducible exact LeO.none _)
   | (with_reducible refine LeO.ite ?_ ?_)
   | (with_reducible refine LeO.bind ?_ (fun _=>?_))
   | exact ih0 _ _
   | exact spec_l03Tree.mono _ _
   | exact LeO.none _
   | refine LeO.ite ?_ ?_
   | refine LeO.bind ?_ (fun _=>?_)
theorem spec_l09Ask.mono:∀ a0 a1 k,LeO (spec_l09Ask.f k a0 a1) (spec_l09Ask.f (k+1) a0 a1):=by
 intro a0 a1 k
 have ih0:=spec_l09Ask.mono_l k
 unfold spec_l09Ask.f
 repeat' first
  | (with_reducible exact ih0 _ _)
  | (with_reducible exact spec_l03Tree.mono _ _)
  | (with_reducible exact LeO.refl _)
  | (with_reducible exact LeO.none _)
  | (with_reducible refine LeO.ite ?_ ?_)
  | (with_reducible refine LeO.bind ?_ (fun _=>?_))
  | exact ih0 _ _
  | exact spec_l03Tree.mono _ _
  | exact LeO.none _
  | refine LeO.ite ?_ ?_
  | refine LeO.bind ?_ (fun _=>?_)
set_option maxHeartbeats 8000000 in
set_option maxRecDepth 100000 in
theorem spec_l09Ask.calls (k:Nat) (A0:Option Addr) (c0:Nat) (l0:List (S28)) (A1:Option Addr) (c1:Nat) (l1:List Int) (r:Int) (w:World) (hr0:Kd.C k28 w A0 l0.length l0) (hc0:l0.length≤c0) (hr1:Kd.C (Kd.int .i64) w A1 l1.length l1) (hc1:l1.length≤c1) (h:spec_l09Ask.f k l0 l1=some r) :
 Calls Try.prog 35 #[.slice A0 l0.length c0,.slice A1 l1.length c1] w fun e w'=>e=.returned (.int .i64 r)∧Below w.heap.size w w':=by
 have HR0:=A_ hr0
 have HC0:=A_ hc0
 clear hr0 hc0
 have HR1:=A_ hr1
 have HC1:=A_ hc1
 clear hr1 hc1
 have HB:=A_ (Below.refl w.heap.size w)
 have H:(if (l0.length:Int)>4096 then (spec_l09Ask.j0 k l0 true) else (spec_l09Ask.j0 k l0 (decide ((l1.length:Int)>4096))))=some r:=h
 clear h
 have HC3:=A_ H
 clear H
 go_enter Try.func35,Try.ntmps35
 go_upto_region 1 with (fail)
 go_cut [12] (fun v12 wc=>∃ (kq:Nat) (x12_2:Bool),v12=.bool x12_2∧Aside0 (spec_l09Ask.j0 kq l0 x12_2=some r)∧Aside0 (kq≤k)∧Aside0 (Below w.heap.size w wc))
 case first =>
  have H:=HC3.out
  clear HC3
  by_cases c4:(l0.length:Int)>4096
  ·rw [if_pos c4] at H
   have c4b0:decide (4096<(l0.length:Int))=true:=dt_ c4
   have c4b1:decide (4096<l0.length)=true:=dt_ (by omega)
   clear c4
   (first|rw [c4b0]|(simp only [i64_w,i32_w];rw [c4b0])|skip)
   have H':=A_ H
   clear H
   go_wp2
   go_meet
   case rel=>exact ⟨_,(true),(by first|rfl|(simp;done)|(simp [*];done)),H',⟨by first|omega|exact Nat.le_refl _⟩,⟨by repeat (first|(with_reducible first|exact HB.out|apply ba_|apply pd_|apply b1_)|exact HB.out)⟩⟩
  ·rw [if_neg c4] at H
   have c4b0:decide (4096<(l0.length:Int))=false:=df_ c4
   have c4b1:decide (4096<l0.length)=false:=df_ (by omega)
   clear c4
   (first|rw [c4b0]|(simp only [i64_w,i32_w];rw [c4b0])|skip)
   have H':=A_ H
   clear H
   go_wp2
   go_meet
   case rel=>exact ⟨_,(decide ((l1.length:Int)>4096)),(by first|rfl|(simp;done)|(simp [*];done)),H',⟨by first|omega|exact Nat.le_refl _⟩,⟨by repeat (first|(with_reducible first|exact HB.out|apply ba_|apply pd_|apply b1_)|exact HB.out)⟩⟩
 case rest =>
  clear HC3
  try clear c1
  try clear p2
  try clear c3
  try clear c4
  try clear c4b0
  try clear c4b1
  obtain ⟨kq,x12_2,rfl,HA,HJ2,HB⟩:=hcut
  cases kq with
  | zero=>exact absurd HA.out (by simp [spec_l09Ask.j0])
  | succ kj2 =>
   have H:=HA.out
   clear HA
   simp only [spec_l09Ask.j0] at H
   by_cases c5:x12_2=true
   ·subst c5
    have H1:(some 2)=some r:=by rw [if_pos rfl] at H;exact H
    clear H
    have H:=H1
    clear H1
    obtain rfl:=oi_ H
    go_wp2
    go_ret
    exact ⟨by first|rfl|(simp [errW_none,errW_some] <;> rfl)|(simp [*,errW_none,errW_some] <;> rfl),by repeat (first|(with_reducible first|exact HB.out|apply ba_|apply pd_|apply b1_)|exact HB.out)⟩
   ·replace c5:=bm_ c5
    subst c5
    have H1:((spec_l03Tree.f kj2 l0).bind fun t207=>(if t207=true then (some 0) else (some 1)))=some r:=by rw [if_neg (show ¬ (false=true) by decide)] at H;exact H
    clear H
    have H:=H1
    clear H1
    replace H:=ob_ H
    obtain ⟨t207,A60,H⟩:=H
    replace H:(if t207=true then (some 0) else (some 1))=some r:=H
    have A6:=A_ A60
    clear A60
    by_cases c7:t207=true
    ·subst c7
     have H1:(some 0)=some r:=by rw [if_pos rfl] at H;exact H
     clear H
     have H:=H1
     clear H1
     obtain rfl:=oi_ H
     go_wp2_with (first|((with_reducible refine gate_callee (f:=24) rfl ?_);refine goesL_ (some 14) rfl rfl Try.func24 (by kernel_rfl) rfl #[.slice A0 l0.length c0] rfl (by (try simp only [List.map_toArray,List.map_cons,List.map_nil]);first|done|rfl|(simp only [ld_,lt_];rfl)) ?_;(with_reducible refine (spec_l03Tree.calls kj2 _ _ l0 true _ ?side1 ?side2 A6.out).mono ?_);(case side1=>repeat (first|exact (cb_ HR0.out HB.out)|(with_reducible refine ca_ ?_ _)|(with_reducible refine cn_ ?_ _)|(with_reducible refine cd_ ?_)));(case side2=>exact HC0.out);rintro e w8 ⟨rfl,hb⟩;refine ⟨_,rfl,?_⟩;have n0_:=A_ (bp_ (by repeat (first|(with_reducible first|exact HB.out|apply ba_|apply pd_|apply b1_)|exact HB.out)) hb);clear HB;have HB:=n0_;clear n0_;(try clear hb);(try clear hb2);(try clear hk);(try clear hi)))
     go_ret
     exact ⟨by first|rfl|(simp [errW_none,errW_some] <;> rfl)|(simp [*,errW_none,errW_some] <;> rfl),by repeat (first|(with_reducible first|exact HB.out|apply ba_|apply pd_|apply b1_)|exact HB.out)⟩
    ·replace c7:=bm_ c7
     subst c7
     have H1:(some 1)=some r:=by rw [if_neg (show ¬ (false=true) by decide)] at H;exact H
     clear H
     have H:=H1
     clear H1
     obtain rfl:=oi_ H
     go_wp2_with (first|((with_reducible refine gate_callee (f:=24) rfl ?_);refine goesL_ (some 14) rfl rfl Try.func24 (by kernel_rfl) rfl #[.slice A0 l0.length c0] rfl (by (try simp only [List.map_toArray,List.map_cons,List.map_nil]);first|done|rfl|(simp only [ld_,lt_];rfl)) ?_;(with_reducible refine (spec_l03Tree.calls kj2 _ _ l0 false _ ?side1 ?side2 A6.out).mono ?_);(case side1=>repeat (first|exact (cb_ HR0.out HB.out)|(with_reducible refine ca_ ?_ _)|(with_reducible refine cn_ ?_ _)|(with_reducible refine cd_ ?_)));(case side2=>exact HC0.out);rintro e w9 ⟨rfl,hb⟩;refine ⟨_,rfl,?_⟩;have n0_:=A_ (bp_ (by repeat (first|(with_reducible first|exact HB.out|apply ba_|apply pd_|apply b1_)|exact HB.out)) hb);clear HB;have HB:=n0_;clear n0_;(try clear hb);(try clear hb2);(try clear hk);(try clear hi)))
     go_ret
     exact ⟨by first|rfl|(simp [errW_none,errW_some] <;> rfl)|(simp [*,errW_none,errW_some] <;> rfl),by repeat (first|(with_reducible first|exact HB.out|apply ba_|apply pd_|apply b1_)|exact HB.out)⟩
/-! ### spec_l03Copy: function 26 -/
mutual
def spec_l03Copy.l0:Nat→List (S28)→List (S28)→Int→Option ((List (S28)))
 | 0,_,_,_=>none
 | k+1,x0,x3,x4=>if x4<(x0.length:Int) then (if 0≤x4 then ((some (([]:List (S71)):List (S71))).bind fun y213=>(if y213.length+((rd_T28 x0 x4).f4).length<4398046511104 then ((spec_l03Copy.f k ((rd_T28 x0 x4).f5)).bind fun t219=>(if x3.length<1466015503701 then (spec_l03Copy.l0 k x0 (x3++[(⟨(rd_T28 x0 x4).f0,(rd_T28 x0 x4).f1,(rd_T28 x0 x4).f2,(rd_T28 x0 x4).f3,(y213++((rd_T28 x0 x4).f4)),t219⟩:S28)]) (wrap64 (x4+1))) else (none))) else (none))) else (none)) else (some x3)
def spec_l03Copy.f:Nat→List (S28)→Option ((List (S28)))
 | 0,_=>none
 | k+1,l0=>spec_l03Copy.l0 k l0 (([]:List (S28))) 0
end
theorem spec_l03Copy.mono_l:∀ k,(∀ y0,LeO (spec_l03Copy.f k y0) (spec_l03Copy.f (k+1) y0))∧(∀ y0 y1 y2,LeO (spec_l03Copy.l0 k y0 y1 y2) (spec_l03Copy.l0 (k+1) y0 y1 y2))
 | 0=>⟨fun _ r h=>by simp [spec_l03Copy.f] at h,fun _ _ _ r h=>by simp [spec_l03Copy.l0] at h⟩
 | k+1=>by
  obtain ⟨ih0,ih1⟩:=spec_l03Copy.mono_l k
  refine ⟨?_,?_⟩
  ·intro y0
   unfold spec_l03Copy.f
   repeat' first
   | (with_reducible exact ih0 _)
   | (with_reducible exact ih1 _ _ _)
   | (with_reducible exact LeO.refl _)
   | (with_reducible exact LeO.none _)
   | (with_reducible refine LeO.ite ?_ ?_)
   | (with_reducible refine LeO.bind ?_ (fun _=>?_))
   | exact ih0 _
   | exact ih1 _ _ _
   | exact LeO.none _
   | refine LeO.ite ?_ ?_
   | refine LeO.bind ?_ (fun _=>?_)
  ·intro y0 y1 y2
   unfold spec_l03Copy.l0
   repeat' first
   | (with_reducible exact ih0 _)
   | (with_reducible exact ih1 _ _ _)
   | (with_reducible exact LeO.refl _)
   | (with_reducible exact LeO.none _)
   | (with_reducible refine LeO.ite ?_ ?_)
   | (with_reducible refine LeO.bind ?_ (fun _=>?_))
   | exact ih0 _
   | exact ih1 _ _ _
   | exact LeO.none _
   | refine LeO.ite ?_ ?_
   | refine LeO.bind ?_ (fun _=>?_)
theorem spec_l03Copy.mono:∀ a0 k,LeO (spec_l03Copy.f k a0) (spec_l03Copy.f (k+1) a0):=by
 intro a0 k
 obtain ⟨ih0,ih1⟩:=spec_l03Copy.mono_l k
 exact ih0 a0
set_option maxHeartbeats 8000000 in
set_option maxRecDepth 100000 in
theorem spec_l03Copy.calls (k:Nat):∀ (A0:Option Addr) (c0:Nat) (l0:List (S28)) (r:List (S28)) (w:World) (hr0:Kd.C k28 w A0 l0.length l0) (hc0:l0.length≤c0) (h:spec_l03Copy.f k l0=some r),
 Calls Try.prog 26 #[.slice A0 l0.length c0] w fun e w'=>∃ v0_:Value,e=.returned (v0_)∧Kd.R k28 28 w' w.heap.size (fun _=>True) v0_ r∧Below w.heap.size w w':=by
 induction k using Nat.strongRecOn with
 | _ k ih =>
 intro A0 c0 l0 r w hr0 hc0 h
 cases k with
 | zero=>exact absurd h (by simp [spec_l03Copy.f])
 | succ k =>
 simp only [spec_l03Copy.f] at h
 have hu28:=Try.underlying28
 have HR0:=A_ hr0
 have HC0:=A_ hc0
 clear hr0 hc0
 have HB:=A_ (Below.refl w.heap.size w)
 have H:(spec_l03Copy.l0 k l0 (([]:List (S28))) 0)=some r:=h
 clear h
 obtain ⟨y208,hy208⟩:∃ y_:List (S28),y_=(([]:List (S28))):=⟨_,rfl⟩
 replace H:(spec_l03Copy.l0 k l0 y208 0)=some r:=by first|(rw [hy208];with_reducible exact H)|(have H2_:=(Option.bind_some _ _).symm.trans H;rw [hy208];with_reducible exact H2_)|(have H2_:=(Option.bind_some _ _).symm.trans H;with_reducible exact H2_)|with_reducible exact H|(rw [hy208];exact H)|exact H
 have Ny208:=A_ hy208
 clear hy208
 have H':=A_ H
 clear H
 go_enter Try.func26,Try.ntmps26
 go_wp2_with (first|((with_reducible refine gate_dst (N:=6) rfl ?_);refine Kd.R_lit k28 _ 28 ?hg (N:=6) ?hd (xs:=([]:List (S28))) (inner:=[]) (ok:=fun _=>True) (okp:=fun _=>True) ?hr ?hp (fun _ hk=>hk) trivial (Below.refl _ _) (Nat.le_refl _) (by simp) ?_;(case hd=>rfl);(case hg=>rfl);(case hr=>first|(go_simp;done)|(go_simp;rfl)|(first|(go_simp;done)|(go_simp;rfl)));(case hp=>exact (Reps.none _ _));intro v209 w2 ho3 hb hg_ hnew_;clear hg_ hnew_;(first|rw [←Ny208.out] at ho3|(simp only [Int.reduceToNat] at ho3;rw [←Ny208.out] at ho3));have n0_:=A_ (Kd.R_lower ho3 (bz_ (by repeat (first|(with_reducible first|exact HB.out|apply ba_|apply pd_|apply b1_)|exact HB.out))));have n1_:=A_ (bp_ (by repeat (first|(with_reducible first|exact HB.out|apply ba_|apply pd_|apply b1_)|exact HB.out)) hb);clear HB;have HO210:=n0_;have HB:=n1_;clear n0_ n1_;clear hb ho3))
 go_loopg [3,4] k (fun kq v3 v4 w'=>∃ (x3_1:List (S28)) (x4_1:Int),v4=.int .i64 x4_1∧Aside0 (spec_l03Copy.l0 kq l0 x3_1 x4_1=some r)∧Aside0 (kq≤k)∧Aside0 (Kd.R k28 28 w' w.heap.size (fun _=>True) v3 x3_1)∧Aside0 (Below w.heap.size w w'))
 case atStart=>exact ⟨(y208),(0),(by first|rfl|(simp;done)|(simp [*];done)),H',⟨Nat.le_refl _⟩,⟨by (with_reducible repeat (first|apply Kd.R_alloc|apply Kd.R_drewN|apply Kd.R_drew));exact HO210.out⟩,⟨by repeat (first|(with_reducible first|exact HB.out|apply ba_|apply pd_|apply b1_)|exact HB.out)⟩⟩
 case round =>
  clear H'
  try clear c2
  try clear p2
  obtain ⟨x3_1,x4_1,rfl,HA,HK1,HO_3,HB⟩:=hrel
  cases gk with
  | zero=>exact absurd HA.out (by simp [spec_l03Copy.l0])
  | succ k1 =>
   have H:=HA.out
   clear HA
   simp only [spec_l03Copy.l0] at H
   by_cases c4:x4_1<(l0.length:Int)
   ·rw [if_pos c4] at H
    have c4b0:decide (x4_1<(l0.length:Int))=true:=dt_ c4
    clear c4
    by_cases c5:0≤x4_1
    ·rw [if_pos c5] at H
     have c5b0:decide (0≤x4_1)=true:=dt_ c5
     clear c5
     obtain ⟨y213,hy213⟩:∃ y_:List (S71),y_=(([]:List (S71))):=⟨_,rfl⟩
     replace H:(if y213.length+((rd_T28 l0 x4_1).f4).length<4398046511104 then ((spec_l03Copy.f k1 ((rd_T28 l0 x4_1).f5)).bind fun t219=>(if x3_1.length<1466015503701 then (spec_l03Copy.l0 k1 l0 (x3_1++[(⟨(rd_T28 l0 x4_1).f0,(rd_T28 l0 x4_1).f1,(rd_T28 l0 x4_1).f2,(rd_T28 l0 x4_1).f3,(y213++((rd_T28 l0 x4_1).f4)),t219⟩:S28)]) (wrap64 (x4_1+1))) else (none))) else (none))=some r:=by first|(rw [hy213];with_reducible exact H)|(have H2_:=(Option.bind_some _ _).symm.trans H;rw [hy213];with_reducible exact H2_)|(have H2_:=(Option.bind_some _ _).symm.trans H;with_reducible exact H2_)|with_reducible exact H|(rw [hy213];exact H)|exact H
     have Ny213:=A_ hy213
     clear hy213
     by_cases c6:y213.length+((rd_T28 l0 x4_1).f4).length<4398046511104
     ·rw [if_pos c6] at H
      have LMc6:=A_ c6
      clear c6
      obtain ⟨y216,hy216⟩:∃ y_:List (S71),y_=(y213++((rd_T28 l0 x4_1).f4)):=⟨_,rfl⟩
      replace H:((spec_l03Copy.f k1 ((rd_T28 l0 x4_1).f5)).bind fun t219=>(if x3_1.length<1466015503701 then (spec_l03Copy.l0 k1 l0 (x3_1++[(⟨(rd_T28 l0 x4_1).f0,(rd_T28 l0 x4_1).f1,(rd_T28 l0 x4_1).f2,(rd_T28 l0 x4_1).f3,y216,t219⟩:S28)]) (wrap64 (x4_1+1))) else (none)))=some r:=by first|(rw [hy216];with_reducible exact H)|(have H2_:=(Option.bind_some _ _).symm.trans H;rw [hy216];with_reducible exact H2_)|(have H2_:=(Option.bind_some _ _).symm.trans H;with_reducible exact H2_)|with_reducible exact H|(rw [hy216];exact H)|exact H
      have Ny216:=A_ hy216
      clear hy216
      replace H:=ob_ H
      obtain ⟨t219,A70,H⟩:=H
      replace H:(if x3_1.length<1466015503701 then (spec_l03Copy.l0 k1 l0 (x3_1++[(⟨(rd_T28 l0 x4_1).f0,(rd_T28 l0 x4_1).f1,(rd_T28 l0 x4_1).f2,(rd_T28 l0 x4_1).f3,y216,t219⟩:S28)]) (wrap64 (x4_1+1))) else (none))=some r:=H
      have A7:=A_ A70
      clear A70
      by_cases c8:x3_1.length<1466015503701
      ·rw [if_pos c8] at H
       have LMc8:=A_ c8
       clear c8
       obtain ⟨y222,hy222⟩:∃ y_:List (S28),y_=(x3_1++[(⟨(rd_T28 l0 x4_1).f0,(rd_T28 l0 x4_1).f1,(rd_T28 l0 x4_1).f2,(rd_T28 l0 x4_1).f3,y216,t219⟩:S28)]):=⟨_,rfl⟩
       replace H:(spec_l03Copy.l0 k1 l0 y222 (wrap64 (x4_1+1)))=some r:=by first|(rw [hy222];with_reducible exact H)|(have H2_:=(Option.bind_some _ _).symm.trans H;rw [hy222];with_reducible exact H2_)|(have H2_:=(Option.bind_some _ _).symm.trans H;with_reducible exact H2_)|with_reducible exact H|(rw [hy222];exact H)|exact H
       have Ny222:=A_ hy222
       clear hy222
       have H':=A_ H
       clear H
       have p211:0≤(x4_1:Int):=od_ (by first|(with_reducible assumption)|assumption)
       have q211:x4_1<(l0.length:Int):=od_ (by first|(with_reducible assumption)|assumption)
       obtain ⟨ad211,A211_4,c211_4,A211_5,c211_5,e211,hx211_0,hx211_1,hx211_2,hx211_3,hx211_4,hx211_5,hl211_4,hi211_4,hl211_5,hi211_5⟩:=at_T28 HR0.out x4_1 p211 q211
       cases e211
       replace hx211_0:=(HB.out.cell (bl_ w _ hx211_0)).trans hx211_0
       replace hx211_1:=(HB.out.cell (bl_ w _ hx211_1)).trans hx211_1
       replace hx211_2:=(HB.out.cell (bl_ w _ hx211_2)).trans hx211_2
       replace hx211_3:=(HB.out.cell (bl_ w _ hx211_3)).trans hx211_3
       replace hx211_4:=(HB.out.cell (bl_ w _ hx211_4)).trans hx211_4
       replace hx211_5:=(HB.out.cell (bl_ w _ hx211_5)).trans hx211_5
       have HR211_4:=A_ hi211_4
       have HC211_4:=A_ hl211_4
       clear hi211_4 hl211_4
       have HR211_5:=A_ hi211_5
       have HC211_5:=A_ hl211_5
       clear hi211_5 hl211_5
       replace p211:=eq_true p211
       replace q211:=eq_true q211
       go_wp2_with (first|((with_reducible refine gate_dst (N:=5) rfl ?_);refine box_event ?hg (N:=5) ?hd (cs:=#[.int .i64 0,.int .i64 0,.string (⟨#[]⟩:ByteArray),.string (⟨#[]⟩:ByteArray),.slice none 0 0,.slice none 0 0]) (t:=28) ?hr ?_;(case hd=>rfl);(case hg=>rfl);(case hr=>first|(go_simp;done)|(go_simp;rfl)|((first|(obtain ⟨_,_,rfl⟩:=Kd.R_slice HO210.out)|(obtain ⟨_,_,rfl⟩:=Kd.S_slice HO210.out)|skip);first|(go_simp;done)|(go_simp;rfl)));intro gb212 hg w9 hbox hb;have n0_:=A_ (Kd.R_below (Kd.R_elderB (by (with_reducible repeat (first|apply Kd.R_alloc|apply Kd.R_drewN|apply Kd.R_drew));exact HO_3.out) gb212 (Nat.le_of_eq hg.symm)) hb);have n1_:=A_ (bp_ (by repeat (first|(with_reducible first|exact HB.out|apply ba_|apply pd_|apply b1_)|exact HB.out)) hb);have n2_:=A_ (hbox);have n3_:=A_ ((by rw [hg];exact (bz_ (by repeat (first|(with_reducible first|exact HB.out|apply ba_|apply pd_|apply b1_)|exact HB.out))):w.heap.size≤gb212));have n4_:=A_ ((by rw [hg];exact (bz_ (by repeat (first|(with_reducible first|exact HB.out|apply ba_|apply pd_|apply b1_)|exact HB.out))):w.heap.size≤gb212));clear HO_3;clear HB;have HO_3:=n0_;have HB:=n1_;have BK212:=n2_;have GW212:=n3_;have GE212:=n4_;clear n0_ n1_ n2_ n3_ n4_;clear hb hbox hg;have hcz10_0:w9.cell? ⟨gb212,0,none⟩=some (.int .i64 0):=(bc_ BK212.out 0).trans rfl;have hcz10_1:w9.cell? ⟨gb212,1,none⟩=some (.int .i64 0):=(bc_ BK212.out 1).trans rfl;have hcz10_2:w9.cell? ⟨gb212,2,none⟩=some (.string (⟨#[]⟩:ByteArray)):=(bc_ BK212.out 2).trans rfl;have hcz10_3:w9.cell? ⟨gb212,3,none⟩=some (.string (⟨#[]⟩:ByteArray)):=(bc_ BK212.out 3).trans rfl;have hcz10_4:w9.cell? ⟨gb212,4,none⟩=some (.slice none 0 0):=(bc_ BK212.out 4).trans rfl;have hcz10_5:w9.cell? ⟨gb212,5,none⟩=some (.slice none 0 0):=(bc_ BK212.out 5).trans rfl;have hfz10_0:=bf_ BK212.out 0;have hfz10_1:=bf_ BK212.out 1;have hfz10_2:=bf_ BK212.out 2;have hfz10_3:=bf_ BK212.out 3;have hfz10_4:=bf_ BK212.out 4;have hfz10_5:=bf_ BK212.out 5)|((with_reducible refine gate_dst (N:=17) rfl ?_);refine Kd.R_lit k71 _ 71 ?hg (N:=17) ?hd (xs:=([]:List (S71))) (inner:=[]) (ok:=fun _=>True) (okp:=fun _=>True) ?hr ?hp (fun _ hk=>hk) trivial (Below.refl _ _) (Nat.le_refl _) (by simp) ?_;(case hd=>rfl);(case hg=>rfl);(case hr=>first|(go_simp;done)|(go_simp;rfl)|((first|(obtain ⟨_,_,rfl⟩:=Kd.R_slice HO210.out)|(obtain ⟨_,_,rfl⟩:=Kd.S_slice HO210.out)|skip);first|(go_simp;done)|(go_simp;rfl)));(case hp=>exact (Reps.none _ _));intro v214 w11 ho12 hb hg_ hnew_;clear hg_ hnew_;(first|rw [←Ny213.out] at ho12|(simp only [Int.reduceToNat] at ho12;rw [←Ny213.out] at ho12));have n0_:=A_ (Kd.R_elder' (by (with_reducible repeat (first|apply Kd.R_alloc|apply Kd.R_drewN|apply Kd.R_drew));exact (Kd.R_mono (Kd.R_far (p:=⟨gb212,5,none⟩) (Kd.R_far (p:=⟨gb212,4,none⟩) (Kd.R_far (p:=⟨gb212,3,none⟩) (Kd.R_far (p:=⟨gb212,2,none⟩) (Kd.R_far (p:=⟨gb212,1,none⟩) (Kd.R_far (p:=⟨gb212,0,none⟩) (Kd.R_mono HO_3.out (fun k_ hk=>(⟨hk,hk.2⟩:_∧k_≠gb212))) (fun _ hk=>hk.2) (.int .i64 ((rd_T28 l0 x4_1).f0))) (fun _ hk=>hk.2) (.int .i64 ((rd_T28 l0 x4_1).f1))) (fun _ hk=>hk.2) (.string ((rd_T28 l0 x4_1).f2))) (fun _ hk=>hk.2) (.string ((rd_T28 l0 x4_1).f3))) (fun _ hk=>hk.2) (.slice A211_4 ((rd_T28 l0 x4_1).f4).length c211_4)) (fun _ hk=>hk.2) (.slice A211_5 ((rd_T28 l0 x4_1).f5).length c211_5)) (fun _ h_=>h_.1))) (Kd.R_base ho12) hb);have n1_:=A_ (Kd.R_lower ho12 (bz_ (by repeat (first|(with_reducible first|exact HB.out|apply ba_|apply pd_|apply b1_|refine bs_ ?_ GE212.out)|exact HB.out))));have n2_:=A_ (kb_ (g:=gb212) (o:=.cells #[.int .i64 ((rd_T28 l0 x4_1).f0),.int .i64 ((rd_T28 l0 x4_1).f1),.string ((rd_T28 l0 x4_1).f2),.string ((rd_T28 l0 x4_1).f3),.slice A211_4 ((rd_T28 l0 x4_1).f4).length c211_4,.slice A211_5 ((rd_T28 l0 x4_1).f5).length c211_5] 28 (0,0)) (by (with_reducible repeat (first|refine kn_ ?_ _|refine kd_ ?_|refine ka_ ?_ _));refine blk_put (cs:=#[.int .i64 ((rd_T28 l0 x4_1).f0),.int .i64 ((rd_T28 l0 x4_1).f1),.string ((rd_T28 l0 x4_1).f2),.string ((rd_T28 l0 x4_1).f3),.slice A211_4 ((rd_T28 l0 x4_1).f4).length c211_4,.slice none 0 0]) ?_ 5 _ rfl;(with_reducible repeat (first|refine kn_ ?_ _|refine kd_ ?_|refine ka_ ?_ _));refine blk_put (cs:=#[.int .i64 ((rd_T28 l0 x4_1).f0),.int .i64 ((rd_T28 l0 x4_1).f1),.string ((rd_T28 l0 x4_1).f2),.string ((rd_T28 l0 x4_1).f3),.slice none 0 0,.slice none 0 0]) ?_ 4 _ rfl;(with_reducible repeat (first|refine kn_ ?_ _|refine kd_ ?_|refine ka_ ?_ _));refine blk_put (cs:=#[.int .i64 ((rd_T28 l0 x4_1).f0),.int .i64 ((rd_T28 l0 x4_1).f1),.string ((rd_T28 l0 x4_1).f2),.string (⟨#[]⟩:ByteArray),.slice none 0 0,.slice none 0 0]) ?_ 3 _ rfl;(with_reducible repeat (first|refine kn_ ?_ _|refine kd_ ?_|refine ka_ ?_ _));refine blk_put (cs:=#[.int .i64 ((rd_T28 l0 x4_1).f0),.int .i64 ((rd_T28 l0 x4_1).f1),.string (⟨#[]⟩:ByteArray),.string (⟨#[]⟩:ByteArray),.slice none 0 0,.slice none 0 0]) ?_ 2 _ rfl;(with_reducible repeat (first|refine kn_ ?_ _|refine kd_ ?_|refine ka_ ?_ _));refine blk_put (cs:=#[.int .i64 ((rd_T28 l0 x4_1).f0),.int .i64 0,.string (⟨#[]⟩:ByteArray),.string (⟨#[]⟩:ByteArray),.slice none 0 0,.slice none 0 0]) ?_ 1 _ rfl;(with_reducible repeat (first|refine kn_ ?_ _|refine kd_ ?_|refine ka_ ?_ _));refine blk_put (cs:=#[.int .i64 0,.int .i64 0,.string (⟨#[]⟩:ByteArray),.string (⟨#[]⟩:ByteArray),.slice none 0 0,.slice none 0 0]) ?_ 0 _ rfl;(with_reducible repeat (first|refine kn_ ?_ _|refine kd_ ?_|refine ka_ ?_ _));exact BK212.out) hb);have n3_:=A_ (bp_ (by repeat (first|(with_reducible first|exact HB.out|apply ba_|apply pd_|apply b1_|refine bs_ ?_ GE212.out)|exact HB.out)) hb);clear HO_3;clear BK212;clear HB;have HO_3:=n0_;have HO215:=n1_;have BK212:=n2_;have HB:=n3_;clear n0_ n1_ n2_ n3_;clear hb ho12;have hcz13_0:w11.cell? ⟨gb212,0,none⟩=some (.int .i64 ((rd_T28 l0 x4_1).f0)):=(bc_ BK212.out 0).trans rfl;have hcz13_1:w11.cell? ⟨gb212,1,none⟩=some (.int .i64 ((rd_T28 l0 x4_1).f1)):=(bc_ BK212.out 1).trans rfl;have hcz13_2:w11.cell? ⟨gb212,2,none⟩=some (.string ((rd_T28 l0 x4_1).f2)):=(bc_ BK212.out 2).trans rfl;have hcz13_3:w11.cell? ⟨gb212,3,none⟩=some (.string ((rd_T28 l0 x4_1).f3)):=(bc_ BK212.out 3).trans rfl;have hcz13_4:w11.cell? ⟨gb212,4,none⟩=some (.slice A211_4 ((rd_T28 l0 x4_1).f4).length c211_4):=(bc_ BK212.out 4).trans rfl;have hcz13_5:w11.cell? ⟨gb212,5,none⟩=some (.slice A211_5 ((rd_T28 l0 x4_1).f5).length c211_5):=(bc_ BK212.out 5).trans rfl;have hfz13_0:=bf_ BK212.out 0;have hfz13_1:=bf_ BK212.out 1;have hfz13_2:=bf_ BK212.out 2;have hfz13_3:=bf_ BK212.out 3;have hfz13_4:=bf_ BK212.out 4;have hfz13_5:=bf_ BK212.out 5)|((with_reducible refine gate_builtin (b:=.append) (xs:=#[.tmp 17,.tmp 19]) rfl ?_);at_builtin;refine Kd.R_append_rows k71 (w0:=w) w.heap.size rfl (.tmp 17) (.tmp 19) 25 71 (.agg #[(.string ⟨#[]⟩),(.string ⟨#[]⟩)]) 32 rfl Try.underlying25 info71 rfl (by decide) (by omega) v214 y213 ((rd_T28 l0 x4_1).f4) _ _ _ (fun _=>True) (fun _=>False) rfl rfl ?aO ?aR (fun _ _ h=>h) (fun _ h=>h.elim) ?aF ?aB ?aS ?aL ?_;(case aR=>repeat (first|exact (cb_ HR211_4.out HB.out)|(with_reducible refine ca_ ?_ _)|(with_reducible refine cn_ ?_ _)|(with_reducible refine cd_ ?_)));(case aB=>exact (by repeat (first|(with_reducible first|exact HB.out|apply ba_|apply pd_|apply b1_|refine bs_ ?_ GE212.out)|exact HB.out)));(case aF=>exact (fun _ _=>trivial));(case aO=>exact (by (with_reducible repeat (first|apply Kd.R_alloc|apply Kd.R_drewN|apply Kd.R_drew));exact HO215.out));(case aS=>exact (bz_ (by repeat (first|(with_reducible first|exact HB.out|apply ba_|apply pd_|apply b1_|refine bs_ ?_ GE212.out)|exact HB.out))));(case aL=>have:=LMc6.out;omega);intro v217 w14 ho hb hg hat;rw [←Ny216.out] at ho;have n0_:=A_ (Kd.R_after (ok:=(fun k_=>k_≠gb212)) (by (with_reducible repeat (first|apply Kd.R_alloc|apply Kd.R_drewN|apply Kd.R_drew));exact Kd.R_mono HO_3.out (fun _ hk=>⟨hk.1.2,hk.2⟩)) hg hat);have n1_:=A_ (blk_grown (g:=gb212) (o:=.cells #[.int .i64 ((rd_T28 l0 x4_1).f0),.int .i64 ((rd_T28 l0 x4_1).f1),.string ((rd_T28 l0 x4_1).f2),.string ((rd_T28 l0 x4_1).f3),.slice A211_4 ((rd_T28 l0 x4_1).f4).length c211_4,.slice A211_5 ((rd_T28 l0 x4_1).f5).length c211_5] 28 (0,0)) (by (with_reducible repeat (first|refine kn_ ?_ _|refine kd_ ?_|refine ka_ ?_ _));exact BK212.out) hg (Kd.R_ne HO215.out BK212.out (by decide)));have n2_:=A_ (hb);have n3_:=A_ (ho);clear HO_3;clear BK212;clear HB;clear HO215;have HO_3:=n0_;have BK212:=n1_;have HB:=n2_;have HO218:=n3_;clear n0_ n1_ n2_ n3_;clear ho hb hg hat;obtain ⟨Ao15,co15,eo15⟩:=Kd.R_slice HO218.out;subst eo15;have hcz16_0:w14.cell? ⟨gb212,0,none⟩=some (.int .i64 ((rd_T28 l0 x4_1).f0)):=(bc_ BK212.out 0).trans rfl;have hcz16_1:w14.cell? ⟨gb212,1,none⟩=some (.int .i64 ((rd_T28 l0 x4_1).f1)):=(bc_ BK212.out 1).trans rfl;have hcz16_2:w14.cell? ⟨gb212,2,none⟩=some (.string ((rd_T28 l0 x4_1).f2)):=(bc_ BK212.out 2).trans rfl;have hcz16_3:w14.cell? ⟨gb212,3,none⟩=some (.string ((rd_T28 l0 x4_1).f3)):=(bc_ BK212.out 3).trans rfl;have hcz16_4:w14.cell? ⟨gb212,4,none⟩=some (.slice A211_4 ((rd_T28 l0 x4_1).f4).length c211_4):=(bc_ BK212.out 4).trans rfl;have hcz16_5:w14.cell? ⟨gb212,5,none⟩=some (.slice A211_5 ((rd_T28 l0 x4_1).f5).length c211_5):=(bc_ BK212.out 5).trans rfl;have hfz16_0:=bf_ BK212.out 0;have hfz16_1:=bf_ BK212.out 1;have hfz16_2:=bf_ BK212.out 2;have hfz16_3:=bf_ BK212.out 3;have hfz16_4:=bf_ BK212.out 4;have hfz16_5:=bf_ BK212.out 5)|((with_reducible refine gate_callee (f:=26) rfl ?_);refine goesL_ (some 24) rfl rfl Try.func26 (by kernel_rfl) rfl #[.slice A211_5 ((rd_T28 l0 x4_1).f5).length c211_5] rfl (by (try simp only [List.map_toArray,List.map_cons,List.map_nil]);first|done|rfl|(simp only [ld_,lt_];rfl)) ?_;(with_reducible refine (ih k1 (by have:=HK1.out;omega) _ _ ((rd_T28 l0 x4_1).f5) t219 _ ?side1 ?side2 A7.out).mono ?_);(case side1=>exact cb_ HR211_5.out (by repeat (first|(with_reducible first|exact HB.out|apply ba_|apply pd_|apply b1_|refine bs_ ?_ GE212.out)|exact HB.out)));(case side2=>exact HC211_5.out);rintro e w17 ⟨v220,rfl,ho0,hb⟩;refine ⟨_,rfl,?_⟩;have n0_:=A_ (Kd.R_elder' (by (with_reducible repeat (first|apply Kd.R_alloc|apply Kd.R_drewN|apply Kd.R_drew));exact (Kd.R_mono (Kd.R_far (p:=⟨gb212,4,none⟩) (Kd.R_mono HO_3.out (fun k_ hk=>(⟨hk,hk.1⟩:_∧k_≠gb212))) (fun _ hk=>hk.2) (.slice Ao15 y216.length co15)) (fun _ h_=>h_.1))) (Kd.R_base ho0) hb);have n1_:=A_ (Kd.R_below (by (with_reducible repeat (first|apply Kd.R_alloc|apply Kd.R_drewN|apply Kd.R_drew));exact (Kd.R_mono (Kd.R_far (p:=⟨gb212,4,none⟩) (Kd.R_types HO218.out BK212.out (by decide)) (fun _ hk=>hk.2) (.slice Ao15 y216.length co15)) (fun _ h_=>h_.1))) hb);have n2_:=A_ (Kd.R_lower (Kd.R_newB (Kd.R_new' (Kd.R_new' ho0 (Kd.R_lt (by (with_reducible repeat (first|apply Kd.R_alloc|apply Kd.R_drewN|apply Kd.R_drew));exact (Kd.R_mono (Kd.R_far (p:=⟨gb212,4,none⟩) (Kd.R_mono HO_3.out (fun k_ hk=>(⟨hk,hk.1⟩:_∧k_≠gb212))) (fun _ hk=>hk.2) (.slice Ao15 y216.length co15)) (fun _ h_=>h_.1))))) (Kd.R_lt (by (with_reducible repeat (first|apply Kd.R_alloc|apply Kd.R_drewN|apply Kd.R_drew));exact (Kd.R_mono (Kd.R_far (p:=⟨gb212,4,none⟩) (Kd.R_types HO218.out BK212.out (by decide)) (fun _ hk=>hk.2) (.slice Ao15 y216.length co15)) (fun _ h_=>h_.1))))) (g:=gb212) (o:=.cells #[.int .i64 ((rd_T28 l0 x4_1).f0),.int .i64 ((rd_T28 l0 x4_1).f1),.string ((rd_T28 l0 x4_1).f2),.string ((rd_T28 l0 x4_1).f3),.slice Ao15 y216.length co15,.slice A211_5 ((rd_T28 l0 x4_1).f5).length c211_5] 28 (0,0)) (by (with_reducible repeat (first|refine kn_ ?_ _|refine kd_ ?_|refine ka_ ?_ _));refine blk_put (cs:=#[.int .i64 ((rd_T28 l0 x4_1).f0),.int .i64 ((rd_T28 l0 x4_1).f1),.string ((rd_T28 l0 x4_1).f2),.string ((rd_T28 l0 x4_1).f3),.slice A211_4 ((rd_T28 l0 x4_1).f4).length c211_4,.slice A211_5 ((rd_T28 l0 x4_1).f5).length c211_5]) ?_ 4 _ rfl;(with_reducible repeat (first|refine kn_ ?_ _|refine kd_ ?_|refine ka_ ?_ _));exact BK212.out)) (bz_ (by repeat (first|(with_reducible first|exact HB.out|apply ba_|apply pd_|apply b1_|refine bs_ ?_ GE212.out)|exact HB.out))));have n3_:=A_ (kb_ (g:=gb212) (o:=.cells #[.int .i64 ((rd_T28 l0 x4_1).f0),.int .i64 ((rd_T28 l0 x4_1).f1),.string ((rd_T28 l0 x4_1).f2),.string ((rd_T28 l0 x4_1).f3),.slice Ao15 y216.length co15,.slice A211_5 ((rd_T28 l0 x4_1).f5).length c211_5] 28 (0,0)) (by (with_reducible repeat (first|refine kn_ ?_ _|refine kd_ ?_|refine ka_ ?_ _));refine blk_put (cs:=#[.int .i64 ((rd_T28 l0 x4_1).f0),.int .i64 ((rd_T28 l0 x4_1).f1),.string ((rd_T28 l0 x4_1).f2),.string ((rd_T28 l0 x4_1).f3),.slice A211_4 ((rd_T28 l0 x4_1).f4).length c211_4,.slice A211_5 ((rd_T28 l0 x4_1).f5).length c211_5]) ?_ 4 _ rfl;(with_reducible repeat (first|refine kn_ ?_ _|refine kd_ ?_|refine ka_ ?_ _));exact BK212.out) hb);have n4_:=A_ (bp_ (by repeat (first|(with_reducible first|exact HB.out|apply ba_|apply pd_|apply b1_|refine bs_ ?_ GE212.out)|exact HB.out)) hb);clear HO_3;clear HO218;clear BK212;clear HB;have HO_3:=n0_;have HO218:=n1_;have HO221:=n2_;have BK212:=n3_;have HB:=n4_;clear n0_ n1_ n2_ n3_ n4_;(try clear hb);(try clear hb2);(try clear hk);(try clear hi);(try clear ho0);obtain ⟨Ao18,co18,eo18⟩:=Kd.R_slice HO221.out;subst eo18;have hcz19_0:w17.cell? ⟨gb212,0,none⟩=some (.int .i64 ((rd_T28 l0 x4_1).f0)):=(bc_ BK212.out 0).trans rfl;have hcz19_1:w17.cell? ⟨gb212,1,none⟩=some (.int .i64 ((rd_T28 l0 x4_1).f1)):=(bc_ BK212.out 1).trans rfl;have hcz19_2:w17.cell? ⟨gb212,2,none⟩=some (.string ((rd_T28 l0 x4_1).f2)):=(bc_ BK212.out 2).trans rfl;have hcz19_3:w17.cell? ⟨gb212,3,none⟩=some (.string ((rd_T28 l0 x4_1).f3)):=(bc_ BK212.out 3).trans rfl;have hcz19_4:w17.cell? ⟨gb212,4,none⟩=some (.slice Ao15 y216.length co15):=(bc_ BK212.out 4).trans rfl;have hcz19_5:w17.cell? ⟨gb212,5,none⟩=some (.slice A211_5 ((rd_T28 l0 x4_1).f5).length c211_5):=(bc_ BK212.out 5).trans rfl;have hfz19_0:=bf_ BK212.out 0;have hfz19_1:=bf_ BK212.out 1;have hfz19_2:=bf_ BK212.out 2;have hfz19_3:=bf_ BK212.out 3;have hfz19_4:=bf_ BK212.out 4;have hfz19_5:=bf_ BK212.out 5)|((with_reducible refine gate_store (t:=26) (p:=25) rfl ?_);refine store_event (t:=26) (p:=25) (v:=?vo_w20) (w1:=(w17.setCell ⟨gb212,5,none⟩ (.slice Ao18 t219.length co18))) ?hg ?ho ?hn ?hr ?_;(case ho=>rfl);(case hg=>rfl);(case hn=>rfl);(case hr=>first|(go_simp;done)|(go_simp;rfl)|((first|(obtain ⟨_,_,rfl⟩:=Kd.R_slice HO210.out)|(obtain ⟨_,_,rfl⟩:=Kd.S_slice HO210.out)|skip);(first|(obtain ⟨_,_,rfl⟩:=Kd.R_slice HO215.out)|(obtain ⟨_,_,rfl⟩:=Kd.S_slice HO215.out)|skip);(first|(obtain ⟨_,_,rfl⟩:=Kd.R_slice HO218.out)|(obtain ⟨_,_,rfl⟩:=Kd.S_slice HO218.out)|skip);(first|(obtain ⟨_,_,rfl⟩:=Kd.R_slice HO221.out)|(obtain ⟨_,_,rfl⟩:=Kd.S_slice HO221.out)|skip);first|(go_simp;done)|(go_simp;rfl)));intro w20 hw;have n0_:Aside0 (Kd.R k28 28 w20 w.heap.size (fun k_=>some k_≠(.slice Ao15 y216.length co15:Value).ownBlock∧some k_≠(.slice Ao18 t219.length co18:Value).ownBlock∧k_≠gb212) u3 x3_1):=⟨(by rw [hw];exact (by (with_reducible repeat (first|apply Kd.R_alloc|apply Kd.R_drewN|apply Kd.R_drew));exact Kd.R_mono (Kd.R_far (p:=⟨gb212,5,none⟩) (Kd.R_mono HO_3.out (fun k_ hk=>(⟨hk,hk.1.1⟩:_∧k_≠gb212))) (fun _ hk=>hk.2) (.slice Ao18 t219.length co18)) (fun _ hk=>⟨hk.1.1.2,⟨hk.1.2,hk.1.1.1⟩⟩)))⟩;have n1_:Aside0 (Kd.R k71 71 w20 w.heap.size (fun _=>True) (.slice Ao15 y216.length co15) y216):=⟨(by rw [hw];exact (by (with_reducible repeat (first|apply Kd.R_alloc|apply Kd.R_drewN|apply Kd.R_drew));exact Kd.R_mono (Kd.R_far (p:=⟨gb212,5,none⟩) (Kd.R_types HO218.out BK212.out (by decide)) (fun _ hk=>hk.2) (.slice Ao18 t219.length co18)) (fun _ hk=>trivial)))⟩;have n2_:Aside0 (Kd.R k28 28 w20 w.heap.size (fun k_=>some k_≠(u3:Value).ownBlock∧some k_≠(.slice Ao15 y216.length co15:Value).ownBlock∧k_≠gb212) (.slice Ao18 t219.length co18) t219):=⟨(by rw [hw];exact (by (with_reducible repeat (first|apply Kd.R_alloc|apply Kd.R_drewN|apply Kd.R_drew));exact Kd.R_mono (Kd.R_far (p:=⟨gb212,5,none⟩) (Kd.R_mono HO221.out (fun k_ hk=>(⟨hk,hk.2⟩:_∧k_≠gb212))) (fun _ hk=>hk.2) (.slice Ao18 t219.length co18)) (fun _ hk=>⟨hk.1.1.1.2,⟨hk.1.1.2,hk.1.2⟩⟩)))⟩;have n3_:Aside0 (w20.heap[gb212]? = some (.cells #[.int .i64 ((rd_T28 l0 x4_1).f0),.int .i64 ((rd_T28 l0 x4_1).f1),.string ((rd_T28 l0 x4_1).f2),.string ((rd_T28 l0 x4_1).f3),.slice Ao15 y216.length co15,.slice Ao18 t219.length co18] 28 (0,0))):=⟨(by rw [hw];exact (by (with_reducible repeat (first|refine kn_ ?_ _|refine kd_ ?_|refine ka_ ?_ _));refine blk_put (cs:=#[.int .i64 ((rd_T28 l0 x4_1).f0),.int .i64 ((rd_T28 l0 x4_1).f1),.string ((rd_T28 l0 x4_1).f2),.string ((rd_T28 l0 x4_1).f3),.slice Ao15 y216.length co15,.slice A211_5 ((rd_T28 l0 x4_1).f5).length c211_5]) ?_ 5 _ rfl;(with_reducible repeat (first|refine kn_ ?_ _|refine kd_ ?_|refine ka_ ?_ _));exact BK212.out))⟩;have n4_:Aside0 (Below w.heap.size w w20):=⟨(by rw [hw];exact (by repeat (first|(with_reducible first|exact HB.out|apply ba_|apply pd_|apply b1_|refine bs_ ?_ GE212.out)|exact HB.out)))⟩;clear hw;clear HO_3;clear HO218;clear HO221;clear BK212;clear HB;have HO_3:=n0_;have HO218:=n1_;have HO221:=n2_;have BK212:=n3_;have HB:=n4_;clear n0_ n1_ n2_ n3_ n4_;have hcz21_0:w20.cell? ⟨gb212,0,none⟩=some (.int .i64 ((rd_T28 l0 x4_1).f0)):=(bc_ BK212.out 0).trans rfl;have hcz21_1:w20.cell? ⟨gb212,1,none⟩=some (.int .i64 ((rd_T28 l0 x4_1).f1)):=(bc_ BK212.out 1).trans rfl;have hcz21_2:w20.cell? ⟨gb212,2,none⟩=some (.string ((rd_T28 l0 x4_1).f2)):=(bc_ BK212.out 2).trans rfl;have hcz21_3:w20.cell? ⟨gb212,3,none⟩=some (.string ((rd_T28 l0 x4_1).f3)):=(bc_ BK212.out 3).trans rfl;have hcz21_4:w20.cell? ⟨gb212,4,none⟩=some (.slice Ao15 y216.length co15):=(bc_ BK212.out 4).trans rfl;have hcz21_5:w20.cell? ⟨gb212,5,none⟩=some (.slice Ao18 t219.length co18):=(bc_ BK212.out 5).trans rfl;have hfz21_0:=bf_ BK212.out 0;have hfz21_1:=bf_ BK212.out 1;have hfz21_2:=bf_ BK212.out 2;have hfz21_3:=bf_ BK212.out 3;have hfz21_4:=bf_ BK212.out 4;have hfz21_5:=bf_ BK212.out 5)|((with_reducible refine gate_builtin (b:=.append) (xs:=#[.tmp 26,.tmp 28]) rfl ?_);at_builtin;refine Kd.R_append k28 (w0:=w) w.heap.size rfl (.tmp 26) (.tmp 28) 26 28 (.agg #[(.int .i64 0),(.int .i64 0),(.string ⟨#[]⟩),(.string ⟨#[]⟩),(.slice none 0 0),(.slice none 0 0)]) 96 rfl Try.underlying26 info28 rfl (by decide) (by omega) u3 x3_1 (⟨(rd_T28 l0 x4_1).f0,(rd_T28 l0 x4_1).f1,(rd_T28 l0 x4_1).f2,(rd_T28 l0 x4_1).f3,y216,t219⟩:S28) [.int .i64 ((rd_T28 l0 x4_1).f0),.int .i64 ((rd_T28 l0 x4_1).f1),.string ((rd_T28 l0 x4_1).f2),.string ((rd_T28 l0 x4_1).f3),.slice Ao15 y216.length co15,.slice Ao18 t219.length co18] (fun k_=>k_≠gb212) (fun k_=>((fun k_=>k_≠gb212)) k_∧some k_≠(u3:Value).ownBlock) rfl rfl ?aP (fun _ hk=>hk) ?aF ?aO ?aB ?aS ?aL ?_;(case aP=>exact k28_mkM _ _ _ (⟨(rd_T28 l0 x4_1).f0,(rd_T28 l0 x4_1).f1,(rd_T28 l0 x4_1).f2,(rd_T28 l0 x4_1).f3,y216,t219⟩:S28) (Kd.R_mono (Kd.R_types (Kd.R_apart' (HO218.out) (Kd.R_typed HO_3.out) (by decide)) BK212.out (by decide)) (fun k_ hk=>⟨hk.2,hk.1.2⟩)) (Kd.R_mono (HO221.out) (fun k_ hk=>⟨hk.2.2,hk.1⟩)));(case aB=>exact (by repeat (first|(with_reducible first|exact HB.out|apply ba_|apply pd_|apply b1_|refine bs_ ?_ GE212.out)|exact HB.out)));(case aF=>exact (fun k_ hk=>Kd.freshB (g:=gb212) (o:=.cells #[.int .i64 ((rd_T28 l0 x4_1).f0),.int .i64 ((rd_T28 l0 x4_1).f1),.string ((rd_T28 l0 x4_1).f2),.string ((rd_T28 l0 x4_1).f3),.slice Ao15 y216.length co15,.slice Ao18 t219.length co18] 28 (0,0)) (by (with_reducible repeat (first|refine kn_ ?_ _|refine kd_ ?_|refine ka_ ?_ _));exact BK212.out) k_ hk));(case aO=>exact (by (with_reducible repeat (first|apply Kd.R_alloc|apply Kd.R_drewN|apply Kd.R_drew));exact Kd.R_mono HO_3.out (fun _ hk=>hk.2.2)));(case aS=>exact (bz_ (by repeat (first|(with_reducible first|exact HB.out|apply ba_|apply pd_|apply b1_|refine bs_ ?_ GE212.out)|exact HB.out))));(case aL=>have:=LMc8.out;omega);intro v223 w22 ho hb hg hat;rw [←Ny222.out] at ho;have n0_:=A_ (blk_grown (g:=gb212) (o:=.cells #[.int .i64 ((rd_T28 l0 x4_1).f0),.int .i64 ((rd_T28 l0 x4_1).f1),.string ((rd_T28 l0 x4_1).f2),.string ((rd_T28 l0 x4_1).f3),.slice Ao15 y216.length co15,.slice Ao18 t219.length co18] 28 (0,0)) (by (with_reducible repeat (first|refine kn_ ?_ _|refine kd_ ?_|refine ka_ ?_ _));exact BK212.out) hg (Kd.R_away HO_3.out (fun _ hk=>hk.2.2)));have n1_:=A_ (hb);have n2_:=A_ (ho);clear BK212;clear HB;clear HO_3;clear HO218;clear HO221;have BK212:=n0_;have HB:=n1_;have HO224:=n2_;clear n0_ n1_ n2_;clear ho hb hg hat))
       go_roundg k1
       case measure=>have:=HK1.out;omega
       case rel=>exact ⟨(y222),(wrap64 (x4_1+1)),(by first|rfl|(simp;done)|(simp [*];done)),H',⟨by have:=HK1.out;omega⟩,⟨by (with_reducible repeat (first|apply Kd.R_alloc|apply Kd.R_drewN|apply Kd.R_drew));exact Kd.R_mono HO224.out (fun _ hk=>trivial)⟩,⟨by repeat (first|(with_reducible first|exact HB.out|apply ba_|apply pd_|apply b1_|refine bs_ ?_ GE212.out)|exact HB.out)⟩⟩
      ·rw [if_neg c8] at H
       exact absurd H (by simp)
     ·rw [if_neg c6] at H
      exact absurd H (by simp)
    ·rw [if_neg c5] at H
     exact absurd H (by simp)
   ·rw [if_neg c4] at H
    have c4b0:decide (x4_1<(l0.length:Int))=false:=df_ c4
    clear c4
    obtain rfl:=oi_ H
    go_wp2
    go_ret
    exact ⟨_,by first|rfl|(simp [errW_none,errW_some] <;> rfl)|(simp [*,errW_none,errW_some] <;> rfl),by (with_reducible repeat (first|apply Kd.R_alloc|apply Kd.R_drewN|apply Kd.R_drew));exact HO_3.out,by repeat (first|(with_reducible first|exact HB.out|apply ba_|apply pd_|apply b1_)|exact HB.out)⟩
/-! ### spec_l09Done: function 36 -/
def spec_l09Done.f (k:Nat) (l0:List (S28)):Option ((List (S28)) × Int):=(spec_l03Tree.f k l0).bind fun t225=>(if t225=true then ((spec_l03Copy.f k l0).bind fun t226=>(some (t226,0))) else (some ((([]:List (S28))),7)))
theorem spec_l09Done.mono:∀ a0 k,LeO (spec_l09Done.f k a0) (spec_l09Done.f (k+1) a0):=by
 intro a0 k
 unfold spec_l09Done.f
 repeat' first
  | (with_reducible exact spec_l03Copy.mono _ _)
  | (with_reducible exact spec_l03Tree.mono _ _)
  | (with_reducible exact LeO.refl _)
  | (with_reducible exact LeO.none _)
  | (with_reducible refine LeO.ite ?_ ?_)
  | (with_reducible refine LeO.bind ?_ (fun _=>?_))
  | exact spec_l03Copy.mono _ _
  | exact spec_l03Tree.mono _ _
  | exact LeO.none _
  | refine LeO.ite ?_ ?_
  | refine LeO.bind ?_ (fun _=>?_)
set_option maxHeartbeats 8000000 in
set_option maxRecDepth 100000 in
theorem spec_l09Done.calls (k:Nat) (A0:Option Addr) (c0:Nat) (l0:List (S28)) (r1:List (S28)) (r2:Int) (w:World) (hr0:Kd.C k28 w A0 l0.length l0) (hc0:l0.length≤c0) (h:spec_l09Done.f k l0=some (r1,r2)) :
 Calls Try.prog 36 #[.slice A0 l0.length c0] w fun e w'=>∃ v0_:Value,e=.returned (.tuple #[v0_,.int .i64 r2])∧Kd.R k28 28 w' w.heap.size (fun _=>True) v0_ r1∧Below w.heap.size w w':=by
 have HR0:=A_ hr0
 have HC0:=A_ hc0
 clear hr0 hc0
 have HB:=A_ (Below.refl w.heap.size w)
 have H:((spec_l03Tree.f k l0).bind fun t225=>(if t225=true then ((spec_l03Copy.f k l0).bind fun t226=>(some (t226,0))) else (some ((([]:List (S28))),7))))=some (r1,r2):=h
 clear h
 replace H:=ob_ H
 obtain ⟨t225,A20,H⟩:=H
 replace H:(if t225=true then ((spec_l03Copy.f k l0).bind fun t226=>(some (t226,0))) else (some ((([]:List (S28))),7)))=some (r1,r2):=H
 have A2:=A_ A20
 clear A20
 by_cases c3:t225=true
 ·subst c3
  have H1:((spec_l03Copy.f k l0).bind fun t226=>(some (t226,0)))=some (r1,r2):=by rw [if_pos rfl] at H;exact H
  clear H
  have H:=H1
  clear H1
  replace H:=ob_ H
  obtain ⟨t226,A40,H⟩:=H
  replace H:(some (t226,0))=some (r1,r2):=H
  have A4:=A_ A40
  clear A40
  simp only [Option.some.injEq,Prod.mk.injEq] at H
  obtain ⟨rfl,rfl⟩:=H
  go_enter Try.func36,Try.ntmps36
  go_wp2_with (first|((with_reducible refine gate_callee (f:=24) rfl ?_);refine goesL_ (some 5) rfl rfl Try.func24 (by kernel_rfl) rfl #[.slice A0 l0.length c0] rfl (by (try simp only [List.map_toArray,List.map_cons,List.map_nil]);first|done|rfl|(simp only [ld_,lt_];rfl)) ?_;(with_reducible refine (spec_l03Tree.calls k _ _ l0 true _ ?side1 ?side2 A2.out).mono ?_);(case side1=>repeat (first|exact HR0.out|(with_reducible refine ca_ ?_ _)|(with_reducible refine cn_ ?_ _)|(with_reducible refine cd_ ?_)));(case side2=>exact HC0.out);rintro e w5 ⟨rfl,hb⟩;refine ⟨_,rfl,?_⟩;have n0_:=A_ (bp_ (by repeat (first|(with_reducible first|exact HB.out|apply ba_|apply pd_|apply b1_)|exact HB.out)) hb);clear HB;have HB:=n0_;clear n0_;(try clear hb);(try clear hb2);(try clear hk);(try clear hi))|((with_reducible refine gate_callee (f:=26) rfl ?_);refine goesL_ (some 9) rfl rfl Try.func26 (by kernel_rfl) rfl #[.slice A0 l0.length c0] rfl (by (try simp only [List.map_toArray,List.map_cons,List.map_nil]);first|done|rfl|(simp only [ld_,lt_];rfl)) ?_;(with_reducible refine (spec_l03Copy.calls k _ _ l0 t226 _ ?side1 ?side2 A4.out).mono ?_);(case side1=>repeat (first|exact (cb_ HR0.out HB.out)|(with_reducible refine ca_ ?_ _)|(with_reducible refine cn_ ?_ _)|(with_reducible refine cd_ ?_)));(case side2=>exact HC0.out);rintro e w6 ⟨v227,rfl,ho0,hb⟩;refine ⟨_,rfl,?_⟩;have n0_:=A_ (Kd.R_lower ho0 (bz_ (by repeat (first|(with_reducible first|exact HB.out|apply ba_|apply pd_|apply b1_)|exact HB.out))));have n1_:=A_ (bp_ (by repeat (first|(with_reducible first|exact HB.out|apply ba_|apply pd_|apply b1_)|exact HB.out)) hb);clear HB;have HO228:=n0_;have HB:=n1_;clear n0_ n1_;(try clear hb);(try clear hb2);(try clear hk);(try clear hi);(try clear ho0)))
  go_ret2
  exact ⟨_,by first|rfl|(simp [errW_none,errW_some] <;> rfl)|(simp [*,errW_none,errW_some] <;> rfl),by (with_reducible repeat (first|apply Kd.R_alloc|apply Kd.R_drewN|apply Kd.R_drew));exact HO228.out,by repeat (first|(with_reducible first|exact HB.out|apply ba_|apply pd_|apply b1_)|exact HB.out)⟩
 ·replace c3:=bm_ c3
  subst c3
  have H1:(some ((([]:List (S28))),7))=some (r1,r2):=by rw [if_neg (show ¬ (false=true) by decide)] at H;exact H
  clear H
  have H:=H1
  clear H1
  obtain ⟨y229,hy229⟩:∃ y_:List (S28),y_=(([]:List (S28))):=⟨_,rfl⟩
  replace H:(some (y229,7))=some (r1,r2):=by first|(rw [hy229];with_reducible exact H)|(have H2_:=(Option.bind_some _ _).symm.trans H;rw [hy229];with_reducible exact H2_)|(have H2_:=(Option.bind_some _ _).symm.trans H;with_reducible exact H2_)|with_reducible exact H|(rw [hy229];exact H)|exact H
  have Ny229:=A_ hy229
  clear hy229
  simp only [Option.some.injEq,Prod.mk.injEq] at H
  obtain ⟨rfl,rfl⟩:=H
  go_enter Try.func36,Try.ntmps36
  go_wp2_with (first|((with_reducible refine gate_callee (f:=24) rfl ?_);refine goesL_ (some 5) rfl rfl Try.func24 (by kernel_rfl) rfl #[.slice A0 l0.length c0] rfl (by (try simp only [List.map_toArray,List.map_cons,List.map_nil]);first|done|rfl|(simp only [ld_,lt_];rfl)) ?_;(with_reducible refine (spec_l03Tree.calls k _ _ l0 false _ ?side1 ?side2 A2.out).mono ?_);(case side1=>repeat (first|exact HR0.out|(with_reducible refine ca_ ?_ _)|(with_reducible refine cn_ ?_ _)|(with_reducible refine cd_ ?_)));(case side2=>exact HC0.out);rintro e w7 ⟨rfl,hb⟩;refine ⟨_,rfl,?_⟩;have n0_:=A_ (bp_ (by repeat (first|(with_reducible first|exact HB.out|apply ba_|apply pd_|apply b1_)|exact HB.out)) hb);clear HB;have HB:=n0_;clear n0_;(try clear hb);(try clear hb2);(try clear hk);(try clear hi))|((with_reducible refine gate_dst (N:=7) rfl ?_);refine Kd.R_lit k28 _ 28 ?hg (N:=7) ?hd (xs:=([]:List (S28))) (inner:=[]) (ok:=fun _=>True) (okp:=fun _=>True) ?hr ?hp (fun _ hk=>hk) trivial (Below.refl _ _) (Nat.le_refl _) (by simp) ?_;(case hd=>rfl);(case hg=>rfl);(case hr=>first|(go_simp;done)|(go_simp;rfl)|((first|(obtain ⟨_,_,rfl⟩:=Kd.R_slice HO228.out)|(obtain ⟨_,_,rfl⟩:=Kd.S_slice HO228.out)|skip);first|(go_simp;done)|(go_simp;rfl)));(case hp=>exact (Reps.none _ _));intro v230 w8 ho9 hb hg_ hnew_;clear hg_ hnew_;(first|rw [←Ny229.out] at ho9|(simp only [Int.reduceToNat] at ho9;rw [←Ny229.out] at ho9));have n0_:=A_ (Kd.R_lower ho9 (bz_ (by repeat (first|(with_reducible first|exact HB.out|apply ba_|apply pd_|apply b1_)|exact HB.out))));have n1_:=A_ (bp_ (by repeat (first|(with_reducible first|exact HB.out|apply ba_|apply pd_|apply b1_)|exact HB.out)) hb);clear HB;have HO231:=n0_;have HB:=n1_;clear n0_ n1_;clear hb ho9))
  go_ret2
  exact ⟨_,by first|rfl|(simp [errW_none,errW_some] <;> rfl)|(simp [*,errW_none,errW_some] <;> rfl),by (with_reducible repeat (first|apply Kd.R_alloc|apply Kd.R_drewN|apply Kd.R_drew));exact HO231.out,by repeat (first|(with_reducible first|exact HB.out|apply ba_|apply pd_|apply b1_)|exact HB.out)⟩
end Go.Proofs.Ytbeplhbkoaopgaa.PFnExactRemoveAt
