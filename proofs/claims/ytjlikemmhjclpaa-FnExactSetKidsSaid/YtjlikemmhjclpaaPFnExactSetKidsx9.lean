/- By a program of this session, out of the kit's print and contracts made by hand: the machine side of a law; Lean checks it. No conditions. -/
import Derived.Test.YtjlikemmhjclpaaPFnExactSetKidsx0
import Derived.Test.YtjlikemmhjclpaaPFnExactSetKidsx8
namespace Go.Proofs.Ytjlikemmhjclpaa.PFnExactSetKids
open Go.RowKit Go.Proofs.YtjlikemmhjclpaaW.PrintWords Go.Proofs.YtjlikemmhjclpaaW.PrintLast Go.Proofs.YtjlikemmhjclpaaW.PrintMore
attribute [local go_sem] max2_int min2_int max_two min_two max_three min_three max_four min_four
set_option linter.unusedVariables false
set_option linter.unusedSimpArgs false
/-! ### spec_l03Tree: function 19 -/
def spec_l03Tree.f (k:Nat) (l0:List (S44)):Option (Bool):=(spec_l03OK.f k l0 10).bind fun bt142=>(some bt142.2)
theorem spec_l03Tree.mono:∀ a0 k,LeO (spec_l03Tree.f k a0) (spec_l03Tree.f (k+1) a0):=by
 intro a0 k
 unfold spec_l03Tree.f
 repeat' first
  | (with_reducible exact spec_l03OK.mono _ _ _)
  | (with_reducible exact LeO.refl _)
  | (with_reducible exact LeO.none _)
  | (with_reducible refine LeO.ite ?_ ?_)
  | (with_reducible refine LeO.bind ?_ (fun _=>?_))
  | exact spec_l03OK.mono _ _ _
  | exact LeO.none _
  | refine LeO.ite ?_ ?_
  | refine LeO.bind ?_ (fun _=>?_)
set_option maxHeartbeats 8000000 in
set_option maxRecDepth 100000 in
theorem spec_l03Tree.calls (k:Nat) (A0:Option Addr) (c0:Nat) (l0:List (S44)) (r:Bool) (w:World) (hr0:Kd.C k44 w A0 l0.length l0) (hc0:l0.length≤c0) (h:spec_l03Tree.f k l0=some r) :
 Calls Try.prog 19 #[.slice A0 l0.length c0] w fun e w'=>e=.returned (.bool r)∧Below w.heap.size w w':=by
 have HR0:=A_ hr0
 have HC0:=A_ hc0
 clear hr0 hc0
 have HB:=A_ (Below.refl w.heap.size w)
 have H:((spec_l03OK.f k l0 10).bind fun bt142=>(some bt142.2))=some r:=h
 clear h
 replace H:=ob_ H
 obtain ⟨⟨t142,t143⟩,A20,H⟩:=H
 replace H:(some t143)=some r:=H
 have A2:=A_ A20
 clear A20
 obtain rfl:=oi_ H
 go_enter Try.func19,Try.ntmps19
 go_wp2_with (first|((with_reducible refine gate_callee (f:=41) rfl ?_);refine goesL_ (some 7) rfl rfl Try.func41 (by kernel_rfl) rfl #[.slice A0 l0.length c0,.int .i64 10] rfl (by (try simp only [List.map_toArray,List.map_cons,List.map_nil]);first|done|rfl|(simp only [ld_,lt_];rfl)) ?_;(with_reducible refine (spec_l03OK.calls k _ _ l0 10 t142 t143 _ ?side1 ?side2 A2.out).mono ?_);(case side1=>repeat (first|exact HR0.out|(with_reducible refine ca_ ?_ _)|(with_reducible refine cn_ ?_ _)|(with_reducible refine cd_ ?_)));(case side2=>exact HC0.out);rintro e w3 ⟨rfl,hb⟩;refine ⟨_,rfl,?_⟩;have n0_:=A_ (bp_ (by repeat (first|(with_reducible first|exact HB.out|apply ba_|apply pd_|apply b1_)|exact HB.out)) hb);clear HB;have HB:=n0_;clear n0_;(try clear hb);(try clear hb2);(try clear hk);(try clear hi)))
 go_ret
 exact ⟨by first|rfl|(simp [errW_none,errW_some] <;> rfl)|(simp [*,errW_none,errW_some] <;> rfl),by repeat (first|(with_reducible first|exact HB.out|apply ba_|apply pd_|apply b1_)|exact HB.out)⟩
/-! ### spec_l09Ask: function 18 -/
def spec_l09Ask.j0:Nat→List (S44)→Bool→Option (Int)
 | 0,_,_=>none
 | k+1,x0,x12=>if x12=true then (some 2) else ((spec_l03Tree.f k x0).bind fun t144=>(if t144=true then (some 0) else (some 1)))
def spec_l09Ask.f (k:Nat) (l0:List (S44)) (l1:List Int):Option (Int):=if (l0.length:Int)>4096 then (spec_l09Ask.j0 k l0 true) else (spec_l09Ask.j0 k l0 (decide ((l1.length:Int)>4096)))
theorem spec_l09Ask.mono_l:∀ k,(∀ y0 y1,LeO (spec_l09Ask.j0 k y0 y1) (spec_l09Ask.j0 (k+1) y0 y1))
 | 0=>fun _ _ r h=>by simp [spec_l09Ask.j0] at h
 | k+1=>by
  have ih0:=spec_l09Ask.mono_l k
  ·intro y0 y1
   unfold spec_l09Ask.j0
   repeat' first
   | (with_reducible exact ih0 _ _)
   | (with_reducible exact spec_l03Tree.mono _ _)
   | (with_reducible exact LeO.refl _)
   | (with_reducible exact LeO.none _)
   | (with_reducible refine LeO.ite ?_ ?_)
   | (with_reducible refine LeO.bind ?_ (fun _=>?_))
   | exact ih0 _ _
   | exact spec_l03Tree.mono _ _
   | exact LeO.none _
   | refine LeO.ite ?_ ?_
   | refine LeO.bind ?_ (fun _=>?_)
theorem spec_l09Ask.mono:∀ a0 a1 k,LeO (spec_l09Ask.f k a0 a1) (spec_l09Ask.f (k+1) a0 a1):=by
 intro a0 a1 k
 have ih0:=spec_l09Ask.mono_l k
 unfold spec_l09Ask.f
 repeat' first
  | (with_reducible exact ih0 _ _)
  | (with_reducible exact spec_l03Tree.mono _ _)
  | (with_reducible exact LeO.refl _)
  | (with_reducible exact LeO.none _)
  | (with_reducible refine LeO.ite ?_ ?_)
  | (with_reducible refine LeO.bind ?_ (fun _=>?_))
  | exact ih0 _ _
  | exact spec_l03Tree.mono _ _
  | exact LeO.none _
  | refine LeO.ite ?_ ?_
  | refine LeO.bind ?_ (fun _=>?_)
set_option maxHeartbeats 8000000 in
set_option maxRecDepth 100000 in
theorem spec_l09Ask.calls (k:Nat) (A0:Option Addr) (c0:Nat) (l0:List (S44)) (A1:Option Addr) (c1:Nat) (l1:List Int) (r:Int) (w:World) (hr0:Kd.C k44 w A0 l0.length l0) (hc0:l0.length≤c0) (hr1:Kd.C (Kd.int .i64) w A1 l1.length l1) (hc1:l1.length≤c1) (h:spec_l09Ask.f k l0 l1=some r) :
 Calls Try.prog 18 #[.slice A0 l0.length c0,.slice A1 l1.length c1] w fun e w'=>e=.returned (.int .i64 r)∧Below w.heap.size w w':=by
 have HR0:=A_ hr0
 have HC0:=A_ hc0
 clear hr0 hc0
 have HR1:=A_ hr1
 have HC1:=A_ hc1
 clear hr1 hc1
 have HB:=A_ (Below.refl w.heap.size w)
 have H:(if (l0.length:Int)>4096 then (spec_l09Ask.j0 k l0 true) else (spec_l09Ask.j0 k l0 (decide ((l1.length:Int)>4096))))=some r:=h
 clear h
 have HC3:=A_ H
 clear H
 go_enter Try.func18,Try.ntmps18
 go_upto_region 1 with (fail)
 go_cut [12] (fun v12 wc=>∃ (kq:Nat) (x12_2:Bool),v12=.bool x12_2∧Aside0 (spec_l09Ask.j0 kq l0 x12_2=some r)∧Aside0 (kq≤k)∧Aside0 (Below w.heap.size w wc))
 case first =>
  have H:=HC3.out
  clear HC3
  by_cases c4:(l0.length:Int)>4096
  ·rw [if_pos c4] at H
   have c4b0:decide (4096<(l0.length:Int))=true:=dt_ c4
   have c4b1:decide (4096<l0.length)=true:=dt_ (by omega)
   clear c4
   (first|rw [c4b0]|(simp only [i64_w,i32_w];rw [c4b0])|skip)
   have H':=A_ H
   clear H
   go_wp2
   go_meet
   case rel=>exact ⟨_,(true),(by first|rfl|(simp;done)|(simp [*];done)),H',⟨by first|omega|exact Nat.le_refl _⟩,⟨by repeat (first|(with_reducible first|exact HB.out|apply ba_|apply pd_|apply b1_)|exact HB.out)⟩⟩
  ·rw [if_neg c4] at H
   have c4b0:decide (4096<(l0.length:Int))=false:=df_ c4
   have c4b1:decide (4096<l0.length)=false:=df_ (by omega)
   clear c4
   (first|rw [c4b0]|(simp only [i64_w,i32_w];rw [c4b0])|skip)
   have H':=A_ H
   clear H
   go_wp2
   go_meet
   case rel=>exact ⟨_,(decide ((l1.length:Int)>4096)),(by first|rfl|(simp;done)|(simp [*];done)),H',⟨by first|omega|exact Nat.le_refl _⟩,⟨by repeat (first|(with_reducible first|exact HB.out|apply ba_|apply pd_|apply b1_)|exact HB.out)⟩⟩
 case rest =>
  clear HC3
  try clear c1
  try clear p2
  try clear c4
  try clear c4b0
  try clear c4b1
  obtain ⟨kq,x12_2,rfl,HA,HJ2,HB⟩:=hcut
  cases kq with
  | zero=>exact absurd HA.out (by simp [spec_l09Ask.j0])
  | succ kj2 =>
   have H:=HA.out
   clear HA
   simp only [spec_l09Ask.j0] at H
   by_cases c5:x12_2=true
   ·subst c5
    have H1:(some 2)=some r:=by rw [if_pos rfl] at H;exact H
    clear H
    have H:=H1
    clear H1
    obtain rfl:=oi_ H
    go_wp2
    go_ret
    exact ⟨by first|rfl|(simp [errW_none,errW_some] <;> rfl)|(simp [*,errW_none,errW_some] <;> rfl),by repeat (first|(with_reducible first|exact HB.out|apply ba_|apply pd_|apply b1_)|exact HB.out)⟩
   ·replace c5:=bm_ c5
    subst c5
    have H1:((spec_l03Tree.f kj2 l0).bind fun t144=>(if t144=true then (some 0) else (some 1)))=some r:=by rw [if_neg (show ¬ (false=true) by decide)] at H;exact H
    clear H
    have H:=H1
    clear H1
    replace H:=ob_ H
    obtain ⟨t144,A60,H⟩:=H
    replace H:(if t144=true then (some 0) else (some 1))=some r:=H
    have A6:=A_ A60
    clear A60
    by_cases c7:t144=true
    ·subst c7
     have H1:(some 0)=some r:=by rw [if_pos rfl] at H;exact H
     clear H
     have H:=H1
     clear H1
     obtain rfl:=oi_ H
     go_wp2_with (first|((with_reducible refine gate_callee (f:=19) rfl ?_);refine goesL_ (some 14) rfl rfl Try.func19 (by kernel_rfl) rfl #[.slice A0 l0.length c0] rfl (by (try simp only [List.map_toArray,List.map_cons,List.map_nil]);first|done|rfl|(simp only [ld_,lt_];rfl)) ?_;(with_reducible refine (spec_l03Tree.calls kj2 _ _ l0 true _ ?side1 ?side2 A6.out).mono ?_);(case side1=>repeat (first|exact (cb_ HR0.out HB.out)|(with_reducible refine ca_ ?_ _)|(with_reducible refine cn_ ?_ _)|(with_reducible refine cd_ ?_)));(case side2=>exact HC0.out);rintro e w8 ⟨rfl,hb⟩;refine ⟨_,rfl,?_⟩;have n0_:=A_ (bp_ (by repeat (first|(with_reducible first|exact HB.out|apply ba_|apply pd_|apply b1_)|exact HB.out)) hb);clear HB;have HB:=n0_;clear n0_;(try clear hb);(try clear hb2);(try clear hk);(try clear hi)))
     go_ret
     exact ⟨by first|rfl|(simp [errW_none,errW_some] <;> rfl)|(simp [*,errW_none,errW_some] <;> rfl),by repeat (first|(with_reducible first|exact HB.out|apply ba_|apply pd_|apply b1_)|exact HB.out)⟩
    ·replace c7:=bm_ c7
     subst c7
     have H1:(some 1)=some r:=by rw [if_neg (show ¬ (false=true) by decide)] at H;exact H
     clear H
     have H:=H1
     clear H1
     obtain rfl:=oi_ H
     go_wp2_with (first|((with_reducible refine gate_callee (f:=19) rfl ?_);refine goesL_ (some 14) rfl rfl Try.func19 (by kernel_rfl) rfl #[.slice A0 l0.length c0] rfl (by (try simp only [List.map_toArray,List.map_cons,List.map_nil]);first|done|rfl|(simp only [ld_,lt_];rfl)) ?_;(with_reducible refine (spec_l03Tree.calls kj2 _ _ l0 false _ ?side1 ?side2 A6.out).mono ?_);(case side1=>repeat (first|exact (cb_ HR0.out HB.out)|(with_reducible refine ca_ ?_ _)|(with_reducible refine cn_ ?_ _)|(with_reducible refine cd_ ?_)));(case side2=>exact HC0.out);rintro e w9 ⟨rfl,hb⟩;refine ⟨_,rfl,?_⟩;have n0_:=A_ (bp_ (by repeat (first|(with_reducible first|exact HB.out|apply ba_|apply pd_|apply b1_)|exact HB.out)) hb);clear HB;have HB:=n0_;clear n0_;(try clear hb);(try clear hb2);(try clear hk);(try clear hi)))
     go_ret
     exact ⟨by first|rfl|(simp [errW_none,errW_some] <;> rfl)|(simp [*,errW_none,errW_some] <;> rfl),by repeat (first|(with_reducible first|exact HB.out|apply ba_|apply pd_|apply b1_)|exact HB.out)⟩
end Go.Proofs.Ytjlikemmhjclpaa.PFnExactSetKids
