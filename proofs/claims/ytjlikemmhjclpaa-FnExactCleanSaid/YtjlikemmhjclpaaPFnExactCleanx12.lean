/- By a program of this session, out of the kit's print and contracts made by hand: the machine side of a law; Lean checks it. No conditions. -/
import Derived.Test.YtjlikemmhjclpaaPFnExactCleanx0
import Derived.Test.YtjlikemmhjclpaaPFnExactCleanx8
import Derived.Test.YtjlikemmhjclpaaPFnExactCleanx11
namespace Go.Proofs.Ytjlikemmhjclpaa.PFnExactClean
open Go.RowKit Go.Proofs.YtjlikemmhjclpaaW.PrintWords Go.Proofs.YtjlikemmhjclpaaW.PrintLast Go.Proofs.YtjlikemmhjclpaaW.PrintMore
attribute [local go_sem] max2_int min2_int max_two min_two max_three min_three max_four min_four
set_option linter.unusedVariables false
set_option linter.unusedSimpArgs false
/-! ### spec_l03Tree: function 19 -/
def spec_l03Tree.f (k:Nat) (l0:List (S44)):Option (Bool):=(spec_l03OK.f k l0 10).bind fun bt170=>(some bt170.2)
theorem spec_l03Tree.mono:∀ a0 k,LeO (spec_l03Tree.f k a0) (spec_l03Tree.f (k+1) a0):=by
 intro a0 k
 unfold spec_l03Tree.f
 repeat' first
  | (with_reducible exact spec_l03OK.mono _ _ _)
  | (with_reducible exact LeO.refl _)
  | (with_reducible exact LeO.none _)
  | (with_reducible refine LeO.ite ?_ ?_)
  | (with_reducible refine LeO.bind ?_ (fun _=>?_))
  | exact spec_l03OK.mono _ _ _
  | exact LeO.none _
  | refine LeO.ite ?_ ?_
  | refine LeO.bind ?_ (fun _=>?_)
set_option maxHeartbeats 8000000 in
set_option maxRecDepth 100000 in
theorem spec_l03Tree.calls (k:Nat) (A0:Option Addr) (c0:Nat) (l0:List (S44)) (r:Bool) (w:World) (hr0:Kd.C k44 w A0 l0.length l0) (hc0:l0.length≤c0) (h:spec_l03Tree.f k l0=some r) :
 Calls Try.prog 19 #[.slice A0 l0.length c0] w fun e w'=>e=.returned (.bool r)∧Below w.heap.size w w':=by
 have HR0:=A_ hr0
 have HC0:=A_ hc0
 clear hr0 hc0
 have HB:=A_ (Below.refl w.heap.size w)
 have H:((spec_l03OK.f k l0 10).bind fun bt170=>(some bt170.2))=some r:=h
 clear h
 replace H:=ob_ H
 obtain ⟨⟨t170,t171⟩,A20,H⟩:=H
 replace H:(some t171)=some r:=H
 have A2:=A_ A20
 clear A20
 obtain rfl:=oi_ H
 go_enter Try.func19,Try.ntmps19
 go_wp2_with (first|((with_reducible refine gate_callee (f:=41) rfl ?_);refine goesL_ (some 7) rfl rfl Try.func41 (by kernel_rfl) rfl #[.slice A0 l0.length c0,.int .i64 10] rfl (by (try simp only [List.map_toArray,List.map_cons,List.map_nil]);first|done|rfl|(simp only [ld_,lt_];rfl)) ?_;(with_reducible refine (spec_l03OK.calls k _ _ l0 10 t170 t171 _ ?side1 ?side2 A2.out).mono ?_);(case side1=>repeat (first|exact HR0.out|(with_reducible refine ca_ ?_ _)|(with_reducible refine cn_ ?_ _)|(with_reducible refine cd_ ?_)));(case side2=>exact HC0.out);rintro e w3 ⟨rfl,hb⟩;refine ⟨_,rfl,?_⟩;have n0_:=A_ (bp_ (by repeat (first|(with_reducible first|exact HB.out|apply ba_|apply pd_|apply b1_)|exact HB.out)) hb);clear HB;have HB:=n0_;clear n0_;(try clear hb);(try clear hb2);(try clear hk);(try clear hi)))
 go_ret
 exact ⟨by first|rfl|(simp [errW_none,errW_some] <;> rfl)|(simp [*,errW_none,errW_some] <;> rfl),by repeat (first|(with_reducible first|exact HB.out|apply ba_|apply pd_|apply b1_)|exact HB.out)⟩
/-! ### spec_l01Handler: function 75 -/
def spec_l01Handler.f (a0:ByteArray):Option (Bool):=if (a0.size:Int)>2 then (if 0≤2 then (if 2≤(a0.size:Int) then (some ((a0.extract 0 2).toList == ([111,110]:List UInt8))) else (none)) else (none)) else (some false)
set_option maxHeartbeats 8000000 in
set_option maxRecDepth 100000 in
theorem spec_l01Handler.calls (a0:ByteArray) (r:Bool) (w:World) (h:spec_l01Handler.f a0=some r) :
 Calls Try.prog 75 #[.string a0] w fun e w'=>e=.returned (.bool r)∧Drawn0 w w':=by
 have H:(if (a0.size:Int)>2 then (if 0≤2 then (if 2≤(a0.size:Int) then (some ((a0.extract 0 2).toList == ([111,110]:List UInt8))) else (none)) else (none)) else (some false))=some r:=h
 clear h
 by_cases c2:(a0.size:Int)>2
 ·rw [if_pos c2] at H
  have c2b0:decide (2<(a0.size:Int))=true:=dt_ c2
  have c2b1:decide (2<a0.size)=true:=dt_ (by omega)
  clear c2
  by_cases c3:0≤2
  ·rw [if_pos c3] at H
   have c3b0:=eq_true c3
   have c3b1:decide (0≤2)=true:=dt_ c3
   clear c3
   by_cases c4:2≤(a0.size:Int)
   ·rw [if_pos c4] at H
    have c4b0:=eq_true c4
    have c4b1:decide (2≤(a0.size:Int))=true:=dt_ c4
    clear c4
    obtain rfl:=oi_ H
    go_enter Try.func75,Try.ntmps75
    go_wp2
    go_ret
    exact ⟨by first|rfl|(simp;done)|(simp [*];done),by repeat (first|exact dr_ _|apply dp_)⟩
   ·rw [if_neg c4] at H
    exact absurd H (by simp)
  ·rw [if_neg c3] at H
   exact absurd H (by simp)
 ·rw [if_neg c2] at H
  have c2b0:decide (2<(a0.size:Int))=false:=df_ c2
  have c2b1:decide (2<a0.size)=false:=df_ (by omega)
  clear c2
  obtain rfl:=oi_ H
  go_enter Try.func75,Try.ntmps75
  go_wp2
  go_ret
  exact ⟨by first|rfl|(simp;done)|(simp [*];done),by repeat (first|exact dr_ _|apply dp_)⟩
/-! ### spec_l01Link: function 76 -/
def spec_l01Link.f (k:Nat) (a0:ByteArray):Option (Bool):=(spec_l01Has.f k (([(⟨#[104,114,101,102]⟩:ByteArray),(⟨#[115,114,99]⟩:ByteArray),(⟨#[97,99,116,105,111,110]⟩:ByteArray),(⟨#[102,111,114,109,97,99,116,105,111,110]⟩:ByteArray),(⟨#[120,108,105,110,107,45,104,114,101,102]⟩:ByteArray)]:List ByteArray)) a0).bind fun t175=>(some t175)
theorem spec_l01Link.mono:∀ a0 k,LeO (spec_l01Link.f k a0) (spec_l01Link.f (k+1) a0):=by
 intro a0 k
 unfold spec_l01Link.f
 repeat' first
  | (with_reducible exact spec_l01Has.mono _ _ _)
  | (with_reducible exact LeO.refl _)
  | (with_reducible exact LeO.none _)
  | (with_reducible refine LeO.ite ?_ ?_)
  | (with_reducible refine LeO.bind ?_ (fun _=>?_))
  | exact spec_l01Has.mono _ _ _
  | exact LeO.none _
  | refine LeO.ite ?_ ?_
  | refine LeO.bind ?_ (fun _=>?_)
set_option maxHeartbeats 8000000 in
set_option maxRecDepth 100000 in
theorem spec_l01Link.calls (k:Nat) (a0:ByteArray) (r:Bool) (w:World) (h:spec_l01Link.f k a0=some r) :
 Calls Try.prog 76 #[.string a0] w fun e w'=>e=.returned (.bool r)∧Below w.heap.size w w':=by
 have HB:=A_ (Below.refl w.heap.size w)
 have H:((spec_l01Has.f k (([(⟨#[104,114,101,102]⟩:ByteArray),(⟨#[115,114,99]⟩:ByteArray),(⟨#[97,99,116,105,111,110]⟩:ByteArray),(⟨#[102,111,114,109,97,99,116,105,111,110]⟩:ByteArray),(⟨#[120,108,105,110,107,45,104,114,101,102]⟩:ByteArray)]:List ByteArray)) a0).bind fun t175=>(some t175))=some r:=h
 clear h
 obtain ⟨y172,hy172⟩:∃ y_:List ByteArray,y_=(([(⟨#[104,114,101,102]⟩:ByteArray),(⟨#[115,114,99]⟩:ByteArray),(⟨#[97,99,116,105,111,110]⟩:ByteArray),(⟨#[102,111,114,109,97,99,116,105,111,110]⟩:ByteArray),(⟨#[120,108,105,110,107,45,104,114,101,102]⟩:ByteArray)]:List ByteArray)):=⟨_,rfl⟩
 replace H:((spec_l01Has.f k y172 a0).bind fun t175=>(some t175))=some r:=by first|(rw [hy172];with_reducible exact H)|(have H2_:=(Option.bind_some _ _).symm.trans H;rw [hy172];with_reducible exact H2_)|(have H2_:=(Option.bind_some _ _).symm.trans H;with_reducible exact H2_)|with_reducible exact H|(rw [hy172];exact H)|exact H
 have Ny172:=A_ hy172
 clear hy172
 replace H:=ob_ H
 obtain ⟨t175,A20,H⟩:=H
 replace H:(some t175)=some r:=H
 have A2:=A_ A20
 clear A20
 obtain rfl:=oi_ H
 go_enter Try.func76,Try.ntmps76
 go_wp2_with (first|((with_reducible refine gate_dst (N:=3) rfl ?_);refine Kd.R_lit Kd.string _ 9 ?hg (N:=3) ?hd (xs:=([(⟨#[104,114,101,102]⟩:ByteArray),(⟨#[115,114,99]⟩:ByteArray),(⟨#[97,99,116,105,111,110]⟩:ByteArray),(⟨#[102,111,114,109,97,99,116,105,111,110]⟩:ByteArray),(⟨#[120,108,105,110,107,45,104,114,101,102]⟩:ByteArray)]:List ByteArray)) (inner:=[.string (⟨#[104,114,101,102]⟩:ByteArray),.string (⟨#[115,114,99]⟩:ByteArray),.string (⟨#[97,99,116,105,111,110]⟩:ByteArray),.string (⟨#[102,111,114,109,97,99,116,105,111,110]⟩:ByteArray),.string (⟨#[120,108,105,110,107,45,104,114,101,102]⟩:ByteArray)]) (ok:=fun _=>True) (okp:=fun _=>True) ?hr ?hp (fun _ hk=>hk) trivial (Below.refl _ _) (Nat.le_refl _) (by simp) ?_;(case hd=>rfl);(case hg=>rfl);(case hr=>first|(go_simp;done)|(go_simp;rfl)|(first|(go_simp;done)|(go_simp;rfl)));(case hp=>exact (Reps.one (show Kd.M Kd.string _ _ _ (⟨#[104,114,101,102]⟩:ByteArray) [.string (⟨#[104,114,101,102]⟩:ByteArray)] from rfl) (Reps.one (show Kd.M Kd.string _ _ _ (⟨#[115,114,99]⟩:ByteArray) [.string (⟨#[115,114,99]⟩:ByteArray)] from rfl) (Reps.one (show Kd.M Kd.string _ _ _ (⟨#[97,99,116,105,111,110]⟩:ByteArray) [.string (⟨#[97,99,116,105,111,110]⟩:ByteArray)] from rfl) (Reps.one (show Kd.M Kd.string _ _ _ (⟨#[102,111,114,109,97,99,116,105,111,110]⟩:ByteArray) [.string (⟨#[102,111,114,109,97,99,116,105,111,110]⟩:ByteArray)] from rfl) (Reps.one (show Kd.M Kd.string _ _ _ (⟨#[120,108,105,110,107,45,104,114,101,102]⟩:ByteArray) [.string (⟨#[120,108,105,110,107,45,104,114,101,102]⟩:ByteArray)] from rfl) (Reps.none _ _)))))));intro v173 w3 ho4 hb hg_ hnew_;clear hg_ hnew_;(first|rw [←Ny172.out] at ho4|(simp only [Int.reduceToNat] at ho4;rw [←Ny172.out] at ho4));have n0_:=A_ (Kd.R_lower ho4 (bz_ (by repeat (first|(with_reducible first|exact HB.out|apply ba_|apply pd_|apply b1_)|exact HB.out))));have n1_:=A_ (bp_ (by repeat (first|(with_reducible first|exact HB.out|apply ba_|apply pd_|apply b1_)|exact HB.out)) hb);clear HB;have HO174:=n0_;have HB:=n1_;clear n0_ n1_;clear hb ho4;obtain ⟨Ao5,co5,eo5⟩:=Kd.R_slice HO174.out;subst eo5)|((with_reducible refine gate_callee (f:=99) rfl ?_);refine goesL_ (some 5) rfl rfl Try.func99 (by kernel_rfl) rfl #[.slice Ao5 y172.length co5,.string a0] rfl (by (try simp only [List.map_toArray,List.map_cons,List.map_nil]);first|done|rfl|(simp only [ld_,lt_];rfl)) ?_;(with_reducible refine (spec_l01Has.calls k _ _ y172 a0 t175 _ ?side1 ?side2 A2.out).mono ?_);(case side1=>repeat (first|exact (Kd.R_reads' HO174.out).2.2|(with_reducible refine ca_ ?_ _)|(with_reducible refine cn_ ?_ _)|(with_reducible refine cd_ ?_)));(case side2=>exact (Kd.R_reads' HO174.out).2.1);rintro e w' ⟨rfl,⟨nd,rfl⟩⟩;refine ⟨_,rfl,?_⟩))
 go_ret
 exact ⟨by first|rfl|(simp [errW_none,errW_some] <;> rfl)|(simp [*,errW_none,errW_some] <;> rfl),by repeat (first|(with_reducible first|exact HB.out|apply ba_|apply pd_|apply b1_)|exact HB.out)⟩
end Go.Proofs.Ytjlikemmhjclpaa.PFnExactClean
