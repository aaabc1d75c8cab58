/- By a program of this session, out of the kit's print and contracts made by hand: the machine side of a law; Lean checks it. No conditions. -/
import Derived.Test.YtjhfempockbdoaaPFnExactNodeAtx0
namespace Go.Proofs.Ytjhfempockbdoaa.PFnExactNodeAt
open Go.RowKit Go.Proofs.YtjhfempockbdoaaW.PrintWords Go.Proofs.YtjhfempockbdoaaW.PrintLast Go.Proofs.YtjhfempockbdoaaW.PrintMore
attribute [local go_sem] max2_int min2_int max_two min_two max_three min_three max_four min_four
set_option linter.unusedVariables false
set_option linter.unusedSimpArgs false
/-! ### slices_Index_string_string: function 67 -/
def slices_Index_string_string.l0:Nat→List ByteArray→ByteArray→Int→Int→Option (Int)
 | 0,_,_,_,_=>none
 | k+1,x0,x1,x7,x8=>if x8<x7 then (if 0≤x8 then (if x8<(x0.length:Int) then (if x1.toList=(rdOf ByteArray.empty x0 x8).toList then (some x8) else (slices_Index_string_string.l0 k x0 x1 x7 (wrap64 (x8+1)))) else (none)) else (none)) else (some (-1))
def slices_Index_string_string.f (k:Nat) (l0:List ByteArray) (a1:ByteArray):Option (Int):=slices_Index_string_string.l0 k l0 a1 (l0.length:Int) 0
theorem slices_Index_string_string.mono_l:∀ k,(∀ y0 y1 y2 y3,LeO (slices_Index_string_string.l0 k y0 y1 y2 y3) (slices_Index_string_string.l0 (k+1) y0 y1 y2 y3))
 | 0=>fun _ _ _ _ r h=>by simp [slices_Index_string_string.l0] at h
 | k+1=>by
  have ih0:=slices_Index_string_string.mono_l k
  ·intro y0 y1 y2 y3
   unfold slices_Index_string_string.l0
   repeat' first
   | (with_reducible exact ih0 _ _ _ _)
   | (with_reducible exact LeO.refl _)
   | (with_reducible exact LeO.none _)
   | (with_reducible refine LeO.ite ?_ ?_)
   | (with_reducible refine LeO.bind ?_ (fun _=>?_))
   | exact ih0 _ _ _ _
   | exact LeO.none _
   | refine LeO.ite ?_ ?_
   | refine LeO.bind ?_ (fun _=>?_)
theorem slices_Index_string_string.mono:∀ a0 a1 k,LeO (slices_Index_string_string.f k a0 a1) (slices_Index_string_string.f (k+1) a0 a1):=by
 intro a0 a1 k
 have ih0:=slices_Index_string_string.mono_l k
 unfold slices_Index_string_string.f
 repeat' first
  | (with_reducible exact ih0 _ _ _ _)
  | (with_reducible exact LeO.refl _)
  | (with_reducible exact LeO.none _)
  | (with_reducible refine LeO.ite ?_ ?_)
  | (with_reducible refine LeO.bind ?_ (fun _=>?_))
  | exact ih0 _ _ _ _
  | exact LeO.none _
  | refine LeO.ite ?_ ?_
  | refine LeO.bind ?_ (fun _=>?_)
set_option maxHeartbeats 8000000 in
set_option maxRecDepth 100000 in
theorem slices_Index_string_string.calls (k:Nat) (A0:Option Addr) (c0:Nat) (l0:List ByteArray) (a1:ByteArray) (r:Int) (w:World) (hr0:Kd.C Kd.string w A0 l0.length l0) (hc0:l0.length≤c0) (h:slices_Index_string_string.f k l0 a1=some r) :
 Calls Try.prog 67 #[.slice A0 l0.length c0,.string a1] w fun e w'=>e=.returned (.int .i64 r)∧Drawn0 w w':=by
 have HR0:=A_ hr0
 have HC0:=A_ hc0
 clear hr0 hc0
 have H:(slices_Index_string_string.l0 k l0 a1 (l0.length:Int) 0)=some r:=h
 clear h
 have H':=A_ H
 clear H
 go_enter Try.func67,Try.ntmps67
 go_wp2
 go_loopg [8] k (fun kq v8 w'=>∃ (x8_1:Int),v8=.int .i64 x8_1∧Aside0 (slices_Index_string_string.l0 kq l0 a1 (l0.length:Int) x8_1=some r)∧Aside0 (kq≤k)∧Drawn0 w w')
 case atStart=>exact ⟨(0),(by first|rfl|(simp;done)|(simp [*];done)),H',⟨Nat.le_refl _⟩,by repeat (first|exact dr_ _|apply dp_)⟩
 case round =>
  clear H'
  try clear p2
  obtain ⟨x8_1,rfl,HA,HK1,⟨m1,rfl⟩⟩:=hrel
  cases gk with
  | zero=>exact absurd HA.out (by simp [slices_Index_string_string.l0])
  | succ k1 =>
   have H:=HA.out
   clear HA
   simp only [slices_Index_string_string.l0] at H
   by_cases c3:x8_1<(l0.length:Int)
   ·rw [if_pos c3] at H
    have c3b0:decide (x8_1<(l0.length:Int))=true:=dt_ c3
    clear c3
    by_cases c4:0≤x8_1
    ·rw [if_pos c4] at H
     have c4b0:decide (0≤x8_1)=true:=dt_ c4
     clear c4
     by_cases c5:x8_1<(l0.length:Int)
     ·rw [if_pos c5] at H
      have c5b0:decide (x8_1<(l0.length:Int))=true:=dt_ c5
      clear c5
      by_cases c6:a1.toList=(rdOf ByteArray.empty l0 x8_1).toList
      ·rw [if_pos c6] at H
       have c6b0:(a1.toList == (rdOf ByteArray.empty l0 x8_1).toList)=true:=beq_iff_eq.mpr c6
       have c6b1:(a1.toList != (rdOf ByteArray.empty l0 x8_1).toList)=false:=bne_eq_false_iff_eq.mpr c6
       clear c6
       obtain rfl:=oi_ H
       have p199:0≤(x8_1:Int):=od_ (by first|(with_reducible assumption)|assumption)
       have q199:x8_1<(l0.length:Int):=od_ (by first|(with_reducible assumption)|assumption)
       obtain ⟨ad199,e199,hx199_0⟩:=Kd.at_string HR0.out x8_1 p199 q199
       cases e199
       replace p199:=eq_true p199
       replace q199:=eq_true q199
       go_wp2
       go_ret
       exact ⟨by first|rfl|(simp;done)|(simp [*];done),by repeat (first|exact dr_ _|apply dp_)⟩
      ·rw [if_neg c6] at H
       have c6b0:(a1.toList == (rdOf ByteArray.empty l0 x8_1).toList)=false:=beq_eq_false_iff_ne.mpr c6
       have c6b1:(a1.toList != (rdOf ByteArray.empty l0 x8_1).toList)=true:=bne_iff_ne.mpr c6
       have H':=A_ H
       clear H
       have p199:0≤(x8_1:Int):=od_ (by first|(with_reducible assumption)|assumption)
       have q199:x8_1<(l0.length:Int):=od_ (by first|(with_reducible assumption)|assumption)
       obtain ⟨ad199,e199,hx199_0⟩:=Kd.at_string HR0.out x8_1 p199 q199
       cases e199
       replace p199:=eq_true p199
       replace q199:=eq_true q199
       go_wp2
       go_roundg k1
       case measure=>have:=HK1.out;omega
       case rel=>exact ⟨(wrap64 (x8_1+1)),(by first|rfl|(simp;done)|(simp [*];done)),H',⟨by have:=HK1.out;omega⟩,by repeat (first|exact dr_ _|apply dp_)⟩
     ·rw [if_neg c5] at H
      exact absurd H (by simp)
    ·rw [if_neg c4] at H
     exact absurd H (by simp)
   ·rw [if_neg c3] at H
    have c3b0:decide (x8_1<(l0.length:Int))=false:=df_ c3
    clear c3
    obtain rfl:=oi_ H
    go_wp2
    go_ret
    exact ⟨by first|rfl|(simp;done)|(simp [*];done),by repeat (first|exact dr_ _|apply dp_)⟩
/-! ### slices_Contains_string_string: function 64 -/
def slices_Contains_string_string.f (k:Nat) (l0:List ByteArray) (a1:ByteArray):Option (Bool):=(slices_Index_string_string.f k l0 a1).bind fun t200=>(some (decide (t200≥0)))
theorem slices_Contains_string_string.mono:∀ a0 a1 k,LeO (slices_Contains_string_string.f k a0 a1) (slices_Contains_string_string.f (k+1) a0 a1):=by
 intro a0 a1 k
 unfold slices_Contains_string_string.f
 repeat' first
  | (with_reducible exact slices_Index_string_string.mono _ _ _)
  | (with_reducible exact LeO.refl _)
  | (with_reducible exact LeO.none _)
  | (with_reducible refine LeO.ite ?_ ?_)
  | (with_reducible refine LeO.bind ?_ (fun _=>?_))
  | exact slices_Index_string_string.mono _ _ _
  | exact LeO.none _
  | refine LeO.ite ?_ ?_
  | refine LeO.bind ?_ (fun _=>?_)
set_option maxHeartbeats 8000000 in
set_option maxRecDepth 100000 in
theorem slices_Contains_string_string.calls (k:Nat) (A0:Option Addr) (c0:Nat) (l0:List ByteArray) (a1:ByteArray) (r:Bool) (w:World) (hr0:Kd.C Kd.string w A0 l0.length l0) (hc0:l0.length≤c0) (h:slices_Contains_string_string.f k l0 a1=some r) :
 Calls Try.prog 64 #[.slice A0 l0.length c0,.string a1] w fun e w'=>e=.returned (.bool r)∧Drawn0 w w':=by
 have HR0:=A_ hr0
 have HC0:=A_ hc0
 clear hr0 hc0
 have H:((slices_Index_string_string.f k l0 a1).bind fun t200=>(some (decide (t200≥0))))=some r:=h
 clear h
 replace H:=ob_ H
 obtain ⟨t200,A30,H⟩:=H
 replace H:(some (decide (t200≥0)))=some r:=H
 have A3:=A_ A30
 clear A30
 obtain rfl:=oi_ H
 go_enter Try.func64,Try.ntmps64
 go_wp2_with (first|((with_reducible refine gate_callee (f:=67) rfl ?_);refine goesL_ (some 7) rfl rfl Try.func67 (by kernel_rfl) rfl #[.slice A0 l0.length c0,.string a1] rfl (by (try simp only [List.map_toArray,List.map_cons,List.map_nil]);first|done|rfl|(simp only [ld_,lt_];rfl)) ?_;(with_reducible refine (slices_Index_string_string.calls k _ _ l0 a1 t200 _ ?side1 ?side2 A3.out).mono ?_);(case side1=>repeat (first|exact HR0.out|(with_reducible refine ca_ ?_ _)|(with_reducible refine cn_ ?_ _)|(with_reducible refine cd_ ?_)));(case side2=>exact HC0.out);rintro e w' ⟨rfl,⟨nd,rfl⟩⟩;refine ⟨_,rfl,?_⟩))
 go_ret
 exact ⟨by first|rfl|(simp;done)|(simp [*];done),by repeat (first|exact dr_ _|apply dp_)⟩
theorem ev_slices_Index (xs:List ByteArray) (t:ByteArray) (hn:xs.length≤9223372036854775807):Ev (fun k=>slices_Index_string_string.f k xs t) (Kit.indexOf t xs 0):=by
 have key:∀ i,i≤xs.length→Ev (fun k=>slices_Index_string_string.l0 k xs t xs.length i) (Kit.indexOf t (xs.drop i) i):=by
  refine Kit.down ?_ ?_
  ·refine Ev.step (fun k=>rfl) ?_
   refine Kit.ev_neg (by omega) ?_
   rw [List.drop_length]
   exact Ev.now _
  ·intro i hi ih
   refine Ev.step (fun k=>rfl) ?_
   refine Kit.ev_pos (by omega) (Kit.ev_pos (by omega) (Kit.ev_pos (by omega) ?_))
   rw [Kit.drop_getD ByteArray.empty xs i hi,Kit.indexOf,Kit.rdOf_nat,Kit.wrap_nat hi hn]
   refine Kit.ev_if (fun h=>?_) (fun h=>?_)
   ·rw [if_pos h];exact Ev.now _
   ·rw [if_neg h];exact ih
 exact key 0 (by omega)
theorem ev_slices_Contains (xs:List ByteArray) (t:ByteArray) (hn:xs.length≤9223372036854775807):Ev (fun k=>slices_Contains_string_string.f k xs t) (Kit.hasT xs t):=by
 unfold slices_Contains_string_string.f
 refine Ev.bind (ev_slices_Index xs t hn) ?_
 rw [←Kit.indexOf_has xs t 0]
 exact Ev.now _
theorem slices_Contains_string_string.pure (A:Option Addr) (c:Nat) (xs:List ByteArray) (t:ByteArray) (W:World) (h:Kd.C Kd.string W A xs.length xs) (hc:xs.length≤c):Calls Try.prog 64 #[.slice A xs.length c,.string t] W fun e w'=>e=.returned (.bool (Kit.hasT xs t))∧Drawn0 W w':=by
 obtain ⟨K,hK⟩:=ev_slices_Contains xs t h.2.1
 exact slices_Contains_string_string.calls K A c xs t _ W h hc (hK K (Nat.le_refl _))
/-! ### impl_IsVoid: function 55 -/
def impl_IsVoid.f (k:Nat) (a0:ByteArray):Option (Bool):=(slices_Contains_string_string.f k (([(⟨#[98,114]⟩:ByteArray),(⟨#[104,114]⟩:ByteArray),(⟨#[105,109,103]⟩:ByteArray),(⟨#[105,110,112,117,116]⟩:ByteArray),(⟨#[109,101,116,97]⟩:ByteArray),(⟨#[108,105,110,107]⟩:ByteArray),(⟨#[98,97,115,101]⟩:ByteArray),(⟨#[101,109,98,101,100]⟩:ByteArray)]:List ByteArray)) a0).bind fun t204=>(some t204)
theorem impl_IsVoid.mono:∀ a0 k,LeO (impl_IsVoid.f k a0) (impl_IsVoid.f (k+1) a0):=by
 intro a0 k
 unfold impl_IsVoid.f
 repeat' first
  | (with_reducible exact slices_Contains_string_string.mono _ _ _)
  | (with_reducible exact LeO.refl _)
  | (with_reducible exact LeO.none _)
  | (with_reducible refine LeO.ite ?_ ?_)
  | (with_reducible refine LeO.bind ?_ (fun _=>?_))
  | exact slices_Contains_string_string.mono _ _ _
  | exact LeO.none _
  | refine LeO.ite ?_ ?_
  | refine LeO.bind ?_ (fun _=>?_)
set_option maxHeartbeats 8000000 in
set_option maxRecDepth 100000 in
theorem impl_IsVoid.calls (k:Nat) (a0:ByteArray) (r:Bool) (w:World) (h:impl_IsVoid.f k a0=some r) :
 Calls Try.prog 55 #[.string a0] w fun e w'=>e=.returned (.bool r)∧Below w.heap.size w w':=by
 have HB:=A_ (Below.refl w.heap.size w)
 have H:((slices_Contains_string_string.f k (([(⟨#[98,114]⟩:ByteArray),(⟨#[104,114]⟩:ByteArray),(⟨#[105,109,103]⟩:ByteArray),(⟨#[105,110,112,117,116]⟩:ByteArray),(⟨#[109,101,116,97]⟩:ByteArray),(⟨#[108,105,110,107]⟩:ByteArray),(⟨#[98,97,115,101]⟩:ByteArray),(⟨#[101,109,98,101,100]⟩:ByteArray)]:List ByteArray)) a0).bind fun t204=>(some t204))=some r:=h
 clear h
 obtain ⟨y201,hy201⟩:∃ y_:List ByteArray,y_=(([(⟨#[98,114]⟩:ByteArray),(⟨#[104,114]⟩:ByteArray),(⟨#[105,109,103]⟩:ByteArray),(⟨#[105,110,112,117,116]⟩:ByteArray),(⟨#[109,101,116,97]⟩:ByteArray),(⟨#[108,105,110,107]⟩:ByteArray),(⟨#[98,97,115,101]⟩:ByteArray),(⟨#[101,109,98,101,100]⟩:ByteArray)]:List ByteArray)):=⟨_,rfl⟩
 replace H:((slices_Contains_string_string.f k y201 a0).bind fun t204=>(some t204))=some r:=by first|(rw [hy201];with_reducible exact H)|(have H2_:=(Option.bind_some _ _).symm.trans H;rw [hy201];with_reducible exact H2_)|(have H2_:=(Option.bind_some _ _).symm.trans H;with_reducible exact H2_)|with_reducible exact H|(rw [hy201];exact H)|exact H
 have Ny201:=A_ hy201
 clear hy201
 replace H:=ob_ H
 obtain ⟨t204,A20,H⟩:=H
 replace H:(some t204)=some r:=H
 have A2:=A_ A20
 clear A20
 obtain rfl:=oi_ H
 go_enter Try.func55,Try.ntmps55
 go_wp2_with (first|((with_reducible refine gate_dst (N:=3) rfl ?_);refine Kd.R_lit Kd.string _ 9 ?hg (N:=3) ?hd (xs:=([(⟨#[98,114]⟩:ByteArray),(⟨#[104,114]⟩:ByteArray),(⟨#[105,109,103]⟩:ByteArray),(⟨#[105,110,112,117,116]⟩:ByteArray),(⟨#[109,101,116,97]⟩:ByteArray),(⟨#[108,105,110,107]⟩:ByteArray),(⟨#[98,97,115,101]⟩:ByteArray),(⟨#[101,109,98,101,100]⟩:ByteArray)]:List ByteArray)) (inner:=[.string (⟨#[98,114]⟩:ByteArray),.string (⟨#[104,114]⟩:ByteArray),.string (⟨#[105,109,103]⟩:ByteArray),.string (⟨#[105,110,112,117,116]⟩:ByteArray),.string (⟨#[109,101,116,97]⟩:ByteArray),.string (⟨#[108,105,110,107]⟩:ByteArray),.string (⟨#[98,97,115,101]⟩:ByteArray),.string (⟨#[101,109,98,101,100]⟩:ByteArray)]) (ok:=fun _=>True) (okp:=fun _=>True) ?hr ?hp (fun _ hk=>hk) trivial (Below.refl _ _) (Nat.le_refl _) (by simp) ?_;(case hd=>rfl);(case hg=>rfl);(case hr=>first|(go_simp;done)|(go_simp;rfl)|(first|(go_simp;done)|(go_simp;rfl)));(case hp=>exact (Reps.one (show Kd.M Kd.string _ _ _ (⟨#[98,114]⟩:ByteArray) [.string (⟨#[98,114]⟩:ByteArray)] from rfl) (Reps.one (show Kd.M Kd.string _ _ _ (⟨#[104,114]⟩:ByteArray) [.string (⟨#[104,114]⟩:ByteArray)] from rfl) (Reps.one (show Kd.M Kd.string _ _ _ (⟨#[105,109,103]⟩:ByteArray) [.string (⟨#[105,109,103]⟩:ByteArray)] from rfl) (Reps.one (show Kd.M Kd.string _ _ _ (⟨#[105,110,112,117,116]⟩:ByteArray) [.string (⟨#[105,110,112,117,116]⟩:ByteArray)] from rfl) (Reps.one (show Kd.M Kd.string _ _ _ (⟨#[109,101,116,97]⟩:ByteArray) [.string (⟨#[109,101,116,97]⟩:ByteArray)] from rfl) (Reps.one (show Kd.M Kd.string _ _ _ (⟨#[108,105,110,107]⟩:ByteArray) [.string (⟨#[108,105,110,107]⟩:ByteArray)] from rfl) (Reps.one (show Kd.M Kd.string _ _ _ (⟨#[98,97,115,101]⟩:ByteArray) [.string (⟨#[98,97,115,101]⟩:ByteArray)] from rfl) (Reps.one (show Kd.M Kd.string _ _ _ (⟨#[101,109,98,101,100]⟩:ByteArray) [.string (⟨#[101,109,98,101,100]⟩:ByteArray)] from rfl) (Reps.none _ _))))))))));intro v202 w3 ho4 hb hg_ hnew_;clear hg_ hnew_;(first|rw [←Ny201.out] at ho4|(simp only [Int.reduceToNat] at ho4;rw [←Ny201.out] at ho4));have n0_:=A_ (Kd.R_lower ho4 (bz_ (by repeat (first|(with_reducible first|exact HB.out|apply ba_|apply pd_|apply b1_)|exact HB.out))));have n1_:=A_ (bp_ (by repeat (first|(with_reducible first|exact HB.out|apply ba_|apply pd_|apply b1_)|exact HB.out)) hb);clear HB;have HO203:=n0_;have HB:=n1_;clear n0_ n1_;clear hb ho4;obtain ⟨Ao5,co5,eo5⟩:=Kd.R_slice HO203.out;subst eo5)|((with_reducible refine gate_callee (f:=64) rfl ?_);refine goesL_ (some 5) rfl rfl Try.func64 (by kernel_rfl) rfl #[.slice Ao5 y201.length co5,.string a0] rfl (by (try simp only [List.map_toArray,List.map_cons,List.map_nil]);first|done|rfl|(simp only [ld_,lt_];rfl)) ?_;(with_reducible refine (slices_Contains_string_string.calls k _ _ y201 a0 t204 _ ?side1 ?side2 A2.out).mono ?_);(case side1=>repeat (first|exact (Kd.R_reads' HO203.out).2.2|(with_reducible refine ca_ ?_ _)|(with_reducible refine cn_ ?_ _)|(with_reducible refine cd_ ?_)));(case side2=>exact (Kd.R_reads' HO203.out).2.1);rintro e w' ⟨rfl,⟨nd,rfl⟩⟩;refine ⟨_,rfl,?_⟩))
 go_ret
 exact ⟨by first|rfl|(simp [errW_none,errW_some] <;> rfl)|(simp [*,errW_none,errW_some] <;> rfl),by repeat (first|(with_reducible first|exact HB.out|apply ba_|apply pd_|apply b1_)|exact HB.out)⟩
/-! ### impl_Node_isVoid: function 48 -/
def impl_Node_isVoid.f (k:Nat) (a0_0:Int) (a0_1:Int) (a0_2:ByteArray) (a0_3:ByteArray) (l0_4:List (S63)) (l0_5:List (S28)):Option (Bool):=if a0_0=1 then (if a0_1=0 then ((impl_IsVoid.f k a0_2).bind fun t206=>(some t206)) else (some false)) else (some false)
theorem impl_Node_isVoid.mono:∀ a0 a1 a2 a3 a4 a5 k,LeO (impl_Node_isVoid.f k a0 a1 a2 a3 a4 a5) (impl_Node_isVoid.f (k+1) a0 a1 a2 a3 a4 a5):=by
 intro a0 a1 a2 a3 a4 a5 k
 unfold impl_Node_isVoid.f
 repeat' first
  | (with_reducible exact impl_IsVoid.mono _ _)
  | (with_reducible exact LeO.refl _)
  | (with_reducible exact LeO.none _)
  | (with_reducible refine LeO.ite ?_ ?_)
  | (with_reducible refine LeO.bind ?_ (fun _=>?_))
  | exact impl_IsVoid.mono _ _
  | exact LeO.none _
  | refine LeO.ite ?_ ?_
  | refine LeO.bind ?_ (fun _=>?_)
set_option maxHeartbeats 8000000 in
set_option maxRecDepth 100000 in
theorem impl_Node_isVoid.calls (k:Nat) (a0_0:Int) (a0_1:Int) (a0_2:ByteArray) (a0_3:ByteArray) (A0_4:Option Addr) (c0_4:Nat) (l0_4:List (S63)) (A0_5:Option Addr) (c0_5:Nat) (l0_5:List (S28)) (r:Bool) (w:World) (hr0_4:Kd.C k63 w A0_4 l0_4.length l0_4) (hc0_4:l0_4.length≤c0_4) (hr0_5:Kd.C k28 w A0_5 l0_5.length l0_5) (hc0_5:l0_5.length≤c0_5) (h:impl_Node_isVoid.f k a0_0 a0_1 a0_2 a0_3 l0_4 l0_5=some r) :
 Calls Try.prog 48 #[.agg #[.int .i64 a0_0,.int .i64 a0_1,.string a0_2,.string a0_3,.slice A0_4 l0_4.length c0_4,.slice A0_5 l0_5.length c0_5]] w fun e w'=>e=.returned (.bool r)∧Below w.heap.size w w':=by
 have hu28:=Try.underlying28
 have HR0_4:=A_ hr0_4
 have HC0_4:=A_ hc0_4
 clear hr0_4 hc0_4
 have HR0_5:=A_ hr0_5
 have HC0_5:=A_ hc0_5
 clear hr0_5 hc0_5
 have HB:=A_ (Below.refl w.heap.size w)
 have H:(if a0_0=1 then (if a0_1=0 then ((impl_IsVoid.f k a0_2).bind fun t206=>(some t206)) else (some false)) else (some false))=some r:=h
 clear h
 by_cases c2:a0_0=1
 ·rw [if_pos c2] at H
  have c2b0:(a0_0 == 1)=true:=beq_iff_eq.mpr c2
  have c2b1:(a0_0 != 1)=false:=bne_eq_false_iff_eq.mpr c2
  clear c2
  by_cases c3:a0_1=0
  ·rw [if_pos c3] at H
   have c3b0:(a0_1 == 0)=true:=beq_iff_eq.mpr c3
   have c3b1:(a0_1 != 0)=false:=bne_eq_false_iff_eq.mpr c3
   clear c3
   replace H:=ob_ H
   obtain ⟨t206,A40,H⟩:=H
   replace H:(some t206)=some r:=H
   have A4:=A_ A40
   clear A40
   obtain rfl:=oi_ H
   go_enter Try.func48,Try.ntmps48
   go_wp2_with (first|((with_reducible refine gate_dst (N:=1) rfl ?_);refine box_event ?hg (N:=1) ?hd (cs:=#[.int .i64 a0_0,.int .i64 a0_1,.string a0_2,.string a0_3,.slice A0_4 l0_4.length c0_4,.slice A0_5 l0_5.length c0_5]) (t:=28) ?hr ?_;(case hd=>rfl);(case hg=>rfl);(case hr=>first|(go_simp;done)|(go_simp;rfl));intro gb205 hg w5 hbox hb;have n0_:=A_ (bp_ (by repeat (first|(with_reducible first|exact HB.out|apply ba_|apply pd_|apply b1_)|exact HB.out)) hb);have n1_:=A_ (hbox);have n2_:=A_ ((by rw [hg];exact (bz_ (by repeat (first|(with_reducible first|exact HB.out|apply ba_|apply pd_|apply b1_)|exact HB.out))):w.heap.size≤gb205));have n3_:=A_ ((by rw [hg];exact (bz_ (by repeat (first|(with_reducible first|exact HB.out|apply ba_|apply pd_|apply b1_)|exact HB.out))):w.heap.size≤gb205));clear HB;have HB:=n0_;have BK205:=n1_;have GW205:=n2_;have GE205:=n3_;clear n0_ n1_ n2_ n3_;clear hb hbox hg;have hcz6_0:w5.cell? ⟨gb205,0,none⟩=some (.int .i64 a0_0):=(bc_ BK205.out 0).trans rfl;have hcz6_1:w5.cell? ⟨gb205,1,none⟩=some (.int .i64 a0_1):=(bc_ BK205.out 1).trans rfl;have hcz6_2:w5.cell? ⟨gb205,2,none⟩=some (.string a0_2):=(bc_ BK205.out 2).trans rfl;have hcz6_3:w5.cell? ⟨gb205,3,none⟩=some (.string a0_3):=(bc_ BK205.out 3).trans rfl;have hcz6_4:w5.cell? ⟨gb205,4,none⟩=some (.slice A0_4 l0_4.length c0_4):=(bc_ BK205.out 4).trans rfl;have hcz6_5:w5.cell? ⟨gb205,5,none⟩=some (.slice A0_5 l0_5.length c0_5):=(bc_ BK205.out 5).trans rfl;have hfz6_0:=bf_ BK205.out 0;have hfz6_1:=bf_ BK205.out 1;have hfz6_2:=bf_ BK205.out 2;have hfz6_3:=bf_ BK205.out 3;have hfz6_4:=bf_ BK205.out 4;have hfz6_5:=bf_ BK205.out 5)|(go_at_call 55;(with_reducible refine (impl_IsVoid.calls k a0_2 t206 _ A4.out).mono ?_);rintro e w7 ⟨rfl,hb⟩;have n0_:=A_ (kb_ (g:=gb205) (o:=.cells #[.int .i64 a0_0,.int .i64 a0_1,.string a0_2,.string a0_3,.slice A0_4 l0_4.length c0_4,.slice A0_5 l0_5.length c0_5] 28 (0,0)) (by (with_reducible repeat (first|refine kn_ ?_ _|refine kd_ ?_|refine ka_ ?_ _));exact BK205.out) hb);have n1_:=A_ (bp_ (by repeat (first|(with_reducible first|exact HB.out|apply ba_|apply pd_|apply b1_|refine bs_ ?_ GE205.out)|exact HB.out)) hb);clear BK205;clear HB;have BK205:=n0_;have HB:=n1_;clear n0_ n1_;(try clear hb);(try clear hb2);(try clear hk);(try clear hi)))
   go_ret
   exact ⟨by first|rfl|(simp [errW_none,errW_some] <;> rfl)|(simp [*,errW_none,errW_some] <;> rfl),by repeat (first|(with_reducible first|exact HB.out|apply ba_|apply pd_|apply b1_|refine bs_ ?_ GE205.out)|exact HB.out)⟩
  ·rw [if_neg c3] at H
   have c3b0:(a0_1 == 0)=false:=beq_eq_false_iff_ne.mpr c3
   have c3b1:(a0_1 != 0)=true:=bne_iff_ne.mpr c3
   obtain rfl:=oi_ H
   go_enter Try.func48,Try.ntmps48
   go_wp2_with (first|((with_reducible refine gate_dst (N:=1) rfl ?_);refine box_event ?hg (N:=1) ?hd (cs:=#[.int .i64 a0_0,.int .i64 a0_1,.string a0_2,.string a0_3,.slice A0_4 l0_4.length c0_4,.slice A0_5 l0_5.length c0_5]) (t:=28) ?hr ?_;(case hd=>rfl);(case hg=>rfl);(case hr=>first|(go_simp;done)|(go_simp;rfl));intro gb205 hg w8 hbox hb;have n0_:=A_ (bp_ (by repeat (first|(with_reducible first|exact HB.out|apply ba_|apply pd_|apply b1_)|exact HB.out)) hb);have n1_:=A_ (hbox);have n2_:=A_ ((by rw [hg];exact (bz_ (by repeat (first|(with_reducible first|exact HB.out|apply ba_|apply pd_|apply b1_)|exact HB.out))):w.heap.size≤gb205));have n3_:=A_ ((by rw [hg];exact (bz_ (by repeat (first|(with_reducible first|exact HB.out|apply ba_|apply pd_|apply b1_)|exact HB.out))):w.heap.size≤gb205));clear HB;have HB:=n0_;have BK205:=n1_;have GW205:=n2_;have GE205:=n3_;clear n0_ n1_ n2_ n3_;clear hb hbox hg;have hcz9_0:w8.cell? ⟨gb205,0,none⟩=some (.int .i64 a0_0):=(bc_ BK205.out 0).trans rfl;have hcz9_1:w8.cell? ⟨gb205,1,none⟩=some (.int .i64 a0_1):=(bc_ BK205.out 1).trans rfl;have hcz9_2:w8.cell? ⟨gb205,2,none⟩=some (.string a0_2):=(bc_ BK205.out 2).trans rfl;have hcz9_3:w8.cell? ⟨gb205,3,none⟩=some (.string a0_3):=(bc_ BK205.out 3).trans rfl;have hcz9_4:w8.cell? ⟨gb205,4,none⟩=some (.slice A0_4 l0_4.length c0_4):=(bc_ BK205.out 4).trans rfl;have hcz9_5:w8.cell? ⟨gb205,5,none⟩=some (.slice A0_5 l0_5.length c0_5):=(bc_ BK205.out 5).trans rfl;have hfz9_0:=bf_ BK205.out 0;have hfz9_1:=bf_ BK205.out 1;have hfz9_2:=bf_ BK205.out 2;have hfz9_3:=bf_ BK205.out 3;have hfz9_4:=bf_ BK205.out 4;have hfz9_5:=bf_ BK205.out 5))
   go_ret
   exact ⟨by first|rfl|(simp [errW_none,errW_some] <;> rfl)|(simp [*,errW_none,errW_some] <;> rfl),by repeat (first|(with_reducible first|exact HB.out|apply ba_|apply pd_|apply b1_|refine bs_ ?_ GE205.out)|exact HB.out)⟩
 ·rw [if_neg c2] at H
  have c2b0:(a0_0 == 1)=false:=beq_eq_false_iff_ne.mpr c2
  have c2b1:(a0_0 != 1)=true:=bne_iff_ne.mpr c2
  obtain rfl:=oi_ H
  go_enter Try.func48,Try.ntmps48
  go_wp2_with (first|((with_reducible refine gate_dst (N:=1) rfl ?_);refine box_event ?hg (N:=1) ?hd (cs:=#[.int .i64 a0_0,.int .i64 a0_1,.string a0_2,.string a0_3,.slice A0_4 l0_4.length c0_4,.slice A0_5 l0_5.length c0_5]) (t:=28) ?hr ?_;(case hd=>rfl);(case hg=>rfl);(case hr=>first|(go_simp;done)|(go_simp;rfl));intro gb205 hg w10 hbox hb;have n0_:=A_ (bp_ (by repeat (first|(with_reducible first|exact HB.out|apply ba_|apply pd_|apply b1_)|exact HB.out)) hb);have n1_:=A_ (hbox);have n2_:=A_ ((by rw [hg];exact (bz_ (by repeat (first|(with_reducible first|exact HB.out|apply ba_|apply pd_|apply b1_)|exact HB.out))):w.heap.size≤gb205));have n3_:=A_ ((by rw [hg];exact (bz_ (by repeat (first|(with_reducible first|exact HB.out|apply ba_|apply pd_|apply b1_)|exact HB.out))):w.heap.size≤gb205));clear HB;have HB:=n0_;have BK205:=n1_;have GW205:=n2_;have GE205:=n3_;clear n0_ n1_ n2_ n3_;clear hb hbox hg;have hcz11_0:w10.cell? ⟨gb205,0,none⟩=some (.int .i64 a0_0):=(bc_ BK205.out 0).trans rfl;have hcz11_1:w10.cell? ⟨gb205,1,none⟩=some (.int .i64 a0_1):=(bc_ BK205.out 1).trans rfl;have hcz11_2:w10.cell? ⟨gb205,2,none⟩=some (.string a0_2):=(bc_ BK205.out 2).trans rfl;have hcz11_3:w10.cell? ⟨gb205,3,none⟩=some (.string a0_3):=(bc_ BK205.out 3).trans rfl;have hcz11_4:w10.cell? ⟨gb205,4,none⟩=some (.slice A0_4 l0_4.length c0_4):=(bc_ BK205.out 4).trans rfl;have hcz11_5:w10.cell? ⟨gb205,5,none⟩=some (.slice A0_5 l0_5.length c0_5):=(bc_ BK205.out 5).trans rfl;have hfz11_0:=bf_ BK205.out 0;have hfz11_1:=bf_ BK205.out 1;have hfz11_2:=bf_ BK205.out 2;have hfz11_3:=bf_ BK205.out 3;have hfz11_4:=bf_ BK205.out 4;have hfz11_5:=bf_ BK205.out 5))
  go_ret
  exact ⟨by first|rfl|(simp [errW_none,errW_some] <;> rfl)|(simp [*,errW_none,errW_some] <;> rfl),by repeat (first|(with_reducible first|exact HB.out|apply ba_|apply pd_|apply b1_|refine bs_ ?_ GE205.out)|exact HB.out)⟩
def voidL:List ByteArray:=[⟨#[98,114]⟩,⟨#[104,114]⟩,⟨#[105,109,103]⟩,⟨#[105,110,112,117,116]⟩,⟨#[109,101,116,97]⟩,⟨#[108,105,110,107]⟩,⟨#[98,97,115,101]⟩,⟨#[101,109,98,101,100]⟩]
theorem ev_IsVoid (a:ByteArray):Ev (fun k=>impl_IsVoid.f k a) (Kit.hasT voidL a):=Ev.bind (ev_slices_Contains _ a (by decide)) (Ev.now _)
def voidB (x:S28):Bool:=if x.f0=1 then (if x.f1=0 then Kit.hasT voidL x.f2 else false) else false
theorem ev_isVoidN (x:S28):Ev (fun k=>impl_Node_isVoid.f k x.f0 x.f1 x.f2 x.f3 x.f4 x.f5) (voidB x):=by
 unfold impl_Node_isVoid.f voidB
 refine Kit.ev_if (fun h=>?_) (fun h=>?_)
 case refine_2=>rw [if_neg h];exact Ev.now _
 case refine_1 =>
  rw [if_pos h]
  refine Kit.ev_if (fun h=>?_) (fun h=>?_)
  case refine_2=>rw [if_neg h];exact Ev.now _
  case refine_1=>rw [if_pos h];exact Ev.bind (ev_IsVoid x.f2) (Ev.now _)
theorem impl_Node_isVoid.pure (x:S28) (A4:Option Addr) (c4:Nat) (A5:Option Addr) (c5:Nat) (W:World) (h4:Kd.C k63 W A4 x.f4.length x.f4) (l4:x.f4.length≤c4) (h5:Kd.C k28 W A5 x.f5.length x.f5) (l5:x.f5.length≤c5):Calls Try.prog 48 #[.agg #[.int .i64 x.f0,.int .i64 x.f1,.string x.f2,.string x.f3,.slice A4 x.f4.length c4,.slice A5 x.f5.length c5]] W fun e w'=>e=.returned (.bool (voidB x))∧Below W.heap.size W w':=by
 obtain ⟨K,hK⟩:=ev_isVoidN x
 exact impl_Node_isVoid.calls K x.f0 x.f1 x.f2 x.f3 A4 c4 x.f4 A5 c5 x.f5 _ W h4 l4 h5 l5 (hK K (Nat.le_refl _))
/-! ### impl_IsRaw: function 56 -/
def impl_IsRaw.f (k:Nat) (a0:ByteArray):Option (Bool):=(slices_Contains_string_string.f k (([(⟨#[115,116,121,108,101]⟩:ByteArray),(⟨#[115,99,114,105,112,116]⟩:ByteArray),(⟨#[120,109,112]⟩:ByteArray),(⟨#[105,102,114,97,109,101]⟩:ByteArray)]:List ByteArray)) a0).bind fun t210=>(some t210)
theorem impl_IsRaw.mono:∀ a0 k,LeO (impl_IsRaw.f k a0) (impl_IsRaw.f (k+1) a0):=by
 intro a0 k
 unfold impl_IsRaw.f
 repeat' first
  | (with_reducible exact slices_Contains_string_string.mono _ _ _)
  | (with_reducible exact LeO.refl _)
  | (with_reducible exact LeO.none _)
  | (with_reducible refine LeO.ite ?_ ?_)
  | (with_reducible refine LeO.bind ?_ (fun _=>?_))
  | exact slices_Contains_string_string.mono _ _ _
  | exact LeO.none _
  | refine LeO.ite ?_ ?_
  | refine LeO.bind ?_ (fun _=>?_)
set_option maxHeartbeats 8000000 in
set_option maxRecDepth 100000 in
theorem impl_IsRaw.calls (k:Nat) (a0:ByteArray) (r:Bool) (w:World) (h:impl_IsRaw.f k a0=some r) :
 Calls Try.prog 56 #[.string a0] w fun e w'=>e=.returned (.bool r)∧Below w.heap.size w w':=by
 have HB:=A_ (Below.refl w.heap.size w)
 have H:((slices_Contains_string_string.f k (([(⟨#[115,116,121,108,101]⟩:ByteArray),(⟨#[115,99,114,105,112,116]⟩:ByteArray),(⟨#[120,109,112]⟩:ByteArray),(⟨#[105,102,114,97,109,101]⟩:ByteArray)]:List ByteArray)) a0).bind fun t210=>(some t210))=some r:=h
 clear h
 obtain ⟨y207,hy207⟩:∃ y_:List ByteArray,y_=(([(⟨#[115,116,121,108,101]⟩:ByteArray),(⟨#[115,99,114,105,112,116]⟩:ByteArray),(⟨#[120,109,112]⟩:ByteArray),(⟨#[105,102,114,97,109,101]⟩:ByteArray)]:List ByteArray)):=⟨_,rfl⟩
 replace H:((slices_Contains_string_string.f k y207 a0).bind fun t210=>(some t210))=some r:=by first|(rw [hy207];with_reducible exact H)|(have H2_:=(Option.bind_some _ _).symm.trans H;rw [hy207];with_reducible exact H2_)|(have H2_:=(Option.bind_some _ _).symm.trans H;with_reducible exact H2_)|with_reducible exact H|(rw [hy207];exact H)|exact H
 have Ny207:=A_ hy207
 clear hy207
 replace H:=ob_ H
 obtain ⟨t210,A20,H⟩:=H
 replace H:(some t210)=some r:=H
 have A2:=A_ A20
 clear A20
 obtain rfl:=oi_ H
 go_enter Try.func56,Try.ntmps56
 go_wp2_with (first|((with_reducible refine gate_dst (N:=3) rfl ?_);refine Kd.R_lit Kd.string _ 9 ?hg (N:=3) ?hd (xs:=([(⟨#[115,116,121,108,101]⟩:ByteArray),(⟨#[115,99,114,105,112,116]⟩:ByteArray),(⟨#[120,109,112]⟩:ByteArray),(⟨#[105,102,114,97,109,101]⟩:ByteArray)]:List ByteArray)) (inner:=[.string (⟨#[115,116,121,108,101]⟩:ByteArray),.string (⟨#[115,99,114,105,112,116]⟩:ByteArray),.string (⟨#[120,109,112]⟩:ByteArray),.string (⟨#[105,102,114,97,109,101]⟩:ByteArray)]) (ok:=fun _=>True) (okp:=fun _=>True) ?hr ?hp (fun _ hk=>hk) trivial (Below.refl _ _) (Nat.le_refl _) (by simp) ?_;(case hd=>rfl);(case hg=>rfl);(case hr=>first|(go_simp;done)|(go_simp;rfl)|(first|(go_simp;done)|(go_simp;rfl)));(case hp=>exact (Reps.one (show Kd.M Kd.string _ _ _ (⟨#[115,116,121,108,101]⟩:ByteArray) [.string (⟨#[115,116,121,108,101]⟩:ByteArray)] from rfl) (Reps.one (show Kd.M Kd.string _ _ _ (⟨#[115,99,114,105,112,116]⟩:ByteArray) [.string (⟨#[115,99,114,105,112,116]⟩:ByteArray)] from rfl) (Reps.one (show Kd.M Kd.string _ _ _ (⟨#[120,109,112]⟩:ByteArray) [.string (⟨#[120,109,112]⟩:ByteArray)] from rfl) (Reps.one (show Kd.M Kd.string _ _ _ (⟨#[105,102,114,97,109,101]⟩:ByteArray) [.string (⟨#[105,102,114,97,109,101]⟩:ByteArray)] from rfl) (Reps.none _ _))))));intro v208 w3 ho4 hb hg_ hnew_;clear hg_ hnew_;(first|rw [←Ny207.out] at ho4|(simp only [Int.reduceToNat] at ho4;rw [←Ny207.out] at ho4));have n0_:=A_ (Kd.R_lower ho4 (bz_ (by repeat (first|(with_reducible first|exact HB.out|apply ba_|apply pd_|apply b1_)|exact HB.out))));have n1_:=A_ (bp_ (by repeat (first|(with_reducible first|exact HB.out|apply ba_|apply pd_|apply b1_)|exact HB.out)) hb);clear HB;have HO209:=n0_;have HB:=n1_;clear n0_ n1_;clear hb ho4;obtain ⟨Ao5,co5,eo5⟩:=Kd.R_slice HO209.out;subst eo5)|((with_reducible refine gate_callee (f:=64) rfl ?_);refine goesL_ (some 5) rfl rfl Try.func64 (by kernel_rfl) rfl #[.slice Ao5 y207.length co5,.string a0] rfl (by (try simp only [List.map_toArray,List.map_cons,List.map_nil]);first|done|rfl|(simp only [ld_,lt_];rfl)) ?_;(with_reducible refine (slices_Contains_string_string.calls k _ _ y207 a0 t210 _ ?side1 ?side2 A2.out).mono ?_);(case side1=>repeat (first|exact (Kd.R_reads' HO209.out).2.2|(with_reducible refine ca_ ?_ _)|(with_reducible refine cn_ ?_ _)|(with_reducible refine cd_ ?_)));(case side2=>exact (Kd.R_reads' HO209.out).2.1);rintro e w' ⟨rfl,⟨nd,rfl⟩⟩;refine ⟨_,rfl,?_⟩))
 go_ret
 exact ⟨by first|rfl|(simp [errW_none,errW_some] <;> rfl)|(simp [*,errW_none,errW_some] <;> rfl),by repeat (first|(with_reducible first|exact HB.out|apply ba_|apply pd_|apply b1_)|exact HB.out)⟩
/-! ### impl_Node_isRaw: function 49 -/
def impl_Node_isRaw.f (k:Nat) (a0_0:Int) (a0_1:Int) (a0_2:ByteArray) (a0_3:ByteArray) (l0_4:List (S63)) (l0_5:List (S28)):Option (Bool):=if a0_0=1 then (if a0_1=0 then ((impl_IsRaw.f k a0_2).bind fun t212=>(some t212)) else (some false)) else (some false)
theorem impl_Node_isRaw.mono:∀ a0 a1 a2 a3 a4 a5 k,LeO (impl_Node_isRaw.f k a0 a1 a2 a3 a4 a5) (impl_Node_isRaw.f (k+1) a0 a1 a2 a3 a4 a5):=by
 intro a0 a1 a2 a3 a4 a5 k
 unfold impl_Node_isRaw.f
 repeat' first
  | (with_reducible exact impl_IsRaw.mono _ _)
  | (with_reducible exact LeO.refl _)
  | (with_reducible exact LeO.none _)
  | (with_reducible refine LeO.ite ?_ ?_)
  | (with_reducible refine LeO.bind ?_ (fun _=>?_))
  | exact impl_IsRaw.mono _ _
  | exact LeO.none _
  | refine LeO.ite ?_ ?_
  | refine LeO.bind ?_ (fun _=>?_)
set_option maxHeartbeats 8000000 in
set_option maxRecDepth 100000 in
theorem impl_Node_isRaw.calls (k:Nat) (a0_0:Int) (a0_1:Int) (a0_2:ByteArray) (a0_3:ByteArray) (A0_4:Option Addr) (c0_4:Nat) (l0_4:List (S63)) (A0_5:Option Addr) (c0_5:Nat) (l0_5:List (S28)) (r:Bool) (w:World) (hr0_4:Kd.C k63 w A0_4 l0_4.length l0_4) (hc0_4:l0_4.length≤c0_4) (hr0_5:Kd.C k28 w A0_5 l0_5.length l0_5) (hc0_5:l0_5.length≤c0_5) (h:impl_Node_isRaw.f k a0_0 a0_1 a0_2 a0_3 l0_4 l0_5=some r) :
 Calls Try.prog 49 #[.agg #[.int .i64 a0_0,.int .i64 a0_1,.string a0_2,.string a0_3,.slice A0_4 l0_4.length c0_4,.slice A0_5 l0_5.length c0_5]] w fun e w'=>e=.returned (.bool r)∧Below w.heap.size w w':=by
 have hu28:=Try.underlying28
 have HR0_4:=A_ hr0_4
 have HC0_4:=A_ hc0_4
 clear hr0_4 hc0_4
 have HR0_5:=A_ hr0_5
 have HC0_5:=A_ hc0_5
 clear hr0_5 hc0_5
 have HB:=A_ (Below.refl w.heap.size w)
 have H:(if a0_0=1 then (if a0_1=0 then ((impl_IsRaw.f k a0_2).bind fun t212=>(some t212)) else (some false)) else (some false))=some r:=h
 clear h
 by_cases c2:a0_0=1
 ·rw [if_pos c2] at H
  have c2b0:(a0_0 == 1)=true:=beq_iff_eq.mpr c2
  have c2b1:(a0_0 != 1)=false:=bne_eq_false_iff_eq.mpr c2
  clear c2
  by_cases c3:a0_1=0
  ·rw [if_pos c3] at H
   have c3b0:(a0_1 == 0)=true:=beq_iff_eq.mpr c3
   have c3b1:(a0_1 != 0)=false:=bne_eq_false_iff_eq.mpr c3
   clear c3
   replace H:=ob_ H
   obtain ⟨t212,A40,H⟩:=H
   replace H:(some t212)=some r:=H
   have A4:=A_ A40
   clear A40
   obtain rfl:=oi_ H
   go_enter Try.func49,Try.ntmps49
   go_wp2_with (first|((with_reducible refine gate_dst (N:=1) rfl ?_);refine box_event ?hg (N:=1) ?hd (cs:=#[.int .i64 a0_0,.int .i64 a0_1,.string a0_2,.string a0_3,.slice A0_4 l0_4.length c0_4,.slice A0_5 l0_5.length c0_5]) (t:=28) ?hr ?_;(case hd=>rfl);(case hg=>rfl);(case hr=>first|(go_simp;done)|(go_simp;rfl));intro gb211 hg w5 hbox hb;have n0_:=A_ (bp_ (by repeat (first|(with_reducible first|exact HB.out|apply ba_|apply pd_|apply b1_)|exact HB.out)) hb);have n1_:=A_ (hbox);have n2_:=A_ ((by rw [hg];exact (bz_ (by repeat (first|(with_reducible first|exact HB.out|apply ba_|apply pd_|apply b1_)|exact HB.out))):w.heap.size≤gb211));have n3_:=A_ ((by rw [hg];exact (bz_ (by repeat (first|(with_reducible first|exact HB.out|apply ba_|apply pd_|apply b1_)|exact HB.out))):w.heap.size≤gb211));clear HB;have HB:=n0_;have BK211:=n1_;have GW211:=n2_;have GE211:=n3_;clear n0_ n1_ n2_ n3_;clear hb hbox hg;have hcz6_0:w5.cell? ⟨gb211,0,none⟩=some (.int .i64 a0_0):=(bc_ BK211.out 0).trans rfl;have hcz6_1:w5.cell? ⟨gb211,1,none⟩=some (.int .i64 a0_1):=(bc_ BK211.out 1).trans rfl;have hcz6_2:w5.cell? ⟨gb211,2,none⟩=some (.string a0_2):=(bc_ BK211.out 2).trans rfl;have hcz6_3:w5.cell? ⟨gb211,3,none⟩=some (.string a0_3):=(bc_ BK211.out 3).trans rfl;have hcz6_4:w5.cell? ⟨gb211,4,none⟩=some (.slice A0_4 l0_4.length c0_4):=(bc_ BK211.out 4).trans rfl;have hcz6_5:w5.cell? ⟨gb211,5,none⟩=some (.slice A0_5 l0_5.length c0_5):=(bc_ BK211.out 5).trans rfl;have hfz6_0:=bf_ BK211.out 0;have hfz6_1:=bf_ BK211.out 1;have hfz6_2:=bf_ BK211.out 2;have hfz6_3:=bf_ BK211.out 3;have hfz6_4:=bf_ BK211.out 4;have hfz6_5:=bf_ BK211.out 5)|(go_at_call 56;(with_reducible refine (impl_IsRaw.calls k a0_2 t212 _ A4.out).mono ?_);rintro e w7 ⟨rfl,hb⟩;have n0_:=A_ (kb_ (g:=gb211) (o:=.cells #[.int .i64 a0_0,.int .i64 a0_1,.string a0_2,.string a0_3,.slice A0_4 l0_4.length c0_4,.slice A0_5 l0_5.length c0_5] 28 (0,0)) (by (with_reducible repeat (first|refine kn_ ?_ _|refine kd_ ?_|refine ka_ ?_ _));exact BK211.out) hb);have n1_:=A_ (bp_ (by repeat (first|(with_reducible first|exact HB.out|apply ba_|apply pd_|apply b1_|refine bs_ ?_ GE211.out)|exact HB.out)) hb);clear BK211;clear HB;have BK211:=n0_;have HB:=n1_;clear n0_ n1_;(try clear hb);(try clear hb2);(try clear hk);(try clear hi)))
   go_ret
   exact ⟨by first|rfl|(simp [errW_none,errW_some] <;> rfl)|(simp [*,errW_none,errW_some] <;> rfl),by repeat (first|(with_reducible first|exact HB.out|apply ba_|apply pd_|apply b1_|refine bs_ ?_ GE211.out)|exact HB.out)⟩
  ·rw [if_neg c3] at H
   have c3b0:(a0_1 == 0)=false:=beq_eq_false_iff_ne.mpr c3
   have c3b1:(a0_1 != 0)=true:=bne_iff_ne.mpr c3
   obtain rfl:=oi_ H
   go_enter Try.func49,Try.ntmps49
   go_wp2_with (first|((with_reducible refine gate_dst (N:=1) rfl ?_);refine box_event ?hg (N:=1) ?hd (cs:=#[.int .i64 a0_0,.int .i64 a0_1,.string a0_2,.string a0_3,.slice A0_4 l0_4.length c0_4,.slice A0_5 l0_5.length c0_5]) (t:=28) ?hr ?_;(case hd=>rfl);(case hg=>rfl);(case hr=>first|(go_simp;done)|(go_simp;rfl));intro gb211 hg w8 hbox hb;have n0_:=A_ (bp_ (by repeat (first|(with_reducible first|exact HB.out|apply ba_|apply pd_|apply b1_)|exact HB.out)) hb);have n1_:=A_ (hbox);have n2_:=A_ ((by rw [hg];exact (bz_ (by repeat (first|(with_reducible first|exact HB.out|apply ba_|apply pd_|apply b1_)|exact HB.out))):w.heap.size≤gb211));have n3_:=A_ ((by rw [hg];exact (bz_ (by repeat (first|(with_reducible first|exact HB.out|apply ba_|apply pd_|apply b1_)|exact HB.out))):w.heap.size≤gb211));clear HB;have HB:=n0_;have BK211:=n1_;have GW211:=n2_;have GE211:=n3_;clear n0_ n1_ n2_ n3_;clear hb hbox hg;have hcz9_0:w8.cell? ⟨gb211,0,none⟩=some (.int .i64 a0_0):=(bc_ BK211.out 0).trans rfl;have hcz9_1:w8.cell? ⟨gb211,1,none⟩=some (.int .i64 a0_1):=(bc_ BK211.out 1).trans rfl;have hcz9_2:w8.cell? ⟨gb211,2,none⟩=some (.string a0_2):=(bc_ BK211.out 2).trans rfl;have hcz9_3:w8.cell? ⟨gb211,3,none⟩=some (.string a0_3):=(bc_ BK211.out 3).trans rfl;have hcz9_4:w8.cell? ⟨gb211,4,none⟩=some (.slice A0_4 l0_4.length c0_4):=(bc_ BK211.out 4).trans rfl;have hcz9_5:w8.cell? ⟨gb211,5,none⟩=some (.slice A0_5 l0_5.length c0_5):=(bc_ BK211.out 5).trans rfl;have hfz9_0:=bf_ BK211.out 0;have hfz9_1:=bf_ BK211.out 1;have hfz9_2:=bf_ BK211.out 2;have hfz9_3:=bf_ BK211.out 3;have hfz9_4:=bf_ BK211.out 4;have hfz9_5:=bf_ BK211.out 5))
   go_ret
   exact ⟨by first|rfl|(simp [errW_none,errW_some] <;> rfl)|(simp [*,errW_none,errW_some] <;> rfl),by repeat (first|(with_reducible first|exact HB.out|apply ba_|apply pd_|apply b1_|refine bs_ ?_ GE211.out)|exact HB.out)⟩
 ·rw [if_neg c2] at H
  have c2b0:(a0_0 == 1)=false:=beq_eq_false_iff_ne.mpr c2
  have c2b1:(a0_0 != 1)=true:=bne_iff_ne.mpr c2
  obtain rfl:=oi_ H
  go_enter Try.func49,Try.ntmps49
  go_wp2_with (first|((with_reducible refine gate_dst (N:=1) rfl ?_);refine box_event ?hg (N:=1) ?hd (cs:=#[.int .i64 a0_0,.int .i64 a0_1,.string a0_2,.string a0_3,.slice A0_4 l0_4.length c0_4,.slice A0_5 l0_5.length c0_5]) (t:=28) ?hr ?_;(case hd=>rfl);(case hg=>rfl);(case hr=>first|(go_simp;done)|(go_simp;rfl));intro gb211 hg w10 hbox hb;have n0_:=A_ (bp_ (by repeat (first|(with_reducible first|exact HB.out|apply ba_|apply pd_|apply b1_)|exact HB.out)) hb);have n1_:=A_ (hbox);have n2_:=A_ ((by rw [hg];exact (bz_ (by repeat (first|(with_reducible first|exact HB.out|apply ba_|apply pd_|apply b1_)|exact HB.out))):w.heap.size≤gb211));have n3_:=A_ ((by rw [hg];exact (bz_ (by repeat (first|(with_reducible first|exact HB.out|apply ba_|apply pd_|apply b1_)|exact HB.out))):w.heap.size≤gb211));clear HB;have HB:=n0_;have BK211:=n1_;have GW211:=n2_;have GE211:=n3_;clear n0_ n1_ n2_ n3_;clear hb hbox hg;have hcz11_0:w10.cell? ⟨gb211,0,none⟩=some (.int .i64 a0_0):=(bc_ BK211.out 0).trans rfl;have hcz11_1:w10.cell? ⟨gb211,1,none⟩=some (.int .i64 a0_1):=(bc_ BK211.out 1).trans rfl;have hcz11_2:w10.cell? ⟨gb211,2,none⟩=some (.string a0_2):=(bc_ BK211.out 2).trans rfl;have hcz11_3:w10.cell? ⟨gb211,3,none⟩=some (.string a0_3):=(bc_ BK211.out 3).trans rfl;have hcz11_4:w10.cell? ⟨gb211,4,none⟩=some (.slice A0_4 l0_4.length c0_4):=(bc_ BK211.out 4).trans rfl;have hcz11_5:w10.cell? ⟨gb211,5,none⟩=some (.slice A0_5 l0_5.length c0_5):=(bc_ BK211.out 5).trans rfl;have hfz11_0:=bf_ BK211.out 0;have hfz11_1:=bf_ BK211.out 1;have hfz11_2:=bf_ BK211.out 2;have hfz11_3:=bf_ BK211.out 3;have hfz11_4:=bf_ BK211.out 4;have hfz11_5:=bf_ BK211.out 5))
  go_ret
  exact ⟨by first|rfl|(simp [errW_none,errW_some] <;> rfl)|(simp [*,errW_none,errW_some] <;> rfl),by repeat (first|(with_reducible first|exact HB.out|apply ba_|apply pd_|apply b1_|refine bs_ ?_ GE211.out)|exact HB.out)⟩
def rawL:List ByteArray:=[⟨#[115,116,121,108,101]⟩,⟨#[115,99,114,105,112,116]⟩,⟨#[120,109,112]⟩,⟨#[105,102,114,97,109,101]⟩]
theorem ev_IsRaw (a:ByteArray):Ev (fun k=>impl_IsRaw.f k a) (Kit.hasT rawL a):=Ev.bind (ev_slices_Contains _ a (by decide)) (Ev.now _)
def rawB (x:S28):Bool:=if x.f0=1 then (if x.f1=0 then Kit.hasT rawL x.f2 else false) else false
theorem ev_isRawN (x:S28):Ev (fun k=>impl_Node_isRaw.f k x.f0 x.f1 x.f2 x.f3 x.f4 x.f5) (rawB x):=by
 unfold impl_Node_isRaw.f rawB
 refine Kit.ev_if (fun h=>?_) (fun h=>?_)
 case refine_2=>rw [if_neg h];exact Ev.now _
 case refine_1 =>
  rw [if_pos h]
  refine Kit.ev_if (fun h=>?_) (fun h=>?_)
  case refine_2=>rw [if_neg h];exact Ev.now _
  case refine_1=>rw [if_pos h];exact Ev.bind (ev_IsRaw x.f2) (Ev.now _)
theorem impl_Node_isRaw.pure (x:S28) (A4:Option Addr) (c4:Nat) (A5:Option Addr) (c5:Nat) (W:World) (h4:Kd.C k63 W A4 x.f4.length x.f4) (l4:x.f4.length≤c4) (h5:Kd.C k28 W A5 x.f5.length x.f5) (l5:x.f5.length≤c5):Calls Try.prog 49 #[.agg #[.int .i64 x.f0,.int .i64 x.f1,.string x.f2,.string x.f3,.slice A4 x.f4.length c4,.slice A5 x.f5.length c5]] W fun e w'=>e=.returned (.bool (rawB x))∧Below W.heap.size W w':=by
 obtain ⟨K,hK⟩:=ev_isRawN x
 exact impl_Node_isRaw.calls K x.f0 x.f1 x.f2 x.f3 A4 c4 x.f4 A5 c5 x.f5 _ W h4 l4 h5 l5 (hK K (Nat.le_refl _))
end Go.Proofs.Ytjhfempockbdoaa.PFnExactNodeAt
