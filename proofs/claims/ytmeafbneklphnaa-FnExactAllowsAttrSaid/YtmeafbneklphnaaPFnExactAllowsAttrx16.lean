/- By a program of this session, out of the kit's print and contracts made by hand: the machine side of a law; Lean checks it. No conditions. -/
import Derived.Test.YtmeafbneklphnaaPFnExactAllowsAttrx0
import Derived.Test.YtmeafbneklphnaaPFnExactAllowsAttrx12
import Derived.Test.YtmeafbneklphnaaPFnExactAllowsAttrx15
namespace Go.Proofs.Ytmeafbneklphnaa.PFnExactAllowsAttr
open Go.RowKit Go.Proofs.YtmeafbneklphnaaW.PrintWords Go.Proofs.YtmeafbneklphnaaW.PrintLast Go.Proofs.YtmeafbneklphnaaW.PrintMore
attribute [local go_sem] max2_int min2_int max_two min_two max_three min_three max_four min_four
set_option linter.unusedVariables false
set_option linter.unusedSimpArgs false
/-! ### impl_lower: function 112, by hand -/
open Go.Proofs.Ytmeafbneklphnaa.Kit (lowC lowS)
def impl_lower.f (a0:ByteArray):Option ByteArray:=if a0.size≤9223372036854775807 then some (lowS a0) else none
theorem lower_start (w:World) (s:ByteArray) (j:Nat) (hj:j<s.size):(Lib.bytesWorld w 5 s).cell? ⟨w.heap.size,j,none⟩=some (.int .u8 (bt s (j:Int))):=by
 rw [Lib.bytesWorld_cell w 5 s j hj]
 have:j<s.data.toList.length:=by rw [data_length];exact hj
 simp only [bt,Int.toNat_natCast,dif_pos hj,List.getD_eq_getElem?_getD,List.getElem?_eq_getElem this,Option.getD_some]
 rfl
theorem lower_free (w:World) (s:ByteArray) (j:Nat) (hj:j<s.size):(Lib.bytesWorld w 5 s).frozen? ⟨w.heap.size,j,none⟩=false:=by
 have hsz:s.size≤(Lib.bytesCells w 5 s).size:=by
  unfold Lib.bytesCells
  rw [Array.size_append,Array.size_map]
  have:s.data.size=s.size:=rfl
  omega
 simp only [World.frozen?,Lib.bytesWorld_at_new]
 simp
 omega
/-- The row behind k rounds. -/
def LowRow (W:World) (B:Nat) (s:ByteArray) (k:Nat):Prop :=
 (∀ j:Nat,j<s.size→W.cell? ⟨B,j,none⟩=some (.int .u8 (if j<k then lowC (bt s (j:Int)) else bt s (j:Int))))∧∀ j,j<s.size→W.frozen? ⟨B,j,none⟩=false
theorem LowRow.start (w:World) (s:ByteArray):LowRow (Lib.bytesWorld w 5 s) w.heap.size s 0 :=
 ⟨fun j hj=>by rw [if_neg (Nat.not_lt_zero _)];exact lower_start w s j hj,lower_free w s⟩
theorem LowRow.stay {W:World} {B:Nat} {s:ByteArray} {k:Nat} (h:LowRow W B s k) (hk:k<s.size) (hc:¬ (65≤bt s (k:Int)∧bt s (k:Int)≤90)):LowRow W B s (k+1):=by
 refine ⟨fun j hj=>?_,h.2⟩
 rw [h.1 j hj]
 by_cases e:j=k
 ·subst e
  rw [if_neg (Nat.lt_irrefl _),if_pos (Nat.lt_succ_self _)]
  unfold lowC
  rw [if_neg hc]
 ·by_cases h1:j<k
  ·rw [if_pos h1,if_pos (by omega)]
  ·rw [if_neg h1,if_neg (by omega)]
theorem LowRow.turn {W:World} {B:Nat} {s:ByteArray} {k:Nat} (h:LowRow W B s k) (hk:k<s.size) (hc:65≤bt s (k:Int)∧bt s (k:Int)≤90):LowRow (W.setCell ⟨B,k,none⟩ (.int .u8 (bt s (k:Int)+32))) B s (k+1):=by
 refine ⟨fun j hj=>?_,fun j hj=>by rw [World.frozen?_setCell];exact h.2 j hj⟩
 by_cases e:j=k
 ·subst e
  rw [if_pos (Nat.lt_succ_self _)]
  unfold lowC
  rw [if_pos hc]
  have h3:=h.1 j hj
  apply World.cell?_setCell_same
  exact h3
 ·rw [World.cell?_setCell_other (h:=fun h=>by injection h;omega),h.1 j hj]
  by_cases h1:j<k
  ·rw [if_pos h1,if_pos (by omega)]
  ·rw [if_neg h1,if_neg (by omega)]
set_option maxHeartbeats 1000000 in
theorem impl_lower.calls (a0:ByteArray) (r:ByteArray) (w:World) (h:impl_lower.f a0=some r) :
 Calls Try.prog 112 #[.string a0] w fun e w'=>e=.returned (.string r)∧Below w.heap.size w w':=by
 unfold impl_lower.f at h
 obtain ⟨hn,h⟩:=Option.ite_none_right_eq_some.mp h
 obtain rfl:=oi_ h
 have conv:=fun W=>Lib.run_convert_string_bytes (P:=Try.prog) W 9 30 5 a0 Try.underlying9 Try.underlying30 Try.underlying5
 go_enter Try.func112,Try.ntmps112
 go_wp2
 have HS:=A_ (LowRow.start w a0)
 have HB:Below w.heap.size w (Lib.bytesWorld w 5 a0):=bytes_below (Below.refl _ w) (Nat.le_refl _) 5 a0
 generalize Lib.bytesWorld w 5 a0=W0 at HS HB
 have HB:=A_ HB
 go_loopg [10] a0.size (fun gg s10 wr=>∃ k:Nat,k≤a0.size∧a0.size - k≤gg∧s10=.int .i64 k∧Aside0 (LowRow wr w.heap.size a0 k)∧Aside0 (Below w.heap.size w wr))
 case atStart=>exact ⟨0,Nat.zero_le _,by omega,rfl,HS,HB⟩
 case round =>
  obtain ⟨k,hk,hg,rfl,HR,HB2⟩:=hrel
  clear HS HB
  by_cases hlt:k<a0.size
  ·have hltz:(k:Int)<(a0.size:Int):=by omega
   have l1:=HR.out.1 k hlt
   rw [if_neg (Nat.lt_irrefl _)] at l1
   have l2:=HR.out.2 k hlt
   have b1:=(bt_range a0 (k:Int)).1
   have b2:=(bt_range a0 (k:Int)).2
   by_cases hc:65≤bt a0 (k:Int)∧bt a0 (k:Int)≤90
   ·have HR':=A_ (HR.out.turn hlt hc)
    obtain ⟨c1,c2⟩:=hc
    have c3:decide (bt a0 (k:Int)≥65)=true:=dt_ c1
    have c4:decide (bt a0 (k:Int)≤90)=true:=dt_ c2
    have HB3:=A_ (HB2.out.setCell (p:=⟨w.heap.size,k,none⟩) (Nat.le_refl _) (.int .u8 (bt a0 (k:Int)+32)))
    generalize bt a0 (k:Int)=c at *
    go_wp2
    go_roundg (a0.size - (k+1))
    case measure=>omega
    case rel =>
     have e:c+97 - 65=c+32:=by omega
     first|exact ⟨k+1,by omega,by omega,by go_num,HR',HB3⟩|(simp only [e];exact ⟨k+1,by omega,by omega,by go_num,HR',HB3⟩)
   ·have HR':=A_ (HR.out.stay hlt hc)
    generalize bt a0 (k:Int)=c at *
    by_cases c1:65≤c
    ·have c3:decide (c≥65)=true:=dt_ c1
     have c4:decide (c≤90)=false:=df_ (by omega)
     go_wp2
     go_roundg (a0.size - (k+1))
     case measure=>omega
     case rel=>exact ⟨k+1,by omega,by omega,by go_num,HR',HB2⟩
    ·have c3:decide (c≥65)=false:=df_ c1
     go_wp2
     go_roundg (a0.size - (k+1))
     case measure=>omega
     case rel=>exact ⟨k+1,by omega,by omega,by go_num,HR',HB2⟩
  ·have hltz:¬ (k:Int)<(a0.size:Int):=by omega
   have hke:k=a0.size:=by omega
   have back:=run_convert_bytes_arg (P:=Try.prog) (w:=wr) 30 5 Try.underlying30 Try.underlying5 w.heap.size 0 a0.size (grownCap w a0.size 0 5) ((List.range a0.size).map fun (i:Nat)=>lowC (bt a0 (i:Int))) (by simp) (fun i hi=>by
    have:=HR.out.1 i hi
    rw [hke,if_pos hi] at this
    rw [Nat.zero_add,this]
    simp [List.getD_eq_getElem?_getD,hi]) 9 Try.underlying9
   clear hke
   go_wp2
   go_ret
   exact ⟨rfl,HB2.out⟩
/-! ### impl_BadLink: function 100 -/
mutual
def impl_BadLink.j1:Nat→ByteArray→Option (Bool)
 | 0,_=>none
 | k+1,x0=>impl_BadLink.l1 k x0 (([]:List Int)) (x0.size:Int) 0
def impl_BadLink.l1:Nat→ByteArray→List Int→Int→Int→Option (Bool)
 | 0,_,_,_,_=>none
 | k+1,x0,x3,x20,x21=>if x21<x20 then (if 0≤x21 then (if x21<(x0.size:Int) then (if (bt x0 x21)=9 then (impl_BadLink.l1 k x0 x3 x20 (wrap64 (x21+1))) else (if (bt x0 x21)=10 then (impl_BadLink.l1 k x0 x3 x20 (wrap64 (x21+1))) else (if (bt x0 x21)=13 then (impl_BadLink.l1 k x0 x3 x20 (wrap64 (x21+1))) else (if x3.length<140737488355328 then (impl_BadLink.l1 k x0 (x3++[bt x0 x21]) x20 (wrap64 (x21+1))) else (none))))) else (none)) else (none)) else ((impl_lower.f (strOfNums x3)).bind fun t252=>((strings_HasPrefix.f t252 (⟨#[106,97,118,97,115,99,114,105,112,116,58]⟩:ByteArray)).bind fun t253=>(some t253)))
def impl_BadLink.l0:Nat→ByteArray→Option (Bool)
 | 0,_=>none
 | k+1,x0=>if x0.toList=([]:List UInt8) then (impl_BadLink.j1 k x0) else (if 0<(x0.size:Int) then (if (bt x0 0)≤32 then (if 1≤(x0.size:Int) then (impl_BadLink.l0 k (x0.extract 1 x0.size)) else (none)) else (impl_BadLink.j1 k x0)) else (none))
end
def impl_BadLink.f (k:Nat) (a0:ByteArray):Option (Bool):=(impl_isLong.f (([a0]:List ByteArray))).bind fun t245=>(if t245=true then (some false) else (impl_BadLink.l0 k a0))
theorem impl_BadLink.mono_l:∀ k,(∀ y0,LeO (impl_BadLink.j1 k y0) (impl_BadLink.j1 (k+1) y0))∧(∀ y0 y1 y2 y3,LeO (impl_BadLink.l1 k y0 y1 y2 y3) (impl_BadLink.l1 (k+1) y0 y1 y2 y3))∧(∀ y0,LeO (impl_BadLink.l0 k y0) (impl_BadLink.l0 (k+1) y0))
 | 0=>⟨fun _ r h=>by simp [impl_BadLink.j1] at h,fun _ _ _ _ r h=>by simp [impl_BadLink.l1] at h,fun _ r h=>by simp [impl_BadLink.l0] at h⟩
 | k+1=>by
  obtain ⟨ih0,ih1,ih2⟩:=impl_BadLink.mono_l k
  refine ⟨?_,?_,?_⟩
  ·intro y0
   unfold impl_BadLink.j1
   repeat' first
   | (with_reducible exact ih0 _)
   | (with_reducible exact ih1 _ _ _ _)
   | (with_reducible exact ih2 _)
   | (with_reducible exact LeO.refl _)
   | (with_reducible exact LeO.none _)
   | (with_reducible refine LeO.ite ?_ ?_)
   | (with_reducible refine LeO.bind ?_ (fun _=>?_))
   | exact ih0 _
   | exact ih1 _ _ _ _
   | exact ih2 _
   | exact LeO.none _
   | refine LeO.ite ?_ ?_
   | refine LeO.bind ?_ (fun _=>?_)
  ·intro y0 y1 y2 y3
   unfold impl_BadLink.l1
   repeat' first
   | (with_reducible exact ih0 _)
   | (with_reducible exact ih1 _ _ _ _)
   | (with_reducible exact ih2 _)
   | (with_reducible exact LeO.refl _)
   | (with_reducible exact LeO.none _)
   | (with_reducible refine LeO.ite ?_ ?_)
   | (with_reducible refine LeO.bind ?_ (fun _=>?_))
   | exact ih0 _
   | exact ih1 _ _ _ _
   | exact ih2 _
   | exact LeO.none _
   | refine LeO.ite ?_ ?_
   | refine LeO.bind ?_ (fun _=>?_)
  ·intro y0
   unfold impl_BadLink.l0
   repeat' first
   | (with_reducible exact ih0 _)
   | (with_reducible exact ih1 _ _ _ _)
   | (with_reducible exact ih2 _)
   | (with_reducible exact LeO.refl _)
   | (with_reducible exact LeO.none _)
   | (with_reducible refine LeO.ite ?_ ?_)
   | (with_reducible refine LeO.bind ?_ (fun _=>?_))
   | exact ih0 _
   | exact ih1 _ _ _ _
   | exact ih2 _
   | exact LeO.none _
   | refine LeO.ite ?_ ?_
   | refine LeO.bind ?_ (fun _=>?_)
theorem impl_BadLink.mono:∀ a0 k,LeO (impl_BadLink.f k a0) (impl_BadLink.f (k+1) a0):=by
 intro a0 k
 obtain ⟨ih0,ih1,ih2⟩:=impl_BadLink.mono_l k
 unfold impl_BadLink.f
 repeat' first
  | (with_reducible exact ih0 _)
  | (with_reducible exact ih1 _ _ _ _)
  | (with_reducible exact ih2 _)
  | (with_reducible exact LeO.refl _)
  | (with_reducible exact LeO.none _)
  | (with_reducible refine LeO.ite ?_ ?_)
  | (with_reducible refine LeO.bind ?_ (fun _=>?_))
  | exact ih0 _
  | exact ih1 _ _ _ _
  | exact ih2 _
  | exact LeO.none _
  | refine LeO.ite ?_ ?_
  | refine LeO.bind ?_ (fun _=>?_)
set_option maxHeartbeats 8000000 in
set_option maxRecDepth 100000 in
theorem impl_BadLink.calls (k:Nat) (a0:ByteArray) (r:Bool) (w:World) (h:impl_BadLink.f k a0=some r) :
 Calls Try.prog 100 #[.string a0] w fun e w'=>e=.returned (.bool r)∧Below w.heap.size w w':=by
 have HB:=A_ (Below.refl w.heap.size w)
 have H:((impl_isLong.f (([a0]:List ByteArray))).bind fun t245=>(if t245=true then (some false) else (impl_BadLink.l0 k a0)))=some r:=h
 clear h
 obtain ⟨y242,hy242⟩:∃ y_:List ByteArray,y_=(([a0]:List ByteArray)):=⟨_,rfl⟩
 replace H:((impl_isLong.f y242).bind fun t245=>(if t245=true then (some false) else (impl_BadLink.l0 k a0)))=some r:=by first|(rw [hy242];with_reducible exact H)|(have H2_:=(Option.bind_some _ _).symm.trans H;rw [hy242];with_reducible exact H2_)|(have H2_:=(Option.bind_some _ _).symm.trans H;with_reducible exact H2_)|with_reducible exact H|(rw [hy242];exact H)|exact H
 have Ny242:=A_ hy242
 clear hy242
 replace H:=ob_ H
 obtain ⟨t245,A20,H⟩:=H
 replace H:(if t245=true then (some false) else (impl_BadLink.l0 k a0))=some r:=H
 have A2:=A_ A20
 clear A20
 by_cases c3:t245=true
 ·subst c3
  have H1:(some false)=some r:=by rw [if_pos rfl] at H;exact H
  clear H
  have H:=H1
  clear H1
  obtain rfl:=oi_ H
  go_enter Try.func100,Try.ntmps100
  go_wp2_with (first|((with_reducible refine gate_dst (N:=7) rfl ?_);refine Kd.R_lit Kd.string _ 9 ?hg (N:=7) ?hd (xs:=([a0]:List ByteArray)) (inner:=[.string a0]) (ok:=fun _=>True) (okp:=fun _=>True) ?hr ?hp (fun _ hk=>hk) trivial (Below.refl _ _) (Nat.le_refl _) (by simp) ?_;(case hd=>rfl);(case hg=>rfl);(case hr=>first|(go_simp;done)|(go_simp;rfl)|(first|(go_simp;done)|(go_simp;rfl)));(case hp=>exact (Reps.one (show Kd.M Kd.string _ _ _ a0 [.string a0] from rfl) (Reps.none _ _)));intro v243 w4 ho5 hb hg_ hnew_;clear hg_ hnew_;(first|rw [←Ny242.out] at ho5|(simp only [Int.reduceToNat] at ho5;rw [←Ny242.out] at ho5));have n0_:=A_ (Kd.R_lower ho5 (bz_ (by repeat (first|(with_reducible first|exact HB.out|apply ba_|apply pd_|apply b1_)|exact HB.out))));have n1_:=A_ (bp_ (by repeat (first|(with_reducible first|exact HB.out|apply ba_|apply pd_|apply b1_)|exact HB.out)) hb);clear HB;have HO244:=n0_;have HB:=n1_;clear n0_ n1_;clear hb ho5;obtain ⟨Ao6,co6,eo6⟩:=Kd.R_slice HO244.out;subst eo6)|((with_reducible refine gate_callee (f:=61) rfl ?_);refine goesL_ (some 8) rfl rfl Try.func61 (by kernel_rfl) rfl #[.slice Ao6 y242.length co6] rfl (by (try simp only [List.map_toArray,List.map_cons,List.map_nil]);first|done|rfl|(simp only [ld_,lt_];rfl)) ?_;(with_reducible refine (impl_isLong.calls _ _ y242 true _ ?side1 ?side2 A2.out).mono ?_);(case side1=>repeat (first|exact (Kd.R_reads' HO244.out).2.2|(with_reducible refine ca_ ?_ _)|(with_reducible refine cn_ ?_ _)|(with_reducible refine cd_ ?_)));(case side2=>exact (Kd.R_reads' HO244.out).2.1);rintro e w7 ⟨rfl,hb⟩;refine ⟨_,rfl,?_⟩;have n0_:=A_ (Kd.R_below (by (with_reducible repeat (first|apply Kd.R_alloc|apply Kd.R_drewN|apply Kd.R_drew));exact HO244.out) hb);have n1_:=A_ (bp_ (by repeat (first|(with_reducible first|exact HB.out|apply ba_|apply pd_|apply b1_)|exact HB.out)) hb);clear HO244;clear HB;have HO244:=n0_;have HB:=n1_;clear n0_ n1_;(try clear hb);(try clear hb2);(try clear hk);(try clear hi)))
  go_ret
  exact ⟨by first|rfl|(simp [errW_none,errW_some] <;> rfl)|(simp [*,errW_none,errW_some] <;> rfl),by repeat (first|(with_reducible first|exact HB.out|apply ba_|apply pd_|apply b1_)|exact HB.out)⟩
 ·replace c3:=bm_ c3
  subst c3
  have H1:(impl_BadLink.l0 k a0)=some r:=by rw [if_neg (show ¬ (false=true) by decide)] at H;exact H
  clear H
  have H:=H1
  clear H1
  have HC8:=A_ H
  clear H
  go_enter Try.func100,Try.ntmps100
  go_upto_block 0 with (first|((with_reducible refine gate_dst (N:=7) rfl ?_);refine Kd.R_lit Kd.string _ 9 ?hg (N:=7) ?hd (xs:=([a0]:List ByteArray)) (inner:=[.string a0]) (ok:=fun _=>True) (okp:=fun _=>True) ?hr ?hp (fun _ hk=>hk) trivial (Below.refl _ _) (Nat.le_refl _) (by simp) ?_;(case hd=>rfl);(case hg=>rfl);(case hr=>first|(go_simp;done)|(go_simp;rfl)|((first|(obtain ⟨_,_,rfl⟩:=Kd.R_slice HO244.out)|(obtain ⟨_,_,rfl⟩:=Kd.S_slice HO244.out)|skip);first|(go_simp;done)|(go_simp;rfl)));(case hp=>exact (Reps.one (show Kd.M Kd.string _ _ _ a0 [.string a0] from rfl) (Reps.none _ _)));intro v243 w9 ho10 hb hg_ hnew_;clear hg_ hnew_;(first|rw [←Ny242.out] at ho10|(simp only [Int.reduceToNat] at ho10;rw [←Ny242.out] at ho10));have n0_:=A_ (Kd.R_lower ho10 (bz_ (by repeat (first|(with_reducible first|exact HB.out|apply ba_|apply pd_|apply b1_)|exact HB.out))));have n1_:=A_ (bp_ (by repeat (first|(with_reducible first|exact HB.out|apply ba_|apply pd_|apply b1_)|exact HB.out)) hb);clear HB;have HO244:=n0_;have HB:=n1_;clear n0_ n1_;clear hb ho10;obtain ⟨Ao11,co11,eo11⟩:=Kd.R_slice HO244.out;subst eo11)|((with_reducible refine gate_callee (f:=61) rfl ?_);refine goesL_ (some 8) rfl rfl Try.func61 (by kernel_rfl) rfl #[.slice Ao11 y242.length co11] rfl (by (try simp only [List.map_toArray,List.map_cons,List.map_nil]);first|done|rfl|(simp only [ld_,lt_];rfl)) ?_;(with_reducible refine (impl_isLong.calls _ _ y242 false _ ?side1 ?side2 A2.out).mono ?_);(case side1=>repeat (first|exact (Kd.R_reads' HO244.out).2.2|(with_reducible refine ca_ ?_ _)|(with_reducible refine cn_ ?_ _)|(with_reducible refine cd_ ?_)));(case side2=>exact (Kd.R_reads' HO244.out).2.1);rintro e w12 ⟨rfl,hb⟩;refine ⟨_,rfl,?_⟩;have n0_:=A_ (Kd.R_below (by (with_reducible repeat (first|apply Kd.R_alloc|apply Kd.R_drewN|apply Kd.R_drew));exact HO244.out) hb);have n1_:=A_ (bp_ (by repeat (first|(with_reducible first|exact HB.out|apply ba_|apply pd_|apply b1_)|exact HB.out)) hb);clear HO244;clear HB;have HO244:=n0_;have HB:=n1_;clear n0_ n1_;(try clear hb);(try clear hb2);(try clear hk);(try clear hi)))
  (try simp only [Act.put,ls_,lz_,lc_])
  go_cut [0] (fun v0 wc=>∃ (kq:Nat) (x0_7:ByteArray),v0=.string x0_7∧Aside0 (impl_BadLink.j1 kq x0_7=some r)∧Aside0 (kq≤k)∧Aside0 (Below w.heap.size w wc))
  case first =>
   have H:=HC8.out
   clear HC8
   have H':=A_ H
   clear H
   go_wp2
   go_loopg [0] k (fun kq v0 w'=>∃ (x0_1:ByteArray),v0=.string x0_1∧Aside0 (impl_BadLink.l0 kq x0_1=some r)∧Aside0 (kq≤k)∧Aside0 (Below w.heap.size w w'))
   case atStart=>exact ⟨(a0),(by first|rfl|(simp;done)|(simp [*];done)),H',⟨Nat.le_refl _⟩,⟨by repeat (first|(with_reducible first|exact HB.out|apply ba_|apply pd_|apply b1_)|exact HB.out)⟩⟩
   case round =>
    clear H'
    try clear c1
    try clear p2
    try clear c3
    try clear c6
    try clear c10
    obtain ⟨x0_1,rfl,HA,HK1,HB⟩:=hrel
    cases gk with
    | zero=>exact absurd HA.out (by simp [impl_BadLink.l0])
    | succ k1 =>
     have H:=HA.out
     clear HA
     simp only [impl_BadLink.l0] at H
     by_cases c13:x0_1.toList=([]:List UInt8)
     ·rw [if_pos c13] at H
      have c13b0:(x0_1.toList == ([]:List UInt8))=true:=beq_iff_eq.mpr c13
      have c13b1:(x0_1.toList != ([]:List UInt8))=false:=bne_eq_false_iff_eq.mpr c13
      clear c13
      (first|rw [c13b0]|(simp only [i64_w,i32_w];rw [c13b0])|skip)
      have H':=A_ H
      clear H
      go_wp2
      go_meet
      case rel=>exact ⟨_,(x0_1),(by first|rfl|(simp;done)|(simp [*];done)),H',⟨by have:=HK1.out;first|omega|exact Nat.le_refl _⟩,⟨by repeat (first|(with_reducible first|exact HB.out|apply ba_|apply pd_|apply b1_)|exact HB.out)⟩⟩
     ·rw [if_neg c13] at H
      have c13b0:(x0_1.toList == ([]:List UInt8))=false:=beq_eq_false_iff_ne.mpr c13
      have c13b1:(x0_1.toList != ([]:List UInt8))=true:=bne_iff_ne.mpr c13
      (first|rw [c13b0]|(simp only [i64_w,i32_w];rw [c13b0])|skip)
      by_cases c14:0<(x0_1.size:Int)
      ·rw [if_pos c14] at H
       have c14b0:decide (0<(x0_1.size:Int))=true:=dt_ c14
       have c14b1:decide (0<x0_1.size)=true:=dt_ (by omega)
       clear c14
       by_cases c16:(bt x0_1 0)≤32
       ·rw [if_pos c16] at H
        have c16b0:decide ((bt x0_1 0)≤32)=true:=dt_ c16
        clear c16
        by_cases c17:1≤(x0_1.size:Int)
        ·rw [if_pos c17] at H
         have c17b0:=eq_true c17
         have c17b1:decide (1≤(x0_1.size:Int))=true:=dt_ c17
         clear c17
         have H':=A_ H
         clear H
         have p15:0≤(0:Int):=(by omega)
         have q15:0<x0_1.size:=(by have:(0:Int)<(x0_1.size:Int):=od_ (by first|(with_reducible assumption)|assumption);omega)
         have hx15:∀ h:0<x0_1.size,((x0_1[0]'h).toNat:Int)=bt x0_1 0:=bt_at x0_1 0
         clear p15
         have qi15:(0<(x0_1.size:Int))=True:=eq_true (od_ (by first|(with_reducible assumption)|assumption))
         replace q15:=eq_true q15
         go_wp2
         go_roundg k1
         case measure=>have:=HK1.out;omega
         case rel=>exact ⟨(x0_1.extract 1 x0_1.size),(by first|rfl|(simp;done)|(simp [*];done)),H',⟨by have:=HK1.out;omega⟩,⟨by repeat (first|(with_reducible first|exact HB.out|apply ba_|apply pd_|apply b1_)|exact HB.out)⟩⟩
        ·rw [if_neg c17] at H
         exact absurd H (by simp)
       ·rw [if_neg c16] at H
        have c16b0:decide ((bt x0_1 0)≤32)=false:=df_ c16
        clear c16
        have H':=A_ H
        clear H
        have p15:0≤(0:Int):=(by omega)
        have q15:0<x0_1.size:=(by have:(0:Int)<(x0_1.size:Int):=od_ (by first|(with_reducible assumption)|assumption);omega)
        have hx15:∀ h:0<x0_1.size,((x0_1[0]'h).toNat:Int)=bt x0_1 0:=bt_at x0_1 0
        clear p15
        have qi15:(0<(x0_1.size:Int))=True:=eq_true (od_ (by first|(with_reducible assumption)|assumption))
        replace q15:=eq_true q15
        go_wp2
        go_meet
        case rel=>exact ⟨_,(x0_1),(by first|rfl|(simp;done)|(simp [*];done)),H',⟨by have:=HK1.out;first|omega|exact Nat.le_refl _⟩,⟨by repeat (first|(with_reducible first|exact HB.out|apply ba_|apply pd_|apply b1_)|exact HB.out)⟩⟩
      ·rw [if_neg c14] at H
       exact absurd H (by simp)
  case rest =>
   clear HC8
   try clear c1
   try clear p1
   try clear q1
   try clear hx1
   try clear qi1
   try clear p2
   try clear c3
   try clear c6
   try clear c10
   try clear c13
   try clear c13b0
   try clear c13b1
   try clear c14
   try clear c14b0
   try clear c14b1
   try clear p15
   try clear q15
   try clear hx15
   try clear qi15
   try clear c16
   try clear c16b0
   try clear c17
   try clear c17b0
   try clear c17b1
   try clear p15
   try clear p2
   try clear q15
   obtain ⟨kq,x0_7,rfl,HA,HJ7,HB⟩:=hcut
   cases kq with
   | zero=>exact absurd HA.out (by simp [impl_BadLink.j1])
   | succ kj7 =>
    have H:=HA.out
    clear HA
    simp only [impl_BadLink.j1] at H
    obtain ⟨y246,hy246⟩:∃ y_:List Int,y_=(([]:List Int)):=⟨_,rfl⟩
    replace H:(impl_BadLink.l1 kj7 x0_7 y246 (x0_7.size:Int) 0)=some r:=by first|(rw [hy246];with_reducible exact H)|(have H2_:=(Option.bind_some _ _).symm.trans H;rw [hy246];with_reducible exact H2_)|(have H2_:=(Option.bind_some _ _).symm.trans H;with_reducible exact H2_)|with_reducible exact H|(rw [hy246];exact H)|exact H
    have Ny246:=A_ hy246
    clear hy246
    have H':=A_ H
    clear H
    go_wp2_with (first|((with_reducible refine gate_dst (N:=18) rfl ?_);refine Kd.R_lit (Kd.int .u8) _ 5 ?hg (N:=18) ?hd (xs:=([]:List Int)) (inner:=[]) (ok:=fun _=>True) (okp:=fun _=>True) ?hr ?hp (fun _ hk=>hk) trivial (Below.refl _ _) (Nat.le_refl _) (by simp) ?_;(case hd=>rfl);(case hg=>rfl);(case hr=>first|(go_simp;done)|(go_simp;rfl)|((first|(obtain ⟨_,_,rfl⟩:=Kd.R_slice HO244.out)|(obtain ⟨_,_,rfl⟩:=Kd.S_slice HO244.out)|skip);first|(go_simp;done)|(go_simp;rfl)));(case hp=>exact (Reps.none _ _));intro v247 w18 ho19 hb hg_ hnew_;clear hg_ hnew_;(first|rw [←Ny246.out] at ho19|(simp only [Int.reduceToNat] at ho19;rw [←Ny246.out] at ho19));have n0_:=A_ (Kd.R_lower ho19 (bz_ (by repeat (first|(with_reducible first|exact HB.out|apply ba_|apply pd_|apply b1_)|exact HB.out))));have n1_:=A_ (bp_ (by repeat (first|(with_reducible first|exact HB.out|apply ba_|apply pd_|apply b1_)|exact HB.out)) hb);clear HB;have HO248:=n0_;have HB:=n1_;clear n0_ n1_;clear hb ho19))
    go_loopg [3,21] kj7 (fun kq v3 v21 w'=>∃ (x3_2:List Int) (x21_2:Int),v21=.int .i64 x21_2∧Aside0 (impl_BadLink.l1 kq x0_7 x3_2 (x0_7.size:Int) x21_2=some r)∧Aside0 (kq≤kj7)∧Aside0 (Kd.R (Kd.int .u8) 5 w' w.heap.size (fun _=>True) v3 x3_2)∧Aside0 (Below w.heap.size w w'))
    case atStart=>exact ⟨(y246),(0),(by first|rfl|(simp;done)|(simp [*];done)),H',⟨Nat.le_refl _⟩,⟨by (with_reducible repeat (first|apply Kd.R_alloc|apply Kd.R_drewN|apply Kd.R_drew));exact HO248.out⟩,⟨by repeat (first|(with_reducible first|exact HB.out|apply ba_|apply pd_|apply b1_)|exact HB.out)⟩⟩
    case round =>
     clear H'
     try clear c1
     try clear p1
     try clear q1
     try clear hx1
     try clear qi1
     try clear p2
     try clear c3
     try clear c6
     try clear c10
     try clear c13
     try clear c13b0
     try clear c13b1
     try clear c14
     try clear c14b0
     try clear c14b1
     try clear p15
     try clear q15
     try clear hx15
     try clear qi15
     try clear c16
     try clear c16b0
     try clear c17
     try clear c17b0
     try clear c17b1
     try clear p1
     try clear p15
     try clear p2
     try clear q1
     try clear q15
     obtain ⟨x3_2,x21_2,rfl,HA,HK2,HO_3,HB⟩:=hrel
     cases gk with
     | zero=>exact absurd HA.out (by simp [impl_BadLink.l1])
     | succ k2 =>
      have H:=HA.out
      clear HA
      simp only [impl_BadLink.l1] at H
      by_cases c20:x21_2<(x0_7.size:Int)
      ·rw [if_pos c20] at H
       have c20b0:decide (x21_2<(x0_7.size:Int))=true:=dt_ c20
       clear c20
       by_cases c21:0≤x21_2
       ·rw [if_pos c21] at H
        have c21b0:decide (0≤x21_2)=true:=dt_ c21
        clear c21
        by_cases c22:x21_2<(x0_7.size:Int)
        ·rw [if_pos c22] at H
         have c22b0:decide (x21_2<(x0_7.size:Int))=true:=dt_ c22
         clear c22
         by_cases c24:(bt x0_7 x21_2)=9
         ·rw [if_pos c24] at H
          have c24b0:((bt x0_7 x21_2) == 9)=true:=beq_iff_eq.mpr c24
          have c24b1:((bt x0_7 x21_2) != 9)=false:=bne_eq_false_iff_eq.mpr c24
          clear c24
          have H':=A_ H
          clear H
          have p23:0≤(x21_2:Int):=od_ (by first|(with_reducible assumption)|assumption)
          have q23:x21_2<(x0_7.size:Int):=od_ (by first|(with_reducible assumption)|assumption)
          have hx23:=bt_at x0_7 x21_2
          replace p23:=eq_true p23
          replace q23:=eq_true q23
          go_wp2
          go_roundg k2
          case measure=>have:=HJ7.out;have:=HK2.out;omega
          case rel=>exact ⟨(x3_2),(wrap64 (x21_2+1)),(by first|rfl|(simp;done)|(simp [*];done)),H',⟨by have:=HJ7.out;have:=HK2.out;omega⟩,⟨by (with_reducible repeat (first|apply Kd.R_alloc|apply Kd.R_drewN|apply Kd.R_drew));exact HO_3.out⟩,⟨by repeat (first|(with_reducible first|exact HB.out|apply ba_|apply pd_|apply b1_)|exact HB.out)⟩⟩
         ·rw [if_neg c24] at H
          have c24b0:((bt x0_7 x21_2) == 9)=false:=beq_eq_false_iff_ne.mpr c24
          have c24b1:((bt x0_7 x21_2) != 9)=true:=bne_iff_ne.mpr c24
          by_cases c25:(bt x0_7 x21_2)=10
          ·rw [if_pos c25] at H
           have c25b0:((bt x0_7 x21_2) == 10)=true:=beq_iff_eq.mpr c25
           have c25b1:((bt x0_7 x21_2) != 10)=false:=bne_eq_false_iff_eq.mpr c25
           clear c25
           have H':=A_ H
           clear H
           have p23:0≤(x21_2:Int):=od_ (by first|(with_reducible assumption)|assumption)
           have q23:x21_2<(x0_7.size:Int):=od_ (by first|(with_reducible assumption)|assumption)
           have hx23:=bt_at x0_7 x21_2
           replace p23:=eq_true p23
           replace q23:=eq_true q23
           go_wp2
           go_roundg k2
           case measure=>have:=HJ7.out;have:=HK2.out;omega
           case rel=>exact ⟨(x3_2),(wrap64 (x21_2+1)),(by first|rfl|(simp;done)|(simp [*];done)),H',⟨by have:=HJ7.out;have:=HK2.out;omega⟩,⟨by (with_reducible repeat (first|apply Kd.R_alloc|apply Kd.R_drewN|apply Kd.R_drew));exact HO_3.out⟩,⟨by repeat (first|(with_reducible first|exact HB.out|apply ba_|apply pd_|apply b1_)|exact HB.out)⟩⟩
          ·rw [if_neg c25] at H
           have c25b0:((bt x0_7 x21_2) == 10)=false:=beq_eq_false_iff_ne.mpr c25
           have c25b1:((bt x0_7 x21_2) != 10)=true:=bne_iff_ne.mpr c25
           by_cases c26:(bt x0_7 x21_2)=13
           ·rw [if_pos c26] at H
            have c26b0:((bt x0_7 x21_2) == 13)=true:=beq_iff_eq.mpr c26
            have c26b1:((bt x0_7 x21_2) != 13)=false:=bne_eq_false_iff_eq.mpr c26
            clear c26
            have H':=A_ H
            clear H
            have p23:0≤(x21_2:Int):=od_ (by first|(with_reducible assumption)|assumption)
            have q23:x21_2<(x0_7.size:Int):=od_ (by first|(with_reducible assumption)|assumption)
            have hx23:=bt_at x0_7 x21_2
            replace p23:=eq_true p23
            replace q23:=eq_true q23
            go_wp2
            go_roundg k2
            case measure=>have:=HJ7.out;have:=HK2.out;omega
            case rel=>exact ⟨(x3_2),(wrap64 (x21_2+1)),(by first|rfl|(simp;done)|(simp [*];done)),H',⟨by have:=HJ7.out;have:=HK2.out;omega⟩,⟨by (with_reducible repeat (first|apply Kd.R_alloc|apply Kd.R_drewN|apply Kd.R_drew));exact HO_3.out⟩,⟨by repeat (first|(with_reducible first|exact HB.out|apply ba_|apply pd_|apply b1_)|exact HB.out)⟩⟩
           ·rw [if_neg c26] at H
            have c26b0:((bt x0_7 x21_2) == 13)=false:=beq_eq_false_iff_ne.mpr c26
            have c26b1:((bt x0_7 x21_2) != 13)=true:=bne_iff_ne.mpr c26
            by_cases c27:x3_2.length<140737488355328
            ·rw [if_pos c27] at H
             have LMc27:=A_ c27
             clear c27
             obtain ⟨y249,hy249⟩:∃ y_:List Int,y_=(x3_2++[bt x0_7 x21_2]):=⟨_,rfl⟩
             replace H:(impl_BadLink.l1 k2 x0_7 y249 (x0_7.size:Int) (wrap64 (x21_2+1)))=some r:=by first|(rw [hy249];with_reducible exact H)|(have H2_:=(Option.bind_some _ _).symm.trans H;rw [hy249];with_reducible exact H2_)|(have H2_:=(Option.bind_some _ _).symm.trans H;with_reducible exact H2_)|with_reducible exact H|(rw [hy249];exact H)|exact H
             have Ny249:=A_ hy249
             clear hy249
             have H':=A_ H
             clear H
             have p23:0≤(x21_2:Int):=od_ (by first|(with_reducible assumption)|assumption)
             have q23:x21_2<(x0_7.size:Int):=od_ (by first|(with_reducible assumption)|assumption)
             have hx23:=bt_at x0_7 x21_2
             replace p23:=eq_true p23
             replace q23:=eq_true q23
             go_wp2_with (first|((with_reducible refine gate_builtin (b:=.append) (xs:=#[.tmp 37,.tmp 39]) rfl ?_);at_builtin;refine Kd.R_append (Kd.int .u8) (w0:=w) w.heap.size rfl (.tmp 37) (.tmp 39) 30 5 (.int .u8 0) 1 rfl Try.underlying30 info5 rfl (by decide) (by omega) u3 x3_2 (bt x0_7 x21_2) [.int .u8 (bt x0_7 x21_2)] (fun _=>True) (fun _=>False) rfl rfl ?aP (fun _ hk=>hk.elim) ?aF ?aO ?aB ?aS ?aL ?_;(case aP=>exact rfl);(case aB=>exact (by repeat (first|(with_reducible first|exact HB.out|apply ba_|apply pd_|apply b1_)|exact HB.out)));(case aF=>exact (fun _ _=>trivial));(case aO=>exact (by (with_reducible repeat (first|apply Kd.R_alloc|apply Kd.R_drewN|apply Kd.R_drew));exact HO_3.out));(case aS=>exact (bz_ (by repeat (first|(with_reducible first|exact HB.out|apply ba_|apply pd_|apply b1_)|exact HB.out))));(case aL=>have:=LMc27.out;omega);intro v250 w28 ho hb hg hat;rw [←Ny249.out] at ho;have n0_:=A_ (hb);have n1_:=A_ (ho);clear HB;clear HO_3;have HB:=n0_;have HO251:=n1_;clear n0_ n1_;clear ho hb hg hat))
             go_roundg k2
             case measure=>have:=HJ7.out;have:=HK2.out;omega
             case rel=>exact ⟨(y249),(wrap64 (x21_2+1)),(by first|rfl|(simp;done)|(simp [*];done)),H',⟨by have:=HJ7.out;have:=HK2.out;omega⟩,⟨by (with_reducible repeat (first|apply Kd.R_alloc|apply Kd.R_drewN|apply Kd.R_drew));exact HO251.out⟩,⟨by repeat (first|(with_reducible first|exact HB.out|apply ba_|apply pd_|apply b1_)|exact HB.out)⟩⟩
            ·rw [if_neg c27] at H
             exact absurd H (by simp)
        ·rw [if_neg c22] at H
         exact absurd H (by simp)
       ·rw [if_neg c21] at H
        exact absurd H (by simp)
      ·rw [if_neg c20] at H
       have c20b0:decide (x21_2<(x0_7.size:Int))=false:=df_ c20
       clear c20
       replace H:=ob_ H
       obtain ⟨t252,A290,H⟩:=H
       replace H:((strings_HasPrefix.f t252 (⟨#[106,97,118,97,115,99,114,105,112,116,58]⟩:ByteArray)).bind fun t253=>(some t253))=some r:=H
       have A29:=A_ A290
       clear A290
       replace H:=ob_ H
       obtain ⟨t253,A300,H⟩:=H
       replace H:(some t253)=some r:=H
       have A30:=A_ A300
       clear A300
       obtain rfl:=oi_ H
       have hcv31:=own_string (P:=Try.prog) Try.underlying30 Try.underlying5 Try.underlying9 (Kd.own_of_R HO_3.out)
       go_wp2_with (first|((with_reducible refine gate_callee (f:=112) rfl ?_);refine goesL_ (some 44) rfl rfl Try.func112 (by kernel_rfl) rfl #[.string (strOfNums x3_2)] rfl (by (try simp only [List.map_toArray,List.map_cons,List.map_nil]);first|done|rfl|(simp only [ld_,lt_];rfl)) ?_;(with_reducible refine (impl_lower.calls (strOfNums x3_2) t252 _ A29.out).mono ?_);rintro e w32 ⟨rfl,hb⟩;refine ⟨_,rfl,?_⟩;have n0_:=A_ (Kd.R_below (by (with_reducible repeat (first|apply Kd.R_alloc|apply Kd.R_drewN|apply Kd.R_drew));exact HO_3.out) hb);have n1_:=A_ (bp_ (by repeat (first|(with_reducible first|exact HB.out|apply ba_|apply pd_|apply b1_)|exact HB.out)) hb);clear HO_3;clear HB;have HO_3:=n0_;have HB:=n1_;clear n0_ n1_;(try clear hb);(try clear hb2);(try clear hk);(try clear hi))|((with_reducible refine gate_callee (f:=81) rfl ?_);refine goesL_ (some 45) rfl rfl Try.func81 (by kernel_rfl) rfl #[.string t252,.string (⟨#[106,97,118,97,115,99,114,105,112,116,58]⟩:ByteArray)] rfl (by (try simp only [List.map_toArray,List.map_cons,List.map_nil]);first|done|rfl|(simp only [ld_,lt_];rfl)) ?_;(with_reducible refine (strings_HasPrefix.calls t252 (⟨#[106,97,118,97,115,99,114,105,112,116,58]⟩:ByteArray) t253 _ A30.out).mono ?_);rintro e w' ⟨rfl,⟨nd,rfl⟩⟩;refine ⟨_,rfl,?_⟩))
       go_ret
       exact ⟨by first|rfl|(simp [errW_none,errW_some] <;> rfl)|(simp [*,errW_none,errW_some] <;> rfl),by repeat (first|(with_reducible first|exact HB.out|apply ba_|apply pd_|apply b1_)|exact HB.out)⟩
/-! ### impl_Attr_isHarm: function 80 -/
def impl_Attr_isHarm.f (k:Nat) (a0_0:ByteArray) (a0_1:ByteArray):Option (Bool):=(impl_IsHandler.f a0_0).bind fun t255=>(if t255=true then (some true) else ((impl_IsLink.f k a0_0).bind fun t256=>(if t256=true then ((impl_BadLink.f k a0_1).bind fun t257=>(some t257)) else (some false))))
theorem impl_Attr_isHarm.mono:∀ a0 a1 k,LeO (impl_Attr_isHarm.f k a0 a1) (impl_Attr_isHarm.f (k+1) a0 a1):=by
 intro a0 a1 k
 unfold impl_Attr_isHarm.f
 repeat' first
  | (with_reducible exact impl_BadLink.mono _ _)
  | (with_reducible exact impl_IsLink.mono _ _)
  | (with_reducible exact LeO.refl _)
  | (with_reducible exact LeO.none _)
  | (with_reducible refine LeO.ite ?_ ?_)
  | (with_reducible refine LeO.bind ?_ (fun _=>?_))
  | exact impl_BadLink.mono _ _
  | exact impl_IsLink.mono _ _
  | exact LeO.none _
  | refine LeO.ite ?_ ?_
  | refine LeO.bind ?_ (fun _=>?_)
set_option maxHeartbeats 8000000 in
set_option maxRecDepth 100000 in
theorem impl_Attr_isHarm.calls (k:Nat) (a0_0:ByteArray) (a0_1:ByteArray) (r:Bool) (w:World) (h:impl_Attr_isHarm.f k a0_0 a0_1=some r) :
 Calls Try.prog 80 #[.agg #[.string a0_0,.string a0_1]] w fun e w'=>e=.returned (.bool r)∧Below w.heap.size w w':=by
 have hu51:=Try.underlying51
 have HB:=A_ (Below.refl w.heap.size w)
 have H:((impl_IsHandler.f a0_0).bind fun t255=>(if t255=true then (some true) else ((impl_IsLink.f k a0_0).bind fun t256=>(if t256=true then ((impl_BadLink.f k a0_1).bind fun t257=>(some t257)) else (some false)))))=some r:=h
 clear h
 replace H:=ob_ H
 obtain ⟨t255,A20,H⟩:=H
 replace H:(if t255=true then (some true) else ((impl_IsLink.f k a0_0).bind fun t256=>(if t256=true then ((impl_BadLink.f k a0_1).bind fun t257=>(some t257)) else (some false))))=some r:=H
 have A2:=A_ A20
 clear A20
 by_cases c3:t255=true
 ·subst c3
  have H1:(some true)=some r:=by rw [if_pos rfl] at H;exact H
  clear H
  have H:=H1
  clear H1
  obtain rfl:=oi_ H
  go_enter Try.func80,Try.ntmps80
  go_wp2_with (first|((with_reducible refine gate_dst (N:=1) rfl ?_);refine box_event ?hg (N:=1) ?hd (cs:=#[.string a0_0,.string a0_1]) (t:=51) ?hr ?_;(case hd=>rfl);(case hg=>rfl);(case hr=>first|(go_simp;done)|(go_simp;rfl));intro gb254 hg w4 hbox hb;have n0_:=A_ (bp_ (by repeat (first|(with_reducible first|exact HB.out|apply ba_|apply pd_|apply b1_)|exact HB.out)) hb);have n1_:=A_ (hbox);have n2_:=A_ ((by rw [hg];exact (bz_ (by repeat (first|(with_reducible first|exact HB.out|apply ba_|apply pd_|apply b1_)|exact HB.out))):w.heap.size≤gb254));have n3_:=A_ ((by rw [hg];exact (bz_ (by repeat (first|(with_reducible first|exact HB.out|apply ba_|apply pd_|apply b1_)|exact HB.out))):w.heap.size≤gb254));clear HB;have HB:=n0_;have BK254:=n1_;have GW254:=n2_;have GE254:=n3_;clear n0_ n1_ n2_ n3_;clear hb hbox hg;have hcz5_0:w4.cell? ⟨gb254,0,none⟩=some (.string a0_0):=(bc_ BK254.out 0).trans rfl;have hcz5_1:w4.cell? ⟨gb254,1,none⟩=some (.string a0_1):=(bc_ BK254.out 1).trans rfl;have hfz5_0:=bf_ BK254.out 0;have hfz5_1:=bf_ BK254.out 1)|((with_reducible refine gate_callee (f:=98) rfl ?_);refine goesL_ (some 5) rfl rfl Try.func98 (by kernel_rfl) rfl #[.string a0_0] rfl (by (try simp only [List.map_toArray,List.map_cons,List.map_nil]);first|done|rfl|(simp only [ld_,lt_];rfl)) ?_;(with_reducible refine (impl_IsHandler.calls a0_0 true _ A2.out).mono ?_);rintro e w6 ⟨rfl,hb⟩;refine ⟨_,rfl,?_⟩;have n0_:=A_ (kb_ (g:=gb254) (o:=.cells #[.string a0_0,.string a0_1] 51 (0,0)) (by (with_reducible repeat (first|refine kn_ ?_ _|refine kd_ ?_|refine ka_ ?_ _));exact BK254.out) hb);have n1_:=A_ (bp_ (by repeat (first|(with_reducible first|exact HB.out|apply ba_|apply pd_|apply b1_|refine bs_ ?_ GE254.out)|exact HB.out)) hb);clear BK254;clear HB;have BK254:=n0_;have HB:=n1_;clear n0_ n1_;(try clear hb);(try clear hb2);(try clear hk);(try clear hi)))
  go_ret
  exact ⟨by first|rfl|(simp [errW_none,errW_some] <;> rfl)|(simp [*,errW_none,errW_some] <;> rfl),by repeat (first|(with_reducible first|exact HB.out|apply ba_|apply pd_|apply b1_|refine bs_ ?_ GE254.out)|exact HB.out)⟩
 ·replace c3:=bm_ c3
  subst c3
  have H1:((impl_IsLink.f k a0_0).bind fun t256=>(if t256=true then ((impl_BadLink.f k a0_1).bind fun t257=>(some t257)) else (some false)))=some r:=by rw [if_neg (show ¬ (false=true) by decide)] at H;exact H
  clear H
  have H:=H1
  clear H1
  replace H:=ob_ H
  obtain ⟨t256,A70,H⟩:=H
  replace H:(if t256=true then ((impl_BadLink.f k a0_1).bind fun t257=>(some t257)) else (some false))=some r:=H
  have A7:=A_ A70
  clear A70
  by_cases c8:t256=true
  ·subst c8
   have H1:((impl_BadLink.f k a0_1).bind fun t257=>(some t257))=some r:=by rw [if_pos rfl] at H;exact H
   clear H
   have H:=H1
   clear H1
   replace H:=ob_ H
   obtain ⟨t257,A90,H⟩:=H
   replace H:(some t257)=some r:=H
   have A9:=A_ A90
   clear A90
   obtain rfl:=oi_ H
   go_enter Try.func80,Try.ntmps80
   go_wp2_with (first|((with_reducible refine gate_dst (N:=1) rfl ?_);refine box_event ?hg (N:=1) ?hd (cs:=#[.string a0_0,.string a0_1]) (t:=51) ?hr ?_;(case hd=>rfl);(case hg=>rfl);(case hr=>first|(go_simp;done)|(go_simp;rfl));intro gb254 hg w10 hbox hb;have n0_:=A_ (bp_ (by repeat (first|(with_reducible first|exact HB.out|apply ba_|apply pd_|apply b1_)|exact HB.out)) hb);have n1_:=A_ (hbox);have n2_:=A_ ((by rw [hg];exact (bz_ (by repeat (first|(with_reducible first|exact HB.out|apply ba_|apply pd_|apply b1_)|exact HB.out))):w.heap.size≤gb254));have n3_:=A_ ((by rw [hg];exact (bz_ (by repeat (first|(with_reducible first|exact HB.out|apply ba_|apply pd_|apply b1_)|exact HB.out))):w.heap.size≤gb254));clear HB;have HB:=n0_;have BK254:=n1_;have GW254:=n2_;have GE254:=n3_;clear n0_ n1_ n2_ n3_;clear hb hbox hg;have hcz11_0:w10.cell? ⟨gb254,0,none⟩=some (.string a0_0):=(bc_ BK254.out 0).trans rfl;have hcz11_1:w10.cell? ⟨gb254,1,none⟩=some (.string a0_1):=(bc_ BK254.out 1).trans rfl;have hfz11_0:=bf_ BK254.out 0;have hfz11_1:=bf_ BK254.out 1)|((with_reducible refine gate_callee (f:=98) rfl ?_);refine goesL_ (some 5) rfl rfl Try.func98 (by kernel_rfl) rfl #[.string a0_0] rfl (by (try simp only [List.map_toArray,List.map_cons,List.map_nil]);first|done|rfl|(simp only [ld_,lt_];rfl)) ?_;(with_reducible refine (impl_IsHandler.calls a0_0 false _ A2.out).mono ?_);rintro e w12 ⟨rfl,hb⟩;refine ⟨_,rfl,?_⟩;have n0_:=A_ (kb_ (g:=gb254) (o:=.cells #[.string a0_0,.string a0_1] 51 (0,0)) (by (with_reducible repeat (first|refine kn_ ?_ _|refine kd_ ?_|refine ka_ ?_ _));exact BK254.out) hb);have n1_:=A_ (bp_ (by repeat (first|(with_reducible first|exact HB.out|apply ba_|apply pd_|apply b1_|refine bs_ ?_ GE254.out)|exact HB.out)) hb);clear BK254;clear HB;have BK254:=n0_;have HB:=n1_;clear n0_ n1_;(try clear hb);(try clear hb2);(try clear hk);(try clear hi);have hcz13_0:w12.cell? ⟨gb254,0,none⟩=some (.string a0_0):=(bc_ BK254.out 0).trans rfl;have hcz13_1:w12.cell? ⟨gb254,1,none⟩=some (.string a0_1):=(bc_ BK254.out 1).trans rfl;have hfz13_0:=bf_ BK254.out 0;have hfz13_1:=bf_ BK254.out 1)|(go_at_call 99;(with_reducible refine (impl_IsLink.calls k a0_0 true _ A7.out).mono ?_);rintro e w14 ⟨rfl,hb⟩;have n0_:=A_ (kb_ (g:=gb254) (o:=.cells #[.string a0_0,.string a0_1] 51 (0,0)) (by (with_reducible repeat (first|refine kn_ ?_ _|refine kd_ ?_|refine ka_ ?_ _));exact BK254.out) hb);have n1_:=A_ (bp_ (by repeat (first|(with_reducible first|exact HB.out|apply ba_|apply pd_|apply b1_|refine bs_ ?_ GE254.out)|exact HB.out)) hb);clear BK254;clear HB;have BK254:=n0_;have HB:=n1_;clear n0_ n1_;(try clear hb);(try clear hb2);(try clear hk);(try clear hi);have hcz15_0:w14.cell? ⟨gb254,0,none⟩=some (.string a0_0):=(bc_ BK254.out 0).trans rfl;have hcz15_1:w14.cell? ⟨gb254,1,none⟩=some (.string a0_1):=(bc_ BK254.out 1).trans rfl;have hfz15_0:=bf_ BK254.out 0;have hfz15_1:=bf_ BK254.out 1)|(go_at_call 100;(with_reducible refine (impl_BadLink.calls k a0_1 t257 _ A9.out).mono ?_);rintro e w16 ⟨rfl,hb⟩;have n0_:=A_ (kb_ (g:=gb254) (o:=.cells #[.string a0_0,.string a0_1] 51 (0,0)) (by (with_reducible repeat (first|refine kn_ ?_ _|refine kd_ ?_|refine ka_ ?_ _));exact BK254.out) hb);have n1_:=A_ (bp_ (by repeat (first|(with_reducible first|exact HB.out|apply ba_|apply pd_|apply b1_|refine bs_ ?_ GE254.out)|exact HB.out)) hb);clear BK254;clear HB;have BK254:=n0_;have HB:=n1_;clear n0_ n1_;(try clear hb);(try clear hb2);(try clear hk);(try clear hi)))
   go_ret
   exact ⟨by first|rfl|(simp [errW_none,errW_some] <;> rfl)|(simp [*,errW_none,errW_some] <;> rfl),by repeat (first|(with_reducible first|exact HB.out|apply ba_|apply pd_|apply b1_|refine bs_ ?_ GE254.out)|exact HB.out)⟩
  ·replace c8:=bm_ c8
   subst c8
   have H1:(some false)=some r:=by rw [if_neg (show ¬ (false=true) by decide)] at H;exact H
   clear H
   have H:=H1
   clear H1
   obtain rfl:=oi_ H
   go_enter Try.func80,Try.ntmps80
   go_wp2_with (first|((with_reducible refine gate_dst (N:=1) rfl ?_);refine box_event ?hg (N:=1) ?hd (cs:=#[.string a0_0,.string a0_1]) (t:=51) ?hr ?_;(case hd=>rfl);(case hg=>rfl);(case hr=>first|(go_simp;done)|(go_simp;rfl));intro gb254 hg w17 hbox hb;have n0_:=A_ (bp_ (by repeat (first|(with_reducible first|exact HB.out|apply ba_|apply pd_|apply b1_)|exact HB.out)) hb);have n1_:=A_ (hbox);have n2_:=A_ ((by rw [hg];exact (bz_ (by repeat (first|(with_reducible first|exact HB.out|apply ba_|apply pd_|apply b1_)|exact HB.out))):w.heap.size≤gb254));have n3_:=A_ ((by rw [hg];exact (bz_ (by repeat (first|(with_reducible first|exact HB.out|apply ba_|apply pd_|apply b1_)|exact HB.out))):w.heap.size≤gb254));clear HB;have HB:=n0_;have BK254:=n1_;have GW254:=n2_;have GE254:=n3_;clear n0_ n1_ n2_ n3_;clear hb hbox hg;have hcz18_0:w17.cell? ⟨gb254,0,none⟩=some (.string a0_0):=(bc_ BK254.out 0).trans rfl;have hcz18_1:w17.cell? ⟨gb254,1,none⟩=some (.string a0_1):=(bc_ BK254.out 1).trans rfl;have hfz18_0:=bf_ BK254.out 0;have hfz18_1:=bf_ BK254.out 1)|((with_reducible refine gate_callee (f:=98) rfl ?_);refine goesL_ (some 5) rfl rfl Try.func98 (by kernel_rfl) rfl #[.string a0_0] rfl (by (try simp only [List.map_toArray,List.map_cons,List.map_nil]);first|done|rfl|(simp only [ld_,lt_];rfl)) ?_;(with_reducible refine (impl_IsHandler.calls a0_0 false _ A2.out).mono ?_);rintro e w19 ⟨rfl,hb⟩;refine ⟨_,rfl,?_⟩;have n0_:=A_ (kb_ (g:=gb254) (o:=.cells #[.string a0_0,.string a0_1] 51 (0,0)) (by (with_reducible repeat (first|refine kn_ ?_ _|refine kd_ ?_|refine ka_ ?_ _));exact BK254.out) hb);have n1_:=A_ (bp_ (by repeat (first|(with_reducible first|exact HB.out|apply ba_|apply pd_|apply b1_|refine bs_ ?_ GE254.out)|exact HB.out)) hb);clear BK254;clear HB;have BK254:=n0_;have HB:=n1_;clear n0_ n1_;(try clear hb);(try clear hb2);(try clear hk);(try clear hi);have hcz20_0:w19.cell? ⟨gb254,0,none⟩=some (.string a0_0):=(bc_ BK254.out 0).trans rfl;have hcz20_1:w19.cell? ⟨gb254,1,none⟩=some (.string a0_1):=(bc_ BK254.out 1).trans rfl;have hfz20_0:=bf_ BK254.out 0;have hfz20_1:=bf_ BK254.out 1)|(go_at_call 99;(with_reducible refine (impl_IsLink.calls k a0_0 false _ A7.out).mono ?_);rintro e w21 ⟨rfl,hb⟩;have n0_:=A_ (kb_ (g:=gb254) (o:=.cells #[.string a0_0,.string a0_1] 51 (0,0)) (by (with_reducible repeat (first|refine kn_ ?_ _|refine kd_ ?_|refine ka_ ?_ _));exact BK254.out) hb);have n1_:=A_ (bp_ (by repeat (first|(with_reducible first|exact HB.out|apply ba_|apply pd_|apply b1_|refine bs_ ?_ GE254.out)|exact HB.out)) hb);clear BK254;clear HB;have BK254:=n0_;have HB:=n1_;clear n0_ n1_;(try clear hb);(try clear hb2);(try clear hk);(try clear hi)))
   go_ret
   exact ⟨by first|rfl|(simp [errW_none,errW_some] <;> rfl)|(simp [*,errW_none,errW_some] <;> rfl),by repeat (first|(with_reducible first|exact HB.out|apply ba_|apply pd_|apply b1_|refine bs_ ?_ GE254.out)|exact HB.out)⟩
end Go.Proofs.Ytmeafbneklphnaa.PFnExactAllowsAttr
