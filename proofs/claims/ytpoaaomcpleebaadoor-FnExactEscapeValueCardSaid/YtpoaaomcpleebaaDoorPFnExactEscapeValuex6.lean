/- By a program of this session, out of the kit's print and contracts made by hand: the machine side of a law; Lean checks it. No conditions. -/
import Derived.Test.YtpoaaomcpleebaaDoorPFnExactEscapeValuex0
import Derived.Test.YtpoaaomcpleebaaDoorPFnExactEscapeValuex1
import Derived.Test.YtpoaaomcpleebaaDoorPFnExactEscapeValuex2
import Derived.Test.YtpoaaomcpleebaaDoorPFnExactEscapeValuex4
import Derived.Test.YtpoaaomcpleebaaDoorPFnExactEscapeValuex5
namespace Go.Proofs.YtpoaaomcpleebaaDoor.PFnExactEscapeValue
open Go.RowKit Go.Proofs.YtpoaaomcpleebaaDoorW.PrintWords Go.Proofs.YtpoaaomcpleebaaDoorW.PrintLast Go.Proofs.YtpoaaomcpleebaaDoorW.PrintMore
attribute [local go_sem] max2_int min2_int max_two min_two max_three min_three max_four min_four
set_option linter.unusedVariables false
set_option linter.unusedSimpArgs false
/-! ### impl_escapeText: function 13, by hand -/
theorem run_build_rep (A:Option Addr) (n c:Nat) (w:World):(Instr.build 60 #[(2,.slice A n c)]).run Tryd.prog w=.ok (.agg #[.int .u32 0,.int .i32 0,.int .u32 0,.nilIface,.slice A n c]) w:=by kernel_rfl
theorem six_at (W:World) (b:Nat) (rest:Array Value) (h:W.heap[b]? = some (.cells (#[.string ⟨#[38]⟩,.string ⟨#[38,97,109,112,59]⟩,.string ⟨#[60]⟩,.string ⟨#[38,108,116,59]⟩,.string ⟨#[62]⟩,.string ⟨#[38,103,116,59]⟩]++rest) 9 (0,0))):∀ i,i<6→W.cell? ⟨b,i,none⟩=some (.string (escN.getD i ByteArray.empty)):=by
 intro i hi
 rw [bc_ h]
 rcases (show i=0∨i=1∨i=2∨i=3∨i=4∨i=5 by omega) with rfl|rfl|rfl|rfl|rfl|rfl <;> (rw [Array.getElem?_append_left (by simp)];rfl)
theorem append_six (w:World) (b:Nat) (hb:w.heap[b]? = some (.cells #[.string ⟨#[38]⟩,.string ⟨#[38,97,109,112,59]⟩,.string ⟨#[60]⟩,.string ⟨#[38,108,116,59]⟩,.string ⟨#[62]⟩,.string ⟨#[38,103,116,59]⟩] 9 (0,0))) :
 ∃ W c,(∀ ty,(Builtin.append_ #[25,25] ty #[.slice none 0 0,.slice (some ⟨b,0,none⟩) 6 6]).run Tryd.prog w=.ok (.slice (some ⟨w.heap.size,0,none⟩) 6 c) W)∧(∀ i,i<6→W.cell? ⟨w.heap.size,i,none⟩=some (.string (escN.getD i ByteArray.empty)))∧W.heap.size=w.heap.size+1∧Below w.heap.size w W:=by
 obtain ⟨i0,hi0,hz0⟩:=Option.map_eq_some_iff.1 (show (Tryd.prog.info? 9).map (fun i=>(i.zero,i.size,i.bytes))=some (some (.string ⟨#[]⟩),1,16) by kernel_rfl)
 simp only [Prod.mk.injEq] at hz0
 obtain ⟨h1,h2,h3⟩:=hz0
 have hr:=fun ty=>run_append_nil (P:=Tryd.prog) w 25 ty 9 i0 (.string ⟨#[]⟩) Tryd.underlying25 hi0 h1 ⟨b,0,none⟩ 6 6 [.string ⟨#[38]⟩,.string ⟨#[38,97,109,112,59]⟩,.string ⟨#[60]⟩,.string ⟨#[38,108,116,59]⟩,.string ⟨#[62]⟩,.string ⟨#[38,103,116,59]⟩] (by rw [h2];rfl) (fun j v hj=>by
  rw [add_plain,bc_ hb]
  first|simpa using hj|(rw [←hj];simp)) (by omega) (by omega) (by rw [h3];omega)
 refine ⟨_,_,hr,?_,by rw [World.size_alloc];rfl,(Below.refl _ _).drew.alloc (Nat.le_refl _) _⟩
 exact six_at _ _ _ (blk_new w.drew _)
set_option maxHeartbeats 8000000 in
theorem newReplacer_calls (b:Nat) (w:World) (hb:w.heap[b]? = some (.cells #[.string ⟨#[38]⟩,.string ⟨#[38,97,109,112,59]⟩,.string ⟨#[60]⟩,.string ⟨#[38,108,116,59]⟩,.string ⟨#[62]⟩,.string ⟨#[38,103,116,59]⟩] 9 (0,0))) :
 Calls Tryd.prog 16 #[.slice (some ⟨b,0,none⟩) 6 6] w fun e w'=>∃ g a c,e=.returned (.pointer (some ⟨g,0,none⟩))∧w'.heap[g]? = some (.cells #[.int .u32 0,.int .i32 0,.int .u32 0,.nilIface,.slice (some ⟨a,0,none⟩) 6 c] 60 (0,0))∧(∀ i,i<6→w'.cell? ⟨a,i,none⟩=some (.string (escN.getD i ByteArray.empty)))∧a≠g∧w.heap.size≤g∧Below w.heap.size w w':=by
 obtain ⟨W,c,hap,h6,hsz,hbl⟩:=append_six w b hb
 have H6:=A_ h6
 have HBL:=A_ hbl
 have HSZ:=A_ hsz
 have hbd:=run_build_rep
 clear h6 hbl hb hsz
 go_enter Tryd.func16,Tryd.ntmps16
 go_wp2_with ((with_reducible refine gate_builtin (b:=.append) (xs:=#[.const (.slice none 0 0),.tmp 8]) rfl ?_);refine append_event rfl (.const (.slice none 0 0)) (.tmp 8) #[25,25] rfl rfl rfl hap ?_)
 go_ret
 have hlt:=HSZ.out
 refine ⟨W.heap.size,w.heap.size,c,rfl,blk_new W _,fun i hi=>(((Below.refl W.heap.size W).alloc (Nat.le_refl _) _).cell (p:=⟨w.heap.size,i,none⟩) (by show w.heap.size<W.heap.size;omega)).trans (H6.out i hi),by omega,by omega,HBL.out.alloc (by omega) _⟩
def impl_escapeText.f (a0:ByteArray):Option ByteArray:=if a0.size≤1099511627776 then some (escT a0) else none
set_option maxHeartbeats 8000000 in
theorem impl_escapeText.calls (a0:ByteArray) (r:ByteArray) (w:World) (h:impl_escapeText.f a0=some r) :
 Calls Tryd.prog 13 #[.string a0] w fun e w'=>e=.returned (.string r)∧Below w.heap.size w w':=by
 unfold impl_escapeText.f at h
 obtain ⟨hn,h⟩:=Option.ite_none_right_eq_some.mp h
 obtain rfl:=oi_ h
 have HN:=A_ (newReplacer_calls w.heap.size (w.alloc (.cells #[.string ⟨#[38]⟩,.string ⟨#[38,97,109,112,59]⟩,.string ⟨#[60]⟩,.string ⟨#[38,108,116,59]⟩,.string ⟨#[62]⟩,.string ⟨#[38,103,116,59]⟩] 9 (0,0))) (blk_new w _))
 have HB0:Aside0 (Below w.heap.size w (w.alloc (.cells #[.string ⟨#[38]⟩,.string ⟨#[38,97,109,112,59]⟩,.string ⟨#[60]⟩,.string ⟨#[38,108,116,59]⟩,.string ⟨#[62]⟩,.string ⟨#[38,103,116,59]⟩] 9 (0,0)))):=⟨(Below.refl _ _).alloc (Nat.le_refl _) _⟩
 have HS0:Aside0 ((w.alloc (.cells #[.string ⟨#[38]⟩,.string ⟨#[38,97,109,112,59]⟩,.string ⟨#[60]⟩,.string ⟨#[38,108,116,59]⟩,.string ⟨#[62]⟩,.string ⟨#[38,103,116,59]⟩] 9 (0,0))).heap.size=w.heap.size+1):=⟨World.size_alloc _ _⟩
 go_enter Tryd.func13,Tryd.ntmps13
 go_wp2_with (first|(go_at_call 16;(with_reducible refine HN.out.mono ?_);rintro e w2 ⟨g,a,c,rfl,hg,hs,hag,hlo,hb2⟩;(have HR:=A_ (replace_calls g a c w.heap.size w2 w a0 hn hg hs hag (by have:=HS0.out;omega) (HB0.out.trans (hb2.mono HB0.out.size))));clear hg hs hb2)|(go_at_call 17;(with_reducible refine HR.out.mono ?_);rintro e w3 ⟨rfl,hb3⟩;(have HB3:=A_ hb3);clear hb3))
 go_ret
 exact ⟨rfl,HB3.out⟩
/-! ### impl_escapeValue: function 8 -/
def impl_escapeValue.f (a0:ByteArray):Option (ByteArray):=(impl_escapeText.f a0).bind fun t104=>((strings_ReplaceAll.f t104 (⟨#[34]⟩:ByteArray) (⟨#[38,113,117,111,116,59]⟩:ByteArray)).bind fun t105=>(some t105))
set_option maxHeartbeats 8000000 in
set_option maxRecDepth 100000 in
theorem impl_escapeValue.calls (a0:ByteArray) (r:ByteArray) (w:World) (h:impl_escapeValue.f a0=some r) :
 Calls Tryd.prog 8 #[.string a0] w fun e w'=>e=.returned (.string r)∧Below w.heap.size w w':=by
 have HB:=A_ (Below.refl w.heap.size w)
 have H:((impl_escapeText.f a0).bind fun t104=>((strings_ReplaceAll.f t104 (⟨#[34]⟩:ByteArray) (⟨#[38,113,117,111,116,59]⟩:ByteArray)).bind fun t105=>(some t105)))=some r:=h
 clear h
 replace H:=Option.bind_eq_some_iff.mp H
 obtain ⟨t104,A20,H⟩:=H
 replace H:((strings_ReplaceAll.f t104 (⟨#[34]⟩:ByteArray) (⟨#[38,113,117,111,116,59]⟩:ByteArray)).bind fun t105=>(some t105))=some r:=H
 have A2:=A_ A20
 clear A20
 replace H:=Option.bind_eq_some_iff.mp H
 obtain ⟨t105,A30,H⟩:=H
 replace H:(some t105)=some r:=H
 have A3:=A_ A30
 clear A30
 obtain rfl:=oi_ H
 go_enter Tryd.func8,Tryd.ntmps8
 go_wp2_with (first|((with_reducible refine gate_callee (f:=13) rfl ?_);refine goesL_ (some 4) rfl rfl Tryd.func13 (by kernel_rfl) rfl #[.string a0] rfl (by (try simp only [List.map_toArray,List.map_cons,List.map_nil]);first|done|rfl|(simp only [List.length_drop,lt_];rfl)) ?_;(with_reducible refine (impl_escapeText.calls a0 t104 _ A2.out).mono ?_);rintro e w4 ⟨rfl,hb⟩;refine ⟨_,rfl,?_⟩;have n0_:=A_ (below_step (by repeat (first|(with_reducible first|exact HB.out|apply ba_|apply pd_|apply b1_)|exact HB.out)) hb);clear HB;have HB:=n0_;clear n0_;(try clear hb);(try clear hb2);(try clear hk);(try clear hi))|((with_reducible refine gate_callee (f:=12) rfl ?_);refine goesL_ (some 5) rfl rfl Tryd.func12 (by kernel_rfl) rfl #[.string t104,.string (⟨#[34]⟩:ByteArray),.string (⟨#[38,113,117,111,116,59]⟩:ByteArray)] rfl (by (try simp only [List.map_toArray,List.map_cons,List.map_nil]);first|done|rfl|(simp only [List.length_drop,lt_];rfl)) ?_;(with_reducible refine (strings_ReplaceAll.calls t104 (⟨#[34]⟩:ByteArray) (⟨#[38,113,117,111,116,59]⟩:ByteArray) t105 _ A3.out).mono ?_);rintro e w5 ⟨rfl,hb⟩;refine ⟨_,rfl,?_⟩;have n0_:=A_ (below_step (by repeat (first|(with_reducible first|exact HB.out|apply ba_|apply pd_|apply b1_)|exact HB.out)) hb);clear HB;have HB:=n0_;clear n0_;(try clear hb);(try clear hb2);(try clear hk);(try clear hi)))
 go_ret
 exact ⟨by first|rfl|(simp [errW_none,errW_some] <;> rfl)|(simp [*,errW_none,errW_some] <;> rfl),by repeat (first|(with_reducible first|exact HB.out|apply ba_|apply pd_|apply b1_)|exact HB.out)⟩
/-! ### impl_EscapeValue: function 5 -/
def impl_EscapeValue.f (a0:ByteArray):Option (ByteArray):=(impl_isLong.f (([a0]:List ByteArray))).bind fun t109=>(if t109=true then (some (⟨#[]⟩:ByteArray)) else ((impl_escapeValue.f a0).bind fun t110=>(some t110)))
set_option maxHeartbeats 8000000 in
set_option maxRecDepth 100000 in
theorem impl_EscapeValue.calls (a0:ByteArray) (r:ByteArray) (w:World) (h:impl_EscapeValue.f a0=some r) :
 Calls Tryd.prog 5 #[.string a0] w fun e w'=>e=.returned (.string r)∧Below w.heap.size w w':=by
 have HB:=A_ (Below.refl w.heap.size w)
 have H:((impl_isLong.f (([a0]:List ByteArray))).bind fun t109=>(if t109=true then (some (⟨#[]⟩:ByteArray)) else ((impl_escapeValue.f a0).bind fun t110=>(some t110))))=some r:=h
 clear h
 obtain ⟨y106,hy106⟩:∃ y_:List ByteArray,y_=(([a0]:List ByteArray)):=⟨_,rfl⟩
 replace H:((impl_isLong.f y106).bind fun t109=>(if t109=true then (some (⟨#[]⟩:ByteArray)) else ((impl_escapeValue.f a0).bind fun t110=>(some t110))))=some r:=by first|(rw [hy106];with_reducible exact H)|(have H2_:=(Option.bind_some _ _).symm.trans H;rw [hy106];with_reducible exact H2_)|(have H2_:=(Option.bind_some _ _).symm.trans H;with_reducible exact H2_)|with_reducible exact H|(rw [hy106];exact H)|exact H
 have Ny106:=A_ hy106
 clear hy106
 replace H:=Option.bind_eq_some_iff.mp H
 obtain ⟨t109,A20,H⟩:=H
 replace H:(if t109=true then (some (⟨#[]⟩:ByteArray)) else ((impl_escapeValue.f a0).bind fun t110=>(some t110)))=some r:=H
 have A2:=A_ A20
 clear A20
 by_cases c3:t109=true
 ·subst c3
  have H1:(some (⟨#[]⟩:ByteArray))=some r:=by rw [if_pos rfl] at H;exact H
  clear H
  have H:=H1
  clear H1
  obtain rfl:=oi_ H
  go_enter Tryd.func5,Tryd.ntmps5
  go_wp2_with (first|((with_reducible refine gate_dst (N:=4) rfl ?_);refine Kd.R_lit Kd.string _ 9 ?hg (N:=4) ?hd (xs:=([a0]:List ByteArray)) (inner:=[.string a0]) (ok:=fun _=>True) (okp:=fun _=>True) ?hr ?hp (fun _ hk=>hk) trivial (Below.refl _ _) (Nat.le_refl _) (by simp) ?_;(case hd=>rfl);(case hg=>rfl);(case hr=>first|(go_simp;done)|(go_simp;rfl)|(first|(go_simp;done)|(go_simp;rfl)));(case hp=>exact (Reps.one (show Kd.M Kd.string _ _ _ a0 [.string a0] from rfl) (Reps.none _ _)));intro v107 w4 ho5 hb hg_ hnew_;clear hg_ hnew_;(first|rw [←Ny106.out] at ho5|(simp only [Int.reduceToNat] at ho5;rw [←Ny106.out] at ho5));have n0_:=A_ (Kd.R_lower ho5 (below_size (by repeat (first|(with_reducible first|exact HB.out|apply ba_|apply pd_|apply b1_)|exact HB.out))));have n1_:=A_ (below_step (by repeat (first|(with_reducible first|exact HB.out|apply ba_|apply pd_|apply b1_)|exact HB.out)) hb);clear HB;have HO108:=n0_;have HB:=n1_;clear n0_ n1_;clear hb ho5;obtain ⟨Ao6,co6,eo6⟩:=Kd.R_slice HO108.out;subst eo6)|((with_reducible refine gate_callee (f:=7) rfl ?_);refine goesL_ (some 5) rfl rfl Tryd.func7 (by kernel_rfl) rfl #[.slice Ao6 y106.length co6] rfl (by (try simp only [List.map_toArray,List.map_cons,List.map_nil]);first|done|rfl|(simp only [List.length_drop,lt_];rfl)) ?_;(with_reducible refine (impl_isLong.calls _ _ y106 true _ ?side1 ?side2 A2.out).mono ?_);(case side1=>repeat (first|exact (Kd.R_reads' HO108.out).2.2|(with_reducible refine Kd.C_alloc ?_ _)|(with_reducible refine Kd.C_drewN ?_ _)|(with_reducible refine Kd.C_drew ?_)));(case side2=>exact (Kd.R_reads' HO108.out).2.1);rintro e w7 ⟨rfl,hb⟩;refine ⟨_,rfl,?_⟩;have n0_:=A_ (Kd.R_below (by (with_reducible repeat (first|apply Kd.R_alloc|apply Kd.R_drewN|apply Kd.R_drew));exact HO108.out) hb);have n1_:=A_ (below_step (by repeat (first|(with_reducible first|exact HB.out|apply ba_|apply pd_|apply b1_)|exact HB.out)) hb);clear HO108;clear HB;have HO108:=n0_;have HB:=n1_;clear n0_ n1_;(try clear hb);(try clear hb2);(try clear hk);(try clear hi)))
  go_ret
  exact ⟨by first|rfl|(simp [errW_none,errW_some] <;> rfl)|(simp [*,errW_none,errW_some] <;> rfl),by repeat (first|(with_reducible first|exact HB.out|apply ba_|apply pd_|apply b1_)|exact HB.out)⟩
 ·replace c3:=Bool.eq_false_iff.mpr c3
  subst c3
  have H1:((impl_escapeValue.f a0).bind fun t110=>(some t110))=some r:=by rw [if_neg (show ¬ (false=true) by decide)] at H;exact H
  clear H
  have H:=H1
  clear H1
  replace H:=Option.bind_eq_some_iff.mp H
  obtain ⟨t110,A80,H⟩:=H
  replace H:(some t110)=some r:=H
  have A8:=A_ A80
  clear A80
  obtain rfl:=oi_ H
  go_enter Tryd.func5,Tryd.ntmps5
  go_wp2_with (first|((with_reducible refine gate_dst (N:=4) rfl ?_);refine Kd.R_lit Kd.string _ 9 ?hg (N:=4) ?hd (xs:=([a0]:List ByteArray)) (inner:=[.string a0]) (ok:=fun _=>True) (okp:=fun _=>True) ?hr ?hp (fun _ hk=>hk) trivial (Below.refl _ _) (Nat.le_refl _) (by simp) ?_;(case hd=>rfl);(case hg=>rfl);(case hr=>first|(go_simp;done)|(go_simp;rfl)|((first|(obtain ⟨_,_,rfl⟩:=Kd.R_slice HO108.out)|(obtain ⟨_,_,rfl⟩:=Kd.S_slice HO108.out)|skip);first|(go_simp;done)|(go_simp;rfl)));(case hp=>exact (Reps.one (show Kd.M Kd.string _ _ _ a0 [.string a0] from rfl) (Reps.none _ _)));intro v107 w9 ho10 hb hg_ hnew_;clear hg_ hnew_;(first|rw [←Ny106.out] at ho10|(simp only [Int.reduceToNat] at ho10;rw [←Ny106.out] at ho10));have n0_:=A_ (Kd.R_lower ho10 (below_size (by repeat (first|(with_reducible first|exact HB.out|apply ba_|apply pd_|apply b1_)|exact HB.out))));have n1_:=A_ (below_step (by repeat (first|(with_reducible first|exact HB.out|apply ba_|apply pd_|apply b1_)|exact HB.out)) hb);clear HB;have HO108:=n0_;have HB:=n1_;clear n0_ n1_;clear hb ho10;obtain ⟨Ao11,co11,eo11⟩:=Kd.R_slice HO108.out;subst eo11)|((with_reducible refine gate_callee (f:=7) rfl ?_);refine goesL_ (some 5) rfl rfl Tryd.func7 (by kernel_rfl) rfl #[.slice Ao11 y106.length co11] rfl (by (try simp only [List.map_toArray,List.map_cons,List.map_nil]);first|done|rfl|(simp only [List.length_drop,lt_];rfl)) ?_;(with_reducible refine (impl_isLong.calls _ _ y106 false _ ?side1 ?side2 A2.out).mono ?_);(case side1=>repeat (first|exact (Kd.R_reads' HO108.out).2.2|(with_reducible refine Kd.C_alloc ?_ _)|(with_reducible refine Kd.C_drewN ?_ _)|(with_reducible refine Kd.C_drew ?_)));(case side2=>exact (Kd.R_reads' HO108.out).2.1);rintro e w12 ⟨rfl,hb⟩;refine ⟨_,rfl,?_⟩;have n0_:=A_ (Kd.R_below (by (with_reducible repeat (first|apply Kd.R_alloc|apply Kd.R_drewN|apply Kd.R_drew));exact HO108.out) hb);have n1_:=A_ (below_step (by repeat (first|(with_reducible first|exact HB.out|apply ba_|apply pd_|apply b1_)|exact HB.out)) hb);clear HO108;clear HB;have HO108:=n0_;have HB:=n1_;clear n0_ n1_;(try clear hb);(try clear hb2);(try clear hk);(try clear hi))|((with_reducible refine gate_callee (f:=8) rfl ?_);refine goesL_ (some 7) rfl rfl Tryd.func8 (by kernel_rfl) rfl #[.string a0] rfl (by (try simp only [List.map_toArray,List.map_cons,List.map_nil]);first|done|rfl|(simp only [List.length_drop,lt_];rfl)) ?_;(with_reducible refine (impl_escapeValue.calls a0 t110 _ A8.out).mono ?_);rintro e w13 ⟨rfl,hb⟩;refine ⟨_,rfl,?_⟩;have n0_:=A_ (Kd.R_below (by (with_reducible repeat (first|apply Kd.R_alloc|apply Kd.R_drewN|apply Kd.R_drew));exact HO108.out) hb);have n1_:=A_ (below_step (by repeat (first|(with_reducible first|exact HB.out|apply ba_|apply pd_|apply b1_)|exact HB.out)) hb);clear HO108;clear HB;have HO108:=n0_;have HB:=n1_;clear n0_ n1_;(try clear hb);(try clear hb2);(try clear hk);(try clear hi)))
  go_ret
  exact ⟨by first|rfl|(simp [errW_none,errW_some] <;> rfl)|(simp [*,errW_none,errW_some] <;> rfl),by repeat (first|(with_reducible first|exact HB.out|apply ba_|apply pd_|apply b1_)|exact HB.out)⟩
/-! ### laws_FnExactEscapeValue: function 3 -/
def laws_FnExactEscapeValue.f (k:Nat) (a0:ByteArray):Option (Bool):=if (a0.size:Int)>1048576 then (some true) else ((spec_EscapeValue.f k a0).bind fun t111=>((impl_EscapeValue.f a0).bind fun t112=>(if t112.toList=t111.toList then (some true) else (some false))))
theorem laws_FnExactEscapeValue.mono:∀ a0 k,LeO (laws_FnExactEscapeValue.f k a0) (laws_FnExactEscapeValue.f (k+1) a0):=by
 intro a0 k
 unfold laws_FnExactEscapeValue.f
 repeat' first
  | (with_reducible exact spec_EscapeValue.mono _ _)
  | (with_reducible exact LeO.refl _)
  | (with_reducible exact LeO.none _)
  | (with_reducible refine LeO.ite ?_ ?_)
  | (with_reducible refine LeO.bind ?_ (fun _=>?_))
  | exact spec_EscapeValue.mono _ _
  | exact LeO.none _
  | refine LeO.ite ?_ ?_
  | refine LeO.bind ?_ (fun _=>?_)
set_option maxHeartbeats 8000000 in
set_option maxRecDepth 100000 in
theorem laws_FnExactEscapeValue.calls (k:Nat) (a0:ByteArray) (r:Bool) (w:World) (h:laws_FnExactEscapeValue.f k a0=some r) (HRT:Aside0 (r=true)) :
 Calls Tryd.prog 3 #[.string a0] w fun e w'=>e=.returned (.bool r)∧Below w.heap.size w w':=by
 have HB:=A_ (Below.refl w.heap.size w)
 have H:(if (a0.size:Int)>1048576 then (some true) else ((spec_EscapeValue.f k a0).bind fun t111=>((impl_EscapeValue.f a0).bind fun t112=>(if t112.toList=t111.toList then (some true) else (some false)))))=some r:=h
 clear h
 by_cases c2:(a0.size:Int)>1048576
 ·rw [if_pos c2] at H
  have c2b0:decide (1048576<(a0.size:Int))=true:=dt_ c2
  have c2b1:decide (1048576<a0.size)=true:=dt_ (by omega)
  clear c2
  obtain rfl:=oi_ H
  go_enter Tryd.func3,Tryd.ntmps3
  go_wp2
  go_ret
  exact ⟨by first|rfl|(simp [errW_none,errW_some] <;> rfl)|(simp [*,errW_none,errW_some] <;> rfl),by repeat (first|(with_reducible first|exact HB.out|apply ba_|apply pd_|apply b1_)|exact HB.out)⟩
 ·rw [if_neg c2] at H
  have c2b0:decide (1048576<(a0.size:Int))=false:=df_ c2
  have c2b1:decide (1048576<a0.size)=false:=df_ (by omega)
  clear c2
  replace H:=Option.bind_eq_some_iff.mp H
  obtain ⟨t111,A30,H⟩:=H
  replace H:((impl_EscapeValue.f a0).bind fun t112=>(if t112.toList=t111.toList then (some true) else (some false)))=some r:=H
  have A3:=A_ A30
  clear A30
  replace H:=Option.bind_eq_some_iff.mp H
  obtain ⟨t112,A40,H⟩:=H
  replace H:(if t112.toList=t111.toList then (some true) else (some false))=some r:=H
  have A4:=A_ A40
  clear A40
  by_cases c5:t112.toList=t111.toList
  ·rw [if_pos c5] at H
   have c5b0:(t112.toList == t111.toList)=true:=beq_iff_eq.mpr c5
   have c5b1:(t112.toList != t111.toList)=false:=bne_eq_false_iff_eq.mpr c5
   clear c5
   obtain rfl:=oi_ H
   go_enter Tryd.func3,Tryd.ntmps3
   go_wp2_with (first|((with_reducible refine gate_callee (f:=4) rfl ?_);refine goesL_ (some 9) rfl rfl Tryd.func4 (by kernel_rfl) rfl #[.string a0] rfl (by (try simp only [List.map_toArray,List.map_cons,List.map_nil]);first|done|rfl|(simp only [List.length_drop,lt_];rfl)) ?_;(with_reducible refine (spec_EscapeValue.calls k a0 t111 _ A3.out).mono ?_);rintro e w' ⟨rfl,⟨nd,rfl⟩⟩;refine ⟨_,rfl,?_⟩)|((with_reducible refine gate_callee (f:=5) rfl ?_);refine goesL_ (some 11) rfl rfl Tryd.func5 (by kernel_rfl) rfl #[.string a0] rfl (by (try simp only [List.map_toArray,List.map_cons,List.map_nil]);first|done|rfl|(simp only [List.length_drop,lt_];rfl)) ?_;(with_reducible refine (impl_EscapeValue.calls a0 t112 _ A4.out).mono ?_);rintro e w6 ⟨rfl,hb⟩;refine ⟨_,rfl,?_⟩;have n0_:=A_ (below_step (by repeat (first|(with_reducible first|exact HB.out|apply ba_|apply pd_|apply b1_)|exact HB.out)) hb);clear HB;have HB:=n0_;clear n0_;(try clear hb);(try clear hb2);(try clear hk);(try clear hi)))
   go_ret
   exact ⟨by first|rfl|(simp [errW_none,errW_some] <;> rfl)|(simp [*,errW_none,errW_some] <;> rfl),by repeat (first|(with_reducible first|exact HB.out|apply ba_|apply pd_|apply b1_)|exact HB.out)⟩
  ·rw [if_neg c5] at H
   have c5b0:(t112.toList == t111.toList)=false:=beq_eq_false_iff_ne.mpr c5
   have c5b1:(t112.toList != t111.toList)=true:=bne_iff_ne.mpr c5
   exact absurd ((oi_ H).trans HRT.out) (by decide)
/-- THE ONE PURE STATEMENT of laws_FnExactEscapeValue: yours. -/
def laws_FnExactEscapeValue.Pure:Prop:=∀ (a0:ByteArray),a0.size≤140737488351232→∃ k,laws_FnExactEscapeValue.f k a0=some true
theorem laws_FnExactEscapeValue.walk (P:laws_FnExactEscapeValue.Pure) (a0:ByteArray) (w:World) (w0:a0.size≤140737488351232) :
 Calls Tryd.prog 3 #[.string a0] w fun e w'=>e=.returned (.bool true)∧Below w.heap.size w w':=by
 obtain ⟨k,h⟩:=P a0 w0
 refine (laws_FnExactEscapeValue.calls k a0 true w h ⟨rfl⟩).mono ?_
 rintro e w' ⟨rfl,hd⟩
 exact ⟨rfl,hd⟩
end Go.Proofs.YtpoaaomcpleebaaDoor.PFnExactEscapeValue
