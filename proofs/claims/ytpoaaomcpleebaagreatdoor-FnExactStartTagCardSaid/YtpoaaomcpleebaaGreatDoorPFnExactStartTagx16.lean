/- By a program of this session, out of the kit's print and contracts made by hand: the machine side of a law; Lean checks it. No conditions. -/
import Derived.Test.YtpoaaomcpleebaaGreatDoorPFnExactStartTagx0
import Derived.Test.YtpoaaomcpleebaaGreatDoorPFnExactStartTagx12
import Derived.Test.YtpoaaomcpleebaaGreatDoorPFnExactStartTagx14
import Derived.Test.YtpoaaomcpleebaaGreatDoorPFnExactStartTagx15
namespace Go.Proofs.YtpoaaomcpleebaaGreatDoor.PFnExactStartTag
open Go.RowKit Go.Proofs.YtpoaaomcpleebaaGreatDoorW.PrintWords Go.Proofs.YtpoaaomcpleebaaGreatDoorW.PrintLast Go.Proofs.YtpoaaomcpleebaaGreatDoorW.PrintMore
attribute [local go_sem] max2_int min2_int max_two min_two max_three min_three max_four min_four
set_option linter.unusedVariables false
set_option linter.unusedSimpArgs false
/-! ### impl_escapeText: function 38, by hand -/
theorem run_build_rep (A:Option Addr) (n c:Nat) (w:World):(Instr.build 92 #[(2,.slice A n c)]).run Tryz.prog w=.ok (.agg #[.int .u32 0,.int .i32 0,.int .u32 0,.nilIface,.slice A n c]) w:=by kernel_rfl
theorem six_at (W:World) (b:Nat) (rest:Array Value) (h:W.heap[b]? = some (.cells (#[.string ⟨#[38]⟩,.string ⟨#[38,97,109,112,59]⟩,.string ⟨#[60]⟩,.string ⟨#[38,108,116,59]⟩,.string ⟨#[62]⟩,.string ⟨#[38,103,116,59]⟩]++rest) 9 (0,0))):∀ i,i<6→W.cell? ⟨b,i,none⟩=some (.string (escN.getD i ByteArray.empty)):=by
 intro i hi
 rw [bc_ h]
 rcases (show i=0∨i=1∨i=2∨i=3∨i=4∨i=5 by omega) with rfl|rfl|rfl|rfl|rfl|rfl <;> (rw [Array.getElem?_append_left (by simp)];rfl)
theorem append_six (w:World) (b:Nat) (hb:w.heap[b]? = some (.cells #[.string ⟨#[38]⟩,.string ⟨#[38,97,109,112,59]⟩,.string ⟨#[60]⟩,.string ⟨#[38,108,116,59]⟩,.string ⟨#[62]⟩,.string ⟨#[38,103,116,59]⟩] 9 (0,0))) :
 ∃ W c,(∀ ty,(Builtin.append_ #[76,76] ty #[.slice none 0 0,.slice (some ⟨b,0,none⟩) 6 6]).run Tryz.prog w=.ok (.slice (some ⟨w.heap.size,0,none⟩) 6 c) W)∧(∀ i,i<6→W.cell? ⟨w.heap.size,i,none⟩=some (.string (escN.getD i ByteArray.empty)))∧W.heap.size=w.heap.size+1∧Below w.heap.size w W:=by
 obtain ⟨i0,hi0,hz0⟩:=Option.map_eq_some_iff.1 (show (Tryz.prog.info? 9).map (fun i=>(i.zero,i.size,i.bytes))=some (some (.string ⟨#[]⟩),1,16) by kernel_rfl)
 simp only [Prod.mk.injEq] at hz0
 obtain ⟨h1,h2,h3⟩:=hz0
 have hr:=fun ty=>run_append_nil (P:=Tryz.prog) w 76 ty 9 i0 (.string ⟨#[]⟩) Tryz.underlying76 hi0 h1 ⟨b,0,none⟩ 6 6 [.string ⟨#[38]⟩,.string ⟨#[38,97,109,112,59]⟩,.string ⟨#[60]⟩,.string ⟨#[38,108,116,59]⟩,.string ⟨#[62]⟩,.string ⟨#[38,103,116,59]⟩] (by rw [h2];rfl) (fun j v hj=>by
  rw [add_plain,bc_ hb]
  first|simpa using hj|(rw [←hj];simp)) (by omega) (by omega) (by rw [h3];omega)
 refine ⟨_,_,hr,?_,by rw [World.size_alloc];rfl,(Below.refl _ _).drew.alloc (Nat.le_refl _) _⟩
 exact six_at _ _ _ (blk_new w.drew _)
set_option maxHeartbeats 8000000 in
set_option maxRecDepth 1000000 in
theorem newReplacer_calls (b:Nat) (w:World) (hb:w.heap[b]? = some (.cells #[.string ⟨#[38]⟩,.string ⟨#[38,97,109,112,59]⟩,.string ⟨#[60]⟩,.string ⟨#[38,108,116,59]⟩,.string ⟨#[62]⟩,.string ⟨#[38,103,116,59]⟩] 9 (0,0))) :
 Calls Tryz.prog 41 #[.slice (some ⟨b,0,none⟩) 6 6] w fun e w'=>∃ g a c,e=.returned (.pointer (some ⟨g,0,none⟩))∧w'.heap[g]? = some (.cells #[.int .u32 0,.int .i32 0,.int .u32 0,.nilIface,.slice (some ⟨a,0,none⟩) 6 c] 92 (0,0))∧(∀ i,i<6→w'.cell? ⟨a,i,none⟩=some (.string (escN.getD i ByteArray.empty)))∧a≠g∧w.heap.size≤g∧Below w.heap.size w w':=by
 obtain ⟨W,c,hap,h6,hsz,hbl⟩:=append_six w b hb
 have H6:=A_ h6
 have HBL:=A_ hbl
 have HSZ:=A_ hsz
 have hbd:=run_build_rep
 clear h6 hbl hb hsz
 go_enter Tryz.func41,Tryz.ntmps41
 go_wp2_with ((with_reducible refine gate_builtin (b:=.append) (xs:=#[.const (.slice none 0 0),.tmp 8]) rfl ?_);refine append_event rfl (.const (.slice none 0 0)) (.tmp 8) #[76,76] rfl rfl rfl hap ?_)
 go_ret
 have hlt:=HSZ.out
 refine ⟨W.heap.size,w.heap.size,c,rfl,blk_new W _,fun i hi=>(((Below.refl W.heap.size W).alloc (Nat.le_refl _) _).cell (p:=⟨w.heap.size,i,none⟩) (by show w.heap.size<W.heap.size;omega)).trans (H6.out i hi),by omega,by omega,HBL.out.alloc (by omega) _⟩
def impl_escapeText.f (a0:ByteArray):Option ByteArray:=if a0.size≤1099511627776 then some (escT a0) else none
set_option maxHeartbeats 8000000 in
set_option maxRecDepth 1000000 in
theorem impl_escapeText.calls (a0:ByteArray) (r:ByteArray) (w:World) (h:impl_escapeText.f a0=some r) :
 Calls Tryz.prog 38 #[.string a0] w fun e w'=>e=.returned (.string r)∧Below w.heap.size w w':=by
 unfold impl_escapeText.f at h
 obtain ⟨hn,h⟩:=Option.ite_none_right_eq_some.mp h
 obtain rfl:=oi_ h
 have HN:=A_ (newReplacer_calls w.heap.size (w.alloc (.cells #[.string ⟨#[38]⟩,.string ⟨#[38,97,109,112,59]⟩,.string ⟨#[60]⟩,.string ⟨#[38,108,116,59]⟩,.string ⟨#[62]⟩,.string ⟨#[38,103,116,59]⟩] 9 (0,0))) (blk_new w _))
 have HB0:Aside0 (Below w.heap.size w (w.alloc (.cells #[.string ⟨#[38]⟩,.string ⟨#[38,97,109,112,59]⟩,.string ⟨#[60]⟩,.string ⟨#[38,108,116,59]⟩,.string ⟨#[62]⟩,.string ⟨#[38,103,116,59]⟩] 9 (0,0)))):=⟨(Below.refl _ _).alloc (Nat.le_refl _) _⟩
 have HS0:Aside0 ((w.alloc (.cells #[.string ⟨#[38]⟩,.string ⟨#[38,97,109,112,59]⟩,.string ⟨#[60]⟩,.string ⟨#[38,108,116,59]⟩,.string ⟨#[62]⟩,.string ⟨#[38,103,116,59]⟩] 9 (0,0))).heap.size=w.heap.size+1):=⟨World.size_alloc _ _⟩
 go_enter Tryz.func38,Tryz.ntmps38
 go_wp2_with (first|(go_at_call 41;(with_reducible refine HN.out.mono ?_);rintro e w2 ⟨g,a,c,rfl,hg,hs,hag,hlo,hb2⟩;(have HR:=A_ (replace_calls g a c w.heap.size w2 w a0 hn hg hs hag (by have:=HS0.out;omega) (HB0.out.trans (hb2.mono HB0.out.size))));clear hg hs hb2)|(go_at_call 42;(with_reducible refine HR.out.mono ?_);rintro e w3 ⟨rfl,hb3⟩;(have HB3:=A_ hb3);clear hb3))
 go_ret
 exact ⟨rfl,HB3.out⟩
/-! ### impl_escapeValue: function 28 -/
def impl_escapeValue.f (a0:ByteArray):Option (ByteArray):=(impl_escapeText.f a0).bind fun t176=>((strings_ReplaceAll.f t176 (⟨#[34]⟩:ByteArray) (⟨#[38,113,117,111,116,59]⟩:ByteArray)).bind fun t177=>(some t177))
set_option maxHeartbeats 8000000 in
set_option maxRecDepth 100000 in
theorem impl_escapeValue.calls (a0:ByteArray) (r:ByteArray) (w:World) (h:impl_escapeValue.f a0=some r) :
 Calls Tryz.prog 28 #[.string a0] w fun e w'=>e=.returned (.string r)∧Below w.heap.size w w':=by
 have HB:=A_ (Below.refl w.heap.size w)
 have H:((impl_escapeText.f a0).bind fun t176=>((strings_ReplaceAll.f t176 (⟨#[34]⟩:ByteArray) (⟨#[38,113,117,111,116,59]⟩:ByteArray)).bind fun t177=>(some t177)))=some r:=h
 clear h
 replace H:=ob_ H
 obtain ⟨t176,A20,H⟩:=H
 replace H:((strings_ReplaceAll.f t176 (⟨#[34]⟩:ByteArray) (⟨#[38,113,117,111,116,59]⟩:ByteArray)).bind fun t177=>(some t177))=some r:=H
 have A2:=A_ A20
 clear A20
 replace H:=ob_ H
 obtain ⟨t177,A30,H⟩:=H
 replace H:(some t177)=some r:=H
 have A3:=A_ A30
 clear A30
 obtain rfl:=oi_ H
 go_enter Tryz.func28,Tryz.ntmps28
 go_wp2_with (first|((with_reducible refine gate_callee (f:=38) rfl ?_);refine goesL_ (some 4) rfl rfl Tryz.func38 (by kernel_rfl) rfl #[.string a0] rfl (by (try simp only [List.map_toArray,List.map_cons,List.map_nil]);first|done|rfl|(simp only [ld_,lt_];rfl)) ?_;(with_reducible refine (impl_escapeText.calls a0 t176 _ A2.out).mono ?_);rintro e w4 ⟨rfl,hb⟩;refine ⟨_,rfl,?_⟩;have n0_:=A_ (bp_ (by repeat (first|(with_reducible first|exact HB.out|apply ba_|apply pd_|apply b1_)|exact HB.out)) hb);clear HB;have HB:=n0_;clear n0_;(try clear hb);(try clear hb2);(try clear hk);(try clear hi))|((with_reducible refine gate_callee (f:=37) rfl ?_);refine goesL_ (some 5) rfl rfl Tryz.func37 (by kernel_rfl) rfl #[.string t176,.string (⟨#[34]⟩:ByteArray),.string (⟨#[38,113,117,111,116,59]⟩:ByteArray)] rfl (by (try simp only [List.map_toArray,List.map_cons,List.map_nil]);first|done|rfl|(simp only [ld_,lt_];rfl)) ?_;(with_reducible refine (strings_ReplaceAll.calls t176 (⟨#[34]⟩:ByteArray) (⟨#[38,113,117,111,116,59]⟩:ByteArray) t177 _ A3.out).mono ?_);rintro e w5 ⟨rfl,hb⟩;refine ⟨_,rfl,?_⟩;have n0_:=A_ (bp_ (by repeat (first|(with_reducible first|exact HB.out|apply ba_|apply pd_|apply b1_)|exact HB.out)) hb);clear HB;have HB:=n0_;clear n0_;(try clear hb);(try clear hb2);(try clear hk);(try clear hi)))
 go_ret
 exact ⟨by first|rfl|(simp [errW_none,errW_some] <;> rfl)|(simp [*,errW_none,errW_some] <;> rfl),by repeat (first|(with_reducible first|exact HB.out|apply ba_|apply pd_|apply b1_)|exact HB.out)⟩
/-! ### impl_startTag: function 16 -/
def impl_startTag.l0:Nat→ByteArray→List (S51)→Int→Int→Option (ByteArray)
 | 0,_,_,_,_=>none
 | k+1,x3,x10,x11,x12=>if x12<x11 then (if 0≤x12 then (if x12<(x10.length:Int) then (if 1+((rd_T51 x10 x12).f0).size≤9223372036854775807 then (if ((⟨#[32]⟩:ByteArray)++((rd_T51 x10 x12).f0)).size+2≤9223372036854775807 then ((impl_escapeValue.f ((rd_T51 x10 x12).f1)).bind fun t181=>(if (((⟨#[32]⟩:ByteArray)++((rd_T51 x10 x12).f0))++(⟨#[61,34]⟩:ByteArray)).size+t181.size≤9223372036854775807 then (if ((((⟨#[32]⟩:ByteArray)++((rd_T51 x10 x12).f0))++(⟨#[61,34]⟩:ByteArray))++t181).size+1≤9223372036854775807 then (if x3.size+(((((⟨#[32]⟩:ByteArray)++((rd_T51 x10 x12).f0))++(⟨#[61,34]⟩:ByteArray))++t181)++(⟨#[34]⟩:ByteArray)).size≤9223372036854775807 then (impl_startTag.l0 k (x3++(((((⟨#[32]⟩:ByteArray)++((rd_T51 x10 x12).f0))++(⟨#[61,34]⟩:ByteArray))++t181)++(⟨#[34]⟩:ByteArray))) x10 x11 (wrap64 (x12+1))) else (none)) else (none)) else (none))) else (none)) else (none)) else (none)) else (none)) else (if x3.size+1≤9223372036854775807 then (some (x3++(⟨#[62]⟩:ByteArray))) else (none))
def impl_startTag.f (k:Nat) (a0_0:Int) (a0_1:Int) (a0_2:ByteArray) (a0_3:ByteArray) (l0_4:List (S51)) (l0_5:List (S32)):Option (ByteArray):=if 1+a0_2.size≤9223372036854775807 then (impl_startTag.l0 k ((⟨#[60]⟩:ByteArray)++a0_2) l0_4 (l0_4.length:Int) 0) else (none)
theorem impl_startTag.mono_l:∀ k,(∀ y0 y1 y2 y3,LeO (impl_startTag.l0 k y0 y1 y2 y3) (impl_startTag.l0 (k+1) y0 y1 y2 y3))
 | 0=>fun _ _ _ _ r h=>by simp [impl_startTag.l0] at h
 | k+1=>by
  have ih0:=impl_startTag.mono_l k
  ·intro y0 y1 y2 y3
   unfold impl_startTag.l0
   repeat' first
   | (with_reducible exact ih0 _ _ _ _)
   | (with_reducible exact LeO.refl _)
   | (with_reducible exact LeO.none _)
   | (with_reducible refine LeO.ite ?_ ?_)
   | (with_reducible refine LeO.bind ?_ (fun _=>?_))
   | exact ih0 _ _ _ _
   | exact LeO.none _
   | refine LeO.ite ?_ ?_
   | refine LeO.bind ?_ (fun _=>?_)
theorem impl_startTag.mono:∀ a0 a1 a2 a3 a4 a5 k,LeO (impl_startTag.f k a0 a1 a2 a3 a4 a5) (impl_startTag.f (k+1) a0 a1 a2 a3 a4 a5):=by
 intro a0 a1 a2 a3 a4 a5 k
 have ih0:=impl_startTag.mono_l k
 unfold impl_startTag.f
 repeat' first
  | (with_reducible exact ih0 _ _ _ _)
  | (with_reducible exact LeO.refl _)
  | (with_reducible exact LeO.none _)
  | (with_reducible refine LeO.ite ?_ ?_)
  | (with_reducible refine LeO.bind ?_ (fun _=>?_))
  | exact ih0 _ _ _ _
  | exact LeO.none _
  | refine LeO.ite ?_ ?_
  | refine LeO.bind ?_ (fun _=>?_)
def impl_startTag.T5:Bool × List (List Nat × List Nat):=(true,[([],[]),([],[]),([1],[1]),([2],[2]),([3],[3]),([],[]),([5],[5]),([6],[6]),([4,7],[4,7]),([8],[8]),([0,9],[0,9]),([10,7,0,1,2,3,4,5,6,7,8,9,10],[0,10])])
def impl_startTag.B5:List Nat:=[0,0,2,6,14,0,32,96,254,510,1023,2047]
theorem impl_startTag.tab5:rtab .any (opsOf Tryz.f16 5)=impl_startTag.T5:=by kernel_rfl
theorem impl_startTag.bits5:waitsOk impl_startTag.T5.2 impl_startTag.B5=true:=by kernel_rfl
set_option maxHeartbeats 8000000 in
set_option maxRecDepth 100000 in
theorem impl_startTag.calls (k:Nat) (a0_0:Int) (a0_1:Int) (a0_2:ByteArray) (a0_3:ByteArray) (A0_4:Option Addr) (c0_4:Nat) (l0_4:List (S51)) (A0_5:Option Addr) (c0_5:Nat) (l0_5:List (S32)) (r:ByteArray) (w:World) (hr0_4:Kd.C k51 w A0_4 l0_4.length l0_4) (hc0_4:l0_4.length≤c0_4) (hr0_5:Kd.C k32 w A0_5 l0_5.length l0_5) (hc0_5:l0_5.length≤c0_5) (h:impl_startTag.f k a0_0 a0_1 a0_2 a0_3 l0_4 l0_5=some r) :
 Calls Tryz.prog 16 #[.agg #[.int .i64 a0_0,.int .i64 a0_1,.string a0_2,.string a0_3,.slice A0_4 l0_4.length c0_4,.slice A0_5 l0_5.length c0_5]] w fun e w'=>e=.returned (.string r)∧Below w.heap.size w w':=by
 have hu32:=Tryz.underlying32
 have hu51:=Tryz.underlying51
 have HR0_4:=A_ hr0_4
 have HC0_4:=A_ hc0_4
 clear hr0_4 hc0_4
 have HR0_5:=A_ hr0_5
 have HC0_5:=A_ hc0_5
 clear hr0_5 hc0_5
 have HB:=A_ (Below.refl w.heap.size w)
 have H:(if 1+a0_2.size≤9223372036854775807 then (impl_startTag.l0 k ((⟨#[60]⟩:ByteArray)++a0_2) l0_4 (l0_4.length:Int) 0) else (none))=some r:=h
 clear h
 by_cases c2:1+a0_2.size≤9223372036854775807
 ·rw [if_pos c2] at H
  have c2b0:=eq_true c2
  have c2b1:decide (1+a0_2.size≤9223372036854775807)=true:=dt_ c2
  try have c2b2:(9223372036854775807<1+a0_2.size)=False:=eq_false (Nat.not_lt.2 c2)
  have H':=A_ H
  clear H
  go_enter Tryz.func16,Tryz.ntmps16
  go_wp2_with (first|((with_reducible refine gate_dst (N:=1) rfl ?_);refine box_event ?hg (N:=1) ?hd (cs:=#[.int .i64 a0_0,.int .i64 a0_1,.string a0_2,.string a0_3,.slice A0_4 l0_4.length c0_4,.slice A0_5 l0_5.length c0_5]) (t:=32) ?hr ?_;(case hd=>rfl);(case hg=>rfl);(case hr=>first|(go_simp;done)|(go_simp;rfl));intro gb178 hg w3 hbox hb;have n0_:=A_ (bp_ (by repeat (first|(with_reducible first|exact HB.out|apply ba_|apply pd_|apply b1_)|exact HB.out)) hb);have n1_:=A_ (hbox);have n2_:=A_ ((by rw [hg];exact (bz_ (by repeat (first|(with_reducible first|exact HB.out|apply ba_|apply pd_|apply b1_)|exact HB.out))):w.heap.size≤gb178));have n3_:=A_ ((by rw [hg];exact (bz_ (by repeat (first|(with_reducible first|exact HB.out|apply ba_|apply pd_|apply b1_)|exact HB.out))):w.heap.size≤gb178));clear HB;have HB:=n0_;have BK178:=n1_;have GW178:=n2_;have GE178:=n3_;clear n0_ n1_ n2_ n3_;clear hb hbox hg;have hcz4_0:w3.cell? ⟨gb178,0,none⟩=some (.int .i64 a0_0):=(bc_ BK178.out 0).trans rfl;have hcz4_1:w3.cell? ⟨gb178,1,none⟩=some (.int .i64 a0_1):=(bc_ BK178.out 1).trans rfl;have hcz4_2:w3.cell? ⟨gb178,2,none⟩=some (.string a0_2):=(bc_ BK178.out 2).trans rfl;have hcz4_3:w3.cell? ⟨gb178,3,none⟩=some (.string a0_3):=(bc_ BK178.out 3).trans rfl;have hcz4_4:w3.cell? ⟨gb178,4,none⟩=some (.slice A0_4 l0_4.length c0_4):=(bc_ BK178.out 4).trans rfl;have hcz4_5:w3.cell? ⟨gb178,5,none⟩=some (.slice A0_5 l0_5.length c0_5):=(bc_ BK178.out 5).trans rfl;have hfz4_0:=bf_ BK178.out 0;have hfz4_1:=bf_ BK178.out 1;have hfz4_2:=bf_ BK178.out 2;have hfz4_3:=bf_ BK178.out 3;have hfz4_4:=bf_ BK178.out 4;have hfz4_5:=bf_ BK178.out 5))
  go_loopg [3,12] k (fun kq v3 v12 w'=>∃ (x3_1:ByteArray) (x12_1:Int),v3=.string x3_1∧v12=.int .i64 x12_1∧Aside0 (impl_startTag.l0 kq x3_1 l0_4 (l0_4.length:Int) x12_1=some r)∧Aside0 (kq≤k)∧Aside0 (w'.heap[gb178]? = some (.cells #[.int .i64 a0_0,.int .i64 a0_1,.string a0_2,.string a0_3,(.slice A0_4 l0_4.length c0_4),(.slice A0_5 l0_5.length c0_5)] 32 (0,0)))∧Aside0 (Below w.heap.size w w'))
  case atStart=>exact ⟨((⟨#[60]⟩:ByteArray)++a0_2),(0),(by first|rfl|(simp;done)|(simp [*];done)),(by first|rfl|(simp;done)|(simp [*];done)),H',⟨Nat.le_refl _⟩,⟨by (with_reducible repeat (first|refine kn_ ?_ _|refine kd_ ?_|refine ka_ ?_ _));exact BK178.out⟩,⟨by repeat (first|(with_reducible first|exact HB.out|apply ba_|apply pd_|apply b1_|refine bs_ ?_ GE178.out)|exact HB.out)⟩⟩
  case round =>
   clear H'
   try clear c1
   try clear c2
   try clear c2b0
   try clear c2b1
   try clear c2b2
   try clear p2
   try clear hcz4_0
   try clear hcz4_1
   try clear hcz4_2
   try clear hcz4_3
   try clear hcz4_4
   try clear hcz4_5
   try clear hfz4_0
   try clear hfz4_1
   try clear hfz4_2
   try clear hfz4_3
   try clear hfz4_4
   try clear hfz4_5
   obtain ⟨x3_1,x12_1,rfl,rfl,HA,HK1,BK178,HB⟩:=hrel
   cases gk with
   | zero=>exact absurd HA.out (by simp [impl_startTag.l0])
   | succ k1 =>
    have H:=HA.out
    clear HA
    simp only [impl_startTag.l0] at H
    by_cases c5:x12_1<(l0_4.length:Int)
    ·rw [if_pos c5] at H
     have c5b0:decide (x12_1<(l0_4.length:Int))=true:=dt_ c5
     clear c5
     by_cases c6:0≤x12_1
     ·rw [if_pos c6] at H
      have c6b0:decide (0≤x12_1)=true:=dt_ c6
      clear c6
      by_cases c7:x12_1<(l0_4.length:Int)
      ·rw [if_pos c7] at H
       have c7b0:decide (x12_1<(l0_4.length:Int))=true:=dt_ c7
       clear c7
       by_cases c8:1+((rd_T51 l0_4 x12_1).f0).size≤9223372036854775807
       ·rw [if_pos c8] at H
        have c8b0:=eq_true c8
        have c8b1:decide (1+((rd_T51 l0_4 x12_1).f0).size≤9223372036854775807)=true:=dt_ c8
        try have c8b2:(9223372036854775807<1+((rd_T51 l0_4 x12_1).f0).size)=False:=eq_false (Nat.not_lt.2 c8)
        by_cases c9:((⟨#[32]⟩:ByteArray)++((rd_T51 l0_4 x12_1).f0)).size+2≤9223372036854775807
        ·rw [if_pos c9] at H
         have c9b0:=eq_true c9
         have c9b1:decide (((⟨#[32]⟩:ByteArray)++((rd_T51 l0_4 x12_1).f0)).size+2≤9223372036854775807)=true:=dt_ c9
         try have c9b2:(9223372036854775807<((⟨#[32]⟩:ByteArray)++((rd_T51 l0_4 x12_1).f0)).size+2)=False:=eq_false (Nat.not_lt.2 c9)
         have c9b8:=c9b1
         have c9b9:=c9b2
         have l0_:(⟨#[32]⟩:ByteArray).size=1:=rfl
         try simp only [ByteArray.size_append,l0_] at c9b8 c9b9
         clear l0_
         replace H:=ob_ H
         obtain ⟨t181,A100,H⟩:=H
         replace H:(if (((⟨#[32]⟩:ByteArray)++((rd_T51 l0_4 x12_1).f0))++(⟨#[61,34]⟩:ByteArray)).size+t181.size≤9223372036854775807 then (if ((((⟨#[32]⟩:ByteArray)++((rd_T51 l0_4 x12_1).f0))++(⟨#[61,34]⟩:ByteArray))++t181).size+1≤9223372036854775807 then (if x3_1.size+(((((⟨#[32]⟩:ByteArray)++((rd_T51 l0_4 x12_1).f0))++(⟨#[61,34]⟩:ByteArray))++t181)++(⟨#[34]⟩:ByteArray)).size≤9223372036854775807 then (impl_startTag.l0 k1 (x3_1++(((((⟨#[32]⟩:ByteArray)++((rd_T51 l0_4 x12_1).f0))++(⟨#[61,34]⟩:ByteArray))++t181)++(⟨#[34]⟩:ByteArray))) l0_4 (l0_4.length:Int) (wrap64 (x12_1+1))) else (none)) else (none)) else (none))=some r:=H
         have A10:=A_ A100
         clear A100
         by_cases c11:(((⟨#[32]⟩:ByteArray)++((rd_T51 l0_4 x12_1).f0))++(⟨#[61,34]⟩:ByteArray)).size+t181.size≤9223372036854775807
         ·rw [if_pos c11] at H
          have c11b0:=eq_true c11
          have c11b1:decide ((((⟨#[32]⟩:ByteArray)++((rd_T51 l0_4 x12_1).f0))++(⟨#[61,34]⟩:ByteArray)).size+t181.size≤9223372036854775807)=true:=dt_ c11
          try have c11b2:(9223372036854775807<(((⟨#[32]⟩:ByteArray)++((rd_T51 l0_4 x12_1).f0))++(⟨#[61,34]⟩:ByteArray)).size+t181.size)=False:=eq_false (Nat.not_lt.2 c11)
          have c11b8:=c11b1
          have c11b9:=c11b2
          have l0_:(⟨#[32]⟩:ByteArray).size=1:=rfl
          have l1_:(⟨#[61,34]⟩:ByteArray).size=2:=rfl
          try simp only [ByteArray.size_append,l0_,l1_] at c11b8 c11b9
          clear l0_ l1_
          by_cases c12:((((⟨#[32]⟩:ByteArray)++((rd_T51 l0_4 x12_1).f0))++(⟨#[61,34]⟩:ByteArray))++t181).size+1≤9223372036854775807
          ·rw [if_pos c12] at H
           have c12b0:=eq_true c12
           have c12b1:decide (((((⟨#[32]⟩:ByteArray)++((rd_T51 l0_4 x12_1).f0))++(⟨#[61,34]⟩:ByteArray))++t181).size+1≤9223372036854775807)=true:=dt_ c12
           try have c12b2:(9223372036854775807<((((⟨#[32]⟩:ByteArray)++((rd_T51 l0_4 x12_1).f0))++(⟨#[61,34]⟩:ByteArray))++t181).size+1)=False:=eq_false (Nat.not_lt.2 c12)
           have c12b8:=c12b1
           have c12b9:=c12b2
           have l0_:(⟨#[32]⟩:ByteArray).size=1:=rfl
           have l1_:(⟨#[61,34]⟩:ByteArray).size=2:=rfl
           try simp only [ByteArray.size_append,l0_,l1_] at c12b8 c12b9
           clear l0_ l1_
           by_cases c13:x3_1.size+(((((⟨#[32]⟩:ByteArray)++((rd_T51 l0_4 x12_1).f0))++(⟨#[61,34]⟩:ByteArray))++t181)++(⟨#[34]⟩:ByteArray)).size≤9223372036854775807
           ·rw [if_pos c13] at H
            have c13b0:=eq_true c13
            have c13b1:decide (x3_1.size+(((((⟨#[32]⟩:ByteArray)++((rd_T51 l0_4 x12_1).f0))++(⟨#[61,34]⟩:ByteArray))++t181)++(⟨#[34]⟩:ByteArray)).size≤9223372036854775807)=true:=dt_ c13
            try have c13b2:(9223372036854775807<x3_1.size+(((((⟨#[32]⟩:ByteArray)++((rd_T51 l0_4 x12_1).f0))++(⟨#[61,34]⟩:ByteArray))++t181)++(⟨#[34]⟩:ByteArray)).size)=False:=eq_false (Nat.not_lt.2 c13)
            have c13b8:=c13b1
            have c13b9:=c13b2
            have l0_:(⟨#[32]⟩:ByteArray).size=1:=rfl
            have l1_:(⟨#[34]⟩:ByteArray).size=1:=rfl
            have l2_:(⟨#[61,34]⟩:ByteArray).size=2:=rfl
            try simp only [ByteArray.size_append,l0_,l1_,l2_] at c13b8 c13b9
            clear l0_ l1_ l2_
            have H':=A_ H
            clear H
            have p179:0≤(x12_1:Int):=od_ (by first|(with_reducible assumption)|assumption)
            have q179:x12_1<(l0_4.length:Int):=od_ (by first|(with_reducible assumption)|assumption)
            obtain ⟨ad179,e179,hx179_0,hx179_1⟩:=at_T51 HR0_4.out x12_1 p179 q179
            cases e179
            replace hx179_0:=(HB.out.cell (bl_ w _ hx179_0)).trans hx179_0
            replace hx179_1:=(HB.out.cell (bl_ w _ hx179_1)).trans hx179_1
            replace p179:=eq_true p179
            replace q179:=eq_true q179
            try go_wp2_with (first|((with_reducible refine gate_dst (N:=5) rfl ?_);refine box_event ?hg (N:=5) ?hd (cs:=#[.string (⟨#[]⟩:ByteArray),.string (⟨#[]⟩:ByteArray)]) (t:=51) ?hr ?_;(case hd=>rfl);(case hg=>rfl);(case hr=>first|(go_simp;done)|(go_simp;rfl));intro gb180 hg w14 hbox hb;have n0_:=A_ (kb_ (g:=gb178) (o:=.cells #[.int .i64 a0_0,.int .i64 a0_1,.string a0_2,.string a0_3,.slice (some ad179) l0_4.length c0_4,.slice A0_5 l0_5.length c0_5] 32 (0,0)) (by (with_reducible repeat (first|refine kn_ ?_ _|refine kd_ ?_|refine ka_ ?_ _));exact BK178.out) hb);have n1_:=A_ (bp_ (by repeat (first|(with_reducible first|exact HB.out|apply ba_|apply pd_|apply b1_|refine bs_ ?_ GE178.out)|exact HB.out)) hb);have n2_:=A_ (hbox);have n3_:=A_ ((by rw [hg];exact (bz_ (by repeat (first|(with_reducible first|exact HB.out|apply ba_|apply pd_|apply b1_|refine bs_ ?_ GE178.out)|exact HB.out))):w.heap.size≤gb180));have n4_:=A_ ((by rw [hg];exact (bz_ (by repeat (first|(with_reducible first|exact HB.out|apply ba_|apply pd_|apply b1_|refine bs_ ?_ GE178.out)|exact HB.out))):w.heap.size≤gb180));have n5_:=A_ ((by rw [hg];exact Nat.ne_of_lt (blk_lt (g:=gb178) (o:=.cells #[.int .i64 a0_0,.int .i64 a0_1,.string a0_2,.string a0_3,.slice (some ad179) l0_4.length c0_4,.slice A0_5 l0_5.length c0_5] 32 (0,0)) (by (with_reducible repeat (first|refine kn_ ?_ _|refine kd_ ?_|refine ka_ ?_ _));exact BK178.out)):gb178≠gb180));have n6_:=A_ ((by rw [hg];exact Nat.ne_of_gt (blk_lt (g:=gb178) (o:=.cells #[.int .i64 a0_0,.int .i64 a0_1,.string a0_2,.string a0_3,.slice (some ad179) l0_4.length c0_4,.slice A0_5 l0_5.length c0_5] 32 (0,0)) (by (with_reducible repeat (first|refine kn_ ?_ _|refine kd_ ?_|refine ka_ ?_ _));exact BK178.out)):gb180≠gb178));clear BK178;clear HB;have BK178:=n0_;have HB:=n1_;have BK180:=n2_;have GW180:=n3_;have GE180:=n4_;have NB178_180:=n5_;have NB180_178:=n6_;clear n0_ n1_ n2_ n3_ n4_ n5_ n6_;clear hb hbox hg;have hnb15:=NB180_178.out;have hnc15:=NB178_180.out;have hcz16_0:w14.cell? ⟨gb180,0,none⟩=some (.string (⟨#[]⟩:ByteArray)):=(bc_ BK180.out 0).trans rfl;have hcz16_1:w14.cell? ⟨gb180,1,none⟩=some (.string (⟨#[]⟩:ByteArray)):=(bc_ BK180.out 1).trans rfl;have hfz16_0:=bf_ BK180.out 0;have hfz16_1:=bf_ BK180.out 1))
            have n0_:Aside0 (((w14.setCell ⟨gb180,0,none⟩ (.string ((rd_T51 l0_4 x12_1).f0))).setCell ⟨gb180,1,none⟩ (.string ((rd_T51 l0_4 x12_1).f1))).heap[gb178]? = some (.cells #[.int .i64 a0_0,.int .i64 a0_1,.string a0_2,.string a0_3,.slice (some ad179) l0_4.length c0_4,.slice A0_5 l0_5.length c0_5] 32 (0,0))):=⟨by (with_reducible repeat (first|refine kn_ ?_ _|refine kd_ ?_|refine ka_ ?_ _));refine blk_far ?_ NB178_180.out _;(with_reducible repeat (first|refine kn_ ?_ _|refine kd_ ?_|refine ka_ ?_ _));refine blk_far ?_ NB178_180.out _;(with_reducible repeat (first|refine kn_ ?_ _|refine kd_ ?_|refine ka_ ?_ _));exact BK178.out⟩
            have n1_:Aside0 (((w14.setCell ⟨gb180,0,none⟩ (.string ((rd_T51 l0_4 x12_1).f0))).setCell ⟨gb180,1,none⟩ (.string ((rd_T51 l0_4 x12_1).f1))).heap[gb180]? = some (.cells #[.string ((rd_T51 l0_4 x12_1).f0),.string ((rd_T51 l0_4 x12_1).f1)] 51 (0,0))):=⟨by (with_reducible repeat (first|refine kn_ ?_ _|refine kd_ ?_|refine ka_ ?_ _));refine blk_put (cs:=#[.string ((rd_T51 l0_4 x12_1).f0),.string (⟨#[]⟩:ByteArray)]) ?_ 1 _ rfl;(with_reducible repeat (first|refine kn_ ?_ _|refine kd_ ?_|refine ka_ ?_ _));refine blk_put (cs:=#[.string (⟨#[]⟩:ByteArray),.string (⟨#[]⟩:ByteArray)]) ?_ 0 _ rfl;(with_reducible repeat (first|refine kn_ ?_ _|refine kd_ ?_|refine ka_ ?_ _));exact BK180.out⟩
            have n2_:Aside0 (Below w.heap.size w ((w14.setCell ⟨gb180,0,none⟩ (.string ((rd_T51 l0_4 x12_1).f0))).setCell ⟨gb180,1,none⟩ (.string ((rd_T51 l0_4 x12_1).f1)))):=⟨by repeat (first|(with_reducible first|exact HB.out|apply ba_|apply pd_|apply b1_|refine bs_ ?_ GE178.out|refine bs_ ?_ GE180.out)|exact HB.out)⟩
            (try clear BK178)
            (try clear BK180)
            (try clear HB)
            generalize ((w14.setCell ⟨gb180,0,none⟩ (.string ((rd_T51 l0_4 x12_1).f0))).setCell ⟨gb180,1,none⟩ (.string ((rd_T51 l0_4 x12_1).f1)))=w17 at n0_ n1_ n2_ ⊢
            have BK178:=n0_
            have BK180:=n1_
            have HB:=n2_
            clear n0_ n1_ n2_
            have n0_:=A_ (kd_ BK178.out)
            have n1_:=A_ (kd_ BK180.out)
            have n2_:=A_ (b1_ HB.out)
            clear BK178
            clear BK180
            clear HB
            have BK178:=n0_
            have BK180:=n1_
            have HB:=n2_
            clear n0_ n1_ n2_
            refine start_ (n:=12) (S:=fun w'=>w'.cell? ⟨gb180,0,none⟩=some (.string ((rd_T51 l0_4 x12_1).f0))∧w'.cell? ⟨gb180,1,none⟩=some (.string ((rd_T51 l0_4 x12_1).f1))) (ds:=[]) #[F_,F_,F_,F_,F_,F_,F_,F_,F_,F_,F_,F_] (by kernel_rfl) rfl rfl ⟨(bc_ BK180.out 0).trans rfl,(bc_ BK180.out 1).trans rfl⟩ (fun hHeld=>?_);refine with_tabW impl_startTag.tab5 impl_startTag.bits5 (fun HT_ HW_=>?_)
            generalize w17.drew=w18 at BK178 BK180 HB hHeld ⊢
            refine pure_ (i:=0) (N:=some 16) (v:=?_) (a':=?_) #[T_,F_,F_,F_,F_,F_,F_,F_,F_,F_,F_,F_] rfl rfl (any_of HT_.out (by kernel_rfl)) (fun _ _ _ h=>h) (Or.inl ⟨by rfl,?_⟩) ?_ ?_
            rotate_left
            ·intro w'
             go_simp
             with_reducible rfl
            rotate_left
            ·simp only [Act.put,ls_,lz_,lc_,i64_w,i32_w]
             rfl
            refine pure_ (i:=1) (N:=some 17) (v:=?_) (a':=?_) #[T_,T_,F_,F_,F_,F_,F_,F_,F_,F_,F_,F_] rfl rfl (any_of HT_.out (by kernel_rfl)) (fun _ _ _ h=>h) (Or.inl ⟨by rfl,?_⟩) ?_ ?_
            rotate_left
            ·intro w'
             go_simp
             with_reducible rfl
            rotate_left
            ·simp only [Act.put,ls_,lz_,lc_,i64_w,i32_w]
             rfl
            refine pure_ (i:=5) (N:=some 21) (v:=?_) (a':=?_) #[T_,T_,F_,F_,F_,T_,F_,F_,F_,F_,F_,F_] rfl rfl (any_of HT_.out (by kernel_rfl)) (fun _ _ _ h=>h) (Or.inl ⟨by rfl,?_⟩) ?_ ?_
            rotate_left
            ·intro w'
             go_simp
             with_reducible rfl
            rotate_left
            ·simp only [Act.put,ls_,lz_,lc_,i64_w,i32_w]
             rfl
            refine take_ (i:=2) (N:=some 18) (v:=?_) (a':=?_) #[T_,T_,T_,F_,F_,T_,F_,F_,F_,F_,F_,F_] rfl rfl (take_ofW HT_.out HW_.out (by kernel_rfl)) (fun _ _ _ h=>h) (Or.inl ⟨by rfl,?_⟩) hHeld ?_ ?_
            rotate_left
            ·rintro w' ⟨s0,s1⟩
             go_simp
             with_reducible rfl
            rotate_left
            ·simp only [Act.put,ls_,lz_,lc_,i64_w,i32_w]
             rfl
            refine pure_ (i:=3) (N:=some 19) (v:=?_) (a':=?_) #[T_,T_,T_,T_,F_,T_,F_,F_,F_,F_,F_,F_] rfl rfl (any_of HT_.out (by kernel_rfl)) (fun _ _ _ h=>h) (Or.inl ⟨by rfl,?_⟩) ?_ ?_
            rotate_left
            ·intro w'
             go_simp
             with_reducible rfl
            rotate_left
            ·simp only [Act.put,ls_,lz_,lc_,i64_w,i32_w]
             rfl
            refine pure_ (i:=4) (N:=some 20) (v:=?_) (a':=?_) #[T_,T_,T_,T_,T_,T_,F_,F_,F_,F_,F_,F_] rfl rfl (any_of HT_.out (by kernel_rfl)) (fun _ _ _ h=>h) (Or.inl ⟨by rfl,?_⟩) ?_ ?_
            rotate_left
            ·intro w'
             go_simp
             with_reducible rfl
            rotate_left
            ·simp only [Act.put,ls_,lz_,lc_,i64_w,i32_w]
             rfl
            refine take_ (i:=6) (N:=some 22) (v:=?_) (a':=?_) #[T_,T_,T_,T_,T_,T_,T_,F_,F_,F_,F_,F_] rfl rfl (take_ofW HT_.out HW_.out (by kernel_rfl)) (fun _ _ _ h=>h) (Or.inl ⟨by rfl,?_⟩) hHeld ?_ ?_
            rotate_left
            ·rintro w' ⟨s0,s1⟩
             go_simp
             with_reducible rfl
            rotate_left
            ·simp only [Act.put,ls_,lz_,lc_,i64_w,i32_w]
             rfl
            refine one_ (i:=7) (N:=some 23) #[T_,T_,T_,T_,T_,T_,T_,T_,F_,F_,F_,F_] rfl rfl (one_of HT_.out (by kernel_rfl)) (by decide) (fun K hK=>?_)
            refine goes_ Tryz.func28 (by kernel_rfl) rfl #[.string ((rd_T51 l0_4 x12_1).f1)] (by rfl) rfl rfl (by (try simp only [List.map_toArray,List.map_cons,List.map_nil]);first|done|rfl|(simp only [ld_,lt_];rfl)) ?_
            with_reducible refine (impl_escapeValue.calls ((rd_T51 l0_4 x12_1).f1) t181 _ A10.out).mono ?_
            rintro e w19 ⟨rfl,hb⟩
            refine ⟨_,rfl,?_⟩
            have n0_:=A_ (kb_ (g:=gb178) (o:=.cells #[.int .i64 a0_0,.int .i64 a0_1,.string a0_2,.string a0_3,.slice (some ad179) l0_4.length c0_4,.slice A0_5 l0_5.length c0_5] 32 (0,0)) (by (with_reducible repeat (first|refine kn_ ?_ _|refine kd_ ?_|refine ka_ ?_ _));exact BK178.out) hb)
            have n1_:=A_ (kb_ (g:=gb180) (o:=.cells #[.string ((rd_T51 l0_4 x12_1).f0),.string ((rd_T51 l0_4 x12_1).f1)] 51 (0,0)) (by (with_reducible repeat (first|refine kn_ ?_ _|refine kd_ ?_|refine ka_ ?_ _));exact BK180.out) hb)
            have n2_:=A_ (bp_ (by repeat (first|(with_reducible first|exact HB.out|apply ba_|apply pd_|apply b1_|refine bs_ ?_ GE178.out|refine bs_ ?_ GE180.out)|exact HB.out)) hb)
            clear BK178
            clear BK180
            clear HB
            have BK178:=n0_
            have BK180:=n1_
            have HB:=n2_
            clear n0_ n1_ n2_
            (try clear hb)
            (try clear hb2)
            (try clear hk)
            (try clear hi)
            refine hK.out _ _ ⟨(bc_ BK180.out 0).trans rfl,(bc_ BK180.out 1).trans rfl⟩ (fun hHeld=>?_)
            clear hK K
            refine norm_ (a':=?_) ?_ ?_
            rotate_left
            ·show Act.put _ (some 23) _=_
             simp only [Act.put,ls_,lz_,lc_,i64_w,i32_w]
             rfl
            refine pure_ (i:=8) (N:=some 24) (v:=?_) (a':=?_) #[T_,T_,T_,T_,T_,T_,T_,T_,T_,F_,F_,F_] rfl rfl (any_of HT_.out (by kernel_rfl)) (fun _ _ _ h=>h) (Or.inl ⟨by rfl,?_⟩) ?_ ?_
            rotate_left
            ·intro w'
             go_simp
             with_reducible rfl
            rotate_left
            ·simp only [Act.put,ls_,lz_,lc_,i64_w,i32_w]
             rfl
            refine pure_ (i:=9) (N:=some 25) (v:=?_) (a':=?_) #[T_,T_,T_,T_,T_,T_,T_,T_,T_,T_,F_,F_] rfl rfl (any_of HT_.out (by kernel_rfl)) (fun _ _ _ h=>h) (Or.inl ⟨by rfl,?_⟩) ?_ ?_
            rotate_left
            ·intro w'
             go_simp
             with_reducible rfl
            rotate_left
            ·simp only [Act.put,ls_,lz_,lc_,i64_w,i32_w]
             rfl
            refine pure_ (i:=10) (N:=some 26) (v:=?_) (a':=?_) #[T_,T_,T_,T_,T_,T_,T_,T_,T_,T_,T_,F_] rfl rfl (any_of HT_.out (by kernel_rfl)) (fun _ _ _ h=>h) (Or.inl ⟨by rfl,?_⟩) ?_ ?_
            rotate_left
            ·intro w'
             go_simp
             with_reducible rfl
            rotate_left
            ·simp only [Act.put,ls_,lz_,lc_,i64_w,i32_w]
             rfl
            refine pure_ (i:=11) (N:=some 3) (v:=?_) (a':=?_) #[T_,T_,T_,T_,T_,T_,T_,T_,T_,T_,T_,T_] rfl rfl (any_of HT_.out (by kernel_rfl)) (fun _ _ _ h=>h) (Or.inl ⟨by rfl,?_⟩) ?_ ?_
            rotate_left
            ·intro w'
             go_simp
             with_reducible rfl
            rotate_left
            ·simp only [Act.put,ls_,lz_,lc_,i64_w,i32_w]
             rfl
            refine done_ (done_of HT_.out (by kernel_rfl)) ?_
            try go_wp2
            go_roundg k1
            case measure=>have:=HK1.out;omega
            case rel=>exact ⟨(x3_1++(((((⟨#[32]⟩:ByteArray)++((rd_T51 l0_4 x12_1).f0))++(⟨#[61,34]⟩:ByteArray))++t181)++(⟨#[34]⟩:ByteArray))),(wrap64 (x12_1+1)),(by first|rfl|(simp;done)|(simp [*];done)),(by first|rfl|(simp;done)|(simp [*];done)),H',⟨by have:=HK1.out;omega⟩,⟨by (with_reducible repeat (first|refine kn_ ?_ _|refine kd_ ?_|refine ka_ ?_ _));exact BK178.out⟩,⟨by repeat (first|(with_reducible first|exact HB.out|apply ba_|apply pd_|apply b1_|refine bs_ ?_ GE178.out|refine bs_ ?_ GE180.out)|exact HB.out)⟩⟩
           ·rw [if_neg c13] at H
            exact absurd H (by simp)
          ·rw [if_neg c12] at H
           exact absurd H (by simp)
         ·rw [if_neg c11] at H
          exact absurd H (by simp)
        ·rw [if_neg c9] at H
         exact absurd H (by simp)
       ·rw [if_neg c8] at H
        exact absurd H (by simp)
      ·rw [if_neg c7] at H
       exact absurd H (by simp)
     ·rw [if_neg c6] at H
      exact absurd H (by simp)
    ·rw [if_neg c5] at H
     have c5b0:decide (x12_1<(l0_4.length:Int))=false:=df_ c5
     clear c5
     by_cases c20:x3_1.size+1≤9223372036854775807
     ·rw [if_pos c20] at H
      have c20b0:=eq_true c20
      have c20b1:decide (x3_1.size+1≤9223372036854775807)=true:=dt_ c20
      try have c20b2:(9223372036854775807<x3_1.size+1)=False:=eq_false (Nat.not_lt.2 c20)
      obtain rfl:=oi_ H
      go_wp2
      go_ret
      exact ⟨by first|rfl|(simp [errW_none,errW_some] <;> rfl)|(simp [*,errW_none,errW_some] <;> rfl),by repeat (first|(with_reducible first|exact HB.out|apply ba_|apply pd_|apply b1_|refine bs_ ?_ GE178.out)|exact HB.out)⟩
     ·rw [if_neg c20] at H
      exact absurd H (by simp)
 ·rw [if_neg c2] at H
  exact absurd H (by simp)
end Go.Proofs.YtpoaaomcpleebaaGreatDoor.PFnExactStartTag
