/- By a program of this session, out of the kit's print and contracts made by hand: the machine side of a law; Lean checks it. No conditions. -/
import Derived.Test.YtjlikemmhjclpaaPFnExactCleanx0
import Derived.Test.YtjlikemmhjclpaaPFnExactCleanx8
import Derived.Test.YtjlikemmhjclpaaPFnExactCleanx12
import Derived.Test.YtjlikemmhjclpaaPFnExactCleanx13
namespace Go.Proofs.Ytjlikemmhjclpaa.PFnExactClean
open Go.RowKit Go.Proofs.YtjlikemmhjclpaaW.PrintWords Go.Proofs.YtjlikemmhjclpaaW.PrintLast Go.Proofs.YtjlikemmhjclpaaW.PrintMore
attribute [local go_sem] max2_int min2_int max_two min_two max_three min_three max_four min_four
set_option linter.unusedVariables false
set_option linter.unusedSimpArgs false
/-! ### spec_l01Banned: function 78 -/
def spec_l01Banned.f (k:Nat) (a0:ByteArray):Option (Bool):=(spec_l01Has.f k (([(⟨#[115,99,114,105,112,116]⟩:ByteArray),(⟨#[105,102,114,97,109,101]⟩:ByteArray),(⟨#[111,98,106,101,99,116]⟩:ByteArray),(⟨#[101,109,98,101,100]⟩:ByteArray),(⟨#[102,114,97,109,101]⟩:ByteArray),(⟨#[98,97,115,101]⟩:ByteArray),(⟨#[117,115,101]⟩:ByteArray)]:List ByteArray)) a0).bind fun t179=>(some t179)
theorem spec_l01Banned.mono:∀ a0 k,LeO (spec_l01Banned.f k a0) (spec_l01Banned.f (k+1) a0):=by
 intro a0 k
 unfold spec_l01Banned.f
 repeat' first
  | (with_reducible exact spec_l01Has.mono _ _ _)
  | (with_reducible exact LeO.refl _)
  | (with_reducible exact LeO.none _)
  | (with_reducible refine LeO.ite ?_ ?_)
  | (with_reducible refine LeO.bind ?_ (fun _=>?_))
  | exact spec_l01Has.mono _ _ _
  | exact LeO.none _
  | refine LeO.ite ?_ ?_
  | refine LeO.bind ?_ (fun _=>?_)
set_option maxHeartbeats 8000000 in
set_option maxRecDepth 100000 in
theorem spec_l01Banned.calls (k:Nat) (a0:ByteArray) (r:Bool) (w:World) (h:spec_l01Banned.f k a0=some r) :
 Calls Try.prog 78 #[.string a0] w fun e w'=>e=.returned (.bool r)∧Below w.heap.size w w':=by
 have HB:=A_ (Below.refl w.heap.size w)
 have H:((spec_l01Has.f k (([(⟨#[115,99,114,105,112,116]⟩:ByteArray),(⟨#[105,102,114,97,109,101]⟩:ByteArray),(⟨#[111,98,106,101,99,116]⟩:ByteArray),(⟨#[101,109,98,101,100]⟩:ByteArray),(⟨#[102,114,97,109,101]⟩:ByteArray),(⟨#[98,97,115,101]⟩:ByteArray),(⟨#[117,115,101]⟩:ByteArray)]:List ByteArray)) a0).bind fun t179=>(some t179))=some r:=h
 clear h
 obtain ⟨y176,hy176⟩:∃ y_:List ByteArray,y_=(([(⟨#[115,99,114,105,112,116]⟩:ByteArray),(⟨#[105,102,114,97,109,101]⟩:ByteArray),(⟨#[111,98,106,101,99,116]⟩:ByteArray),(⟨#[101,109,98,101,100]⟩:ByteArray),(⟨#[102,114,97,109,101]⟩:ByteArray),(⟨#[98,97,115,101]⟩:ByteArray),(⟨#[117,115,101]⟩:ByteArray)]:List ByteArray)):=⟨_,rfl⟩
 replace H:((spec_l01Has.f k y176 a0).bind fun t179=>(some t179))=some r:=by first|(rw [hy176];with_reducible exact H)|(have H2_:=(Option.bind_some _ _).symm.trans H;rw [hy176];with_reducible exact H2_)|(have H2_:=(Option.bind_some _ _).symm.trans H;with_reducible exact H2_)|with_reducible exact H|(rw [hy176];exact H)|exact H
 have Ny176:=A_ hy176
 clear hy176
 replace H:=ob_ H
 obtain ⟨t179,A20,H⟩:=H
 replace H:(some t179)=some r:=H
 have A2:=A_ A20
 clear A20
 obtain rfl:=oi_ H
 go_enter Try.func78,Try.ntmps78
 go_wp2_with (first|((with_reducible refine gate_dst (N:=3) rfl ?_);refine Kd.R_lit Kd.string _ 9 ?hg (N:=3) ?hd (xs:=([(⟨#[115,99,114,105,112,116]⟩:ByteArray),(⟨#[105,102,114,97,109,101]⟩:ByteArray),(⟨#[111,98,106,101,99,116]⟩:ByteArray),(⟨#[101,109,98,101,100]⟩:ByteArray),(⟨#[102,114,97,109,101]⟩:ByteArray),(⟨#[98,97,115,101]⟩:ByteArray),(⟨#[117,115,101]⟩:ByteArray)]:List ByteArray)) (inner:=[.string (⟨#[115,99,114,105,112,116]⟩:ByteArray),.string (⟨#[105,102,114,97,109,101]⟩:ByteArray),.string (⟨#[111,98,106,101,99,116]⟩:ByteArray),.string (⟨#[101,109,98,101,100]⟩:ByteArray),.string (⟨#[102,114,97,109,101]⟩:ByteArray),.string (⟨#[98,97,115,101]⟩:ByteArray),.string (⟨#[117,115,101]⟩:ByteArray)]) (ok:=fun _=>True) (okp:=fun _=>True) ?hr ?hp (fun _ hk=>hk) trivial (Below.refl _ _) (Nat.le_refl _) (by simp) ?_;(case hd=>rfl);(case hg=>rfl);(case hr=>first|(go_simp;done)|(go_simp;rfl)|(first|(go_simp;done)|(go_simp;rfl)));(case hp=>exact (Reps.one (show Kd.M Kd.string _ _ _ (⟨#[115,99,114,105,112,116]⟩:ByteArray) [.string (⟨#[115,99,114,105,112,116]⟩:ByteArray)] from rfl) (Reps.one (show Kd.M Kd.string _ _ _ (⟨#[105,102,114,97,109,101]⟩:ByteArray) [.string (⟨#[105,102,114,97,109,101]⟩:ByteArray)] from rfl) (Reps.one (show Kd.M Kd.string _ _ _ (⟨#[111,98,106,101,99,116]⟩:ByteArray) [.string (⟨#[111,98,106,101,99,116]⟩:ByteArray)] from rfl) (Reps.one (show Kd.M Kd.string _ _ _ (⟨#[101,109,98,101,100]⟩:ByteArray) [.string (⟨#[101,109,98,101,100]⟩:ByteArray)] from rfl) (Reps.one (show Kd.M Kd.string _ _ _ (⟨#[102,114,97,109,101]⟩:ByteArray) [.string (⟨#[102,114,97,109,101]⟩:ByteArray)] from rfl) (Reps.one (show Kd.M Kd.string _ _ _ (⟨#[98,97,115,101]⟩:ByteArray) [.string (⟨#[98,97,115,101]⟩:ByteArray)] from rfl) (Reps.one (show Kd.M Kd.string _ _ _ (⟨#[117,115,101]⟩:ByteArray) [.string (⟨#[117,115,101]⟩:ByteArray)] from rfl) (Reps.none _ _)))))))));intro v177 w3 ho4 hb hg_ hnew_;clear hg_ hnew_;(first|rw [←Ny176.out] at ho4|(simp only [Int.reduceToNat] at ho4;rw [←Ny176.out] at ho4));have n0_:=A_ (Kd.R_lower ho4 (bz_ (by repeat (first|(with_reducible first|exact HB.out|apply ba_|apply pd_|apply b1_)|exact HB.out))));have n1_:=A_ (bp_ (by repeat (first|(with_reducible first|exact HB.out|apply ba_|apply pd_|apply b1_)|exact HB.out)) hb);clear HB;have HO178:=n0_;have HB:=n1_;clear n0_ n1_;clear hb ho4;obtain ⟨Ao5,co5,eo5⟩:=Kd.R_slice HO178.out;subst eo5)|((with_reducible refine gate_callee (f:=99) rfl ?_);refine goesL_ (some 5) rfl rfl Try.func99 (by kernel_rfl) rfl #[.slice Ao5 y176.length co5,.string a0] rfl (by (try simp only [List.map_toArray,List.map_cons,List.map_nil]);first|done|rfl|(simp only [ld_,lt_];rfl)) ?_;(with_reducible refine (spec_l01Has.calls k _ _ y176 a0 t179 _ ?side1 ?side2 A2.out).mono ?_);(case side1=>repeat (first|exact (Kd.R_reads' HO178.out).2.2|(with_reducible refine ca_ ?_ _)|(with_reducible refine cn_ ?_ _)|(with_reducible refine cd_ ?_)));(case side2=>exact (Kd.R_reads' HO178.out).2.1);rintro e w' ⟨rfl,⟨nd,rfl⟩⟩;refine ⟨_,rfl,?_⟩))
 go_ret
 exact ⟨by first|rfl|(simp [errW_none,errW_some] <;> rfl)|(simp [*,errW_none,errW_some] <;> rfl),by repeat (first|(with_reducible first|exact HB.out|apply ba_|apply pd_|apply b1_)|exact HB.out)⟩
/-! ### spec_l08Harm: function 50 -/
def spec_l08Harm.l0:Nat→Int→Int→Int→ByteArray→ByteArray→List (S75)→List (S44)→Option (Bool)
 | 0,_,_,_,_,_,_,_=>none
 | k+1,x3,x181000,x181001,x181002,x181003,x181004,x181005=>if x3<(x181004.length:Int) then (if 0≤x3 then ((spec_l01Handler.f ((rd_T75 x181004 x3).f0)).bind fun t183=>(if t183=true then (some true) else ((spec_l01Link.f k ((rd_T75 x181004 x3).f0)).bind fun t185=>(if t185=true then ((spec_l01Bad.f k ((rd_T75 x181004 x3).f1)).bind fun t187=>(if t187=true then (some true) else (spec_l08Harm.l0 k (wrap64 (x3+1)) x181000 x181001 x181002 x181003 x181004 x181005))) else (spec_l08Harm.l0 k (wrap64 (x3+1)) x181000 x181001 x181002 x181003 x181004 x181005))))) else (none)) else ((spec_l01Banned.f k x181002).bind fun t181=>(some t181))
def spec_l08Harm.f (k:Nat) (a0_0:Int) (a0_1:Int) (a0_2:ByteArray) (a0_3:ByteArray) (l0_4:List (S75)) (l0_5:List (S44)):Option (Bool):=if a0_0=1 then (spec_l08Harm.l0 k 0 a0_0 a0_1 a0_2 a0_3 l0_4 l0_5) else (some false)
theorem spec_l08Harm.mono_l:∀ k,(∀ y0 y1 y2 y3 y4 y5 y6,LeO (spec_l08Harm.l0 k y0 y1 y2 y3 y4 y5 y6) (spec_l08Harm.l0 (k+1) y0 y1 y2 y3 y4 y5 y6))
 | 0=>fun _ _ _ _ _ _ _ r h=>by simp [spec_l08Harm.l0] at h
 | k+1=>by
  have ih0:=spec_l08Harm.mono_l k
  ·intro y0 y1 y2 y3 y4 y5 y6
   unfold spec_l08Harm.l0
   repeat' first
   | (with_reducible exact ih0 _ _ _ _ _ _ _)
   | (with_reducible exact spec_l01Bad.mono _ _)
   | (with_reducible exact spec_l01Banned.mono _ _)
   | (with_reducible exact spec_l01Link.mono _ _)
   | (with_reducible exact LeO.refl _)
   | (with_reducible exact LeO.none _)
   | (with_reducible refine LeO.ite ?_ ?_)
   | (with_reducible refine LeO.bind ?_ (fun _=>?_))
   | exact ih0 _ _ _ _ _ _ _
   | exact spec_l01Bad.mono _ _
   | exact spec_l01Banned.mono _ _
   | exact spec_l01Link.mono _ _
   | exact LeO.none _
   | refine LeO.ite ?_ ?_
   | refine LeO.bind ?_ (fun _=>?_)
theorem spec_l08Harm.mono:∀ a0 a1 a2 a3 a4 a5 k,LeO (spec_l08Harm.f k a0 a1 a2 a3 a4 a5) (spec_l08Harm.f (k+1) a0 a1 a2 a3 a4 a5):=by
 intro a0 a1 a2 a3 a4 a5 k
 have ih0:=spec_l08Harm.mono_l k
 unfold spec_l08Harm.f
 repeat' first
  | (with_reducible exact ih0 _ _ _ _ _ _ _)
  | (with_reducible exact spec_l01Bad.mono _ _)
  | (with_reducible exact spec_l01Banned.mono _ _)
  | (with_reducible exact spec_l01Link.mono _ _)
  | (with_reducible exact LeO.refl _)
  | (with_reducible exact LeO.none _)
  | (with_reducible refine LeO.ite ?_ ?_)
  | (with_reducible refine LeO.bind ?_ (fun _=>?_))
  | exact ih0 _ _ _ _ _ _ _
  | exact spec_l01Bad.mono _ _
  | exact spec_l01Banned.mono _ _
  | exact spec_l01Link.mono _ _
  | exact LeO.none _
  | refine LeO.ite ?_ ?_
  | refine LeO.bind ?_ (fun _=>?_)
set_option maxHeartbeats 8000000 in
set_option maxRecDepth 100000 in
theorem spec_l08Harm.calls (k:Nat) (a0_0:Int) (a0_1:Int) (a0_2:ByteArray) (a0_3:ByteArray) (A0_4:Option Addr) (c0_4:Nat) (l0_4:List (S75)) (A0_5:Option Addr) (c0_5:Nat) (l0_5:List (S44)) (r:Bool) (w:World) (hr0_4:Kd.C k75 w A0_4 l0_4.length l0_4) (hc0_4:l0_4.length≤c0_4) (hr0_5:Kd.C k44 w A0_5 l0_5.length l0_5) (hc0_5:l0_5.length≤c0_5) (h:spec_l08Harm.f k a0_0 a0_1 a0_2 a0_3 l0_4 l0_5=some r) :
 Calls Try.prog 50 #[.agg #[.int .i64 a0_0,.int .i64 a0_1,.string a0_2,.string a0_3,.slice A0_4 l0_4.length c0_4,.slice A0_5 l0_5.length c0_5]] w fun e w'=>e=.returned (.bool r)∧Below w.heap.size w w':=by
 have hu44:=Try.underlying44
 have HR0_4:=A_ hr0_4
 have HC0_4:=A_ hc0_4
 clear hr0_4 hc0_4
 have HR0_5:=A_ hr0_5
 have HC0_5:=A_ hc0_5
 clear hr0_5 hc0_5
 have HB:=A_ (Below.refl w.heap.size w)
 have H:(if a0_0=1 then (spec_l08Harm.l0 k 0 a0_0 a0_1 a0_2 a0_3 l0_4 l0_5) else (some false))=some r:=h
 clear h
 by_cases c2:a0_0=1
 ·rw [if_pos c2] at H
  have c2b0:(a0_0 == 1)=true:=beq_iff_eq.mpr c2
  have c2b1:(a0_0 != 1)=false:=bne_eq_false_iff_eq.mpr c2
  clear c2
  have H':=A_ H
  clear H
  go_enter Try.func50,Try.ntmps50
  go_wp2_with (first|((with_reducible refine gate_dst (N:=1) rfl ?_);refine box_event ?hg (N:=1) ?hd (cs:=#[.int .i64 a0_0,.int .i64 a0_1,.string a0_2,.string a0_3,.slice A0_4 l0_4.length c0_4,.slice A0_5 l0_5.length c0_5]) (t:=44) ?hr ?_;(case hd=>rfl);(case hg=>rfl);(case hr=>first|(go_simp;done)|(go_simp;rfl));intro gb180 hg w3 hbox hb;have n0_:=A_ (bp_ (by repeat (first|(with_reducible first|exact HB.out|apply ba_|apply pd_|apply b1_)|exact HB.out)) hb);have n1_:=A_ (hbox);have n2_:=A_ ((by rw [hg];exact (bz_ (by repeat (first|(with_reducible first|exact HB.out|apply ba_|apply pd_|apply b1_)|exact HB.out))):w.heap.size≤gb180));have n3_:=A_ ((by rw [hg];exact (bz_ (by repeat (first|(with_reducible first|exact HB.out|apply ba_|apply pd_|apply b1_)|exact HB.out))):w.heap.size≤gb180));clear HB;have HB:=n0_;have BK180:=n1_;have GW180:=n2_;have GE180:=n3_;clear n0_ n1_ n2_ n3_;clear hb hbox hg;have hcz4_0:w3.cell? ⟨gb180,0,none⟩=some (.int .i64 a0_0):=(bc_ BK180.out 0).trans rfl;have hcz4_1:w3.cell? ⟨gb180,1,none⟩=some (.int .i64 a0_1):=(bc_ BK180.out 1).trans rfl;have hcz4_2:w3.cell? ⟨gb180,2,none⟩=some (.string a0_2):=(bc_ BK180.out 2).trans rfl;have hcz4_3:w3.cell? ⟨gb180,3,none⟩=some (.string a0_3):=(bc_ BK180.out 3).trans rfl;have hcz4_4:w3.cell? ⟨gb180,4,none⟩=some (.slice A0_4 l0_4.length c0_4):=(bc_ BK180.out 4).trans rfl;have hcz4_5:w3.cell? ⟨gb180,5,none⟩=some (.slice A0_5 l0_5.length c0_5):=(bc_ BK180.out 5).trans rfl;have hfz4_0:=bf_ BK180.out 0;have hfz4_1:=bf_ BK180.out 1;have hfz4_2:=bf_ BK180.out 2;have hfz4_3:=bf_ BK180.out 3;have hfz4_4:=bf_ BK180.out 4;have hfz4_5:=bf_ BK180.out 5))
  go_loopg [3] k (fun kq v3 w'=>∃ (x3_1:Int),v3=.int .i64 x3_1∧Aside0 (spec_l08Harm.l0 kq x3_1 a0_0 a0_1 a0_2 a0_3 l0_4 l0_5=some r)∧Aside0 (kq≤k)∧Aside0 (w'.heap[gb180]? = some (.cells #[.int .i64 a0_0,.int .i64 a0_1,.string a0_2,.string a0_3,(.slice A0_4 l0_4.length c0_4),(.slice A0_5 l0_5.length c0_5)] 44 (0,0)))∧Aside0 (Below w.heap.size w w'))
  case atStart=>exact ⟨(0),(by first|rfl|(simp;done)|(simp [*];done)),H',⟨Nat.le_refl _⟩,⟨by (with_reducible repeat (first|refine kn_ ?_ _|refine kd_ ?_|refine ka_ ?_ _));exact BK180.out⟩,⟨by repeat (first|(with_reducible first|exact HB.out|apply ba_|apply pd_|apply b1_|refine bs_ ?_ GE180.out)|exact HB.out)⟩⟩
  case round =>
   clear H'
   try clear c2
   try clear c2b0
   try clear c2b1
   try clear p2
   try clear hcz4_0
   try clear hcz4_1
   try clear hcz4_2
   try clear hcz4_3
   try clear hcz4_4
   try clear hcz4_5
   try clear hfz4_0
   try clear hfz4_1
   try clear hfz4_2
   try clear hfz4_3
   try clear hfz4_4
   try clear hfz4_5
   obtain ⟨x3_1,rfl,HA,HK1,BK180,HB⟩:=hrel
   cases gk with
   | zero=>exact absurd HA.out (by simp [spec_l08Harm.l0])
   | succ k1 =>
    have H:=HA.out
    clear HA
    simp only [spec_l08Harm.l0] at H
    by_cases c5:x3_1<(l0_4.length:Int)
    ·rw [if_pos c5] at H
     have c5b0:decide (x3_1<(l0_4.length:Int))=true:=dt_ c5
     clear c5
     by_cases c6:0≤x3_1
     ·rw [if_pos c6] at H
      have c6b0:decide (0≤x3_1)=true:=dt_ c6
      clear c6
      replace H:=ob_ H
      obtain ⟨t183,A70,H⟩:=H
      replace H:(if t183=true then (some true) else ((spec_l01Link.f k1 ((rd_T75 l0_4 x3_1).f0)).bind fun t185=>(if t185=true then ((spec_l01Bad.f k1 ((rd_T75 l0_4 x3_1).f1)).bind fun t187=>(if t187=true then (some true) else (spec_l08Harm.l0 k1 (wrap64 (x3_1+1)) a0_0 a0_1 a0_2 a0_3 l0_4 l0_5))) else (spec_l08Harm.l0 k1 (wrap64 (x3_1+1)) a0_0 a0_1 a0_2 a0_3 l0_4 l0_5))))=some r:=H
      have A7:=A_ A70
      clear A70
      by_cases c8:t183=true
      ·subst c8
       have H1:(some true)=some r:=by rw [if_pos rfl] at H;exact H
       clear H
       have H:=H1
       clear H1
       obtain rfl:=oi_ H
       have hcz9_0:wr.cell? ⟨gb180,0,none⟩=some (.int .i64 a0_0):=(bc_ BK180.out 0).trans rfl
       have hcz9_1:wr.cell? ⟨gb180,1,none⟩=some (.int .i64 a0_1):=(bc_ BK180.out 1).trans rfl
       have hcz9_2:wr.cell? ⟨gb180,2,none⟩=some (.string a0_2):=(bc_ BK180.out 2).trans rfl
       have hcz9_3:wr.cell? ⟨gb180,3,none⟩=some (.string a0_3):=(bc_ BK180.out 3).trans rfl
       have hcz9_4:wr.cell? ⟨gb180,4,none⟩=some (.slice A0_4 l0_4.length c0_4):=(bc_ BK180.out 4).trans rfl
       have hcz9_5:wr.cell? ⟨gb180,5,none⟩=some (.slice A0_5 l0_5.length c0_5):=(bc_ BK180.out 5).trans rfl
       have hfz9_0:=bf_ BK180.out 0
       have hfz9_1:=bf_ BK180.out 1
       have hfz9_2:=bf_ BK180.out 2
       have hfz9_3:=bf_ BK180.out 3
       have hfz9_4:=bf_ BK180.out 4
       have hfz9_5:=bf_ BK180.out 5
       have p182:0≤(x3_1:Int):=od_ (by first|(with_reducible assumption)|assumption)
       have q182:x3_1<(l0_4.length:Int):=od_ (by first|(with_reducible assumption)|assumption)
       obtain ⟨ad182,e182,hx182_0,hx182_1⟩:=at_T75 HR0_4.out x3_1 p182 q182
       cases e182
       replace hx182_0:=(HB.out.cell (bl_ w _ hx182_0)).trans hx182_0
       replace hx182_1:=(HB.out.cell (bl_ w _ hx182_1)).trans hx182_1
       replace p182:=eq_true p182
       replace q182:=eq_true q182
       go_wp2_with (first|((with_reducible refine gate_callee (f:=75) rfl ?_);refine goesL_ (some 20) rfl rfl Try.func75 (by kernel_rfl) rfl #[.string ((rd_T75 l0_4 x3_1).f0)] rfl (by (try simp only [List.map_toArray,List.map_cons,List.map_nil]);first|done|rfl|(simp only [ld_,lt_];rfl)) ?_;(with_reducible refine (spec_l01Handler.calls ((rd_T75 l0_4 x3_1).f0) true _ A7.out).mono ?_);rintro e w' ⟨rfl,⟨nd,rfl⟩⟩;refine ⟨_,rfl,?_⟩))
       go_ret
       exact ⟨by first|rfl|(simp [errW_none,errW_some] <;> rfl)|(simp [*,errW_none,errW_some] <;> rfl),by repeat (first|(with_reducible first|exact HB.out|apply ba_|apply pd_|apply b1_|refine bs_ ?_ GE180.out)|exact HB.out)⟩
      ·replace c8:=bm_ c8
       subst c8
       have H1:((spec_l01Link.f k1 ((rd_T75 l0_4 x3_1).f0)).bind fun t185=>(if t185=true then ((spec_l01Bad.f k1 ((rd_T75 l0_4 x3_1).f1)).bind fun t187=>(if t187=true then (some true) else (spec_l08Harm.l0 k1 (wrap64 (x3_1+1)) a0_0 a0_1 a0_2 a0_3 l0_4 l0_5))) else (spec_l08Harm.l0 k1 (wrap64 (x3_1+1)) a0_0 a0_1 a0_2 a0_3 l0_4 l0_5)))=some r:=by rw [if_neg (show ¬ (false=true) by decide)] at H;exact H
       clear H
       have H:=H1
       clear H1
       replace H:=ob_ H
       obtain ⟨t185,A100,H⟩:=H
       replace H:(if t185=true then ((spec_l01Bad.f k1 ((rd_T75 l0_4 x3_1).f1)).bind fun t187=>(if t187=true then (some true) else (spec_l08Harm.l0 k1 (wrap64 (x3_1+1)) a0_0 a0_1 a0_2 a0_3 l0_4 l0_5))) else (spec_l08Harm.l0 k1 (wrap64 (x3_1+1)) a0_0 a0_1 a0_2 a0_3 l0_4 l0_5))=some r:=H
       have A10:=A_ A100
       clear A100
       by_cases c11:t185=true
       ·subst c11
        have H1:((spec_l01Bad.f k1 ((rd_T75 l0_4 x3_1).f1)).bind fun t187=>(if t187=true then (some true) else (spec_l08Harm.l0 k1 (wrap64 (x3_1+1)) a0_0 a0_1 a0_2 a0_3 l0_4 l0_5)))=some r:=by rw [if_pos rfl] at H;exact H
        clear H
        have H:=H1
        clear H1
        replace H:=ob_ H
        obtain ⟨t187,A120,H⟩:=H
        replace H:(if t187=true then (some true) else (spec_l08Harm.l0 k1 (wrap64 (x3_1+1)) a0_0 a0_1 a0_2 a0_3 l0_4 l0_5))=some r:=H
        have A12:=A_ A120
        clear A120
        by_cases c13:t187=true
        ·subst c13
         have H1:(some true)=some r:=by rw [if_pos rfl] at H;exact H
         clear H
         have H:=H1
         clear H1
         obtain rfl:=oi_ H
         have hcz14_0:wr.cell? ⟨gb180,0,none⟩=some (.int .i64 a0_0):=(bc_ BK180.out 0).trans rfl
         have hcz14_1:wr.cell? ⟨gb180,1,none⟩=some (.int .i64 a0_1):=(bc_ BK180.out 1).trans rfl
         have hcz14_2:wr.cell? ⟨gb180,2,none⟩=some (.string a0_2):=(bc_ BK180.out 2).trans rfl
         have hcz14_3:wr.cell? ⟨gb180,3,none⟩=some (.string a0_3):=(bc_ BK180.out 3).trans rfl
         have hcz14_4:wr.cell? ⟨gb180,4,none⟩=some (.slice A0_4 l0_4.length c0_4):=(bc_ BK180.out 4).trans rfl
         have hcz14_5:wr.cell? ⟨gb180,5,none⟩=some (.slice A0_5 l0_5.length c0_5):=(bc_ BK180.out 5).trans rfl
         have hfz14_0:=bf_ BK180.out 0
         have hfz14_1:=bf_ BK180.out 1
         have hfz14_2:=bf_ BK180.out 2
         have hfz14_3:=bf_ BK180.out 3
         have hfz14_4:=bf_ BK180.out 4
         have hfz14_5:=bf_ BK180.out 5
         have p182:0≤(x3_1:Int):=od_ (by first|(with_reducible assumption)|assumption)
         have q182:x3_1<(l0_4.length:Int):=od_ (by first|(with_reducible assumption)|assumption)
         obtain ⟨ad182,e182,hx182_0,hx182_1⟩:=at_T75 HR0_4.out x3_1 p182 q182
         cases e182
         replace hx182_0:=(HB.out.cell (bl_ w _ hx182_0)).trans hx182_0
         replace hx182_1:=(HB.out.cell (bl_ w _ hx182_1)).trans hx182_1
         replace p182:=eq_true p182
         replace q182:=eq_true q182
         go_wp2_with (first|((with_reducible refine gate_callee (f:=75) rfl ?_);refine goesL_ (some 20) rfl rfl Try.func75 (by kernel_rfl) rfl #[.string ((rd_T75 l0_4 x3_1).f0)] rfl (by (try simp only [List.map_toArray,List.map_cons,List.map_nil]);first|done|rfl|(simp only [ld_,lt_];rfl)) ?_;(with_reducible refine (spec_l01Handler.calls ((rd_T75 l0_4 x3_1).f0) false _ A7.out).mono ?_);rintro e w' ⟨rfl,⟨nd,rfl⟩⟩;refine ⟨_,rfl,?_⟩;have p184:0≤(x3_1:Int):=od_ (by first|(with_reducible assumption)|assumption);have q184:x3_1<(l0_4.length:Int):=od_ (by first|(with_reducible assumption)|assumption);obtain ⟨ad184,e184,hx184_0,hx184_1⟩:=at_T75 HR0_4.out x3_1 p184 q184;obtain rfl:ad182=ad184:=(by injection e184);replace hx184_0:=(HB.out.cell (bl_ w _ hx184_0)).trans hx184_0;replace hx184_1:=(HB.out.cell (bl_ w _ hx184_1)).trans hx184_1;replace p184:=eq_true p184;replace q184:=eq_true q184)|(go_at_call 76;(with_reducible refine (spec_l01Link.calls k1 ((rd_T75 l0_4 x3_1).f0) true _ A10.out).mono ?_);rintro e w15 ⟨rfl,hb⟩;have n0_:=A_ (kb_ (g:=gb180) (o:=.cells #[.int .i64 a0_0,.int .i64 a0_1,.string a0_2,.string a0_3,.slice (some ad182) l0_4.length c0_4,.slice A0_5 l0_5.length c0_5] 44 (0,0)) (by (with_reducible repeat (first|refine kn_ ?_ _|refine kd_ ?_|refine ka_ ?_ _));exact BK180.out) hb);have n1_:=A_ (bp_ (by repeat (first|(with_reducible first|exact HB.out|apply ba_|apply pd_|apply b1_|refine bs_ ?_ GE180.out)|exact HB.out)) hb);clear BK180;clear HB;have BK180:=n0_;have HB:=n1_;clear n0_ n1_;(try clear hb);(try clear hb2);(try clear hk);(try clear hi);have hcz16_0:w15.cell? ⟨gb180,0,none⟩=some (.int .i64 a0_0):=(bc_ BK180.out 0).trans rfl;have hcz16_1:w15.cell? ⟨gb180,1,none⟩=some (.int .i64 a0_1):=(bc_ BK180.out 1).trans rfl;have hcz16_2:w15.cell? ⟨gb180,2,none⟩=some (.string a0_2):=(bc_ BK180.out 2).trans rfl;have hcz16_3:w15.cell? ⟨gb180,3,none⟩=some (.string a0_3):=(bc_ BK180.out 3).trans rfl;have hcz16_4:w15.cell? ⟨gb180,4,none⟩=some (.slice (some ad182) l0_4.length c0_4):=(bc_ BK180.out 4).trans rfl;have hcz16_5:w15.cell? ⟨gb180,5,none⟩=some (.slice A0_5 l0_5.length c0_5):=(bc_ BK180.out 5).trans rfl;have hfz16_0:=bf_ BK180.out 0;have hfz16_1:=bf_ BK180.out 1;have hfz16_2:=bf_ BK180.out 2;have hfz16_3:=bf_ BK180.out 3;have hfz16_4:=bf_ BK180.out 4;have hfz16_5:=bf_ BK180.out 5;have p186:0≤(x3_1:Int):=od_ (by first|(with_reducible assumption)|assumption);have q186:x3_1<(l0_4.length:Int):=od_ (by first|(with_reducible assumption)|assumption);obtain ⟨ad186,e186,hx186_0,hx186_1⟩:=at_T75 HR0_4.out x3_1 p186 q186;obtain rfl:ad182=ad186:=(by injection e186);replace hx186_0:=(HB.out.cell (bl_ w _ hx186_0)).trans hx186_0;replace hx186_1:=(HB.out.cell (bl_ w _ hx186_1)).trans hx186_1;replace p186:=eq_true p186;replace q186:=eq_true q186)|(go_at_call 77;(with_reducible refine (spec_l01Bad.calls k1 ((rd_T75 l0_4 x3_1).f1) true _ A12.out).mono ?_);rintro e w' ⟨rfl,⟨nd,rfl⟩⟩))
         go_ret
         exact ⟨by first|rfl|(simp [errW_none,errW_some] <;> rfl)|(simp [*,errW_none,errW_some] <;> rfl),by repeat (first|(with_reducible first|exact HB.out|apply ba_|apply pd_|apply b1_|refine bs_ ?_ GE180.out)|exact HB.out)⟩
        ·replace c13:=bm_ c13
         subst c13
         have H1:(spec_l08Harm.l0 k1 (wrap64 (x3_1+1)) a0_0 a0_1 a0_2 a0_3 l0_4 l0_5)=some r:=by rw [if_neg (show ¬ (false=true) by decide)] at H;exact H
         clear H
         have H:=H1
         clear H1
         have H':=A_ H
         clear H
         have hcz17_0:wr.cell? ⟨gb180,0,none⟩=some (.int .i64 a0_0):=(bc_ BK180.out 0).trans rfl
         have hcz17_1:wr.cell? ⟨gb180,1,none⟩=some (.int .i64 a0_1):=(bc_ BK180.out 1).trans rfl
         have hcz17_2:wr.cell? ⟨gb180,2,none⟩=some (.string a0_2):=(bc_ BK180.out 2).trans rfl
         have hcz17_3:wr.cell? ⟨gb180,3,none⟩=some (.string a0_3):=(bc_ BK180.out 3).trans rfl
         have hcz17_4:wr.cell? ⟨gb180,4,none⟩=some (.slice A0_4 l0_4.length c0_4):=(bc_ BK180.out 4).trans rfl
         have hcz17_5:wr.cell? ⟨gb180,5,none⟩=some (.slice A0_5 l0_5.length c0_5):=(bc_ BK180.out 5).trans rfl
         have hfz17_0:=bf_ BK180.out 0
         have hfz17_1:=bf_ BK180.out 1
         have hfz17_2:=bf_ BK180.out 2
         have hfz17_3:=bf_ BK180.out 3
         have hfz17_4:=bf_ BK180.out 4
         have hfz17_5:=bf_ BK180.out 5
         have p182:0≤(x3_1:Int):=od_ (by first|(with_reducible assumption)|assumption)
         have q182:x3_1<(l0_4.length:Int):=od_ (by first|(with_reducible assumption)|assumption)
         obtain ⟨ad182,e182,hx182_0,hx182_1⟩:=at_T75 HR0_4.out x3_1 p182 q182
         cases e182
         replace hx182_0:=(HB.out.cell (bl_ w _ hx182_0)).trans hx182_0
         replace hx182_1:=(HB.out.cell (bl_ w _ hx182_1)).trans hx182_1
         replace p182:=eq_true p182
         replace q182:=eq_true q182
         go_wp2_with (first|((with_reducible refine gate_callee (f:=75) rfl ?_);refine goesL_ (some 20) rfl rfl Try.func75 (by kernel_rfl) rfl #[.string ((rd_T75 l0_4 x3_1).f0)] rfl (by (try simp only [List.map_toArray,List.map_cons,List.map_nil]);first|done|rfl|(simp only [ld_,lt_];rfl)) ?_;(with_reducible refine (spec_l01Handler.calls ((rd_T75 l0_4 x3_1).f0) false _ A7.out).mono ?_);rintro e w' ⟨rfl,⟨nd,rfl⟩⟩;refine ⟨_,rfl,?_⟩;have p184:0≤(x3_1:Int):=od_ (by first|(with_reducible assumption)|assumption);have q184:x3_1<(l0_4.length:Int):=od_ (by first|(with_reducible assumption)|assumption);obtain ⟨ad184,e184,hx184_0,hx184_1⟩:=at_T75 HR0_4.out x3_1 p184 q184;obtain rfl:ad182=ad184:=(by injection e184);replace hx184_0:=(HB.out.cell (bl_ w _ hx184_0)).trans hx184_0;replace hx184_1:=(HB.out.cell (bl_ w _ hx184_1)).trans hx184_1;replace p184:=eq_true p184;replace q184:=eq_true q184)|(go_at_call 76;(with_reducible refine (spec_l01Link.calls k1 ((rd_T75 l0_4 x3_1).f0) true _ A10.out).mono ?_);rintro e w18 ⟨rfl,hb⟩;have n0_:=A_ (kb_ (g:=gb180) (o:=.cells #[.int .i64 a0_0,.int .i64 a0_1,.string a0_2,.string a0_3,.slice (some ad182) l0_4.length c0_4,.slice A0_5 l0_5.length c0_5] 44 (0,0)) (by (with_reducible repeat (first|refine kn_ ?_ _|refine kd_ ?_|refine ka_ ?_ _));exact BK180.out) hb);have n1_:=A_ (bp_ (by repeat (first|(with_reducible first|exact HB.out|apply ba_|apply pd_|apply b1_|refine bs_ ?_ GE180.out)|exact HB.out)) hb);clear BK180;clear HB;have BK180:=n0_;have HB:=n1_;clear n0_ n1_;(try clear hb);(try clear hb2);(try clear hk);(try clear hi);have hcz19_0:w18.cell? ⟨gb180,0,none⟩=some (.int .i64 a0_0):=(bc_ BK180.out 0).trans rfl;have hcz19_1:w18.cell? ⟨gb180,1,none⟩=some (.int .i64 a0_1):=(bc_ BK180.out 1).trans rfl;have hcz19_2:w18.cell? ⟨gb180,2,none⟩=some (.string a0_2):=(bc_ BK180.out 2).trans rfl;have hcz19_3:w18.cell? ⟨gb180,3,none⟩=some (.string a0_3):=(bc_ BK180.out 3).trans rfl;have hcz19_4:w18.cell? ⟨gb180,4,none⟩=some (.slice (some ad182) l0_4.length c0_4):=(bc_ BK180.out 4).trans rfl;have hcz19_5:w18.cell? ⟨gb180,5,none⟩=some (.slice A0_5 l0_5.length c0_5):=(bc_ BK180.out 5).trans rfl;have hfz19_0:=bf_ BK180.out 0;have hfz19_1:=bf_ BK180.out 1;have hfz19_2:=bf_ BK180.out 2;have hfz19_3:=bf_ BK180.out 3;have hfz19_4:=bf_ BK180.out 4;have hfz19_5:=bf_ BK180.out 5;have p186:0≤(x3_1:Int):=od_ (by first|(with_reducible assumption)|assumption);have q186:x3_1<(l0_4.length:Int):=od_ (by first|(with_reducible assumption)|assumption);obtain ⟨ad186,e186,hx186_0,hx186_1⟩:=at_T75 HR0_4.out x3_1 p186 q186;obtain rfl:ad182=ad186:=(by injection e186);replace hx186_0:=(HB.out.cell (bl_ w _ hx186_0)).trans hx186_0;replace hx186_1:=(HB.out.cell (bl_ w _ hx186_1)).trans hx186_1;replace p186:=eq_true p186;replace q186:=eq_true q186)|(go_at_call 77;(with_reducible refine (spec_l01Bad.calls k1 ((rd_T75 l0_4 x3_1).f1) false _ A12.out).mono ?_);rintro e w' ⟨rfl,⟨nd,rfl⟩⟩))
         go_roundg k1
         case measure=>have:=HK1.out;omega
         case rel=>exact ⟨(wrap64 (x3_1+1)),(by first|rfl|(simp;done)|(simp [*];done)),H',⟨by have:=HK1.out;omega⟩,⟨by (with_reducible repeat (first|refine kn_ ?_ _|refine kd_ ?_|refine ka_ ?_ _));exact BK180.out⟩,⟨by repeat (first|(with_reducible first|exact HB.out|apply ba_|apply pd_|apply b1_|refine bs_ ?_ GE180.out)|exact HB.out)⟩⟩
       ·replace c11:=bm_ c11
        subst c11
        have H1:(spec_l08Harm.l0 k1 (wrap64 (x3_1+1)) a0_0 a0_1 a0_2 a0_3 l0_4 l0_5)=some r:=by rw [if_neg (show ¬ (false=true) by decide)] at H;exact H
        clear H
        have H:=H1
        clear H1
        have H':=A_ H
        clear H
        have hcz20_0:wr.cell? ⟨gb180,0,none⟩=some (.int .i64 a0_0):=(bc_ BK180.out 0).trans rfl
        have hcz20_1:wr.cell? ⟨gb180,1,none⟩=some (.int .i64 a0_1):=(bc_ BK180.out 1).trans rfl
        have hcz20_2:wr.cell? ⟨gb180,2,none⟩=some (.string a0_2):=(bc_ BK180.out 2).trans rfl
        have hcz20_3:wr.cell? ⟨gb180,3,none⟩=some (.string a0_3):=(bc_ BK180.out 3).trans rfl
        have hcz20_4:wr.cell? ⟨gb180,4,none⟩=some (.slice A0_4 l0_4.length c0_4):=(bc_ BK180.out 4).trans rfl
        have hcz20_5:wr.cell? ⟨gb180,5,none⟩=some (.slice A0_5 l0_5.length c0_5):=(bc_ BK180.out 5).trans rfl
        have hfz20_0:=bf_ BK180.out 0
        have hfz20_1:=bf_ BK180.out 1
        have hfz20_2:=bf_ BK180.out 2
        have hfz20_3:=bf_ BK180.out 3
        have hfz20_4:=bf_ BK180.out 4
        have hfz20_5:=bf_ BK180.out 5
        have p182:0≤(x3_1:Int):=od_ (by first|(with_reducible assumption)|assumption)
        have q182:x3_1<(l0_4.length:Int):=od_ (by first|(with_reducible assumption)|assumption)
        obtain ⟨ad182,e182,hx182_0,hx182_1⟩:=at_T75 HR0_4.out x3_1 p182 q182
        cases e182
        replace hx182_0:=(HB.out.cell (bl_ w _ hx182_0)).trans hx182_0
        replace hx182_1:=(HB.out.cell (bl_ w _ hx182_1)).trans hx182_1
        replace p182:=eq_true p182
        replace q182:=eq_true q182
        go_wp2_with (first|((with_reducible refine gate_callee (f:=75) rfl ?_);refine goesL_ (some 20) rfl rfl Try.func75 (by kernel_rfl) rfl #[.string ((rd_T75 l0_4 x3_1).f0)] rfl (by (try simp only [List.map_toArray,List.map_cons,List.map_nil]);first|done|rfl|(simp only [ld_,lt_];rfl)) ?_;(with_reducible refine (spec_l01Handler.calls ((rd_T75 l0_4 x3_1).f0) false _ A7.out).mono ?_);rintro e w' ⟨rfl,⟨nd,rfl⟩⟩;refine ⟨_,rfl,?_⟩;have p184:0≤(x3_1:Int):=od_ (by first|(with_reducible assumption)|assumption);have q184:x3_1<(l0_4.length:Int):=od_ (by first|(with_reducible assumption)|assumption);obtain ⟨ad184,e184,hx184_0,hx184_1⟩:=at_T75 HR0_4.out x3_1 p184 q184;obtain rfl:ad182=ad184:=(by injection e184);replace hx184_0:=(HB.out.cell (bl_ w _ hx184_0)).trans hx184_0;replace hx184_1:=(HB.out.cell (bl_ w _ hx184_1)).trans hx184_1;replace p184:=eq_true p184;replace q184:=eq_true q184)|(go_at_call 76;(with_reducible refine (spec_l01Link.calls k1 ((rd_T75 l0_4 x3_1).f0) false _ A10.out).mono ?_);rintro e w21 ⟨rfl,hb⟩;have n0_:=A_ (kb_ (g:=gb180) (o:=.cells #[.int .i64 a0_0,.int .i64 a0_1,.string a0_2,.string a0_3,.slice (some ad182) l0_4.length c0_4,.slice A0_5 l0_5.length c0_5] 44 (0,0)) (by (with_reducible repeat (first|refine kn_ ?_ _|refine kd_ ?_|refine ka_ ?_ _));exact BK180.out) hb);have n1_:=A_ (bp_ (by repeat (first|(with_reducible first|exact HB.out|apply ba_|apply pd_|apply b1_|refine bs_ ?_ GE180.out)|exact HB.out)) hb);clear BK180;clear HB;have BK180:=n0_;have HB:=n1_;clear n0_ n1_;(try clear hb);(try clear hb2);(try clear hk);(try clear hi)))
        go_roundg k1
        case measure=>have:=HK1.out;omega
        case rel=>exact ⟨(wrap64 (x3_1+1)),(by first|rfl|(simp;done)|(simp [*];done)),H',⟨by have:=HK1.out;omega⟩,⟨by (with_reducible repeat (first|refine kn_ ?_ _|refine kd_ ?_|refine ka_ ?_ _));exact BK180.out⟩,⟨by repeat (first|(with_reducible first|exact HB.out|apply ba_|apply pd_|apply b1_|refine bs_ ?_ GE180.out)|exact HB.out)⟩⟩
     ·rw [if_neg c6] at H
      exact absurd H (by simp)
    ·rw [if_neg c5] at H
     have c5b0:decide (x3_1<(l0_4.length:Int))=false:=df_ c5
     clear c5
     replace H:=ob_ H
     obtain ⟨t181,A220,H⟩:=H
     replace H:(some t181)=some r:=H
     have A22:=A_ A220
     clear A220
     obtain rfl:=oi_ H
     have hcz23_0:wr.cell? ⟨gb180,0,none⟩=some (.int .i64 a0_0):=(bc_ BK180.out 0).trans rfl
     have hcz23_1:wr.cell? ⟨gb180,1,none⟩=some (.int .i64 a0_1):=(bc_ BK180.out 1).trans rfl
     have hcz23_2:wr.cell? ⟨gb180,2,none⟩=some (.string a0_2):=(bc_ BK180.out 2).trans rfl
     have hcz23_3:wr.cell? ⟨gb180,3,none⟩=some (.string a0_3):=(bc_ BK180.out 3).trans rfl
     have hcz23_4:wr.cell? ⟨gb180,4,none⟩=some (.slice A0_4 l0_4.length c0_4):=(bc_ BK180.out 4).trans rfl
     have hcz23_5:wr.cell? ⟨gb180,5,none⟩=some (.slice A0_5 l0_5.length c0_5):=(bc_ BK180.out 5).trans rfl
     have hfz23_0:=bf_ BK180.out 0
     have hfz23_1:=bf_ BK180.out 1
     have hfz23_2:=bf_ BK180.out 2
     have hfz23_3:=bf_ BK180.out 3
     have hfz23_4:=bf_ BK180.out 4
     have hfz23_5:=bf_ BK180.out 5
     go_wp2_with (first|((with_reducible refine gate_callee (f:=78) rfl ?_);refine goesL_ (some 41) rfl rfl Try.func78 (by kernel_rfl) rfl #[.string a0_2] rfl (by (try simp only [List.map_toArray,List.map_cons,List.map_nil]);first|done|rfl|(simp only [ld_,lt_];rfl)) ?_;(with_reducible refine (spec_l01Banned.calls k1 a0_2 t181 _ A22.out).mono ?_);rintro e w24 ⟨rfl,hb⟩;refine ⟨_,rfl,?_⟩;have n0_:=A_ (kb_ (g:=gb180) (o:=.cells #[.int .i64 a0_0,.int .i64 a0_1,.string a0_2,.string a0_3,.slice A0_4 l0_4.length c0_4,.slice A0_5 l0_5.length c0_5] 44 (0,0)) (by (with_reducible repeat (first|refine kn_ ?_ _|refine kd_ ?_|refine ka_ ?_ _));exact BK180.out) hb);have n1_:=A_ (bp_ (by repeat (first|(with_reducible first|exact HB.out|apply ba_|apply pd_|apply b1_|refine bs_ ?_ GE180.out)|exact HB.out)) hb);clear BK180;clear HB;have BK180:=n0_;have HB:=n1_;clear n0_ n1_;(try clear hb);(try clear hb2);(try clear hk);(try clear hi)))
     go_ret
     exact ⟨by first|rfl|(simp [errW_none,errW_some] <;> rfl)|(simp [*,errW_none,errW_some] <;> rfl),by repeat (first|(with_reducible first|exact HB.out|apply ba_|apply pd_|apply b1_|refine bs_ ?_ GE180.out)|exact HB.out)⟩
 ·rw [if_neg c2] at H
  have c2b0:(a0_0 == 1)=false:=beq_eq_false_iff_ne.mpr c2
  have c2b1:(a0_0 != 1)=true:=bne_iff_ne.mpr c2
  obtain rfl:=oi_ H
  go_enter Try.func50,Try.ntmps50
  go_wp2_with (first|((with_reducible refine gate_dst (N:=1) rfl ?_);refine box_event ?hg (N:=1) ?hd (cs:=#[.int .i64 a0_0,.int .i64 a0_1,.string a0_2,.string a0_3,.slice A0_4 l0_4.length c0_4,.slice A0_5 l0_5.length c0_5]) (t:=44) ?hr ?_;(case hd=>rfl);(case hg=>rfl);(case hr=>first|(go_simp;done)|(go_simp;rfl));intro gb180 hg w25 hbox hb;have n0_:=A_ (bp_ (by repeat (first|(with_reducible first|exact HB.out|apply ba_|apply pd_|apply b1_)|exact HB.out)) hb);have n1_:=A_ (hbox);have n2_:=A_ ((by rw [hg];exact (bz_ (by repeat (first|(with_reducible first|exact HB.out|apply ba_|apply pd_|apply b1_)|exact HB.out))):w.heap.size≤gb180));have n3_:=A_ ((by rw [hg];exact (bz_ (by repeat (first|(with_reducible first|exact HB.out|apply ba_|apply pd_|apply b1_)|exact HB.out))):w.heap.size≤gb180));clear HB;have HB:=n0_;have BK180:=n1_;have GW180:=n2_;have GE180:=n3_;clear n0_ n1_ n2_ n3_;clear hb hbox hg;have hcz26_0:w25.cell? ⟨gb180,0,none⟩=some (.int .i64 a0_0):=(bc_ BK180.out 0).trans rfl;have hcz26_1:w25.cell? ⟨gb180,1,none⟩=some (.int .i64 a0_1):=(bc_ BK180.out 1).trans rfl;have hcz26_2:w25.cell? ⟨gb180,2,none⟩=some (.string a0_2):=(bc_ BK180.out 2).trans rfl;have hcz26_3:w25.cell? ⟨gb180,3,none⟩=some (.string a0_3):=(bc_ BK180.out 3).trans rfl;have hcz26_4:w25.cell? ⟨gb180,4,none⟩=some (.slice A0_4 l0_4.length c0_4):=(bc_ BK180.out 4).trans rfl;have hcz26_5:w25.cell? ⟨gb180,5,none⟩=some (.slice A0_5 l0_5.length c0_5):=(bc_ BK180.out 5).trans rfl;have hfz26_0:=bf_ BK180.out 0;have hfz26_1:=bf_ BK180.out 1;have hfz26_2:=bf_ BK180.out 2;have hfz26_3:=bf_ BK180.out 3;have hfz26_4:=bf_ BK180.out 4;have hfz26_5:=bf_ BK180.out 5))
  go_ret
  exact ⟨by first|rfl|(simp [errW_none,errW_some] <;> rfl)|(simp [*,errW_none,errW_some] <;> rfl),by repeat (first|(with_reducible first|exact HB.out|apply ba_|apply pd_|apply b1_|refine bs_ ?_ GE180.out)|exact HB.out)⟩
end Go.Proofs.Ytjlikemmhjclpaa.PFnExactClean
