/- By a program of this session, out of the kit's print and contracts made by hand: the machine side of a law; Lean checks it. No conditions. -/
import Derived.Test.YtjlikemmhjclpaaPFnExactSetKidsx0
namespace Go.Proofs.Ytjlikemmhjclpaa.PFnExactSetKids
open Go.RowKit Go.Proofs.YtjlikemmhjclpaaW.PrintWords Go.Proofs.YtjlikemmhjclpaaW.PrintLast Go.Proofs.YtjlikemmhjclpaaW.PrintMore
attribute [local go_sem] max2_int min2_int max_two min_two max_three min_three max_four min_four
set_option linter.unusedVariables false
set_option linter.unusedSimpArgs false
/-! ### laws_markText: function 30 -/
def laws_markText.l0:Nat→Int→ByteArray→Option (ByteArray)
 | 0,_,_=>none
 | k+1,x0,x3=>if x0>0 then ((some (([(wrap64 (48+(Int.tmod x0 10))) % 256]:List Int):List Int)).bind fun y228=>(if (strOfNums y228).size+x3.size≤9223372036854775807 then (laws_markText.l0 k (wrap64 (Int.tdiv x0 10)) ((strOfNums y228)++x3)) else (none))) else (if 1+x3.size≤9223372036854775807 then (some ((⟨#[109]⟩:ByteArray)++x3)) else (none))
def laws_markText.f (k:Nat) (a0:Int):Option (ByteArray):=if a0≤0 then (some (⟨#[109,48]⟩:ByteArray)) else (laws_markText.l0 k a0 (⟨#[]⟩:ByteArray))
theorem laws_markText.mono_l:∀ k,(∀ y0 y1,LeO (laws_markText.l0 k y0 y1) (laws_markText.l0 (k+1) y0 y1))
 | 0=>fun _ _ r h=>by simp [laws_markText.l0] at h
 | k+1=>by
  have ih0:=laws_markText.mono_l k
  ·intro y0 y1
   unfold laws_markText.l0
   repeat' first
   | (with_reducible exact ih0 _ _)
   | (with_reducible exact LeO.refl _)
   | (with_reducible exact LeO.none _)
   | (with_reducible refine LeO.ite ?_ ?_)
   | (with_reducible refine LeO.bind ?_ (fun _=>?_))
   | exact ih0 _ _
   | exact LeO.none _
   | refine LeO.ite ?_ ?_
   | refine LeO.bind ?_ (fun _=>?_)
theorem laws_markText.mono:∀ a0 k,LeO (laws_markText.f k a0) (laws_markText.f (k+1) a0):=by
 intro a0 k
 have ih0:=laws_markText.mono_l k
 unfold laws_markText.f
 repeat' first
  | (with_reducible exact ih0 _ _)
  | (with_reducible exact LeO.refl _)
  | (with_reducible exact LeO.none _)
  | (with_reducible refine LeO.ite ?_ ?_)
  | (with_reducible refine LeO.bind ?_ (fun _=>?_))
  | exact ih0 _ _
  | exact LeO.none _
  | refine LeO.ite ?_ ?_
  | refine LeO.bind ?_ (fun _=>?_)
set_option maxHeartbeats 8000000 in
set_option maxRecDepth 100000 in
theorem laws_markText.calls (k:Nat) (a0:Int) (r:ByteArray) (w:World) (h:laws_markText.f k a0=some r) :
 Calls Try.prog 30 #[.int .i64 a0] w fun e w'=>e=.returned (.string r)∧Below w.heap.size w w':=by
 have HB:=A_ (Below.refl w.heap.size w)
 have H:(if a0≤0 then (some (⟨#[109,48]⟩:ByteArray)) else (laws_markText.l0 k a0 (⟨#[]⟩:ByteArray)))=some r:=h
 clear h
 by_cases c2:a0≤0
 ·rw [if_pos c2] at H
  have c2b0:decide (a0≤0)=true:=dt_ c2
  clear c2
  obtain rfl:=oi_ H
  go_enter Try.func30,Try.ntmps30
  go_wp2
  go_ret
  exact ⟨by first|rfl|(simp [errW_none,errW_some] <;> rfl)|(simp [*,errW_none,errW_some] <;> rfl),by repeat (first|(with_reducible first|exact HB.out|apply ba_|apply pd_|apply b1_)|exact HB.out)⟩
 ·rw [if_neg c2] at H
  have c2b0:decide (a0≤0)=false:=df_ c2
  clear c2
  have H':=A_ H
  clear H
  go_enter Try.func30,Try.ntmps30
  go_wp2
  go_loopg [0,3] k (fun kq v0 v3 w'=>∃ (x0_1:Int) (x3_1:ByteArray),v0=.int .i64 x0_1∧v3=.string x3_1∧Aside0 (laws_markText.l0 kq x0_1 x3_1=some r)∧Aside0 (kq≤k)∧Aside0 (Below w.heap.size w w'))
  case atStart=>exact ⟨(a0),((⟨#[]⟩:ByteArray)),(by first|rfl|(simp;done)|(simp [*];done)),(by first|rfl|(simp;done)|(simp [*];done)),H',⟨Nat.le_refl _⟩,⟨by repeat (first|(with_reducible first|exact HB.out|apply ba_|apply pd_|apply b1_)|exact HB.out)⟩⟩
  case round =>
   clear H'
   try clear c2
   try clear c2b0
   try clear p2
   obtain ⟨x0_1,x3_1,rfl,rfl,HA,HK1,HB⟩:=hrel
   cases gk with
   | zero=>exact absurd HA.out (by simp [laws_markText.l0])
   | succ k1 =>
    have H:=HA.out
    clear HA
    simp only [laws_markText.l0] at H
    by_cases c3:x0_1>0
    ·rw [if_pos c3] at H
     have c3b0:decide (0<x0_1)=true:=dt_ c3
     clear c3
     obtain ⟨y228,hy228⟩:∃ y_:List Int,y_=(([(wrap64 (48+(Int.tmod x0_1 10))) % 256]:List Int)):=⟨_,rfl⟩
     replace H:(if (strOfNums y228).size+x3_1.size≤9223372036854775807 then (laws_markText.l0 k1 (wrap64 (Int.tdiv x0_1 10)) ((strOfNums y228)++x3_1)) else (none))=some r:=by first|(rw [hy228];with_reducible exact H)|(have H2_:=(Option.bind_some _ _).symm.trans H;rw [hy228];with_reducible exact H2_)|(have H2_:=(Option.bind_some _ _).symm.trans H;with_reducible exact H2_)|with_reducible exact H|(rw [hy228];exact H)|exact H
     have Ny228:=A_ hy228
     clear hy228
     by_cases c4:(strOfNums y228).size+x3_1.size≤9223372036854775807
     ·rw [if_pos c4] at H
      have c4b0:=eq_true c4
      have c4b1:decide ((strOfNums y228).size+x3_1.size≤9223372036854775807)=true:=dt_ c4
      try have c4b2:(9223372036854775807<(strOfNums y228).size+x3_1.size)=False:=eq_false (Nat.not_lt.2 c4)
      have H':=A_ H
      clear H
      go_wp2_with (first|((with_reducible refine gate_dst (N:=12) rfl ?_);refine Kd.R_lit (Kd.int .u8) _ 5 ?hg (N:=12) ?hd (xs:=([(wrap64 (48+(Int.tmod x0_1 10))) % 256]:List Int)) (inner:=[.int .u8 ((wrap64 (48+(Int.tmod x0_1 10))) % 256)]) (ok:=fun _=>True) (okp:=fun _=>True) ?hr ?hp (fun _ hk=>hk) trivial (Below.refl _ _) (Nat.le_refl _) (by simp) ?_;(case hd=>rfl);(case hg=>rfl);(case hr=>first|(go_simp;done)|(go_simp;rfl)|(first|(go_simp;done)|(go_simp;rfl)));(case hp=>exact (Reps.one (show Kd.M (Kd.int .u8) _ _ _ ((wrap64 (48+(Int.tmod x0_1 10))) % 256) [.int .u8 ((wrap64 (48+(Int.tmod x0_1 10))) % 256)] from rfl) (Reps.none _ _)));intro v229 w5 ho6 hb hg_ hnew_;clear hg_ hnew_;(first|rw [←Ny228.out] at ho6|(simp only [Int.reduceToNat] at ho6;rw [←Ny228.out] at ho6));have n0_:=A_ (Kd.R_lower ho6 (bz_ (by repeat (first|(with_reducible first|exact HB.out|apply ba_|apply pd_|apply b1_)|exact HB.out))));have n1_:=A_ (bp_ (by repeat (first|(with_reducible first|exact HB.out|apply ba_|apply pd_|apply b1_)|exact HB.out)) hb);clear HB;have HO230:=n0_;have HB:=n1_;clear n0_ n1_;clear hb ho6;have hcv7:=own_string (P:=Try.prog) Try.underlying73 Try.underlying5 Try.underlying9 (Kd.own_of_R HO230.out)))
      go_roundg k1
      case measure=>have:=HK1.out;omega
      case rel=>exact ⟨(wrap64 (Int.tdiv x0_1 10)),((strOfNums y228)++x3_1),(by first|rfl|(simp;done)|(simp [*];done)),(by first|rfl|(simp;done)|(simp [*];done)),H',⟨by have:=HK1.out;omega⟩,⟨by repeat (first|(with_reducible first|exact HB.out|apply ba_|apply pd_|apply b1_)|exact HB.out)⟩⟩
     ·rw [if_neg c4] at H
      exact absurd H (by simp)
    ·rw [if_neg c3] at H
     have c3b0:decide (0<x0_1)=false:=df_ c3
     clear c3
     by_cases c8:1+x3_1.size≤9223372036854775807
     ·rw [if_pos c8] at H
      have c8b0:=eq_true c8
      have c8b1:decide (1+x3_1.size≤9223372036854775807)=true:=dt_ c8
      try have c8b2:(9223372036854775807<1+x3_1.size)=False:=eq_false (Nat.not_lt.2 c8)
      obtain rfl:=oi_ H
      go_wp2
      go_ret
      exact ⟨by first|rfl|(simp [errW_none,errW_some] <;> rfl)|(simp [*,errW_none,errW_some] <;> rfl),by repeat (first|(with_reducible first|exact HB.out|apply ba_|apply pd_|apply b1_)|exact HB.out)⟩
     ·rw [if_neg c8] at H
      exact absurd H (by simp)
/-! ### laws_markAttrS: function 31 -/
def laws_markAttrS.l0:Nat→List (S75)→Int→Int→Option (Int × (List (S75)))
 | 0,_,_,_=>none
 | k+1,x0,x1,x5=>if x5<(x0.length:Int) then ((laws_markText.f k x1).bind fun t231=>(if 0≤x5 then ((some (x0.set (x5:Int).toNat (⟨t231,(rd_T75 x0 x5).f1⟩:S75):List (S75))).bind fun y232=>((laws_markText.f k (wrap64 (x1+1))).bind fun t233=>(laws_markAttrS.l0 k (y232.set (x5:Int).toNat (⟨(rd_T75 y232 x5).f0,t233⟩:S75)) (wrap64 ((wrap64 (x1+1))+1)) (wrap64 (x5+1))))) else (none))) else (some (x1,x0))
def laws_markAttrS.f (k:Nat) (l0:List (S75)) (a1:Int):Option (Int × (List (S75))):=laws_markAttrS.l0 k l0 a1 0
theorem laws_markAttrS.mono_l:∀ k,(∀ y0 y1 y2,LeO (laws_markAttrS.l0 k y0 y1 y2) (laws_markAttrS.l0 (k+1) y0 y1 y2))
 | 0=>fun _ _ _ r h=>by simp [laws_markAttrS.l0] at h
 | k+1=>by
  have ih0:=laws_markAttrS.mono_l k
  ·intro y0 y1 y2
   unfold laws_markAttrS.l0
   repeat' first
   | (with_reducible exact ih0 _ _ _)
   | (with_reducible exact laws_markText.mono _ _)
   | (with_reducible exact LeO.refl _)
   | (with_reducible exact LeO.none _)
   | (with_reducible refine LeO.ite ?_ ?_)
   | (with_reducible refine LeO.bind ?_ (fun _=>?_))
   | exact ih0 _ _ _
   | exact laws_markText.mono _ _
   | exact LeO.none _
   | refine LeO.ite ?_ ?_
   | refine LeO.bind ?_ (fun _=>?_)
theorem laws_markAttrS.mono:∀ a0 a1 k,LeO (laws_markAttrS.f k a0 a1) (laws_markAttrS.f (k+1) a0 a1):=by
 intro a0 a1 k
 have ih0:=laws_markAttrS.mono_l k
 unfold laws_markAttrS.f
 repeat' first
  | (with_reducible exact ih0 _ _ _)
  | (with_reducible exact laws_markText.mono _ _)
  | (with_reducible exact LeO.refl _)
  | (with_reducible exact LeO.none _)
  | (with_reducible refine LeO.ite ?_ ?_)
  | (with_reducible refine LeO.bind ?_ (fun _=>?_))
  | exact ih0 _ _ _
  | exact laws_markText.mono _ _
  | exact LeO.none _
  | refine LeO.ite ?_ ?_
  | refine LeO.bind ?_ (fun _=>?_)
set_option maxHeartbeats 8000000 in
set_option maxRecDepth 100000 in
theorem laws_markAttrS.calls (k:Nat) (P0_:Nat→Prop) (u9000_:Value) (l0:List (S75)) (a1:Int) (r1:Int) (r2:List (S75)) (w0 w:World) (hB:Below w0.heap.size w0 w) (ho0:Kd.R k75 75 w w0.heap.size P0_ u9000_ l0) (h:laws_markAttrS.f k l0 a1=some (r1,r2)) :
 Calls Try.prog 31 #[u9000_,.int .i64 a1] w fun e w'=>e=.returned (.int .i64 r1)∧Kd.R k75 75 w' w0.heap.size (fun k_=>(P0_ k_∨w.heap.size≤k_)) u9000_ r2∧Below w0.heap.size w0 w'∧Kept w w' (fun k_=>P0_ k_):=by
 have HO0:=A_ (show Kd.R k75 75 w w0.heap.size (fun k_=>(P0_ k_∨w.heap.size≤k_)) u9000_ l0 from Kd.R_mono ho0 (fun k_ hk=>(.inl hk)))
 have HK:=A_ (Kept.refl w (fun k_=>P0_ k_))
 have HW0:=A_ hB.size
 have HB:=A_ hB
 clear hB
 have H:(laws_markAttrS.l0 k l0 a1 0)=some (r1,r2):=h
 clear h
 have H':=A_ H
 clear H
 go_enter Try.func31,Try.ntmps31
 go_wp2
 go_loopg [1,5] k (fun kq v1 v5 w'=>∃ (x0_1:List (S75)) (x1_1:Int) (x5_1:Int),v1=.int .i64 x1_1∧v5=.int .i64 x5_1∧Aside0 (laws_markAttrS.l0 kq x0_1 x1_1 x5_1=some (r1,r2))∧Aside0 (kq≤k)∧Aside0 (Kd.R k75 75 w' w0.heap.size (fun k_=>(P0_ k_∨w.heap.size≤k_)) u9000_ x0_1)∧Aside0 (Kept w w' (fun k_=>P0_ k_))∧Aside0 (Below w0.heap.size w0 w'))
 case atStart=>exact ⟨(l0),(a1),(0),(by first|rfl|(simp;done)|(simp [*];done)),(by first|rfl|(simp;done)|(simp [*];done)),H',⟨Nat.le_refl _⟩,⟨by (with_reducible repeat (first|apply Kd.R_alloc|apply Kd.R_drewN|apply Kd.R_drew));exact HO0.out⟩,⟨by repeat (first|(with_reducible first|exact HK.out|apply Kept.alloc|apply Kept.drewN|apply Kept.drew)|exact HK.out)⟩,⟨by repeat (first|(with_reducible first|exact HB.out|apply ba_|apply pd_|apply b1_)|exact HB.out)⟩⟩
 case round =>
  clear H'
  try clear p2
  obtain ⟨x0_1,x1_1,x5_1,rfl,rfl,HA,HK1,HO_0,HK,HB⟩:=hrel
  cases gk with
  | zero=>exact absurd HA.out (by simp [laws_markAttrS.l0])
  | succ k1 =>
   have H:=HA.out
   clear HA
   simp only [laws_markAttrS.l0] at H
   by_cases c3:x5_1<(x0_1.length:Int)
   ·rw [if_pos c3] at H
    have c3b0:decide (x5_1<(x0_1.length:Int))=true:=dt_ c3
    clear c3
    replace H:=ob_ H
    obtain ⟨t231,A40,H⟩:=H
    replace H:(if 0≤x5_1 then ((some (x0_1.set (x5_1:Int).toNat (⟨t231,(rd_T75 x0_1 x5_1).f1⟩:S75):List (S75))).bind fun y232=>((laws_markText.f k1 (wrap64 (x1_1+1))).bind fun t233=>(laws_markAttrS.l0 k1 (y232.set (x5_1:Int).toNat (⟨(rd_T75 y232 x5_1).f0,t233⟩:S75)) (wrap64 ((wrap64 (x1_1+1))+1)) (wrap64 (x5_1+1))))) else (none))=some (r1,r2):=H
    have A4:=A_ A40
    clear A40
    by_cases c5:0≤x5_1
    ·rw [if_pos c5] at H
     have c5b0:decide (0≤x5_1)=true:=dt_ c5
     clear c5
     obtain ⟨y232,hy232⟩:∃ y_:List (S75),y_=(x0_1.set (x5_1:Int).toNat (⟨t231,(rd_T75 x0_1 x5_1).f1⟩:S75)):=⟨_,rfl⟩
     replace H:((laws_markText.f k1 (wrap64 (x1_1+1))).bind fun t233=>(laws_markAttrS.l0 k1 (y232.set (x5_1:Int).toNat (⟨(rd_T75 y232 x5_1).f0,t233⟩:S75)) (wrap64 ((wrap64 (x1_1+1))+1)) (wrap64 (x5_1+1))))=some (r1,r2):=by first|(rw [hy232];with_reducible exact H)|(have H2_:=(Option.bind_some _ _).symm.trans H;rw [hy232];with_reducible exact H2_)|(have H2_:=(Option.bind_some _ _).symm.trans H;with_reducible exact H2_)|with_reducible exact H|(rw [hy232];exact H)|exact H
     have Ny232:=A_ hy232
     clear hy232
     replace H:=ob_ H
     obtain ⟨t233,A70,H⟩:=H
     replace H:(laws_markAttrS.l0 k1 (y232.set (x5_1:Int).toNat (⟨(rd_T75 y232 x5_1).f0,t233⟩:S75)) (wrap64 ((wrap64 (x1_1+1))+1)) (wrap64 (x5_1+1)))=some (r1,r2):=H
     have A7:=A_ A70
     clear A70
     obtain ⟨y234,hy234⟩:∃ y_:List (S75),y_=(y232.set (x5_1:Int).toNat (⟨(rd_T75 y232 x5_1).f0,t233⟩:S75)):=⟨_,rfl⟩
     replace H:(laws_markAttrS.l0 k1 y234 (wrap64 ((wrap64 (x1_1+1))+1)) (wrap64 (x5_1+1)))=some (r1,r2):=by first|(rw [hy234];with_reducible exact H)|(have H2_:=(Option.bind_some _ _).symm.trans H;rw [hy234];with_reducible exact H2_)|(have H2_:=(Option.bind_some _ _).symm.trans H;with_reducible exact H2_)|with_reducible exact H|(rw [hy234];exact H)|exact H
     have Ny234:=A_ hy234
     clear hy234
     have H':=A_ H
     clear H
     obtain ⟨Ao9,co9,eo9⟩:=Kd.R_slice HO_0.out
     subst eo9
     go_wp2_with (first|((with_reducible refine gate_callee (f:=30) rfl ?_);refine goesL_ (some 15) rfl rfl Try.func30 (by kernel_rfl) rfl #[.int .i64 x1_1] rfl (by (try simp only [List.map_toArray,List.map_cons,List.map_nil]);first|done|rfl|(simp only [ld_,lt_];rfl)) ?_;(with_reducible refine (laws_markText.calls k1 x1_1 t231 _ A4.out).mono ?_);rintro e w10 ⟨rfl,hb⟩;refine ⟨_,rfl,?_⟩;have n0_:=A_ (Kd.R_below (by (with_reducible repeat (first|apply Kd.R_alloc|apply Kd.R_drewN|apply Kd.R_drew));exact HO_0.out) hb);have n1_:=A_ (Kept.below (S:=(fun k_=>P0_ k_)) (by repeat (first|(with_reducible first|exact HK.out|apply Kept.alloc|apply Kept.drewN|apply Kept.drew)|exact HK.out)) hb);have n2_:=A_ (bp_ (by repeat (first|(with_reducible first|exact HB.out|apply ba_|apply pd_|apply b1_)|exact HB.out)) hb);clear HO_0;clear HK;clear HB;have HO_0:=n0_;have HK:=n1_;have HB:=n2_;clear n0_ n1_ n2_;(try clear hb);(try clear hb2);(try clear hk);(try clear hi);have p6:0≤(x5_1:Int):=od_ (by first|(with_reducible assumption)|assumption);have q6:(x5_1:Int)<((x0_1.length:Int):Int):=od_ (by first|(with_reducible assumption)|assumption);obtain ⟨go6,co6,eo6,gb6,gl6,cl6,HG6⟩:=Kd.R_form HO_0.out (by omega);(first|cases eo6|(injection eo6 with ea_ en_ ec_;(first|subst ea_|(injection ea_ with ea_;subst ea_));subst ec_;clear en_));have GB6:=A_ gb6;have GG6:=A_ HG6;clear gb6 gl6 HG6;have HMgo6:=A_ (show (P0_ go6∨w.heap.size≤go6) from (HO_0.out.1 _ rfl));obtain ⟨ce6,hcl6,hM6,hcc6,hfr6⟩:=Kd.R_elem HO_0.out z75 (x5_1:Int) p6 q6;obtain rfl:=k75_openM hM6;have hx6_0:w10.cell? ⟨go6,(x5_1:Int).toNat * 2,none⟩=some (.string ((rd_T75 x0_1 x5_1).f0)):=hcc6 0 _ rfl;have hx6_1:w10.cell? ⟨go6,(x5_1:Int).toNat * 2+1,none⟩=some (.string ((rd_T75 x0_1 x5_1).f1)):=hcc6 1 _ rfl;have hf6_0:w10.frozen? ⟨go6,(x5_1:Int).toNat * 2,none⟩=false:=hfr6 0;have hf6_1:w10.frozen? ⟨go6,(x5_1:Int).toNat * 2+1,none⟩=false:=hfr6 1;clear hcl6 hcc6 hfr6 hM6;replace p6:=eq_true p6;replace q6:=eq_true q6;have HX11:=A_ (show Kd.R k75 75 w10 w0.heap.size (fun k_=>(P0_ k_∨w.heap.size≤k_)) (.slice (some ⟨go6,0,none⟩) x0_1.length co9) x0_1 from (by (with_reducible repeat (first|apply Kd.R_alloc|apply Kd.R_drewN|apply Kd.R_drew));exact HO_0.out));obtain ⟨ce11,hcl11,hM11,hcc11,hfr11⟩:=Kd.R_elem HX11.out z75 (x5_1:Int) (od_ (by first|(with_reducible assumption)|assumption)) (by have h_:(x5_1:Int)<((x0_1.length:Int):Int):=od_ (by first|(with_reducible assumption)|assumption);first|exact h_|(have e_:=(Kd.R_reads' HO_0.out).1;omega)|simpa using h_);obtain rfl:=k75_openM hM11;have HP11:=Kd.R_seg HX11.out (x5_1:Int) (od_ (by first|(with_reducible assumption)|assumption)) (by have h_:(x5_1:Int)<((x0_1.length:Int):Int):=od_ (by first|(with_reducible assumption)|assumption);first|exact h_|(have e_:=(Kd.R_reads' HO_0.out).1;omega)|simpa using h_) (seg:=[.string t231]) (j:=0) hcl11 hcc11 (show 1≤2 from by decide) (x':=(⟨t231,(rd_T75 x0_1 x5_1).f1⟩:S75)) (k75_mkM _ _ _ (⟨t231,(rd_T75 x0_1 x5_1).f1⟩:S75) ) (fun _ hk=>hk);have hx11_0:=hcc11 0 _ rfl;(try simp only [show (k75).sz=2 from rfl,Nat.mul_one,Nat.add_zero] at hx11_0);have hf11_0:=hfr11 0;(try simp only [show (k75).sz=2 from rfl,Nat.mul_one,Nat.add_zero] at hf11_0);clear hcl11 hcc11 hfr11 hM11)|((with_reducible refine gate_store (t:=9) (p:=17) rfl ?_);refine store_event (t:=9) (p:=17) (v:=?vo_w12) (w1:=(w10.setCell ⟨go6,(x5_1:Int).toNat * 2,none⟩ (.string t231))) ?hg ?ho ?hn ?hr ?_;(case ho=>rfl);(case hg=>rfl);(case hn=>rfl);(case hr=>first|(go_simp;done)|(go_simp;rfl));intro w12 hw;have hg:w10.grownBy w12 (some go6):=(by rw [hw];exact HP11.2);have hp_:Kd.R k75 75 w12 w0.heap.size (fun k_=>(P0_ k_∨w.heap.size≤k_)) (.slice (some ⟨go6,0,none⟩) x0_1.length co9) y232:=(by rw [hw,Ny232.out];exact HP11.1);clear HP11;have n0_:=A_ (hp_);have n1_:=A_ ((by rw [hw];exact bs_ (HB.out) GB6.out:Below w0.heap.size w0 w12));have n2_:=A_ (Kept.of_grown (S:=(fun k_=>P0_ k_)) hg (by repeat (first|(with_reducible first|exact HK.out|apply Kept.alloc|apply Kept.drewN|apply Kept.drew)|exact HK.out)) (fun k_ e_=>(HO_0.out.1 k_ e_)));clear HO_0;clear HB;clear HK;have HO_0:=n0_;have HB:=n1_;have HK:=n2_;clear n0_ n1_ n2_;clear hg hw hp_)|((with_reducible refine gate_callee (f:=30) rfl ?_);refine goesL_ (some 23) rfl rfl Try.func30 (by kernel_rfl) rfl #[.int .i64 (wrap64 (x1_1+1))] rfl (by (try simp only [List.map_toArray,List.map_cons,List.map_nil]);first|done|rfl|(simp only [ld_,lt_];rfl)) ?_;(with_reducible refine (laws_markText.calls k1 (wrap64 (x1_1+1)) t233 _ A7.out).mono ?_);rintro e w13 ⟨rfl,hb⟩;refine ⟨_,rfl,?_⟩;have n0_:=A_ (Kd.R_below (by (with_reducible repeat (first|apply Kd.R_alloc|apply Kd.R_drewN|apply Kd.R_drew));exact HO_0.out) hb);have n1_:=A_ (Kept.below (S:=(fun k_=>P0_ k_)) (by repeat (first|(with_reducible first|exact HK.out|apply Kept.alloc|apply Kept.drewN|apply Kept.drew)|exact HK.out)) hb);have n2_:=A_ (bp_ (by repeat (first|(with_reducible first|exact HB.out|apply ba_|apply pd_|apply b1_)|exact HB.out)) hb);clear HO_0;clear HK;clear HB;have HO_0:=n0_;have HK:=n1_;have HB:=n2_;clear n0_ n1_ n2_;(try clear hb);(try clear hb2);(try clear hk);(try clear hi);have p8:0≤(x5_1:Int):=od_ (by first|(with_reducible assumption)|assumption);have q8:(x5_1:Int)<((x0_1.length:Int):Int):=od_ (by first|(with_reducible assumption)|assumption);obtain ⟨ce8,hcl8,hM8,hcc8,hfr8⟩:=Kd.R_elem HO_0.out z75 (x5_1:Int) p8 q8;obtain rfl:=k75_openM hM8;have hx8_0:w13.cell? ⟨go6,(x5_1:Int).toNat * 2,none⟩=some (.string ((rd_T75 y232 x5_1).f0)):=hcc8 0 _ rfl;have hx8_1:w13.cell? ⟨go6,(x5_1:Int).toNat * 2+1,none⟩=some (.string ((rd_T75 y232 x5_1).f1)):=hcc8 1 _ rfl;have hf8_0:w13.frozen? ⟨go6,(x5_1:Int).toNat * 2,none⟩=false:=hfr8 0;have hf8_1:w13.frozen? ⟨go6,(x5_1:Int).toNat * 2+1,none⟩=false:=hfr8 1;clear hcl8 hcc8 hfr8 hM8;replace p8:=eq_true p8;replace q8:=eq_true q8;have HX14:=A_ (show Kd.R k75 75 w13 w0.heap.size (fun k_=>(P0_ k_∨w.heap.size≤k_)) (.slice (some ⟨go6,0,none⟩) x0_1.length co9) y232 from (by (with_reducible repeat (first|apply Kd.R_alloc|apply Kd.R_drewN|apply Kd.R_drew));exact HO_0.out));obtain ⟨ce14,hcl14,hM14,hcc14,hfr14⟩:=Kd.R_elem HX14.out z75 (x5_1:Int) (od_ (by first|(with_reducible assumption)|assumption)) (by have h_:(x5_1:Int)<((x0_1.length:Int):Int):=od_ (by first|(with_reducible assumption)|assumption);first|exact h_|(have e_:=(Kd.R_reads' HO_0.out).1;omega)|simpa using h_);obtain rfl:=k75_openM hM14;have HP14:=Kd.R_seg HX14.out (x5_1:Int) (od_ (by first|(with_reducible assumption)|assumption)) (by have h_:(x5_1:Int)<((x0_1.length:Int):Int):=od_ (by first|(with_reducible assumption)|assumption);first|exact h_|(have e_:=(Kd.R_reads' HO_0.out).1;omega)|simpa using h_) (seg:=[.string t233]) (j:=1) hcl14 hcc14 (show 2≤2 from by decide) (x':=(⟨(rd_T75 y232 x5_1).f0,t233⟩:S75)) (k75_mkM _ _ _ (⟨(rd_T75 y232 x5_1).f0,t233⟩:S75) ) (fun _ hk=>hk);have hx14_1:=hcc14 1 _ rfl;(try simp only [show (k75).sz=2 from rfl,Nat.mul_one,Nat.add_zero] at hx14_1);have hf14_1:=hfr14 1;(try simp only [show (k75).sz=2 from rfl,Nat.mul_one,Nat.add_zero] at hf14_1);clear hcl14 hcc14 hfr14 hM14)|((with_reducible refine gate_store (t:=9) (p:=25) rfl ?_);refine store_event (t:=9) (p:=25) (v:=?vo_w15) (w1:=(w13.setCell ⟨go6,(x5_1:Int).toNat * 2+1,none⟩ (.string t233))) ?hg ?ho ?hn ?hr ?_;(case ho=>rfl);(case hg=>rfl);(case hn=>rfl);(case hr=>first|(go_simp;done)|(go_simp;rfl));intro w15 hw;have hg:w13.grownBy w15 (some go6):=(by rw [hw];exact HP14.2);have hp_:Kd.R k75 75 w15 w0.heap.size (fun k_=>(P0_ k_∨w.heap.size≤k_)) (.slice (some ⟨go6,0,none⟩) x0_1.length co9) y234:=(by rw [hw,Ny234.out];exact HP14.1);clear HP14;have n0_:=A_ (hp_);have n1_:=A_ ((by rw [hw];exact bs_ (HB.out) GB6.out:Below w0.heap.size w0 w15));have n2_:=A_ (Kept.of_grown (S:=(fun k_=>P0_ k_)) hg (by repeat (first|(with_reducible first|exact HK.out|apply Kept.alloc|apply Kept.drewN|apply Kept.drew)|exact HK.out)) (fun k_ e_=>(HO_0.out.1 k_ e_)));clear HO_0;clear HB;clear HK;have HO_0:=n0_;have HB:=n1_;have HK:=n2_;clear n0_ n1_ n2_;clear hg hw hp_))
     go_roundg k1
     case measure=>have:=HK1.out;omega
     case rel=>exact ⟨(y234),(wrap64 ((wrap64 (x1_1+1))+1)),(wrap64 (x5_1+1)),(by first|rfl|(simp;done)|(simp [*];done)),(by first|rfl|(simp;done)|(simp [*];done)),H',⟨by have:=HK1.out;omega⟩,⟨by (with_reducible repeat (first|apply Kd.R_alloc|apply Kd.R_drewN|apply Kd.R_drew));exact HO_0.out⟩,⟨by repeat (first|(with_reducible first|exact HK.out|apply Kept.alloc|apply Kept.drewN|apply Kept.drew)|exact HK.out)⟩,⟨by repeat (first|(with_reducible first|exact HB.out|apply ba_|apply pd_|apply b1_)|exact HB.out)⟩⟩
    ·rw [if_neg c5] at H
     exact absurd H (by simp)
   ·rw [if_neg c3] at H
    have c3b0:decide (x5_1<(x0_1.length:Int))=false:=df_ c3
    clear c3
    simp only [Option.some.injEq,Prod.mk.injEq] at H
    obtain ⟨rfl,rfl⟩:=H
    obtain ⟨Ao16,co16,eo16⟩:=Kd.R_slice HO_0.out
    subst eo16
    go_wp2
    go_ret
    exact ⟨by first|rfl|(simp [errW_none,errW_some] <;> rfl)|(simp [*,errW_none,errW_some] <;> rfl),by (with_reducible repeat (first|apply Kd.R_alloc|apply Kd.R_drewN|apply Kd.R_drew));exact HO_0.out,by repeat (first|(with_reducible first|exact HB.out|apply ba_|apply pd_|apply b1_)|exact HB.out),by repeat (first|(with_reducible first|exact HK.out|apply Kept.alloc|apply Kept.drewN|apply Kept.drew)|exact HK.out)⟩
/-! ### laws_markNodeS: function 12, by hand -/
theorem rd_setT (xs:List S44) (i:Int) (a:S44) (h0:0≤i) (h1:i<xs.length):rd_T44 (xs.set i.toNat a) i=a:=by
 unfold rd_T44
 rw [List.getD_eq_getElem?_getD,List.getElem?_set_self (by omega)]
 rfl
/-- Element i of a tree of one's own: its cells; one of them written; one of its two rows lent. -/
theorem nodeCells {base g n cap:Nat} {ok:Nat→Prop} {W:World} {xs xs0:List S44} (h:Kd.S kTN 44 W base ok (.slice (some ⟨g,0,none⟩) n cap) xs) (i:Int) (h0:0≤i) (h1:i<n) (hxs:∀ x',xs.set i.toNat x'=xs0.set i.toNat x') (x:S44) (hx:rd_T44 xs i=x) :
 ∃ (A4:Option Addr) (c4:Nat) (A5:Option Addr) (c5:Nat),(W.cell? ⟨g,i.toNat * 6,none⟩=some (.int .i64 x.f0)∧W.cell? ⟨g,i.toNat * 6+1,none⟩=some (.int .i64 x.f1)∧W.cell? ⟨g,i.toNat * 6+2,none⟩=some (.string x.f2)∧W.cell? ⟨g,i.toNat * 6+3,none⟩=some (.string x.f3)∧W.cell? ⟨g,i.toNat * 6+4,none⟩=some (.slice A4 x.f4.length c4)∧W.cell? ⟨g,i.toNat * 6+5,none⟩=some (.slice A5 x.f5.length c5))∧(W.frozen? ⟨g,i.toNat * 6,none⟩=false∧W.frozen? ⟨g,i.toNat * 6+1,none⟩=false∧W.frozen? ⟨g,i.toNat * 6+2,none⟩=false∧W.frozen? ⟨g,i.toNat * 6+3,none⟩=false∧W.frozen? ⟨g,i.toNat * 6+4,none⟩=false∧W.frozen? ⟨g,i.toNat * 6+5,none⟩=false) ∧
  ((∀ m:Int,Kd.S kTN 44 (W.setCell ⟨g,i.toNat * 6,none⟩ (.int .i64 m)) base ok (.slice (some ⟨g,0,none⟩) n cap) (xs0.set i.toNat ⟨m,x.f1,x.f2,x.f3,x.f4,x.f5⟩)∧W.grownBy (W.setCell ⟨g,i.toNat * 6,none⟩ (.int .i64 m)) (some g))∧(∀ m:Int,Kd.S kTN 44 (W.setCell ⟨g,i.toNat * 6+1,none⟩ (.int .i64 m)) base ok (.slice (some ⟨g,0,none⟩) n cap) (xs0.set i.toNat ⟨x.f0,m,x.f2,x.f3,x.f4,x.f5⟩)∧W.grownBy (W.setCell ⟨g,i.toNat * 6+1,none⟩ (.int .i64 m)) (some g))∧(∀ m:ByteArray,Kd.S kTN 44 (W.setCell ⟨g,i.toNat * 6+2,none⟩ (.string m)) base ok (.slice (some ⟨g,0,none⟩) n cap) (xs0.set i.toNat ⟨x.f0,x.f1,m,x.f3,x.f4,x.f5⟩)∧W.grownBy (W.setCell ⟨g,i.toNat * 6+2,none⟩ (.string m)) (some g))∧(∀ m:ByteArray,Kd.S kTN 44 (W.setCell ⟨g,i.toNat * 6+3,none⟩ (.string m)) base ok (.slice (some ⟨g,0,none⟩) n cap) (xs0.set i.toNat ⟨x.f0,x.f1,x.f2,m,x.f4,x.f5⟩)∧W.grownBy (W.setCell ⟨g,i.toNat * 6+3,none⟩ (.string m)) (some g))) ∧
  (∃ p:Nat→Prop,Kd.R k75 75 W base p (.slice A4 x.f4.length c4) x.f4∧(∀ k,p k→ok k∧k≠g)∧∀ (W1:World) (ys:List S75),Kept W W1 p→Kd.R k75 75 W1 base p (.slice A4 x.f4.length c4) ys→Kd.S kTN 44 W1 base ok (.slice (some ⟨g,0,none⟩) n cap) (xs0.set i.toNat ⟨x.f0,x.f1,x.f2,x.f3,ys,x.f5⟩)) ∧
  (∃ q:Nat→Prop,Kd.S kTN 44 W base q (.slice A5 x.f5.length c5) x.f5∧(∀ k,q k→ok k∧k≠g)∧∀ (W1:World) (ys:List S44),Kept W W1 q→Kd.S kTN 44 W1 base q (.slice A5 x.f5.length c5) ys→Kd.S kTN 44 W1 base ok (.slice (some ⟨g,0,none⟩) n cap) (xs0.set i.toNat ⟨x.f0,x.f1,x.f2,x.f3,x.f4,ys⟩)):=by
 obtain ⟨oki,c,hcl,hM,hcc,hfr,hoki,hH⟩:=Kd.S_elem h z44 i h0 h1
 have hx':xs.getD i.toNat z44=x:=hx
 rw [hx'] at hM
 obtain ⟨v4,v5,pp,rfl,g4,g5⟩:=kTN_openM hM
 obtain ⟨A4,c4,rfl⟩:=Kd.R_slice g4
 obtain ⟨A5,c5,rfl⟩:=Kd.S_slice g5
 refine ⟨A4,c4,A5,c5,⟨hcc 0 _ rfl,hcc 1 _ rfl,hcc 2 _ rfl,hcc 3 _ rfl,hcc 4 _ rfl,hcc 5 _ rfl⟩,⟨hfr 0,hfr 1,hfr 2,hfr 3,hfr 4,hfr 5⟩,⟨?_,?_,?_,?_⟩,⟨_,g4,fun k hk=>hoki k hk.1,fun W1 ys hk hr=>?_⟩,⟨_,g5,fun k hk=>hoki k hk.1,fun W1 ys hk hr=>?_⟩⟩
 ·exact fun m=>by
   rw [←hxs]
   exact Kd.S_seg (okg:=fun _=>False) (okp:=oki) (Kd.H_mono hH (fun k hk=>⟨hk,fun h=>h⟩)) h0 h1 (seg:=[.int .i64 m]) (j:=0) (show 0+1≤6 by decide) (x':=(⟨m,x.f1,x.f2,x.f3,x.f4,x.f5⟩:S44)) (kTN_mkM _ _ _ pp (⟨m,x.f1,x.f2,x.f3,x.f4,x.f5⟩:S44) g4 g5) (fun k hk=>.inl hk) (fun k hk=>hk.elim)
 ·exact fun m=>by
   rw [←hxs]
   exact Kd.S_seg (okg:=fun _=>False) (okp:=oki) (Kd.H_mono hH (fun k hk=>⟨hk,fun h=>h⟩)) h0 h1 (seg:=[.int .i64 m]) (j:=1) (show 1+1≤6 by decide) (x':=(⟨x.f0,m,x.f2,x.f3,x.f4,x.f5⟩:S44)) (kTN_mkM _ _ _ pp (⟨x.f0,m,x.f2,x.f3,x.f4,x.f5⟩:S44) g4 g5) (fun k hk=>.inl hk) (fun k hk=>hk.elim)
 ·exact fun m=>by
   rw [←hxs]
   exact Kd.S_seg (okg:=fun _=>False) (okp:=oki) (Kd.H_mono hH (fun k hk=>⟨hk,fun h=>h⟩)) h0 h1 (seg:=[.string m]) (j:=2) (show 2+1≤6 by decide) (x':=(⟨x.f0,x.f1,m,x.f3,x.f4,x.f5⟩:S44)) (kTN_mkM _ _ _ pp (⟨x.f0,x.f1,m,x.f3,x.f4,x.f5⟩:S44) g4 g5) (fun k hk=>.inl hk) (fun k hk=>hk.elim)
 ·exact fun m=>by
   rw [←hxs]
   exact Kd.S_seg (okg:=fun _=>False) (okp:=oki) (Kd.H_mono hH (fun k hk=>⟨hk,fun h=>h⟩)) h0 h1 (seg:=[.string m]) (j:=3) (show 3+1≤6 by decide) (x':=(⟨x.f0,x.f1,x.f2,m,x.f4,x.f5⟩:S44)) (kTN_mkM _ _ _ pp (⟨x.f0,x.f1,x.f2,m,x.f4,x.f5⟩:S44) g4 g5) (fun k hk=>.inl hk) (fun k hk=>hk.elim)
 ·rw [←hxs]
  refine Kd.H_back (Kd.H_step hH (fun k _ hn hlt=>hk.2 k hlt (fun h2=>hn h2.1))) (x':=(⟨x.f0,x.f1,x.f2,x.f3,ys,x.f5⟩:S44)) (okp:=oki) (kTN_mkM _ _ _ pp (⟨x.f0,x.f1,x.f2,x.f3,ys,x.f5⟩:S44) hr (Kd.S_kept g5 hk (fun k h2 h3=>h2.2 h3.2))) (fun k hk=>hk)
 ·rw [←hxs]
  refine Kd.H_back (Kd.H_step hH (fun k _ hn hlt=>hk.2 k hlt (fun h2=>hn h2.1))) (x':=(⟨x.f0,x.f1,x.f2,x.f3,x.f4,ys⟩:S44)) (okp:=oki) (kTN_mkM _ _ _ pp (⟨x.f0,x.f1,x.f2,x.f3,x.f4,ys⟩:S44) (Kd.R_kept g4 hk (fun k h2 h3=>h3.2 h2.2)) hr) (fun k hk=>hk)
mutual
def laws_markNodeS.l0:Nat→List S44→Int→Int→Option (Int × List S44)
 | 0,_,_,_=>none
 | k+1,x0,x1,x5=>if x5<(x0.length:Int) then (if 0≤x5 then (laws_markText.f k (wrap64 (wrap64 (x1+1)+1))).bind fun t=>(laws_markText.f k (wrap64 (wrap64 (wrap64 (x1+1)+1)+1))).bind fun t'=>(laws_markAttrS.f k (rd_T44 x0 x5).f4 (wrap64 (wrap64 (wrap64 (wrap64 (x1+1)+1)+1)+1))).bind fun p=>(laws_markNodeS.f k (rd_T44 x0 x5).f5 p.1).bind fun q=>laws_markNodeS.l0 k (x0.set x5.toNat ⟨x1,wrap64 (x1+1),t,t',p.2,q.2⟩) q.1 (wrap64 (x5+1)) else none) else some (x1,x0)
def laws_markNodeS.f:Nat→List S44→Int→Option (Int × List S44)
 | 0,_,_=>none
 | k+1,x0,x1=>laws_markNodeS.l0 k x0 x1 0
end
abbrev markNodeC (k:Nat):Prop:=∀ (P:Nat→Prop) (A:Option Addr) (n c:Nat) (xs ys:List S44) (m r:Int) (w0 w:World),Below w0.heap.size w0 w→Kd.S kTN 44 w w0.heap.size P (.slice A n c) xs→laws_markNodeS.f k xs m=some (r,ys) →
 Calls Try.prog 12 #[.slice A n c,.int .i64 m] w fun e w'=>e=.returned (.int .i64 r)∧Kd.S kTN 44 w' w0.heap.size P (.slice A n c) ys∧Below w0.heap.size w0 w'∧Kept w w' P
set_option maxHeartbeats 16000000 in
set_option maxRecDepth 1000000 in
theorem markNode_step (k:Nat) (ih:∀ j,j<k→markNodeC j):markNodeC k:=by
 intro P A n c xs ys m r w0 w hB ho h
 cases k with
 | zero=>exact absurd h (by simp [laws_markNodeS.f])
 | succ k =>
 simp only [laws_markNodeS.f] at h
 have HO:=A_ ho
 have HK:=A_ (Kept.refl w P)
 have HB:=A_ hB
 have IH:=A_ ih
 have H':=A_ h
 have hlen:=(Kd.S_reads' ho).1
 have HN:=A_ hlen
 clear h hB ho ih hlen
 go_enter Try.func12,Try.ntmps12
 go_wp2
 go_loopg [1,5] k (fun kq v1 v5 w'=>∃ (x0:List S44) (x1 x5:Int),v1=.int .i64 x1∧v5=.int .i64 x5∧Aside0 (laws_markNodeS.l0 kq x0 x1 x5=some (r,ys))∧Aside0 (kq≤k)∧Aside0 (n=x0.length)∧Aside0 (Kd.S kTN 44 w' w0.heap.size P (.slice A n c) x0)∧Aside0 (Kept w w' P)∧Aside0 (Below w0.heap.size w0 w'))
 case atStart=>exact ⟨xs,m,0,rfl,rfl,H',⟨Nat.le_refl _⟩,HN,HO,HK,HB⟩
 case round =>
  clear H' HO HK HB HN
  obtain ⟨x0,x1,x5,rfl,rfl,HA,HK1,HL,HO,HK,HB⟩:=hrel
  cases gk with
  | zero=>exact absurd HA.out (by simp [laws_markNodeS.l0])
  | succ k1 =>
   have H:=HA.out
   clear HA
   simp only [laws_markNodeS.l0] at H
   by_cases c3:x5<(x0.length:Int)
   ·rw [if_pos c3] at H
    obtain ⟨c5,H⟩:=Option.ite_none_right_eq_some.mp H
    obtain ⟨t,ht,H⟩:=ob_ H
    obtain ⟨t',ht',H⟩:=ob_ H
    obtain ⟨⟨m4,as1⟩,ha,H⟩:=ob_ H
    obtain ⟨⟨m5,ks1⟩,hk,H⟩:=ob_ H
    obtain ⟨x,hx⟩:∃ x,rd_T44 x0 x5=x:=⟨_,rfl⟩
    rw [hx] at ha hk
    obtain ⟨y,hy⟩:∃ y,y=x0.set x5.toNat ⟨x1,wrap64 (x1+1),t,t',as1,ks1⟩:=⟨_,rfl⟩
    replace H:laws_markNodeS.l0 k1 y m5 (wrap64 (x5+1))=some (r,ys):=by rw [hy];exact H
    have H':=A_ H
    have HT:=A_ ht
    have HT':=A_ ht'
    have HAT:=A_ ha
    have HKD:=A_ hk
    have HY:=A_ hy
    have hly:y.length=x0.length:=by rw [hy,List.length_set]
    have HLY:=A_ hly
    have HC5:=A_ c5
    have HL5:=A_ c3
    have hn3:x5<(n:Int):=by rw [HL.out];exact c3
    have HC3:=A_ hn3
    clear H ht ht' ha hk hy hly
    obtain ⟨g,cap,ev,hg0,hgl,_⟩:=Kd.S_form HO.out (by omega)
    injection ev with e1 e2 e3
    subst e1 e3
    have HG:=A_ hg0
    have HP:Aside0 (P g):=⟨by obtain ⟨_,hR⟩:=HO.out;exact hR.1 g (by simp [Value.ownBlock])⟩
    obtain ⟨_,_,_,_,⟨q0,q1,_⟩,⟨r0,r1,_⟩,⟨s0,_⟩,_,_⟩:=nodeCells HO.out x5 c5 hn3 (fun x'=>rfl) x hx
    obtain ⟨hs0,hh0⟩:=s0 x1
    obtain ⟨_,_,_,_,_,_,⟨_,s1,_⟩,_,_⟩:=nodeCells hs0 x5 c5 hn3 (fun x'=>List.set_set ..) _ (rd_setT x0 x5 _ c5 c3)
    obtain ⟨hs1,hh1⟩:=s1 (wrap64 (x1+1))
    have HO1:=A_ hs1
    have HK1':=A_ (Kept.of_grown hh1 (Kept.of_grown hh0 HK.out (fun k hk=>.inl (by injection hk with hk;exact hk ▸ HP.out))) (fun k hk=>.inl (by injection hk with hk;exact hk ▸ HP.out)))
    have HB1:=A_ (bs_ (j:=x5.toNat * 6+1) (v:=.int .i64 (wrap64 (x1+1))) (bs_ (j:=x5.toNat * 6) (v:=.int .i64 x1) HB.out hg0) hg0)
    have z3:decide (x5<(n:Int))=true:=dt_ hn3
    have z5:decide (0≤x5)=true:=dt_ c5
    have p3:=eq_true hn3
    have p5:=eq_true c5
    clear c3 c5 hn3 hg0 hgl s0 s1 hs0 hh0 hs1 hh1 e2 hx HO HK HB
    go_wp2_with (first|(go_at_call 30;(with_reducible refine (laws_markText.calls k1 _ t _ HT.out).mono ?_);rintro e w3 ⟨rfl,hb⟩;(have HOa3:=A_ (Kd.S_below HO1.out hb));(have HKa3:=A_ (Kept.below HK1'.out hb));(have HBa3:=A_ (bp_ HB1.out hb));clear hb HO1 HK1' HB1;(obtain ⟨_,_,_,_,⟨d0,d1,d2,d3,d4,d5⟩,⟨f0,f1,f2,f3,f4,f5⟩,⟨_,_,s2,s3⟩,_,_⟩:=nodeCells HOa3.out x5 HC5.out HC3.out (fun x'=>List.set_set ..) _ (rd_setT x0 x5 _ HC5.out HL5.out));(obtain ⟨hs,hg⟩:=s2 t);(have HO3:=A_ hs);(have HK3:=A_ (Kept.of_grown hg HKa3.out (fun k hk=>.inl (by injection hk with hk;exact hk ▸ HP.out))));(have HB3:=A_ (bs_ (j:=x5.toNat * 6+2) (v:=.string t) HBa3.out HG.out));clear hs hg s2 s3 d0 d1 d4 d5 f0 f1 f4 f5 HOa3 HKa3 HBa3)|(go_at_call 30;(with_reducible refine (laws_markText.calls k1 _ t' _ HT'.out).mono ?_);rintro e w4 ⟨rfl,hb⟩;(have HOa4:=A_ (Kd.S_below HO3.out hb));(have HKa4:=A_ (Kept.below HK3.out hb));(have HBa4:=A_ (bp_ HB3.out hb));clear hb HO3 HK3 HB3;(obtain ⟨_,_,_,_,⟨d0,d1,d2,d3,d4,d5⟩,⟨f0,f1,f2,f3,f4,f5⟩,⟨_,_,s2,s3⟩,_,_⟩:=nodeCells HOa4.out x5 HC5.out HC3.out (fun x'=>List.set_set ..) _ (rd_setT x0 x5 _ HC5.out HL5.out));(obtain ⟨hs,hg⟩:=s3 t');(have HO4:=A_ hs);(have HK4:=A_ (Kept.of_grown hg HKa4.out (fun k hk=>.inl (by injection hk with hk;exact hk ▸ HP.out))));(have HB4:=A_ (bs_ (j:=x5.toNat * 6+3) (v:=.string t') HBa4.out HG.out));clear hs hg s2 s3 d0 d1 d4 d5 f0 f1 f4 f5 HOa4 HKa4 HBa4;(obtain ⟨A4,c4,A5,c5,⟨_,_,_,_,d4,_⟩,_,_,⟨p,hr4,hp4,hw4⟩,_⟩:=nodeCells HO4.out x5 HC5.out HC3.out (fun x'=>List.set_set ..) _ (rd_setT x0 x5 _ HC5.out HL5.out));(have HR4:=A_ hr4);(have HW4:=A_ hw4);(have HP4:=A_ hp4);clear hr4 hw4 hp4)|(go_at_call 31;(with_reducible refine (laws_markAttrS.calls k1 p _ x.f4 _ m4 as1 w0 _ HB4.out HR4.out HAT.out).mono ?_);rintro e w6 ⟨rfl,hr,hb,hk⟩;(have HO6:=A_ (HW4.out w6 as1 hk (Kd.R_mono (Kd.R_tight rfl hr) (fun k hk=>HR4.out.1 k hk.symm))));(have HK6:=A_ (HK4.out.then_ hk (fun k hk=>.inl (HP4.out k hk).1)));(have HB6:=A_ hb);clear hr hb hk HO4 HK4 HB4 HW4 HP4 d4;(obtain ⟨A4',c4',A5',c5',⟨_,_,_,_,_,d5⟩,_,_,_,⟨q,hr5,hp5,hw5⟩⟩:=nodeCells HO6.out x5 HC5.out HC3.out (fun x'=>List.set_set ..) _ (rd_setT x0 x5 _ HC5.out HL5.out));(have HR5:=A_ hr5);(have HW5:=A_ hw5);(have HP5:=A_ hp5);clear hr5 hw5 hp5)|(go_at_call 12;(with_reducible refine (IH.out k1 (by have:=HK1.out;omega) q _ _ _ x.f5 ks1 _ m5 w0 _ HB6.out HR5.out HKD.out).mono ?_);rintro e w7 ⟨rfl,hs,hb,hk⟩;(have HO7:=A_ (HW5.out w7 ks1 hk hs));(have HK7:=A_ (HK6.out.then_ hk (fun k hk=>.inl (HP5.out k hk).1)));(have HB7:=A_ hb);clear hs hb hk HO6 HK6 HB6 HW5 HP5 d5))
    go_roundg k1
    case measure=>have:=HK1.out;omega
    case rel=>exact ⟨y,m5,wrap64 (x5+1),rfl,rfl,H',⟨by have:=HK1.out;omega⟩,⟨by rw [HLY.out,HL.out]⟩,⟨HY.out ▸ HO7.out⟩,HK7,HB7⟩
   ·rw [if_neg c3] at H
    have hn3:¬ x5<(n:Int):=by rw [HL.out];exact c3
    have z3:decide (x5<(n:Int))=false:=df_ hn3
    clear c3 hn3
    simp only [Option.some.injEq,Prod.mk.injEq] at H
    obtain ⟨rfl,rfl⟩:=H
    go_wp2
    go_ret
    exact ⟨rfl,HO.out,HB.out,HK.out⟩
theorem laws_markNodeS.callsT (k:Nat):markNodeC k:=by
 induction k using Nat.strongRecOn with
 | _ k ih=>exact markNode_step k ih
end Go.Proofs.Ytjlikemmhjclpaa.PFnExactSetKids
