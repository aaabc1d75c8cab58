/- The machine side of a law, printed by a program. No conditions. -/
import Derived.Test.YtfkanlbmgbkniaaGreatDoorPFnExactTokensOfx0
import Derived.Test.YtfkanlbmgbkniaaGreatDoorPFnExactTokensOfx11
namespace Go.Proofs.YtfkanlbmgbkniaaGreatDoor.PFnExactTokensOf
open Go.RowKit Go.Proofs.YtfkanlbmgbkniaaGreatDoorW.PrintWords Go.Proofs.YtfkanlbmgbkniaaGreatDoorW.PrintLast Go.Proofs.YtfkanlbmgbkniaaGreatDoorW.PrintMore
attribute [local go_sem] max2_int min2_int max_two min_two max_three min_three max_four min_four
set_option linter.unusedVariables false
set_option linter.unusedSimpArgs false
def spec_l01Has.l0:Nat→List ByteArray→ByteArray→Int→Option (Bool)
 | 0,_,_,_=>none
 | k+1,x0,x1,x5=>if x5<(x0.length:Int) then (if 0≤x5 then (if (rdOf ByteArray.empty x0 x5).toList=x1.toList then (some true) else (spec_l01Has.l0 k x0 x1 (wrap64 (x5+1)))) else (none)) else (some false)
def spec_l01Has.f (k:Nat) (l0:List ByteArray) (a1:ByteArray):Option (Bool):=spec_l01Has.l0 k l0 a1 0
theorem spec_l01Has.mono_l:∀ k,(∀ y0 y1 y2,LeO (spec_l01Has.l0 k y0 y1 y2) (spec_l01Has.l0 (k+1) y0 y1 y2))
 | 0=>fun _ _ _ r h=>by simp [spec_l01Has.l0] at h
 | k+1=>by
  have ih0:=spec_l01Has.mono_l k
  ·intro y0 y1 y2
   unfold spec_l01Has.l0
   repeat' first|(with_reducible first|exact ih0 ..|exact LeO.refl _|exact LeO.none _|refine LeO.ite ?_ ?_|refine LeO.bind ?_ (fun _=>?_))|exact ih0 ..|exact LeO.none _|refine LeO.ite ?_ ?_|refine LeO.bind ?_ (fun _=>?_)
theorem spec_l01Has.mono:∀ a0 a1 k,LeO (spec_l01Has.f k a0 a1) (spec_l01Has.f (k+1) a0 a1):=by
 intro a0 a1 k
 have ih0:=spec_l01Has.mono_l k
 unfold spec_l01Has.f
 repeat' first|(with_reducible first|exact ih0 ..|exact LeO.refl _|exact LeO.none _|refine LeO.ite ?_ ?_|refine LeO.bind ?_ (fun _=>?_))|exact ih0 ..|exact LeO.none _|refine LeO.ite ?_ ?_|refine LeO.bind ?_ (fun _=>?_)
set_option maxHeartbeats 8000000 in
set_option maxRecDepth 100000 in
theorem spec_l01Has.calls (k:Nat) (A0:Option Addr) (c0:Nat) (l0:List ByteArray) (a1:ByteArray) (r:Bool) (w:World) (hr0:Kd.C Kd.string w A0 l0.length l0) (hc0:l0.length≤c0) (h:spec_l01Has.f k l0 a1=some r) :
 Calls Tryz.prog 48 #[.slice A0 l0.length c0,.string a1] w fun e w'=>e=.returned (.bool r)∧Drawn0 w w':=by
 have HR0:=A_ hr0
 have HC0:=A_ hc0
 clear hr0 hc0
 have H:(spec_l01Has.l0 k l0 a1 0)=some r:=h
 clear h
 have H':=A_ H
 clear H
 go_enter Tryz.func48,Tryz.ntmps48
 go_wp2
 go_loopg [5] k (fun kq v5 w'=>∃ (x5_1:Int),v5=.int .i64 x5_1∧Aside0 (spec_l01Has.l0 kq l0 a1 x5_1=some r)∧Aside0 (kq≤k)∧Drawn0 w w')
 case atStart=>exact ⟨(0),rs_,H',⟨Nat.le_refl _⟩,by repeat (first|exact dr_ _|apply dp_)⟩
 case round =>
  clear H'
  try clear p2
  obtain ⟨x5_1,rfl,HA,HK1,⟨m1,rfl⟩⟩:=hrel
  cases gk with
  | zero=>exact absurd HA.out (by simp [spec_l01Has.l0])
  | succ k1 =>
   have H:=HA.out
   clear HA
   simp only [spec_l01Has.l0] at H
   by_cases c3:x5_1<(l0.length:Int)
   ·rw [if_pos c3] at H
    have c3b0:decide (x5_1<(l0.length:Int))=true:=dt_ c3
    clear c3
    by_cases c4:0≤x5_1
    ·rw [if_pos c4] at H
     have c4b0:decide (0≤x5_1)=true:=dt_ c4
     clear c4
     by_cases c5:(rdOf ByteArray.empty l0 x5_1).toList=a1.toList
     ·rw [if_pos c5] at H
      have c5b0:((rdOf ByteArray.empty l0 x5_1).toList == a1.toList)=true:=beq_iff_eq.mpr c5
      have c5b1:((rdOf ByteArray.empty l0 x5_1).toList != a1.toList)=false:=bne_eq_false_iff_eq.mpr c5
      clear c5
      obtain rfl:=oi_ H
      have p256:0≤(x5_1:Int):=oa_
      have q256:x5_1<(l0.length:Int):=oa_
      obtain ⟨ad256,e256,hx256_0⟩:=Kd.at_string HR0.out x5_1 p256 q256
      cases e256
      replace p256:=eq_true p256
      replace q256:=eq_true q256
      go_wp2
      go_ret
      exact ⟨by first|rfl|(simp;done)|(simp [*];done),by repeat (first|exact dr_ _|apply dp_)⟩
     ·rw [if_neg c5] at H
      have c5b0:((rdOf ByteArray.empty l0 x5_1).toList == a1.toList)=false:=beq_eq_false_iff_ne.mpr c5
      have c5b1:((rdOf ByteArray.empty l0 x5_1).toList != a1.toList)=true:=bne_iff_ne.mpr c5
      have H':=A_ H
      clear H
      have p256:0≤(x5_1:Int):=oa_
      have q256:x5_1<(l0.length:Int):=oa_
      obtain ⟨ad256,e256,hx256_0⟩:=Kd.at_string HR0.out x5_1 p256 q256
      cases e256
      replace p256:=eq_true p256
      replace q256:=eq_true q256
      go_wp2
      go_roundg k1
      case measure=>have:=HK1.out;omega
      case rel=>exact ⟨(wrap64 (x5_1+1)),rs_,H',⟨by have:=HK1.out;omega⟩,by repeat (first|exact dr_ _|apply dp_)⟩
    ·rw [if_neg c4] at H
     exact absurd H (by simp)
   ·rw [if_neg c3] at H
    have c3b0:decide (x5_1<(l0.length:Int))=false:=df_ c3
    clear c3
    obtain rfl:=oi_ H
    go_wp2
    go_ret
    exact ⟨by first|rfl|(simp;done)|(simp [*];done),by repeat (first|exact dr_ _|apply dp_)⟩
theorem ev_l01Has (xs:List ByteArray) (t:ByteArray) (hn:xs.length≤9223372036854775807):Ev (fun k=>spec_l01Has.f k xs t) (Kit.hasT xs t):=by
 have key:∀ i,i≤xs.length→Ev (fun k=>spec_l01Has.l0 k xs t i) (Kit.hasT (xs.drop i) t):=by
  refine Kit.down ?_ ?_
  ·refine Ev.step (fun k=>rfl) ?_
   refine Kit.ev_neg (by omega) ?_
   rw [List.drop_length]
   exact Ev.now _
  ·intro i hi ih
   refine Ev.step (fun k=>rfl) ?_
   refine Kit.ev_pos (by omega) (Kit.ev_pos (by omega) ?_)
   rw [Kit.drop_getD ByteArray.empty xs i hi,Kit.hasT_cons,Kit.rdOf_nat,Kit.wrap_nat hi hn]
   refine Kit.ev_if (fun h=>?_) (fun h=>?_)
   ·rw [dt_ h.symm,Bool.true_or];exact Ev.now _
   ·rw [df_ (fun e=>h e.symm),Bool.false_or];exact ih
 exact key 0 (by omega)
theorem spec_l01Has.pure (A:Option Addr) (c:Nat) (xs:List ByteArray) (t:ByteArray) (W:World) (h:Kd.C Kd.string W A xs.length xs) (hc:xs.length≤c):Calls Tryz.prog 48 #[.slice A xs.length c,.string t] W fun e w'=>e=.returned (.bool (Kit.hasT xs t))∧Drawn0 W w':=by
 obtain ⟨K,hK⟩:=ev_l01Has xs t h.2.1
 exact spec_l01Has.calls K A c xs t _ W h hc (hK K (Nat.le_refl _))
def spec_l01Raw.f (k:Nat) (a0:ByteArray):Option (Bool):=(spec_l01Has.f k (([(⟨#[115,116,121,108,101]⟩:ByteArray),(⟨#[115,99,114,105,112,116]⟩:ByteArray),(⟨#[120,109,112]⟩:ByteArray),(⟨#[105,102,114,97,109,101]⟩:ByteArray)]:List ByteArray)) a0).bind fun t260=>(some t260)
theorem spec_l01Raw.mono:∀ a0 k,LeO (spec_l01Raw.f k a0) (spec_l01Raw.f (k+1) a0):=by
 intro a0 k
 unfold spec_l01Raw.f
 repeat' first|(with_reducible first|exact spec_l01Has.mono ..|exact LeO.refl _|exact LeO.none _|refine LeO.ite ?_ ?_|refine LeO.bind ?_ (fun _=>?_))|exact LeO.none _|refine LeO.ite ?_ ?_|refine LeO.bind ?_ (fun _=>?_)
set_option maxHeartbeats 8000000 in
set_option maxRecDepth 100000 in
theorem spec_l01Raw.calls (k:Nat) (a0:ByteArray) (r:Bool) (w:World) (h:spec_l01Raw.f k a0=some r) :
 Calls Tryz.prog 25 #[.string a0] w fun e w'=>e=.returned (.bool r)∧Below w.heap.size w w':=by
 have HB:=A_ (Below.refl w.heap.size w)
 have H:((spec_l01Has.f k (([(⟨#[115,116,121,108,101]⟩:ByteArray),(⟨#[115,99,114,105,112,116]⟩:ByteArray),(⟨#[120,109,112]⟩:ByteArray),(⟨#[105,102,114,97,109,101]⟩:ByteArray)]:List ByteArray)) a0).bind fun t260=>(some t260))=some r:=h
 clear h
 obtain ⟨y257,hy257⟩:∃ y_:List ByteArray,y_=(([(⟨#[115,116,121,108,101]⟩:ByteArray),(⟨#[115,99,114,105,112,116]⟩:ByteArray),(⟨#[120,109,112]⟩:ByteArray),(⟨#[105,102,114,97,109,101]⟩:ByteArray)]:List ByteArray)):=⟨_,rfl⟩
 replace H:((spec_l01Has.f k y257 a0).bind fun t260=>(some t260))=some r:=by first|(rw [hy257];with_reducible exact H)|(have H2_:=(Option.bind_some _ _).symm.trans H;rw [hy257];with_reducible exact H2_)|(have H2_:=(Option.bind_some _ _).symm.trans H;with_reducible exact H2_)|with_reducible exact H|(rw [hy257];exact H)|exact H
 have Ny257:=A_ hy257
 clear hy257
 replace H:=ob_ H
 obtain ⟨t260,A20,H⟩:=H
 replace H:(some t260)=some r:=H
 have A2:=A_ A20
 clear A20
 obtain rfl:=oi_ H
 go_enter Tryz.func25,Tryz.ntmps25
 go_wp2_with (first|((with_reducible refine gate_dst (N:=3) rfl ?_);refine Kd.R_lit Kd.string _ 9 ?hg (N:=3) ?hd (xs:=([(⟨#[115,116,121,108,101]⟩:ByteArray),(⟨#[115,99,114,105,112,116]⟩:ByteArray),(⟨#[120,109,112]⟩:ByteArray),(⟨#[105,102,114,97,109,101]⟩:ByteArray)]:List ByteArray)) (inner:=[.string (⟨#[115,116,121,108,101]⟩:ByteArray),.string (⟨#[115,99,114,105,112,116]⟩:ByteArray),.string (⟨#[120,109,112]⟩:ByteArray),.string (⟨#[105,102,114,97,109,101]⟩:ByteArray)]) (ok:=fun _=>True) (okp:=fun _=>True) ?hr ?hp (fun _ hk=>hk) trivial (Below.refl _ _) (Nat.le_refl _) (by simp) ?_;(case hd=>rfl);(case hg=>rfl);(case hr=>first|(go_simp;done)|(go_simp;rfl)|(first|(go_simp;done)|(go_simp;rfl)));(case hp=>exact (Reps.one (show Kd.M Kd.string _ _ _ (⟨#[115,116,121,108,101]⟩:ByteArray) [.string (⟨#[115,116,121,108,101]⟩:ByteArray)] from rfl) (Reps.one (show Kd.M Kd.string _ _ _ (⟨#[115,99,114,105,112,116]⟩:ByteArray) [.string (⟨#[115,99,114,105,112,116]⟩:ByteArray)] from rfl) (Reps.one (show Kd.M Kd.string _ _ _ (⟨#[120,109,112]⟩:ByteArray) [.string (⟨#[120,109,112]⟩:ByteArray)] from rfl) (Reps.one (show Kd.M Kd.string _ _ _ (⟨#[105,102,114,97,109,101]⟩:ByteArray) [.string (⟨#[105,102,114,97,109,101]⟩:ByteArray)] from rfl) (Reps.none _ _))))));intro v258 w3 ho4 hb hg_ hnew_;clear hg_ hnew_;(first|rw [←Ny257.out] at ho4|(simp only [Int.reduceToNat] at ho4;rw [←Ny257.out] at ho4));have n0_:=A_ (Kd.R_lower ho4 (bz_ (bq0_ HB.out)));have n1_:=A_ (bp_ (bq0_ HB.out) hb);clear HB;have HO259:=n0_;have HB:=n1_;clear n0_ n1_;clear hb ho4;obtain ⟨Ao5,co5,eo5⟩:=Kd.R_slice HO259.out;subst eo5)|((with_reducible refine gate_callee (f:=48) rfl ?_);refine gl_ (some 5) rfl rfl Tryz.func48 (by kernel_rfl) rfl #[.slice Ao5 y257.length co5,.string a0] rfl  ?_;(with_reducible refine (spec_l01Has.calls k _ _ y257 a0 t260 _ ?side1 ?side2 A2.out).mono ?_);(case side1=>repeat (first|exact (Kd.R_reads' HO259.out).2.2|(with_reducible refine ca_ ?_ _)|(with_reducible refine cn_ ?_ _)|(with_reducible refine cd_ ?_)));(case side2=>exact (Kd.R_reads' HO259.out).2.1);rintro e w' ⟨rfl,⟨nd,rfl⟩⟩;refine ⟨_,rfl,?_⟩))
 go_ret
 exact ⟨by first|rfl|(simp [errW_none,errW_some] <;> rfl)|(simp [*,errW_none,errW_some] <;> rfl),bq0_ HB.out⟩
def spec_TokensOf.l0:Nat→ByteArray→List (S24)→ByteArray→Int→Option ((List (S24)) × Int)
 | 0,_,_,_,_=>none
 | k+1,x0,x4,x5,x6=>if x6<(x0.size:Int) then ((spec_l04Next.f k x0 x6 x5).bind fun bt267=>(if (x4.length:Int)=4096 then (some ((([]:List (S24))),6)) else (if x4.length<1599289640401 then ((some (x4++[(⟨bt267.1,bt267.2.1,bt267.2.2.1,bt267.2.2.2.1,bt267.2.2.2.2.1,bt267.2.2.2.2.2.1,bt267.2.2.2.2.2.2⟩:S24)]:List (S24))).bind fun y280=>(if bt267.1=2 then ((spec_l01Raw.f k bt267.2.2.2.1).bind fun t283=>(if t283=true then (spec_TokensOf.l0 k x0 y280 bt267.2.2.2.1 (wrap64 (x6+bt267.2.2.1))) else (spec_TokensOf.l0 k x0 y280 (⟨#[]⟩:ByteArray) (wrap64 (x6+bt267.2.2.1))))) else (spec_TokensOf.l0 k x0 y280 (⟨#[]⟩:ByteArray) (wrap64 (x6+bt267.2.2.1))))) else (none)))) else (some (x4,0))
def spec_TokensOf.f (k:Nat) (a0:ByteArray):Option ((List (S24)) × Int):=if (a0.size:Int)>65536 then (some ((([]:List (S24))),2)) else (spec_TokensOf.l0 k a0 (([]:List (S24))) (⟨#[]⟩:ByteArray) 0)
theorem spec_TokensOf.mono_l:∀ k,(∀ y0 y1 y2 y3,LeO (spec_TokensOf.l0 k y0 y1 y2 y3) (spec_TokensOf.l0 (k+1) y0 y1 y2 y3))
 | 0=>fun _ _ _ _ r h=>by simp [spec_TokensOf.l0] at h
 | k+1=>by
  have ih0:=spec_TokensOf.mono_l k
  ·intro y0 y1 y2 y3
   unfold spec_TokensOf.l0
   repeat' first|(with_reducible first|exact ih0 ..|exact spec_l01Raw.mono ..|exact spec_l04Next.mono ..|exact LeO.refl _|exact LeO.none _|refine LeO.ite ?_ ?_|refine LeO.bind ?_ (fun _=>?_))|exact ih0 ..|exact LeO.none _|refine LeO.ite ?_ ?_|refine LeO.bind ?_ (fun _=>?_)
theorem spec_TokensOf.mono:∀ a0 k,LeO (spec_TokensOf.f k a0) (spec_TokensOf.f (k+1) a0):=by
 intro a0 k
 have ih0:=spec_TokensOf.mono_l k
 unfold spec_TokensOf.f
 repeat' first|(with_reducible first|exact ih0 ..|exact spec_l01Raw.mono ..|exact spec_l04Next.mono ..|exact LeO.refl _|exact LeO.none _|refine LeO.ite ?_ ?_|refine LeO.bind ?_ (fun _=>?_))|exact ih0 ..|exact LeO.none _|refine LeO.ite ?_ ?_|refine LeO.bind ?_ (fun _=>?_)
set_option maxHeartbeats 8000000 in
set_option maxRecDepth 100000 in
theorem spec_TokensOf.calls (k:Nat) (a0:ByteArray) (r1:List (S24)) (r2:Int) (w:World) (h:spec_TokensOf.f k a0=some (r1,r2)) :
 Calls Tryz.prog 10 #[.string a0] w fun e w'=>∃ v0_:Value,e=.returned (.tuple #[v0_,.int .i64 r2])∧Kd.S k24 24 w' w.heap.size (fun _=>True) v0_ r1∧Below w.heap.size w w':=by
 have hu24:=Tryz.underlying24
 have HB:=A_ (Below.refl w.heap.size w)
 have H:(if (a0.size:Int)>65536 then (some ((([]:List (S24))),2)) else (spec_TokensOf.l0 k a0 (([]:List (S24))) (⟨#[]⟩:ByteArray) 0))=some (r1,r2):=h
 clear h
 by_cases c2:(a0.size:Int)>65536
 ·rw [if_pos c2] at H
  have c2b0:decide (65536<(a0.size:Int))=true:=dt_ c2
  have c2b1:decide (65536<a0.size)=true:=dt_ (by omega)
  clear c2
  obtain ⟨y261,hy261⟩:∃ y_:List (S24),y_=(([]:List (S24))):=⟨_,rfl⟩
  replace H:(some (y261,2))=some (r1,r2):=by first|(rw [hy261];with_reducible exact H)|(have H2_:=(Option.bind_some _ _).symm.trans H;rw [hy261];with_reducible exact H2_)|(have H2_:=(Option.bind_some _ _).symm.trans H;with_reducible exact H2_)|with_reducible exact H|(rw [hy261];exact H)|exact H
  have Ny261:=A_ hy261
  clear hy261
  simp only [Option.some.injEq,Prod.mk.injEq] at H
  obtain ⟨rfl,rfl⟩:=H
  go_enter Tryz.func10,Tryz.ntmps10
  go_wp2_with (first|((with_reducible refine gate_dst (N:=11) rfl ?_);refine Kd.S_lit k24 _ 24 ?hg (N:=11) ?hd (xs:=([]:List (S24))) (inner:=[]) (ok:=fun _=>True) (okp:=fun _=>True) ?hr ?hp (fun _ hk=>hk) trivial (Below.refl _ _) (Nat.le_refl _) (by simp) ?_;(case hd=>rfl);(case hg=>rfl);(case hr=>first|(go_simp;done)|(go_simp;rfl)|(first|(go_simp;done)|(go_simp;rfl)));(case hp=>exact (Reps.none _ _));intro v262 w3 ho4 hb hg_ hnew_;clear hg_ hnew_;(first|rw [←Ny261.out] at ho4|(simp only [Int.reduceToNat] at ho4;rw [←Ny261.out] at ho4));have n0_:=A_ (Kd.S_lower ho4 (bz_ (bq0_ HB.out)));have n1_:=A_ (bp_ (bq0_ HB.out) hb);clear HB;have HO263:=n0_;have HB:=n1_;clear n0_ n1_;clear hb ho4))
  go_ret2
  exact ⟨_,by first|rfl|(simp [errW_none,errW_some] <;> rfl)|(simp [*,errW_none,errW_some] <;> rfl),by (with_reducible repeat (first|apply Kd.S_alloc|apply Kd.S_drewN|apply Kd.S_drew));exact HO263.out,bq0_ HB.out⟩
 ·rw [if_neg c2] at H
  have c2b0:decide (65536<(a0.size:Int))=false:=df_ c2
  have c2b1:decide (65536<a0.size)=false:=df_ (by omega)
  clear c2
  obtain ⟨y264,hy264⟩:∃ y_:List (S24),y_=(([]:List (S24))):=⟨_,rfl⟩
  replace H:(spec_TokensOf.l0 k a0 y264 (⟨#[]⟩:ByteArray) 0)=some (r1,r2):=by first|(rw [hy264];with_reducible exact H)|(have H2_:=(Option.bind_some _ _).symm.trans H;rw [hy264];with_reducible exact H2_)|(have H2_:=(Option.bind_some _ _).symm.trans H;with_reducible exact H2_)|with_reducible exact H|(rw [hy264];exact H)|exact H
  have Ny264:=A_ hy264
  clear hy264
  have H':=A_ H
  clear H
  go_enter Tryz.func10,Tryz.ntmps10
  go_wp2_with (first|((with_reducible refine gate_dst (N:=12) rfl ?_);refine Kd.S_lit k24 _ 24 ?hg (N:=12) ?hd (xs:=([]:List (S24))) (inner:=[]) (ok:=fun _=>True) (okp:=fun _=>True) ?hr ?hp (fun _ hk=>hk) trivial (Below.refl _ _) (Nat.le_refl _) (by simp) ?_;(case hd=>rfl);(case hg=>rfl);(case hr=>first|(go_simp;done)|(go_simp;rfl)|((first|(obtain ⟨_,_,rfl⟩:=Kd.R_slice HO263.out)|(obtain ⟨_,_,rfl⟩:=Kd.S_slice HO263.out)|skip);first|(go_simp;done)|(go_simp;rfl)));(case hp=>exact (Reps.none _ _));intro v265 w5 ho6 hb hg_ hnew_;clear hg_ hnew_;(first|rw [←Ny264.out] at ho6|(simp only [Int.reduceToNat] at ho6;rw [←Ny264.out] at ho6));have n0_:=A_ (Kd.S_lower ho6 (bz_ (bq0_ HB.out)));have n1_:=A_ (bp_ (bq0_ HB.out) hb);clear HB;have HO266:=n0_;have HB:=n1_;clear n0_ n1_;clear hb ho6))
  go_loopg [4,5,6] k (fun kq v4 v5 v6 w'=>∃ (x4_1:List (S24)) (x5_1:ByteArray) (x6_1:Int),v5=.string x5_1∧v6=.int .i64 x6_1∧Aside0 (spec_TokensOf.l0 kq a0 x4_1 x5_1 x6_1=some (r1,r2))∧Aside0 (kq≤k)∧Aside0 (Kd.S k24 24 w' w.heap.size (fun _=>True) v4 x4_1)∧Aside0 (Below w.heap.size w w'))
  case atStart=>exact ⟨(y264),((⟨#[]⟩:ByteArray)),(0),rs_,rs_,H',⟨Nat.le_refl _⟩,⟨by (with_reducible repeat (first|apply Kd.S_alloc|apply Kd.S_drewN|apply Kd.S_drew));exact HO266.out⟩,⟨bq0_ HB.out⟩⟩
  case round =>
   clear H'
   try clear c1
   try clear c2
   try clear c2b0
   try clear c2b1
   try clear p2
   obtain ⟨x4_1,x5_1,x6_1,rfl,rfl,HA,HK1,HO_4,HB⟩:=hrel
   cases gk with
   | zero=>exact absurd HA.out (by simp [spec_TokensOf.l0])
   | succ k1 =>
    have H:=HA.out
    clear HA
    simp only [spec_TokensOf.l0] at H
    by_cases c7:x6_1<(a0.size:Int)
    ·rw [if_pos c7] at H
     have c7b0:decide (x6_1<(a0.size:Int))=true:=dt_ c7
     clear c7
     replace H:=ob_ H
     obtain ⟨⟨t267,t268,t269,t270,t271,t272,t275⟩,A80,H⟩:=H
     replace H:(if (x4_1.length:Int)=4096 then (some ((([]:List (S24))),6)) else (if x4_1.length<1599289640401 then ((some (x4_1++[(⟨t267,t268,t269,t270,t271,t272,t275⟩:S24)]:List (S24))).bind fun y280=>(if t267=2 then ((spec_l01Raw.f k1 t270).bind fun t283=>(if t283=true then (spec_TokensOf.l0 k1 a0 y280 t270 (wrap64 (x6_1+t269))) else (spec_TokensOf.l0 k1 a0 y280 (⟨#[]⟩:ByteArray) (wrap64 (x6_1+t269))))) else (spec_TokensOf.l0 k1 a0 y280 (⟨#[]⟩:ByteArray) (wrap64 (x6_1+t269))))) else (none)))=some (r1,r2):=H
     have A8:=A_ A80
     clear A80
     by_cases c9:(x4_1.length:Int)=4096
     ·rw [if_pos c9] at H
      have c9b0:((x4_1.length:Int) == 4096)=true:=beq_iff_eq.mpr c9
      have c9b1:((x4_1.length:Int) != 4096)=false:=bne_eq_false_iff_eq.mpr c9
      clear c9
      obtain ⟨y277,hy277⟩:∃ y_:List (S24),y_=(([]:List (S24))):=⟨_,rfl⟩
      replace H:(some (y277,6))=some (r1,r2):=by first|(rw [hy277];with_reducible exact H)|(have H2_:=(Option.bind_some _ _).symm.trans H;rw [hy277];with_reducible exact H2_)|(have H2_:=(Option.bind_some _ _).symm.trans H;with_reducible exact H2_)|with_reducible exact H|(rw [hy277];exact H)|exact H
      have Ny277:=A_ hy277
      clear hy277
      simp only [Option.some.injEq,Prod.mk.injEq] at H
      obtain ⟨rfl,rfl⟩:=H
      go_wp2_with (first|((with_reducible refine gate_callee (f:=17) rfl ?_);refine gl_ (some 20) rfl rfl Tryz.func17 (by kernel_rfl) rfl #[.string a0,.int .i64 x6_1,.string x5_1] rfl  ?_;(with_reducible refine (spec_l04Next.calls k1 a0 x6_1 x5_1 t267 t268 t269 t270 t271 t272 t275 _ A8.out).mono ?_);rintro e w10 ⟨v273,rfl,ho0,hb⟩;refine ⟨_,rfl,?_⟩;have n0_:=A_ (Kd.S_elder' (by (with_reducible repeat (first|apply Kd.S_alloc|apply Kd.S_drewN|apply Kd.S_drew));exact HO_4.out) (Kd.R_base ho0) hb);have n1_:=A_ (Kd.R_lower ho0 (bz_ (bq0_ HB.out)));have n2_:=A_ (bp_ (bq0_ HB.out) hb);clear HO_4;clear HB;have HO_4:=n0_;have HO274:=n1_;have HB:=n2_;clear n0_ n1_ n2_;(try clear hb);(try clear hb2);(try clear hk);(try clear hi);(try clear ho0))|((with_reducible refine gate_dst (N:=7) rfl ?_);refine box_event ?hg (N:=7) ?hd (cs:=#[.int .i64 0,.int .i64 0,.int .i64 0,.string (⟨#[]⟩:ByteArray),.string (⟨#[]⟩:ByteArray),.slice none 0 0,.bool false]) (t:=24) ?hr ?_;(case hd=>rfl);(case hg=>rfl);(case hr=>first|(go_simp;done)|(go_simp;rfl)|((first|(obtain ⟨_,_,rfl⟩:=Kd.R_slice HO263.out)|(obtain ⟨_,_,rfl⟩:=Kd.S_slice HO263.out)|skip);(first|(obtain ⟨_,_,rfl⟩:=Kd.R_slice HO266.out)|(obtain ⟨_,_,rfl⟩:=Kd.S_slice HO266.out)|skip);(first|(obtain ⟨_,_,rfl⟩:=Kd.R_slice HO274.out)|(obtain ⟨_,_,rfl⟩:=Kd.S_slice HO274.out)|skip);first|(go_simp;done)|(go_simp;rfl)));intro gb276 hg w11 hbox hb;have n0_:=A_ (Kd.S_below (Kd.S_elderB (by (with_reducible repeat (first|apply Kd.S_alloc|apply Kd.S_drewN|apply Kd.S_drew));exact HO_4.out) gb276 (Nat.le_of_eq hg.symm)) hb);have n1_:=A_ (Kd.R_below (rq_ HO274.out) hb);have n2_:=A_ (bp_ (bq0_ HB.out) hb);have n3_:=A_ (hbox);have n4_:=A_ ((by rw [hg];exact (bz_ (bq0_ HB.out)):w.heap.size≤gb276));have n5_:=A_ ((by rw [hg];exact (bz_ (bq0_ HB.out)):w.heap.size≤gb276));clear HO_4;clear HO274;clear HB;have HO_4:=n0_;have HO274:=n1_;have HB:=n2_;have BK276:=n3_;have GW276:=n4_;have GE276:=n5_;clear n0_ n1_ n2_ n3_ n4_ n5_;clear hb hbox hg;obtain ⟨_,_,_,_,_,_,_,_,_,_,_,_,_,_⟩:=g7_ BK276.out;obtain ⟨Ao13,co13,eo13⟩:=Kd.R_slice HO274.out;subst eo13;obtain ⟨Ao14,co14,eo14⟩:=Kd.S_slice HO_4.out;subst eo14)|((with_reducible refine gate_dst (N:=24) rfl ?_);refine Kd.S_lit k24 _ 24 ?hg (N:=24) ?hd (xs:=([]:List (S24))) (inner:=[]) (ok:=fun _=>True) (okp:=fun _=>True) ?hr ?hp (fun _ hk=>hk) trivial (Below.refl _ _) (Nat.le_refl _) (by simp) ?_;(case hd=>rfl);(case hg=>rfl);(case hr=>first|(go_simp;done)|(go_simp;rfl)|((first|(obtain ⟨_,_,rfl⟩:=Kd.R_slice HO263.out)|(obtain ⟨_,_,rfl⟩:=Kd.S_slice HO263.out)|skip);(first|(obtain ⟨_,_,rfl⟩:=Kd.R_slice HO266.out)|(obtain ⟨_,_,rfl⟩:=Kd.S_slice HO266.out)|skip);(first|(obtain ⟨_,_,rfl⟩:=Kd.R_slice HO274.out)|(obtain ⟨_,_,rfl⟩:=Kd.S_slice HO274.out)|skip);first|(go_simp;done)|(go_simp;rfl)));(case hp=>exact (Reps.none _ _));intro v278 w15 ho16 hb hg_ hnew_;clear hg_ hnew_;(first|rw [←Ny277.out] at ho16|(simp only [Int.reduceToNat] at ho16;rw [←Ny277.out] at ho16));have n0_:=A_ (Kd.S_elder' (by (with_reducible repeat (first|apply Kd.S_alloc|apply Kd.S_drewN|apply Kd.S_drew));exact (Kd.S_mono (Kd.S_far (p:=⟨gb276,6,none⟩) (Kd.S_far (p:=⟨gb276,5,none⟩) (Kd.S_far (p:=⟨gb276,4,none⟩) (Kd.S_far (p:=⟨gb276,3,none⟩) (Kd.S_far (p:=⟨gb276,2,none⟩) (Kd.S_far (p:=⟨gb276,1,none⟩) (Kd.S_far (p:=⟨gb276,0,none⟩) (Kd.S_mono HO_4.out (fun k_ hk=>(⟨hk,hk.2⟩:_∧k_≠gb276))) (fun _ hk=>hk.2) (.int .i64 t267)) (fun _ hk=>hk.2) (.int .i64 t268)) (fun _ hk=>hk.2) (.int .i64 t269)) (fun _ hk=>hk.2) (.string t270)) (fun _ hk=>hk.2) (.string t271)) (fun _ hk=>hk.2) (.slice Ao13 t272.length co13)) (fun _ hk=>hk.2) (.bool t275)) (fun _ h_=>h_.1))) (Kd.S_base ho16) hb);have n1_:=A_ (Kd.R_below (by (with_reducible repeat first|apply ra_|apply rn_|apply rd_);exact (Kd.R_mono (f7_ (g:=gb276) (Kd.R_types HO274.out BK276.out (by decide)) (fun _ hk=>hk.2) (.int .i64 t267) (.int .i64 t268) (.int .i64 t269) (.string t270) (.string t271) (.slice Ao13 t272.length co13) (.bool t275)) (fun _ h_=>h_.1))) hb);have n2_:=A_ (Kd.S_lower (Kd.S_newB (Kd.S_new' (Kd.S_new' ho16 (Kd.S_lt (by (with_reducible repeat (first|apply Kd.S_alloc|apply Kd.S_drewN|apply Kd.S_drew));exact (Kd.S_mono (Kd.S_far (p:=⟨gb276,6,none⟩) (Kd.S_far (p:=⟨gb276,5,none⟩) (Kd.S_far (p:=⟨gb276,4,none⟩) (Kd.S_far (p:=⟨gb276,3,none⟩) (Kd.S_far (p:=⟨gb276,2,none⟩) (Kd.S_far (p:=⟨gb276,1,none⟩) (Kd.S_far (p:=⟨gb276,0,none⟩) (Kd.S_mono HO_4.out (fun k_ hk=>(⟨hk,hk.2⟩:_∧k_≠gb276))) (fun _ hk=>hk.2) (.int .i64 t267)) (fun _ hk=>hk.2) (.int .i64 t268)) (fun _ hk=>hk.2) (.int .i64 t269)) (fun _ hk=>hk.2) (.string t270)) (fun _ hk=>hk.2) (.string t271)) (fun _ hk=>hk.2) (.slice Ao13 t272.length co13)) (fun _ hk=>hk.2) (.bool t275)) (fun _ h_=>h_.1))))) (Kd.R_lt (by (with_reducible repeat first|apply ra_|apply rn_|apply rd_);exact (Kd.R_mono (f7_ (g:=gb276) (Kd.R_types HO274.out BK276.out (by decide)) (fun _ hk=>hk.2) (.int .i64 t267) (.int .i64 t268) (.int .i64 t269) (.string t270) (.string t271) (.slice Ao13 t272.length co13) (.bool t275)) (fun _ h_=>h_.1))))) (g:=gb276) (o:=.cells #[.int .i64 t267,.int .i64 t268,.int .i64 t269,.string t270,.string t271,.slice Ao13 t272.length co13,.bool t275] 24 (0,0)) (by (with_reducible repeat first|apply kn_|apply kd_|apply ka_);exact p7_ (kq_ BK276.out))) (bz_ (bq1_ HB.out GE276.out)));have n3_:=A_ (kb_ (g:=gb276) (o:=.cells #[.int .i64 t267,.int .i64 t268,.int .i64 t269,.string t270,.string t271,.slice Ao13 t272.length co13,.bool t275] 24 (0,0)) (by (with_reducible repeat first|apply kn_|apply kd_|apply ka_);exact p7_ (kq_ BK276.out)) hb);have n4_:=A_ (bp_ (bq1_ HB.out GE276.out) hb);clear HO_4;clear HO274;clear BK276;clear HB;have HO_4:=n0_;have HO274:=n1_;have HO279:=n2_;have BK276:=n3_;have HB:=n4_;clear n0_ n1_ n2_ n3_ n4_;clear hb ho16))
      go_ret2
      exact ⟨_,by first|rfl|(simp [errW_none,errW_some] <;> rfl)|(simp [*,errW_none,errW_some] <;> rfl),by (with_reducible repeat (first|apply Kd.S_alloc|apply Kd.S_drewN|apply Kd.S_drew));exact Kd.S_mono HO279.out (fun _ hk=>trivial),bq1_ HB.out GE276.out⟩
     ·rw [if_neg c9] at H
      have c9b0:((x4_1.length:Int) == 4096)=false:=beq_eq_false_iff_ne.mpr c9
      have c9b1:((x4_1.length:Int) != 4096)=true:=bne_iff_ne.mpr c9
      by_cases c17:x4_1.length<1599289640401
      ·rw [if_pos c17] at H
       have LMc17:=A_ c17
       clear c17
       obtain ⟨y280,hy280⟩:∃ y_:List (S24),y_=(x4_1++[(⟨t267,t268,t269,t270,t271,t272,t275⟩:S24)]):=⟨_,rfl⟩
       replace H:(if t267=2 then ((spec_l01Raw.f k1 t270).bind fun t283=>(if t283=true then (spec_TokensOf.l0 k1 a0 y280 t270 (wrap64 (x6_1+t269))) else (spec_TokensOf.l0 k1 a0 y280 (⟨#[]⟩:ByteArray) (wrap64 (x6_1+t269))))) else (spec_TokensOf.l0 k1 a0 y280 (⟨#[]⟩:ByteArray) (wrap64 (x6_1+t269))))=some (r1,r2):=by first|(rw [hy280];with_reducible exact H)|(have H2_:=(Option.bind_some _ _).symm.trans H;rw [hy280];with_reducible exact H2_)|(have H2_:=(Option.bind_some _ _).symm.trans H;with_reducible exact H2_)|with_reducible exact H|(rw [hy280];exact H)|exact H
       have Ny280:=A_ hy280
       clear hy280
       by_cases c18:t267=2
       ·rw [if_pos c18] at H
        have c18b0:(t267 == 2)=true:=beq_iff_eq.mpr c18
        have c18b1:(t267 != 2)=false:=bne_eq_false_iff_eq.mpr c18
        clear c18
        replace H:=ob_ H
        obtain ⟨t283,A190,H⟩:=H
        replace H:(if t283=true then (spec_TokensOf.l0 k1 a0 y280 t270 (wrap64 (x6_1+t269))) else (spec_TokensOf.l0 k1 a0 y280 (⟨#[]⟩:ByteArray) (wrap64 (x6_1+t269))))=some (r1,r2):=H
        have A19:=A_ A190
        clear A190
        by_cases c20:t283=true
        ·subst c20
         have H1:(spec_TokensOf.l0 k1 a0 y280 t270 (wrap64 (x6_1+t269)))=some (r1,r2):=by rw [if_pos rfl] at H;exact H
         clear H
         have H:=H1
         clear H1
         have H':=A_ H
         clear H
         go_wp2_with (first|((with_reducible refine gate_callee (f:=17) rfl ?_);refine gl_ (some 20) rfl rfl Tryz.func17 (by kernel_rfl) rfl #[.string a0,.int .i64 x6_1,.string x5_1] rfl  ?_;(with_reducible refine (spec_l04Next.calls k1 a0 x6_1 x5_1 t267 t268 t269 t270 t271 t272 t275 _ A8.out).mono ?_);rintro e w21 ⟨v273,rfl,ho0,hb⟩;refine ⟨_,rfl,?_⟩;have n0_:=A_ (Kd.S_elder' (by (with_reducible repeat (first|apply Kd.S_alloc|apply Kd.S_drewN|apply Kd.S_drew));exact HO_4.out) (Kd.R_base ho0) hb);have n1_:=A_ (Kd.R_lower ho0 (bz_ (bq0_ HB.out)));have n2_:=A_ (bp_ (bq0_ HB.out) hb);clear HO_4;clear HB;have HO_4:=n0_;have HO274:=n1_;have HB:=n2_;clear n0_ n1_ n2_;(try clear hb);(try clear hb2);(try clear hk);(try clear hi);(try clear ho0))|((with_reducible refine gate_dst (N:=7) rfl ?_);refine box_event ?hg (N:=7) ?hd (cs:=#[.int .i64 0,.int .i64 0,.int .i64 0,.string (⟨#[]⟩:ByteArray),.string (⟨#[]⟩:ByteArray),.slice none 0 0,.bool false]) (t:=24) ?hr ?_;(case hd=>rfl);(case hg=>rfl);(case hr=>first|(go_simp;done)|(go_simp;rfl)|((first|(obtain ⟨_,_,rfl⟩:=Kd.R_slice HO263.out)|(obtain ⟨_,_,rfl⟩:=Kd.S_slice HO263.out)|skip);(first|(obtain ⟨_,_,rfl⟩:=Kd.R_slice HO266.out)|(obtain ⟨_,_,rfl⟩:=Kd.S_slice HO266.out)|skip);(first|(obtain ⟨_,_,rfl⟩:=Kd.R_slice HO274.out)|(obtain ⟨_,_,rfl⟩:=Kd.S_slice HO274.out)|skip);(first|(obtain ⟨_,_,rfl⟩:=Kd.R_slice HO279.out)|(obtain ⟨_,_,rfl⟩:=Kd.S_slice HO279.out)|skip);first|(go_simp;done)|(go_simp;rfl)));intro gb276 hg w22 hbox hb;have n0_:=A_ (Kd.S_below (Kd.S_elderB (by (with_reducible repeat (first|apply Kd.S_alloc|apply Kd.S_drewN|apply Kd.S_drew));exact HO_4.out) gb276 (Nat.le_of_eq hg.symm)) hb);have n1_:=A_ (Kd.R_below (rq_ HO274.out) hb);have n2_:=A_ (bp_ (bq0_ HB.out) hb);have n3_:=A_ (hbox);have n4_:=A_ ((by rw [hg];exact (bz_ (bq0_ HB.out)):w.heap.size≤gb276));have n5_:=A_ ((by rw [hg];exact (bz_ (bq0_ HB.out)):w.heap.size≤gb276));clear HO_4;clear HO274;clear HB;have HO_4:=n0_;have HO274:=n1_;have HB:=n2_;have BK276:=n3_;have GW276:=n4_;have GE276:=n5_;clear n0_ n1_ n2_ n3_ n4_ n5_;clear hb hbox hg;obtain ⟨_,_,_,_,_,_,_,_,_,_,_,_,_,_⟩:=g7_ BK276.out;obtain ⟨Ao24,co24,eo24⟩:=Kd.R_slice HO274.out;subst eo24)|((with_reducible refine gate_store (t:=24) (p:=7) rfl ?_);refine store_event (t:=24) (p:=7) (v:=?vo_w25) (w1:=(((((((w22.setCell ⟨gb276,0,none⟩ (.int .i64 t267)).setCell ⟨gb276,1,none⟩ (.int .i64 t268)).setCell ⟨gb276,2,none⟩ (.int .i64 t269)).setCell ⟨gb276,3,none⟩ (.string t270)).setCell ⟨gb276,4,none⟩ (.string t271)).setCell ⟨gb276,5,none⟩ (.slice Ao24 t272.length co24)).setCell ⟨gb276,6,none⟩ (.bool t275))) ?hg ?ho ?hn ?hr ?_;(case ho=>rfl);(case hg=>rfl);(case hn=>rfl);(case hr=>first|(go_simp;done)|(go_simp;rfl)|((first|(obtain ⟨_,_,rfl⟩:=Kd.R_slice HO263.out)|(obtain ⟨_,_,rfl⟩:=Kd.S_slice HO263.out)|skip);(first|(obtain ⟨_,_,rfl⟩:=Kd.R_slice HO266.out)|(obtain ⟨_,_,rfl⟩:=Kd.S_slice HO266.out)|skip);(first|(obtain ⟨_,_,rfl⟩:=Kd.R_slice HO274.out)|(obtain ⟨_,_,rfl⟩:=Kd.S_slice HO274.out)|skip);(first|(obtain ⟨_,_,rfl⟩:=Kd.R_slice HO279.out)|(obtain ⟨_,_,rfl⟩:=Kd.S_slice HO279.out)|skip);first|(go_simp;done)|(go_simp;rfl)));intro w25 hw;have n0_:Aside0 (Kd.S k24 24 w25 w.heap.size (fun k_=>some k_≠(.slice Ao24 t272.length co24:Value).ownBlock∧k_≠gb276) u4 x4_1):=⟨(by rw [hw];exact (by (with_reducible repeat (first|apply Kd.S_alloc|apply Kd.S_drewN|apply Kd.S_drew));exact Kd.S_mono (Kd.S_far (p:=⟨gb276,6,none⟩) (Kd.S_far (p:=⟨gb276,5,none⟩) (Kd.S_far (p:=⟨gb276,4,none⟩) (Kd.S_far (p:=⟨gb276,3,none⟩) (Kd.S_far (p:=⟨gb276,2,none⟩) (Kd.S_far (p:=⟨gb276,1,none⟩) (Kd.S_far (p:=⟨gb276,0,none⟩) (Kd.S_mono HO_4.out (fun k_ hk=>(⟨hk,hk.2⟩:_∧k_≠gb276))) (fun _ hk=>hk.2) (.int .i64 t267)) (fun _ hk=>hk.2) (.int .i64 t268)) (fun _ hk=>hk.2) (.int .i64 t269)) (fun _ hk=>hk.2) (.string t270)) (fun _ hk=>hk.2) (.string t271)) (fun _ hk=>hk.2) (.slice Ao24 t272.length co24)) (fun _ hk=>hk.2) (.bool t275)) (fun _ hk=>⟨hk.1.1.2,hk.1.2⟩)))⟩;have n1_:Aside0 (Kd.R k52 52 w25 w.heap.size (fun _=>True) (.slice Ao24 t272.length co24) t272):=⟨(by rw [hw];exact (by (with_reducible repeat first|apply ra_|apply rn_|apply rd_);exact Kd.R_mono (f7_ (g:=gb276) (Kd.R_types HO274.out BK276.out (by decide)) (fun _ hk=>hk.2) (.int .i64 t267) (.int .i64 t268) (.int .i64 t269) (.string t270) (.string t271) (.slice Ao24 t272.length co24) (.bool t275)) (fun _ hk=>trivial)))⟩;have n2_:Aside0 (w25.heap[gb276]? = some (.cells #[.int .i64 t267,.int .i64 t268,.int .i64 t269,.string t270,.string t271,.slice Ao24 t272.length co24,.bool t275] 24 (0,0))):=⟨(by rw [hw];exact (by (with_reducible repeat first|apply kn_|apply kd_|apply ka_);exact p7_ (kq_ BK276.out)))⟩;have n3_:Aside0 (Below w.heap.size w w25):=⟨(by rw [hw];exact (bq1_ HB.out GE276.out))⟩;clear hw;clear HO_4;clear HO274;clear BK276;clear HB;have HO_4:=n0_;have HO274:=n1_;have BK276:=n2_;have HB:=n3_;clear n0_ n1_ n2_ n3_;obtain ⟨Ao26,co26,eo26⟩:=Kd.S_slice HO_4.out;subst eo26;obtain ⟨_,_,_,_,_,_,_,_,_,_,_,_,_,_⟩:=g7_ BK276.out)|((with_reducible refine gate_builtin (b:=.append) (xs:=#[.tmp 25,.tmp 27]) rfl ?_);at_builtin;refine Kd.S_append k24 (w0:=w) w.heap.size rfl (.tmp 25) (.tmp 27) 30 24 (.agg #[(.int .i64 0),(.int .i64 0),(.int .i64 0),(.string ⟨#[]⟩),(.string ⟨#[]⟩),(.slice none 0 0),(.bool false)]) 88 rfl Tryz.underlying30 info24 rfl (by decide) (by omega) (.slice Ao26 x4_1.length co26) x4_1 (⟨t267,t268,t269,t270,t271,t272,t275⟩:S24) [.int .i64 t267,.int .i64 t268,.int .i64 t269,.string t270,.string t271,.slice Ao24 t272.length co24,.bool t275] (fun k_=>k_≠gb276) (fun k_=>some k_=(.slice Ao24 t272.length co24:Value).ownBlock) rfl rfl ?aP (fun k_ hk_=>((Kd.R_mono (ok':=fun k_=>((fun k_=>k_≠gb276)) k_∧some k_≠(.slice Ao26 x4_1.length co26:Value).ownBlock) (Kd.R_types (Kd.R_apart' (HO274.out) (Kd.S_typed HO_4.out) (by decide)) BK276.out (by decide)) (fun k_ hk=>⟨hk.2,hk.1.2⟩))).1 k_ hk_.symm) ?aF ?aO ?aB ?aS ?aL ?_;(case aP=>exact k24_mkM _ _ _ (⟨t267,t268,t269,t270,t271,t272,t275⟩:S24) (Kd.R_mono (Kd.R_tight rfl (Kd.R_mono (ok':=fun k_=>((fun k_=>k_≠gb276)) k_∧some k_≠(.slice Ao26 x4_1.length co26:Value).ownBlock) (Kd.R_types (Kd.R_apart' (HO274.out) (Kd.S_typed HO_4.out) (by decide)) BK276.out (by decide)) (fun k_ hk=>⟨hk.2,hk.1.2⟩))) (fun _ h_=>h_)));(case aB=>exact (bq1_ HB.out GE276.out));(case aF=>exact (fun k_ hk=>Kd.freshB (g:=gb276) (o:=.cells #[.int .i64 t267,.int .i64 t268,.int .i64 t269,.string t270,.string t271,.slice Ao24 t272.length co24,.bool t275] 24 (0,0)) (kq_ BK276.out) k_ hk));(case aO=>exact (by (with_reducible repeat (first|apply Kd.S_alloc|apply Kd.S_drewN|apply Kd.S_drew));exact Kd.S_mono HO_4.out (fun k_ hk=>⟨hk.2,fun e_=>hk.1 e_⟩)));(case aS=>exact (bz_ (bq1_ HB.out GE276.out)));(case aL=>have:=LMc17.out;omega);intro v281 w28 ho hb hg hat;rw [←Ny280.out] at ho;have n0_:=A_ (blk_grown (g:=gb276) (o:=.cells #[.int .i64 t267,.int .i64 t268,.int .i64 t269,.string t270,.string t271,.slice Ao24 t272.length co24,.bool t275] 24 (0,0)) (kq_ BK276.out) hg (Kd.S_away HO_4.out (fun _ hk=>hk.2)));have n1_:=A_ (hb);have n2_:=A_ (ho);clear BK276;clear HB;clear HO_4;clear HO274;have BK276:=n0_;have HB:=n1_;have HO282:=n2_;clear n0_ n1_ n2_;clear ho hb hg hat;obtain ⟨_,_,_,_,_,_,_,_,_,_,_,_,_,_⟩:=g7_ BK276.out)|(go_at_call 25;(with_reducible refine (spec_l01Raw.calls k1 t270 true _ A19.out).mono ?_);rintro e w30 ⟨rfl,hb⟩;have n0_:=A_ (Kd.S_below (by (with_reducible repeat (first|apply Kd.S_alloc|apply Kd.S_drewN|apply Kd.S_drew));exact HO282.out) hb);have n1_:=A_ (kb_ (kq_ BK276.out) hb);have n2_:=A_ (bp_ (bq1_ HB.out GE276.out) hb);clear HO282;clear BK276;clear HB;have HO282:=n0_;have BK276:=n1_;have HB:=n2_;clear n0_ n1_ n2_;(try clear hb);(try clear hb2);(try clear hk);(try clear hi);obtain ⟨_,_,_,_,_,_,_,_,_,_,_,_,_,_⟩:=g7_ BK276.out))
         go_roundg k1
         case measure=>have:=HK1.out;omega
         case rel=>exact ⟨(y280),(t270),(wrap64 (x6_1+t269)),rs_,rs_,H',⟨by have:=HK1.out;omega⟩,⟨by (with_reducible repeat (first|apply Kd.S_alloc|apply Kd.S_drewN|apply Kd.S_drew));exact Kd.S_mono HO282.out (fun _ hk=>trivial)⟩,⟨bq1_ HB.out GE276.out⟩⟩
        ·replace c20:=bm_ c20
         subst c20
         have H1:(spec_TokensOf.l0 k1 a0 y280 (⟨#[]⟩:ByteArray) (wrap64 (x6_1+t269)))=some (r1,r2):=by rw [if_neg (show ¬ (false=true) by decide)] at H;exact H
         clear H
         have H:=H1
         clear H1
         have H':=A_ H
         clear H
         go_wp2_with (first|((with_reducible refine gate_callee (f:=17) rfl ?_);refine gl_ (some 20) rfl rfl Tryz.func17 (by kernel_rfl) rfl #[.string a0,.int .i64 x6_1,.string x5_1] rfl  ?_;(with_reducible refine (spec_l04Next.calls k1 a0 x6_1 x5_1 t267 t268 t269 t270 t271 t272 t275 _ A8.out).mono ?_);rintro e w32 ⟨v273,rfl,ho0,hb⟩;refine ⟨_,rfl,?_⟩;have n0_:=A_ (Kd.S_elder' (by (with_reducible repeat (first|apply Kd.S_alloc|apply Kd.S_drewN|apply Kd.S_drew));exact HO_4.out) (Kd.R_base ho0) hb);have n1_:=A_ (Kd.R_lower ho0 (bz_ (bq0_ HB.out)));have n2_:=A_ (bp_ (bq0_ HB.out) hb);clear HO_4;clear HB;have HO_4:=n0_;have HO274:=n1_;have HB:=n2_;clear n0_ n1_ n2_;(try clear hb);(try clear hb2);(try clear hk);(try clear hi);(try clear ho0))|((with_reducible refine gate_dst (N:=7) rfl ?_);refine box_event ?hg (N:=7) ?hd (cs:=#[.int .i64 0,.int .i64 0,.int .i64 0,.string (⟨#[]⟩:ByteArray),.string (⟨#[]⟩:ByteArray),.slice none 0 0,.bool false]) (t:=24) ?hr ?_;(case hd=>rfl);(case hg=>rfl);(case hr=>first|(go_simp;done)|(go_simp;rfl)|((first|(obtain ⟨_,_,rfl⟩:=Kd.R_slice HO263.out)|(obtain ⟨_,_,rfl⟩:=Kd.S_slice HO263.out)|skip);(first|(obtain ⟨_,_,rfl⟩:=Kd.R_slice HO266.out)|(obtain ⟨_,_,rfl⟩:=Kd.S_slice HO266.out)|skip);(first|(obtain ⟨_,_,rfl⟩:=Kd.R_slice HO274.out)|(obtain ⟨_,_,rfl⟩:=Kd.S_slice HO274.out)|skip);(first|(obtain ⟨_,_,rfl⟩:=Kd.R_slice HO279.out)|(obtain ⟨_,_,rfl⟩:=Kd.S_slice HO279.out)|skip);(first|(obtain ⟨_,_,rfl⟩:=Kd.R_slice HO282.out)|(obtain ⟨_,_,rfl⟩:=Kd.S_slice HO282.out)|skip);first|(go_simp;done)|(go_simp;rfl)));intro gb276 hg w33 hbox hb;have n0_:=A_ (Kd.S_below (Kd.S_elderB (by (with_reducible repeat (first|apply Kd.S_alloc|apply Kd.S_drewN|apply Kd.S_drew));exact HO_4.out) gb276 (Nat.le_of_eq hg.symm)) hb);have n1_:=A_ (Kd.R_below (rq_ HO274.out) hb);have n2_:=A_ (bp_ (bq0_ HB.out) hb);have n3_:=A_ (hbox);have n4_:=A_ ((by rw [hg];exact (bz_ (bq0_ HB.out)):w.heap.size≤gb276));have n5_:=A_ ((by rw [hg];exact (bz_ (bq0_ HB.out)):w.heap.size≤gb276));clear HO_4;clear HO274;clear HB;have HO_4:=n0_;have HO274:=n1_;have HB:=n2_;have BK276:=n3_;have GW276:=n4_;have GE276:=n5_;clear n0_ n1_ n2_ n3_ n4_ n5_;clear hb hbox hg;obtain ⟨_,_,_,_,_,_,_,_,_,_,_,_,_,_⟩:=g7_ BK276.out;obtain ⟨Ao35,co35,eo35⟩:=Kd.R_slice HO274.out;subst eo35)|((with_reducible refine gate_store (t:=24) (p:=7) rfl ?_);refine store_event (t:=24) (p:=7) (v:=?vo_w36) (w1:=(((((((w33.setCell ⟨gb276,0,none⟩ (.int .i64 t267)).setCell ⟨gb276,1,none⟩ (.int .i64 t268)).setCell ⟨gb276,2,none⟩ (.int .i64 t269)).setCell ⟨gb276,3,none⟩ (.string t270)).setCell ⟨gb276,4,none⟩ (.string t271)).setCell ⟨gb276,5,none⟩ (.slice Ao35 t272.length co35)).setCell ⟨gb276,6,none⟩ (.bool t275))) ?hg ?ho ?hn ?hr ?_;(case ho=>rfl);(case hg=>rfl);(case hn=>rfl);(case hr=>first|(go_simp;done)|(go_simp;rfl)|((first|(obtain ⟨_,_,rfl⟩:=Kd.R_slice HO263.out)|(obtain ⟨_,_,rfl⟩:=Kd.S_slice HO263.out)|skip);(first|(obtain ⟨_,_,rfl⟩:=Kd.R_slice HO266.out)|(obtain ⟨_,_,rfl⟩:=Kd.S_slice HO266.out)|skip);(first|(obtain ⟨_,_,rfl⟩:=Kd.R_slice HO274.out)|(obtain ⟨_,_,rfl⟩:=Kd.S_slice HO274.out)|skip);(first|(obtain ⟨_,_,rfl⟩:=Kd.R_slice HO279.out)|(obtain ⟨_,_,rfl⟩:=Kd.S_slice HO279.out)|skip);(first|(obtain ⟨_,_,rfl⟩:=Kd.R_slice HO282.out)|(obtain ⟨_,_,rfl⟩:=Kd.S_slice HO282.out)|skip);first|(go_simp;done)|(go_simp;rfl)));intro w36 hw;have n0_:Aside0 (Kd.S k24 24 w36 w.heap.size (fun k_=>some k_≠(.slice Ao35 t272.length co35:Value).ownBlock∧k_≠gb276) u4 x4_1):=⟨(by rw [hw];exact (by (with_reducible repeat (first|apply Kd.S_alloc|apply Kd.S_drewN|apply Kd.S_drew));exact Kd.S_mono (Kd.S_far (p:=⟨gb276,6,none⟩) (Kd.S_far (p:=⟨gb276,5,none⟩) (Kd.S_far (p:=⟨gb276,4,none⟩) (Kd.S_far (p:=⟨gb276,3,none⟩) (Kd.S_far (p:=⟨gb276,2,none⟩) (Kd.S_far (p:=⟨gb276,1,none⟩) (Kd.S_far (p:=⟨gb276,0,none⟩) (Kd.S_mono HO_4.out (fun k_ hk=>(⟨hk,hk.2⟩:_∧k_≠gb276))) (fun _ hk=>hk.2) (.int .i64 t267)) (fun _ hk=>hk.2) (.int .i64 t268)) (fun _ hk=>hk.2) (.int .i64 t269)) (fun _ hk=>hk.2) (.string t270)) (fun _ hk=>hk.2) (.string t271)) (fun _ hk=>hk.2) (.slice Ao35 t272.length co35)) (fun _ hk=>hk.2) (.bool t275)) (fun _ hk=>⟨hk.1.1.2,hk.1.2⟩)))⟩;have n1_:Aside0 (Kd.R k52 52 w36 w.heap.size (fun _=>True) (.slice Ao35 t272.length co35) t272):=⟨(by rw [hw];exact (by (with_reducible repeat first|apply ra_|apply rn_|apply rd_);exact Kd.R_mono (f7_ (g:=gb276) (Kd.R_types HO274.out BK276.out (by decide)) (fun _ hk=>hk.2) (.int .i64 t267) (.int .i64 t268) (.int .i64 t269) (.string t270) (.string t271) (.slice Ao35 t272.length co35) (.bool t275)) (fun _ hk=>trivial)))⟩;have n2_:Aside0 (w36.heap[gb276]? = some (.cells #[.int .i64 t267,.int .i64 t268,.int .i64 t269,.string t270,.string t271,.slice Ao35 t272.length co35,.bool t275] 24 (0,0))):=⟨(by rw [hw];exact (by (with_reducible repeat first|apply kn_|apply kd_|apply ka_);exact p7_ (kq_ BK276.out)))⟩;have n3_:Aside0 (Below w.heap.size w w36):=⟨(by rw [hw];exact (bq1_ HB.out GE276.out))⟩;clear hw;clear HO_4;clear HO274;clear BK276;clear HB;have HO_4:=n0_;have HO274:=n1_;have BK276:=n2_;have HB:=n3_;clear n0_ n1_ n2_ n3_;obtain ⟨Ao37,co37,eo37⟩:=Kd.S_slice HO_4.out;subst eo37;obtain ⟨_,_,_,_,_,_,_,_,_,_,_,_,_,_⟩:=g7_ BK276.out)|((with_reducible refine gate_builtin (b:=.append) (xs:=#[.tmp 25,.tmp 27]) rfl ?_);at_builtin;refine Kd.S_append k24 (w0:=w) w.heap.size rfl (.tmp 25) (.tmp 27) 30 24 (.agg #[(.int .i64 0),(.int .i64 0),(.int .i64 0),(.string ⟨#[]⟩),(.string ⟨#[]⟩),(.slice none 0 0),(.bool false)]) 88 rfl Tryz.underlying30 info24 rfl (by decide) (by omega) (.slice Ao37 x4_1.length co37) x4_1 (⟨t267,t268,t269,t270,t271,t272,t275⟩:S24) [.int .i64 t267,.int .i64 t268,.int .i64 t269,.string t270,.string t271,.slice Ao35 t272.length co35,.bool t275] (fun k_=>k_≠gb276) (fun k_=>some k_=(.slice Ao35 t272.length co35:Value).ownBlock) rfl rfl ?aP (fun k_ hk_=>((Kd.R_mono (ok':=fun k_=>((fun k_=>k_≠gb276)) k_∧some k_≠(.slice Ao37 x4_1.length co37:Value).ownBlock) (Kd.R_types (Kd.R_apart' (HO274.out) (Kd.S_typed HO_4.out) (by decide)) BK276.out (by decide)) (fun k_ hk=>⟨hk.2,hk.1.2⟩))).1 k_ hk_.symm) ?aF ?aO ?aB ?aS ?aL ?_;(case aP=>exact k24_mkM _ _ _ (⟨t267,t268,t269,t270,t271,t272,t275⟩:S24) (Kd.R_mono (Kd.R_tight rfl (Kd.R_mono (ok':=fun k_=>((fun k_=>k_≠gb276)) k_∧some k_≠(.slice Ao37 x4_1.length co37:Value).ownBlock) (Kd.R_types (Kd.R_apart' (HO274.out) (Kd.S_typed HO_4.out) (by decide)) BK276.out (by decide)) (fun k_ hk=>⟨hk.2,hk.1.2⟩))) (fun _ h_=>h_)));(case aB=>exact (bq1_ HB.out GE276.out));(case aF=>exact (fun k_ hk=>Kd.freshB (g:=gb276) (o:=.cells #[.int .i64 t267,.int .i64 t268,.int .i64 t269,.string t270,.string t271,.slice Ao35 t272.length co35,.bool t275] 24 (0,0)) (kq_ BK276.out) k_ hk));(case aO=>exact (by (with_reducible repeat (first|apply Kd.S_alloc|apply Kd.S_drewN|apply Kd.S_drew));exact Kd.S_mono HO_4.out (fun k_ hk=>⟨hk.2,fun e_=>hk.1 e_⟩)));(case aS=>exact (bz_ (bq1_ HB.out GE276.out)));(case aL=>have:=LMc17.out;omega);intro v281 w39 ho hb hg hat;rw [←Ny280.out] at ho;have n0_:=A_ (blk_grown (g:=gb276) (o:=.cells #[.int .i64 t267,.int .i64 t268,.int .i64 t269,.string t270,.string t271,.slice Ao35 t272.length co35,.bool t275] 24 (0,0)) (kq_ BK276.out) hg (Kd.S_away HO_4.out (fun _ hk=>hk.2)));have n1_:=A_ (hb);have n2_:=A_ (ho);clear BK276;clear HB;clear HO_4;clear HO274;have BK276:=n0_;have HB:=n1_;have HO282:=n2_;clear n0_ n1_ n2_;clear ho hb hg hat;obtain ⟨_,_,_,_,_,_,_,_,_,_,_,_,_,_⟩:=g7_ BK276.out)|(go_at_call 25;(with_reducible refine (spec_l01Raw.calls k1 t270 false _ A19.out).mono ?_);rintro e w41 ⟨rfl,hb⟩;have n0_:=A_ (Kd.S_below (by (with_reducible repeat (first|apply Kd.S_alloc|apply Kd.S_drewN|apply Kd.S_drew));exact HO282.out) hb);have n1_:=A_ (kb_ (kq_ BK276.out) hb);have n2_:=A_ (bp_ (bq1_ HB.out GE276.out) hb);clear HO282;clear BK276;clear HB;have HO282:=n0_;have BK276:=n1_;have HB:=n2_;clear n0_ n1_ n2_;(try clear hb);(try clear hb2);(try clear hk);(try clear hi)))
         go_roundg k1
         case measure=>have:=HK1.out;omega
         case rel=>exact ⟨(y280),((⟨#[]⟩:ByteArray)),(wrap64 (x6_1+t269)),rs_,rs_,H',⟨by have:=HK1.out;omega⟩,⟨by (with_reducible repeat (first|apply Kd.S_alloc|apply Kd.S_drewN|apply Kd.S_drew));exact Kd.S_mono HO282.out (fun _ hk=>trivial)⟩,⟨bq1_ HB.out GE276.out⟩⟩
       ·rw [if_neg c18] at H
        have c18b0:(t267 == 2)=false:=beq_eq_false_iff_ne.mpr c18
        have c18b1:(t267 != 2)=true:=bne_iff_ne.mpr c18
        have H':=A_ H
        clear H
        go_wp2_with (first|((with_reducible refine gate_callee (f:=17) rfl ?_);refine gl_ (some 20) rfl rfl Tryz.func17 (by kernel_rfl) rfl #[.string a0,.int .i64 x6_1,.string x5_1] rfl  ?_;(with_reducible refine (spec_l04Next.calls k1 a0 x6_1 x5_1 t267 t268 t269 t270 t271 t272 t275 _ A8.out).mono ?_);rintro e w42 ⟨v273,rfl,ho0,hb⟩;refine ⟨_,rfl,?_⟩;have n0_:=A_ (Kd.S_elder' (by (with_reducible repeat (first|apply Kd.S_alloc|apply Kd.S_drewN|apply Kd.S_drew));exact HO_4.out) (Kd.R_base ho0) hb);have n1_:=A_ (Kd.R_lower ho0 (bz_ (bq0_ HB.out)));have n2_:=A_ (bp_ (bq0_ HB.out) hb);clear HO_4;clear HB;have HO_4:=n0_;have HO274:=n1_;have HB:=n2_;clear n0_ n1_ n2_;(try clear hb);(try clear hb2);(try clear hk);(try clear hi);(try clear ho0))|((with_reducible refine gate_dst (N:=7) rfl ?_);refine box_event ?hg (N:=7) ?hd (cs:=#[.int .i64 0,.int .i64 0,.int .i64 0,.string (⟨#[]⟩:ByteArray),.string (⟨#[]⟩:ByteArray),.slice none 0 0,.bool false]) (t:=24) ?hr ?_;(case hd=>rfl);(case hg=>rfl);(case hr=>first|(go_simp;done)|(go_simp;rfl)|((first|(obtain ⟨_,_,rfl⟩:=Kd.R_slice HO263.out)|(obtain ⟨_,_,rfl⟩:=Kd.S_slice HO263.out)|skip);(first|(obtain ⟨_,_,rfl⟩:=Kd.R_slice HO266.out)|(obtain ⟨_,_,rfl⟩:=Kd.S_slice HO266.out)|skip);(first|(obtain ⟨_,_,rfl⟩:=Kd.R_slice HO274.out)|(obtain ⟨_,_,rfl⟩:=Kd.S_slice HO274.out)|skip);(first|(obtain ⟨_,_,rfl⟩:=Kd.R_slice HO279.out)|(obtain ⟨_,_,rfl⟩:=Kd.S_slice HO279.out)|skip);(first|(obtain ⟨_,_,rfl⟩:=Kd.R_slice HO282.out)|(obtain ⟨_,_,rfl⟩:=Kd.S_slice HO282.out)|skip);first|(go_simp;done)|(go_simp;rfl)));intro gb276 hg w43 hbox hb;have n0_:=A_ (Kd.S_below (Kd.S_elderB (by (with_reducible repeat (first|apply Kd.S_alloc|apply Kd.S_drewN|apply Kd.S_drew));exact HO_4.out) gb276 (Nat.le_of_eq hg.symm)) hb);have n1_:=A_ (Kd.R_below (rq_ HO274.out) hb);have n2_:=A_ (bp_ (bq0_ HB.out) hb);have n3_:=A_ (hbox);have n4_:=A_ ((by rw [hg];exact (bz_ (bq0_ HB.out)):w.heap.size≤gb276));have n5_:=A_ ((by rw [hg];exact (bz_ (bq0_ HB.out)):w.heap.size≤gb276));clear HO_4;clear HO274;clear HB;have HO_4:=n0_;have HO274:=n1_;have HB:=n2_;have BK276:=n3_;have GW276:=n4_;have GE276:=n5_;clear n0_ n1_ n2_ n3_ n4_ n5_;clear hb hbox hg;obtain ⟨_,_,_,_,_,_,_,_,_,_,_,_,_,_⟩:=g7_ BK276.out;obtain ⟨Ao45,co45,eo45⟩:=Kd.R_slice HO274.out;subst eo45)|((with_reducible refine gate_store (t:=24) (p:=7) rfl ?_);refine store_event (t:=24) (p:=7) (v:=?vo_w46) (w1:=(((((((w43.setCell ⟨gb276,0,none⟩ (.int .i64 t267)).setCell ⟨gb276,1,none⟩ (.int .i64 t268)).setCell ⟨gb276,2,none⟩ (.int .i64 t269)).setCell ⟨gb276,3,none⟩ (.string t270)).setCell ⟨gb276,4,none⟩ (.string t271)).setCell ⟨gb276,5,none⟩ (.slice Ao45 t272.length co45)).setCell ⟨gb276,6,none⟩ (.bool t275))) ?hg ?ho ?hn ?hr ?_;(case ho=>rfl);(case hg=>rfl);(case hn=>rfl);(case hr=>first|(go_simp;done)|(go_simp;rfl)|((first|(obtain ⟨_,_,rfl⟩:=Kd.R_slice HO263.out)|(obtain ⟨_,_,rfl⟩:=Kd.S_slice HO263.out)|skip);(first|(obtain ⟨_,_,rfl⟩:=Kd.R_slice HO266.out)|(obtain ⟨_,_,rfl⟩:=Kd.S_slice HO266.out)|skip);(first|(obtain ⟨_,_,rfl⟩:=Kd.R_slice HO274.out)|(obtain ⟨_,_,rfl⟩:=Kd.S_slice HO274.out)|skip);(first|(obtain ⟨_,_,rfl⟩:=Kd.R_slice HO279.out)|(obtain ⟨_,_,rfl⟩:=Kd.S_slice HO279.out)|skip);(first|(obtain ⟨_,_,rfl⟩:=Kd.R_slice HO282.out)|(obtain ⟨_,_,rfl⟩:=Kd.S_slice HO282.out)|skip);first|(go_simp;done)|(go_simp;rfl)));intro w46 hw;have n0_:Aside0 (Kd.S k24 24 w46 w.heap.size (fun k_=>some k_≠(.slice Ao45 t272.length co45:Value).ownBlock∧k_≠gb276) u4 x4_1):=⟨(by rw [hw];exact (by (with_reducible repeat (first|apply Kd.S_alloc|apply Kd.S_drewN|apply Kd.S_drew));exact Kd.S_mono (Kd.S_far (p:=⟨gb276,6,none⟩) (Kd.S_far (p:=⟨gb276,5,none⟩) (Kd.S_far (p:=⟨gb276,4,none⟩) (Kd.S_far (p:=⟨gb276,3,none⟩) (Kd.S_far (p:=⟨gb276,2,none⟩) (Kd.S_far (p:=⟨gb276,1,none⟩) (Kd.S_far (p:=⟨gb276,0,none⟩) (Kd.S_mono HO_4.out (fun k_ hk=>(⟨hk,hk.2⟩:_∧k_≠gb276))) (fun _ hk=>hk.2) (.int .i64 t267)) (fun _ hk=>hk.2) (.int .i64 t268)) (fun _ hk=>hk.2) (.int .i64 t269)) (fun _ hk=>hk.2) (.string t270)) (fun _ hk=>hk.2) (.string t271)) (fun _ hk=>hk.2) (.slice Ao45 t272.length co45)) (fun _ hk=>hk.2) (.bool t275)) (fun _ hk=>⟨hk.1.1.2,hk.1.2⟩)))⟩;have n1_:Aside0 (Kd.R k52 52 w46 w.heap.size (fun _=>True) (.slice Ao45 t272.length co45) t272):=⟨(by rw [hw];exact (by (with_reducible repeat first|apply ra_|apply rn_|apply rd_);exact Kd.R_mono (f7_ (g:=gb276) (Kd.R_types HO274.out BK276.out (by decide)) (fun _ hk=>hk.2) (.int .i64 t267) (.int .i64 t268) (.int .i64 t269) (.string t270) (.string t271) (.slice Ao45 t272.length co45) (.bool t275)) (fun _ hk=>trivial)))⟩;have n2_:Aside0 (w46.heap[gb276]? = some (.cells #[.int .i64 t267,.int .i64 t268,.int .i64 t269,.string t270,.string t271,.slice Ao45 t272.length co45,.bool t275] 24 (0,0))):=⟨(by rw [hw];exact (by (with_reducible repeat first|apply kn_|apply kd_|apply ka_);exact p7_ (kq_ BK276.out)))⟩;have n3_:Aside0 (Below w.heap.size w w46):=⟨(by rw [hw];exact (bq1_ HB.out GE276.out))⟩;clear hw;clear HO_4;clear HO274;clear BK276;clear HB;have HO_4:=n0_;have HO274:=n1_;have BK276:=n2_;have HB:=n3_;clear n0_ n1_ n2_ n3_;obtain ⟨Ao47,co47,eo47⟩:=Kd.S_slice HO_4.out;subst eo47;obtain ⟨_,_,_,_,_,_,_,_,_,_,_,_,_,_⟩:=g7_ BK276.out)|((with_reducible refine gate_builtin (b:=.append) (xs:=#[.tmp 25,.tmp 27]) rfl ?_);at_builtin;refine Kd.S_append k24 (w0:=w) w.heap.size rfl (.tmp 25) (.tmp 27) 30 24 (.agg #[(.int .i64 0),(.int .i64 0),(.int .i64 0),(.string ⟨#[]⟩),(.string ⟨#[]⟩),(.slice none 0 0),(.bool false)]) 88 rfl Tryz.underlying30 info24 rfl (by decide) (by omega) (.slice Ao47 x4_1.length co47) x4_1 (⟨t267,t268,t269,t270,t271,t272,t275⟩:S24) [.int .i64 t267,.int .i64 t268,.int .i64 t269,.string t270,.string t271,.slice Ao45 t272.length co45,.bool t275] (fun k_=>k_≠gb276) (fun k_=>some k_=(.slice Ao45 t272.length co45:Value).ownBlock) rfl rfl ?aP (fun k_ hk_=>((Kd.R_mono (ok':=fun k_=>((fun k_=>k_≠gb276)) k_∧some k_≠(.slice Ao47 x4_1.length co47:Value).ownBlock) (Kd.R_types (Kd.R_apart' (HO274.out) (Kd.S_typed HO_4.out) (by decide)) BK276.out (by decide)) (fun k_ hk=>⟨hk.2,hk.1.2⟩))).1 k_ hk_.symm) ?aF ?aO ?aB ?aS ?aL ?_;(case aP=>exact k24_mkM _ _ _ (⟨t267,t268,t269,t270,t271,t272,t275⟩:S24) (Kd.R_mono (Kd.R_tight rfl (Kd.R_mono (ok':=fun k_=>((fun k_=>k_≠gb276)) k_∧some k_≠(.slice Ao47 x4_1.length co47:Value).ownBlock) (Kd.R_types (Kd.R_apart' (HO274.out) (Kd.S_typed HO_4.out) (by decide)) BK276.out (by decide)) (fun k_ hk=>⟨hk.2,hk.1.2⟩))) (fun _ h_=>h_)));(case aB=>exact (bq1_ HB.out GE276.out));(case aF=>exact (fun k_ hk=>Kd.freshB (g:=gb276) (o:=.cells #[.int .i64 t267,.int .i64 t268,.int .i64 t269,.string t270,.string t271,.slice Ao45 t272.length co45,.bool t275] 24 (0,0)) (kq_ BK276.out) k_ hk));(case aO=>exact (by (with_reducible repeat (first|apply Kd.S_alloc|apply Kd.S_drewN|apply Kd.S_drew));exact Kd.S_mono HO_4.out (fun k_ hk=>⟨hk.2,fun e_=>hk.1 e_⟩)));(case aS=>exact (bz_ (bq1_ HB.out GE276.out)));(case aL=>have:=LMc17.out;omega);intro v281 w49 ho hb hg hat;rw [←Ny280.out] at ho;have n0_:=A_ (blk_grown (g:=gb276) (o:=.cells #[.int .i64 t267,.int .i64 t268,.int .i64 t269,.string t270,.string t271,.slice Ao45 t272.length co45,.bool t275] 24 (0,0)) (kq_ BK276.out) hg (Kd.S_away HO_4.out (fun _ hk=>hk.2)));have n1_:=A_ (hb);have n2_:=A_ (ho);clear BK276;clear HB;clear HO_4;clear HO274;have BK276:=n0_;have HB:=n1_;have HO282:=n2_;clear n0_ n1_ n2_;clear ho hb hg hat;obtain ⟨_,_,_,_,_,_,_,_,_,_,_,_,_,_⟩:=g7_ BK276.out))
        go_roundg k1
        case measure=>have:=HK1.out;omega
        case rel=>exact ⟨(y280),((⟨#[]⟩:ByteArray)),(wrap64 (x6_1+t269)),rs_,rs_,H',⟨by have:=HK1.out;omega⟩,⟨by (with_reducible repeat (first|apply Kd.S_alloc|apply Kd.S_drewN|apply Kd.S_drew));exact Kd.S_mono HO282.out (fun _ hk=>trivial)⟩,⟨bq1_ HB.out GE276.out⟩⟩
      ·rw [if_neg c17] at H
       exact absurd H (by simp)
    ·rw [if_neg c7] at H
     have c7b0:decide (x6_1<(a0.size:Int))=false:=df_ c7
     clear c7
     simp only [Option.some.injEq,Prod.mk.injEq] at H
     obtain ⟨rfl,rfl⟩:=H
     go_wp2
     go_ret2
     exact ⟨_,by first|rfl|(simp [errW_none,errW_some] <;> rfl)|(simp [*,errW_none,errW_some] <;> rfl),by (with_reducible repeat (first|apply Kd.S_alloc|apply Kd.S_drewN|apply Kd.S_drew));exact HO_4.out,bq0_ HB.out⟩
set_option maxHeartbeats 1000000 in
/-- slices.IndexFunc at this type, whatever the predicate: the first place at which it holds. -/
theorem IndexFunc_string.holds (A:Option Addr) (n c:Nat) (v:Nat→Value) (p:Nat→Bool) (g:Nat) (lb:Array Value) (eg:∀ args w,(callFunc g args).run Tryz.prog w=.ok (.enter g args) w) (w:World)
 (hp:∀ j,j<n→∀ W,Below w.heap.size w W→Calls Tryz.prog g (#[v j]++lb) W fun e w'=>e=.returned (.bool (p j))∧Below w.heap.size w w')
 (hbig:n≤9223372036854775807) (hc:∀ j,j<n→∃ ad,A=some ad∧w.cell? (ad.add j)=some (v j)) :
 Calls Tryz.prog 57 #[.slice A n c,.func (.func g) #[] lb] w fun e w'=>e=.returned (.int .i64 (Mach.idxP p n))∧Below w.heap.size w w':=by
 have HC:=A_ hc
 have HP:=A_ hp
 clear hc hp
 go_enter Tryz.func57,Tryz.ntmps57
 go_wp2
 go_loopg [5,8] n (fun gg _ s8 wr=>∃ kk:Nat,kk≤n∧n - kk≤gg∧s8=.int .i64 kk∧Aside0 (Below w.heap.size w wr)∧Aside0 (∀ j,j<kk→p j=false))
 case atStart=>exact ⟨0,Nat.zero_le _,by omega,rfl,⟨Below.refl _ w⟩,⟨fun j hj=>absurd hj (Nat.not_lt_zero _)⟩⟩
 case round =>
  obtain ⟨kk,hkk,hg,rfl,BW,AA⟩:=hrel
  by_cases hlt:kk<n
  ·have hltz:(kk:Int)<(n:Int):=by omega
   obtain ⟨ad,e,l1⟩:=HC.out kk hlt
   cases e
   have l2:wr.cell? (ad.add kk)=some (v kk):=pw_cell_below BW.out l1
   clear l1
   have hcall:=HP.out kk hlt wr BW.out
   cases hq:p kk with
   | true =>
    rw [hq] at hcall
    go_wp2_with ((with_reducible refine hcall.mono ?_);rintro e w' ⟨rfl,hb'⟩)
    go_ret
    refine ⟨?_,hb'⟩
    rw [Mach.idxP_hit p n kk hlt hq AA.out]
    rfl
   | false =>
    rw [hq] at hcall
    go_wp2_with ((with_reducible refine hcall.mono ?_);rintro e w' ⟨rfl,hb'⟩)
    go_roundg (n - (kk+1))
    case measure=>omega
    case rel =>
     refine ⟨kk+1,by omega,by omega,by go_num,⟨hb'⟩,⟨fun j hj=>?_⟩⟩
     by_cases e:j=kk
     ·subst e;exact hq
     ·exact AA.out j (by omega)
  ·have hltz:¬ (kk:Int)<(n:Int):=by omega
   have:kk=n:=by omega
   subst this
   go_wp2
   go_ret
   refine ⟨?_,BW.out⟩
   rw [Mach.idxP_miss p kk AA.out]
   rfl
/-- slices.ContainsFunc at this type, whatever the predicate. -/
theorem ContainsFunc_string.holds (A:Option Addr) (n c:Nat) (v:Nat→Value) (p:Nat→Bool) (g:Nat) (lb:Array Value) (eg:∀ args w,(callFunc g args).run Tryz.prog w=.ok (.enter g args) w) (w:World)
 (hp:∀ j,j<n→∀ W,Below w.heap.size w W→Calls Tryz.prog g (#[v j]++lb) W fun e w'=>e=.returned (.bool (p j))∧Below w.heap.size w w')
 (hbig:n≤9223372036854775807) (hc:∀ j,j<n→∃ ad,A=some ad∧w.cell? (ad.add j)=some (v j)) :
 Calls Tryz.prog 35 #[.slice A n c,.func (.func g) #[] lb] w fun e w'=>e=.returned (.bool (Mach.anyP p n))∧Below w.heap.size w w':=by
 rw [←Mach.idxP_any]
 have hcall:=IndexFunc_string.holds A n c v p g lb eg w hp hbig hc
 clear hc hp
 go_enter Tryz.func35,Tryz.ntmps35
 go_wp2_with (go_at_call 57;refine hcall.mono ?_;rintro e w' ⟨rfl,hb'⟩)
 go_ret
 exact ⟨rfl,hb'⟩
def impl_isLong.f (l0:List ByteArray):Option Bool:=if l0.length≤9223372036854775807 then some (l0.any fun t=>decide (65536<(t.size:Int))) else none
theorem impl_isLong.lit (t:ByteArray) (w:World):Calls Tryz.prog 36 #[.string t] w fun e w'=>e=.returned (.bool (decide (65536<(t.size:Int))))∧Below w.heap.size w w':=by
 go_enter Tryz.func36,Tryz.ntmps36
 go_wp2
 go_ret
 exact ⟨rfl,Below.refl _ _⟩
theorem impl_isLong.calls (A0:Option Addr) (c0:Nat) (l0:List ByteArray) (r:Bool) (w:World) (hr0:Kd.C Kd.string w A0 l0.length l0) (hc0:l0.length≤c0) (h:impl_isLong.f l0=some r) :
 Calls Tryz.prog 18 #[.slice A0 l0.length c0] w fun e w'=>e=.returned (.bool r)∧Below w.heap.size w w':=by
 unfold impl_isLong.f at h
 obtain ⟨hn,h⟩:=Option.ite_none_right_eq_some.mp h
 obtain rfl:=oi_ h
 have hcall:=ContainsFunc_string.holds A0 l0.length c0 (fun j=>.string (l0.getD j ByteArray.empty)) (fun j=>decide (65536<((l0.getD j ByteArray.empty).size:Int))) 36 #[] (Mach.enters_of Tryz.func36 (by kernel_rfl) rfl) w
  (fun j _ W hb=>(impl_isLong.lit _ W).mono fun e w' ⟨he,hb'⟩=>⟨he,hb.trans (hb'.mono hb.size)⟩) hn
  (fun j hj=>by
   obtain ⟨ad,e,hx⟩:=Kd.at_string hr0 (j:Int) (by omega) (by omega)
   exact ⟨ad,e,by simpa [rdOf] using hx⟩)
 rw [Mach.anyP_list (fun t:ByteArray=>decide (65536<(t.size:Int)))] at hcall
 clear hr0
 go_enter Tryz.func18,Tryz.ntmps18
 go_wp2_with (go_at_call 35;refine hcall.mono ?_;rintro e w' ⟨rfl,hb'⟩)
 go_ret
 exact ⟨rfl,hb'⟩
/-- One text, in the slice that its caller has just built. -/
theorem impl_isLong.one (a1:ByteArray) (W:World):Calls Tryz.prog 18 #[.slice (some ⟨W.heap.size,0,none⟩) 1 1] (W.alloc (.cells #[.string a1] 9)) fun e w'=>e=.returned (.bool (decide (65536<(a1.size:Int))))∧Below (W.alloc (.cells #[.string a1] 9)).heap.size (W.alloc (.cells #[.string a1] 9)) w' :=
 impl_isLong.calls (some ⟨W.heap.size,0,none⟩) 1 [a1] (decide (65536<(a1.size:Int))) (W.alloc (.cells #[.string a1] 9)) ⟨rfl,by simp,fun _=>⟨_,rfl,fun j p hj=>by
  cases j with
  | succ j=>simp at hj
  | zero =>
   obtain rfl:a1=p:=by simpa using hj
   exact ⟨[.string a1],rfl,rfl,fun i u hi=>by
    cases i with
    | succ i=>simp at hi
    | zero =>
     simp at hi
     rw [←hi,add_plain]
     simp⟩⟩⟩ (Nat.le_refl _) (by unfold impl_isLong.f;rw [if_pos (by simp)];simp)
open Go.Proofs.YtfkanlbmgbkniaaGreatDoor.Kit (lowC lowS)
def impl_lower.f (a0:ByteArray):Option ByteArray:=if a0.size≤9223372036854775807 then some (lowS a0) else none
theorem lower_start (w:World) (s:ByteArray) (j:Nat) (hj:j<s.size):(Lib.bytesWorld w 5 s).cell? ⟨w.heap.size,j,none⟩=some (.int .u8 (bt s (j:Int))):=by
 rw [Lib.bytesWorld_cell w 5 s j hj]
 have:j<s.data.toList.length:=by rw [data_length];exact hj
 simp only [bt,Int.toNat_natCast,dif_pos hj,List.getD_eq_getElem?_getD,List.getElem?_eq_getElem this,Option.getD_some]
 rfl
theorem lower_free (w:World) (s:ByteArray) (j:Nat) (hj:j<s.size):(Lib.bytesWorld w 5 s).frozen? ⟨w.heap.size,j,none⟩=false:=by
 have hsz:s.size≤(Lib.bytesCells w 5 s).size:=by
  unfold Lib.bytesCells
  rw [Array.size_append,Array.size_map]
  have:s.data.size=s.size:=rfl
  omega
 simp only [World.frozen?,Lib.bytesWorld_at_new]
 simp
 omega
/-- The row behind k rounds. -/
def LowRow (W:World) (B:Nat) (s:ByteArray) (k:Nat):Prop :=
 (∀ j:Nat,j<s.size→W.cell? ⟨B,j,none⟩=some (.int .u8 (if j<k then lowC (bt s (j:Int)) else bt s (j:Int))))∧∀ j,j<s.size→W.frozen? ⟨B,j,none⟩=false
theorem LowRow.start (w:World) (s:ByteArray):LowRow (Lib.bytesWorld w 5 s) w.heap.size s 0 :=
 ⟨fun j hj=>by rw [if_neg (Nat.not_lt_zero _)];exact lower_start w s j hj,lower_free w s⟩
theorem LowRow.stay {W:World} {B:Nat} {s:ByteArray} {k:Nat} (h:LowRow W B s k) (hk:k<s.size) (hc:¬ (65≤bt s (k:Int)∧bt s (k:Int)≤90)):LowRow W B s (k+1):=by
 refine ⟨fun j hj=>?_,h.2⟩
 rw [h.1 j hj]
 by_cases e:j=k
 ·subst e
  rw [if_neg (Nat.lt_irrefl _),if_pos (Nat.lt_succ_self _)]
  unfold lowC
  rw [if_neg hc]
 ·by_cases h1:j<k
  ·rw [if_pos h1,if_pos (by omega)]
  ·rw [if_neg h1,if_neg (by omega)]
theorem LowRow.turn {W:World} {B:Nat} {s:ByteArray} {k:Nat} (h:LowRow W B s k) (hk:k<s.size) (hc:65≤bt s (k:Int)∧bt s (k:Int)≤90):LowRow (W.setCell ⟨B,k,none⟩ (.int .u8 (bt s (k:Int)+32))) B s (k+1):=by
 refine ⟨fun j hj=>?_,fun j hj=>by rw [World.frozen?_setCell];exact h.2 j hj⟩
 by_cases e:j=k
 ·subst e
  rw [if_pos (Nat.lt_succ_self _)]
  unfold lowC
  rw [if_pos hc]
  have h3:=h.1 j hj
  apply World.cell?_setCell_same
  exact h3
 ·rw [World.cell?_setCell_other (h:=fun h=>by injection h;omega),h.1 j hj]
  by_cases h1:j<k
  ·rw [if_pos h1,if_pos (by omega)]
  ·rw [if_neg h1,if_neg (by omega)]
set_option maxHeartbeats 1000000 in
theorem impl_lower.calls (a0:ByteArray) (r:ByteArray) (w:World) (h:impl_lower.f a0=some r) :
 Calls Tryz.prog 58 #[.string a0] w fun e w'=>e=.returned (.string r)∧Below w.heap.size w w':=by
 unfold impl_lower.f at h
 obtain ⟨hn,h⟩:=Option.ite_none_right_eq_some.mp h
 obtain rfl:=oi_ h
 have conv:=fun W=>Lib.run_convert_string_bytes (P:=Tryz.prog) W 9 54 5 a0 Tryz.underlying9 Tryz.underlying54 Tryz.underlying5
 go_enter Tryz.func58,Tryz.ntmps58
 go_wp2
 have HS:=A_ (LowRow.start w a0)
 have HB:Below w.heap.size w (Lib.bytesWorld w 5 a0):=bytes_below (Below.refl _ w) (Nat.le_refl _) 5 a0
 generalize Lib.bytesWorld w 5 a0=W0 at HS HB
 have HB:=A_ HB
 go_loopg [10] a0.size (fun gg s10 wr=>∃ k:Nat,k≤a0.size∧a0.size - k≤gg∧s10=.int .i64 k∧Aside0 (LowRow wr w.heap.size a0 k)∧Aside0 (Below w.heap.size w wr))
 case atStart=>exact ⟨0,Nat.zero_le _,by omega,rfl,HS,HB⟩
 case round =>
  obtain ⟨k,hk,hg,rfl,HR,HB2⟩:=hrel
  clear HS HB
  by_cases hlt:k<a0.size
  ·have hltz:(k:Int)<(a0.size:Int):=by omega
   have l1:=HR.out.1 k hlt
   rw [if_neg (Nat.lt_irrefl _)] at l1
   have l2:=HR.out.2 k hlt
   have b1:=(bt_range a0 (k:Int)).1
   have b2:=(bt_range a0 (k:Int)).2
   by_cases hc:65≤bt a0 (k:Int)∧bt a0 (k:Int)≤90
   ·have HR':=A_ (HR.out.turn hlt hc)
    obtain ⟨c1,c2⟩:=hc
    have c3:decide (bt a0 (k:Int)≥65)=true:=dt_ c1
    have c4:decide (bt a0 (k:Int)≤90)=true:=dt_ c2
    have HB3:=A_ (HB2.out.setCell (p:=⟨w.heap.size,k,none⟩) (Nat.le_refl _) (.int .u8 (bt a0 (k:Int)+32)))
    generalize bt a0 (k:Int)=c at *
    go_wp2
    go_roundg (a0.size - (k+1))
    case measure=>omega
    case rel =>
     have e:c+97 - 65=c+32:=by omega
     first|exact ⟨k+1,by omega,by omega,by go_num,HR',HB3⟩|(simp only [e];exact ⟨k+1,by omega,by omega,by go_num,HR',HB3⟩)
   ·have HR':=A_ (HR.out.stay hlt hc)
    generalize bt a0 (k:Int)=c at *
    by_cases c1:65≤c
    ·have c3:decide (c≥65)=true:=dt_ c1
     have c4:decide (c≤90)=false:=df_ (by omega)
     go_wp2
     go_roundg (a0.size - (k+1))
     case measure=>omega
     case rel=>exact ⟨k+1,by omega,by omega,by go_num,HR',HB2⟩
    ·have c3:decide (c≥65)=false:=df_ c1
     go_wp2
     go_roundg (a0.size - (k+1))
     case measure=>omega
     case rel=>exact ⟨k+1,by omega,by omega,by go_num,HR',HB2⟩
  ·have hltz:¬ (k:Int)<(a0.size:Int):=by omega
   have hke:k=a0.size:=by omega
   have back:=run_convert_bytes_arg (P:=Tryz.prog) (w:=wr) 54 5 Tryz.underlying54 Tryz.underlying5 w.heap.size 0 a0.size (grownCap w a0.size 0 5) ((List.range a0.size).map fun (i:Nat)=>lowC (bt a0 (i:Int))) (by simp) (fun i hi=>by
    have:=HR.out.1 i hi
    rw [hke,if_pos hi] at this
    rw [Nat.zero_add,this]
    simp [List.getD_eq_getElem?_getD,hi]) 9 Tryz.underlying9
   clear hke
   go_wp2
   go_ret
   exact ⟨rfl,HB2.out⟩
def strings_IndexByte.f (a0:ByteArray) (a1:Int):Option Int:=if 0≤a1∧a1<256 then some (Lib.indexByte a0.data.toList (UInt8.ofNat a1.toNat)) else none
theorem strings_IndexByte.calls (a0:ByteArray) (a1:Int) (r:Int) (w:World) (h:strings_IndexByte.f a0 a1=some r) :
 Calls Tryz.prog 67 #[.string a0,.int .u8 a1] w fun e w'=>e=.returned (.int .i64 r)∧Drawn0 w w':=by
 unfold strings_IndexByte.f at h
 obtain ⟨⟨h1,h2⟩,h⟩:=Option.ite_none_right_eq_some.mp h
 obtain rfl:=oi_ h
 have hc:=Tryz.strings_IndexByte a0 a1 w
 exact hc.mono fun e w' ⟨he,hw⟩=>⟨he,⟨0,hw⟩⟩
def impl_isBlank.f (a0:Int):Option (Bool):=(strings_IndexByte.f (⟨#[32,9,10,12,13]⟩:ByteArray) a0).bind fun t284=>(some (decide (t284≥0)))
set_option maxHeartbeats 8000000 in
set_option maxRecDepth 100000 in
theorem impl_isBlank.calls (a0:Int) (r:Bool) (w:World) (h:impl_isBlank.f a0=some r) :
 Calls Tryz.prog 59 #[.int .u8 a0] w fun e w'=>e=.returned (.bool r)∧Drawn0 w w':=by
 have H:((strings_IndexByte.f (⟨#[32,9,10,12,13]⟩:ByteArray) a0).bind fun t284=>(some (decide (t284≥0))))=some r:=h
 clear h
 replace H:=ob_ H
 obtain ⟨t284,A20,H⟩:=H
 replace H:(some (decide (t284≥0)))=some r:=H
 have A2:=A_ A20
 clear A20
 obtain rfl:=oi_ H
 go_enter Tryz.func59,Tryz.ntmps59
 go_wp2_with (first|((with_reducible refine gate_callee (f:=67) rfl ?_);refine gl_ (some 4) rfl rfl Tryz.func67 (by kernel_rfl) rfl #[.string (⟨#[32,9,10,12,13]⟩:ByteArray),.int .u8 a0] rfl  ?_;(with_reducible refine (strings_IndexByte.calls (⟨#[32,9,10,12,13]⟩:ByteArray) a0 t284 _ A2.out).mono ?_);rintro e w' ⟨rfl,⟨nd,rfl⟩⟩;refine ⟨_,rfl,?_⟩))
 go_ret
 exact ⟨by first|rfl|(simp;done)|(simp [*];done),by repeat (first|exact dr_ _|apply dp_)⟩
end Go.Proofs.YtfkanlbmgbkniaaGreatDoor.PFnExactTokensOf
