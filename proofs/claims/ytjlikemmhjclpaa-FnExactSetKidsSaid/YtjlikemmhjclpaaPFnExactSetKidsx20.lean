/- By a program of this session, out of the kit's print and contracts made by hand: the machine side of a law; Lean checks it. No conditions. -/
import Derived.Test.YtjlikemmhjclpaaPFnExactSetKidsx0
import Derived.Test.YtjlikemmhjclpaaPFnExactSetKidsx16
import Derived.Test.YtjlikemmhjclpaaPFnExactSetKidsx19
namespace Go.Proofs.Ytjlikemmhjclpaa.PFnExactSetKids
open Go.RowKit Go.Proofs.YtjlikemmhjclpaaW.PrintWords Go.Proofs.YtjlikemmhjclpaaW.PrintLast Go.Proofs.YtjlikemmhjclpaaW.PrintMore
attribute [local go_sem] max2_int min2_int max_two min_two max_three min_three max_four min_four
set_option linter.unusedVariables false
set_option linter.unusedSimpArgs false
/-! ### impl_Node_isVoid: function 70 -/
def impl_Node_isVoid.f (k:Nat) (a0_0:Int) (a0_1:Int) (a0_2:ByteArray) (a0_3:ByteArray) (l0_4:List (S75)) (l0_5:List (S44)):Option (Bool):=if a0_0=1 then (if a0_1=0 then ((impl_IsVoid.f k a0_2).bind fun t280=>(some t280)) else (some false)) else (some false)
theorem impl_Node_isVoid.mono:∀ a0 a1 a2 a3 a4 a5 k,LeO (impl_Node_isVoid.f k a0 a1 a2 a3 a4 a5) (impl_Node_isVoid.f (k+1) a0 a1 a2 a3 a4 a5):=by
 intro a0 a1 a2 a3 a4 a5 k
 unfold impl_Node_isVoid.f
 repeat' first
  | (with_reducible exact impl_IsVoid.mono _ _)
  | (with_reducible exact LeO.refl _)
  | (with_reducible exact LeO.none _)
  | (with_reducible refine LeO.ite ?_ ?_)
  | (with_reducible refine LeO.bind ?_ (fun _=>?_))
  | exact impl_IsVoid.mono _ _
  | exact LeO.none _
  | refine LeO.ite ?_ ?_
  | refine LeO.bind ?_ (fun _=>?_)
set_option maxHeartbeats 8000000 in
set_option maxRecDepth 100000 in
theorem impl_Node_isVoid.calls (k:Nat) (a0_0:Int) (a0_1:Int) (a0_2:ByteArray) (a0_3:ByteArray) (A0_4:Option Addr) (c0_4:Nat) (l0_4:List (S75)) (A0_5:Option Addr) (c0_5:Nat) (l0_5:List (S44)) (r:Bool) (w:World) (hr0_4:Kd.C k75 w A0_4 l0_4.length l0_4) (hc0_4:l0_4.length≤c0_4) (hr0_5:Kd.C k44 w A0_5 l0_5.length l0_5) (hc0_5:l0_5.length≤c0_5) (h:impl_Node_isVoid.f k a0_0 a0_1 a0_2 a0_3 l0_4 l0_5=some r) :
 Calls Try.prog 70 #[.agg #[.int .i64 a0_0,.int .i64 a0_1,.string a0_2,.string a0_3,.slice A0_4 l0_4.length c0_4,.slice A0_5 l0_5.length c0_5]] w fun e w'=>e=.returned (.bool r)∧Below w.heap.size w w':=by
 have hu44:=Try.underlying44
 have HR0_4:=A_ hr0_4
 have HC0_4:=A_ hc0_4
 clear hr0_4 hc0_4
 have HR0_5:=A_ hr0_5
 have HC0_5:=A_ hc0_5
 clear hr0_5 hc0_5
 have HB:=A_ (Below.refl w.heap.size w)
 have H:(if a0_0=1 then (if a0_1=0 then ((impl_IsVoid.f k a0_2).bind fun t280=>(some t280)) else (some false)) else (some false))=some r:=h
 clear h
 by_cases c2:a0_0=1
 ·rw [if_pos c2] at H
  have c2b0:(a0_0 == 1)=true:=beq_iff_eq.mpr c2
  have c2b1:(a0_0 != 1)=false:=bne_eq_false_iff_eq.mpr c2
  clear c2
  by_cases c3:a0_1=0
  ·rw [if_pos c3] at H
   have c3b0:(a0_1 == 0)=true:=beq_iff_eq.mpr c3
   have c3b1:(a0_1 != 0)=false:=bne_eq_false_iff_eq.mpr c3
   clear c3
   replace H:=ob_ H
   obtain ⟨t280,A40,H⟩:=H
   replace H:(some t280)=some r:=H
   have A4:=A_ A40
   clear A40
   obtain rfl:=oi_ H
   go_enter Try.func70,Try.ntmps70
   go_wp2_with (first|((with_reducible refine gate_dst (N:=1) rfl ?_);refine box_event ?hg (N:=1) ?hd (cs:=#[.int .i64 a0_0,.int .i64 a0_1,.string a0_2,.string a0_3,.slice A0_4 l0_4.length c0_4,.slice A0_5 l0_5.length c0_5]) (t:=44) ?hr ?_;(case hd=>rfl);(case hg=>rfl);(case hr=>first|(go_simp;done)|(go_simp;rfl));intro gb279 hg w5 hbox hb;have n0_:=A_ (bp_ (by repeat (first|(with_reducible first|exact HB.out|apply ba_|apply pd_|apply b1_)|exact HB.out)) hb);have n1_:=A_ (hbox);have n2_:=A_ ((by rw [hg];exact (bz_ (by repeat (first|(with_reducible first|exact HB.out|apply ba_|apply pd_|apply b1_)|exact HB.out))):w.heap.size≤gb279));have n3_:=A_ ((by rw [hg];exact (bz_ (by repeat (first|(with_reducible first|exact HB.out|apply ba_|apply pd_|apply b1_)|exact HB.out))):w.heap.size≤gb279));clear HB;have HB:=n0_;have BK279:=n1_;have GW279:=n2_;have GE279:=n3_;clear n0_ n1_ n2_ n3_;clear hb hbox hg;have hcz6_0:w5.cell? ⟨gb279,0,none⟩=some (.int .i64 a0_0):=(bc_ BK279.out 0).trans rfl;have hcz6_1:w5.cell? ⟨gb279,1,none⟩=some (.int .i64 a0_1):=(bc_ BK279.out 1).trans rfl;have hcz6_2:w5.cell? ⟨gb279,2,none⟩=some (.string a0_2):=(bc_ BK279.out 2).trans rfl;have hcz6_3:w5.cell? ⟨gb279,3,none⟩=some (.string a0_3):=(bc_ BK279.out 3).trans rfl;have hcz6_4:w5.cell? ⟨gb279,4,none⟩=some (.slice A0_4 l0_4.length c0_4):=(bc_ BK279.out 4).trans rfl;have hcz6_5:w5.cell? ⟨gb279,5,none⟩=some (.slice A0_5 l0_5.length c0_5):=(bc_ BK279.out 5).trans rfl;have hfz6_0:=bf_ BK279.out 0;have hfz6_1:=bf_ BK279.out 1;have hfz6_2:=bf_ BK279.out 2;have hfz6_3:=bf_ BK279.out 3;have hfz6_4:=bf_ BK279.out 4;have hfz6_5:=bf_ BK279.out 5)|(go_at_call 97;(with_reducible refine (impl_IsVoid.calls k a0_2 t280 _ A4.out).mono ?_);rintro e w7 ⟨rfl,hb⟩;have n0_:=A_ (kb_ (g:=gb279) (o:=.cells #[.int .i64 a0_0,.int .i64 a0_1,.string a0_2,.string a0_3,.slice A0_4 l0_4.length c0_4,.slice A0_5 l0_5.length c0_5] 44 (0,0)) (by (with_reducible repeat (first|refine kn_ ?_ _|refine kd_ ?_|refine ka_ ?_ _));exact BK279.out) hb);have n1_:=A_ (bp_ (by repeat (first|(with_reducible first|exact HB.out|apply ba_|apply pd_|apply b1_|refine bs_ ?_ GE279.out)|exact HB.out)) hb);clear BK279;clear HB;have BK279:=n0_;have HB:=n1_;clear n0_ n1_;(try clear hb);(try clear hb2);(try clear hk);(try clear hi)))
   go_ret
   exact ⟨by first|rfl|(simp [errW_none,errW_some] <;> rfl)|(simp [*,errW_none,errW_some] <;> rfl),by repeat (first|(with_reducible first|exact HB.out|apply ba_|apply pd_|apply b1_|refine bs_ ?_ GE279.out)|exact HB.out)⟩
  ·rw [if_neg c3] at H
   have c3b0:(a0_1 == 0)=false:=beq_eq_false_iff_ne.mpr c3
   have c3b1:(a0_1 != 0)=true:=bne_iff_ne.mpr c3
   obtain rfl:=oi_ H
   go_enter Try.func70,Try.ntmps70
   go_wp2_with (first|((with_reducible refine gate_dst (N:=1) rfl ?_);refine box_event ?hg (N:=1) ?hd (cs:=#[.int .i64 a0_0,.int .i64 a0_1,.string a0_2,.string a0_3,.slice A0_4 l0_4.length c0_4,.slice A0_5 l0_5.length c0_5]) (t:=44) ?hr ?_;(case hd=>rfl);(case hg=>rfl);(case hr=>first|(go_simp;done)|(go_simp;rfl));intro gb279 hg w8 hbox hb;have n0_:=A_ (bp_ (by repeat (first|(with_reducible first|exact HB.out|apply ba_|apply pd_|apply b1_)|exact HB.out)) hb);have n1_:=A_ (hbox);have n2_:=A_ ((by rw [hg];exact (bz_ (by repeat (first|(with_reducible first|exact HB.out|apply ba_|apply pd_|apply b1_)|exact HB.out))):w.heap.size≤gb279));have n3_:=A_ ((by rw [hg];exact (bz_ (by repeat (first|(with_reducible first|exact HB.out|apply ba_|apply pd_|apply b1_)|exact HB.out))):w.heap.size≤gb279));clear HB;have HB:=n0_;have BK279:=n1_;have GW279:=n2_;have GE279:=n3_;clear n0_ n1_ n2_ n3_;clear hb hbox hg;have hcz9_0:w8.cell? ⟨gb279,0,none⟩=some (.int .i64 a0_0):=(bc_ BK279.out 0).trans rfl;have hcz9_1:w8.cell? ⟨gb279,1,none⟩=some (.int .i64 a0_1):=(bc_ BK279.out 1).trans rfl;have hcz9_2:w8.cell? ⟨gb279,2,none⟩=some (.string a0_2):=(bc_ BK279.out 2).trans rfl;have hcz9_3:w8.cell? ⟨gb279,3,none⟩=some (.string a0_3):=(bc_ BK279.out 3).trans rfl;have hcz9_4:w8.cell? ⟨gb279,4,none⟩=some (.slice A0_4 l0_4.length c0_4):=(bc_ BK279.out 4).trans rfl;have hcz9_5:w8.cell? ⟨gb279,5,none⟩=some (.slice A0_5 l0_5.length c0_5):=(bc_ BK279.out 5).trans rfl;have hfz9_0:=bf_ BK279.out 0;have hfz9_1:=bf_ BK279.out 1;have hfz9_2:=bf_ BK279.out 2;have hfz9_3:=bf_ BK279.out 3;have hfz9_4:=bf_ BK279.out 4;have hfz9_5:=bf_ BK279.out 5))
   go_ret
   exact ⟨by first|rfl|(simp [errW_none,errW_some] <;> rfl)|(simp [*,errW_none,errW_some] <;> rfl),by repeat (first|(with_reducible first|exact HB.out|apply ba_|apply pd_|apply b1_|refine bs_ ?_ GE279.out)|exact HB.out)⟩
 ·rw [if_neg c2] at H
  have c2b0:(a0_0 == 1)=false:=beq_eq_false_iff_ne.mpr c2
  have c2b1:(a0_0 != 1)=true:=bne_iff_ne.mpr c2
  obtain rfl:=oi_ H
  go_enter Try.func70,Try.ntmps70
  go_wp2_with (first|((with_reducible refine gate_dst (N:=1) rfl ?_);refine box_event ?hg (N:=1) ?hd (cs:=#[.int .i64 a0_0,.int .i64 a0_1,.string a0_2,.string a0_3,.slice A0_4 l0_4.length c0_4,.slice A0_5 l0_5.length c0_5]) (t:=44) ?hr ?_;(case hd=>rfl);(case hg=>rfl);(case hr=>first|(go_simp;done)|(go_simp;rfl));intro gb279 hg w10 hbox hb;have n0_:=A_ (bp_ (by repeat (first|(with_reducible first|exact HB.out|apply ba_|apply pd_|apply b1_)|exact HB.out)) hb);have n1_:=A_ (hbox);have n2_:=A_ ((by rw [hg];exact (bz_ (by repeat (first|(with_reducible first|exact HB.out|apply ba_|apply pd_|apply b1_)|exact HB.out))):w.heap.size≤gb279));have n3_:=A_ ((by rw [hg];exact (bz_ (by repeat (first|(with_reducible first|exact HB.out|apply ba_|apply pd_|apply b1_)|exact HB.out))):w.heap.size≤gb279));clear HB;have HB:=n0_;have BK279:=n1_;have GW279:=n2_;have GE279:=n3_;clear n0_ n1_ n2_ n3_;clear hb hbox hg;have hcz11_0:w10.cell? ⟨gb279,0,none⟩=some (.int .i64 a0_0):=(bc_ BK279.out 0).trans rfl;have hcz11_1:w10.cell? ⟨gb279,1,none⟩=some (.int .i64 a0_1):=(bc_ BK279.out 1).trans rfl;have hcz11_2:w10.cell? ⟨gb279,2,none⟩=some (.string a0_2):=(bc_ BK279.out 2).trans rfl;have hcz11_3:w10.cell? ⟨gb279,3,none⟩=some (.string a0_3):=(bc_ BK279.out 3).trans rfl;have hcz11_4:w10.cell? ⟨gb279,4,none⟩=some (.slice A0_4 l0_4.length c0_4):=(bc_ BK279.out 4).trans rfl;have hcz11_5:w10.cell? ⟨gb279,5,none⟩=some (.slice A0_5 l0_5.length c0_5):=(bc_ BK279.out 5).trans rfl;have hfz11_0:=bf_ BK279.out 0;have hfz11_1:=bf_ BK279.out 1;have hfz11_2:=bf_ BK279.out 2;have hfz11_3:=bf_ BK279.out 3;have hfz11_4:=bf_ BK279.out 4;have hfz11_5:=bf_ BK279.out 5))
  go_ret
  exact ⟨by first|rfl|(simp [errW_none,errW_some] <;> rfl)|(simp [*,errW_none,errW_some] <;> rfl),by repeat (first|(with_reducible first|exact HB.out|apply ba_|apply pd_|apply b1_|refine bs_ ?_ GE279.out)|exact HB.out)⟩
def voidL:List ByteArray:=[⟨#[98,114]⟩,⟨#[104,114]⟩,⟨#[105,109,103]⟩,⟨#[105,110,112,117,116]⟩,⟨#[109,101,116,97]⟩,⟨#[108,105,110,107]⟩,⟨#[98,97,115,101]⟩,⟨#[101,109,98,101,100]⟩]
theorem ev_IsVoid (a:ByteArray):Ev (fun k=>impl_IsVoid.f k a) (Kit.hasT voidL a):=Ev.bind (ev_slices_Contains _ a (by decide)) (Ev.now _)
def voidB (x:S44):Bool:=if x.f0=1 then (if x.f1=0 then Kit.hasT voidL x.f2 else false) else false
theorem ev_isVoidN (x:S44):Ev (fun k=>impl_Node_isVoid.f k x.f0 x.f1 x.f2 x.f3 x.f4 x.f5) (voidB x):=by
 unfold impl_Node_isVoid.f voidB
 refine Kit.ev_if (fun h=>?_) (fun h=>?_)
 case refine_2=>rw [if_neg h];exact Ev.now _
 case refine_1 =>
  rw [if_pos h]
  refine Kit.ev_if (fun h=>?_) (fun h=>?_)
  case refine_2=>rw [if_neg h];exact Ev.now _
  case refine_1=>rw [if_pos h];exact Ev.bind (ev_IsVoid x.f2) (Ev.now _)
theorem impl_Node_isVoid.pure (x:S44) (A4:Option Addr) (c4:Nat) (A5:Option Addr) (c5:Nat) (W:World) (h4:Kd.C k75 W A4 x.f4.length x.f4) (l4:x.f4.length≤c4) (h5:Kd.C k44 W A5 x.f5.length x.f5) (l5:x.f5.length≤c5):Calls Try.prog 70 #[.agg #[.int .i64 x.f0,.int .i64 x.f1,.string x.f2,.string x.f3,.slice A4 x.f4.length c4,.slice A5 x.f5.length c5]] W fun e w'=>e=.returned (.bool (voidB x))∧Below W.heap.size W w':=by
 obtain ⟨K,hK⟩:=ev_isVoidN x
 exact impl_Node_isVoid.calls K x.f0 x.f1 x.f2 x.f3 A4 c4 x.f4 A5 c5 x.f5 _ W h4 l4 h5 l5 (hK K (Nat.le_refl _))
/-! ### IndexFunc_Node: function 91, by hand -/
set_option maxHeartbeats 1000000 in
/-- slices.IndexFunc at this type, whatever the predicate: the first place at which it holds. -/
theorem IndexFunc_Node.holds (A:Option Addr) (n c:Nat) (v:Nat→List Value) (p:Nat→Bool) (g:Nat) (lb:Array Value) (eg:∀ args w,(callFunc g args).run Try.prog w=.ok (.enter g args) w) (w:World)
 (hp:∀ j,j<n→∀ W,Below w.heap.size w W→Calls Try.prog g (#[.agg (v j).toArray]++lb) W fun e w'=>e=.returned (.bool (p j))∧Below w.heap.size w w')
 (hbig:n≤9223372036854775807) (hc:∀ j,j<n→∃ ad,A=some ad∧(v j).length=6∧∀ i u,(v j)[i]? = some u→w.cell? (ad.add (j * 6+i))=some u) :
 Calls Try.prog 91 #[.slice A n c,.func (.func g) #[] lb] w fun e w'=>e=.returned (.int .i64 (Mach.idxP p n))∧Below w.heap.size w w':=by
 have HC:=A_ hc
 have HP:=A_ hp
 clear hc hp
 go_enter Try.func91,Try.ntmps91
 go_wp2
 go_loopg [5,8] n (fun gg _ s8 wr=>∃ kk:Nat,kk≤n∧n - kk≤gg∧s8=.int .i64 kk∧Aside0 (Below w.heap.size w wr)∧Aside0 (∀ j,j<kk→p j=false))
 case atStart=>exact ⟨0,Nat.zero_le _,by omega,rfl,⟨Below.refl _ w⟩,⟨fun j hj=>absurd hj (Nat.not_lt_zero _)⟩⟩
 case round =>
  obtain ⟨kk,hkk,hg,rfl,BW,AA⟩:=hrel
  by_cases hlt:kk<n
  ·have hltz:(kk:Int)<(n:Int):=by omega
   obtain ⟨ad,e,hl,l1⟩:=HC.out kk hlt
   cases e
   obtain ⟨x0,x1,x2,x3,x4,x5,hv⟩:∃ x0 x1 x2 x3 x4 x5,v kk=[x0,x1,x2,x3,x4,x5]:=by
    match v kk,hl with
    | [x0,x1,x2,x3,x4,x5],_=>exact ⟨x0,x1,x2,x3,x4,x5,rfl⟩
   have m0:=pc_ BW.out (l1 0 x0 (by rw [hv];rfl))
   rw [Nat.add_zero] at m0
   have m1:=pc_ BW.out (l1 1 x1 (by rw [hv];rfl))
   rw [add_field _ _ 1 (by omega)] at m1
   have m2:=pc_ BW.out (l1 2 x2 (by rw [hv];rfl))
   rw [add_field _ _ 2 (by omega)] at m2
   have m3:=pc_ BW.out (l1 3 x3 (by rw [hv];rfl))
   rw [add_field _ _ 3 (by omega)] at m3
   have m4:=pc_ BW.out (l1 4 x4 (by rw [hv];rfl))
   rw [add_field _ _ 4 (by omega)] at m4
   have m5:=pc_ BW.out (l1 5 x5 (by rw [hv];rfl))
   rw [add_field _ _ 5 (by omega)] at m5
   clear l1
   have hcall:=HP.out kk hlt wr BW.out
   rw [hv] at hcall
   clear hv
   cases hq:p kk with
   | true =>
    rw [hq] at hcall
    go_wp2_with ((with_reducible refine hcall.mono ?_);rintro e w' ⟨rfl,hb'⟩)
    go_ret
    refine ⟨?_,hb'⟩
    rw [Mach.idxP_hit p n kk hlt hq AA.out]
    rfl
   | false =>
    rw [hq] at hcall
    go_wp2_with ((with_reducible refine hcall.mono ?_);rintro e w' ⟨rfl,hb'⟩)
    go_roundg (n - (kk+1))
    case measure=>omega
    case rel =>
     refine ⟨kk+1,by omega,by omega,by go_num,⟨hb'⟩,⟨fun j hj=>?_⟩⟩
     by_cases e:j=kk
     ·subst e;exact hq
     ·exact AA.out j (by omega)
  ·have hltz:¬ (kk:Int)<(n:Int):=by omega
   have:kk=n:=by omega
   subst this
   go_wp2
   go_ret
   refine ⟨?_,BW.out⟩
   rw [Mach.idxP_miss p kk AA.out]
   rfl
/-! ### ContainsFunc_Node: function 61, by hand -/
/-- slices.ContainsFunc at this type, whatever the predicate. -/
theorem ContainsFunc_Node.holds (A:Option Addr) (n c:Nat) (v:Nat→List Value) (p:Nat→Bool) (g:Nat) (lb:Array Value) (eg:∀ args w,(callFunc g args).run Try.prog w=.ok (.enter g args) w) (w:World)
 (hp:∀ j,j<n→∀ W,Below w.heap.size w W→Calls Try.prog g (#[.agg (v j).toArray]++lb) W fun e w'=>e=.returned (.bool (p j))∧Below w.heap.size w w')
 (hbig:n≤9223372036854775807) (hc:∀ j,j<n→∃ ad,A=some ad∧(v j).length=6∧∀ i u,(v j)[i]? = some u→w.cell? (ad.add (j * 6+i))=some u) :
 Calls Try.prog 61 #[.slice A n c,.func (.func g) #[] lb] w fun e w'=>e=.returned (.bool (Mach.anyP p n))∧Below w.heap.size w w':=by
 rw [←Mach.idxP_any]
 have hcall:=IndexFunc_Node.holds A n c v p g lb eg w hp hbig hc
 clear hc hp
 go_enter Try.func61,Try.ntmps61
 go_wp2_with (go_at_call 91;refine hcall.mono ?_;rintro e w' ⟨rfl,hb'⟩)
 go_ret
 exact ⟨rfl,hb'⟩
/-! ### impl_isTexts: function 71, by hand -/
def noText (x:S44):Bool:=x.f0 != 2
def impl_isTexts.f (l0:List S44):Option Bool:=some (!l0.any noText)
theorem impl_isTexts.lit (x:S44) (A4 A5:Option Addr) (c4 c5:Nat) (w:World):Calls Try.prog 98 #[.agg #[.int .i64 x.f0,.int .i64 x.f1,.string x.f2,.string x.f3,.slice A4 x.f4.length c4,.slice A5 x.f5.length c5]] w fun e w'=>e=.returned (.bool (noText x))∧Below w.heap.size w w':=by
 go_enter Try.func98,Try.ntmps98
 go_wp2
 go_ret
 exact ⟨rfl,ba_ (Below.refl _ _) _⟩
theorem impl_isTexts.calls (A0:Option Addr) (c0:Nat) (l0:List S44) (r:Bool) (w:World) (hr0:Kd.C k44 w A0 l0.length l0) (hc0:l0.length≤c0) (h:impl_isTexts.f l0=some r) :
 Calls Try.prog 71 #[.slice A0 l0.length c0] w fun e w'=>e=.returned (.bool r)∧Below w.heap.size w w':=by
 obtain rfl:=oi_ h
 have hcells:∀ j,j<l0.length→∃ (A4 A5:Option Addr) (c4 c5:Nat) (ad:Addr),A0=some ad∧∀ i u,([.int .i64 (l0.getD j z44).f0,.int .i64 (l0.getD j z44).f1,.string (l0.getD j z44).f2,.string (l0.getD j z44).f3,.slice A4 (l0.getD j z44).f4.length c4,.slice A5 (l0.getD j z44).f5.length c5]:List Value)[i]? = some u→w.cell? (ad.add (j * 6+i))=some u:=by
  intro j hj
  obtain ⟨ad,c,e,hcl,hK,hc⟩:=Kd.C_get hr0 z44 (j:Int) (by omega) (by omega)
  rw [Int.toNat_natCast] at hK hc
  obtain ⟨A4,c4,A5,c5,rfl,_,_,_,_⟩:=k44_open hK
  exact ⟨A4,A5,c4,c5,ad,e,hc⟩
 have hch:∃ F:Nat→Option Addr × Option Addr × Nat × Nat,∀ j,j<l0.length→∃ ad,A0=some ad∧∀ i u,([.int .i64 (l0.getD j z44).f0,.int .i64 (l0.getD j z44).f1,.string (l0.getD j z44).f2,.string (l0.getD j z44).f3,.slice (F j).1 (l0.getD j z44).f4.length (F j).2.2.1,.slice (F j).2.1 (l0.getD j z44).f5.length (F j).2.2.2]:List Value)[i]? = some u→w.cell? (ad.add (j * 6+i))=some u:=by
  refine ⟨fun j=>if hj:j<l0.length then ⟨(hcells j hj).choose,(hcells j hj).choose_spec.choose,(hcells j hj).choose_spec.choose_spec.choose,(hcells j hj).choose_spec.choose_spec.choose_spec.choose⟩ else ⟨none,none,0,0⟩,fun j hj=>?_⟩
  simp only [dif_pos hj]
  exact (hcells j hj).choose_spec.choose_spec.choose_spec.choose_spec
 obtain ⟨F,hF⟩:=hch
 have hcall:=ContainsFunc_Node.holds A0 l0.length c0 (fun j=>[.int .i64 (l0.getD j z44).f0,.int .i64 (l0.getD j z44).f1,.string (l0.getD j z44).f2,.string (l0.getD j z44).f3,.slice (F j).1 (l0.getD j z44).f4.length (F j).2.2.1,.slice (F j).2.1 (l0.getD j z44).f5.length (F j).2.2.2]) (fun j=>noText (l0.getD j z44)) 98 #[] (Mach.enters_of Try.func98 (by kernel_rfl) rfl) w
  (fun j hj W hb=>(impl_isTexts.lit (l0.getD j z44) (F j).1 (F j).2.1 (F j).2.2.1 (F j).2.2.2 W).mono fun e w' ⟨he,hb'⟩=>⟨he,hb.trans (hb'.mono hb.size)⟩) hr0.2.1
  (fun j hj=>by
   obtain ⟨ad,e,hc⟩:=hF j hj
   exact ⟨ad,e,rfl,hc⟩)
 rw [Mach.anyP_list noText] at hcall
 clear hr0 hcells hF
 generalize l0.any noText=b at *
 go_enter Try.func71,Try.ntmps71
 go_wp2_with (go_at_call 61;(with_reducible refine hcall.mono ?_);rintro e w' ⟨rfl,hb'⟩)
 go_ret
 exact ⟨rfl,hb'⟩
end Go.Proofs.Ytjlikemmhjclpaa.PFnExactSetKids
