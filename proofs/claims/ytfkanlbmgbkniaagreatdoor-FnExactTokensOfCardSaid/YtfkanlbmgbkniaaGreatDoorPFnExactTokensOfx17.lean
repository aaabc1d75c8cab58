/- The machine side of a law, printed by a program. No conditions. -/
import Derived.Test.YtfkanlbmgbkniaaGreatDoorPFnExactTokensOfx0
import Derived.Test.YtfkanlbmgbkniaaGreatDoorPFnExactTokensOfx14
namespace Go.Proofs.YtfkanlbmgbkniaaGreatDoor.PFnExactTokensOf
open Go.RowKit Go.Proofs.YtfkanlbmgbkniaaGreatDoorW.PrintWords Go.Proofs.YtfkanlbmgbkniaaGreatDoorW.PrintLast Go.Proofs.YtfkanlbmgbkniaaGreatDoorW.PrintMore
attribute [local go_sem] max2_int min2_int max_two min_two max_three min_three max_four min_four
set_option linter.unusedVariables false
set_option linter.unusedSimpArgs false
def impl_isAttr.f (k:Nat) (a0_0:ByteArray) (a0_1:ByteArray):Option (Bool):=(impl_TagOK.f k a0_0).bind fun t316=>(if t316=true then (some (decide ((a0_1.size:Int)≤40))) else (some false))
theorem impl_isAttr.mono:∀ a0 a1 k,LeO (impl_isAttr.f k a0 a1) (impl_isAttr.f (k+1) a0 a1):=by
 intro a0 a1 k
 unfold impl_isAttr.f
 repeat' first|(with_reducible first|exact impl_TagOK.mono ..|exact LeO.refl _|exact LeO.none _|refine LeO.ite ?_ ?_|refine LeO.bind ?_ (fun _=>?_))|exact LeO.none _|refine LeO.ite ?_ ?_|refine LeO.bind ?_ (fun _=>?_)
set_option maxHeartbeats 8000000 in
set_option maxRecDepth 100000 in
theorem impl_isAttr.calls (k:Nat) (a0_0:ByteArray) (a0_1:ByteArray) (r:Bool) (w:World) (h:impl_isAttr.f k a0_0 a0_1=some r) :
 Calls Tryz.prog 72 #[.agg #[.string a0_0,.string a0_1]] w fun e w'=>e=.returned (.bool r)∧Below w.heap.size w w':=by
 have hu52:=Tryz.underlying52
 have HB:=A_ (Below.refl w.heap.size w)
 have H:((impl_TagOK.f k a0_0).bind fun t316=>(if t316=true then (some (decide ((a0_1.size:Int)≤40))) else (some false)))=some r:=h
 clear h
 replace H:=ob_ H
 obtain ⟨t316,A20,H⟩:=H
 replace H:(if t316=true then (some (decide ((a0_1.size:Int)≤40))) else (some false))=some r:=H
 have A2:=A_ A20
 clear A20
 by_cases c3:t316=true
 ·subst c3
  have H1:(some (decide ((a0_1.size:Int)≤40)))=some r:=by rw [if_pos rfl] at H;exact H
  clear H
  have H:=H1
  clear H1
  obtain rfl:=oi_ H
  go_enter Tryz.func72,Tryz.ntmps72
  go_wp2_with (first|((with_reducible refine gate_dst (N:=1) rfl ?_);(try (refine gate_guard (by rfl) ?_;dsimp only));refine box_event ?hg (N:=1) ?hd (cs:=#[.string a0_0,.string a0_1]) (t:=52) ?hr ?_;(case hd=>rfl);(case hg=>rfl);(case hr=>first|(go_simp;done)|(go_simp;rfl));intro gb315 hg w4 hbox hb;have n0_:=A_ (bp_ (bq0_ HB.out) hb);have n1_:=A_ (hbox);have n2_:=A_ ((by rw [hg];exact (bz_ (bq0_ HB.out)):w.heap.size≤gb315));have n3_:=A_ ((by rw [hg];exact (bz_ (bq0_ HB.out)):w.heap.size≤gb315));clear HB;have HB:=n0_;have BK315:=n1_;have GW315:=n2_;have GE315:=n3_;clear n0_ n1_ n2_ n3_;clear hb hbox hg;obtain ⟨_,_,_,_⟩:=g2_ BK315.out)|((with_reducible refine gate_callee (f:=20) rfl ?_);refine gl_ (some 5) rfl rfl Tryz.func20 (by kernel_rfl) rfl #[.string a0_0] rfl  ?_;(with_reducible refine (impl_TagOK.calls k a0_0 true _ A2.out).mono ?_);rintro e w' ⟨rfl,⟨nd,rfl⟩⟩;refine ⟨_,rfl,?_⟩))
  go_ret
  exact ⟨by first|rfl|(simp [errW_none,errW_some] <;> rfl)|(simp [*,errW_none,errW_some] <;> rfl),bq1_ HB.out GE315.out⟩
 ·replace c3:=bm_ c3
  subst c3
  have H1:(some false)=some r:=by rw [if_neg (show ¬ (false=true) by decide)] at H;exact H
  clear H
  have H:=H1
  clear H1
  obtain rfl:=oi_ H
  go_enter Tryz.func72,Tryz.ntmps72
  go_wp2_with (first|((with_reducible refine gate_dst (N:=1) rfl ?_);(try (refine gate_guard (by rfl) ?_;dsimp only));refine box_event ?hg (N:=1) ?hd (cs:=#[.string a0_0,.string a0_1]) (t:=52) ?hr ?_;(case hd=>rfl);(case hg=>rfl);(case hr=>first|(go_simp;done)|(go_simp;rfl));intro gb315 hg w6 hbox hb;have n0_:=A_ (bp_ (bq0_ HB.out) hb);have n1_:=A_ (hbox);have n2_:=A_ ((by rw [hg];exact (bz_ (bq0_ HB.out)):w.heap.size≤gb315));have n3_:=A_ ((by rw [hg];exact (bz_ (bq0_ HB.out)):w.heap.size≤gb315));clear HB;have HB:=n0_;have BK315:=n1_;have GW315:=n2_;have GE315:=n3_;clear n0_ n1_ n2_ n3_;clear hb hbox hg;obtain ⟨_,_,_,_⟩:=g2_ BK315.out)|((with_reducible refine gate_callee (f:=20) rfl ?_);refine gl_ (some 5) rfl rfl Tryz.func20 (by kernel_rfl) rfl #[.string a0_0] rfl  ?_;(with_reducible refine (impl_TagOK.calls k a0_0 false _ A2.out).mono ?_);rintro e w' ⟨rfl,⟨nd,rfl⟩⟩;refine ⟨_,rfl,?_⟩))
  go_ret
  exact ⟨by first|rfl|(simp [errW_none,errW_some] <;> rfl)|(simp [*,errW_none,errW_some] <;> rfl),bq1_ HB.out GE315.out⟩
def isAttrB (a:S52):Bool:=Kit.isTag a.f0 && decide (a.f1.size≤40)
theorem impl_isAttr.pure (a:S52) (hs:a.f0.size≤9223372036854775807) (W:World):Calls Tryz.prog 72 #[.agg #[.string a.f0,.string a.f1]] W fun e w'=>e=.returned (.bool (isAttrB a))∧Below W.heap.size W w':=by
 obtain ⟨K,hK⟩:=ev_tag_impl a.f0 hs
 refine impl_isAttr.calls K a.f0 a.f1 _ W ?_
 unfold impl_isAttr.f isAttrB
 have hK1:impl_TagOK.f K a.f0=some (Kit.isTag a.f0):=hK K (Nat.le_refl _)
 rw [hK1,Option.bind_some]
 cases Kit.isTag a.f0 with
 | false=>rfl
 | true =>
  rw [if_pos rfl,Bool.true_and]
  congr 1
  rw [decide_eq_decide]
  omega
set_option maxHeartbeats 1000000 in
/-- slices.IndexFunc at this type, whatever the predicate: the first place at which it holds. -/
theorem IndexFunc_Attr.holds (A:Option Addr) (n c:Nat) (v:Nat→List Value) (p:Nat→Bool) (g:Nat) (lb:Array Value) (eg:∀ args w,(callFunc g args).run Tryz.prog w=.ok (.enter g args) w) (w:World)
 (hp:∀ j,j<n→∀ W,Below w.heap.size w W→Calls Tryz.prog g (#[.agg (v j).toArray]++lb) W fun e w'=>e=.returned (.bool (p j))∧Below w.heap.size w w')
 (hbig:n≤9223372036854775807) (hc:∀ j,j<n→∃ ad,A=some ad∧(v j).length=2∧∀ i u,(v j)[i]? = some u→w.cell? (ad.add (j * 2+i))=some u) :
 Calls Tryz.prog 81 #[.slice A n c,.func (.func g) #[] lb] w fun e w'=>e=.returned (.int .i64 (Mach.idxP p n))∧Below w.heap.size w w':=by
 have HC:=A_ hc
 have HP:=A_ hp
 clear hc hp
 go_enter Tryz.func81,Tryz.ntmps81
 go_wp2
 go_loopg [5,8] n (fun gg _ s8 wr=>∃ kk:Nat,kk≤n∧n - kk≤gg∧s8=.int .i64 kk∧Aside0 (Below w.heap.size w wr)∧Aside0 (∀ j,j<kk→p j=false))
 case atStart=>exact ⟨0,Nat.zero_le _,by omega,rfl,⟨Below.refl _ w⟩,⟨fun j hj=>absurd hj (Nat.not_lt_zero _)⟩⟩
 case round =>
  obtain ⟨kk,hkk,hg,rfl,BW,AA⟩:=hrel
  by_cases hlt:kk<n
  ·have hltz:(kk:Int)<(n:Int):=by omega
   obtain ⟨ad,e,hl,l1⟩:=HC.out kk hlt
   cases e
   obtain ⟨x0,x1,hv⟩:∃ x0 x1,v kk=[x0,x1]:=by
    match v kk,hl with
    | [x0,x1],_=>exact ⟨x0,x1,rfl⟩
   have m0:=pw_cell_below BW.out (l1 0 x0 (by rw [hv];rfl))
   rw [Nat.add_zero] at m0
   have m1:=pw_cell_below BW.out (l1 1 x1 (by rw [hv];rfl))
   rw [add_field _ _ 1 (by omega)] at m1
   clear l1
   have hcall:=HP.out kk hlt wr BW.out
   rw [hv] at hcall
   clear hv
   cases hq:p kk with
   | true =>
    rw [hq] at hcall
    go_wp2_with ((with_reducible refine hcall.mono ?_);rintro e w' ⟨rfl,hb'⟩)
    go_ret
    refine ⟨?_,hb'⟩
    rw [Mach.idxP_hit p n kk hlt hq AA.out]
    rfl
   | false =>
    rw [hq] at hcall
    go_wp2_with ((with_reducible refine hcall.mono ?_);rintro e w' ⟨rfl,hb'⟩)
    go_roundg (n - (kk+1))
    case measure=>omega
    case rel =>
     refine ⟨kk+1,by omega,by omega,by go_num,⟨hb'⟩,⟨fun j hj=>?_⟩⟩
     by_cases e:j=kk
     ·subst e;exact hq
     ·exact AA.out j (by omega)
  ·have hltz:¬ (kk:Int)<(n:Int):=by omega
   have:kk=n:=by omega
   subst this
   go_wp2
   go_ret
   refine ⟨?_,BW.out⟩
   rw [Mach.idxP_miss p kk AA.out]
   rfl
/-- slices.ContainsFunc at this type, whatever the predicate. -/
theorem ContainsFunc_Attr.holds (A:Option Addr) (n c:Nat) (v:Nat→List Value) (p:Nat→Bool) (g:Nat) (lb:Array Value) (eg:∀ args w,(callFunc g args).run Tryz.prog w=.ok (.enter g args) w) (w:World)
 (hp:∀ j,j<n→∀ W,Below w.heap.size w W→Calls Tryz.prog g (#[.agg (v j).toArray]++lb) W fun e w'=>e=.returned (.bool (p j))∧Below w.heap.size w w')
 (hbig:n≤9223372036854775807) (hc:∀ j,j<n→∃ ad,A=some ad∧(v j).length=2∧∀ i u,(v j)[i]? = some u→w.cell? (ad.add (j * 2+i))=some u) :
 Calls Tryz.prog 73 #[.slice A n c,.func (.func g) #[] lb] w fun e w'=>e=.returned (.bool (Mach.anyP p n))∧Below w.heap.size w w':=by
 rw [←Mach.idxP_any]
 have hcall:=IndexFunc_Attr.holds A n c v p g lb eg w hp hbig hc
 clear hc hp
 go_enter Tryz.func73,Tryz.ntmps73
 go_wp2_with (go_at_call 81;refine hcall.mono ?_;rintro e w' ⟨rfl,hb'⟩)
 go_ret
 exact ⟨rfl,hb'⟩
/-- The attribute at place i may be an element's, and none ahead of it has its name. -/
def nameAs (xs:List S52) (i:Nat):Nat→Bool:=fun j=>(xs.getD j z52).f0.toList == (xs.getD i z52).f0.toList
def attrAt (xs:List S52) (i:Nat):Bool:=isAttrB (xs.getD i z52) && !Mach.anyP (nameAs xs i) i
def attrsOK (xs:List S52):Bool:=Kit.allB (attrAt xs) 0 xs.length && decide (xs.length≤6)
def impl_areAttrs.f (l0:List S52):Option Bool:=if ∀ a∈l0,a.f0.size≤9223372036854775807 then some (attrsOK l0) else none
theorem impl_areAttrs.lit (b a:S52) (B:Nat) (w:World) (h0:w.cell? ⟨B,0,none⟩=some (.string a.f0)) (hB:B<w.heap.size):Calls Tryz.prog 74 #[.agg #[.string b.f0,.string b.f1],.pointer (some ⟨B,0,none⟩)] w fun e w'=>e=.returned (.bool (b.f0.toList == a.f0.toList))∧Below w.heap.size w w':=by
 have hne:B≠w.heap.size:=by omega
 go_enter Tryz.func74,Tryz.ntmps74
 go_wp2
 go_ret
 exact ⟨rfl,ba_ (Below.refl _ _) _⟩
theorem impl_areAttrs.any (A0:Option Addr) (c0:Nat) (l0:List S52) (kk:Nat) (hk:kk<l0.length) (B:Nat) (w:World) (hr0:Kd.C k52 w A0 l0.length l0) (h0:w.cell? ⟨B,0,none⟩=some (.string (l0.getD kk z52).f0)) (hB:B<w.heap.size) :
 Calls Tryz.prog 73 #[.slice A0 kk c0,.func (.func 74) #[] #[.pointer (some ⟨B,0,none⟩)]] w fun e w'=>e=.returned (.bool (Mach.anyP (nameAs l0 kk) kk))∧Below w.heap.size w w' :=
 ContainsFunc_Attr.holds A0 kk c0 (fun j=>[.string (l0.getD j z52).f0,.string (l0.getD j z52).f1]) (nameAs l0 kk) 74 #[.pointer (some ⟨B,0,none⟩)] (Mach.enters_of Tryz.func74 (by kernel_rfl) rfl) w
  (fun j hj W hb=>(impl_areAttrs.lit (l0.getD j z52) (l0.getD kk z52) B W (pw_cell_below hb h0) (Nat.lt_of_lt_of_le hB hb.size)).mono fun e w' ⟨he,hb'⟩=>⟨he,hb.trans (hb'.mono hb.size)⟩) (by have:=hr0.2.1;omega)
  (fun j hj=>by
   obtain ⟨ad,c,e,hcl,hK,hc⟩:=Kd.C_get hr0 z52 (j:Int) (by omega) (by omega)
   rw [Int.toNat_natCast] at hK hc
   obtain rfl:=k52_open hK
   exact ⟨ad,e,rfl,hc⟩)
theorem attr_cut (A:Option Addr) (n c kk:Nat) (h:kk≤c) (W:World):(Instr.slice 22 (.slice A n c) none (some (.int .i64 kk)) none).run Tryz.prog W=.ok (.slice A kk c) W:=by
 obtain ⟨i0,hi,_,hz1,_⟩:=info_parts info52
 have hu:=Tryz.underlying22
 have hel:Tryz.prog.elem 22=52:=by simp [Program.elem,hu]
 have hu2:Tryz.prog.underlying 22=some (.slice (Tryz.prog.elem 22)):=by rw [hel];exact hu
 have ha:(A.map fun x=>x.add 0)=A:=by cases A <;> simp [Addr.add]
 rw [run_slice_h W 22 A n c hu2 .i64 (kk:Int) (by omega) (by omega),hel]
 simp [sizeOf,typeInfo,hi,hz1,sliced,Result.andThen,ha]
theorem impl_areAttrs.calls (A0:Option Addr) (c0:Nat) (l0:List S52) (r:Bool) (w:World) (hr0:Kd.C k52 w A0 l0.length l0) (hc0:l0.length≤c0) (h:impl_areAttrs.f l0=some r) :
 Calls Tryz.prog 64 #[.slice A0 l0.length c0] w fun e w'=>e=.returned (.bool r)∧Below w.heap.size w w':=by
 unfold impl_areAttrs.f at h
 obtain ⟨hsz,h⟩:=Option.ite_none_right_eq_some.mp h
 obtain rfl:=oi_ h
 have HS:=A_ hsz
 have hn:l0.length≤9223372036854775807:=hr0.2.1
 have HR:=A_ hr0
 have HC:=A_ hc0
 clear hr0 hc0 hsz
 go_enter Tryz.func64,Tryz.ntmps64
 go_wp2
 go_loopg [3,4,7] l0.length (fun gg _ _ s7 wr=>∃ kk:Nat,kk≤l0.length∧l0.length - kk≤gg∧s7=.int .i64 kk∧Aside0 (∀ j,j<kk→attrAt l0 j=true)∧Aside0 (Below w.heap.size w wr))
 case atStart=>exact ⟨0,Nat.zero_le _,by omega,rfl,⟨fun j hj=>absurd hj (Nat.not_lt_zero _)⟩,⟨Below.refl _ _⟩⟩
 case round =>
  obtain ⟨kk,hkk,hg,rfl,AA,BW⟩:=hrel
  by_cases hlt:kk<l0.length
  case pos =>
   have hltz:(kk:Int)<(l0.length:Int):=by omega
   have HRB:=A_ (cb_ HR.out BW.out)
   obtain ⟨ad,c,e,hcl,hK,hc⟩:=Kd.C_get HRB.out z52 (kk:Int) (by omega) (by omega)
   rw [Int.toNat_natCast] at hK hc
   obtain rfl:=k52_open hK
   subst e
   have hs:=HS.out (l0.getD kk z52) (by rw [List.getD_eq_getElem?_getD,List.getElem?_eq_getElem hlt];exact List.getElem_mem hlt)
   have hat:attrAt l0 kk=(isAttrB (l0.getD kk z52) && !Mach.anyP (nameAs l0 kk) kk):=rfl
   have m0:wr.cell? (ad.add (kk * 2))=some (.string (l0.getD kk z52).f0):=hc 0 _ rfl
   have m1:wr.cell? ⟨(ad.add (kk * 2)).block,(ad.add (kk * 2)).off+1,none⟩=some (.string (l0.getD kk z52).f1):=by rw [←add_field _ _ 1 (by omega)];exact hc 1 _ rfl
   have hcut:=attr_cut (some ad) l0.length c0 kk (by have:=HC.out;omega)
   have Q1:=A_ (impl_isAttr.pure (l0.getD kk z52) hs)
   have BW1:=A_ (ba_ BW.out (.cells #[.string (l0.getD kk z52).f0,.string (l0.getD kk z52).f1] 52))
   have Q2:Aside0 (∀ V,Below (wr.alloc (.cells #[.string (l0.getD kk z52).f0,.string (l0.getD kk z52).f1] 52)).heap.size (wr.alloc (.cells #[.string (l0.getD kk z52).f0,.string (l0.getD kk z52).f1] 52)) V→Calls Tryz.prog 73 #[.slice (some ad) kk c0,.func (.func 74) #[] #[.pointer (some ⟨wr.heap.size,0,none⟩)]] V fun e w'=>e=.returned (.bool (Mach.anyP (nameAs l0 kk) kk))∧Below V.heap.size V w'):=⟨fun V hV=>impl_areAttrs.any (some ad) c0 l0 kk hlt wr.heap.size V (cb_ (cb_ HRB.out (ba_ (Below.refl _ _) _)) hV) (pw_cell_below hV (Mach.new_cell wr _ _ 0 _ rfl)) (Nat.lt_of_lt_of_le (by rw [World.size_alloc];omega) hV.size)⟩
   clear hc hK hcl hs
   generalize Mach.anyP (nameAs l0 kk) kk=b2 at *
   generalize l0.getD kk z52=a at *
   generalize isAttrB a=b1 at *
   cases b1 with
   | false =>
    rw [Bool.false_and] at hat
    have hall:attrsOK l0=false:=by
     unfold attrsOK
     rw [Bool.and_eq_false_iff]
     refine .inl (Bool.eq_false_iff.2 fun h=>?_)
     have:=(Kit.allB_iff _ _ _).1 h kk (Nat.zero_le _) hlt
     rw [hat] at this
     cases this
    have HALL:=A_ hall
    clear hall hat
    clear Q2
    go_wp2_with (go_at_call 72;(with_reducible refine (Q1.out _).mono ?_);rintro e w1 ⟨rfl,hb1⟩;have HB1:=A_ hb1;clear hb1)
    go_ret
    exact ⟨by rw [HALL.out];rfl,BW1.out.trans (HB1.out.mono BW1.out.size)⟩
   | true =>
    rw [Bool.true_and] at hat
    cases b2 with
    | true =>
     rw [Bool.not_true] at hat
     have hall:attrsOK l0=false:=by
      unfold attrsOK
      rw [Bool.and_eq_false_iff]
      refine .inl (Bool.eq_false_iff.2 fun h=>?_)
      have:=(Kit.allB_iff _ _ _).1 h kk (Nat.zero_le _) hlt
      rw [hat] at this
      cases this
     have HALL:=A_ hall
     clear hall hat
     go_wp2_with (first|(go_at_call 72;(with_reducible refine (Q1.out _).mono ?_);rintro e w1 ⟨rfl,hb1⟩;have HB1:=A_ hb1;clear hb1)|(go_at_call 73;(with_reducible refine (Q2.out _ HB1.out).mono ?_);rintro e w2 ⟨rfl,hb2⟩;have HB2:=A_ hb2;clear hb2))
     go_ret
     exact ⟨by rw [HALL.out];rfl,(BW1.out.trans (HB1.out.mono BW1.out.size)).trans (HB2.out.mono (BW1.out.trans (HB1.out.mono BW1.out.size)).size)⟩
    | false =>
     rw [Bool.not_false] at hat
     have HAT:=A_ hat
     clear hat
     go_wp2_with (first|(go_at_call 72;(with_reducible refine (Q1.out _).mono ?_);rintro e w1 ⟨rfl,hb1⟩;have HB1:=A_ hb1;clear hb1)|(go_at_call 73;(with_reducible refine (Q2.out _ HB1.out).mono ?_);rintro e w2 ⟨rfl,hb2⟩;have HB2:=A_ hb2;clear hb2))
     go_roundg (l0.length - (kk+1))
     case measure=>omega
     case rel =>
      refine ⟨kk+1,by omega,by omega,by go_num,⟨fun j hj=>?_⟩,⟨(BW1.out.trans (HB1.out.mono BW1.out.size)).trans (HB2.out.mono (BW1.out.trans (HB1.out.mono BW1.out.size)).size)⟩⟩
      by_cases e:j=kk
      ·subst e;exact HAT.out
      ·exact AA.out j (by omega)
  case neg =>
   have hltz:¬ (kk:Int)<(l0.length:Int):=by omega
   have hke:kk=l0.length:=by omega
   have hall:attrsOK l0=decide ((l0.length:Int)≤6):=by
    unfold attrsOK
    rw [(Kit.allB_iff _ _ _).2 fun j _ hj=>AA.out j (by omega),Bool.true_and,decide_eq_decide]
    omega
   have HALL:=A_ hall
   clear hall hke
   go_wp2
   go_ret
   exact ⟨by rw [HALL.out];rfl,BW.out⟩
end Go.Proofs.YtfkanlbmgbkniaaGreatDoor.PFnExactTokensOf
