/- By a program of this session, out of the kit's print and contracts made by hand: the machine side of a law; Lean checks it. No conditions. -/
import Derived.Test.YtjhfempockbdoaaPFnExactNodeAtx0
namespace Go.Proofs.Ytjhfempockbdoaa.PFnExactNodeAt
open Go.RowKit Go.Proofs.YtjhfempockbdoaaW.PrintWords Go.Proofs.YtjhfempockbdoaaW.PrintLast Go.Proofs.YtjhfempockbdoaaW.PrintMore
attribute [local go_sem] max2_int min2_int max_two min_two max_three min_three max_four min_four
set_option linter.unusedVariables false
set_option linter.unusedSimpArgs false
/-! ### IndexFunc_Node: function 65, by hand -/
set_option maxHeartbeats 1000000 in
/-- slices.IndexFunc at this type, whatever the predicate: the first place at which it holds. -/
theorem IndexFunc_Node.holds (A:Option Addr) (n c:Nat) (v:Nat→List Value) (p:Nat→Bool) (g:Nat) (lb:Array Value) (eg:∀ args w,(callFunc g args).run Try.prog w=.ok (.enter g args) w) (w:World)
 (hp:∀ j,j<n→∀ W,Below w.heap.size w W→Calls Try.prog g (#[.agg (v j).toArray]++lb) W fun e w'=>e=.returned (.bool (p j))∧Below w.heap.size w w')
 (hbig:n≤9223372036854775807) (hc:∀ j,j<n→∃ ad,A=some ad∧(v j).length=6∧∀ i u,(v j)[i]? = some u→w.cell? (ad.add (j * 6+i))=some u) :
 Calls Try.prog 65 #[.slice A n c,.func (.func g) #[] lb] w fun e w'=>e=.returned (.int .i64 (Mach.idxP p n))∧Below w.heap.size w w':=by
 have HC:=A_ hc
 have HP:=A_ hp
 clear hc hp
 go_enter Try.func65,Try.ntmps65
 go_wp2
 go_loopg [5,8] n (fun gg _ s8 wr=>∃ kk:Nat,kk≤n∧n - kk≤gg∧s8=.int .i64 kk∧Aside0 (Below w.heap.size w wr)∧Aside0 (∀ j,j<kk→p j=false))
 case atStart=>exact ⟨0,Nat.zero_le _,by omega,rfl,⟨Below.refl _ w⟩,⟨fun j hj=>absurd hj (Nat.not_lt_zero _)⟩⟩
 case round =>
  obtain ⟨kk,hkk,hg,rfl,BW,AA⟩:=hrel
  by_cases hlt:kk<n
  ·have hltz:(kk:Int)<(n:Int):=by omega
   obtain ⟨ad,e,hl,l1⟩:=HC.out kk hlt
   cases e
   obtain ⟨x0,x1,x2,x3,x4,x5,hv⟩:∃ x0 x1 x2 x3 x4 x5,v kk=[x0,x1,x2,x3,x4,x5]:=by
    match v kk,hl with
    | [x0,x1,x2,x3,x4,x5],_=>exact ⟨x0,x1,x2,x3,x4,x5,rfl⟩
   have m0:=pc_ BW.out (l1 0 x0 (by rw [hv];rfl))
   rw [Nat.add_zero] at m0
   have m1:=pc_ BW.out (l1 1 x1 (by rw [hv];rfl))
   rw [add_field _ _ 1 (by omega)] at m1
   have m2:=pc_ BW.out (l1 2 x2 (by rw [hv];rfl))
   rw [add_field _ _ 2 (by omega)] at m2
   have m3:=pc_ BW.out (l1 3 x3 (by rw [hv];rfl))
   rw [add_field _ _ 3 (by omega)] at m3
   have m4:=pc_ BW.out (l1 4 x4 (by rw [hv];rfl))
   rw [add_field _ _ 4 (by omega)] at m4
   have m5:=pc_ BW.out (l1 5 x5 (by rw [hv];rfl))
   rw [add_field _ _ 5 (by omega)] at m5
   clear l1
   have hcall:=HP.out kk hlt wr BW.out
   rw [hv] at hcall
   clear hv
   cases hq:p kk with
   | true =>
    rw [hq] at hcall
    go_wp2_with ((with_reducible refine hcall.mono ?_);rintro e w' ⟨rfl,hb'⟩)
    go_ret
    refine ⟨?_,hb'⟩
    rw [Mach.idxP_hit p n kk hlt hq AA.out]
    rfl
   | false =>
    rw [hq] at hcall
    go_wp2_with ((with_reducible refine hcall.mono ?_);rintro e w' ⟨rfl,hb'⟩)
    go_roundg (n - (kk+1))
    case measure=>omega
    case rel =>
     refine ⟨kk+1,by omega,by omega,by go_num,⟨hb'⟩,⟨fun j hj=>?_⟩⟩
     by_cases e:j=kk
     ·subst e;exact hq
     ·exact AA.out j (by omega)
  ·have hltz:¬ (kk:Int)<(n:Int):=by omega
   have:kk=n:=by omega
   subst this
   go_wp2
   go_ret
   refine ⟨?_,BW.out⟩
   rw [Mach.idxP_miss p kk AA.out]
   rfl
/-! ### ContainsFunc_Node: function 57, by hand -/
/-- slices.ContainsFunc at this type, whatever the predicate. -/
theorem ContainsFunc_Node.holds (A:Option Addr) (n c:Nat) (v:Nat→List Value) (p:Nat→Bool) (g:Nat) (lb:Array Value) (eg:∀ args w,(callFunc g args).run Try.prog w=.ok (.enter g args) w) (w:World)
 (hp:∀ j,j<n→∀ W,Below w.heap.size w W→Calls Try.prog g (#[.agg (v j).toArray]++lb) W fun e w'=>e=.returned (.bool (p j))∧Below w.heap.size w w')
 (hbig:n≤9223372036854775807) (hc:∀ j,j<n→∃ ad,A=some ad∧(v j).length=6∧∀ i u,(v j)[i]? = some u→w.cell? (ad.add (j * 6+i))=some u) :
 Calls Try.prog 57 #[.slice A n c,.func (.func g) #[] lb] w fun e w'=>e=.returned (.bool (Mach.anyP p n))∧Below w.heap.size w w':=by
 rw [←Mach.idxP_any]
 have hcall:=IndexFunc_Node.holds A n c v p g lb eg w hp hbig hc
 clear hc hp
 go_enter Try.func57,Try.ntmps57
 go_wp2_with (go_at_call 65;refine hcall.mono ?_;rintro e w' ⟨rfl,hb'⟩)
 go_ret
 exact ⟨rfl,hb'⟩
/-! ### impl_isTexts: function 50, by hand -/
def noText (x:S28):Bool:=x.f0 != 2
def impl_isTexts.f (l0:List S28):Option Bool:=some (!l0.any noText)
theorem impl_isTexts.lit (x:S28) (A4 A5:Option Addr) (c4 c5:Nat) (w:World):Calls Try.prog 58 #[.agg #[.int .i64 x.f0,.int .i64 x.f1,.string x.f2,.string x.f3,.slice A4 x.f4.length c4,.slice A5 x.f5.length c5]] w fun e w'=>e=.returned (.bool (noText x))∧Below w.heap.size w w':=by
 go_enter Try.func58,Try.ntmps58
 go_wp2
 go_ret
 exact ⟨rfl,ba_ (Below.refl _ _) _⟩
theorem impl_isTexts.calls (A0:Option Addr) (c0:Nat) (l0:List S28) (r:Bool) (w:World) (hr0:Kd.C k28 w A0 l0.length l0) (hc0:l0.length≤c0) (h:impl_isTexts.f l0=some r) :
 Calls Try.prog 50 #[.slice A0 l0.length c0] w fun e w'=>e=.returned (.bool r)∧Below w.heap.size w w':=by
 obtain rfl:=oi_ h
 have hcells:∀ j,j<l0.length→∃ (A4 A5:Option Addr) (c4 c5:Nat) (ad:Addr),A0=some ad∧∀ i u,([.int .i64 (l0.getD j z28).f0,.int .i64 (l0.getD j z28).f1,.string (l0.getD j z28).f2,.string (l0.getD j z28).f3,.slice A4 (l0.getD j z28).f4.length c4,.slice A5 (l0.getD j z28).f5.length c5]:List Value)[i]? = some u→w.cell? (ad.add (j * 6+i))=some u:=by
  intro j hj
  obtain ⟨ad,c,e,hcl,hK,hc⟩:=Kd.C_get hr0 z28 (j:Int) (by omega) (by omega)
  rw [Int.toNat_natCast] at hK hc
  obtain ⟨A4,c4,A5,c5,rfl,_,_,_,_⟩:=k28_open hK
  exact ⟨A4,A5,c4,c5,ad,e,hc⟩
 have hch:∃ F:Nat→Option Addr × Option Addr × Nat × Nat,∀ j,j<l0.length→∃ ad,A0=some ad∧∀ i u,([.int .i64 (l0.getD j z28).f0,.int .i64 (l0.getD j z28).f1,.string (l0.getD j z28).f2,.string (l0.getD j z28).f3,.slice (F j).1 (l0.getD j z28).f4.length (F j).2.2.1,.slice (F j).2.1 (l0.getD j z28).f5.length (F j).2.2.2]:List Value)[i]? = some u→w.cell? (ad.add (j * 6+i))=some u:=by
  refine ⟨fun j=>if hj:j<l0.length then ⟨(hcells j hj).choose,(hcells j hj).choose_spec.choose,(hcells j hj).choose_spec.choose_spec.choose,(hcells j hj).choose_spec.choose_spec.choose_spec.choose⟩ else ⟨none,none,0,0⟩,fun j hj=>?_⟩
  simp only [dif_pos hj]
  exact (hcells j hj).choose_spec.choose_spec.choose_spec.choose_spec
 obtain ⟨F,hF⟩:=hch
 have hcall:=ContainsFunc_Node.holds A0 l0.length c0 (fun j=>[.int .i64 (l0.getD j z28).f0,.int .i64 (l0.getD j z28).f1,.string (l0.getD j z28).f2,.string (l0.getD j z28).f3,.slice (F j).1 (l0.getD j z28).f4.length (F j).2.2.1,.slice (F j).2.1 (l0.getD j z28).f5.length (F j).2.2.2]) (fun j=>noText (l0.getD j z28)) 58 #[] (Mach.enters_of Try.func58 (by kernel_rfl) rfl) w
  (fun j hj W hb=>(impl_isTexts.lit (l0.getD j z28) (F j).1 (F j).2.1 (F j).2.2.1 (F j).2.2.2 W).mono fun e w' ⟨he,hb'⟩=>⟨he,hb.trans (hb'.mono hb.size)⟩) hr0.2.1
  (fun j hj=>by
   obtain ⟨ad,e,hc⟩:=hF j hj
   exact ⟨ad,e,rfl,hc⟩)
 rw [Mach.anyP_list noText] at hcall
 clear hr0 hcells hF
 generalize l0.any noText=b at *
 go_enter Try.func50,Try.ntmps50
 go_wp2_with (go_at_call 57;(with_reducible refine hcall.mono ?_);rintro e w' ⟨rfl,hb'⟩)
 go_ret
 exact ⟨rfl,hb'⟩
end Go.Proofs.Ytjhfempockbdoaa.PFnExactNodeAt
