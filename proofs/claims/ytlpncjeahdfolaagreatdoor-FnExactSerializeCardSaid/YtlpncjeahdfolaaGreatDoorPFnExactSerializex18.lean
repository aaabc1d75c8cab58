/- By a program of this session, out of the kit's print and contracts made by hand: the machine side of a law; Lean checks it. No conditions. -/
import Derived.Test.YtlpncjeahdfolaaGreatDoorPFnExactSerializex0
import Derived.Test.YtlpncjeahdfolaaGreatDoorPFnExactSerializex14
import Derived.Test.YtlpncjeahdfolaaGreatDoorPFnExactSerializex17
namespace Go.Proofs.YtlpncjeahdfolaaGreatDoor.PFnExactSerialize
open Go.RowKit Go.Proofs.YtlpncjeahdfolaaGreatDoorW.PrintWords Go.Proofs.YtlpncjeahdfolaaGreatDoorW.PrintLast Go.Proofs.YtlpncjeahdfolaaGreatDoorW.PrintMore
attribute [local go_sem] max2_int min2_int max_two min_two max_three min_three max_four min_four
set_option linter.unusedVariables false
set_option linter.unusedSimpArgs false
/-! ### impl_isTexts: function 47, by hand -/
def noText (x:S38):Bool:=x.f0 != 2
def impl_isTexts.f (l0:List S38):Option Bool:=some (!l0.any noText)
theorem impl_isTexts.lit (x:S38) (A4 A5:Option Addr) (c4 c5:Nat) (w:World):Calls Tryz.prog 60 #[.agg #[.int .i64 x.f0,.int .i64 x.f1,.string x.f2,.string x.f3,.slice A4 x.f4.length c4,.slice A5 x.f5.length c5]] w fun e w'=>e=.returned (.bool (noText x))∧Below w.heap.size w w':=by
 go_enter Tryz.func60,Tryz.ntmps60
 go_wp2
 go_ret
 exact ⟨rfl,ba_ (Below.refl _ _) _⟩
theorem impl_isTexts.calls (A0:Option Addr) (c0:Nat) (l0:List S38) (r:Bool) (w:World) (hr0:Kd.C k38 w A0 l0.length l0) (hc0:l0.length≤c0) (h:impl_isTexts.f l0=some r) :
 Calls Tryz.prog 47 #[.slice A0 l0.length c0] w fun e w'=>e=.returned (.bool r)∧Below w.heap.size w w':=by
 obtain rfl:=oi_ h
 have hcells:∀ j,j<l0.length→∃ (A4 A5:Option Addr) (c4 c5:Nat) (ad:Addr),A0=some ad∧∀ i u,([.int .i64 (l0.getD j z38).f0,.int .i64 (l0.getD j z38).f1,.string (l0.getD j z38).f2,.string (l0.getD j z38).f3,.slice A4 (l0.getD j z38).f4.length c4,.slice A5 (l0.getD j z38).f5.length c5]:List Value)[i]? = some u→w.cell? (ad.add (j * 6+i))=some u:=by
  intro j hj
  obtain ⟨ad,c,e,hcl,hK,hc⟩:=Kd.C_get hr0 z38 (j:Int) (by omega) (by omega)
  rw [Int.toNat_natCast] at hK hc
  obtain ⟨A4,c4,A5,c5,rfl,_,_,_,_⟩:=k38_open hK
  exact ⟨A4,A5,c4,c5,ad,e,hc⟩
 have hch:∃ F:Nat→Option Addr × Option Addr × Nat × Nat,∀ j,j<l0.length→∃ ad,A0=some ad∧∀ i u,([.int .i64 (l0.getD j z38).f0,.int .i64 (l0.getD j z38).f1,.string (l0.getD j z38).f2,.string (l0.getD j z38).f3,.slice (F j).1 (l0.getD j z38).f4.length (F j).2.2.1,.slice (F j).2.1 (l0.getD j z38).f5.length (F j).2.2.2]:List Value)[i]? = some u→w.cell? (ad.add (j * 6+i))=some u:=by
  refine ⟨fun j=>if hj:j<l0.length then ⟨(hcells j hj).choose,(hcells j hj).choose_spec.choose,(hcells j hj).choose_spec.choose_spec.choose,(hcells j hj).choose_spec.choose_spec.choose_spec.choose⟩ else ⟨none,none,0,0⟩,fun j hj=>?_⟩
  simp only [dif_pos hj]
  exact (hcells j hj).choose_spec.choose_spec.choose_spec.choose_spec
 obtain ⟨F,hF⟩:=hch
 have hcall:=ContainsFunc_Node.holds A0 l0.length c0 (fun j=>[.int .i64 (l0.getD j z38).f0,.int .i64 (l0.getD j z38).f1,.string (l0.getD j z38).f2,.string (l0.getD j z38).f3,.slice (F j).1 (l0.getD j z38).f4.length (F j).2.2.1,.slice (F j).2.1 (l0.getD j z38).f5.length (F j).2.2.2]) (fun j=>noText (l0.getD j z38)) 60 #[] (Mach.enters_of Tryz.func60 (by kernel_rfl) rfl) w
  (fun j hj W hb=>(impl_isTexts.lit (l0.getD j z38) (F j).1 (F j).2.1 (F j).2.2.1 (F j).2.2.2 W).mono fun e w' ⟨he,hb'⟩=>⟨he,hb.trans (hb'.mono hb.size)⟩) hr0.2.1
  (fun j hj=>by
   obtain ⟨ad,e,hc⟩:=hF j hj
   exact ⟨ad,e,rfl,hc⟩)
 rw [Mach.anyP_list noText] at hcall
 clear hr0 hcells hF
 generalize l0.any noText=b at *
 go_enter Tryz.func47,Tryz.ntmps47
 go_wp2_with (go_at_call 59;(with_reducible refine hcall.mono ?_);rintro e w' ⟨rfl,hb'⟩)
 go_ret
 exact ⟨rfl,hb'⟩
/-! ### impl_Node_isNode: function 36, by hand -/
def voidFull (x:S38):Bool:=voidB x && decide (0<x.f5.length)
def rawBad (x:S38):Bool:=rawB x && x.f5.any noText
/-- A node, without what lies in what is within, is one. -/
def nodeOK (x:S38):Bool:=ownB x && !voidFull x && !rawBad x
def kidsI (f:S38→Int→Bool × Int):List S38→Int→Bool × Int
 | [],c=>(true,c)
 | x :: l,c=>if (f x c).1=true then kidsI f l (f x c).2 else (false,(f x c).2)
def nodeI:Nat→S38→Int→Bool × Int
 | 0,_,c=>(false,c+1)
 | n+1,x,c=>if 60<c+1 then (false,c+1) else if nodeOK x=true then kidsI (nodeI n) x.f5 (c+1) else (false,c+1)
theorem kidsI_bd (f:S38→Int→Bool × Int) (hf:∀ x c,0≤c→c≤60→(f x c).1=true→0≤(f x c).2∧(f x c).2≤60) (l:List S38):∀ c,0≤c→c≤60→(kidsI f l c).1=true→0≤(kidsI f l c).2∧(kidsI f l c).2≤60:=by
 induction l with
 | nil=>intro c h0 h1 _;exact ⟨h0,h1⟩
 | cons x l ih =>
  intro c h0 h1 h
  rw [kidsI] at h ⊢
  by_cases hb:(f x c).1=true
  case pos =>
   rw [if_pos hb] at h ⊢
   obtain ⟨g0,g1⟩:=hf x c h0 h1 hb
   exact ih _ g0 g1 h
  case neg =>
   rw [if_neg hb] at h
   cases h
theorem nodeI_bd (n:Nat):∀ (x:S38) (c:Int),0≤c→c≤60→(nodeI n x c).1=true→0≤(nodeI n x c).2∧(nodeI n x c).2≤60:=by
 induction n with
 | zero=>intro x c h0 h1 h;cases h
 | succ n ih =>
  intro x c h0 h1 h
  rw [nodeI] at h ⊢
  by_cases h6:60<c+1
  case pos=>rw [if_pos h6] at h;cases h
  case neg =>
   rw [if_neg h6] at h ⊢
   by_cases hk:nodeOK x=true
   case neg=>rw [if_neg hk] at h;cases h
   case pos =>
    rw [if_pos hk] at h ⊢
    exact kidsI_bd _ ih x.f5 (c+1) (by omega) (by omega) h
/-- The names of a tree's nodes and attributes, as deep as nodes may be, are no longer than texts may be. -/
def fitB:Nat→S38→Bool
 | 0,_=>true
 | n+1,x=>decide (x.f2.size≤9223372036854775807) && x.f4.all (fun a=>decide (a.f0.size≤9223372036854775807)) && x.f5.all (fitB n)
theorem fitB_open {n:Nat} {x:S38} (h:fitB (n+1) x=true):x.f2.size≤9223372036854775807∧(∀ a∈x.f4,a.f0.size≤9223372036854775807)∧∀ y∈x.f5,fitB n y=true:=by
 rw [fitB,Bool.and_eq_true,Bool.and_eq_true,List.all_eq_true,List.all_eq_true] at h
 exact ⟨od_ h.1.1,fun a ha=>od_ (h.1.2 a ha),h.2⟩
set_option maxHeartbeats 4000000 in
theorem impl_Node_isNode.holds (n:Nat):∀ (x:S38) (A4:Option Addr) (c4:Nat) (A5:Option Addr) (c5:Nat) (dp c:Int) (w0 w:World) (g:Nat) (hdp:dp+n=11) (hn:n≤10) (hfit:fitB n x=true) (b0:0≤c) (b1:c≤60) (hB:Below w0.heap.size w0 w) (hg:w0.heap.size≤g) (hcell:w.heap[g]? = some (.cells #[.int .i64 c] 3 (0,0))) (h4:Kd.C k63 w0 A4 x.f4.length x.f4) (l4:x.f4.length≤c4) (h5:Kd.C k38 w0 A5 x.f5.length x.f5) (l5:x.f5.length≤c5),
 Calls Tryz.prog 36 #[.agg #[.int .i64 x.f0,.int .i64 x.f1,.string x.f2,.string x.f3,.slice A4 x.f4.length c4,.slice A5 x.f5.length c5],.int .i64 dp,.pointer (some ⟨g,0,none⟩)] w fun e w'=>e=.returned (.bool (nodeI n x c).1)∧w'.heap[g]? = some (.cells #[.int .i64 (nodeI n x c).2] 3 (0,0))∧Below w0.heap.size w0 w':=by
 induction n with
 | zero =>
  intro x A4 c4 A5 c5 dp c w0 w g hdp hn hfit b0 b1 hB hg hcell h4 l4 h5 l5
  have hb1:=ba_ hB (.cells #[.int .i64 x.f0,.int .i64 x.f1,.string x.f2,.string x.f3,.slice A4 x.f4.length c4,.slice A5 x.f5.length c5] 38)
  have hgl:=blk_lt hcell
  have hne:w.heap.size≠g:=by omega
  have hcell1:=ka_ hcell (.cells #[.int .i64 x.f0,.int .i64 x.f1,.string x.f2,.string x.f3,.slice A4 x.f4.length c4,.slice A5 x.f5.length c5] 38)
  have hx0:(w.alloc (.cells #[.int .i64 x.f0,.int .i64 x.f1,.string x.f2,.string x.f3,.slice A4 x.f4.length c4,.slice A5 x.f5.length c5] 38)).cell? ⟨g,0,none⟩=some (.int .i64 c):=(bc_ hcell1 0).trans rfl
  have hf0:(w.alloc (.cells #[.int .i64 x.f0,.int .i64 x.f1,.string x.f2,.string x.f3,.slice A4 x.f4.length c4,.slice A5 x.f5.length c5] 38)).frozen? ⟨g,0,none⟩=false:=bf_ hcell1 0
  have hw:wrap64 (c+1)=c+1:=Kit.wrap_of (by omega) (by omega)
  have HB2:Aside0 (Below w0.heap.size w0 ((w.setCell ⟨g,0,none⟩ (.int .i64 (c+1))).alloc (.cells #[.int .i64 x.f0,.int .i64 x.f1,.string x.f2,.string x.f3,.slice A4 x.f4.length c4,.slice A5 x.f5.length c5] 38))):=⟨ba_ (bs_ hB hg) _⟩
  have HC2:Aside0 (((w.setCell ⟨g,0,none⟩ (.int .i64 (c+1))).alloc (.cells #[.int .i64 x.f0,.int .i64 x.f1,.string x.f2,.string x.f3,.slice A4 x.f4.length c4,.slice A5 x.f5.length c5] 38)).heap[g]? = some (.cells #[.int .i64 (c+1)] 3 (0,0))):=⟨ka_ (blk_set hcell 0 (.int .i64 (c+1))) _⟩
  have hx2:((w.setCell ⟨g,0,none⟩ (.int .i64 (c+1))).alloc (.cells #[.int .i64 x.f0,.int .i64 x.f1,.string x.f2,.string x.f3,.slice A4 x.f4.length c4,.slice A5 x.f5.length c5] 38)).cell? ⟨g,0,none⟩=some (.int .i64 (c+1)):=(bc_ HC2.out 0).trans rfl
  have HBX:Aside0 (((w.setCell ⟨g,0,none⟩ (.int .i64 (c+1))).alloc (.cells #[.int .i64 x.f0,.int .i64 x.f1,.string x.f2,.string x.f3,.slice A4 x.f4.length c4,.slice A5 x.f5.length c5] 38)).heap[w.heap.size]? = some (.cells #[.int .i64 x.f0,.int .i64 x.f1,.string x.f2,.string x.f3,.slice A4 x.f4.length c4,.slice A5 x.f5.length c5] 38 (0,0))):=⟨by have h:=blk_new (w.setCell ⟨g,0,none⟩ (.int .i64 (c+1))) (.cells #[.int .i64 x.f0,.int .i64 x.f1,.string x.f2,.string x.f3,.slice A4 x.f4.length c4,.slice A5 x.f5.length c5] 38);simpa [World.setCell] using h⟩
  have e0:((w.setCell ⟨g,0,none⟩ (.int .i64 (c+1))).alloc (.cells #[.int .i64 x.f0,.int .i64 x.f1,.string x.f2,.string x.f3,.slice A4 x.f4.length c4,.slice A5 x.f5.length c5] 38)).cell? ⟨w.heap.size,0,none⟩=some (.int .i64 x.f0):=(bc_ HBX.out 0).trans rfl
  have e1:((w.setCell ⟨g,0,none⟩ (.int .i64 (c+1))).alloc (.cells #[.int .i64 x.f0,.int .i64 x.f1,.string x.f2,.string x.f3,.slice A4 x.f4.length c4,.slice A5 x.f5.length c5] 38)).cell? ⟨w.heap.size,1,none⟩=some (.int .i64 x.f1):=(bc_ HBX.out 1).trans rfl
  have e2:((w.setCell ⟨g,0,none⟩ (.int .i64 (c+1))).alloc (.cells #[.int .i64 x.f0,.int .i64 x.f1,.string x.f2,.string x.f3,.slice A4 x.f4.length c4,.slice A5 x.f5.length c5] 38)).cell? ⟨w.heap.size,2,none⟩=some (.string x.f2):=(bc_ HBX.out 2).trans rfl
  have e3:((w.setCell ⟨g,0,none⟩ (.int .i64 (c+1))).alloc (.cells #[.int .i64 x.f0,.int .i64 x.f1,.string x.f2,.string x.f3,.slice A4 x.f4.length c4,.slice A5 x.f5.length c5] 38)).cell? ⟨w.heap.size,3,none⟩=some (.string x.f3):=(bc_ HBX.out 3).trans rfl
  have e4:((w.setCell ⟨g,0,none⟩ (.int .i64 (c+1))).alloc (.cells #[.int .i64 x.f0,.int .i64 x.f1,.string x.f2,.string x.f3,.slice A4 x.f4.length c4,.slice A5 x.f5.length c5] 38)).cell? ⟨w.heap.size,4,none⟩=some (.slice A4 x.f4.length c4):=(bc_ HBX.out 4).trans rfl
  have e5:((w.setCell ⟨g,0,none⟩ (.int .i64 (c+1))).alloc (.cells #[.int .i64 x.f0,.int .i64 x.f1,.string x.f2,.string x.f3,.slice A4 x.f4.length c4,.slice A5 x.f5.length c5] 38)).cell? ⟨w.heap.size,5,none⟩=some (.slice A5 x.f5.length c5):=(bc_ HBX.out 5).trans rfl
  clear hfit
  obtain rfl:dp=11:=by omega
  have HR:Aside0 ((false,c+1)=nodeI 0 x c):=⟨rfl⟩
  generalize nodeI 0 x c=R at *
  by_cases h6:60<c+1
  case pos =>
   go_enter Tryz.func36,Tryz.ntmps36
   go_wp2
   go_ret
   obtain rfl:=HR.out
   exact ⟨rfl,HC2.out,HB2.out⟩
  case neg =>
   go_enter Tryz.func36,Tryz.ntmps36
   go_wp2
   go_ret
   obtain rfl:=HR.out
   exact ⟨rfl,HC2.out,HB2.out⟩
 | succ n ih =>
  intro x A4 c4 A5 c5 dp c w0 w g hdp hn hfit b0 b1 hB hg hcell h4 l4 h5 l5
  have hb1:=ba_ hB (.cells #[.int .i64 x.f0,.int .i64 x.f1,.string x.f2,.string x.f3,.slice A4 x.f4.length c4,.slice A5 x.f5.length c5] 38)
  have hgl:=blk_lt hcell
  have hne:w.heap.size≠g:=by omega
  have hcell1:=ka_ hcell (.cells #[.int .i64 x.f0,.int .i64 x.f1,.string x.f2,.string x.f3,.slice A4 x.f4.length c4,.slice A5 x.f5.length c5] 38)
  have hx0:(w.alloc (.cells #[.int .i64 x.f0,.int .i64 x.f1,.string x.f2,.string x.f3,.slice A4 x.f4.length c4,.slice A5 x.f5.length c5] 38)).cell? ⟨g,0,none⟩=some (.int .i64 c):=(bc_ hcell1 0).trans rfl
  have hf0:(w.alloc (.cells #[.int .i64 x.f0,.int .i64 x.f1,.string x.f2,.string x.f3,.slice A4 x.f4.length c4,.slice A5 x.f5.length c5] 38)).frozen? ⟨g,0,none⟩=false:=bf_ hcell1 0
  have hw:wrap64 (c+1)=c+1:=Kit.wrap_of (by omega) (by omega)
  have HB2:Aside0 (Below w0.heap.size w0 ((w.setCell ⟨g,0,none⟩ (.int .i64 (c+1))).alloc (.cells #[.int .i64 x.f0,.int .i64 x.f1,.string x.f2,.string x.f3,.slice A4 x.f4.length c4,.slice A5 x.f5.length c5] 38))):=⟨ba_ (bs_ hB hg) _⟩
  have HC2:Aside0 (((w.setCell ⟨g,0,none⟩ (.int .i64 (c+1))).alloc (.cells #[.int .i64 x.f0,.int .i64 x.f1,.string x.f2,.string x.f3,.slice A4 x.f4.length c4,.slice A5 x.f5.length c5] 38)).heap[g]? = some (.cells #[.int .i64 (c+1)] 3 (0,0))):=⟨ka_ (blk_set hcell 0 (.int .i64 (c+1))) _⟩
  have hx2:((w.setCell ⟨g,0,none⟩ (.int .i64 (c+1))).alloc (.cells #[.int .i64 x.f0,.int .i64 x.f1,.string x.f2,.string x.f3,.slice A4 x.f4.length c4,.slice A5 x.f5.length c5] 38)).cell? ⟨g,0,none⟩=some (.int .i64 (c+1)):=(bc_ HC2.out 0).trans rfl
  have HBX:Aside0 (((w.setCell ⟨g,0,none⟩ (.int .i64 (c+1))).alloc (.cells #[.int .i64 x.f0,.int .i64 x.f1,.string x.f2,.string x.f3,.slice A4 x.f4.length c4,.slice A5 x.f5.length c5] 38)).heap[w.heap.size]? = some (.cells #[.int .i64 x.f0,.int .i64 x.f1,.string x.f2,.string x.f3,.slice A4 x.f4.length c4,.slice A5 x.f5.length c5] 38 (0,0))):=⟨by have h:=blk_new (w.setCell ⟨g,0,none⟩ (.int .i64 (c+1))) (.cells #[.int .i64 x.f0,.int .i64 x.f1,.string x.f2,.string x.f3,.slice A4 x.f4.length c4,.slice A5 x.f5.length c5] 38);simpa [World.setCell] using h⟩
  have e0:((w.setCell ⟨g,0,none⟩ (.int .i64 (c+1))).alloc (.cells #[.int .i64 x.f0,.int .i64 x.f1,.string x.f2,.string x.f3,.slice A4 x.f4.length c4,.slice A5 x.f5.length c5] 38)).cell? ⟨w.heap.size,0,none⟩=some (.int .i64 x.f0):=(bc_ HBX.out 0).trans rfl
  have e1:((w.setCell ⟨g,0,none⟩ (.int .i64 (c+1))).alloc (.cells #[.int .i64 x.f0,.int .i64 x.f1,.string x.f2,.string x.f3,.slice A4 x.f4.length c4,.slice A5 x.f5.length c5] 38)).cell? ⟨w.heap.size,1,none⟩=some (.int .i64 x.f1):=(bc_ HBX.out 1).trans rfl
  have e2:((w.setCell ⟨g,0,none⟩ (.int .i64 (c+1))).alloc (.cells #[.int .i64 x.f0,.int .i64 x.f1,.string x.f2,.string x.f3,.slice A4 x.f4.length c4,.slice A5 x.f5.length c5] 38)).cell? ⟨w.heap.size,2,none⟩=some (.string x.f2):=(bc_ HBX.out 2).trans rfl
  have e3:((w.setCell ⟨g,0,none⟩ (.int .i64 (c+1))).alloc (.cells #[.int .i64 x.f0,.int .i64 x.f1,.string x.f2,.string x.f3,.slice A4 x.f4.length c4,.slice A5 x.f5.length c5] 38)).cell? ⟨w.heap.size,3,none⟩=some (.string x.f3):=(bc_ HBX.out 3).trans rfl
  have e4:((w.setCell ⟨g,0,none⟩ (.int .i64 (c+1))).alloc (.cells #[.int .i64 x.f0,.int .i64 x.f1,.string x.f2,.string x.f3,.slice A4 x.f4.length c4,.slice A5 x.f5.length c5] 38)).cell? ⟨w.heap.size,4,none⟩=some (.slice A4 x.f4.length c4):=(bc_ HBX.out 4).trans rfl
  have e5:((w.setCell ⟨g,0,none⟩ (.int .i64 (c+1))).alloc (.cells #[.int .i64 x.f0,.int .i64 x.f1,.string x.f2,.string x.f3,.slice A4 x.f4.length c4,.slice A5 x.f5.length c5] 38)).cell? ⟨w.heap.size,5,none⟩=some (.slice A5 x.f5.length c5):=(bc_ HBX.out 5).trans rfl
  obtain ⟨hs,ha,hk⟩:=fitB_open hfit
  clear hfit
  have QO:Aside0 (∀ V,Below w0.heap.size w0 V→Calls Tryz.prog 46 #[.agg #[.int .i64 x.f0,.int .i64 x.f1,.string x.f2,.string x.f3,.slice A4 x.f4.length c4,.slice A5 x.f5.length c5]] V fun e w'=>e=.returned (.bool (ownB x))∧Below V.heap.size V w'):=⟨fun V hV=>impl_Node_isOwn.pure x A4 c4 A5 c5 V (cb_ h4 hV) l4 (cb_ h5 hV) l5 hs ha⟩
  have QV:Aside0 (∀ V,Below w0.heap.size w0 V→Calls Tryz.prog 26 #[.agg #[.int .i64 x.f0,.int .i64 x.f1,.string x.f2,.string x.f3,.slice A4 x.f4.length c4,.slice A5 x.f5.length c5]] V fun e w'=>e=.returned (.bool (voidB x))∧Below V.heap.size V w'):=⟨fun V hV=>impl_Node_isVoid.pure x A4 c4 A5 c5 V (cb_ h4 hV) l4 (cb_ h5 hV) l5⟩
  have QR:Aside0 (∀ V,Below w0.heap.size w0 V→Calls Tryz.prog 28 #[.agg #[.int .i64 x.f0,.int .i64 x.f1,.string x.f2,.string x.f3,.slice A4 x.f4.length c4,.slice A5 x.f5.length c5]] V fun e w'=>e=.returned (.bool (rawB x))∧Below V.heap.size V w'):=⟨fun V hV=>impl_Node_isRaw.pure x A4 c4 A5 c5 V (cb_ h4 hV) l4 (cb_ h5 hV) l5⟩
  have QT:Aside0 (∀ V,Below w0.heap.size w0 V→Calls Tryz.prog 47 #[.slice A5 x.f5.length c5] V fun e w'=>e=.returned (.bool (!x.f5.any noText))∧Below V.heap.size V w'):=⟨fun V hV=>impl_isTexts.calls A5 c5 x.f5 _ V (cb_ h5 hV) l5 rfl⟩
  have hd10:¬ 10<dp:=by omega
  obtain ⟨R,hR⟩:∃ R,nodeI (n+1) x c=R:=⟨_,rfl⟩
  rw [hR]
  rw [nodeI] at hR
  by_cases h6:60<c+1
  case pos =>
   rw [if_pos h6] at hR
   have HR:=A_ hR
   clear hR ih
   go_enter Tryz.func36,Tryz.ntmps36
   go_wp2
   go_ret
   obtain rfl:=HR.out
   exact ⟨rfl,HC2.out,HB2.out⟩
  case neg =>
   rw [if_neg h6] at hR
   unfold nodeOK voidFull rawBad at hR
   have hL:x.f5.length≤9223372036854775807:=h5.2.1
   generalize ownB x=bo at *
   generalize voidB x=bv at *
   generalize rawB x=br at *
   generalize x.f5.any noText=bt at *
   cases bo with
   | false =>
    simp only [Bool.false_and,Bool.false_eq_true,if_false] at hR
    have HR:=A_ hR
    clear hR
    go_enter Tryz.func36,Tryz.ntmps36
    go_wp2_with (first|(go_at_call 46;(with_reducible refine (QO.out _ HB2.out).mono ?_);rintro e v1 ⟨rfl,hv1⟩;have HV1:=A_ (HB2.out.trans (hv1.mono HB2.out.size));have HG1:=A_ (kb_ HC2.out hv1);have f0:=pc_ hv1 e0;have f1:=pc_ hv1 e1;have f2:=pc_ hv1 e2;have f3:=pc_ hv1 e3;have f4:=pc_ hv1 e4;have f5:=pc_ hv1 e5;clear hv1))
    go_ret
    obtain rfl:=HR.out
    exact ⟨rfl,HG1.out,HV1.out⟩
   | true =>
    cases bv with
    | false =>
     simp only [Bool.false_and,Bool.not_false,Bool.true_and] at hR
     cases br with
     | false =>
      simp only [Bool.true_and,Bool.false_and,Bool.not_false,Bool.and_true,if_true] at hR
      have HR:=A_ hR
      clear hR
      go_enter Tryz.func36,Tryz.ntmps36
      go_wp2_with (first|(go_at_call 46;(with_reducible refine (QO.out _ HB2.out).mono ?_);rintro e v1 ⟨rfl,hv1⟩;have HV1:=A_ (HB2.out.trans (hv1.mono HB2.out.size));have HG1:=A_ (kb_ HC2.out hv1);have f0:=pc_ hv1 e0;have f1:=pc_ hv1 e1;have f2:=pc_ hv1 e2;have f3:=pc_ hv1 e3;have f4:=pc_ hv1 e4;have f5:=pc_ hv1 e5;clear hv1)|(go_at_call 26;(with_reducible refine (QV.out _ HV1.out).mono ?_);rintro e v2 ⟨rfl,hv2⟩;have HV2:=A_ (HV1.out.trans (hv2.mono HV1.out.size));have HG2:=A_ (kb_ HG1.out hv2);have g0:=pc_ hv2 f0;have g1:=pc_ hv2 f1;have g2:=pc_ hv2 f2;have g3:=pc_ hv2 f3;have g4:=pc_ hv2 f4;have g5:=pc_ hv2 f5;clear hv2)|(go_at_call 28;(with_reducible refine (QR.out _ HV2.out).mono ?_);rintro e v3 ⟨rfl,hv3⟩;have HV3:=A_ (HV2.out.trans (hv3.mono HV2.out.size));have HG3:=A_ (kb_ HG2.out hv3);have h0:=pc_ hv3 g0;have h1:=pc_ hv3 g1;have h2:=pc_ hv3 g2;have h3:=pc_ hv3 g3;have h4:=pc_ hv3 g4;have h5:=pc_ hv3 g5;clear hv3))
      try clear e0 e1 e2 e3 e4 e5
      try clear f0 f1 f2 f3 f4 f5
      try clear g0 g1 g2 g3 g4 g5
      try clear h0 h1 h2 h3 h4 h5
      go_loopg [8,50] x.f5.length (fun gg _ s50 wr=>∃ (kk:Nat) (cc:Int),kk≤x.f5.length∧x.f5.length - kk≤gg∧s50=.int .i64 kk∧0≤cc∧cc≤60∧Aside0 (kidsI (nodeI n) (x.f5.drop kk) cc=R)∧Aside0 (wr.heap[g]? = some (.cells #[.int .i64 cc] 3 (0,0)))∧Aside0 (Below w0.heap.size w0 wr))
      case atStart=>exact ⟨0,c+1,Nat.zero_le _,by omega,rfl,by omega,by omega,HR,HG3,HV3⟩
      case round =>
       obtain ⟨kk,cc,hkk,hgg,rfl,z0,z1,KI,HG,BW⟩:=hrel
       by_cases hlt:kk<x.f5.length
       case pos =>
        have hltz:(kk:Int)<(x.f5.length:Int):=by omega
        obtain ⟨ad,cs,e,hcl,hK,hc⟩:=Kd.C_get h5 z38 (kk:Int) (by omega) (by omega)
        rw [Int.toNat_natCast] at hK hc
        have hdr:x.f5.drop kk=x.f5.getD kk z38 :: x.f5.drop (kk+1):=by rw [List.getD_eq_getElem?_getD,List.getElem?_eq_getElem hlt];exact List.drop_eq_getElem_cons hlt
        have hmem:x.f5.getD kk z38∈x.f5:=by rw [List.getD_eq_getElem?_getD,List.getElem?_eq_getElem hlt];exact List.getElem_mem hlt
        have KI2:=KI.out
        rw [hdr,kidsI] at KI2
        have hky:=hk _ hmem
        clear KI hdr hmem
        generalize x.f5.getD kk z38=y at *
        obtain ⟨yA4,yc4,yA5,yc5,rfl,m4,q4,m5,q5⟩:=k38_open hK
        subst e
        have r0:wr.cell? (ad.add (kk * 6))=some (.int .i64 y.f0):=pc_ BW.out (hc 0 _ rfl)
        have r1:wr.cell? ⟨(ad.add (kk * 6)).block,(ad.add (kk * 6)).off+1,none⟩=some (.int .i64 y.f1):=pc_ BW.out (by rw [←add_field _ _ 1 (by omega)];exact hc 1 _ rfl)
        have r2:wr.cell? ⟨(ad.add (kk * 6)).block,(ad.add (kk * 6)).off+2,none⟩=some (.string y.f2):=pc_ BW.out (by rw [←add_field _ _ 2 (by omega)];exact hc 2 _ rfl)
        have r3:wr.cell? ⟨(ad.add (kk * 6)).block,(ad.add (kk * 6)).off+3,none⟩=some (.string y.f3):=pc_ BW.out (by rw [←add_field _ _ 3 (by omega)];exact hc 3 _ rfl)
        have r4:wr.cell? ⟨(ad.add (kk * 6)).block,(ad.add (kk * 6)).off+4,none⟩=some (.slice yA4 y.f4.length yc4):=pc_ BW.out (by rw [←add_field _ _ 4 (by omega)];exact hc 4 _ rfl)
        have r5:wr.cell? ⟨(ad.add (kk * 6)).block,(ad.add (kk * 6)).off+5,none⟩=some (.slice yA5 y.f5.length yc5):=pc_ BW.out (by rw [←add_field _ _ 5 (by omega)];exact hc 5 _ rfl)
        have hwd:wrap64 (dp+1)=dp+1:=Kit.wrap_of (by omega) (by omega)
        have QN:=A_ (ih y yA4 yc4 yA5 yc5 (dp+1) cc w0 (wr.alloc (.cells #[.int .i64 y.f0,.int .i64 y.f1,.string y.f2,.string y.f3,.slice yA4 y.f4.length yc4,.slice yA5 y.f5.length yc5] 38)) g (by omega) (by omega) hky z0 z1 (ba_ BW.out _) hg (ka_ HG.out _) q4 m4 q5 m5)
        have hbd:=nodeI_bd n y cc z0 z1
        clear hc hK hcl hky q4 q5 m4 m5
        obtain ⟨b,hb⟩:∃ b,(nodeI n y cc).1=b:=⟨_,rfl⟩
        rw [hb] at QN hbd KI2
        generalize (nodeI n y cc).2=c2 at *
        have KI3:=A_ KI2
        clear KI2 hb
        have HBD:=A_ hbd
        clear hbd
        cases b with
        | false =>
         have KI4:Aside0 ((false,c2)=R):=⟨by have h:=KI3.out;rwa [if_neg Bool.false_ne_true] at h⟩
         clear KI3 HBD
         go_wp2_with (go_at_call 36;(with_reducible refine QN.out.mono ?_);rintro e v9 ⟨rfl,hg9,hv9⟩;have HG9:=A_ hg9;have HV9:=A_ hv9;clear hg9 hv9)
         go_ret
         obtain rfl:=KI4.out
         exact ⟨rfl,HG9.out,HV9.out⟩
        | true =>
         have KI4:Aside0 (kidsI (nodeI n) (x.f5.drop (kk+1)) c2=R):=⟨by have h:=KI3.out;rwa [if_pos rfl] at h⟩
         have B0:=(HBD.out rfl).1
         have B1:=(HBD.out rfl).2
         clear KI3 HBD
         go_wp2_with (go_at_call 36;(with_reducible refine QN.out.mono ?_);rintro e v9 ⟨rfl,hg9,hv9⟩;have HG9:=A_ hg9;have HV9:=A_ hv9;clear hg9 hv9)
         go_roundg (x.f5.length - (kk+1))
         case measure=>omega
         case rel=>exact ⟨kk+1,c2,by omega,by omega,by go_num,B0,B1,KI4,HG9,HV9⟩
       case neg =>
        have hltz:¬ (kk:Int)<(x.f5.length:Int):=by omega
        have KI2:=KI.out
        rw [List.drop_eq_nil_of_le (by omega),kidsI] at KI2
        have KI3:=A_ KI2
        clear KI2
        go_wp2
        go_ret
        obtain rfl:=KI3.out
        exact ⟨rfl,HG.out,BW.out⟩
     | true =>
      cases bt with
      | true =>
       simp only [Bool.true_and,Bool.and_true,Bool.not_true,Bool.and_false,Bool.false_eq_true,if_false] at hR
       have HR:=A_ hR
       clear hR
       go_enter Tryz.func36,Tryz.ntmps36
       go_wp2_with (first|(go_at_call 46;(with_reducible refine (QO.out _ HB2.out).mono ?_);rintro e v1 ⟨rfl,hv1⟩;have HV1:=A_ (HB2.out.trans (hv1.mono HB2.out.size));have HG1:=A_ (kb_ HC2.out hv1);have f0:=pc_ hv1 e0;have f1:=pc_ hv1 e1;have f2:=pc_ hv1 e2;have f3:=pc_ hv1 e3;have f4:=pc_ hv1 e4;have f5:=pc_ hv1 e5;clear hv1)|(go_at_call 26;(with_reducible refine (QV.out _ HV1.out).mono ?_);rintro e v2 ⟨rfl,hv2⟩;have HV2:=A_ (HV1.out.trans (hv2.mono HV1.out.size));have HG2:=A_ (kb_ HG1.out hv2);have g0:=pc_ hv2 f0;have g1:=pc_ hv2 f1;have g2:=pc_ hv2 f2;have g3:=pc_ hv2 f3;have g4:=pc_ hv2 f4;have g5:=pc_ hv2 f5;clear hv2)|(go_at_call 28;(with_reducible refine (QR.out _ HV2.out).mono ?_);rintro e v3 ⟨rfl,hv3⟩;have HV3:=A_ (HV2.out.trans (hv3.mono HV2.out.size));have HG3:=A_ (kb_ HG2.out hv3);have h0:=pc_ hv3 g0;have h1:=pc_ hv3 g1;have h2:=pc_ hv3 g2;have h3:=pc_ hv3 g3;have h4:=pc_ hv3 g4;have h5:=pc_ hv3 g5;clear hv3)|(go_at_call 47;(with_reducible refine (QT.out _ HV3.out).mono ?_);rintro e v4 ⟨rfl,hv4⟩;have HV4:=A_ (HV3.out.trans (hv4.mono HV3.out.size));have HG4:=A_ (kb_ HG3.out hv4);have i0:=pc_ hv4 h0;have i1:=pc_ hv4 h1;have i2:=pc_ hv4 h2;have i3:=pc_ hv4 h3;have i4:=pc_ hv4 h4;have i5:=pc_ hv4 h5;clear hv4))
       go_ret
       obtain rfl:=HR.out
       exact ⟨rfl,HG4.out,HV4.out⟩
      | false =>
       simp only [Bool.true_and,Bool.and_true,Bool.not_false,Bool.and_false,if_true] at hR
       have HR:=A_ hR
       clear hR
       go_enter Tryz.func36,Tryz.ntmps36
       go_wp2_with (first|(go_at_call 46;(with_reducible refine (QO.out _ HB2.out).mono ?_);rintro e v1 ⟨rfl,hv1⟩;have HV1:=A_ (HB2.out.trans (hv1.mono HB2.out.size));have HG1:=A_ (kb_ HC2.out hv1);have f0:=pc_ hv1 e0;have f1:=pc_ hv1 e1;have f2:=pc_ hv1 e2;have f3:=pc_ hv1 e3;have f4:=pc_ hv1 e4;have f5:=pc_ hv1 e5;clear hv1)|(go_at_call 26;(with_reducible refine (QV.out _ HV1.out).mono ?_);rintro e v2 ⟨rfl,hv2⟩;have HV2:=A_ (HV1.out.trans (hv2.mono HV1.out.size));have HG2:=A_ (kb_ HG1.out hv2);have g0:=pc_ hv2 f0;have g1:=pc_ hv2 f1;have g2:=pc_ hv2 f2;have g3:=pc_ hv2 f3;have g4:=pc_ hv2 f4;have g5:=pc_ hv2 f5;clear hv2)|(go_at_call 28;(with_reducible refine (QR.out _ HV2.out).mono ?_);rintro e v3 ⟨rfl,hv3⟩;have HV3:=A_ (HV2.out.trans (hv3.mono HV2.out.size));have HG3:=A_ (kb_ HG2.out hv3);have h0:=pc_ hv3 g0;have h1:=pc_ hv3 g1;have h2:=pc_ hv3 g2;have h3:=pc_ hv3 g3;have h4:=pc_ hv3 g4;have h5:=pc_ hv3 g5;clear hv3)|(go_at_call 47;(with_reducible refine (QT.out _ HV3.out).mono ?_);rintro e v4 ⟨rfl,hv4⟩;have HV4:=A_ (HV3.out.trans (hv4.mono HV3.out.size));have HG4:=A_ (kb_ HG3.out hv4);have i0:=pc_ hv4 h0;have i1:=pc_ hv4 h1;have i2:=pc_ hv4 h2;have i3:=pc_ hv4 h3;have i4:=pc_ hv4 h4;have i5:=pc_ hv4 h5;clear hv4))
       try clear e0 e1 e2 e3 e4 e5
       try clear f0 f1 f2 f3 f4 f5
       try clear g0 g1 g2 g3 g4 g5
       try clear h0 h1 h2 h3 h4 h5
       try clear i0 i1 i2 i3 i4 i5
       go_loopg [8,50] x.f5.length (fun gg _ s50 wr=>∃ (kk:Nat) (cc:Int),kk≤x.f5.length∧x.f5.length - kk≤gg∧s50=.int .i64 kk∧0≤cc∧cc≤60∧Aside0 (kidsI (nodeI n) (x.f5.drop kk) cc=R)∧Aside0 (wr.heap[g]? = some (.cells #[.int .i64 cc] 3 (0,0)))∧Aside0 (Below w0.heap.size w0 wr))
       case atStart=>exact ⟨0,c+1,Nat.zero_le _,by omega,rfl,by omega,by omega,HR,HG4,HV4⟩
       case round =>
        obtain ⟨kk,cc,hkk,hgg,rfl,z0,z1,KI,HG,BW⟩:=hrel
        by_cases hlt:kk<x.f5.length
        case pos =>
         have hltz:(kk:Int)<(x.f5.length:Int):=by omega
         obtain ⟨ad,cs,e,hcl,hK,hc⟩:=Kd.C_get h5 z38 (kk:Int) (by omega) (by omega)
         rw [Int.toNat_natCast] at hK hc
         have hdr:x.f5.drop kk=x.f5.getD kk z38 :: x.f5.drop (kk+1):=by rw [List.getD_eq_getElem?_getD,List.getElem?_eq_getElem hlt];exact List.drop_eq_getElem_cons hlt
         have hmem:x.f5.getD kk z38∈x.f5:=by rw [List.getD_eq_getElem?_getD,List.getElem?_eq_getElem hlt];exact List.getElem_mem hlt
         have KI2:=KI.out
         rw [hdr,kidsI] at KI2
         have hky:=hk _ hmem
         clear KI hdr hmem
         generalize x.f5.getD kk z38=y at *
         obtain ⟨yA4,yc4,yA5,yc5,rfl,m4,q4,m5,q5⟩:=k38_open hK
         subst e
         have r0:wr.cell? (ad.add (kk * 6))=some (.int .i64 y.f0):=pc_ BW.out (hc 0 _ rfl)
         have r1:wr.cell? ⟨(ad.add (kk * 6)).block,(ad.add (kk * 6)).off+1,none⟩=some (.int .i64 y.f1):=pc_ BW.out (by rw [←add_field _ _ 1 (by omega)];exact hc 1 _ rfl)
         have r2:wr.cell? ⟨(ad.add (kk * 6)).block,(ad.add (kk * 6)).off+2,none⟩=some (.string y.f2):=pc_ BW.out (by rw [←add_field _ _ 2 (by omega)];exact hc 2 _ rfl)
         have r3:wr.cell? ⟨(ad.add (kk * 6)).block,(ad.add (kk * 6)).off+3,none⟩=some (.string y.f3):=pc_ BW.out (by rw [←add_field _ _ 3 (by omega)];exact hc 3 _ rfl)
         have r4:wr.cell? ⟨(ad.add (kk * 6)).block,(ad.add (kk * 6)).off+4,none⟩=some (.slice yA4 y.f4.length yc4):=pc_ BW.out (by rw [←add_field _ _ 4 (by omega)];exact hc 4 _ rfl)
         have r5:wr.cell? ⟨(ad.add (kk * 6)).block,(ad.add (kk * 6)).off+5,none⟩=some (.slice yA5 y.f5.length yc5):=pc_ BW.out (by rw [←add_field _ _ 5 (by omega)];exact hc 5 _ rfl)
         have hwd:wrap64 (dp+1)=dp+1:=Kit.wrap_of (by omega) (by omega)
         have QN:=A_ (ih y yA4 yc4 yA5 yc5 (dp+1) cc w0 (wr.alloc (.cells #[.int .i64 y.f0,.int .i64 y.f1,.string y.f2,.string y.f3,.slice yA4 y.f4.length yc4,.slice yA5 y.f5.length yc5] 38)) g (by omega) (by omega) hky z0 z1 (ba_ BW.out _) hg (ka_ HG.out _) q4 m4 q5 m5)
         have hbd:=nodeI_bd n y cc z0 z1
         clear hc hK hcl hky q4 q5 m4 m5
         obtain ⟨b,hb⟩:∃ b,(nodeI n y cc).1=b:=⟨_,rfl⟩
         rw [hb] at QN hbd KI2
         generalize (nodeI n y cc).2=c2 at *
         have KI3:=A_ KI2
         clear KI2 hb
         have HBD:=A_ hbd
         clear hbd
         cases b with
         | false =>
          have KI4:Aside0 ((false,c2)=R):=⟨by have h:=KI3.out;rwa [if_neg Bool.false_ne_true] at h⟩
          clear KI3 HBD
          go_wp2_with (go_at_call 36;(with_reducible refine QN.out.mono ?_);rintro e v9 ⟨rfl,hg9,hv9⟩;have HG9:=A_ hg9;have HV9:=A_ hv9;clear hg9 hv9)
          go_ret
          obtain rfl:=KI4.out
          exact ⟨rfl,HG9.out,HV9.out⟩
         | true =>
          have KI4:Aside0 (kidsI (nodeI n) (x.f5.drop (kk+1)) c2=R):=⟨by have h:=KI3.out;rwa [if_pos rfl] at h⟩
          have B0:=(HBD.out rfl).1
          have B1:=(HBD.out rfl).2
          clear KI3 HBD
          go_wp2_with (go_at_call 36;(with_reducible refine QN.out.mono ?_);rintro e v9 ⟨rfl,hg9,hv9⟩;have HG9:=A_ hg9;have HV9:=A_ hv9;clear hg9 hv9)
          go_roundg (x.f5.length - (kk+1))
          case measure=>omega
          case rel=>exact ⟨kk+1,c2,by omega,by omega,by go_num,B0,B1,KI4,HG9,HV9⟩
        case neg =>
         have hltz:¬ (kk:Int)<(x.f5.length:Int):=by omega
         have KI2:=KI.out
         rw [List.drop_eq_nil_of_le (by omega),kidsI] at KI2
         have KI3:=A_ KI2
         clear KI2
         go_wp2
         go_ret
         obtain rfl:=KI3.out
         exact ⟨rfl,HG.out,BW.out⟩
    | true =>
     by_cases hkz:0<x.f5.length
     case pos =>
      have hkz2:(0:Int)<(x.f5.length:Int):=by omega
      rw [dt_ hkz] at hR
      simp only [Bool.true_and,Bool.not_true,Bool.and_false,Bool.false_and,Bool.false_eq_true,if_false] at hR
      have HR:=A_ hR
      clear hR
      go_enter Tryz.func36,Tryz.ntmps36
      go_wp2_with (first|(go_at_call 46;(with_reducible refine (QO.out _ HB2.out).mono ?_);rintro e v1 ⟨rfl,hv1⟩;have HV1:=A_ (HB2.out.trans (hv1.mono HB2.out.size));have HG1:=A_ (kb_ HC2.out hv1);have f0:=pc_ hv1 e0;have f1:=pc_ hv1 e1;have f2:=pc_ hv1 e2;have f3:=pc_ hv1 e3;have f4:=pc_ hv1 e4;have f5:=pc_ hv1 e5;clear hv1)|(go_at_call 26;(with_reducible refine (QV.out _ HV1.out).mono ?_);rintro e v2 ⟨rfl,hv2⟩;have HV2:=A_ (HV1.out.trans (hv2.mono HV1.out.size));have HG2:=A_ (kb_ HG1.out hv2);have g0:=pc_ hv2 f0;have g1:=pc_ hv2 f1;have g2:=pc_ hv2 f2;have g3:=pc_ hv2 f3;have g4:=pc_ hv2 f4;have g5:=pc_ hv2 f5;clear hv2))
      go_ret
      obtain rfl:=HR.out
      exact ⟨rfl,HG2.out,HV2.out⟩
     case neg =>
      rw [df_ hkz] at hR
      simp only [Bool.and_false,Bool.not_false,Bool.true_and] at hR
      generalize hlen:x.f5.length=n5 at *
      obtain rfl:n5=0:=by omega
      have HLEN:=A_ hlen
      clear hlen hkz
      cases br with
      | false =>
       simp only [Bool.true_and,Bool.false_and,Bool.not_false,Bool.and_true,if_true] at hR
       have HR:=A_ hR
       clear hR
       have KI:Aside0 ((true,c+1)=R):=⟨by have h:=HR.out;rwa [List.length_eq_zero_iff.1 HLEN.out] at h⟩
       clear HR HLEN
       go_enter Tryz.func36,Tryz.ntmps36
       go_wp2_with (first|(go_at_call 46;(with_reducible refine (QO.out _ HB2.out).mono ?_);rintro e v1 ⟨rfl,hv1⟩;have HV1:=A_ (HB2.out.trans (hv1.mono HB2.out.size));have HG1:=A_ (kb_ HC2.out hv1);have f0:=pc_ hv1 e0;have f1:=pc_ hv1 e1;have f2:=pc_ hv1 e2;have f3:=pc_ hv1 e3;have f4:=pc_ hv1 e4;have f5:=pc_ hv1 e5;clear hv1)|(go_at_call 26;(with_reducible refine (QV.out _ HV1.out).mono ?_);rintro e v2 ⟨rfl,hv2⟩;have HV2:=A_ (HV1.out.trans (hv2.mono HV1.out.size));have HG2:=A_ (kb_ HG1.out hv2);have g0:=pc_ hv2 f0;have g1:=pc_ hv2 f1;have g2:=pc_ hv2 f2;have g3:=pc_ hv2 f3;have g4:=pc_ hv2 f4;have g5:=pc_ hv2 f5;clear hv2)|(go_at_call 28;(with_reducible refine (QR.out _ HV2.out).mono ?_);rintro e v3 ⟨rfl,hv3⟩;have HV3:=A_ (HV2.out.trans (hv3.mono HV2.out.size));have HG3:=A_ (kb_ HG2.out hv3);have h0:=pc_ hv3 g0;have h1:=pc_ hv3 g1;have h2:=pc_ hv3 g2;have h3:=pc_ hv3 g3;have h4:=pc_ hv3 g4;have h5:=pc_ hv3 g5;clear hv3))
       try clear e0 e1 e2 e3 e4 e5
       try clear f0 f1 f2 f3 f4 f5
       try clear g0 g1 g2 g3 g4 g5
       try clear h0 h1 h2 h3 h4 h5
       go_loopg [8,50] 0 (fun gg _ s50 wr=>s50=.int .i64 0∧Aside0 (wr.heap[g]? = some (.cells #[.int .i64 (c+1)] 3 (0,0)))∧Aside0 (Below w0.heap.size w0 wr))
       case atStart=>exact ⟨rfl,HG3,HV3⟩
       case round =>
        obtain ⟨rfl,HG,BW⟩:=hrel
        go_wp2
        go_ret
        obtain rfl:=KI.out
        exact ⟨rfl,HG.out,BW.out⟩
      | true =>
       cases bt with
       | true =>
        simp only [Bool.true_and,Bool.and_true,Bool.not_true,Bool.and_false,Bool.false_eq_true,if_false] at hR
        have HR:=A_ hR
        clear hR
        go_enter Tryz.func36,Tryz.ntmps36
        go_wp2_with (first|(go_at_call 46;(with_reducible refine (QO.out _ HB2.out).mono ?_);rintro e v1 ⟨rfl,hv1⟩;have HV1:=A_ (HB2.out.trans (hv1.mono HB2.out.size));have HG1:=A_ (kb_ HC2.out hv1);have f0:=pc_ hv1 e0;have f1:=pc_ hv1 e1;have f2:=pc_ hv1 e2;have f3:=pc_ hv1 e3;have f4:=pc_ hv1 e4;have f5:=pc_ hv1 e5;clear hv1)|(go_at_call 26;(with_reducible refine (QV.out _ HV1.out).mono ?_);rintro e v2 ⟨rfl,hv2⟩;have HV2:=A_ (HV1.out.trans (hv2.mono HV1.out.size));have HG2:=A_ (kb_ HG1.out hv2);have g0:=pc_ hv2 f0;have g1:=pc_ hv2 f1;have g2:=pc_ hv2 f2;have g3:=pc_ hv2 f3;have g4:=pc_ hv2 f4;have g5:=pc_ hv2 f5;clear hv2)|(go_at_call 28;(with_reducible refine (QR.out _ HV2.out).mono ?_);rintro e v3 ⟨rfl,hv3⟩;have HV3:=A_ (HV2.out.trans (hv3.mono HV2.out.size));have HG3:=A_ (kb_ HG2.out hv3);have h0:=pc_ hv3 g0;have h1:=pc_ hv3 g1;have h2:=pc_ hv3 g2;have h3:=pc_ hv3 g3;have h4:=pc_ hv3 g4;have h5:=pc_ hv3 g5;clear hv3)|(go_at_call 47;(with_reducible refine (QT.out _ HV3.out).mono ?_);rintro e v4 ⟨rfl,hv4⟩;have HV4:=A_ (HV3.out.trans (hv4.mono HV3.out.size));have HG4:=A_ (kb_ HG3.out hv4);have i0:=pc_ hv4 h0;have i1:=pc_ hv4 h1;have i2:=pc_ hv4 h2;have i3:=pc_ hv4 h3;have i4:=pc_ hv4 h4;have i5:=pc_ hv4 h5;clear hv4))
        go_ret
        obtain rfl:=HR.out
        exact ⟨rfl,HG4.out,HV4.out⟩
       | false =>
        simp only [Bool.true_and,Bool.and_true,Bool.not_false,Bool.and_false,if_true] at hR
        have HR:=A_ hR
        clear hR
        have KI:Aside0 ((true,c+1)=R):=⟨by have h:=HR.out;rwa [List.length_eq_zero_iff.1 HLEN.out] at h⟩
        clear HR HLEN
        go_enter Tryz.func36,Tryz.ntmps36
        go_wp2_with (first|(go_at_call 46;(with_reducible refine (QO.out _ HB2.out).mono ?_);rintro e v1 ⟨rfl,hv1⟩;have HV1:=A_ (HB2.out.trans (hv1.mono HB2.out.size));have HG1:=A_ (kb_ HC2.out hv1);have f0:=pc_ hv1 e0;have f1:=pc_ hv1 e1;have f2:=pc_ hv1 e2;have f3:=pc_ hv1 e3;have f4:=pc_ hv1 e4;have f5:=pc_ hv1 e5;clear hv1)|(go_at_call 26;(with_reducible refine (QV.out _ HV1.out).mono ?_);rintro e v2 ⟨rfl,hv2⟩;have HV2:=A_ (HV1.out.trans (hv2.mono HV1.out.size));have HG2:=A_ (kb_ HG1.out hv2);have g0:=pc_ hv2 f0;have g1:=pc_ hv2 f1;have g2:=pc_ hv2 f2;have g3:=pc_ hv2 f3;have g4:=pc_ hv2 f4;have g5:=pc_ hv2 f5;clear hv2)|(go_at_call 28;(with_reducible refine (QR.out _ HV2.out).mono ?_);rintro e v3 ⟨rfl,hv3⟩;have HV3:=A_ (HV2.out.trans (hv3.mono HV2.out.size));have HG3:=A_ (kb_ HG2.out hv3);have h0:=pc_ hv3 g0;have h1:=pc_ hv3 g1;have h2:=pc_ hv3 g2;have h3:=pc_ hv3 g3;have h4:=pc_ hv3 g4;have h5:=pc_ hv3 g5;clear hv3)|(go_at_call 47;(with_reducible refine (QT.out _ HV3.out).mono ?_);rintro e v4 ⟨rfl,hv4⟩;have HV4:=A_ (HV3.out.trans (hv4.mono HV3.out.size));have HG4:=A_ (kb_ HG3.out hv4);have i0:=pc_ hv4 h0;have i1:=pc_ hv4 h1;have i2:=pc_ hv4 h2;have i3:=pc_ hv4 h3;have i4:=pc_ hv4 h4;have i5:=pc_ hv4 h5;clear hv4))
        try clear e0 e1 e2 e3 e4 e5
        try clear f0 f1 f2 f3 f4 f5
        try clear g0 g1 g2 g3 g4 g5
        try clear h0 h1 h2 h3 h4 h5
        try clear i0 i1 i2 i3 i4 i5
        go_loopg [8,50] 0 (fun gg _ s50 wr=>s50=.int .i64 0∧Aside0 (wr.heap[g]? = some (.cells #[.int .i64 (c+1)] 3 (0,0)))∧Aside0 (Below w0.heap.size w0 wr))
        case atStart=>exact ⟨rfl,HG4,HV4⟩
        case round =>
         obtain ⟨rfl,HG,BW⟩:=hrel
         go_wp2
         go_ret
         obtain rfl:=KI.out
         exact ⟨rfl,HG.out,BW.out⟩
end Go.Proofs.YtlpncjeahdfolaaGreatDoor.PFnExactSerialize
