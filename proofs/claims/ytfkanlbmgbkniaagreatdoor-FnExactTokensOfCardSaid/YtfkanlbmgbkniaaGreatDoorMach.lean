/- Of the words of the kit's print and of this session's own, those that this law's proof names. No conditions. -/
import Derived.Test.YtfkanlbmgbkniaaGreatDoorWWords
import Derived.Test.YtfkanlbmgbkniaaGreatDoorWMore
import Derived.Test.YtfkanlbmgbkniaaGreatDoorWApart
import Derived.LoopTactic
import Derived.WalkKit
import Derived.Deep.LoopGhost
import Derived.Laws.Externs
import Derived.Laws.Entries
namespace Go.Proofs.YtfkanlbmgbkniaaGreatDoor.Mach
open Go.RowKit Go.Proofs.YtfkanlbmgbkniaaGreatDoorW.PrintWords
def firstP (p:Nat→Bool) (n:Nat):Nat→Nat→Int
 | 0,_=>-1
 | d+1,i=>if i<n then (if p i=true then (i:Int) else firstP p n d (i+1)) else -1
def idxP (p:Nat→Bool) (n:Nat):Int:=firstP p n n 0
theorem firstP_hit (p:Nat→Bool) (n k:Nat) (hk:k<n) (hp:p k=true):∀ d i,i≤k→k<i+d→(∀ j,i≤j→j<k→p j=false)→firstP p n d i=k:=by
 intro d
 induction d with
 | zero=>intro i h1 h2;omega
 | succ d ih =>
  intro i h1 h2 hb
  rw [firstP,if_pos (by omega)]
  by_cases e:i=k
  ·subst e;rw [if_pos hp]
  ·rw [if_neg (by rw [hb i (Nat.le_refl _) (by omega)];exact Bool.false_ne_true)]
   exact ih (i+1) (by omega) (by omega) (fun j h3 h4=>hb j (by omega) h4)
theorem idxP_hit (p:Nat→Bool) (n k:Nat) (hk:k<n) (hp:p k=true) (hb:∀ j,j<k→p j=false):idxP p n=k :=
 firstP_hit p n k hk hp n 0 (Nat.zero_le _) (by omega) (fun j _ h=>hb j h)
theorem idxP_miss (p:Nat→Bool) (n:Nat) (hb:∀ j,j<n→p j=false):idxP p n = -1:=by
 have key:∀ d i,firstP p n d i = -1:=by
  intro d
  induction d with
  | zero=>intro i;rfl
  | succ d ih =>
   intro i
   rw [firstP]
   by_cases h:i<n
   ·rw [if_pos h,if_neg (by rw [hb i h];exact Bool.false_ne_true)];exact ih _
   ·rw [if_neg h]
 exact key n 0
def anyP (p:Nat→Bool) (n:Nat):Bool:=(List.range n).any p
theorem anyP_iff (p:Nat→Bool) (n:Nat):anyP p n=true ↔ ∃ j,j<n∧p j=true:=by
 unfold anyP
 rw [List.any_eq_true]
 constructor
 ·rintro ⟨j,hj,h⟩;exact ⟨j,List.mem_range.1 hj,h⟩
 ·rintro ⟨j,hj,h⟩;exact ⟨j,List.mem_range.2 hj,h⟩
theorem idxP_any (p:Nat→Bool) (n:Nat):decide (0≤idxP p n)=anyP p n:=by
 rw [Bool.eq_iff_iff,anyP_iff,decide_eq_true_iff]
 constructor
 ·intro h
  apply Classical.byContradiction
  intro hn
  have:idxP p n = -1:=idxP_miss p n (fun j hj=>Bool.eq_false_iff.2 (fun hp=>hn ⟨j,hj,hp⟩))
  omega
 ·rintro ⟨j,hj,hp⟩
  have key:∀ d i,(i≤j∧j<i+d)→0≤firstP p n d i:=by
   intro d
   induction d with
   | zero=>intro i h;omega
   | succ d ih =>
    intro i h
    rw [firstP,if_pos (by omega)]
    by_cases e:p i=true
    ·rw [if_pos e];omega
    ·rw [if_neg e]
     have:i≠j:=fun h=>e (h ▸ hp)
     exact ih (i+1) (by omega)
  exact key n 0 (by omega)
theorem anyP_list {α : Type} (q : α → Bool) (d : α) (xs:List α):anyP (fun j=>q (xs.getD j d)) xs.length=xs.any q:=by
 rw [Bool.eq_iff_iff,anyP_iff,List.any_eq_true]
 constructor
 ·rintro ⟨j,hj,h⟩
  refine ⟨xs[j],List.getElem_mem hj,?_⟩
  simpa [List.getD,hj] using h
 ·rintro ⟨x,hx,h⟩
  obtain ⟨j,hj,rfl⟩:=List.getElem_of_mem hx
  exact ⟨j,hj,by simpa [List.getD,hj] using h⟩
theorem enters_of {P:Program} {f:FuncId} {fn:Func} {c:Code} (hf:P.funcs[f]? = some fn) (hname:(fn.name == "runtime.NumGoroutine") = false) (hb : fn.body = some c) : ∀ (args : Array Value) (w : World), (callFunc f args).run P w = .ok (.enter f args) w := by
 intro args w
 have h1:fn.name ≠ "runtime.NumGoroutine" := by simpa using hname
 simp [callFunc,hf,h1,hb,mark]
theorem quietD {P:Program} {f:FuncId} {args:Array Value} {W:World} {v:Value} (h:Calls P f args W fun e w'=>e=.returned v∧Drawn0 W w'):Calls P f args W fun e w'=>e=.returned v∧∃ m,w'=W.drewN m :=
 h.mono fun _ _ ⟨he,hd⟩=>⟨he,hd.out⟩
theorem new_cell (w:World) (c:Array Value) (t:TypeId) (i:Nat) (v:Value) (h:c[i]? = some v):(w.alloc (.cells c t)).cell? ⟨w.heap.size,i,none⟩=some v:=by
 have h1:c[i]? = some v:=h
 simp [h1]
end Go.Proofs.YtfkanlbmgbkniaaGreatDoor.Mach
