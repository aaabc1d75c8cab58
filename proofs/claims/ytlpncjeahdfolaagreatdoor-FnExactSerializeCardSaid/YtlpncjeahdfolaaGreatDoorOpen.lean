/- Of the words of the kit's print and of this session's own, those that this law's proof names. No conditions. -/
import Derived.Test.YtlpncjeahdfolaaGreatDoorWWords
import Derived.ChangeArms
import Derived.DataElems
import Derived.ChangeShapes
import Derived.ChangeSlices
import Derived.WideShapes
import Derived.Deep.Fields
import Derived.Carry
namespace Go.Proofs.YtlpncjeahdfolaaGreatDoor.Open
open Go.RowKit Go.ChangeShapes Go.WideShapes Go.Proofs.YtlpncjeahdfolaaGreatDoorW.PrintWords
def Opens {α : Type} (P:Program) (t:TypeId) (d:Kd α) (g : α → Prop) (fuel:Nat):Prop :=
 ∀ (H:Type) (enc:TypeId × Value→H) (w:World) (cs:List Value) (x:DataW H × List MemPlace),DataW.trod enc P w 0 (fun _=>true) true fuel t cs=some x→∃ y,d.K w y cs∧g y
def Short (s:ByteArray):Prop:=s.size≤9223372036854775807
def Few {α : Type} (g : α → Prop) (xs:List α):Prop:=xs.length≤9223372036854775807∧∀ x∈xs,g x
theorem opens_int {P:Program} {t:TypeId} {k:IntKind} (ht:P.underlying t=some (.int k)) (fuel:Nat):Opens P t (Kd.int k) (fun n=>(Lit.int k n).wf=true) fuel:=by
 intro H enc w cs x h
 obtain ⟨n,rfl,_,hw⟩:=DataW.trod_int ht h
 exact ⟨n,rfl,hw⟩
theorem opens_string {P:Program} {t:TypeId} (ht:P.underlying t=some .string) (fuel:Nat):Opens P t Kd.string Short fuel:=by
 intro H enc w cs x h
 obtain ⟨s,rfl,_,hs⟩:=DataW.trod_string ht h
 exact ⟨s,rfl,by unfold maxLen at hs;exact hs⟩
theorem opens_slice {α : Type} {P:Program} {t e:TypeId} {d:Kd α} {g : α → Prop} {fuel:Nat} (ht:P.underlying t=some (.slice e)) (hc:P.cellsOf e=d.sz) (he:∀ n,n<fuel→Opens P e d g n):Opens P t (Kd.slice e d) (Few g) fuel:=by
 intro H enc w cs x h
 rcases DataW.trod_slice ht h with ⟨rfl,_⟩|⟨a,len,cap,elems,rest,n,rfl,rfl,_,_,hl,hm,hlen,hel,_,_⟩
 ·exact ⟨[],⟨none,0,rfl,Nat.le_refl _,rfl,Nat.zero_le _,fun h=>absurd h (Nat.lt_irrefl 0)⟩,Nat.zero_le _,fun x hx=>absurd hx (List.not_mem_nil)⟩
 ·have each:∀ i,i<len→∃ y c,c.length=d.sz∧d.K w y c∧g y∧∀ j u,c[j]? = some u→w.cell? (a.add (i * d.sz+j))=some u:=by
   intro i hi
   have h1:=hel i hi
   rw [List.getElem?_eq_getElem (by omega),Option.bind_eq_some_iff] at h1
   obtain ⟨c,hcs,hy⟩:=h1
   obtain ⟨y,hK,hg⟩:=he n (Nat.lt_succ_self _) H enc w c _ hy
   obtain ⟨_,hcl,hcell⟩:=World.cells?_some hcs
   refine ⟨y,c,by rw [hcl,hc],hK,hg,fun j u hu=>?_⟩
   have hj:j<P.cellsOf e:=by rw [←hcl];exact (List.getElem?_eq_some_iff.1 hu).1
   have h2:=hcell j hj
   rw [hu] at h2
   rw [←h2,←hc,Addr.add_add]
  have key:∀ m,m≤len→∃ ys:List α,ys.length=m∧(∀ y∈ys,g y)∧∀ j p,ys[j]? = some p→∃ c,c.length=d.sz∧d.K w p c∧∀ i u,c[i]? = some u→w.cell? (a.add (j * d.sz+i))=some u:=by
   intro m
   induction m with
   | zero=>intro _;exact ⟨[],rfl,(fun y hy=>absurd hy (List.not_mem_nil)),(fun j p hp=>absurd hp (by simp))⟩
   | succ m ih =>
    intro hm2
    obtain ⟨ys,hl2,hg2,hr⟩:=ih (by omega)
    obtain ⟨y,c,hcl,hK,hgy,hcell⟩:=each m (by omega)
    refine ⟨ys++[y],by rw [List.length_append,hl2];rfl,fun z hz=>?_,fun j p hp=>?_⟩
    ·rcases List.mem_append.1 hz with hz|hz
     ·exact hg2 z hz
     ·rw [List.mem_singleton.1 hz];exact hgy
    ·by_cases hj:j<ys.length
     ·rw [List.getElem?_append_left hj] at hp
      exact hr j p hp
     ·have hj2:j=m:=by
       have:=(List.getElem?_eq_some_iff.1 hp).1
       rw [List.length_append,hl2] at this
       simp at this
       omega
      subst hj2
      rw [List.getElem?_append_right (by omega),hl2,Nat.sub_self] at hp
      have:y=p:=by simpa using hp
      subst this
      exact ⟨c,hcl,hK,hcell⟩
  obtain ⟨ys,hyl,hyg,hyr⟩:=key len (Nat.le_refl _)
  unfold maxLen at hm
  have h9:len≤9223372036854775807:=by omega
  refine ⟨ys,⟨some a,cap,by rw [hyl],by omega,?_⟩,by rw [hyl];exact h9,hyg⟩
  exact ⟨rfl,by rw [hyl];exact h9,fun _=>⟨a,rfl,hyr⟩⟩
theorem field_of {H:Type} {enc:TypeId × Value→H} {P:Program} {w:World} {fs:Array Field} {n:Nat} {cs:List Value} {xs:List (DataW H × List MemPlace)} (hlen:xs.length=fs.size)
 (hf:∀ (i:Nat) (f:Field),fs[i]? = some f→DataW.trod enc P w 0 (fun _=>true) true n f.type ((cs.drop f.offset).take (P.cellsOf f.type))=xs[i]?) (i:Nat) (f:Field) (hi:fs[i]? = some f) :
 ∃ y,DataW.trod enc P w 0 (fun _=>true) true n f.type ((cs.drop f.offset).take (P.cellsOf f.type))=some y:=by
 have hlt:i<xs.length:=by rw [hlen];exact (Array.getElem?_eq_some_iff.1 hi).1
 exact ⟨xs[i],by rw [hf i f hi,List.getElem?_eq_getElem hlt]⟩
theorem open_slice {α H:Type} {enc:TypeId × Value→H} {P:Program} {w:World} {t e:TypeId} {d:Kd α} {g : α → Prop} {v:Value} {y:DataW H} {p:List MemPlace} {r:Reach} {b0:Nat} (ht:P.underlying t=some (.slice e)) (ho:∀ n,Opens P t (Kd.slice e d) (Few g) n)
 (hv:Value.okWide P w r b0 t v) (h:DataW.Trod enc P w 0 (fun _=>true) true t v y p):∃ (A:Option Addr) (c:Nat) (l:List α),v=.slice A l.length c∧Kd.C d w A l.length l∧l.length≤c∧Few g l:=by
 obtain ⟨a,len,cap,rfl⟩:=okWide_slice ht hv
 obtain ⟨fuel,hf⟩:=h
 obtain ⟨l,⟨A,c,he,hl,hC⟩,hg⟩:=ho fuel H enc w _ _ hf
 have he2:[Value.slice a len cap]=[Value.slice A l.length c]:=by simpa [Value.cells] using he
 injection he2 with he2 _
 exact ⟨A,c,l,he2,hC,hl,hg⟩
theorem list2 {α : Type} {cs:List α} (h:cs.length=2):∃ c0 c1,cs=[c0,c1]:=by
 match cs,h with
 | [c0,c1],_=>exact ⟨c0,c1,rfl⟩
theorem list6 {α : Type} {cs:List α} (h:cs.length=6):∃ c0 c1 c2 c3 c4 c5,cs=[c0,c1,c2,c3,c4,c5]:=by
 match cs,h with
 | [c0,c1,c2,c3,c4,c5],_=>exact ⟨c0,c1,c2,c3,c4,c5,rfl⟩
end Go.Proofs.YtlpncjeahdfolaaGreatDoor.Open
