/- Of the words of the kit's print and of this session's own, those that this law's proof names. No conditions. -/
import Derived.Test.YtfkanlbmgbkniaaGreatDoorWWords
import Derived.Lib.Bytealg
namespace Go.Proofs.YtfkanlbmgbkniaaGreatDoor.Kit
open Go.RowKit Go.Proofs.YtfkanlbmgbkniaaGreatDoorW.PrintWords
theorem down {n:Nat} {M:Nat→Prop} (hend:M n) (hstep:∀ i,i<n→M (i+1)→M i):∀ i,i≤n→M i:=by
 have key:∀ d i,i+d=n→M i:=by
  intro d
  induction d with
  | zero=>intro i h;rw [show i=n by omega];exact hend
  | succ d ih=>intro i h;exact hstep i (by omega) (ih (i+1) (by omega))
 intro i hi
 exact key (n - i) i (by omega)
theorem ev_pos {α : Type} {c:Prop} [Decidable c] {f g:Nat→Option α} {r : α} (h:c) (k:Ev f r):Ev (fun n=>if c then f n else g n) r:=by
 obtain ⟨K,k⟩:=k
 exact ⟨K,fun n hn=>by simp only [if_pos h];exact k n hn⟩
theorem ev_neg {α : Type} {c:Prop} [Decidable c] {f g:Nat→Option α} {r : α} (h:¬ c) (k:Ev g r):Ev (fun n=>if c then f n else g n) r:=by
 obtain ⟨K,k⟩:=k
 exact ⟨K,fun n hn=>by simp only [if_neg h];exact k n hn⟩
theorem ev_some {α β : Type} {o:Option α} {a : α} {f:Nat → α → Option β} {r : β} (h:o=some a) (k:Ev (fun n=>f n a) r):Ev (fun n=>o.bind (f n)) r:=by
 subst h
 exact k
theorem ev_const {α : Type} {o:Option α} {a : α} (h:o=some a):Ev (fun _=>o) a:=⟨0,fun _ _=>h⟩
theorem ev_if {α : Type} {c:Prop} [Decidable c] {f g:Nat→Option α} {r : α} (h:c→Ev f r) (h':¬ c→Ev g r):Ev (fun n=>if c then f n else g n) r:=by
 by_cases hc:c
 ·exact ev_pos hc (h hc)
 ·exact ev_neg hc (h' hc)
theorem wrap_of {i:Int} (h0 : -9223372036854775808≤i) (h:i≤9223372036854775807):wrap64 i=i:=by
 unfold wrap64
 omega
theorem wrap_nat {i n:Nat} (h:i<n) (hn:n≤9223372036854775807):wrap64 ((i:Int)+1)=((i+1:Nat):Int):=by
 unfold wrap64
 omega
def allB (P:Nat→Bool) (i n:Nat):Bool:=(List.range' i (n - i)).all P
theorem allB_end (P:Nat→Bool) (n:Nat):allB P n n=true:=by simp [allB]
theorem allB_step (P:Nat→Bool) {i n:Nat} (h:i<n):allB P i n=(P i && allB P (i+1) n):=by
 unfold allB
 rw [show n - i=(n - (i+1))+1 by omega,List.range'_succ,List.all_cons]
theorem allB_iff (P:Nat→Bool) (i n:Nat):allB P i n=true ↔ ∀ j,i≤j→j<n→P j=true:=by
 unfold allB
 rw [List.all_eq_true]
 constructor
 ·intro h j h0 h1
  exact h j (by rw [List.mem_range'_1];omega)
 ·intro h j hj
  rw [List.mem_range'_1] at hj
  exact h j (by omega) (by omega)
theorem rdOf_nat {α : Type} (d : α) (xs:List α) (i:Nat):rdOf d xs (i:Int)=xs.getD i d:=by simp [rdOf]
def indexOf (t:ByteArray):List ByteArray→Nat→Int
 | [],_=>-1
 | x :: r,i=>if t.toList=x.toList then (i:Int) else indexOf t r (i+1)
def hasT (xs:List ByteArray) (t:ByteArray):Bool:=xs.any fun x=>decide (t.toList=x.toList)
theorem hasT_cons (x:ByteArray) (xs:List ByteArray) (t:ByteArray):hasT (x :: xs) t=(decide (t.toList=x.toList) || hasT xs t):=rfl
theorem indexOf_has (xs:List ByteArray) (t:ByteArray):∀ i,decide (0≤indexOf t xs i)=hasT xs t:=by
 induction xs with
 | nil=>intro i;simp [indexOf,hasT]
 | cons x r ih =>
  intro i
  rw [hasT_cons,indexOf]
  by_cases h:t.toList=x.toList
  ·rw [if_pos h];simp [h]
  ·rw [if_neg h,ih];simp [h]
theorem drop_getD {α : Type} (d : α) (xs:List α) (i:Nat) (h:i<xs.length):xs.drop i=xs.getD i d :: xs.drop (i+1):=by
 rw [List.drop_eq_getElem_cons h]
 simp [List.getD,h]
theorem bytesOf_mem {s:ByteArray} {x:Int} (h:x∈bytesOf s):0≤x∧x≤255:=by
 unfold bytesOf at h
 obtain ⟨b,_,rfl⟩:=List.mem_map.1 h
 have:=b.toNat_lt
 omega
theorem bytesOf_strOf {xs:List Int} (h:∀ x∈xs,0≤x∧x≤255):bytesOf (strOfNums xs)=xs:=by
 unfold bytesOf
 rw [strOfNums_data,List.map_map]
 refine (List.map_congr_left (g:=id) ?_).trans (List.map_id _)
 intro x hx
 have:=h x hx
 simp
 omega
theorem strOf_bytesOf (s:ByteArray):strOfNums (bytesOf s)=s:=by
 unfold strOfNums bytesOf
 rw [List.map_map]
 have:(s.data.toList.map ((fun n:Int=>UInt8.ofNat n.toNat) ∘ fun b:UInt8=>(b.toNat:Int)))=s.data.toList:=by
  refine (List.map_congr_left (g:=id) ?_).trans (List.map_id _)
  intro x _
  simp
 rw [this]
theorem toList_inj {a b:ByteArray} (h:a.toList=b.toList):a=b:=by
 rw [ByteArray.toList_eq,ByteArray.toList_eq] at h
 cases a;cases b
 congr
 exact Array.toList_inj.1 h
theorem bt_rd (s:ByteArray) (i:Nat):bt s (i:Int)=(bytesOf s).getD i 0:=by
 rw [←rd_bytesOf]
 rfl
theorem size_eq (s:ByteArray):s.size=(bytesOf s).length:=(bytesOf_length s).symm
def small (c:Int):Bool:=decide (97≤c∧c≤122)
def digit (c:Int):Bool:=decide (48≤c∧c≤57)
theorem pos_eq {α : Type} {c:Prop} [Decidable c] {a b r : α} (h:c) (k:a=r):(if c then a else b)=r:=(if_pos h).trans k
theorem neg_eq {α : Type} {c:Prop} [Decidable c] {a b r : α} (h:¬ c) (k:b=r):(if c then a else b)=r:=(if_neg h).trans k
def tagB (s:ByteArray) (i:Nat):Bool:=small (bt s i) || (!decide (i=0) && (digit (bt s i) || decide (bt s i=45)))
def isTag (s:ByteArray):Bool:=allB (tagB s) 0 s.size && decide ((1:Int)≤(s.size:Int)∧(s.size:Int)≤12)
def big (c:Int):Bool:=decide (65≤c∧c≤90)
def nameB (s:ByteArray) (i:Nat):Bool:=small (bt s i) || big (bt s i) || decide (bt s i=95) || (!decide (i=0) && digit (bt s i))
def isName (s:ByteArray):Bool:=allB (nameB s) 0 s.size && decide ((1:Int)≤(s.size:Int)∧(s.size:Int)≤12)
def lowC (c:Int):Int:=if 65≤c∧c≤90 then c+32 else c
def lowS (s:ByteArray):ByteArray:=strOfNums ((List.range s.size).map fun (i:Nat)=>lowC (bt s (i:Int)))
def handler (a:ByteArray):Bool:=decide ((a.size:Int)>2) && ((a.extract 0 2).toList == ([111,110]:List UInt8))
def wantJ:List Int:=[106,97,118,97,115,99,114,105,112,116,58]
theorem wantJ_eq:bytesOf (⟨#[106,97,118,97,115,99,114,105,112,116,58]⟩:ByteArray)=wantJ:=rfl
def keepC (c:Int):Bool:=!decide (c=9) && (!decide (c=10) && !decide (c=13))
def badL (l:List Int):Bool:=wantJ.isPrefixOf (((l.dropWhile fun c=>decide (c≤32)).filter keepC).map lowC)
def badFrom (k:Nat) (l:List Int):Bool:=(wantJ.drop k).isPrefixOf ((if k=0 then (l.dropWhile fun c=>decide (c≤32)).filter keepC else l.filter keepC).map lowC)
theorem badFrom_zero (l:List Int):badFrom 0 l=badL l:=rfl
theorem badFrom_full (l:List Int):badFrom 11 l=true:=rfl
theorem badFrom_nil (k:Nat) (h:k<11):badFrom k []=false:=by
 unfold badFrom
 have:(if k=0 then (([]:List Int).dropWhile fun c=>decide (c≤32)).filter keepC else ([]:List Int).filter keepC)=[]:=by split <;> rfl
 rw [this]
 rcases hw:wantJ.drop k with _|⟨x,r⟩
 ·have:=congrArg List.length hw
  simp [wantJ] at this
  omega
 ·rfl
theorem badFrom_skip (k:Nat) (c:Int) (l:List Int) (h:c=9∨c=10∨c=13∨(k=0∧c≤32)):badFrom k (c :: l)=badFrom k l:=by
 unfold badFrom
 by_cases hk:k=0
 ·rw [if_pos hk,if_pos hk,List.dropWhile_cons,if_pos (decide_eq_true (by omega))]
 ·rw [if_neg hk,if_neg hk,List.filter_cons,if_neg ?_]
  unfold keepC
  rcases h with h|h|h|h
  ·simp [h]
  ·simp [h]
  ·simp [h]
  ·exact absurd h.1 hk
theorem badFrom_take (k:Nat) (c:Int) (l:List Int) (hk:k<11) (h9:¬ c=9) (h10:¬ c=10) (h13:¬ c=13) (h32:k=0→¬ c≤32):badFrom k (c :: l)=(decide (lowC c=wantJ.getD k 0) && badFrom (k+1) l):=by
 have hkeep:keepC c=true:=by simp [keepC,h9,h10,h13]
 have e:(if k=0 then ((c :: l).dropWhile fun c=>decide (c≤32)).filter keepC else (c :: l).filter keepC)=c :: l.filter keepC:=by
  by_cases h:k=0
  ·rw [if_pos h,List.dropWhile_cons,if_neg (by simpa using h32 h),List.filter_cons,if_pos hkeep]
  ·rw [if_neg h,List.filter_cons,if_pos hkeep]
 unfold badFrom
 rw [e,if_neg (by omega),drop_getD 0 wantJ k hk,List.map_cons,List.isPrefixOf]
 congr 1
 rw [Bool.eq_iff_iff,beq_iff_eq,decide_eq_true_iff]
 exact eq_comm
theorem indexByte_any (l:List UInt8) (c:UInt8):decide (0≤Lib.indexByte l c)=l.any fun b=>b == c:=by
 induction l with
 | nil=>rfl
 | cons b l ih =>
  have hg:=Lib.indexByte_ge l c
  rw [List.any_cons,←ih,Lib.indexByte]
  by_cases h:(b == c)=true
  ·rw [if_pos h,h];rfl
  ·rw [if_neg h,Bool.eq_false_iff.2 h,Bool.false_or]
   by_cases h2:Lib.indexByte l c = -1
   ·rw [if_pos (by rw [h2];rfl),h2]
   ·rw [if_neg (by simpa using h2),decide_eq_decide];omega
def markB (s:ByteArray):Bool:=(bytesOf s).any fun c=>decide (c=60)
theorem lowS_bytes (s:ByteArray):bytesOf (lowS s)=(bytesOf s).map lowC:=by
 unfold lowS
 have hx:((List.range s.size).map fun (i:Nat)=>lowC (bt s (i:Int)))=(bytesOf s).map lowC:=by
  apply List.ext_getElem
  ·simp [bytesOf_length]
  ·intro i h1 h2
   simp only [List.length_map,List.length_range] at h1
   simp only [List.getElem_map,List.getElem_range]
   rw [bt_rd]
   have:i<(bytesOf s).length:=by rw [bytesOf_length];exact h1
   simp [List.getD,this]
 rw [hx]
 apply bytesOf_strOf
 intro x hx
 obtain ⟨y,hy,rfl⟩:=List.mem_map.1 hx
 have:=bytesOf_mem hy
 unfold lowC
 by_cases h:65≤y∧y≤90
 ·rw [if_pos h];omega
 ·rw [if_neg h];omega
def namesAt (xs:List ByteArray) (i:Nat):Bool:=isTag (xs.getD i ByteArray.empty) && !hasT (xs.take i) (xs.getD i ByteArray.empty)
def namesOK (xs:List ByteArray):Bool:=decide (xs.length≤10) && allB (namesAt xs) 0 xs.length
theorem ev_refl {n:Nat} {L:Nat→Int→Option Bool} (hend:Ev (fun k=>L k (n:Int)) true) (hstep:∀ i:Nat,i<n→Ev (fun k=>L k ((i+1:Nat):Int)) true→Ev (fun k=>L k (i:Int)) true):Ev (fun k=>L k 0) true:=by
 have key:∀ i,i≤n→Ev (fun k=>L k (i:Int)) true:=down hend hstep
 exact key 0 (by omega)
theorem getD_mem {α : Type} (d : α) {xs:List α} {i:Nat} (hi:i<xs.length):xs.getD i d∈xs:=by
 rw [List.getD_eq_getElem?_getD,List.getElem?_eq_getElem hi]
 exact List.getElem_mem hi
end Go.Proofs.YtfkanlbmgbkniaaGreatDoor.Kit
