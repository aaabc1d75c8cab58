/- By a program of this session, out of the kit's print and contracts made by hand: the machine side of a law; Lean checks it. No conditions. -/
import Derived.Test.YtjlikemmhjclpaaPFnExactCleanx0
import Derived.Test.YtjlikemmhjclpaaPFnExactCleanx16
import Derived.Test.YtjlikemmhjclpaaPFnExactCleanx18
import Derived.Test.YtjlikemmhjclpaaPFnExactCleanx24
import Derived.Test.YtjlikemmhjclpaaPFnExactCleanx25
import Derived.Test.YtjlikemmhjclpaaPFnExactCleanx27
import Derived.Test.YtjlikemmhjclpaaPFnExactCleanx28
import Derived.Test.YtjlikemmhjclpaaPFnExactCleanx29
namespace Go.Proofs.Ytjlikemmhjclpaa.PFnExactClean
open Go.RowKit Go.Proofs.YtjlikemmhjclpaaW.PrintWords Go.Proofs.YtjlikemmhjclpaaW.PrintLast Go.Proofs.YtjlikemmhjclpaaW.PrintMore
attribute [local go_sem] max2_int min2_int max_two min_two max_three min_three max_four min_four
set_option linter.unusedVariables false
set_option linter.unusedSimpArgs false
/-! ### impl_Clean: function 16, by hand -/
/-- The byte at place i does no harm in a comment. -/
def cmtB (a:ByteArray) (i:Nat):Bool:=!decide (bt a i=60) && (!decide (bt a i=62) && (!decide (bt a i=45) || (!decide (i=0) && (!decide (i+1=a.size) && !decide (bt a ((i:Int) - 1)=45)))))
def cmtOK (a:ByteArray):Bool:=Kit.allB (cmtB a) 0 a.size
theorem ev_l02Comment (a:ByteArray) (hn:a.size≤1048576):Ev (fun k=>spec_l02Comment.f k a) (cmtOK a):=by
 have key:∀ i:Nat,i≤a.size→Ev (fun k=>spec_l02Comment.l0 k a i) (Kit.allB (cmtB a) i a.size):=by
  refine Kit.down ?_ ?_
  ·rw [Kit.allB_end]
   exact Ev.step (fun k=>rfl) (Kit.ev_neg (by omega) (Ev.now _))
  ·intro i hi ih
   rw [Kit.allB_step _ hi]
   refine Ev.step (fun k=>rfl) (Kit.ev_pos (by omega) (Kit.ev_pos (by omega) ?_))
   have w1:wrap64 ((a.size:Int) - 1)=(a.size:Int) - 1:=Kit.wrap_of (by omega) (by omega)
   have w2:wrap64 ((i:Int) - 1)=(i:Int) - 1:=Kit.wrap_of (by omega) (by omega)
   rw [w1,w2,Kit.wrap_nat hi (by omega)]
   by_cases h60:bt a (i:Int)=60
   ·refine Kit.ev_pos h60 ?_
    rw [show cmtB a i=false by unfold cmtB;rw [dt_ h60];rfl]
    exact Ev.now _
   refine Kit.ev_neg h60 ?_
   by_cases h62:bt a (i:Int)=62
   ·refine Kit.ev_pos h62 ?_
    rw [show cmtB a i=false by unfold cmtB;rw [dt_ h62];simp]
    exact Ev.now _
   refine Kit.ev_neg h62 ?_
   by_cases h45:bt a (i:Int)=45
   case neg =>
    refine Kit.ev_neg h45 ?_
    rw [show cmtB a i=true by unfold cmtB;rw [df_ h60,df_ h62,df_ h45];rfl]
    exact ih
   refine Kit.ev_pos h45 ?_
   by_cases h0:i=0
   ·refine Kit.ev_pos (by omega) ?_
    rw [show cmtB a i=false by unfold cmtB;rw [dt_ h45,dt_ h0];simp]
    exact Ev.now _
   refine Kit.ev_neg (by omega) ?_
   by_cases h1:i+1=a.size
   ·refine Kit.ev_pos (by omega) ?_
    rw [show cmtB a i=false by unfold cmtB;rw [dt_ h45,dt_ h1];simp]
    exact Ev.now _
   refine Kit.ev_neg (by omega) (Kit.ev_pos (by omega) (Kit.ev_pos (by omega) ?_))
   by_cases h2:bt a ((i:Int) - 1)=45
   ·refine Kit.ev_pos h2 ?_
    rw [show cmtB a i=false by unfold cmtB;rw [dt_ h45,dt_ h2];simp]
    exact Ev.now _
   refine Kit.ev_neg h2 ?_
   rw [show cmtB a i=true by unfold cmtB;rw [df_ h60,df_ h62,df_ h0,df_ h1,df_ h2];simp]
   exact ih
 exact key 0 (by omega)
theorem list_at (a:ByteArray) (i:Nat) (h:i<a.size):∃ x:UInt8,a.data.toList[i]? = some x∧bt a i=(x.toNat:Int):=by
 refine ⟨a[i],Lib.data_getElem? a i h,?_⟩
 unfold bt
 rw [dif_pos (by simpa using h)]
 rfl
theorem u8_iff (x:UInt8) (n:Nat) (hn:n<256):x=UInt8.ofNat n ↔ (x.toNat:Int)=n:=by
 constructor
 ·rintro rfl;simp;omega
 ·intro h
  apply UInt8.toNat_inj.1
  simp
  omega
theorem containsAny_iff (a:ByteArray):Lib.containsAny a.data.toList [60,62]=true ↔ ∃ i,i<a.size∧(bt a (i:Int)=60∨bt a (i:Int)=62):=by
 have h1:Lib.containsAny a.data.toList [60,62]=true ↔ ∃ (i:Nat) (x:UInt8),a.data.toList[i]? = some x∧([60,62]:List UInt8).contains x=true:=by
  constructor
  ·intro h
   apply Classical.byContradiction
   intro hn
   have hno:Lib.NoAny a.data.toList [60,62] a.data.toList.length:=fun j b _ hb=>Bool.eq_false_iff.2 (fun hc=>hn ⟨j,b,hb,hc⟩)
   unfold Lib.containsAny at h
   rw [Lib.indexAny_none hno] at h
   exact absurd h (by decide)
  ·rintro ⟨i,x,hx,hc⟩
   have:∀ l:List UInt8,x∈l→0≤Lib.indexAny l [60,62]:=by
    intro l
    induction l with
    | nil=>intro h;cases h
    | cons b l ih =>
     intro h
     rw [Lib.indexAny]
     by_cases hb:([60,62]:List UInt8).contains b=true
     ·rw [if_pos hb];exact Int.le_refl _
     ·rw [if_neg hb]
      rcases List.mem_cons.1 h with rfl|h
      ·exact absurd hc hb
      ·have:=ih h
       rw [if_neg (by intro e;have:=beq_iff_eq.1 e;omega)]
       omega
   unfold Lib.containsAny
   exact dt_ (this _ (List.mem_of_getElem? hx))
 rw [h1]
 constructor
 ·rintro ⟨i,x,hx,hc⟩
  have hl:i<a.size:=by
   have:=(List.getElem?_eq_some_iff.1 hx).1
   simpa using this
  obtain ⟨y,hy,hb⟩:=list_at a i hl
  rw [hx] at hy
  obtain rfl:=oi_ hy
  refine ⟨i,hl,?_⟩
  simp at hc
  rcases hc with rfl|rfl
  ·left;rw [hb];rfl
  ·right;rw [hb];rfl
 ·rintro ⟨i,hl,h⟩
  obtain ⟨x,hx,hb⟩:=list_at a i hl
  refine ⟨i,x,hx,?_⟩
  rw [hb] at h
  rcases h with h|h
  ·rw [(u8_iff x 60 (by decide)).2 h];rfl
  ·rw [(u8_iff x 62 (by decide)).2 h];rfl
theorem contains2_iff (a:ByteArray):Lib.contains a.data.toList [45,45]=true ↔ ∃ i:Nat,i+1<a.size∧bt a (i:Int)=45∧bt a ((i+1:Nat):Int)=45:=by
 have hocc:∀ j,Lib.occAt a.data.toList [45,45] j=true ↔ j+1<a.size∧bt a (j:Int)=45∧bt a ((j+1:Nat):Int)=45:=by
  intro j
  unfold Lib.occAt
  have hlen:a.data.toList.length=a.size:=by simp
  constructor
  ·intro h
   rw [List.isPrefixOf_iff_prefix] at h
   obtain ⟨r,hr⟩:=h
   have hl:=congrArg List.length hr
   simp only [List.length_append,List.length_cons,List.length_nil,ld_,hlen] at hl
   have g0:=congrArg (fun l=>l[0]?) hr
   have g1:=congrArg (fun l=>l[1]?) hr
   simp only [List.getElem?_drop,List.cons_append,List.nil_append,List.getElem?_cons_zero,List.getElem?_cons_succ,Nat.add_zero] at g0 g1
   obtain ⟨x,hx,hb⟩:=list_at a j (by omega)
   obtain ⟨y,hy,hc⟩:=list_at a (j+1) (by omega)
   rw [hx] at g0
   rw [hy] at g1
   obtain rfl:=oi_ g0
   obtain rfl:=oi_ g1
   exact ⟨by omega,hb,hc⟩
  ·rintro ⟨h0,h1,h2⟩
   obtain ⟨x,hx,hb⟩:=list_at a j (by omega)
   obtain ⟨y,hy,hc⟩:=list_at a (j+1) h0
   rw [h1] at hb
   rw [h2] at hc
   have ex:=(u8_iff x 45 (by decide)).2 hb.symm
   have ey:=(u8_iff y 45 (by decide)).2 hc.symm
   obtain ⟨l0,e0⟩:=List.getElem?_eq_some_iff.1 hx
   obtain ⟨l1,e1⟩:=List.getElem?_eq_some_iff.1 hy
   rw [List.drop_eq_getElem_cons l0,List.drop_eq_getElem_cons l1,e0,e1,ex,ey]
   rfl
 unfold Lib.contains
 rw [decide_eq_true_iff]
 rcases Lib.index_spec a.data.toList [45,45] with ⟨h,hno⟩|⟨i,h,hl,ho,_⟩
 ·rw [h]
  constructor
  ·intro h0;exact absurd h0 (by decide)
  ·rintro ⟨i,hi⟩
   have hlen:a.data.toList.length=a.size:=by simp
   have:=hno i (by omega)
   rw [(hocc i).2 hi] at this
   cases this
 ·rw [h]
  exact ⟨fun _=>⟨i,(hocc i).1 ho⟩,fun _=>by omega⟩
theorem prefix_stroke (a:ByteArray):strings_HasPrefix.f a ⟨#[45]⟩=some (decide (0<a.size∧bt a 0=45)):=by
 rw [hasPrefix_eq]
 congr 1
 by_cases h:0<a.size
 ·obtain ⟨x,hx,hb⟩:=list_at a 0 h
  have h1:(a.extract 0 (⟨#[45]⟩:ByteArray).size).toList=[x]:=by
   show (a.extract 0 1).toList=[x]
   rw [ByteArray.toList_eq,ByteArray.data_extract,Array.toList_extract]
   obtain ⟨l0,e0⟩:=List.getElem?_eq_some_iff.1 hx
   rw [List.extract,List.drop_zero]
   rcases hl:a.data.toList with _|⟨y,r⟩
   ·rw [hl] at l0;exact absurd l0 (Nat.not_lt_zero _)
   ·rw [hl] at hx
    obtain rfl:y=x:=by simpa using hx
    rfl
  rw [h1,dt_ (show a.size≥(⟨#[45]⟩:ByteArray).size from h),Bool.true_and,Bool.eq_iff_iff,beq_iff_eq,decide_eq_true_iff]
  rw [show (⟨#[45]⟩:ByteArray).toList=[45] from Kit.lit_toList #[45]]
  have hb0:bt a 0=(x.toNat:Int):=hb
  rw [hb0]
  constructor
  ·intro h2;injection h2 with h2;exact ⟨h,by rw [h2];rfl⟩
  ·rintro ⟨_,h2⟩;rw [(u8_iff x 45 (by decide)).2 h2];rfl
 ·rw [df_ (show ¬ a.size≥(⟨#[45]⟩:ByteArray).size from h),Bool.false_and,df_ (fun h2=>h h2.1)]
theorem suffix_stroke (a:ByteArray) (hn:a.size≤1048576):strings_HasSuffix.f a ⟨#[45]⟩=some (decide (0<a.size∧bt a ((a.size - 1:Nat):Int)=45)):=by
 unfold strings_HasSuffix.f stringslite_HasSuffix.f
 have hs:((⟨#[45]⟩:ByteArray).size:Int)=1:=rfl
 rw [hs]
 by_cases h:0<a.size
 ·have w1:wrap64 ((a.size:Int) - 1)=((a.size - 1:Nat):Int):=by rw [Kit.wrap_of (by omega) (by omega)];omega
  rw [if_pos (by omega),w1,if_pos (by omega),if_pos (by omega),Option.bind_some]
  congr 1
  obtain ⟨x,hx,hb⟩:=list_at a (a.size - 1) (by omega)
  have h1:(a.extract (((a.size - 1:Nat):Int)).toNat a.size).toList=[x]:=by
   rw [Int.toNat_natCast,ByteArray.toList_eq,ByteArray.data_extract,Array.toList_extract,List.extract]
   obtain ⟨l0,e0⟩:=List.getElem?_eq_some_iff.1 hx
   rw [List.drop_eq_getElem_cons l0,e0,List.drop_of_length_le (by simp;omega),show a.size - (a.size - 1)=1 by omega]
   rfl
  rw [h1,Bool.eq_iff_iff,beq_iff_eq,decide_eq_true_iff,hb]
  rw [show (⟨#[45]⟩:ByteArray).toList=[45] from Kit.lit_toList #[45]]
  constructor
  ·intro h2;injection h2 with h2;exact ⟨h,by rw [h2];rfl⟩
  ·rintro ⟨_,h2⟩;rw [(u8_iff x 45 (by decide)).2 h2];rfl
 ·rw [if_neg (by omega),Option.bind_some,df_ (fun h2=>h h2.1)]
theorem cmt_iff (a:ByteArray):cmtOK a=(!Lib.containsAny a.data.toList [60,62] && (!Lib.contains a.data.toList [45,45] && (!decide (0<a.size∧bt a 0=45) && !decide (0<a.size∧bt a ((a.size - 1:Nat):Int)=45)))):=by
 rw [Bool.eq_iff_iff]
 unfold cmtOK
 rw [Kit.allB_iff]
 simp only [Bool.and_eq_true,Bool.not_eq_true',decide_eq_false_iff_not]
 rw [Bool.eq_false_iff,Bool.eq_false_iff,ne_eq,ne_eq,containsAny_iff,contains2_iff]
 have hc:∀ j,cmtB a j=true ↔ bt a (j:Int)≠60∧bt a (j:Int)≠62∧(bt a (j:Int)=45→j≠0∧j+1≠a.size∧bt a ((j:Int) - 1)≠45):=by
  intro j
  unfold cmtB
  by_cases h:bt a (j:Int)=45 <;> simp [h]
 constructor
 ·intro h
  refine ⟨?_,?_,?_,?_⟩
  ·rintro ⟨i,hi,h2⟩
   have:=(hc i).1 (h i (Nat.zero_le _) hi)
   rcases h2 with h2|h2
   ·exact this.1 h2
   ·exact this.2.1 h2
  ·rintro ⟨i,hi,h1,h2⟩
   have:=((hc (i+1)).1 (h (i+1) (Nat.zero_le _) hi)).2.2 h2
   refine this.2.2 ?_
   rw [show (((i+1:Nat):Int) - 1)=(i:Int) by omega]
   exact h1
  ·rintro ⟨h0,h1⟩
   exact (((hc 0).1 (h 0 (Nat.le_refl _) h0)).2.2 h1).1 rfl
  ·rintro ⟨h0,h1⟩
   exact (((hc (a.size - 1)).1 (h _ (Nat.zero_le _) (by omega))).2.2 h1).2.1 (by omega)
 ·rintro ⟨h1,h2,h3,h4⟩ j _ hj
  refine (hc j).2 ⟨fun e=>h1 ⟨j,hj,.inl e⟩,fun e=>h1 ⟨j,hj,.inr e⟩,fun e=>⟨fun e0=>?_,fun e1=>?_,fun e2=>?_⟩⟩
  ·subst e0;exact h3 ⟨hj,e⟩
  ·exact h4 ⟨by omega,by rw [show a.size - 1=j by omega];exact e⟩
  ·by_cases e0:j=0
   ·subst e0;exact h3 ⟨hj,e⟩
   ·refine h2 ⟨j - 1,by omega,?_,?_⟩
    ·rw [show ((j - 1:Nat):Int)=(j:Int) - 1 by omega];exact e2
    ·rw [show j - 1+1=j by omega];exact e
def cmtN (x:S44):Bool:=!decide (65536<(x.f3.size:Int)) && cmtOK x.f3
/-- A node may come to do harm. -/
def dirtyN (x:S44):Bool:=((x.f0 == 3) && !cmtN x) || (rawB x && x.f5.any markN)
def stepC (x:S44) (_:List Int) (s:Bool):Bool:=if dirtyN x=true then false else s
def FitC (x:S44):Prop:=x.f3.size≤1048576
def goodC:Nat→S44→Bool
 | 0,_=>false
 | n+1,x=>decide (x.f3.size≤1048576) && x.f5.all (goodC n)
theorem goodC_of (n:Nat):∀ x:S44,goodC n x=true→goodE FitC n x:=by
 induction n with
 | zero=>intro x h;cases h
 | succ n ih =>
  intro x h
  rw [goodC,Bool.and_eq_true,List.all_eq_true] at h
  exact ⟨od_ (p:=x.f3.size≤1048576) h.1,fun y hy=>ih y (h.2 y hy)⟩
def cleanSt (w0:World) (g:Nat) (s:Bool) (W:World):Prop:=W.heap[g]? = some (.cells #[.bool s] 4 (0,0))∧w0.heap.size≤g
theorem comment_calls (t:ByteArray) (m:Int) (w:World) (hm:w.cell? ⟨0,0,none⟩=some (.int .i64 m)) (hs:t.size≤1048576):Calls Try.prog 37 #[.string t] w fun e w'=>e=.returned (.bool (!decide (65536<(t.size:Int)) && cmtOK t))∧Below w.heap.size w w':=by
 have h:=impl_CommentOK.calls t m _ _ w hm hs (prefix_stroke t) (suffix_stroke t (by omega))
 have e2:commentB t (decide (0<t.size∧bt t 0=45)) (decide (0<t.size∧bt t ((t.size - 1:Nat):Int)=45))=(!decide (65536<(t.size:Int)) && cmtOK t):=by
  rw [cmt_iff]
  rfl
 rw [e2] at h
 exact h
set_option maxHeartbeats 16000000 in
set_option maxRecDepth 1000000 in
theorem clean_lit (w0:World) (g:Nat) (m:Int) (hm:w0.cell? ⟨0,0,none⟩=some (.int .i64 m)) (x:S44) (ps:List Int) (s:Bool) (A4:Option Addr) (c4:Nat) (A5:Option Addr) (c5:Nat) (ap:Addr) (n c:Nat) (W:World) (hf:FitC x) (l4:x.f4.length≤c4) (h4:Kd.C k75 w0 A4 x.f4.length x.f4) (l5:x.f5.length≤c5) (h5:Kd.C k44 w0 A5 x.f5.length x.f5) (hB:Below w0.heap.size w0 W) (hs:cleanSt w0 g s W) :
 Calls Try.prog 36 #[.agg #[.int .i64 x.f0,.int .i64 x.f1,.string x.f2,.string x.f3,.slice A4 x.f4.length c4,.slice A5 x.f5.length c5],.slice (some ap) n c,.pointer (some ⟨g,0,none⟩)] W fun e w'=>e=.returned (.tuple #[])∧cleanSt w0 g (stepC x ps s) w'∧Lib.OthersKept 4 (some g) W w'∧Below w0.heap.size w0 w':=by
 have hB1:=ba_ hB (.cells #[.int .i64 x.f0,.int .i64 x.f1,.string x.f2,.string x.f3,.slice A4 x.f4.length c4,.slice A5 x.f5.length c5] 44 (0,0))
 have hk1:Lib.OthersKept 4 (some g) W (W.alloc (.cells #[.int .i64 x.f0,.int .i64 x.f1,.string x.f2,.string x.f3,.slice A4 x.f4.length c4,.slice A5 x.f5.length c5] 44 (0,0))):=ok_below (ba_ (Below.refl _ _) _)
 have hg0:w0.heap.size≤g:=hs.2
 have hgl:=blk_lt hs.1
 have hne:W.heap.size≠g:=by omega
 have hst:cleanSt w0 g s (W.alloc (.cells #[.int .i64 x.f0,.int .i64 x.f1,.string x.f2,.string x.f3,.slice A4 x.f4.length c4,.slice A5 x.f5.length c5] 44 (0,0))):=⟨ka_ hs.1 (.cells #[.int .i64 x.f0,.int .i64 x.f1,.string x.f2,.string x.f3,.slice A4 x.f4.length c4,.slice A5 x.f5.length c5] 44 (0,0)),hg0⟩
 have b0:(W.alloc (.cells #[.int .i64 x.f0,.int .i64 x.f1,.string x.f2,.string x.f3,.slice A4 x.f4.length c4,.slice A5 x.f5.length c5] 44 (0,0))).cell? ⟨W.heap.size,0,none⟩=some (.int .i64 x.f0):=Mach.new_cell W _ _ 0 _ rfl
 have b1:(W.alloc (.cells #[.int .i64 x.f0,.int .i64 x.f1,.string x.f2,.string x.f3,.slice A4 x.f4.length c4,.slice A5 x.f5.length c5] 44 (0,0))).cell? ⟨W.heap.size,1,none⟩=some (.int .i64 x.f1):=Mach.new_cell W _ _ 1 _ rfl
 have b2:(W.alloc (.cells #[.int .i64 x.f0,.int .i64 x.f1,.string x.f2,.string x.f3,.slice A4 x.f4.length c4,.slice A5 x.f5.length c5] 44 (0,0))).cell? ⟨W.heap.size,2,none⟩=some (.string x.f2):=Mach.new_cell W _ _ 2 _ rfl
 have b3:(W.alloc (.cells #[.int .i64 x.f0,.int .i64 x.f1,.string x.f2,.string x.f3,.slice A4 x.f4.length c4,.slice A5 x.f5.length c5] 44 (0,0))).cell? ⟨W.heap.size,3,none⟩=some (.string x.f3):=Mach.new_cell W _ _ 3 _ rfl
 have b4:(W.alloc (.cells #[.int .i64 x.f0,.int .i64 x.f1,.string x.f2,.string x.f3,.slice A4 x.f4.length c4,.slice A5 x.f5.length c5] 44 (0,0))).cell? ⟨W.heap.size,4,none⟩=some (.slice A4 x.f4.length c4):=Mach.new_cell W _ _ 4 _ rfl
 have b5:(W.alloc (.cells #[.int .i64 x.f0,.int .i64 x.f1,.string x.f2,.string x.f3,.slice A4 x.f4.length c4,.slice A5 x.f5.length c5] 44 (0,0))).cell? ⟨W.heap.size,5,none⟩=some (.slice A5 x.f5.length c5):=Mach.new_cell W _ _ 5 _ rfl
 have QC:Aside0 (∀ V,Below w0.heap.size w0 V→Calls Try.prog 37 #[.string x.f3] V fun e w'=>e=.returned (.bool (cmtN x))∧Below V.heap.size V w'):=⟨fun V hV=>comment_calls x.f3 m V (pc_ hV hm) hf⟩
 have QR:Aside0 (∀ V,Below w0.heap.size w0 V→Calls Try.prog 38 #[.agg #[.int .i64 x.f0,.int .i64 x.f1,.string x.f2,.string x.f3,.slice A4 x.f4.length c4,.slice A5 x.f5.length c5]] V fun e w'=>e=.returned (.bool (rawB x))∧Below V.heap.size V w'):=⟨fun V hV=>(impl_Node_isRaw.pure x A4 c4 A5 c5 V (cb_ h4 hV) l4 (cb_ h5 hV) l5).mono fun e w' h=>⟨h.1,by first|exact h.2|exact h.2.below⟩⟩
 have QM:Aside0 (∀ V,Below w0.heap.size w0 V→Calls Try.prog 39 #[.slice A5 x.f5.length c5] V fun e w'=>e=.returned (.bool (x.f5.any markN))∧Below V.heap.size V w'):=⟨fun V hV=>impl_hasMarkup.calls A5 c5 x.f5 _ V (cb_ h5 hV) rfl⟩
 have HD:Aside0 (stepC x ps s=if (((x.f0 == 3) && !cmtN x) || (rawB x && x.f5.any markN))=true then false else s):=⟨rfl⟩
 rw [HD.out]
 have HS0:=A_ hst
 have HB0:=A_ hB1
 have HK0:=A_ hk1
 clear hB hs hst hB1 hk1 h4 h5 l4 l5 hf hm HD
 generalize x.f5.any markN=bm at *
 generalize rawB x=br at *
 generalize cmtN x=bc at *
 generalize x.f4.length=n4 at *
 generalize x.f5.length=n5 at *
 cases hk:x.f0 == 3
 ·cases bc
  ·cases br
   ·cases bm
    ·simp only [Bool.not_true,Bool.not_false,Bool.and_true,Bool.and_false,Bool.or_true,Bool.or_false,Bool.false_and,Bool.true_and,Bool.false_or,Bool.true_or,if_true,if_false,Bool.false_eq_true]
     go_enter Try.func36,Try.ntmps36
     go_wp2_with (first|(go_at_call 38;(with_reducible refine (QR.out _ HB0.out).mono ?_);rintro e w2 ⟨rfl,hb⟩;(have HB2:=A_ (bp_ HB0.out hb));(have HK2:=A_ (HK0.out.trans (ok_below hb)));(have HS2:=A_ (⟨kb_ HS0.out.1 hb,hg0⟩:cleanSt w0 g s w2));(have d0:=pc_ hb b0);(have d1:=pc_ hb b1);(have d2:=pc_ hb b2);(have d3:=pc_ hb b3);(have d4:=pc_ hb b4);(have d5:=pc_ hb b5);(have z2:=bf_ HS2.out.1 0);(have y2:w2.cell? ⟨g,0,none⟩=some (.bool s):=(bc_ HS2.out.1 0).trans rfl);clear hb))
     go_end0
     exact ⟨rfl,HS2.out,HK2.out,HB2.out⟩
    ·simp only [Bool.not_true,Bool.not_false,Bool.and_true,Bool.and_false,Bool.or_true,Bool.or_false,Bool.false_and,Bool.true_and,Bool.false_or,Bool.true_or,if_true,if_false,Bool.false_eq_true]
     go_enter Try.func36,Try.ntmps36
     go_wp2_with (first|(go_at_call 38;(with_reducible refine (QR.out _ HB0.out).mono ?_);rintro e w2 ⟨rfl,hb⟩;(have HB2:=A_ (bp_ HB0.out hb));(have HK2:=A_ (HK0.out.trans (ok_below hb)));(have HS2:=A_ (⟨kb_ HS0.out.1 hb,hg0⟩:cleanSt w0 g s w2));(have d0:=pc_ hb b0);(have d1:=pc_ hb b1);(have d2:=pc_ hb b2);(have d3:=pc_ hb b3);(have d4:=pc_ hb b4);(have d5:=pc_ hb b5);(have z2:=bf_ HS2.out.1 0);(have y2:w2.cell? ⟨g,0,none⟩=some (.bool s):=(bc_ HS2.out.1 0).trans rfl);clear hb))
     go_end0
     exact ⟨rfl,HS2.out,HK2.out,HB2.out⟩
   ·cases bm
    ·simp only [Bool.not_true,Bool.not_false,Bool.and_true,Bool.and_false,Bool.or_true,Bool.or_false,Bool.false_and,Bool.true_and,Bool.false_or,Bool.true_or,if_true,if_false,Bool.false_eq_true]
     go_enter Try.func36,Try.ntmps36
     go_wp2_with (first|(go_at_call 38;(with_reducible refine (QR.out _ HB0.out).mono ?_);rintro e w2 ⟨rfl,hb⟩;(have HB2:=A_ (bp_ HB0.out hb));(have HK2:=A_ (HK0.out.trans (ok_below hb)));(have HS2:=A_ (⟨kb_ HS0.out.1 hb,hg0⟩:cleanSt w0 g s w2));(have d0:=pc_ hb b0);(have d1:=pc_ hb b1);(have d2:=pc_ hb b2);(have d3:=pc_ hb b3);(have d4:=pc_ hb b4);(have d5:=pc_ hb b5);(have z2:=bf_ HS2.out.1 0);(have y2:w2.cell? ⟨g,0,none⟩=some (.bool s):=(bc_ HS2.out.1 0).trans rfl);clear hb)|(go_at_call 39;(with_reducible refine (QM.out _ HB2.out).mono ?_);rintro e w3 ⟨rfl,hb⟩;(have HB3:=A_ (bp_ HB2.out hb));(have HK3:=A_ (HK2.out.trans (ok_below hb)));(have HS3:=A_ (⟨kb_ HS2.out.1 hb,hg0⟩:cleanSt w0 g s w3));(have z3:=bf_ HS3.out.1 0);(have y3:w3.cell? ⟨g,0,none⟩=some (.bool s):=(bc_ HS3.out.1 0).trans rfl);clear hb))
     go_end0
     exact ⟨rfl,HS3.out,HK3.out,HB3.out⟩
    ·simp only [Bool.not_true,Bool.not_false,Bool.and_true,Bool.and_false,Bool.or_true,Bool.or_false,Bool.false_and,Bool.true_and,Bool.false_or,Bool.true_or,if_true,if_false,Bool.false_eq_true]
     go_enter Try.func36,Try.ntmps36
     go_wp2_with (first|(go_at_call 38;(with_reducible refine (QR.out _ HB0.out).mono ?_);rintro e w2 ⟨rfl,hb⟩;(have HB2:=A_ (bp_ HB0.out hb));(have HK2:=A_ (HK0.out.trans (ok_below hb)));(have HS2:=A_ (⟨kb_ HS0.out.1 hb,hg0⟩:cleanSt w0 g s w2));(have d0:=pc_ hb b0);(have d1:=pc_ hb b1);(have d2:=pc_ hb b2);(have d3:=pc_ hb b3);(have d4:=pc_ hb b4);(have d5:=pc_ hb b5);(have z2:=bf_ HS2.out.1 0);(have y2:w2.cell? ⟨g,0,none⟩=some (.bool s):=(bc_ HS2.out.1 0).trans rfl);clear hb)|(go_at_call 39;(with_reducible refine (QM.out _ HB2.out).mono ?_);rintro e w3 ⟨rfl,hb⟩;(have HB3:=A_ (bp_ HB2.out hb));(have HK3:=A_ (HK2.out.trans (ok_below hb)));(have HS3:=A_ (⟨kb_ HS2.out.1 hb,hg0⟩:cleanSt w0 g s w3));(have z3:=bf_ HS3.out.1 0);(have y3:w3.cell? ⟨g,0,none⟩=some (.bool s):=(bc_ HS3.out.1 0).trans rfl);clear hb))
     go_end0
     exact ⟨rfl,⟨blk_set HS3.out.1 0 _,hg0⟩,Lib.OthersKept.setCell HK3.out ⟨g,0,none⟩ rfl _,bs_ (j:=0) HB3.out hg0⟩
  ·cases br
   ·cases bm
    ·simp only [Bool.not_true,Bool.not_false,Bool.and_true,Bool.and_false,Bool.or_true,Bool.or_false,Bool.false_and,Bool.true_and,Bool.false_or,Bool.true_or,if_true,if_false,Bool.false_eq_true]
     go_enter Try.func36,Try.ntmps36
     go_wp2_with (first|(go_at_call 38;(with_reducible refine (QR.out _ HB0.out).mono ?_);rintro e w2 ⟨rfl,hb⟩;(have HB2:=A_ (bp_ HB0.out hb));(have HK2:=A_ (HK0.out.trans (ok_below hb)));(have HS2:=A_ (⟨kb_ HS0.out.1 hb,hg0⟩:cleanSt w0 g s w2));(have d0:=pc_ hb b0);(have d1:=pc_ hb b1);(have d2:=pc_ hb b2);(have d3:=pc_ hb b3);(have d4:=pc_ hb b4);(have d5:=pc_ hb b5);(have z2:=bf_ HS2.out.1 0);(have y2:w2.cell? ⟨g,0,none⟩=some (.bool s):=(bc_ HS2.out.1 0).trans rfl);clear hb))
     go_end0
     exact ⟨rfl,HS2.out,HK2.out,HB2.out⟩
    ·simp only [Bool.not_true,Bool.not_false,Bool.and_true,Bool.and_false,Bool.or_true,Bool.or_false,Bool.false_and,Bool.true_and,Bool.false_or,Bool.true_or,if_true,if_false,Bool.false_eq_true]
     go_enter Try.func36,Try.ntmps36
     go_wp2_with (first|(go_at_call 38;(with_reducible refine (QR.out _ HB0.out).mono ?_);rintro e w2 ⟨rfl,hb⟩;(have HB2:=A_ (bp_ HB0.out hb));(have HK2:=A_ (HK0.out.trans (ok_below hb)));(have HS2:=A_ (⟨kb_ HS0.out.1 hb,hg0⟩:cleanSt w0 g s w2));(have d0:=pc_ hb b0);(have d1:=pc_ hb b1);(have d2:=pc_ hb b2);(have d3:=pc_ hb b3);(have d4:=pc_ hb b4);(have d5:=pc_ hb b5);(have z2:=bf_ HS2.out.1 0);(have y2:w2.cell? ⟨g,0,none⟩=some (.bool s):=(bc_ HS2.out.1 0).trans rfl);clear hb))
     go_end0
     exact ⟨rfl,HS2.out,HK2.out,HB2.out⟩
   ·cases bm
    ·simp only [Bool.not_true,Bool.not_false,Bool.and_true,Bool.and_false,Bool.or_true,Bool.or_false,Bool.false_and,Bool.true_and,Bool.false_or,Bool.true_or,if_true,if_false,Bool.false_eq_true]
     go_enter Try.func36,Try.ntmps36
     go_wp2_with (first|(go_at_call 38;(with_reducible refine (QR.out _ HB0.out).mono ?_);rintro e w2 ⟨rfl,hb⟩;(have HB2:=A_ (bp_ HB0.out hb));(have HK2:=A_ (HK0.out.trans (ok_below hb)));(have HS2:=A_ (⟨kb_ HS0.out.1 hb,hg0⟩:cleanSt w0 g s w2));(have d0:=pc_ hb b0);(have d1:=pc_ hb b1);(have d2:=pc_ hb b2);(have d3:=pc_ hb b3);(have d4:=pc_ hb b4);(have d5:=pc_ hb b5);(have z2:=bf_ HS2.out.1 0);(have y2:w2.cell? ⟨g,0,none⟩=some (.bool s):=(bc_ HS2.out.1 0).trans rfl);clear hb)|(go_at_call 39;(with_reducible refine (QM.out _ HB2.out).mono ?_);rintro e w3 ⟨rfl,hb⟩;(have HB3:=A_ (bp_ HB2.out hb));(have HK3:=A_ (HK2.out.trans (ok_below hb)));(have HS3:=A_ (⟨kb_ HS2.out.1 hb,hg0⟩:cleanSt w0 g s w3));(have z3:=bf_ HS3.out.1 0);(have y3:w3.cell? ⟨g,0,none⟩=some (.bool s):=(bc_ HS3.out.1 0).trans rfl);clear hb))
     go_end0
     exact ⟨rfl,HS3.out,HK3.out,HB3.out⟩
    ·simp only [Bool.not_true,Bool.not_false,Bool.and_true,Bool.and_false,Bool.or_true,Bool.or_false,Bool.false_and,Bool.true_and,Bool.false_or,Bool.true_or,if_true,if_false,Bool.false_eq_true]
     go_enter Try.func36,Try.ntmps36
     go_wp2_with (first|(go_at_call 38;(with_reducible refine (QR.out _ HB0.out).mono ?_);rintro e w2 ⟨rfl,hb⟩;(have HB2:=A_ (bp_ HB0.out hb));(have HK2:=A_ (HK0.out.trans (ok_below hb)));(have HS2:=A_ (⟨kb_ HS0.out.1 hb,hg0⟩:cleanSt w0 g s w2));(have d0:=pc_ hb b0);(have d1:=pc_ hb b1);(have d2:=pc_ hb b2);(have d3:=pc_ hb b3);(have d4:=pc_ hb b4);(have d5:=pc_ hb b5);(have z2:=bf_ HS2.out.1 0);(have y2:w2.cell? ⟨g,0,none⟩=some (.bool s):=(bc_ HS2.out.1 0).trans rfl);clear hb)|(go_at_call 39;(with_reducible refine (QM.out _ HB2.out).mono ?_);rintro e w3 ⟨rfl,hb⟩;(have HB3:=A_ (bp_ HB2.out hb));(have HK3:=A_ (HK2.out.trans (ok_below hb)));(have HS3:=A_ (⟨kb_ HS2.out.1 hb,hg0⟩:cleanSt w0 g s w3));(have z3:=bf_ HS3.out.1 0);(have y3:w3.cell? ⟨g,0,none⟩=some (.bool s):=(bc_ HS3.out.1 0).trans rfl);clear hb))
     go_end0
     exact ⟨rfl,⟨blk_set HS3.out.1 0 _,hg0⟩,Lib.OthersKept.setCell HK3.out ⟨g,0,none⟩ rfl _,bs_ (j:=0) HB3.out hg0⟩
 ·cases bc
  ·cases br
   ·cases bm
    ·simp only [Bool.not_true,Bool.not_false,Bool.and_true,Bool.and_false,Bool.or_true,Bool.or_false,Bool.false_and,Bool.true_and,Bool.false_or,Bool.true_or,if_true,if_false,Bool.false_eq_true]
     go_enter Try.func36,Try.ntmps36
     go_wp2_with (first|(go_at_call 37;(with_reducible refine (QC.out _ HB0.out).mono ?_);rintro e w1 ⟨rfl,hb⟩;(have HB1:=A_ (bp_ HB0.out hb));(have HK1:=A_ (HK0.out.trans (ok_below hb)));(have HS1:=A_ (⟨kb_ HS0.out.1 hb,hg0⟩:cleanSt w0 g s w1));(have d0:=pc_ hb b0);(have d1:=pc_ hb b1);(have d2:=pc_ hb b2);(have d3:=pc_ hb b3);(have d4:=pc_ hb b4);(have d5:=pc_ hb b5);(have z1:=bf_ HS1.out.1 0);(have y1:w1.cell? ⟨g,0,none⟩=some (.bool s):=(bc_ HS1.out.1 0).trans rfl);clear hb))
     go_end0
     exact ⟨rfl,⟨blk_set HS1.out.1 0 _,hg0⟩,Lib.OthersKept.setCell HK1.out ⟨g,0,none⟩ rfl _,bs_ (j:=0) HB1.out hg0⟩
    ·simp only [Bool.not_true,Bool.not_false,Bool.and_true,Bool.and_false,Bool.or_true,Bool.or_false,Bool.false_and,Bool.true_and,Bool.false_or,Bool.true_or,if_true,if_false,Bool.false_eq_true]
     go_enter Try.func36,Try.ntmps36
     go_wp2_with (first|(go_at_call 37;(with_reducible refine (QC.out _ HB0.out).mono ?_);rintro e w1 ⟨rfl,hb⟩;(have HB1:=A_ (bp_ HB0.out hb));(have HK1:=A_ (HK0.out.trans (ok_below hb)));(have HS1:=A_ (⟨kb_ HS0.out.1 hb,hg0⟩:cleanSt w0 g s w1));(have d0:=pc_ hb b0);(have d1:=pc_ hb b1);(have d2:=pc_ hb b2);(have d3:=pc_ hb b3);(have d4:=pc_ hb b4);(have d5:=pc_ hb b5);(have z1:=bf_ HS1.out.1 0);(have y1:w1.cell? ⟨g,0,none⟩=some (.bool s):=(bc_ HS1.out.1 0).trans rfl);clear hb))
     go_end0
     exact ⟨rfl,⟨blk_set HS1.out.1 0 _,hg0⟩,Lib.OthersKept.setCell HK1.out ⟨g,0,none⟩ rfl _,bs_ (j:=0) HB1.out hg0⟩
   ·cases bm
    ·simp only [Bool.not_true,Bool.not_false,Bool.and_true,Bool.and_false,Bool.or_true,Bool.or_false,Bool.false_and,Bool.true_and,Bool.false_or,Bool.true_or,if_true,if_false,Bool.false_eq_true]
     go_enter Try.func36,Try.ntmps36
     go_wp2_with (first|(go_at_call 37;(with_reducible refine (QC.out _ HB0.out).mono ?_);rintro e w1 ⟨rfl,hb⟩;(have HB1:=A_ (bp_ HB0.out hb));(have HK1:=A_ (HK0.out.trans (ok_below hb)));(have HS1:=A_ (⟨kb_ HS0.out.1 hb,hg0⟩:cleanSt w0 g s w1));(have d0:=pc_ hb b0);(have d1:=pc_ hb b1);(have d2:=pc_ hb b2);(have d3:=pc_ hb b3);(have d4:=pc_ hb b4);(have d5:=pc_ hb b5);(have z1:=bf_ HS1.out.1 0);(have y1:w1.cell? ⟨g,0,none⟩=some (.bool s):=(bc_ HS1.out.1 0).trans rfl);clear hb))
     go_end0
     exact ⟨rfl,⟨blk_set HS1.out.1 0 _,hg0⟩,Lib.OthersKept.setCell HK1.out ⟨g,0,none⟩ rfl _,bs_ (j:=0) HB1.out hg0⟩
    ·simp only [Bool.not_true,Bool.not_false,Bool.and_true,Bool.and_false,Bool.or_true,Bool.or_false,Bool.false_and,Bool.true_and,Bool.false_or,Bool.true_or,if_true,if_false,Bool.false_eq_true]
     go_enter Try.func36,Try.ntmps36
     go_wp2_with (first|(go_at_call 37;(with_reducible refine (QC.out _ HB0.out).mono ?_);rintro e w1 ⟨rfl,hb⟩;(have HB1:=A_ (bp_ HB0.out hb));(have HK1:=A_ (HK0.out.trans (ok_below hb)));(have HS1:=A_ (⟨kb_ HS0.out.1 hb,hg0⟩:cleanSt w0 g s w1));(have d0:=pc_ hb b0);(have d1:=pc_ hb b1);(have d2:=pc_ hb b2);(have d3:=pc_ hb b3);(have d4:=pc_ hb b4);(have d5:=pc_ hb b5);(have z1:=bf_ HS1.out.1 0);(have y1:w1.cell? ⟨g,0,none⟩=some (.bool s):=(bc_ HS1.out.1 0).trans rfl);clear hb))
     go_end0
     exact ⟨rfl,⟨blk_set HS1.out.1 0 _,hg0⟩,Lib.OthersKept.setCell HK1.out ⟨g,0,none⟩ rfl _,bs_ (j:=0) HB1.out hg0⟩
  ·cases br
   ·cases bm
    ·simp only [Bool.not_true,Bool.not_false,Bool.and_true,Bool.and_false,Bool.or_true,Bool.or_false,Bool.false_and,Bool.true_and,Bool.false_or,Bool.true_or,if_true,if_false,Bool.false_eq_true]
     go_enter Try.func36,Try.ntmps36
     go_wp2_with (first|(go_at_call 37;(with_reducible refine (QC.out _ HB0.out).mono ?_);rintro e w1 ⟨rfl,hb⟩;(have HB1:=A_ (bp_ HB0.out hb));(have HK1:=A_ (HK0.out.trans (ok_below hb)));(have HS1:=A_ (⟨kb_ HS0.out.1 hb,hg0⟩:cleanSt w0 g s w1));(have d0:=pc_ hb b0);(have d1:=pc_ hb b1);(have d2:=pc_ hb b2);(have d3:=pc_ hb b3);(have d4:=pc_ hb b4);(have d5:=pc_ hb b5);(have z1:=bf_ HS1.out.1 0);(have y1:w1.cell? ⟨g,0,none⟩=some (.bool s):=(bc_ HS1.out.1 0).trans rfl);clear hb)|(go_at_call 38;(with_reducible refine (QR.out _ HB1.out).mono ?_);rintro e w2 ⟨rfl,hb⟩;(have HB2:=A_ (bp_ HB1.out hb));(have HK2:=A_ (HK1.out.trans (ok_below hb)));(have HS2:=A_ (⟨kb_ HS1.out.1 hb,hg0⟩:cleanSt w0 g s w2));(have e0:=pc_ hb d0);(have e1:=pc_ hb d1);(have e2:=pc_ hb d2);(have e3:=pc_ hb d3);(have e4:=pc_ hb d4);(have e5:=pc_ hb d5);(have z2:=bf_ HS2.out.1 0);(have y2:w2.cell? ⟨g,0,none⟩=some (.bool s):=(bc_ HS2.out.1 0).trans rfl);clear hb))
     go_end0
     exact ⟨rfl,HS2.out,HK2.out,HB2.out⟩
    ·simp only [Bool.not_true,Bool.not_false,Bool.and_true,Bool.and_false,Bool.or_true,Bool.or_false,Bool.false_and,Bool.true_and,Bool.false_or,Bool.true_or,if_true,if_false,Bool.false_eq_true]
     go_enter Try.func36,Try.ntmps36
     go_wp2_with (first|(go_at_call 37;(with_reducible refine (QC.out _ HB0.out).mono ?_);rintro e w1 ⟨rfl,hb⟩;(have HB1:=A_ (bp_ HB0.out hb));(have HK1:=A_ (HK0.out.trans (ok_below hb)));(have HS1:=A_ (⟨kb_ HS0.out.1 hb,hg0⟩:cleanSt w0 g s w1));(have d0:=pc_ hb b0);(have d1:=pc_ hb b1);(have d2:=pc_ hb b2);(have d3:=pc_ hb b3);(have d4:=pc_ hb b4);(have d5:=pc_ hb b5);(have z1:=bf_ HS1.out.1 0);(have y1:w1.cell? ⟨g,0,none⟩=some (.bool s):=(bc_ HS1.out.1 0).trans rfl);clear hb)|(go_at_call 38;(with_reducible refine (QR.out _ HB1.out).mono ?_);rintro e w2 ⟨rfl,hb⟩;(have HB2:=A_ (bp_ HB1.out hb));(have HK2:=A_ (HK1.out.trans (ok_below hb)));(have HS2:=A_ (⟨kb_ HS1.out.1 hb,hg0⟩:cleanSt w0 g s w2));(have e0:=pc_ hb d0);(have e1:=pc_ hb d1);(have e2:=pc_ hb d2);(have e3:=pc_ hb d3);(have e4:=pc_ hb d4);(have e5:=pc_ hb d5);(have z2:=bf_ HS2.out.1 0);(have y2:w2.cell? ⟨g,0,none⟩=some (.bool s):=(bc_ HS2.out.1 0).trans rfl);clear hb))
     go_end0
     exact ⟨rfl,HS2.out,HK2.out,HB2.out⟩
   ·cases bm
    ·simp only [Bool.not_true,Bool.not_false,Bool.and_true,Bool.and_false,Bool.or_true,Bool.or_false,Bool.false_and,Bool.true_and,Bool.false_or,Bool.true_or,if_true,if_false,Bool.false_eq_true]
     go_enter Try.func36,Try.ntmps36
     go_wp2_with (first|(go_at_call 37;(with_reducible refine (QC.out _ HB0.out).mono ?_);rintro e w1 ⟨rfl,hb⟩;(have HB1:=A_ (bp_ HB0.out hb));(have HK1:=A_ (HK0.out.trans (ok_below hb)));(have HS1:=A_ (⟨kb_ HS0.out.1 hb,hg0⟩:cleanSt w0 g s w1));(have d0:=pc_ hb b0);(have d1:=pc_ hb b1);(have d2:=pc_ hb b2);(have d3:=pc_ hb b3);(have d4:=pc_ hb b4);(have d5:=pc_ hb b5);(have z1:=bf_ HS1.out.1 0);(have y1:w1.cell? ⟨g,0,none⟩=some (.bool s):=(bc_ HS1.out.1 0).trans rfl);clear hb)|(go_at_call 38;(with_reducible refine (QR.out _ HB1.out).mono ?_);rintro e w2 ⟨rfl,hb⟩;(have HB2:=A_ (bp_ HB1.out hb));(have HK2:=A_ (HK1.out.trans (ok_below hb)));(have HS2:=A_ (⟨kb_ HS1.out.1 hb,hg0⟩:cleanSt w0 g s w2));(have e0:=pc_ hb d0);(have e1:=pc_ hb d1);(have e2:=pc_ hb d2);(have e3:=pc_ hb d3);(have e4:=pc_ hb d4);(have e5:=pc_ hb d5);(have z2:=bf_ HS2.out.1 0);(have y2:w2.cell? ⟨g,0,none⟩=some (.bool s):=(bc_ HS2.out.1 0).trans rfl);clear hb)|(go_at_call 39;(with_reducible refine (QM.out _ HB2.out).mono ?_);rintro e w3 ⟨rfl,hb⟩;(have HB3:=A_ (bp_ HB2.out hb));(have HK3:=A_ (HK2.out.trans (ok_below hb)));(have HS3:=A_ (⟨kb_ HS2.out.1 hb,hg0⟩:cleanSt w0 g s w3));(have z3:=bf_ HS3.out.1 0);(have y3:w3.cell? ⟨g,0,none⟩=some (.bool s):=(bc_ HS3.out.1 0).trans rfl);clear hb))
     go_end0
     exact ⟨rfl,HS3.out,HK3.out,HB3.out⟩
    ·simp only [Bool.not_true,Bool.not_false,Bool.and_true,Bool.and_false,Bool.or_true,Bool.or_false,Bool.false_and,Bool.true_and,Bool.false_or,Bool.true_or,if_true,if_false,Bool.false_eq_true]
     go_enter Try.func36,Try.ntmps36
     go_wp2_with (first|(go_at_call 37;(with_reducible refine (QC.out _ HB0.out).mono ?_);rintro e w1 ⟨rfl,hb⟩;(have HB1:=A_ (bp_ HB0.out hb));(have HK1:=A_ (HK0.out.trans (ok_below hb)));(have HS1:=A_ (⟨kb_ HS0.out.1 hb,hg0⟩:cleanSt w0 g s w1));(have d0:=pc_ hb b0);(have d1:=pc_ hb b1);(have d2:=pc_ hb b2);(have d3:=pc_ hb b3);(have d4:=pc_ hb b4);(have d5:=pc_ hb b5);(have z1:=bf_ HS1.out.1 0);(have y1:w1.cell? ⟨g,0,none⟩=some (.bool s):=(bc_ HS1.out.1 0).trans rfl);clear hb)|(go_at_call 38;(with_reducible refine (QR.out _ HB1.out).mono ?_);rintro e w2 ⟨rfl,hb⟩;(have HB2:=A_ (bp_ HB1.out hb));(have HK2:=A_ (HK1.out.trans (ok_below hb)));(have HS2:=A_ (⟨kb_ HS1.out.1 hb,hg0⟩:cleanSt w0 g s w2));(have e0:=pc_ hb d0);(have e1:=pc_ hb d1);(have e2:=pc_ hb d2);(have e3:=pc_ hb d3);(have e4:=pc_ hb d4);(have e5:=pc_ hb d5);(have z2:=bf_ HS2.out.1 0);(have y2:w2.cell? ⟨g,0,none⟩=some (.bool s):=(bc_ HS2.out.1 0).trans rfl);clear hb)|(go_at_call 39;(with_reducible refine (QM.out _ HB2.out).mono ?_);rintro e w3 ⟨rfl,hb⟩;(have HB3:=A_ (bp_ HB2.out hb));(have HK3:=A_ (HK2.out.trans (ok_below hb)));(have HS3:=A_ (⟨kb_ HS2.out.1 hb,hg0⟩:cleanSt w0 g s w3));(have z3:=bf_ HS3.out.1 0);(have y3:w3.cell? ⟨g,0,none⟩=some (.bool s):=(bc_ HS3.out.1 0).trans rfl);clear hb))
     go_end0
     exact ⟨rfl,⟨blk_set HS3.out.1 0 _,hg0⟩,Lib.OthersKept.setCell HK3.out ⟨g,0,none⟩ rfl _,bs_ (j:=0) HB3.out hg0⟩
def impl_Clean.f (l0:List S44):Option Bool:=(impl_Harmless.f l0).bind fun h=>if h=true then (if l0.all (goodC 10)=true then some (eachP stepC 10 l0 [] true) else none) else some false
set_option maxHeartbeats 8000000 in
theorem impl_Clean.calls (m:Int) (A0:Option Addr) (c0:Nat) (l0:List S44) (r:Bool) (w:World) (hm:w.cell? ⟨0,0,none⟩=some (.int .i64 m)) (hr0:Kd.C k44 w A0 l0.length l0) (hc0:l0.length≤c0) (h:impl_Clean.f l0=some r) :
 Calls Try.prog 16 #[.slice A0 l0.length c0] w fun e w'=>e=.returned (.bool r)∧Below w.heap.size w w':=by
 unfold impl_Clean.f at h
 obtain ⟨b,hb,h⟩:=ob_ h
 have QH:=A_ (impl_Harmless.calls A0 c0 l0 b w hr0 hc0 hb)
 cases b with
 | false =>
  rw [if_neg Bool.false_ne_true] at h
  obtain rfl:=oi_ h
  clear h hb hr0 hc0 hm
  generalize l0.length=n0 at *
  go_enter Try.func16,Try.ntmps16
  go_wp2_with (go_at_call 34;(with_reducible refine QH.out.mono ?_);rintro e w1 ⟨rfl,hb1⟩;(have q0:(w1.alloc (.cells #[.bool false] 4 (0,0))).cell? ⟨w1.heap.size,0,none⟩=some (.bool false):=Mach.new_cell w1 _ _ 0 _ rfl);(have HB1:=A_ (ba_ hb1 (.cells #[.bool false] 4 (0,0))));clear hb1)
  go_ret
  exact ⟨rfl,HB1.out⟩
 | true =>
  rw [if_pos rfl] at h
  obtain ⟨hd,h⟩:=Option.ite_none_right_eq_some.mp h
  rw [List.all_eq_true] at hd
  obtain rfl:=oi_ h
  have QE:Aside0 (∀ V,Below w.heap.size w V→Calls Try.prog 35 #[.slice A0 l0.length c0,.slice none 0 0,.func (.func 36) #[] #[.pointer (some ⟨V.heap.size,0,none⟩)]] (V.alloc (.cells #[.bool true] 4 (0,0))) fun e w'=>e=.returned (.tuple #[])∧cleanSt w V.heap.size (eachP stepC 10 l0 [] true) w'∧Below w.heap.size w w'):=⟨fun V hV=>by
   refine (each_holdsP 4 (by decide) (by decide) (fun s W=>cleanSt w V.heap.size s W) (fun _=>True) FitC stepC w V.heap.size 36 #[.pointer (some ⟨V.heap.size,0,none⟩)] (Mach.enters_of Try.func36 (by kernel_rfl) rfl) (fun s W W' hb h=>⟨kb_ h.1 hb,h.2⟩) (fun s W h=>blk_lt h.1) (fun _ _ _ _=>trivial)
    (fun x ps s A4 c4 A5 c5 ap n c W _ hP l4 h4 l5 h5 _ hB hs _=>clean_lit w V.heap.size m hm x ps s A4 c4 A5 c5 ap n c W hP l4 h4 l5 h5 hB hs) 10 A0 c0 l0 [] (.slice none 0 0) true (V.alloc (.cells #[.bool true] 4 (0,0))) (by decide) (fun y hy=>goodC_of 10 y (hd y hy)) hr0 (.inl ⟨rfl,rfl⟩) (ba_ hV _) ⟨blk_new V _,hV.size⟩ trivial).mono fun e w' ⟨h1,h2,_,h4⟩=>⟨h1,h2,h4⟩⟩
  clear h hb hr0 hc0 hd hm
  generalize eachP stepC 10 l0 [] true=R at *
  generalize l0.length=n0 at *
  go_enter Try.func16,Try.ntmps16
  go_wp2_with (first|(go_at_call 34;(with_reducible refine QH.out.mono ?_);rintro e w1 ⟨rfl,hb1⟩;(have q0:(w1.alloc (.cells #[.bool true] 4 (0,0))).cell? ⟨w1.heap.size,0,none⟩=some (.bool true):=Mach.new_cell w1 _ _ 0 _ rfl);(have HB1:=A_ hb1);clear hb1)|(go_at_call 35;(with_reducible refine (QE.out w1 HB1.out).mono ?_);rintro e w2 ⟨rfl,⟨hg,_⟩,hb2⟩;(have q2:w2.cell? ⟨w1.heap.size,0,none⟩=some (.bool R):=(bc_ hg 0).trans rfl);(have HB2:=A_ hb2);clear hg hb2))
  go_ret
  exact ⟨rfl,HB2.out⟩
end Go.Proofs.Ytjlikemmhjclpaa.PFnExactClean
