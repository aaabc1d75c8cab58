/- The pure statement of FnExactAllowsAttr: for every configuration, space, name and attribute both functions tell the same. No conditions. -/
import Derived.Test.YtmeafbneklphnaaKit
import Derived.Test.YtmeafbneklphnaaOpensFnExactAllowsAttr
set_option linter.unusedVariables false
namespace Go.Proofs.Ytmeafbneklphnaa.Pure.LAllowsAttr
open Go.RowKit Go.Proofs.Ytmeafbneklphnaa.PFnExactAllowsAttr Go.Proofs.YtmeafbneklphnaaW.PrintWords
open Go.Proofs.Ytmeafbneklphnaa.Kit (small digit big pos_eq neg_eq tagB isTag nameB isName lowC lowS lowS_bytes handler wantJ wantJ_eq keepC badL badFrom badFrom_zero badFrom_full badFrom_nil badFrom_skip badFrom_take indexByte_any markB namesAt namesOK)
/-- What the size of a list of texts leaves: if it is no negative number, all is short. -/
theorem ev_szStringS (xs:List ByteArray) (left:Int) (h0:0≤left) (h1:left≤1048576) (hx:Open.Few Open.Short xs) :
 ∃ t,Ev (fun k=>laws_szStringS.f k xs left) t∧t≤left∧(0≤t→(xs.length:Int)≤left∧∀ x∈xs,(x.size:Int)≤left):=by
 have hn:=hx.1
 have key:∀ i,i≤xs.length→∀ l:Int,0≤l→l≤left→∃ t,Ev (fun k=>laws_szStringS.l0 k xs l i) t∧t≤l∧(0≤t→∀ x∈xs.drop i,(x.size:Int)≤left):=by
  refine Kit.down ?_ ?_
  ·intro l _ _
   exact ⟨l,Ev.step (fun k=>rfl) (Kit.ev_neg (by omega) (Ev.now _)),Int.le_refl _,fun _ x hx=>by rw [List.drop_length] at hx;exact absurd hx List.not_mem_nil⟩
  ·intro i hi ih l hl0 hl1
   have hs:(xs.getD i ByteArray.empty).size≤9223372036854775807:=hx.2 _ (by rw [List.getD_eq_getElem?_getD,List.getElem?_eq_getElem hi];exact List.getElem_mem hi)
   have hw:wrap64 (l - ((xs.getD i ByteArray.empty).size:Int))=l - ((xs.getD i ByteArray.empty).size:Int):=Kit.wrap_of (by omega) (by omega)
   by_cases hneg:l - ((xs.getD i ByteArray.empty).size:Int)<0
   ·refine ⟨-1,Ev.step (fun k=>rfl) (Kit.ev_pos (by omega) (Kit.ev_pos (by omega) ?_)),by omega,fun h=>absurd h (by omega)⟩
    rw [Kit.rdOf_nat,hw]
    exact Kit.ev_pos hneg (Ev.now _)
   ·obtain ⟨t,ht,htl,hg⟩:=ih (l - ((xs.getD i ByteArray.empty).size:Int)) (by omega) (by omega)
    refine ⟨t,Ev.step (fun k=>rfl) (Kit.ev_pos (by omega) (Kit.ev_pos (by omega) ?_)),by omega,fun h x hx=>?_⟩
    ·rw [Kit.rdOf_nat,hw,Kit.wrap_nat hi (by omega)]
     exact Kit.ev_neg hneg ht
    ·rw [Kit.drop_getD ByteArray.empty xs i hi] at hx
     rcases List.mem_cons.1 hx with rfl|hx
     ·omega
     ·exact hg h x hx
 have hw:wrap64 (left - (xs.length:Int))=left - (xs.length:Int):=Kit.wrap_of (by omega) (by omega)
 unfold laws_szStringS.f
 rw [hw]
 by_cases hneg:left - (xs.length:Int)<0
 ·exact ⟨-1,Kit.ev_pos hneg (Ev.now _),by omega,fun h=>absurd h (by omega)⟩
 ·obtain ⟨t,ht,htl,hg⟩:=key 0 (Nat.zero_le _) (left - (xs.length:Int)) (by omega) (by omega)
  exact ⟨t,Kit.ev_neg hneg ht,by omega,fun h=>⟨by omega,by simpa using hg h⟩⟩
theorem ev_toStringS (xs:List ByteArray) (hn:xs.length≤1048576):Ev (fun k=>laws_toStringS.f k xs) xs:=by
 have key:∀ i,i≤xs.length→∀ acc:List ByteArray,acc.length=xs.length→acc.take i=xs.take i→Ev (fun k=>laws_toStringS.l0 k xs acc i) xs:=by
  refine Kit.down ?_ ?_
  ·intro acc hl ht
   rw [←hl,List.take_length,hl,List.take_length] at ht
   rw [ht]
   exact Ev.step (fun k=>rfl) (Kit.ev_neg (by omega) (Ev.now _))
  ·intro i hi ih acc hl ht
   refine Ev.step (fun k=>rfl) (Kit.ev_pos (by omega) (Kit.ev_pos (by omega) (Kit.ev_pos (by omega) ?_)))
   rw [Kit.rdOf_nat,Kit.wrap_nat hi (by omega),Int.toNat_natCast]
   refine ih _ (by rw [List.length_set];exact hl) ?_
   exact Kit.take_set_getD ByteArray.empty hl ht hi
 unfold laws_toStringS.f
 refine Kit.ev_pos (by omega) (Kit.ev_pos (by omega) ?_)
 rw [Int.toNat_natCast]
 exact key 0 (by omega) _ (by rw [List.length_replicate]) (by simp)
theorem ev_eqStringS (xs:List ByteArray) (hn:xs.length≤1048576):Ev (fun k=>laws_eqStringS.f k xs xs) true:=by
 have key:∀ i,i≤xs.length→Ev (fun k=>laws_eqStringS.l0 k xs xs i) true:=by
  refine Kit.down ?_ ?_
  ·exact Ev.step (fun k=>rfl) (Kit.ev_neg (by omega) (Ev.now _))
  ·intro i hi ih
   refine Ev.step (fun k=>rfl) (Kit.ev_pos (by omega) (Kit.ev_pos (by omega) (Kit.ev_pos (by omega) (Kit.ev_pos rfl ?_))))
   rw [Kit.wrap_nat hi (by omega)]
   exact ih
 unfold laws_eqStringS.f
 exact Kit.ev_pos rfl (key 0 (by omega))
theorem within_eq2 (n a b:Int):impl_within.f n a b=some (decide (a≤n∧n≤b)):=by
 unfold impl_within.f
 by_cases h:n≥a
 ·rw [if_pos h];simp [h]
 ·rw [if_neg h];simp;omega
theorem l01In_eq2 (n a b:Int):spec_l01In.f n a b=some (decide (a≤n∧n≤b)):=by
 unfold spec_l01In.f
 by_cases h:n≥a
 ·rw [if_pos h];simp [h]
 ·rw [if_neg h];simp;omega
/-- A rule: its space, its name, its names. -/
def ruleB (s:Int) (n:ByteArray) (xs:List ByteArray):Bool:=decide (0≤s∧s≤2) && (isTag n && namesOK xs)
theorem ev_l07Rule (s:Int) (n:ByteArray) (xs:List ByteArray) (hn:n.size≤9223372036854775807) (hx:∀ x∈xs,x.size≤9223372036854775807):Ev (fun k=>spec_l07Rule.f k s n xs) (ruleB s n xs):=by
 unfold spec_l07Rule.f ruleB
 refine Kit.ev_some (l01In_eq2 _ _ _) (Kit.ev_if (fun h=>?_) (fun h=>?_))
 ·rw [h,Bool.true_and]
  refine Ev.bind (ev_tag_spec n hn) (Kit.ev_if (fun h=>?_) (fun h=>?_))
  ·rw [h,Bool.true_and]
   exact Kit.ev_const (by rw [spec_l07Names.f,if_pos hx];rfl)
  ·rw [Bool.eq_false_iff.2 h,Bool.false_and];exact Ev.now _
 ·rw [Bool.eq_false_iff.2 h,Bool.false_and];exact Ev.now _
theorem ev_RuleOK (s:Int) (n:ByteArray) (xs:List ByteArray) (hn:n.size≤9223372036854775807) (hx:∀ x∈xs,x.size≤9223372036854775807):Ev (fun k=>impl_RuleOK.f k s n xs) (ruleB s n xs):=by
 unfold impl_RuleOK.f ruleB
 refine Kit.ev_some (within_eq2 _ _ _) (Kit.ev_if (fun h=>?_) (fun h=>?_))
 ·rw [h,Bool.true_and]
  refine Ev.bind (ev_tag_impl n hn) (Kit.ev_if (fun h=>?_) (fun h=>?_))
  ·rw [h,Bool.true_and]
   exact Kit.ev_const (by rw [impl_areNames.f,if_pos hx];rfl)
  ·rw [Bool.eq_false_iff.2 h,Bool.false_and];exact Ev.now _
 ·rw [Bool.eq_false_iff.2 h,Bool.false_and];exact Ev.now _
/- Lists of rules: laws' kind S94, the program's kind S56. -/
def toR (x:S94):S56:=⟨x.f0,x.f1,x.f2⟩
theorem rdLR_nat (xs:List S94) (i:Nat):rd_T94 xs (i:Int)=xs.getD i z94:=by simp [rd_T94]
theorem rdR_nat (xs:List S56) (i:Nat):rd_T56 xs (i:Int)=xs.getD i z56:=by simp [rd_T56]
def FitR (x:S94):Prop:=x.f1.size≤1048576∧x.f2.length≤1048576∧∀ y∈x.f2,y.size≤1048576
theorem ex_szRule (x:S94) (l:Int) (h0:0≤l) (h1:l≤1048576) (hg:G94 x):∃ t,Ev (fun k=>laws_szRule.f k x.f0 x.f1 x.f2 l) t∧t≤l∧(0≤t→FitR x):=by
 have hsz:x.f1.size≤9223372036854775807:=hg.2.1
 have hw:wrap64 (l - (x.f1.size:Int))=l - (x.f1.size:Int):=Kit.wrap_of (by omega) (by omega)
 unfold laws_szRule.f
 rw [hw]
 by_cases hneg:l - (x.f1.size:Int)<0
 ·exact ⟨-1,Kit.ev_pos hneg (Ev.now _),by omega,fun h=>absurd h (by omega)⟩
 ·obtain ⟨t,ht,htl,htg⟩:=ev_szStringS x.f2 (l - (x.f1.size:Int)) (by omega) (by omega) hg.2.2
  by_cases htn:t<0
  ·exact ⟨-1,Kit.ev_neg hneg (Ev.bind ht (Kit.ev_pos htn (Ev.now _))),by omega,fun h=>absurd h (by omega)⟩
  ·refine ⟨t,Kit.ev_neg hneg (Ev.bind ht (Kit.ev_neg htn (Ev.now _))),by omega,fun h=>?_⟩
   obtain ⟨hl,hx⟩:=htg h
   exact ⟨by omega,by omega,fun y hy=>by have:=hx y hy;omega⟩
open Classical in
noncomputable def szR (x:S94) (l:Int):Int:=if h:∃ t,Ev (fun k=>laws_szRule.f k x.f0 x.f1 x.f2 l) t∧t≤l∧(0≤t→FitR x) then h.choose else -1
theorem szR_ev (x:S94) (l:Int) (h0:0≤l) (h1:l≤1048576) (hg:G94 x):Ev (fun k=>laws_szRule.f k x.f0 x.f1 x.f2 l) (szR x l):=by
 have h:=ex_szRule x l h0 h1 hg
 unfold szR
 rw [dif_pos h]
 exact h.choose_spec.1
theorem szR_fit (x:S94) (l:Int) (h0:0≤l) (h1:l≤1048576) (hg:G94 x):szR x l≤l∧(0≤szR x l→FitR x):=by
 have h:=ex_szRule x l h0 h1 hg
 unfold szR
 rw [dif_pos h]
 exact h.choose_spec.2
theorem ev_szRuleS (xs:List S94) (left:Int) (h0:0≤left) (h1:left≤1048576) (hx:Open.Few G94 xs) :
 ∃ t,Ev (fun k=>laws_szRuleS.f k xs left) t∧t≤left∧(0≤t→xs.length≤1048576∧∀ x∈xs,FitR x):=by
 have hn:=hx.1
 have hw:wrap64 (left - (xs.length:Int))=left - (xs.length:Int):=Kit.wrap_of (by omega) (by omega)
 unfold laws_szRuleS.f
 rw [hw]
 by_cases hneg:left - (xs.length:Int)<0
 ·exact ⟨-1,Kit.ev_pos hneg (Ev.now _),by omega,fun h=>absurd h (by omega)⟩
 ·obtain ⟨t,ht,htl,hg⟩:=Kit.ev_size z94 (xs:=xs) (P:=FitR) (E:=szR) (L:=fun k l i=>laws_szRuleS.l0 k xs l i) (fun a ha l a0 a1=>szR_fit a l a0 a1 (hx.2 a ha))
   (fun l=>Ev.step (fun k=>rfl) (Kit.ev_neg (by omega) (Ev.now _)))
   (fun i hi l a0 a1 hE=>Ev.step (fun k=>rfl) (Kit.ev_pos (by omega) (Kit.ev_pos (by omega) (by rw [rdLR_nat];exact Ev.bind (szR_ev _ l a0 a1 (hx.2 _ (Kit.getD_mem _ hi))) (Kit.ev_pos hE (Ev.now _))))))
   (fun i hi l r a0 a1 hE ih=>Ev.step (fun k=>rfl) (Kit.ev_pos (by omega) (Kit.ev_pos (by omega) (by rw [rdLR_nat,Kit.wrap_nat hi (by omega)];exact Ev.bind (szR_ev _ l a0 a1 (hx.2 _ (Kit.getD_mem _ hi))) (Kit.ev_neg (by omega) ih)))))
   (left - (xs.length:Int)) (by omega) (by omega)
  exact ⟨t,Kit.ev_neg hneg ht,by omega,fun h=>⟨by omega,hg h⟩⟩
theorem ev_toRule (x:S94) (h:x.f2.length≤1048576):Ev (fun k=>laws_toRule.f k x.f0 x.f1 x.f2) (x.f0,x.f1,x.f2):=by
 unfold laws_toRule.f
 exact Ev.bind (ev_toStringS x.f2 h) (Ev.now _)
theorem ev_toRuleS (xs:List S94) (hn:xs.length≤1048576) (hx:∀ x∈xs,FitR x):Ev (fun k=>laws_toRuleS.f k xs) (xs.map toR):=by
 unfold laws_toRuleS.f
 refine Kit.ev_pos (by omega) (Kit.ev_pos (by omega) ?_)
 rw [Int.toNat_natCast]
 refine Kit.ev_conv z94 (L:=fun k acc i=>laws_toRuleS.l0 k xs acc i) (fun acc hl=>Ev.step (fun k=>rfl) (Kit.ev_neg (by omega) (Ev.now _))) ?_ _ (by rw [List.length_replicate])
 intro i hi acc r hl ih
 refine Ev.step (fun k=>rfl) (Kit.ev_pos (by omega) (Kit.ev_pos (by omega) ?_))
 rw [rdLR_nat,Kit.wrap_nat hi (by omega),Int.toNat_natCast]
 exact Ev.bind (ev_toRule _ (hx _ (Kit.getD_mem _ hi)).2.1) (Kit.ev_pos (by omega) ih)
theorem ev_eqRule (x:S56) (h:x.f2.length≤1048576):Ev (fun k=>laws_eqRule.f k x.f0 x.f1 x.f2 x.f0 x.f1 x.f2) true:=by
 unfold laws_eqRule.f
 exact Kit.ev_pos rfl (Kit.ev_pos rfl (Ev.bind (ev_eqStringS x.f2 h) (Kit.ev_pos rfl (Ev.now _))))
/-- A rule of the program's kind whose texts are short. -/
def FitQ (x:S56):Prop:=x.f1.size≤1048576∧x.f2.length≤1048576∧∀ y∈x.f2,y.size≤1048576
theorem fitQ_map {xs:List S94} (hx:∀ x∈xs,FitR x):∀ x∈xs.map toR,FitQ x:=by
 intro y hy
 obtain ⟨x,hm,rfl⟩:=List.mem_map.1 hy
 exact hx x hm
theorem ev_eqRuleS (xs:List S56) (hn:xs.length≤1048576) (hx:∀ x∈xs,FitQ x):Ev (fun k=>laws_eqRuleS.f k xs xs) true:=by
 unfold laws_eqRuleS.f
 refine Kit.ev_pos rfl (Kit.ev_refl (n:=xs.length) (L:=fun k i=>laws_eqRuleS.l0 k xs xs i) (Ev.step (fun k=>rfl) (Kit.ev_neg (by omega) (Ev.now _))) ?_)
 intro i hi ih
 refine Ev.step (fun k=>rfl) (Kit.ev_pos (by omega) (Kit.ev_pos (by omega) (Kit.ev_pos (by omega) ?_)))
 rw [rdR_nat,Kit.wrap_nat hi (by omega)]
 exact Ev.bind (ev_eqRule _ (hx _ (Kit.getD_mem _ hi)).2.1) (Kit.ev_pos rfl ih)
/-- The rule at place i is one, none ahead of it has its space and name, and it has attributes only where they may be. -/
def ruleOf (x:S56):Bool:=ruleB x.f0 x.f1 x.f2
def ruleAtOK (xs:List S56) (i:Nat):Bool:=ruleOf (xs.getD i z56) && decide (ruleAtI xs (xs.getD i z56).f0 (xs.getD i z56).f1=i)
def rulesB (xs:List S56):Bool:=decide (xs.length≤10) && Kit.allB (ruleAtOK xs) 0 xs.length
def specAt (xs:List S56) (a:Bool) (i:Nat):Bool:=ruleAtOK xs i && (a || !hasAttr (xs.getD i z56))
def specRules (xs:List S56) (a:Bool):Bool:=decide (xs.length≤10) && Kit.allB (specAt xs a) 0 xs.length
theorem specRules_eq (xs:List S56) (a:Bool):specRules xs a=(rulesB xs && (a || !xs.any hasAttr)):=by
 rw [Bool.eq_iff_iff]
 unfold specRules rulesB
 simp only [Bool.and_eq_true,Kit.allB_iff,specAt,Bool.or_eq_true,Bool.not_eq_true',decide_eq_true_eq]
 constructor
 ·rintro ⟨h1,h2⟩
  refine ⟨⟨h1,fun j hj hk=>(h2 j hj hk).1⟩,?_⟩
  cases a with
  | true=>exact .inl rfl
  | false =>
   refine .inr (Bool.eq_false_iff.2 fun h=>?_)
   obtain ⟨x,hx,hy⟩:=List.any_eq_true.1 h
   obtain ⟨j,hj,rfl⟩:=List.getElem_of_mem hx
   rcases (h2 j (Nat.zero_le _) hj).2 with h3|h3
   ·cases h3
   ·rw [List.getD_eq_getElem?_getD,List.getElem?_eq_getElem hj] at h3
    rw [show hasAttr xs[j]=false from h3] at hy
    cases hy
 ·rintro ⟨⟨h1,h2⟩,h3⟩
  refine ⟨h1,fun j hj hk=>⟨h2 j hj hk,?_⟩⟩
  rcases h3 with h3|h3
  ·exact .inl h3
  ·refine .inr (Bool.eq_false_iff.2 fun h=>?_)
   rw [List.any_eq_false] at h3
   exact h3 _ (Kit.getD_mem _ hk) h
theorem ev_l07Rules (xs:List S56) (a:Bool) (hx:∀ x∈xs,FitQ x):Ev (fun k=>spec_l07Rules.f k xs a) (specRules xs a):=by
 unfold spec_l07Rules.f specRules
 by_cases hl:(xs.length:Int)>10
 ·rw [show decide (xs.length≤10)=false from decide_eq_false (by omega),Bool.false_and]
  exact Kit.ev_pos hl (Ev.now _)
 ·rw [show decide (xs.length≤10)=true from decide_eq_true (by omega),Bool.true_and]
  refine Kit.ev_neg hl (Kit.ev_every (L:=fun k i=>spec_l07Rules.l0 k xs a i) (Ev.step (fun k=>rfl) (Kit.ev_neg (by omega) (Ev.now _))) ?_ ?_)
  ·intro i hi hp
   refine Ev.step (fun k=>rfl) (Kit.ev_pos (by omega) (Kit.ev_pos (by omega) ?_))
   rw [rdR_nat]
   have hf:=hx _ (Kit.getD_mem z56 hi)
   unfold specAt ruleAtOK at hp
   refine Ev.bind (ev_l07Rule _ _ _ (by have:=hf.1;omega) (fun y hy=>by have:=hf.2.2 y hy;omega)) (Kit.ev_if (fun h1=>?_) (fun _=>Ev.now _))
   refine Ev.bind (ev_l07At xs _ _ (by omega)) (Kit.ev_if (fun h2=>?_) (fun _=>Ev.now _))
   rw [show ruleOf (xs.getD i z56)=true from h1,decide_eq_true h2,Bool.true_and,Bool.true_and,Bool.or_eq_false_iff] at hp
   refine Kit.ev_neg (by rw [hp.1];decide) (Kit.ev_pos ?_ (Ev.now _))
   have h3:hasAttr (xs.getD i z56)=true:=by simpa using hp.2
   have h4:0<(xs.getD i z56).f2.length:=of_decide_eq_true h3
   omega
  ·intro i hi hp r ih
   refine Ev.step (fun k=>rfl) (Kit.ev_pos (by omega) (Kit.ev_pos (by omega) ?_))
   rw [rdR_nat,Kit.wrap_nat hi (by omega)]
   have hf:=hx _ (Kit.getD_mem z56 hi)
   unfold specAt ruleAtOK at hp
   rw [Bool.and_eq_true,Bool.and_eq_true] at hp
   obtain ⟨⟨h1,h2⟩,h3⟩:=hp
   refine Ev.bind (ev_l07Rule _ _ _ (by have:=hf.1;omega) (fun y hy=>by have:=hf.2.2 y hy;omega)) (Kit.ev_pos h1 ?_)
   refine Ev.bind (ev_l07At xs _ _ (by omega)) (Kit.ev_pos (of_decide_eq_true h2) ?_)
   refine Kit.ev_if (fun _=>ih) (fun ha=>Kit.ev_neg ?_ ih)
   rw [Bool.eq_false_iff.2 ha,Bool.false_or,Bool.not_eq_true'] at h3
   have h4:¬ 0<(xs.getD i z56).f2.length:=of_decide_eq_false h3
   omega
theorem firstP_before (p:Nat→Bool) (n:Nat):∀ d i,∀ j:Nat,i≤j→(j:Int)<Mach.firstP p n d i→p j=false:=by
 intro d
 induction d with
 | zero=>intro i j _ h;rw [Mach.firstP] at h;omega
 | succ d ih =>
  intro i j hij h
  rw [Mach.firstP] at h
  by_cases h1:i<n
  ·rw [if_pos h1] at h
   cases h2:p i with
   | true=>rw [if_pos h2] at h;omega
   | false =>
    rw [if_neg (by rw [h2];exact Bool.false_ne_true)] at h
    by_cases e:j=i
    ·subst e;exact h2
    ·exact ih (i+1) j (by omega) h
  ·rw [if_neg h1] at h;omega
theorem ruleAt_take (xs:List S56) (i:Nat) (hi:i<xs.length):decide (ruleAtI xs (xs.getD i z56).f0 (xs.getD i z56).f1=i) = !decide (0≤ruleAtI (xs.take i) (xs.getD i z56).f0 (xs.getD i z56).f1):=by
 have hself:ruleIs (xs.getD i z56).f0 (xs.getD i z56).f1 (xs.getD i z56)=true:=by unfold ruleIs;rw [beq_self_eq_true,beq_self_eq_true];rfl
 generalize (xs.getD i z56).f0=s at *
 generalize (xs.getD i z56).f1=n at *
 have htk:∀ j,j<i→(xs.take i).getD j z56=xs.getD j z56:=fun j hj=>by
  rw [List.getD_eq_getElem?_getD,List.getD_eq_getElem?_getD,List.getElem?_take_of_lt hj]
 have hlen:(xs.take i).length=i:=by rw [List.length_take];omega
 unfold ruleAtI
 rw [Mach.idxP_any (fun j=>ruleIs s n ((xs.take i).getD j z56)) (xs.take i).length,Bool.eq_iff_iff,decide_eq_true_iff,Bool.not_eq_true',Bool.eq_false_iff]
 constructor
 ·intro h hc
  obtain ⟨j,hj,hp⟩:=(Mach.anyP_iff _ _).1 hc
  rw [hlen] at hj
  have hp2:ruleIs s n (xs.getD j z56)=true:=by rw [←htk j hj];exact hp
  have:=firstP_before (fun j=>ruleIs s n (xs.getD j z56)) xs.length xs.length 0 j (Nat.zero_le _) (by
   have h':Mach.firstP (fun j=>ruleIs s n (xs.getD j z56)) xs.length xs.length 0=(i:Int):=h
   rw [h'];omega)
  rw [show ruleIs s n (xs.getD j z56)=false from this] at hp2
  cases hp2
 ·intro h
  refine Mach.idxP_hit (fun j=>ruleIs s n (xs.getD j z56)) xs.length i hi hself (fun j hj=>Bool.eq_false_iff.2 fun hp=>h ((Mach.anyP_iff _ _).2 ⟨j,by omega,?_⟩))
  show ruleIs s n ((xs.take i).getD j z56)=true
  rw [htk j hj]
  exact hp
def implAt (xs:List S56) (i:Nat):Bool:=!decide (i=10) && ruleAtOK xs i
theorem implRules_eq (xs:List S56):Kit.allB (implAt xs) 0 xs.length=rulesB xs:=by
 rw [Bool.eq_iff_iff]
 unfold rulesB
 simp only [Bool.and_eq_true,Kit.allB_iff,implAt,Bool.not_eq_true',decide_eq_true_eq,decide_eq_false_iff_not]
 constructor
 ·intro h
  refine ⟨?_,fun j hj hk=>(h j hj hk).2⟩
  apply Classical.byContradiction
  intro hn
  exact (h 10 (by omega) (by omega)).1 rfl
 ·rintro ⟨h1,h2⟩ j hj hk
  exact ⟨by omega,h2 j hj hk⟩
theorem ev_areRules (xs:List S56) (hn:xs.length≤1048576) (hx:∀ x∈xs,FitQ x):Ev (fun k=>impl_areRules.f k xs) (rulesB xs):=by
 unfold impl_areRules.f
 rw [←implRules_eq]
 refine Kit.ev_every (L:=fun k i=>impl_areRules.l0 k xs xs (xs.length:Int) i) (Ev.step (fun k=>rfl) (Kit.ev_neg (by omega) (Ev.now _))) ?_ ?_
 ·intro i hi hp
  refine Ev.step (fun k=>rfl) (Kit.ev_pos (by omega) (Kit.ev_pos (by omega) (Kit.ev_pos (by omega) ?_)))
  rw [rdR_nat,Int.toNat_natCast]
  have hf:=hx _ (Kit.getD_mem z56 hi)
  unfold implAt ruleAtOK at hp
  rw [ruleAt_take xs i hi] at hp
  refine Kit.ev_if (fun _=>Ev.now _) (fun h0=>?_)
  rw [show decide (i=10)=false from decide_eq_false (by omega),Bool.not_false,Bool.true_and] at hp
  refine Ev.bind (ev_RuleOK _ _ _ (by have:=hf.1;omega) (fun y hy=>by have:=hf.2.2 y hy;omega)) (Kit.ev_if (fun h1=>?_) (fun _=>Ev.now _))
  rw [show ruleOf (xs.getD i z56)=true from h1,Bool.true_and,Bool.not_eq_false'] at hp
  exact Kit.ev_pos (by omega) (Kit.ev_some rfl (Kit.ev_pos (of_decide_eq_true hp) (Ev.now _)))
 ·intro i hi hp r ih
  refine Ev.step (fun k=>rfl) (Kit.ev_pos (by omega) (Kit.ev_pos (by omega) (Kit.ev_pos (by omega) ?_)))
  rw [rdR_nat,Int.toNat_natCast,Kit.wrap_nat hi (by omega)]
  have hf:=hx _ (Kit.getD_mem z56 hi)
  unfold implAt ruleAtOK at hp
  rw [ruleAt_take xs i hi,Bool.and_eq_true,Bool.and_eq_true] at hp
  obtain ⟨h0,h1,h2⟩:=hp
  have h0:¬ i=10:=by simpa using h0
  refine Kit.ev_neg (by omega) (Ev.bind (ev_RuleOK _ _ _ (by have:=hf.1;omega) (fun y hy=>by have:=hf.2.2 y hy;omega)) (Kit.ev_pos h1 ?_))
  have h2:¬ 0≤ruleAtI (xs.take i) (xs.getD i z56).f0 (xs.getD i z56).f1:=by simpa using h2
  exact Kit.ev_pos (by omega) (Kit.ev_some rfl (Kit.ev_neg h2 ih))
theorem any_or2 {α : Type} (p q : α → Bool) (xs:List α):xs.any (fun x=>p x || q x)=(xs.any p || xs.any q):=by
 induction xs with
 | nil=>rfl
 | cons x xs ih=>rw [List.any_cons,List.any_cons,List.any_cons,ih];cases p x <;> cases q x <;> simp
theorem restI_eq (h0 h1:Bool) (allow remove unwrap:List S56) (attrs drop:List ByteArray) (data:Bool):restI h0 h1 allow remove unwrap attrs drop data=if againstB h0 h1 allow remove unwrap attrs drop data=true then 13 else 0:=by
 have hA:unwrap.any (unwrapB allow remove)=(unwrap.any (isIn allow) || unwrap.any (isIn remove)):=any_or2 _ _ _
 have hT:attrsB true attrs=fun x=>x.f2.any fun n=>Kit.hasT attrs n:=rfl
 have hF:attrsB false attrs=hasAttr:=by
  funext x
  unfold attrsB hasAttr
  cases x.f2 with
  | nil=>rfl
  | cons y ys=>simp
 have hI:(allow.any fun x=>x.f2.any fun n=>Kit.hasT attrs n)=true→allow.any hasAttr=true:=by
  intro h
  obtain ⟨x,hx,hy⟩:=List.any_eq_true.1 h
  refine List.any_eq_true.2 ⟨x,hx,?_⟩
  obtain ⟨n,hn,_⟩:=List.any_eq_true.1 hy
  exact decide_eq_true (List.length_pos_of_mem hn)
 unfold restI againstB
 rw [hA]
 cases h1 with
 | true =>
  rw [hT]
  cases contraB h0 true allow remove attrs drop data <;> cases unwrap.any (isIn allow) <;> cases unwrap.any (isIn remove) <;> cases (allow.any fun x=>x.f2.any fun n=>Kit.hasT attrs n) <;> rfl
 | false =>
  rw [hF]
  cases h9:(allow.any fun x=>x.f2.any fun n=>Kit.hasT attrs n) with
  | true=>rw [hI h9];cases contraB h0 false allow remove attrs drop data <;> cases unwrap.any (isIn allow) <;> cases unwrap.any (isIn remove) <;> rfl
  | false=>cases contraB h0 false allow remove attrs drop data <;> cases unwrap.any (isIn allow) <;> cases unwrap.any (isIn remove) <;> cases allow.any hasAttr <;> rfl
/-- A configuration's lists are lists of rules and names. -/
def okB (l2 l3 l4:List S56) (l5 l6:List ByteArray):Bool:=rulesB l2 && (rulesB l3 && !l3.any hasAttr) && (rulesB l4 && !l4.any hasAttr) && namesOK l5 && namesOK l6
def checkI (h0 h1:Bool) (l2 l3 l4:List S56) (l5 l6:List ByteArray) (data:Bool):Int:=if okB l2 l3 l4 l5 l6=true then (if againstB h0 h1 l2 l3 l4 l5 l6 data=true then 13 else 0) else 1
/-- A configuration of the program's kind whose texts are short. -/
def FitC (l2 l3 l4:List S56) (l5 l6:List ByteArray):Prop:=(l2.length≤1048576∧∀ x∈l2,FitQ x)∧(l3.length≤1048576∧∀ x∈l3,FitQ x)∧(l4.length≤1048576∧∀ x∈l4,FitQ x)∧(l5.length≤1048576∧∀ x∈l5,x.size≤1048576)∧(l6.length≤1048576∧∀ x∈l6,x.size≤1048576)
theorem ev_l07Check (h0 h1:Bool) (l2 l3 l4:List S56) (l5 l6:List ByteArray) (cm data:Bool) (hf:FitC l2 l3 l4 l5 l6):Ev (fun k=>spec_l07Check.f k h0 h1 l2 l3 l4 l5 l6 cm data) (checkI h0 h1 l2 l3 l4 l5 l6 data):=by
 obtain ⟨f2,f3,f4,f5,f6⟩:=hf
 have n5:spec_l07Names.f l5=some (namesOK l5):=by rw [spec_l07Names.f,if_pos fun x hx=>by have:=f5.2 x hx;omega]
 have n6:spec_l07Names.f l6=some (namesOK l6):=by rw [spec_l07Names.f,if_pos fun x hx=>by have:=f6.2 x hx;omega]
 unfold spec_l07Check.f checkI okB
 have e2:=ev_l07Rules l2 true f2.2
 have e3:=ev_l07Rules l3 false f3.2
 have e4:=ev_l07Rules l4 false f4.2
 rw [specRules_eq,Bool.true_or,Bool.and_true] at e2
 rw [specRules_eq,Bool.false_or] at e3 e4
 refine Ev.bind e2 (Kit.ev_if (fun h=>?_) (fun h=>?_))
 ·rw [h,Bool.true_and]
  refine Ev.bind e3 (Kit.ev_if (fun h=>?_) (fun h=>?_))
  ·rw [h,Bool.true_and]
   refine Ev.bind e4 (Kit.ev_if (fun h=>?_) (fun h=>?_))
   ·rw [h,Bool.true_and]
    refine Kit.ev_some n5 (Kit.ev_if (fun h=>?_) (fun h=>?_))
    ·rw [h,Bool.true_and]
     refine Kit.ev_some n6 (Kit.ev_if (fun h=>?_) (fun h=>?_))
     ·rw [if_pos h,restI_eq];exact Ev.now _
     ·rw [if_neg h];exact Ev.now _
    ·rw [Bool.eq_false_iff.2 h,Bool.false_and,if_neg Bool.false_ne_true];exact Ev.now _
   ·rw [Bool.eq_false_iff.2 h,Bool.false_and,Bool.false_and,if_neg Bool.false_ne_true];exact Ev.now _
  ·rw [Bool.eq_false_iff.2 h,Bool.false_and,Bool.false_and,Bool.false_and,if_neg Bool.false_ne_true];exact Ev.now _
 ·rw [Bool.eq_false_iff.2 h,Bool.false_and,Bool.false_and,Bool.false_and,Bool.false_and,if_neg Bool.false_ne_true];exact Ev.now _
theorem ev_implCheck (h0 h1:Bool) (l2 l3 l4:List S56) (l5 l6:List ByteArray) (cm data:Bool) (hf:FitC l2 l3 l4 l5 l6):Ev (fun k=>impl_CheckConfig.f k h0 h1 l2 l3 l4 l5 l6 cm data) (checkI h0 h1 l2 l3 l4 l5 l6 data):=by
 obtain ⟨f2,f3,f4,f5,f6⟩:=hf
 have n5:impl_areNames.f l5=some (namesOK l5):=by rw [impl_areNames.f,if_pos fun x hx=>by have:=f5.2 x hx;omega]
 have n6:impl_areNames.f l6=some (namesOK l6):=by rw [impl_areNames.f,if_pos fun x hx=>by have:=f6.2 x hx;omega]
 have e2:=ev_areRules l2 f2.1 f2.2
 have e3:=ev_areRules l3 f3.1 f3.2
 have e4:=ev_areRules l4 f4.1 f4.2
 unfold impl_CheckConfig.f checkI okB
 refine Ev.bind e2 (Kit.ev_if (fun h=>?_) (fun h=>?_))
 ·rw [h,Bool.true_and]
  refine Ev.bind e3 (Kit.ev_if (fun h=>?_) (fun h=>?_))
  ·rw [h,Bool.true_and]
   refine Ev.bind e4 (Kit.ev_if (fun h=>?_) (fun h=>?_))
   ·rw [h,Bool.true_and]
    refine Kit.ev_some (a:=l3.any hasAttr) rfl (Kit.ev_if (fun h=>?_) (fun h=>?_))
    ·rw [h,Bool.not_true,Bool.false_and,Bool.false_and,Bool.false_and,if_neg Bool.false_ne_true];exact Ev.now _
    ·rw [Bool.eq_false_iff.2 h,Bool.not_false,Bool.true_and]
     refine Kit.ev_some (a:=l4.any hasAttr) rfl (Kit.ev_if (fun h=>?_) (fun h=>?_))
     ·rw [h,Bool.not_true,Bool.false_and,Bool.false_and,if_neg Bool.false_ne_true];exact Ev.now _
     ·rw [Bool.eq_false_iff.2 h,Bool.not_false,Bool.true_and]
      refine Kit.ev_some n5 (Kit.ev_if (fun h=>?_) (fun h=>?_))
      ·rw [h,Bool.true_and]
       refine Kit.ev_some n6 (Kit.ev_if (fun h=>?_) (fun h=>?_))
       ·rw [if_pos h]
        refine Kit.ev_some (a:=againstB h0 h1 l2 l3 l4 l5 l6 data) rfl (Kit.ev_if (fun h=>?_) (fun h=>?_))
        ·rw [if_pos h];exact Ev.now _
        ·rw [if_neg h];exact Ev.now _
       ·rw [if_neg h];exact Ev.now _
      ·rw [Bool.eq_false_iff.2 h,Bool.false_and,if_neg Bool.false_ne_true];exact Ev.now _
   ·rw [Bool.eq_false_iff.2 h,Bool.false_and,Bool.and_false,Bool.false_and,Bool.false_and,if_neg Bool.false_ne_true];exact Ev.now _
  ·rw [Bool.eq_false_iff.2 h,Bool.false_and,Bool.false_and,Bool.false_and,Bool.false_and,if_neg Bool.false_ne_true];exact Ev.now _
 ·rw [Bool.eq_false_iff.2 h,Bool.false_and,Bool.false_and,Bool.false_and,Bool.false_and,if_neg Bool.false_ne_true];exact Ev.now _
/- A configuration of laws' kind: its size, its form of the program's kind. -/
theorem ev_szConfig (x:S43) (left:Int) (h0:0≤left) (h1:left≤1048576) (hg:G43 x):∃ t,Ev (fun k=>laws_szConfig.f k x.f0 x.f1 x.f2 x.f3 x.f4 x.f5 x.f6 x.f7 x.f8 left) t∧t≤left∧(0≤t→FitC (x.f2.map toR) (x.f3.map toR) (x.f4.map toR) x.f5 x.f6∧(∀ y∈x.f2,FitR y)∧(∀ y∈x.f3,FitR y)∧∀ y∈x.f4,FitR y):=by
 obtain ⟨_,_,g2,g3,g4,g5,g6,_,_⟩:=hg
 unfold laws_szConfig.f
 have neg:(-1:Int)≤left:=by omega
 obtain ⟨t2,e2,b2,i2⟩:=ev_szRuleS x.f2 left h0 h1 g2
 by_cases n2:t2<0
 ·exact ⟨-1,Ev.bind e2 (Kit.ev_pos n2 (Ev.now _)),neg,fun h=>absurd h (by omega)⟩
 obtain ⟨t3,e3,b3,i3⟩:=ev_szRuleS x.f3 t2 (by omega) (by omega) g3
 by_cases n3:t3<0
 ·exact ⟨-1,Ev.bind e2 (Kit.ev_neg n2 (Ev.bind e3 (Kit.ev_pos n3 (Ev.now _)))),neg,fun h=>absurd h (by omega)⟩
 obtain ⟨t4,e4,b4,i4⟩:=ev_szRuleS x.f4 t3 (by omega) (by omega) g4
 by_cases n4:t4<0
 ·exact ⟨-1,Ev.bind e2 (Kit.ev_neg n2 (Ev.bind e3 (Kit.ev_neg n3 (Ev.bind e4 (Kit.ev_pos n4 (Ev.now _)))))),neg,fun h=>absurd h (by omega)⟩
 obtain ⟨t5,e5,b5,i5⟩:=ev_szStringS x.f5 t4 (by omega) (by omega) g5
 by_cases n5:t5<0
 ·exact ⟨-1,Ev.bind e2 (Kit.ev_neg n2 (Ev.bind e3 (Kit.ev_neg n3 (Ev.bind e4 (Kit.ev_neg n4 (Ev.bind e5 (Kit.ev_pos n5 (Ev.now _)))))))),neg,fun h=>absurd h (by omega)⟩
 obtain ⟨t6,e6,b6,i6⟩:=ev_szStringS x.f6 t5 (by omega) (by omega) g6
 by_cases n6:t6<0
 ·exact ⟨-1,Ev.bind e2 (Kit.ev_neg n2 (Ev.bind e3 (Kit.ev_neg n3 (Ev.bind e4 (Kit.ev_neg n4 (Ev.bind e5 (Kit.ev_neg n5 (Ev.bind e6 (Kit.ev_pos n6 (Ev.now _)))))))))),neg,fun h=>absurd h (by omega)⟩
 refine ⟨t6,Ev.bind e2 (Kit.ev_neg n2 (Ev.bind e3 (Kit.ev_neg n3 (Ev.bind e4 (Kit.ev_neg n4 (Ev.bind e5 (Kit.ev_neg n5 (Ev.bind e6 (Kit.ev_neg n6 (Ev.now _)))))))))),by omega,fun _=>?_⟩
 have i2:=i2 (by omega)
 have i3:=i3 (by omega)
 have i4:=i4 (by omega)
 have i5:=i5 (by omega)
 have i6:=i6 (by omega)
 exact ⟨⟨⟨by rw [List.length_map];exact i2.1,fitQ_map i2.2⟩,⟨by rw [List.length_map];exact i3.1,fitQ_map i3.2⟩,⟨by rw [List.length_map];exact i4.1,fitQ_map i4.2⟩,⟨by have:=i5.1;omega,fun y hy=>by have:=i5.2 y hy;omega⟩,⟨by have:=i6.1;omega,fun y hy=>by have:=i6.2 y hy;omega⟩⟩,i2.2,i3.2,i4.2⟩
theorem ev_toConfig (x:S43) (hf:FitC (x.f2.map toR) (x.f3.map toR) (x.f4.map toR) x.f5 x.f6) (h2:∀ y∈x.f2,FitR y) (h3:∀ y∈x.f3,FitR y) (h4:∀ y∈x.f4,FitR y):Ev (fun k=>laws_toConfig.f k x.f0 x.f1 x.f2 x.f3 x.f4 x.f5 x.f6 x.f7 x.f8) (x.f0,x.f1,x.f2.map toR,x.f3.map toR,x.f4.map toR,x.f5,x.f6,x.f7,x.f8):=by
 obtain ⟨f2,f3,f4,f5,f6⟩:=hf
 rw [List.length_map] at f2 f3 f4
 unfold laws_toConfig.f
 exact Ev.bind (ev_toRuleS _ f2.1 h2) (Ev.bind (ev_toRuleS _ f3.1 h3) (Ev.bind (ev_toRuleS _ f4.1 h4) (Ev.bind (ev_toStringS _ f5.1) (Ev.bind (ev_toStringS _ f6.1) (Ev.now _)))))
theorem ev_eqConfig (h0 h1:Bool) (l2 l3 l4:List S56) (l5 l6:List ByteArray) (cm data:Bool) (hf:FitC l2 l3 l4 l5 l6):Ev (fun k=>laws_eqConfig.f k h0 h1 l2 l3 l4 l5 l6 cm data h0 h1 l2 l3 l4 l5 l6 cm data) true:=by
 obtain ⟨f2,f3,f4,f5,f6⟩:=hf
 have hb:∀ b:Bool,¬ (b != b)=true:=fun b=>by simp
 unfold laws_eqConfig.f
 exact Kit.ev_neg (hb _) (Kit.ev_neg (hb _) (Ev.bind (ev_eqRuleS _ f2.1 f2.2) (Kit.ev_pos rfl (Ev.bind (ev_eqRuleS _ f3.1 f3.2) (Kit.ev_pos rfl (Ev.bind (ev_eqRuleS _ f4.1 f4.2) (Kit.ev_pos rfl (Ev.bind (ev_eqStringS _ f5.1) (Kit.ev_pos rfl (Ev.bind (ev_eqStringS _ f6.1) (Kit.ev_pos rfl (Kit.ev_neg (hb _) (Kit.ev_neg (hb _) (Ev.now _))))))))))))))
theorem isLong1 (a:ByteArray):impl_isLong.f [a]=some (decide (65536<(a.size:Int))):=by
 unfold impl_isLong.f
 rw [if_pos (by simp)]
 simp
/-- The code of a configuration, a space and a name. -/
def askI (h0 h1:Bool) (l2 l3 l4:List S56) (l5 l6:List ByteArray) (data:Bool) (s:Int) (n:ByteArray):Int :=
 if 65536<n.size then 2 else if checkI h0 h1 l2 l3 l4 l5 l6 data=0 then (if decide (0≤s∧s≤2)=true then (if isTag n=true then 0 else 10) else 4) else checkI h0 h1 l2 l3 l4 l5 l6 data
theorem ev_l07AskName (h0 h1:Bool) (l2 l3 l4:List S56) (l5 l6:List ByteArray) (cm data:Bool) (s:Int) (n:ByteArray) (hf:FitC l2 l3 l4 l5 l6) (hn:n.size≤9223372036854775807):Ev (fun k=>spec_l07AskName.f k h0 h1 l2 l3 l4 l5 l6 cm data s n) (askI h0 h1 l2 l3 l4 l5 l6 data s n):=by
 unfold spec_l07AskName.f askI
 refine Kit.ev_if (fun h=>?_) (fun h=>?_)
 ·rw [if_pos (by omega)];exact Ev.now _
 ·rw [if_neg (by omega)]
  refine Ev.bind (ev_l07Check _ _ _ _ _ _ _ _ _ hf) (Kit.ev_if (fun h=>?_) (fun h=>?_))
  ·rw [if_pos h]
   refine Kit.ev_some (l01In_eq2 _ _ _) (Kit.ev_if (fun h=>?_) (fun h=>?_))
   ·rw [if_pos h]
    refine Ev.bind (ev_tag_spec n hn) (Kit.ev_if (fun h=>?_) (fun h=>?_))
    ·rw [if_pos h];exact Ev.now _
    ·rw [if_neg h];exact Ev.now _
   ·rw [if_neg h];exact Ev.now _
  ·rw [if_neg h];exact Ev.now _
theorem ev_faultAsked (h0 h1:Bool) (l2 l3 l4:List S56) (l5 l6:List ByteArray) (cm data:Bool) (s:Int) (n:ByteArray) (hf:FitC l2 l3 l4 l5 l6) (hn:n.size≤9223372036854775807):Ev (fun k=>impl_faultAsked.f k h0 h1 l2 l3 l4 l5 l6 cm data s n) (askI h0 h1 l2 l3 l4 l5 l6 data s n):=by
 unfold impl_faultAsked.f askI
 refine Kit.ev_some (isLong1 n) (Kit.ev_if (fun h=>?_) (fun h=>?_))
 ·have:=of_decide_eq_true h
  rw [if_pos (by omega)];exact Ev.now _
 ·have:¬ 65536<(n.size:Int):=fun h2=>h (decide_eq_true h2)
  rw [if_neg (by omega)]
  refine Ev.bind (ev_implCheck _ _ _ _ _ _ _ _ _ hf) (Kit.ev_if (fun h=>?_) (fun h=>?_))
  ·rw [if_pos h]
   refine Kit.ev_some (within_eq2 _ _ _) (Kit.ev_if (fun h=>?_) (fun h=>?_))
   ·rw [if_pos h]
    refine Ev.bind (ev_tag_impl n hn) (Kit.ev_if (fun h=>?_) (fun h=>?_))
    ·rw [if_pos h];exact Ev.now _
    ·rw [if_neg h];exact Ev.now _
   ·rw [if_neg h];exact Ev.now _
  ·rw [if_neg h];exact Ev.now _
theorem askI_long {h0 h1:Bool} {l2 l3 l4:List S56} {l5 l6:List ByteArray} {data:Bool} {s:Int} {n:ByteArray} (h:(n.size:Int)>65536):askI h0 h1 l2 l3 l4 l5 l6 data s n=2:=by unfold askI;rw [if_pos (by omega)]
open Go.Proofs.Ytmeafbneklphnaa.Kit (small digit big pos_eq neg_eq tagB isTag nameB isName lowC lowS lowS_bytes handler wantJ wantJ_eq keepC badL badFrom badFrom_zero badFrom_full badFrom_nil badFrom_skip badFrom_take indexByte_any markB namesAt namesOK)
theorem hasPrefix_eq (a b:ByteArray):strings_HasPrefix.f a b=some (decide (a.size≥b.size) && ((a.extract 0 b.size).toList == b.toList)):=by
 unfold strings_HasPrefix.f stringslite_HasPrefix.f
 by_cases h:(a.size:Int)≥(b.size:Int)
 ·rw [if_pos h,if_pos (by omega),if_pos h,decide_eq_true (p:=a.size≥b.size) (by omega)]
  rfl
 ·rw [if_neg h,decide_eq_false (p:=a.size≥b.size) (by omega)]
  rfl
theorem l01Handler_eq (a:ByteArray):spec_l01Handler.f a=some (handler a):=by
 unfold spec_l01Handler.f handler
 by_cases h:(a.size:Int)>2
 ·rw [if_pos h,if_pos (by omega),if_pos (by omega),decide_eq_true h,Bool.true_and]
 ·rw [if_neg h,decide_eq_false h,Bool.false_and]
theorem IsHandler_eq (a:ByteArray):impl_IsHandler.f a=some (!decide (65536<(a.size:Int)) && handler a):=by
 unfold impl_IsHandler.f handler
 rw [isLong1,Option.bind_some]
 by_cases h:65536<(a.size:Int)
 ·rw [if_pos (decide_eq_true h),decide_eq_true h];rfl
 ·rw [if_neg (by simpa using h),decide_eq_false h]
  by_cases h2:(a.size:Int)>2
  ·rw [if_pos h2,hasPrefix_eq,Option.bind_some,decide_eq_true h2]
   have h3:a.size≥(⟨#[111,110]⟩:ByteArray).size:=by show a.size≥2;omega
   rw [decide_eq_true h3,Kit.lit_toList #[111,110]]
   rfl
  ·rw [if_neg h2,decide_eq_false h2];rfl
open Go.Proofs.Ytmeafbneklphnaa.Kit (small digit big pos_eq neg_eq tagB isTag nameB isName lowC lowS lowS_bytes handler wantJ wantJ_eq keepC badL badFrom badFrom_zero badFrom_full badFrom_nil badFrom_skip badFrom_take indexByte_any markB namesAt namesOK)
theorem lower_eq (s:ByteArray) (h:s.size≤9223372036854775807):impl_lower.f s=some (lowS s):=if_pos h
open Go.Proofs.Ytmeafbneklphnaa.Kit (small digit big pos_eq neg_eq tagB isTag nameB isName lowC lowS lowS_bytes handler wantJ wantJ_eq keepC badL badFrom badFrom_zero badFrom_full badFrom_nil badFrom_skip badFrom_take indexByte_any markB namesAt namesOK)
theorem ev_l01Bad (s:ByteArray) (hn:s.size≤140737488351232):Ev (fun k=>spec_l01Bad.f k s) (badL (bytesOf s)):=by
 have key:∀ i:Nat,i≤s.size→∀ m:Nat,m≤11→Ev (fun k=>spec_l01Bad.l0 k s (⟨#[106,97,118,97,115,99,114,105,112,116,58]⟩:ByteArray) m i) (badFrom m ((bytesOf s).drop i)):=by
  have stop:∀ (i m:Nat),m=11∨(i=s.size∧m<11)→Ev (fun k=>spec_l01Bad.j1 k s (⟨#[106,97,118,97,115,99,114,105,112,116,58]⟩:ByteArray) m i false) (badFrom m ((bytesOf s).drop i)):=by
   intro i m h
   refine Ev.step (f:=fun _=>some ((m:Int) == (((⟨#[106,97,118,97,115,99,114,105,112,116,58]⟩:ByteArray).size:Nat):Int))) (fun k=>by rw [spec_l01Bad.j1,if_neg Bool.false_ne_true]) (Kit.ev_const ?_)
   rcases h with rfl|⟨rfl,h⟩
   ·rw [badFrom_full];rfl
   ·rw [List.drop_of_length_le (by rw [bytesOf_length];exact Nat.le_refl _),badFrom_nil m h]
    congr 1
    show ((m:Int) == (11:Int))=false
    simp;omega
  refine Kit.down ?_ ?_
  ·intro m hm
   refine Ev.step (fun k=>by rw [spec_l01Bad.l0]) (Kit.ev_neg (by omega) ?_)
   by_cases h:m=11
   ·exact stop _ m (.inl h)
   ·exact stop _ m (.inr ⟨rfl,by omega⟩)
  ·intro i hi ih m hm
   refine Ev.step (fun k=>by rw [spec_l01Bad.l0]) (Kit.ev_pos (by omega) ?_)
   by_cases hm11:m=11
   ·subst hm11
    exact stop i 11 (.inl rfl)
   ·have hlt:decide ((m:Int)<(((⟨#[106,97,118,97,115,99,114,105,112,116,58]⟩:ByteArray).size:Nat):Int))=true:=by
     show decide ((m:Int)<(11:Int))=true
     exact decide_eq_true (by omega)
    rw [hlt]
    refine Ev.step (fun k=>by rw [spec_l01Bad.j1]) (Kit.ev_pos rfl (Kit.ev_pos (by omega) (Kit.ev_pos (by omega) ?_)))
    rw [Kit.bytesOf_drop s i hi]
    have hb:=bt_range s (i:Int)
    generalize bt s (i:Int)=c at hb ⊢
    have skip:(c=9∨c=10∨c=13∨(m=0∧c≤32))→Ev (fun k=>spec_l01Bad.j2 k s (⟨#[106,97,118,97,115,99,114,105,112,116,58]⟩:ByteArray) m i c true) (badFrom m (c :: (bytesOf s).drop (i+1))):=by
     intro h
     rw [badFrom_skip m c _ h]
     refine Ev.step (fun k=>by rw [spec_l01Bad.j2]) (Kit.ev_pos rfl ?_)
     rw [Kit.wrap_nat hi (by omega)]
     exact ih m hm
    have take:¬ c=9→¬ c=10→¬ c=13→(m=0→¬ c≤32)→Ev (fun k=>spec_l01Bad.j2 k s (⟨#[106,97,118,97,115,99,114,105,112,116,58]⟩:ByteArray) m i c false) (badFrom m (c :: (bytesOf s).drop (i+1))):=by
     intro h9 h10 h13 h32
     have hw:bt (⟨#[106,97,118,97,115,99,114,105,112,116,58]⟩:ByteArray) (m:Int)=wantJ.getD m 0:=by rw [Kit.bt_rd,wantJ_eq]
     have hw1:wrap64 ((m:Int)+1)=((m+1:Nat):Int):=Kit.wrap_nat (n:=11) (by omega) (by omega)
     have hs:(m:Int)<(((⟨#[106,97,118,97,115,99,114,105,112,116,58]⟩:ByteArray).size:Nat):Int):=of_decide_eq_true hlt
     rw [badFrom_take m c _ (by omega) h9 h10 h13 h32]
     have fin:∀ x,x=lowC c→Ev (fun k=>if x=bt (⟨#[106,97,118,97,115,99,114,105,112,116,58]⟩:ByteArray) (m:Int) then spec_l01Bad.l0 k s (⟨#[106,97,118,97,115,99,114,105,112,116,58]⟩:ByteArray) (wrap64 ((m:Int)+1)) (wrap64 ((i:Int)+1)) else some false) (decide (lowC c=wantJ.getD m 0) && badFrom (m+1) ((bytesOf s).drop (i+1))):=by
      intro x hx
      rw [hw,hw1,Kit.wrap_nat hi (by omega),hx]
      refine Kit.ev_if (fun h=>?_) (fun h=>?_)
      ·rw [decide_eq_true h,Bool.true_and];exact ih (m+1) (by omega)
      ·rw [decide_eq_false h,Bool.false_and];exact Ev.now _
     refine Ev.step (fun k=>by rw [spec_l01Bad.j2]) (Kit.ev_neg (by decide) ?_)
     have j3:∀ b:Bool,b=decide (65≤c∧c≤90)→Ev (fun k=>spec_l01Bad.j3 k s (⟨#[106,97,118,97,115,99,114,105,112,116,58]⟩:ByteArray) m i c b) (decide (lowC c=wantJ.getD m 0) && badFrom (m+1) ((bytesOf s).drop (i+1))):=by
      intro b hb2
      refine Ev.step (fun k=>by rw [spec_l01Bad.j3]) ?_
      by_cases h:65≤c∧c≤90
      ·refine Kit.ev_pos (by rw [hb2,decide_eq_true h]) (Kit.ev_pos (by omega) (Kit.ev_pos hs (fin _ ?_)))
       unfold lowC;rw [if_pos h];omega
      ·refine Kit.ev_neg (by rw [hb2,decide_eq_false h];decide) (Kit.ev_pos (by omega) (Kit.ev_pos hs (fin _ ?_)))
       unfold lowC;rw [if_neg h]
     refine Kit.ev_if (fun h=>j3 _ ?_) (fun h=>j3 _ ?_)
     ·rw [decide_eq_decide];omega
     ·rw [decide_eq_false];omega
    refine Kit.ev_if (fun h=>skip (by omega)) (fun h9=>Kit.ev_if (fun h=>skip (by omega)) (fun h10=>Kit.ev_if (fun h=>skip (by omega)) (fun h13=>Kit.ev_if (fun h0=>?_) (fun h0=>?_))))
    ·by_cases h32:c≤32
     ·rw [decide_eq_true h32];exact skip (by omega)
     ·rw [decide_eq_false h32];exact take h9 h10 h13 (fun _=>h32)
    ·exact take h9 h10 h13 (fun h=>by omega)
 have:=key 0 (by omega) 0 (by omega)
 rw [badFrom_zero,List.drop_zero] at this
 exact this
theorem ev_BadLink_l1 (s:ByteArray) (hn:s.size≤140737488351232):Ev (fun k=>impl_BadLink.l1 k s ([]:List Int) s.size 0) (wantJ.isPrefixOf (((bytesOf s).filter keepC).map lowC)):=by
 have key:∀ i:Nat,i≤s.size→∀ acc:List Int,acc=((bytesOf s).take i).filter keepC→Ev (fun k=>impl_BadLink.l1 k s acc s.size i) (wantJ.isPrefixOf (((bytesOf s).filter keepC).map lowC)):=by
  refine Kit.down ?_ ?_
  ·intro acc ha
   rw [List.take_of_length_le (by rw [bytesOf_length];exact Nat.le_refl _)] at ha
   have hlen:acc.length≤s.size:=by rw [ha,←bytesOf_length s];exact List.length_filter_le _ _
   refine Ev.step (fun k=>by rw [impl_BadLink.l1]) (Kit.ev_neg (by omega) (Kit.ev_const ?_))
   rw [lower_eq _ (by rw [strOfNums_size];omega),Option.bind_some,hasPrefix_eq,Option.bind_some]
   congr 1
   have hb:bytesOf (strOfNums acc)=acc:=Kit.bytesOf_strOf (fun x hx=>by rw [ha] at hx;exact Kit.bytesOf_mem ((List.mem_filter.1 hx).1))
   rw [Kit.toList_beq,Kit.bytesOf_extract,lowS_bytes,hb,wantJ_eq,←ha]
   have:=Kit.isPrefix_take wantJ (acc.map lowC)
   rw [←this]
   have e1:(lowS (strOfNums acc)).size=(acc.map lowC).length:=by rw [Kit.size_eq,lowS_bytes,hb]
   rw [e1]
   rfl
  ·intro i hi ih acc ha
   have hl:acc.length<140737488355328:=by
    have h1:acc.length≤i:=by
     rw [ha]
     refine Nat.le_trans (List.length_filter_le _ _) ?_
     rw [List.length_take];omega
    omega
   have ht:(bytesOf s).take (i+1)=(bytesOf s).take i++[bt s (i:Int)]:=by
    rw [List.take_add_one,Kit.bt_rd]
    have:i<(bytesOf s).length:=by rw [bytesOf_length];exact hi
    simp [List.getD,this]
   have hskip:keepC (bt s (i:Int))=false→Ev (fun k=>impl_BadLink.l1 k s acc s.size (wrap64 ((i:Int)+1))) (wantJ.isPrefixOf (((bytesOf s).filter keepC).map lowC)):=by
    intro h
    rw [Kit.wrap_nat hi (by omega)]
    refine ih _ ?_
    rw [ha,ht,List.filter_append,List.filter_cons,if_neg (by rw [h];decide),List.filter_nil,List.append_nil]
   refine Ev.step (fun k=>by rw [impl_BadLink.l1]) (Kit.ev_pos (by omega) (Kit.ev_pos (by omega) (Kit.ev_pos (by omega) ?_)))
   refine Kit.ev_if (fun h=>hskip (by simp [keepC,h])) (fun h9=>Kit.ev_if (fun h=>hskip (by simp [keepC,h])) (fun h10=>Kit.ev_if (fun h=>hskip (by simp [keepC,h])) (fun h13=>Kit.ev_pos hl ?_)))
   rw [Kit.wrap_nat hi (by omega)]
   refine ih _ ?_
   have:keepC (bt s (i:Int))=true:=by simp [keepC,h9,h10,h13]
   rw [ha,ht,List.filter_append,List.filter_cons,if_pos this,List.filter_nil]
 exact key 0 (by omega) [] (by simp)
theorem ev_BadLink_l0:∀ (n:Nat) (s:ByteArray),s.size=n→s.size≤140737488351232→Ev (fun k=>impl_BadLink.l0 k s) (badL (bytesOf s)):=by
 intro n
 induction n with
 | zero =>
  intro s hs hn
  have he:bytesOf s=[]:=List.eq_nil_of_length_eq_zero (by rw [bytesOf_length];exact hs)
  refine Ev.step (fun k=>by rw [impl_BadLink.l0]) (Kit.ev_pos ((Kit.toList_nil s).2 he) ?_)
  refine Ev.step (fun k=>by rw [impl_BadLink.j1]) ?_
  have:=ev_BadLink_l1 s hn
  rw [he] at this ⊢
  exact this
 | succ n ih =>
  intro s hs hn
  have hd:bytesOf s=bt s 0 :: (bytesOf s).drop 1:=Kit.bytesOf_drop s 0 (by omega)
  refine Ev.step (fun k=>by rw [impl_BadLink.l0]) (Kit.ev_neg (fun h=>?_) (Kit.ev_pos (by omega) (Kit.ev_if (fun h=>?_) (fun h=>?_))))
  ·rw [(Kit.toList_nil s).1 h] at hd;cases hd
  ·refine Kit.ev_pos (by omega) ?_
   have hx:bytesOf (s.extract 1 s.size)=(bytesOf s).drop 1:=Kit.bytesOf_tail s 1
   have hz:(s.extract 1 s.size).size=n:=by rw [Kit.size_eq,hx,List.length_drop,bytesOf_length];omega
   have:=ih (s.extract 1 s.size) hz (by omega)
   rw [hx] at this
   have e:badL (bytesOf s)=badL ((bytesOf s).drop 1):=by
    rw [←badFrom_zero,hd,badFrom_skip 0 _ _ (.inr (.inr (.inr ⟨rfl,h⟩))),badFrom_zero]
    rfl
   rw [e]
   exact this
  ·refine Ev.step (fun k=>by rw [impl_BadLink.j1]) ?_
   have:=ev_BadLink_l1 s hn
   have e:badL (bytesOf s)=wantJ.isPrefixOf (((bytesOf s).filter keepC).map lowC):=by
    unfold badL
    have h2:(bytesOf s).dropWhile (fun c=>decide (c≤32))=bytesOf s:=by
     rw [hd,List.dropWhile_cons,if_neg (by simpa using h)]
    rw [h2]
   rw [e]
   exact this
theorem ev_BadLink_impl (a:ByteArray) (ha:a.size≤140737488351232):Ev (fun k=>impl_BadLink.f k a) (!decide (65536<(a.size:Int)) && badL (bytesOf a)):=by
 unfold impl_BadLink.f
 refine Kit.ev_some (isLong1 a) (Kit.ev_if (fun h=>?_) (fun h=>?_))
 ·rw [h];exact Ev.now _
 ·rw [Bool.eq_false_iff.2 h];exact ev_BadLink_l0 a.size a rfl ha
/-- The rest of the answer: what the element's own rule tells. -/
def tailV (l2:List S56) (s:Int) (n an:ByteArray):Bool:=if 0≤ruleAtI l2 s n then Kit.hasT (l2.getD (ruleAtI l2 s n).toNat z56).f2 an else false
def dataV (an:ByteArray):Bool:=decide ((an.size:Int)>5) && ((an.extract 0 5).toList == ([100,97,116,97,45]:List UInt8))
def midV (h1:Bool) (l2:List S56) (l5:List ByteArray) (data:Bool) (s:Int) (n an:ByteArray):Bool :=
 if h1=true then (if Kit.hasT l5 an=true then true else if data=true then (if dataV an=true then true else tailV l2 s n an) else tailV l2 s n an) else true
theorem ix (l2:List S56) (s:Int) (n:ByteArray):ruleAtI l2 s n<(l2.length:Int):=(Mach.idxP_le _ _).2
theorem ev_tail_spec (h0 h1:Bool) (l2 l3 l4:List S56) (l5 l6:List ByteArray) (cm data:Bool) (s:Int) (n an av:ByteArray) (hn2:l2.length≤9223372036854775807) (hx:∀ x∈l2,FitQ x) (b:Bool):Ev (fun k=>spec_l07Attr.j1 k s n b h0 h1 l2 l3 l4 l5 l6 cm data an av) (if b=true then true else tailV l2 s n an):=by
 refine Ev.step (fun k=>by rw [spec_l07Attr.j1]) (Kit.ev_if (fun h=>?_) (fun h=>?_))
 ·rw [if_pos h];exact Ev.now _
 ·rw [if_neg h]
  refine Ev.bind (ev_l07At l2 s n hn2) (Kit.ev_if (fun h=>?_) (fun h=>?_))
  ·have hi:=ix l2 s n
   have h':0≤ruleAtI l2 s n:=h
   have e:tailV l2 s n an=Kit.hasT (l2.getD (ruleAtI l2 s n).toNat z56).f2 an:=if_pos h'
   have er:rd_T56 l2 (ruleAtI l2 s n)=l2.getD (ruleAtI l2 s n).toNat z56:=rfl
   rw [e,er]
   have hf:=hx _ (Kit.getD_mem z56 (show (ruleAtI l2 s n).toNat<l2.length by omega))
   exact Kit.ev_pos h' (Kit.ev_pos hi (Ev.bind (ev_l01Has _ an (by have:=hf.2.1;omega)) (Ev.now _)))
  ·have e:tailV l2 s n an=false:=if_neg (show ¬ 0≤ruleAtI l2 s n from h)
   rw [e];exact Ev.now _
theorem ev_mid_spec (h0 h1:Bool) (l2 l3 l4:List S56) (l5 l6:List ByteArray) (cm data:Bool) (s:Int) (n an av:ByteArray) (hn2:l2.length≤9223372036854775807) (hx:∀ x∈l2,FitQ x) (hn5:l5.length≤9223372036854775807) (b:Bool):Ev (fun k=>spec_l07Attr.j0 k s n b h0 h1 l2 l3 l4 l5 l6 cm data an av) (if b=true then false else midV h1 l2 l5 data s n an):=by
 have tl:=fun b=>ev_tail_spec h0 h1 l2 l3 l4 l5 l6 cm data s n an av hn2 hx b
 refine Ev.step (fun k=>by rw [spec_l07Attr.j0]) (Kit.ev_if (fun h=>?_) (fun h=>?_))
 ·rw [if_pos h];exact Ev.now _
 ·rw [if_neg h]
  unfold midV
  refine Kit.ev_if (fun h1=>?_) (fun h1=>?_)
  ·rw [if_pos h1]
   refine Ev.bind (ev_l01Has l5 an hn5) (Kit.ev_if (fun h2=>?_) (fun h2=>?_))
   ·rw [if_pos h2];exact tl true
   ·rw [if_neg h2]
    refine Kit.ev_if (fun h3=>?_) (fun h3=>?_)
    ·rw [if_pos h3]
     refine Kit.ev_if (fun h4=>?_) (fun h4=>?_)
     ·have e:dataV an=((an.extract 0 5).toList == ([100,97,116,97,45]:List UInt8)):=by unfold dataV;rw [decide_eq_true h4,Bool.true_and]
      rw [e]
      exact Kit.ev_pos (by omega) (Kit.ev_pos (by omega) (tl _))
     ·have e:dataV an=false:=by unfold dataV;rw [decide_eq_false h4,Bool.false_and]
      rw [e]
      exact tl false
    ·rw [if_neg h3];exact tl false
  ·rw [if_neg h1];exact tl true
def linkL:List ByteArray:=([(⟨#[104,114,101,102]⟩:ByteArray),(⟨#[115,114,99]⟩:ByteArray),(⟨#[97,99,116,105,111,110]⟩:ByteArray),(⟨#[102,111,114,109,97,99,116,105,111,110]⟩:ByteArray),(⟨#[120,108,105,110,107,45,104,114,101,102]⟩:ByteArray)]:List ByteArray)
theorem ev_IsLink (a:ByteArray):Ev (fun k=>impl_IsLink.f k a) (Kit.hasT linkL a):=Ev.bind (ev_slices_Contains _ a (by decide)) (Ev.now _)
theorem ev_l01Link (a:ByteArray):Ev (fun k=>spec_l01Link.f k a) (Kit.hasT linkL a):=Ev.bind (ev_l01Has _ a (by decide)) (Ev.now _)
def harmV (an av:ByteArray):Bool:=if handler an=true then true else if Kit.hasT linkL an=true then badL (bytesOf av) else false
def keepsV (h1:Bool) (l2:List S56) (l5 l6:List ByteArray) (data:Bool) (s:Int) (n an av:ByteArray):Bool :=
 if harmV an av=true then false else if Kit.hasT l6 an=true then false else midV h1 l2 l5 data s n an
theorem ev_l07Attr (h0 h1:Bool) (l2 l3 l4:List S56) (l5 l6:List ByteArray) (cm data:Bool) (s:Int) (n an av:ByteArray) (hf:FitC l2 l3 l4 l5 l6) (hv:av.size≤40):Ev (fun k=>spec_l07Attr.f k h0 h1 l2 l3 l4 l5 l6 cm data s n an av) (keepsV h1 l2 l5 l6 data s n an av):=by
 have hn5:l5.length≤9223372036854775807:=by have:=hf.2.2.2.1.1;omega
 have hn6:l6.length≤9223372036854775807:=by have:=hf.2.2.2.2.1;omega
 have md:=fun b=>ev_mid_spec h0 h1 l2 l3 l4 l5 l6 cm data s n an av (by have:=hf.1.1;omega) hf.1.2 hn5 b
 have hd:Ev (fun k=>(spec_l01Has.f k l6 an).bind fun b=>spec_l07Attr.j0 k s n b h0 h1 l2 l3 l4 l5 l6 cm data an av) (if Kit.hasT l6 an=true then false else midV h1 l2 l5 data s n an):=Ev.bind (ev_l01Has l6 an hn6) (md _)
 unfold spec_l07Attr.f keepsV harmV
 refine Kit.ev_some (l01Handler_eq an) (Kit.ev_if (fun h=>?_) (fun h=>?_))
 ·rw [if_pos h,if_pos rfl];exact md true
 ·rw [if_neg h]
  refine Ev.bind (ev_l01Link an) (Kit.ev_if (fun h2=>?_) (fun h2=>?_))
  ·rw [if_pos h2]
   refine Ev.bind (ev_l01Bad av (by omega)) (Kit.ev_if (fun h3=>?_) (fun h3=>?_))
   ·rw [if_pos h3];exact md true
   ·rw [if_neg h3];exact hd
  ·rw [if_neg h2,if_neg Bool.false_ne_true];exact hd
theorem ev_tail_impl (h0 h1:Bool) (l2 l3 l4:List S56) (l5 l6:List ByteArray) (cm data:Bool) (s:Int) (n an av:ByteArray) (hn2:l2.length≤9223372036854775807) (hx:∀ x∈l2,FitQ x) (b:Bool):Ev (fun k=>impl_Config_keeps.j2 k s n b h0 h1 l2 l3 l4 l5 l6 cm data an av) (if b=true then true else tailV l2 s n an):=by
 refine Ev.step (fun k=>by rw [impl_Config_keeps.j2]) (Kit.ev_if (fun h=>?_) (fun h=>?_))
 ·rw [if_pos h];exact Ev.now _
 ·rw [if_neg h]
  refine Kit.ev_some (a:=ruleAtI l2 s n) rfl (Kit.ev_if (fun h=>?_) (fun h=>?_))
  ·have hi:=ix l2 s n
   have h':0≤ruleAtI l2 s n:=h
   have e:tailV l2 s n an=Kit.hasT (l2.getD (ruleAtI l2 s n).toNat z56).f2 an:=if_pos h'
   have er:rd_T56 l2 (ruleAtI l2 s n)=l2.getD (ruleAtI l2 s n).toNat z56:=rfl
   rw [e,er]
   have hf:=hx _ (Kit.getD_mem z56 (show (ruleAtI l2 s n).toNat<l2.length by omega))
   exact Kit.ev_pos h' (Kit.ev_pos hi (Ev.bind (ev_slices_Contains _ an (by have:=hf.2.1;omega)) (Ev.now _)))
  ·have e:tailV l2 s n an=false:=if_neg (show ¬ 0≤ruleAtI l2 s n from h)
   rw [e];exact Ev.now _
theorem ev_mid1_impl (h0 h1:Bool) (l2 l3 l4:List S56) (l5 l6:List ByteArray) (cm data:Bool) (s:Int) (n an av:ByteArray) (hn2:l2.length≤9223372036854775807) (hx:∀ x∈l2,FitQ x) (b:Bool):Ev (fun k=>impl_Config_keeps.j1 k s n b h0 h1 l2 l3 l4 l5 l6 cm data an av) (if b=true then true else if data=true then (if dataV an=true then true else tailV l2 s n an) else tailV l2 s n an):=by
 have tl:=fun b=>ev_tail_impl h0 h1 l2 l3 l4 l5 l6 cm data s n an av hn2 hx b
 refine Ev.step (fun k=>by rw [impl_Config_keeps.j1]) (Kit.ev_if (fun h=>?_) (fun h=>?_))
 ·rw [if_pos h];exact Ev.now _
 ·rw [if_neg h]
  refine Kit.ev_if (fun h3=>?_) (fun h3=>?_)
  ·rw [if_pos h3]
   have e0:(an.size≥(⟨#[100,97,116,97,45]⟩:ByteArray).size)=(an.size≥5):=rfl
   have e1:(⟨#[100,97,116,97,45]⟩:ByteArray).toList=([100,97,116,97,45]:List UInt8):=Kit.lit_toList #[100,97,116,97,45]
   have hp:=hasPrefix_eq an (⟨#[100,97,116,97,45]⟩:ByteArray)
   rw [e1] at hp
   have hp:strings_HasPrefix.f an (⟨#[100,97,116,97,45]⟩:ByteArray)=some (decide (an.size≥5) && ((an.extract 0 5).toList == ([100,97,116,97,45]:List UInt8))):=hp
   refine Kit.ev_some hp (Kit.ev_if (fun h4=>?_) (fun h4=>?_))
   ·have e:dataV an=decide ((an.size:Int)>5):=by
     rw [Bool.and_eq_true] at h4
     unfold dataV
     rw [h4.2,Bool.and_true]
    rw [e]
    exact tl _
   ·have e:dataV an=false:=by
     unfold dataV
     rw [Bool.eq_false_iff]
     intro h5
     rw [Bool.and_eq_true] at h5
     refine h4 ?_
     rw [h5.2,Bool.and_true]
     have:=of_decide_eq_true h5.1
     exact decide_eq_true (by omega)
    rw [e]
    exact tl false
  ·rw [if_neg h3];exact tl false
theorem ev_mid_impl (h0 h1:Bool) (l2 l3 l4:List S56) (l5 l6:List ByteArray) (cm data:Bool) (s:Int) (n an av:ByteArray) (hn2:l2.length≤9223372036854775807) (hx:∀ x∈l2,FitQ x) (hn5:l5.length≤9223372036854775807) (b:Bool):Ev (fun k=>impl_Config_keeps.j0 k s n b h0 h1 l2 l3 l4 l5 l6 cm data an av) (if b=true then false else midV h1 l2 l5 data s n an):=by
 have m1:=fun b=>ev_mid1_impl h0 h1 l2 l3 l4 l5 l6 cm data s n an av hn2 hx b
 refine Ev.step (fun k=>by rw [impl_Config_keeps.j0]) (Kit.ev_if (fun h=>?_) (fun h=>?_))
 ·rw [if_pos h];exact Ev.now _
 ·rw [if_neg h]
  unfold midV
  refine Kit.ev_if (fun h1=>?_) (fun h1=>?_)
  ·rw [if_pos h1];exact Ev.bind (ev_slices_Contains l5 an hn5) (m1 _)
  ·rw [if_neg h1];exact m1 true
theorem ev_isHarm (an av:ByteArray) (ha:an.size≤100) (hv:av.size≤40):Ev (fun k=>impl_Attr_isHarm.f k an av) (harmV an av):=by
 have hh:impl_IsHandler.f an=some (handler an):=by rw [IsHandler_eq,decide_eq_false (show ¬ (65536:Int)<(an.size:Int) by omega),Bool.not_false,Bool.true_and]
 have hb:Ev (fun k=>impl_BadLink.f k av) (badL (bytesOf av)):=by
  have:=ev_BadLink_impl av (by omega)
  rwa [decide_eq_false (show ¬ (65536:Int)<(av.size:Int) by omega),Bool.not_false,Bool.true_and] at this
 unfold impl_Attr_isHarm.f harmV
 refine Kit.ev_some hh (Kit.ev_if (fun h=>?_) (fun h=>?_))
 ·rw [if_pos h];exact Ev.now _
 ·rw [if_neg h]
  refine Ev.bind (ev_IsLink an) (Kit.ev_if (fun h2=>?_) (fun h2=>?_))
  ·rw [if_pos h2];exact Ev.bind hb (Ev.now _)
  ·rw [if_neg h2];exact Ev.now _
theorem ev_keeps (h0 h1:Bool) (l2 l3 l4:List S56) (l5 l6:List ByteArray) (cm data:Bool) (s:Int) (n an av:ByteArray) (hf:FitC l2 l3 l4 l5 l6) (ha:an.size≤100) (hv:av.size≤40):Ev (fun k=>impl_Config_keeps.f k h0 h1 l2 l3 l4 l5 l6 cm data s n an av) (keepsV h1 l2 l5 l6 data s n an av):=by
 have hn5:l5.length≤9223372036854775807:=by have:=hf.2.2.2.1.1;omega
 have hn6:l6.length≤9223372036854775807:=by have:=hf.2.2.2.2.1;omega
 have md:=fun b=>ev_mid_impl h0 h1 l2 l3 l4 l5 l6 cm data s n an av (by have:=hf.1.1;omega) hf.1.2 hn5 b
 unfold impl_Config_keeps.f keepsV
 refine Ev.bind (ev_isHarm an av ha hv) (Kit.ev_if (fun h=>?_) (fun h=>?_))
 ·rw [if_pos h];exact md true
 ·rw [if_neg h];exact Ev.bind (ev_slices_Contains l6 an hn6) (md _)
/-- An attribute is right. -/
def attrV (an av:ByteArray):Bool:=if Kit.isTag an=true then decide ((av.size:Int)≤40) else false
theorem ev_isAttr (an av:ByteArray) (ha:an.size≤9223372036854775807):Ev (fun k=>impl_isAttr.f k an av) (attrV an av):=by
 unfold impl_isAttr.f attrV
 refine Ev.bind (ev_tag_impl an ha) (Kit.ev_if (fun h=>?_) (fun h=>?_))
 ·rw [if_pos h];exact Ev.now _
 ·rw [if_neg h];exact Ev.now _
theorem ev_l03Attr1 (x:S51) (ha:x.f0.size≤9223372036854775807):Ev (fun k=>spec_l03Attrs.f k [x]) (attrV x.f0 x.f1):=by
 have e0:rd_T51 [x] (0:Int)=x:=rfl
 have hend:Ev (fun k=>spec_l03Attrs.l0 k [x] 1) true:=Ev.step (f:=fun _=>some true) (fun k=>by rw [spec_l03Attrs.l0,if_neg (by simp)]) (Ev.now _)
 have hj:∀ b,Ev (fun k=>spec_l03Attrs.j1 k [x] 0 b) (!b):=by
  intro b
  cases b with
  | true=>exact Ev.step (f:=fun _=>some false) (fun k=>by rw [spec_l03Attrs.j1,if_pos rfl]) (Ev.now _)
  | false =>
   refine Ev.step (f:=fun k=>spec_l03Attrs.l1 k [x] 0 0) (fun k=>by rw [spec_l03Attrs.j1,if_neg Bool.false_ne_true]) ?_
   exact Ev.step (f:=fun k=>spec_l03Attrs.l0 k [x] 1) (fun k=>by rw [spec_l03Attrs.l1,if_neg (by omega),Kit.wrap_of (i:=(0:Int)+1) (by omega) (by omega)];rfl) hend
 unfold spec_l03Attrs.f
 refine Kit.ev_neg (by simp) (Ev.step (fun k=>by rw [spec_l03Attrs.l0,if_pos (by simp),if_pos (by omega),e0]) ?_)
 unfold attrV
 refine Ev.bind (ev_tag_spec x.f0 ha) (Kit.ev_if (fun h=>?_) (fun h=>?_))
 ·rw [if_pos h]
  have:decide ((x.f1.size:Int)≤40) = !decide ((x.f1.size:Int)>40):=by
   by_cases c:(x.f1.size:Int)>40
   ·rw [decide_eq_true c,decide_eq_false (by omega)];rfl
   ·rw [decide_eq_false c,decide_eq_true (by omega)];rfl
  rw [this]
  exact hj _
 ·rw [if_neg h];exact hj true
theorem attrV_fit {an av:ByteArray} (h:attrV an av=true):an.size≤100∧av.size≤40:=by
 unfold attrV at h
 by_cases ht:Kit.isTag an=true
 ·rw [if_pos ht] at h
  have h1:=of_decide_eq_true h
  unfold Kit.isTag at ht
  rw [Bool.and_eq_true] at ht
  have h2:=of_decide_eq_true ht.2
  omega
 ·rw [if_neg ht] at h;cases h
theorem proved:laws_FnExactAllowsAttr.PureS:=by
 intro x s n a hg hs hn hga
 refine Ev.rounds (g:=fun k=>laws_FnExactAllowsAttr.f k x.f0 x.f1 x.f2 x.f3 x.f4 x.f5 x.f6 x.f7 x.f8 s n a.f0 a.f1) ?_
 unfold laws_FnExactAllowsAttr.f
 have hn9:n.size≤9223372036854775807:=hn
 have ha9:a.f0.size≤9223372036854775807:=hga.1
 refine Kit.ev_if (fun _=>Ev.now _) (fun _=>?_)
 obtain ⟨t,ht,hle,hfit⟩:=ev_szConfig x 1048576 (by omega) (by omega) hg
 by_cases hneg:t<0
 ·exact Ev.bind ht (Kit.ev_pos hneg (Ev.now _))
 ·obtain ⟨hf,h2,h3,h4⟩:=hfit (by omega)
  obtain ⟨u,hu⟩:∃ u,laws_szAttr.f a.f0 a.f1 t=some u:=by
   unfold laws_szAttr.f
   split
   ·exact ⟨_,rfl⟩
   ·split <;> exact ⟨_,rfl⟩
  by_cases hneg2:u<0
  ·exact Ev.bind ht (Kit.ev_neg hneg (Kit.ev_some hu (Kit.ev_pos hneg2 (Ev.now _))))
  ·have hto:=ev_toConfig x hf h2 h3 h4
   have heq:=ev_eqConfig x.f0 x.f1 (x.f2.map toR) (x.f3.map toR) (x.f4.map toR) x.f5 x.f6 x.f7 x.f8 hf
   generalize x.f2.map toR=l2 at *
   generalize x.f3.map toR=l3 at *
   generalize x.f4.map toR=l4 at *
   have hv:∃ v:Bool × Int,Ev (fun k=>spec_AllowsAttr.f k x.f0 x.f1 l2 l3 l4 x.f5 x.f6 x.f7 x.f8 s n a.f0 a.f1) v∧Ev (fun k=>impl_AllowsAttr.f k x.f0 x.f1 l2 l3 l4 x.f5 x.f6 x.f7 x.f8 s n a.f0 a.f1) v:=by
    refine ⟨if askI x.f0 x.f1 l2 l3 l4 x.f5 x.f6 x.f8 s n=0 then (if attrV a.f0 a.f1=true then (keepsV x.f1 l2 x.f5 x.f6 x.f8 s n a.f0 a.f1,0) else (false,1)) else (false,askI x.f0 x.f1 l2 l3 l4 x.f5 x.f6 x.f8 s n),?_,?_⟩
    ·unfold spec_AllowsAttr.f
     refine Kit.ev_if (fun h=>?_) (fun h=>?_)
     ·rw [askI_long h];exact Ev.now _
     ·refine Ev.bind (ev_l07AskName _ _ _ _ _ _ _ _ _ s n hf hn9) (Kit.ev_if (fun h=>?_) (fun h=>?_))
      ·rw [if_pos h]
       refine Ev.bind (ev_l03Attr1 ⟨a.f0,a.f1⟩ ha9) (Kit.ev_if (fun h5=>?_) (fun h5=>?_))
       ·rw [if_pos h5];exact Ev.bind (ev_l07Attr _ _ _ _ _ _ _ _ _ s n _ _ hf (attrV_fit h5).2) (Ev.now _)
       ·rw [if_neg h5];exact Ev.now _
      ·rw [if_neg h];exact Ev.now _
    ·unfold impl_AllowsAttr.f
     refine Ev.bind (ev_faultAsked _ _ _ _ _ _ _ _ _ s n hf hn9) (Kit.ev_if (fun h=>?_) (fun h=>?_))
     ·rw [if_pos h]
      refine Ev.bind (ev_isAttr a.f0 a.f1 ha9) (Kit.ev_if (fun h5=>?_) (fun h5=>?_))
      ·rw [if_pos h5];exact Ev.bind (ev_keeps _ _ _ _ _ _ _ _ _ s n _ _ hf (attrV_fit h5).1 (attrV_fit h5).2) (Ev.now _)
      ·rw [if_neg h5];exact Ev.now _
     ·rw [if_neg h];exact Ev.now _
   obtain ⟨v,hvs,hvi⟩:=hv
   refine Ev.bind ht (Kit.ev_neg hneg (Kit.ev_some hu (Kit.ev_neg hneg2 (Ev.bind hto (Kit.ev_some rfl (Ev.bind hvs (Ev.bind hto (Kit.ev_some rfl (Ev.bind hvi (Kit.ev_neg (by simp) ?_))))))))))
   have:(v.2 != v.2)=false:=by simp
   rw [this]
   exact Ev.step (fun k=>by rw [laws_FnExactAllowsAttr.j0]) (Kit.ev_neg Bool.false_ne_true (Ev.bind hto (Ev.bind heq (Kit.ev_pos rfl (Ev.now _)))))
end Go.Proofs.Ytmeafbneklphnaa.Pure.LAllowsAttr
namespace Go.Proofs.Ytmeafbneklphnaa.Pure
theorem FnExactAllowsAttr:PFnExactAllowsAttr.laws_FnExactAllowsAttr.PureS:=LAllowsAttr.proved
end Go.Proofs.Ytmeafbneklphnaa.Pure
