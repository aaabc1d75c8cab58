/- The pure statement of FnExactSameConfig: of every two configurations both functions tell the same. No conditions. -/
import Derived.Test.YtophaihdibplkaaKit
import Derived.Test.YtophaihdibplkaaOpensFnExactSameConfig
namespace Go.Proofs.Ytophaihdibplkaa.Pure.LSameConfig
open Go.RowKit Go.Proofs.Ytophaihdibplkaa.PFnExactSameConfig Go.Proofs.YtophaihdibplkaaW.PrintWords
open Go.Proofs.Ytophaihdibplkaa.Kit (small digit big pos_eq neg_eq tagB isTag nameB isName lowC lowS lowS_bytes handler wantJ wantJ_eq keepC badL badFrom badFrom_zero badFrom_full badFrom_nil badFrom_skip badFrom_take indexByte_any markB namesAt namesOK)
/-- What the size of a list of texts leaves: if it is no negative number, all is short. -/
theorem ev_szStringS (xs:List ByteArray) (left:Int) (h0:0≤left) (h1:left≤1048576) (hx:Open.Few Open.Short xs) :
 ∃ t,Ev (fun k=>laws_szStringS.f k xs left) t∧t≤left∧(0≤t→(xs.length:Int)≤left∧∀ x∈xs,(x.size:Int)≤left):=by
 have hn:=hx.1
 have key:∀ i,i≤xs.length→∀ l:Int,0≤l→l≤left→∃ t,Ev (fun k=>laws_szStringS.l0 k xs l i) t∧t≤l∧(0≤t→∀ x∈xs.drop i,(x.size:Int)≤left):=by
  refine Kit.down ?_ ?_
  ·intro l _ _
   exact ⟨l,Ev.step (fun k=>rfl) (Kit.ev_neg (by omega) (Ev.now _)),Int.le_refl _,fun _ x hx=>by rw [List.drop_length] at hx;exact absurd hx List.not_mem_nil⟩
  ·intro i hi ih l hl0 hl1
   have hs:(xs.getD i ByteArray.empty).size≤9223372036854775807:=hx.2 _ (by rw [List.getD_eq_getElem?_getD,List.getElem?_eq_getElem hi];exact List.getElem_mem hi)
   have hw:wrap64 (l - ((xs.getD i ByteArray.empty).size:Int))=l - ((xs.getD i ByteArray.empty).size:Int):=Kit.wrap_of (by omega) (by omega)
   by_cases hneg:l - ((xs.getD i ByteArray.empty).size:Int)<0
   ·refine ⟨-1,Ev.step (fun k=>rfl) (Kit.ev_pos (by omega) (Kit.ev_pos (by omega) ?_)),by omega,fun h=>absurd h (by omega)⟩
    rw [Kit.rdOf_nat,hw]
    exact Kit.ev_pos hneg (Ev.now _)
   ·obtain ⟨t,ht,htl,hg⟩:=ih (l - ((xs.getD i ByteArray.empty).size:Int)) (by omega) (by omega)
    refine ⟨t,Ev.step (fun k=>rfl) (Kit.ev_pos (by omega) (Kit.ev_pos (by omega) ?_)),by omega,fun h x hx=>?_⟩
    ·rw [Kit.rdOf_nat,hw,Kit.wrap_nat hi (by omega)]
     exact Kit.ev_neg hneg ht
    ·rw [Kit.drop_getD ByteArray.empty xs i hi] at hx
     rcases List.mem_cons.1 hx with rfl|hx
     ·omega
     ·exact hg h x hx
 have hw:wrap64 (left - (xs.length:Int))=left - (xs.length:Int):=Kit.wrap_of (by omega) (by omega)
 unfold laws_szStringS.f
 rw [hw]
 by_cases hneg:left - (xs.length:Int)<0
 ·exact ⟨-1,Kit.ev_pos hneg (Ev.now _),by omega,fun h=>absurd h (by omega)⟩
 ·obtain ⟨t,ht,htl,hg⟩:=key 0 (Nat.zero_le _) (left - (xs.length:Int)) (by omega) (by omega)
  exact ⟨t,Kit.ev_neg hneg ht,by omega,fun h=>⟨by omega,by simpa using hg h⟩⟩
theorem ev_toStringS (xs:List ByteArray) (hn:xs.length≤1048576):Ev (fun k=>laws_toStringS.f k xs) xs:=by
 have key:∀ i,i≤xs.length→∀ acc:List ByteArray,acc.length=xs.length→acc.take i=xs.take i→Ev (fun k=>laws_toStringS.l0 k xs acc i) xs:=by
  refine Kit.down ?_ ?_
  ·intro acc hl ht
   rw [←hl,List.take_length,hl,List.take_length] at ht
   rw [ht]
   exact Ev.step (fun k=>rfl) (Kit.ev_neg (by omega) (Ev.now _))
  ·intro i hi ih acc hl ht
   refine Ev.step (fun k=>rfl) (Kit.ev_pos (by omega) (Kit.ev_pos (by omega) (Kit.ev_pos (by omega) ?_)))
   rw [Kit.rdOf_nat,Kit.wrap_nat hi (by omega),Int.toNat_natCast]
   refine ih _ (by rw [List.length_set];exact hl) ?_
   exact Kit.take_set_getD ByteArray.empty hl ht hi
 unfold laws_toStringS.f
 refine Kit.ev_pos (by omega) (Kit.ev_pos (by omega) ?_)
 rw [Int.toNat_natCast]
 exact key 0 (by omega) _ (by rw [List.length_replicate]) (by simp)
theorem ev_eqStringS (xs:List ByteArray) (hn:xs.length≤1048576):Ev (fun k=>laws_eqStringS.f k xs xs) true:=by
 have key:∀ i,i≤xs.length→Ev (fun k=>laws_eqStringS.l0 k xs xs i) true:=by
  refine Kit.down ?_ ?_
  ·exact Ev.step (fun k=>rfl) (Kit.ev_neg (by omega) (Ev.now _))
  ·intro i hi ih
   refine Ev.step (fun k=>rfl) (Kit.ev_pos (by omega) (Kit.ev_pos (by omega) (Kit.ev_pos (by omega) (Kit.ev_pos rfl ?_))))
   rw [Kit.wrap_nat hi (by omega)]
   exact ih
 unfold laws_eqStringS.f
 exact Kit.ev_pos rfl (key 0 (by omega))
theorem within_eq2 (n a b:Int):impl_within.f n a b=some (decide (a≤n∧n≤b)):=by
 unfold impl_within.f
 by_cases h:n≥a
 ·rw [if_pos h];simp [h]
 ·rw [if_neg h];simp;omega
theorem l01In_eq2 (n a b:Int):spec_l01In.f n a b=some (decide (a≤n∧n≤b)):=by
 unfold spec_l01In.f
 by_cases h:n≥a
 ·rw [if_pos h];simp [h]
 ·rw [if_neg h];simp;omega
/-- A rule: its space, its name, its names. -/
def ruleB (s:Int) (n:ByteArray) (xs:List ByteArray):Bool:=decide (0≤s∧s≤2) && (isTag n && namesOK xs)
theorem ev_l07Rule (s:Int) (n:ByteArray) (xs:List ByteArray) (hn:n.size≤9223372036854775807) (hx:∀ x∈xs,x.size≤9223372036854775807):Ev (fun k=>spec_l07Rule.f k s n xs) (ruleB s n xs):=by
 unfold spec_l07Rule.f ruleB
 refine Kit.ev_some (l01In_eq2 _ _ _) (Kit.ev_if (fun h=>?_) (fun h=>?_))
 ·rw [h,Bool.true_and]
  refine Ev.bind (ev_tag_spec n hn) (Kit.ev_if (fun h=>?_) (fun h=>?_))
  ·rw [h,Bool.true_and]
   exact Kit.ev_const (by rw [spec_l07Names.f,if_pos hx];rfl)
  ·rw [Bool.eq_false_iff.2 h,Bool.false_and];exact Ev.now _
 ·rw [Bool.eq_false_iff.2 h,Bool.false_and];exact Ev.now _
theorem ev_RuleOK (s:Int) (n:ByteArray) (xs:List ByteArray) (hn:n.size≤9223372036854775807) (hx:∀ x∈xs,x.size≤9223372036854775807):Ev (fun k=>impl_RuleOK.f k s n xs) (ruleB s n xs):=by
 unfold impl_RuleOK.f ruleB
 refine Kit.ev_some (within_eq2 _ _ _) (Kit.ev_if (fun h=>?_) (fun h=>?_))
 ·rw [h,Bool.true_and]
  refine Ev.bind (ev_tag_impl n hn) (Kit.ev_if (fun h=>?_) (fun h=>?_))
  ·rw [h,Bool.true_and]
   exact Kit.ev_const (by rw [impl_areNames.f,if_pos hx];rfl)
  ·rw [Bool.eq_false_iff.2 h,Bool.false_and];exact Ev.now _
 ·rw [Bool.eq_false_iff.2 h,Bool.false_and];exact Ev.now _
/- Lists of rules: laws' kind S153, the program's kind S155. -/
def toR (x:S153):S155:=⟨x.f0,x.f1,x.f2⟩
theorem rdLR_nat (xs:List S153) (i:Nat):rd_T153 xs (i:Int)=xs.getD i z153:=by simp [rd_T153]
theorem rdR_nat (xs:List S155) (i:Nat):rd_T155 xs (i:Int)=xs.getD i z155:=by simp [rd_T155]
def FitR (x:S153):Prop:=x.f1.size≤1048576∧x.f2.length≤1048576∧∀ y∈x.f2,y.size≤1048576
theorem ex_szRule (x:S153) (l:Int) (h0:0≤l) (h1:l≤1048576) (hg:G153 x):∃ t,Ev (fun k=>laws_szRule.f k x.f0 x.f1 x.f2 l) t∧t≤l∧(0≤t→FitR x):=by
 have hsz:x.f1.size≤9223372036854775807:=hg.2.1
 have hw:wrap64 (l - (x.f1.size:Int))=l - (x.f1.size:Int):=Kit.wrap_of (by omega) (by omega)
 unfold laws_szRule.f
 rw [hw]
 by_cases hneg:l - (x.f1.size:Int)<0
 ·exact ⟨-1,Kit.ev_pos hneg (Ev.now _),by omega,fun h=>absurd h (by omega)⟩
 ·obtain ⟨t,ht,htl,htg⟩:=ev_szStringS x.f2 (l - (x.f1.size:Int)) (by omega) (by omega) hg.2.2
  by_cases htn:t<0
  ·exact ⟨-1,Kit.ev_neg hneg (Ev.bind ht (Kit.ev_pos htn (Ev.now _))),by omega,fun h=>absurd h (by omega)⟩
  ·refine ⟨t,Kit.ev_neg hneg (Ev.bind ht (Kit.ev_neg htn (Ev.now _))),by omega,fun h=>?_⟩
   obtain ⟨hl,hx⟩:=htg h
   exact ⟨by omega,by omega,fun y hy=>by have:=hx y hy;omega⟩
open Classical in
noncomputable def szR (x:S153) (l:Int):Int:=if h:∃ t,Ev (fun k=>laws_szRule.f k x.f0 x.f1 x.f2 l) t∧t≤l∧(0≤t→FitR x) then h.choose else -1
theorem szR_ev (x:S153) (l:Int) (h0:0≤l) (h1:l≤1048576) (hg:G153 x):Ev (fun k=>laws_szRule.f k x.f0 x.f1 x.f2 l) (szR x l):=by
 have h:=ex_szRule x l h0 h1 hg
 unfold szR
 rw [dif_pos h]
 exact h.choose_spec.1
theorem szR_fit (x:S153) (l:Int) (h0:0≤l) (h1:l≤1048576) (hg:G153 x):szR x l≤l∧(0≤szR x l→FitR x):=by
 have h:=ex_szRule x l h0 h1 hg
 unfold szR
 rw [dif_pos h]
 exact h.choose_spec.2
theorem ev_szRuleS (xs:List S153) (left:Int) (h0:0≤left) (h1:left≤1048576) (hx:Open.Few G153 xs) :
 ∃ t,Ev (fun k=>laws_szRuleS.f k xs left) t∧t≤left∧(0≤t→xs.length≤1048576∧∀ x∈xs,FitR x):=by
 have hn:=hx.1
 have hw:wrap64 (left - (xs.length:Int))=left - (xs.length:Int):=Kit.wrap_of (by omega) (by omega)
 unfold laws_szRuleS.f
 rw [hw]
 by_cases hneg:left - (xs.length:Int)<0
 ·exact ⟨-1,Kit.ev_pos hneg (Ev.now _),by omega,fun h=>absurd h (by omega)⟩
 ·obtain ⟨t,ht,htl,hg⟩:=Kit.ev_size z153 (xs:=xs) (P:=FitR) (E:=szR) (L:=fun k l i=>laws_szRuleS.l0 k xs l i) (fun a ha l a0 a1=>szR_fit a l a0 a1 (hx.2 a ha))
   (fun l=>Ev.step (fun k=>rfl) (Kit.ev_neg (by omega) (Ev.now _)))
   (fun i hi l a0 a1 hE=>Ev.step (fun k=>rfl) (Kit.ev_pos (by omega) (Kit.ev_pos (by omega) (by rw [rdLR_nat];exact Ev.bind (szR_ev _ l a0 a1 (hx.2 _ (Kit.getD_mem _ hi))) (Kit.ev_pos hE (Ev.now _))))))
   (fun i hi l r a0 a1 hE ih=>Ev.step (fun k=>rfl) (Kit.ev_pos (by omega) (Kit.ev_pos (by omega) (by rw [rdLR_nat,Kit.wrap_nat hi (by omega)];exact Ev.bind (szR_ev _ l a0 a1 (hx.2 _ (Kit.getD_mem _ hi))) (Kit.ev_neg (by omega) ih)))))
   (left - (xs.length:Int)) (by omega) (by omega)
  exact ⟨t,Kit.ev_neg hneg ht,by omega,fun h=>⟨by omega,hg h⟩⟩
theorem ev_toRule (x:S153) (h:x.f2.length≤1048576):Ev (fun k=>laws_toRule.f k x.f0 x.f1 x.f2) (x.f0,x.f1,x.f2):=by
 unfold laws_toRule.f
 exact Ev.bind (ev_toStringS x.f2 h) (Ev.now _)
theorem ev_toRuleS (xs:List S153) (hn:xs.length≤1048576) (hx:∀ x∈xs,FitR x):Ev (fun k=>laws_toRuleS.f k xs) (xs.map toR):=by
 unfold laws_toRuleS.f
 refine Kit.ev_pos (by omega) (Kit.ev_pos (by omega) ?_)
 rw [Int.toNat_natCast]
 refine Kit.ev_conv z153 (L:=fun k acc i=>laws_toRuleS.l0 k xs acc i) (fun acc hl=>Ev.step (fun k=>rfl) (Kit.ev_neg (by omega) (Ev.now _))) ?_ _ (by rw [List.length_replicate])
 intro i hi acc r hl ih
 refine Ev.step (fun k=>rfl) (Kit.ev_pos (by omega) (Kit.ev_pos (by omega) ?_))
 rw [rdLR_nat,Kit.wrap_nat hi (by omega),Int.toNat_natCast]
 exact Ev.bind (ev_toRule _ (hx _ (Kit.getD_mem _ hi)).2.1) (Kit.ev_pos (by omega) ih)
theorem ev_eqRule (x:S155) (h:x.f2.length≤1048576):Ev (fun k=>laws_eqRule.f k x.f0 x.f1 x.f2 x.f0 x.f1 x.f2) true:=by
 unfold laws_eqRule.f
 exact Kit.ev_pos rfl (Kit.ev_pos rfl (Ev.bind (ev_eqStringS x.f2 h) (Kit.ev_pos rfl (Ev.now _))))
/-- A rule of the program's kind whose texts are short. -/
def FitQ (x:S155):Prop:=x.f1.size≤1048576∧x.f2.length≤1048576∧∀ y∈x.f2,y.size≤1048576
theorem fitQ_map {xs:List S153} (hx:∀ x∈xs,FitR x):∀ x∈xs.map toR,FitQ x:=by
 intro y hy
 obtain ⟨x,hm,rfl⟩:=List.mem_map.1 hy
 exact hx x hm
theorem ev_eqRuleS (xs:List S155) (hn:xs.length≤1048576) (hx:∀ x∈xs,FitQ x):Ev (fun k=>laws_eqRuleS.f k xs xs) true:=by
 unfold laws_eqRuleS.f
 refine Kit.ev_pos rfl (Kit.ev_refl (n:=xs.length) (L:=fun k i=>laws_eqRuleS.l0 k xs xs i) (Ev.step (fun k=>rfl) (Kit.ev_neg (by omega) (Ev.now _))) ?_)
 intro i hi ih
 refine Ev.step (fun k=>rfl) (Kit.ev_pos (by omega) (Kit.ev_pos (by omega) (Kit.ev_pos (by omega) ?_)))
 rw [rdR_nat,Kit.wrap_nat hi (by omega)]
 exact Ev.bind (ev_eqRule _ (hx _ (Kit.getD_mem _ hi)).2.1) (Kit.ev_pos rfl ih)
/-- The rule at place i is one, none ahead of it has its space and name, and it has attributes only where they may be. -/
def ruleOf (x:S155):Bool:=ruleB x.f0 x.f1 x.f2
def ruleAtOK (xs:List S155) (i:Nat):Bool:=ruleOf (xs.getD i z155) && decide (ruleAtI xs (xs.getD i z155).f0 (xs.getD i z155).f1=i)
def rulesB (xs:List S155):Bool:=decide (xs.length≤10) && Kit.allB (ruleAtOK xs) 0 xs.length
def specAt (xs:List S155) (a:Bool) (i:Nat):Bool:=ruleAtOK xs i && (a || !hasAttr (xs.getD i z155))
def specRules (xs:List S155) (a:Bool):Bool:=decide (xs.length≤10) && Kit.allB (specAt xs a) 0 xs.length
theorem specRules_eq (xs:List S155) (a:Bool):specRules xs a=(rulesB xs && (a || !xs.any hasAttr)):=by
 rw [Bool.eq_iff_iff]
 unfold specRules rulesB
 simp only [Bool.and_eq_true,Kit.allB_iff,specAt,Bool.or_eq_true,Bool.not_eq_true',decide_eq_true_eq]
 constructor
 ·rintro ⟨h1,h2⟩
  refine ⟨⟨h1,fun j hj hk=>(h2 j hj hk).1⟩,?_⟩
  cases a with
  | true=>exact .inl rfl
  | false =>
   refine .inr (Bool.eq_false_iff.2 fun h=>?_)
   obtain ⟨x,hx,hy⟩:=List.any_eq_true.1 h
   obtain ⟨j,hj,rfl⟩:=List.getElem_of_mem hx
   rcases (h2 j (Nat.zero_le _) hj).2 with h3|h3
   ·cases h3
   ·rw [List.getD_eq_getElem?_getD,List.getElem?_eq_getElem hj] at h3
    rw [show hasAttr xs[j]=false from h3] at hy
    cases hy
 ·rintro ⟨⟨h1,h2⟩,h3⟩
  refine ⟨h1,fun j hj hk=>⟨h2 j hj hk,?_⟩⟩
  rcases h3 with h3|h3
  ·exact .inl h3
  ·refine .inr (Bool.eq_false_iff.2 fun h=>?_)
   rw [List.any_eq_false] at h3
   exact h3 _ (Kit.getD_mem _ hk) h
theorem ev_l07Rules (xs:List S155) (a:Bool) (hx:∀ x∈xs,FitQ x):Ev (fun k=>spec_l07Rules.f k xs a) (specRules xs a):=by
 unfold spec_l07Rules.f specRules
 by_cases hl:(xs.length:Int)>10
 ·rw [show decide (xs.length≤10)=false from decide_eq_false (by omega),Bool.false_and]
  exact Kit.ev_pos hl (Ev.now _)
 ·rw [show decide (xs.length≤10)=true from decide_eq_true (by omega),Bool.true_and]
  refine Kit.ev_neg hl (Kit.ev_every (L:=fun k i=>spec_l07Rules.l0 k xs a i) (Ev.step (fun k=>rfl) (Kit.ev_neg (by omega) (Ev.now _))) ?_ ?_)
  ·intro i hi hp
   refine Ev.step (fun k=>rfl) (Kit.ev_pos (by omega) (Kit.ev_pos (by omega) ?_))
   rw [rdR_nat]
   have hf:=hx _ (Kit.getD_mem z155 hi)
   unfold specAt ruleAtOK at hp
   refine Ev.bind (ev_l07Rule _ _ _ (by have:=hf.1;omega) (fun y hy=>by have:=hf.2.2 y hy;omega)) (Kit.ev_if (fun h1=>?_) (fun _=>Ev.now _))
   refine Ev.bind (ev_l07At xs _ _ (by omega)) (Kit.ev_if (fun h2=>?_) (fun _=>Ev.now _))
   rw [show ruleOf (xs.getD i z155)=true from h1,decide_eq_true h2,Bool.true_and,Bool.true_and,Bool.or_eq_false_iff] at hp
   refine Kit.ev_neg (by rw [hp.1];decide) (Kit.ev_pos ?_ (Ev.now _))
   have h3:hasAttr (xs.getD i z155)=true:=by simpa using hp.2
   have h4:0<(xs.getD i z155).f2.length:=of_decide_eq_true h3
   omega
  ·intro i hi hp r ih
   refine Ev.step (fun k=>rfl) (Kit.ev_pos (by omega) (Kit.ev_pos (by omega) ?_))
   rw [rdR_nat,Kit.wrap_nat hi (by omega)]
   have hf:=hx _ (Kit.getD_mem z155 hi)
   unfold specAt ruleAtOK at hp
   rw [Bool.and_eq_true,Bool.and_eq_true] at hp
   obtain ⟨⟨h1,h2⟩,h3⟩:=hp
   refine Ev.bind (ev_l07Rule _ _ _ (by have:=hf.1;omega) (fun y hy=>by have:=hf.2.2 y hy;omega)) (Kit.ev_pos h1 ?_)
   refine Ev.bind (ev_l07At xs _ _ (by omega)) (Kit.ev_pos (of_decide_eq_true h2) ?_)
   refine Kit.ev_if (fun _=>ih) (fun ha=>Kit.ev_neg ?_ ih)
   rw [Bool.eq_false_iff.2 ha,Bool.false_or,Bool.not_eq_true'] at h3
   have h4:¬ 0<(xs.getD i z155).f2.length:=of_decide_eq_false h3
   omega
theorem firstP_before (p:Nat→Bool) (n:Nat):∀ d i,∀ j:Nat,i≤j→(j:Int)<Mach.firstP p n d i→p j=false:=by
 intro d
 induction d with
 | zero=>intro i j _ h;rw [Mach.firstP] at h;omega
 | succ d ih =>
  intro i j hij h
  rw [Mach.firstP] at h
  by_cases h1:i<n
  ·rw [if_pos h1] at h
   cases h2:p i with
   | true=>rw [if_pos h2] at h;omega
   | false =>
    rw [if_neg (by rw [h2];exact Bool.false_ne_true)] at h
    by_cases e:j=i
    ·subst e;exact h2
    ·exact ih (i+1) j (by omega) h
  ·rw [if_neg h1] at h;omega
theorem ruleAt_take (xs:List S155) (i:Nat) (hi:i<xs.length):decide (ruleAtI xs (xs.getD i z155).f0 (xs.getD i z155).f1=i) = !decide (0≤ruleAtI (xs.take i) (xs.getD i z155).f0 (xs.getD i z155).f1):=by
 have hself:ruleIs (xs.getD i z155).f0 (xs.getD i z155).f1 (xs.getD i z155)=true:=by unfold ruleIs;rw [beq_self_eq_true,beq_self_eq_true];rfl
 generalize (xs.getD i z155).f0=s at *
 generalize (xs.getD i z155).f1=n at *
 have htk:∀ j,j<i→(xs.take i).getD j z155=xs.getD j z155:=fun j hj=>by
  rw [List.getD_eq_getElem?_getD,List.getD_eq_getElem?_getD,List.getElem?_take_of_lt hj]
 have hlen:(xs.take i).length=i:=by rw [List.length_take];omega
 unfold ruleAtI
 rw [Mach.idxP_any (fun j=>ruleIs s n ((xs.take i).getD j z155)) (xs.take i).length,Bool.eq_iff_iff,decide_eq_true_iff,Bool.not_eq_true',Bool.eq_false_iff]
 constructor
 ·intro h hc
  obtain ⟨j,hj,hp⟩:=(Mach.anyP_iff _ _).1 hc
  rw [hlen] at hj
  have hp2:ruleIs s n (xs.getD j z155)=true:=by rw [←htk j hj];exact hp
  have:=firstP_before (fun j=>ruleIs s n (xs.getD j z155)) xs.length xs.length 0 j (Nat.zero_le _) (by
   have h':Mach.firstP (fun j=>ruleIs s n (xs.getD j z155)) xs.length xs.length 0=(i:Int):=h
   rw [h'];omega)
  rw [show ruleIs s n (xs.getD j z155)=false from this] at hp2
  cases hp2
 ·intro h
  refine Mach.idxP_hit (fun j=>ruleIs s n (xs.getD j z155)) xs.length i hi hself (fun j hj=>Bool.eq_false_iff.2 fun hp=>h ((Mach.anyP_iff _ _).2 ⟨j,by omega,?_⟩))
  show ruleIs s n ((xs.take i).getD j z155)=true
  rw [htk j hj]
  exact hp
def implAt (xs:List S155) (i:Nat):Bool:=!decide (i=10) && ruleAtOK xs i
theorem implRules_eq (xs:List S155):Kit.allB (implAt xs) 0 xs.length=rulesB xs:=by
 rw [Bool.eq_iff_iff]
 unfold rulesB
 simp only [Bool.and_eq_true,Kit.allB_iff,implAt,Bool.not_eq_true',decide_eq_true_eq,decide_eq_false_iff_not]
 constructor
 ·intro h
  refine ⟨?_,fun j hj hk=>(h j hj hk).2⟩
  apply Classical.byContradiction
  intro hn
  exact (h 10 (by omega) (by omega)).1 rfl
 ·rintro ⟨h1,h2⟩ j hj hk
  exact ⟨by omega,h2 j hj hk⟩
theorem ev_areRules (xs:List S155) (hn:xs.length≤1048576) (hx:∀ x∈xs,FitQ x):Ev (fun k=>impl_areRules.f k xs) (rulesB xs):=by
 unfold impl_areRules.f
 rw [←implRules_eq]
 refine Kit.ev_every (L:=fun k i=>impl_areRules.l0 k xs xs (xs.length:Int) i) (Ev.step (fun k=>rfl) (Kit.ev_neg (by omega) (Ev.now _))) ?_ ?_
 ·intro i hi hp
  refine Ev.step (fun k=>rfl) (Kit.ev_pos (by omega) (Kit.ev_pos (by omega) (Kit.ev_pos (by omega) ?_)))
  rw [rdR_nat,Int.toNat_natCast]
  have hf:=hx _ (Kit.getD_mem z155 hi)
  unfold implAt ruleAtOK at hp
  rw [ruleAt_take xs i hi] at hp
  refine Kit.ev_if (fun _=>Ev.now _) (fun h0=>?_)
  rw [show decide (i=10)=false from decide_eq_false (by omega),Bool.not_false,Bool.true_and] at hp
  refine Ev.bind (ev_RuleOK _ _ _ (by have:=hf.1;omega) (fun y hy=>by have:=hf.2.2 y hy;omega)) (Kit.ev_if (fun h1=>?_) (fun _=>Ev.now _))
  rw [show ruleOf (xs.getD i z155)=true from h1,Bool.true_and,Bool.not_eq_false'] at hp
  exact Kit.ev_pos (by omega) (Kit.ev_some rfl (Kit.ev_pos (of_decide_eq_true hp) (Ev.now _)))
 ·intro i hi hp r ih
  refine Ev.step (fun k=>rfl) (Kit.ev_pos (by omega) (Kit.ev_pos (by omega) (Kit.ev_pos (by omega) ?_)))
  rw [rdR_nat,Int.toNat_natCast,Kit.wrap_nat hi (by omega)]
  have hf:=hx _ (Kit.getD_mem z155 hi)
  unfold implAt ruleAtOK at hp
  rw [ruleAt_take xs i hi,Bool.and_eq_true,Bool.and_eq_true] at hp
  obtain ⟨h0,h1,h2⟩:=hp
  have h0:¬ i=10:=by simpa using h0
  refine Kit.ev_neg (by omega) (Ev.bind (ev_RuleOK _ _ _ (by have:=hf.1;omega) (fun y hy=>by have:=hf.2.2 y hy;omega)) (Kit.ev_pos h1 ?_))
  have h2:¬ 0≤ruleAtI (xs.take i) (xs.getD i z155).f0 (xs.getD i z155).f1:=by simpa using h2
  exact Kit.ev_pos (by omega) (Kit.ev_some rfl (Kit.ev_neg h2 ih))
theorem any_or2 {α : Type} (p q : α → Bool) (xs:List α):xs.any (fun x=>p x || q x)=(xs.any p || xs.any q):=by
 induction xs with
 | nil=>rfl
 | cons x xs ih=>rw [List.any_cons,List.any_cons,List.any_cons,ih];cases p x <;> cases q x <;> simp
theorem restI_eq (h0 h1:Bool) (allow remove unwrap:List S155) (attrs drop:List ByteArray) (data:Bool):restI h0 h1 allow remove unwrap attrs drop data=if againstB h0 h1 allow remove unwrap attrs drop data=true then 13 else 0:=by
 have hA:unwrap.any (unwrapB allow remove)=(unwrap.any (isIn allow) || unwrap.any (isIn remove)):=any_or2 _ _ _
 have hT:attrsB true attrs=fun x=>x.f2.any fun n=>Kit.hasT attrs n:=rfl
 have hF:attrsB false attrs=hasAttr:=by
  funext x
  unfold attrsB hasAttr
  cases x.f2 with
  | nil=>rfl
  | cons y ys=>simp
 have hI:(allow.any fun x=>x.f2.any fun n=>Kit.hasT attrs n)=true→allow.any hasAttr=true:=by
  intro h
  obtain ⟨x,hx,hy⟩:=List.any_eq_true.1 h
  refine List.any_eq_true.2 ⟨x,hx,?_⟩
  obtain ⟨n,hn,_⟩:=List.any_eq_true.1 hy
  exact decide_eq_true (List.length_pos_of_mem hn)
 unfold restI againstB
 rw [hA]
 cases h1 with
 | true =>
  rw [hT]
  cases contraB h0 true allow remove attrs drop data <;> cases unwrap.any (isIn allow) <;> cases unwrap.any (isIn remove) <;> cases (allow.any fun x=>x.f2.any fun n=>Kit.hasT attrs n) <;> rfl
 | false =>
  rw [hF]
  cases h9:(allow.any fun x=>x.f2.any fun n=>Kit.hasT attrs n) with
  | true=>rw [hI h9];cases contraB h0 false allow remove attrs drop data <;> cases unwrap.any (isIn allow) <;> cases unwrap.any (isIn remove) <;> rfl
  | false=>cases contraB h0 false allow remove attrs drop data <;> cases unwrap.any (isIn allow) <;> cases unwrap.any (isIn remove) <;> cases allow.any hasAttr <;> rfl
/-- A configuration's lists are lists of rules and names. -/
def okB (l2 l3 l4:List S155) (l5 l6:List ByteArray):Bool:=rulesB l2 && (rulesB l3 && !l3.any hasAttr) && (rulesB l4 && !l4.any hasAttr) && namesOK l5 && namesOK l6
def checkI (h0 h1:Bool) (l2 l3 l4:List S155) (l5 l6:List ByteArray) (data:Bool):Int:=if okB l2 l3 l4 l5 l6=true then (if againstB h0 h1 l2 l3 l4 l5 l6 data=true then 13 else 0) else 1
/-- A configuration of the program's kind whose texts are short. -/
def FitC (l2 l3 l4:List S155) (l5 l6:List ByteArray):Prop:=(l2.length≤1048576∧∀ x∈l2,FitQ x)∧(l3.length≤1048576∧∀ x∈l3,FitQ x)∧(l4.length≤1048576∧∀ x∈l4,FitQ x)∧(l5.length≤1048576∧∀ x∈l5,x.size≤1048576)∧(l6.length≤1048576∧∀ x∈l6,x.size≤1048576)
theorem ev_l07Check (h0 h1:Bool) (l2 l3 l4:List S155) (l5 l6:List ByteArray) (cm data:Bool) (hf:FitC l2 l3 l4 l5 l6):Ev (fun k=>spec_l07Check.f k h0 h1 l2 l3 l4 l5 l6 cm data) (checkI h0 h1 l2 l3 l4 l5 l6 data):=by
 obtain ⟨f2,f3,f4,f5,f6⟩:=hf
 have n5:spec_l07Names.f l5=some (namesOK l5):=by rw [spec_l07Names.f,if_pos fun x hx=>by have:=f5.2 x hx;omega]
 have n6:spec_l07Names.f l6=some (namesOK l6):=by rw [spec_l07Names.f,if_pos fun x hx=>by have:=f6.2 x hx;omega]
 unfold spec_l07Check.f checkI okB
 have e2:=ev_l07Rules l2 true f2.2
 have e3:=ev_l07Rules l3 false f3.2
 have e4:=ev_l07Rules l4 false f4.2
 rw [specRules_eq,Bool.true_or,Bool.and_true] at e2
 rw [specRules_eq,Bool.false_or] at e3 e4
 refine Ev.bind e2 (Kit.ev_if (fun h=>?_) (fun h=>?_))
 ·rw [h,Bool.true_and]
  refine Ev.bind e3 (Kit.ev_if (fun h=>?_) (fun h=>?_))
  ·rw [h,Bool.true_and]
   refine Ev.bind e4 (Kit.ev_if (fun h=>?_) (fun h=>?_))
   ·rw [h,Bool.true_and]
    refine Kit.ev_some n5 (Kit.ev_if (fun h=>?_) (fun h=>?_))
    ·rw [h,Bool.true_and]
     refine Kit.ev_some n6 (Kit.ev_if (fun h=>?_) (fun h=>?_))
     ·rw [if_pos h,restI_eq];exact Ev.now _
     ·rw [if_neg h];exact Ev.now _
    ·rw [Bool.eq_false_iff.2 h,Bool.false_and,if_neg Bool.false_ne_true];exact Ev.now _
   ·rw [Bool.eq_false_iff.2 h,Bool.false_and,Bool.false_and,if_neg Bool.false_ne_true];exact Ev.now _
  ·rw [Bool.eq_false_iff.2 h,Bool.false_and,Bool.false_and,Bool.false_and,if_neg Bool.false_ne_true];exact Ev.now _
 ·rw [Bool.eq_false_iff.2 h,Bool.false_and,Bool.false_and,Bool.false_and,Bool.false_and,if_neg Bool.false_ne_true];exact Ev.now _
theorem ev_implCheck (h0 h1:Bool) (l2 l3 l4:List S155) (l5 l6:List ByteArray) (cm data:Bool) (hf:FitC l2 l3 l4 l5 l6):Ev (fun k=>impl_CheckConfig.f k h0 h1 l2 l3 l4 l5 l6 cm data) (checkI h0 h1 l2 l3 l4 l5 l6 data):=by
 obtain ⟨f2,f3,f4,f5,f6⟩:=hf
 have n5:impl_areNames.f l5=some (namesOK l5):=by rw [impl_areNames.f,if_pos fun x hx=>by have:=f5.2 x hx;omega]
 have n6:impl_areNames.f l6=some (namesOK l6):=by rw [impl_areNames.f,if_pos fun x hx=>by have:=f6.2 x hx;omega]
 have e2:=ev_areRules l2 f2.1 f2.2
 have e3:=ev_areRules l3 f3.1 f3.2
 have e4:=ev_areRules l4 f4.1 f4.2
 unfold impl_CheckConfig.f checkI okB
 refine Ev.bind e2 (Kit.ev_if (fun h=>?_) (fun h=>?_))
 ·rw [h,Bool.true_and]
  refine Ev.bind e3 (Kit.ev_if (fun h=>?_) (fun h=>?_))
  ·rw [h,Bool.true_and]
   refine Ev.bind e4 (Kit.ev_if (fun h=>?_) (fun h=>?_))
   ·rw [h,Bool.true_and]
    refine Kit.ev_some (a:=l3.any hasAttr) rfl (Kit.ev_if (fun h=>?_) (fun h=>?_))
    ·rw [h,Bool.not_true,Bool.false_and,Bool.false_and,Bool.false_and,if_neg Bool.false_ne_true];exact Ev.now _
    ·rw [Bool.eq_false_iff.2 h,Bool.not_false,Bool.true_and]
     refine Kit.ev_some (a:=l4.any hasAttr) rfl (Kit.ev_if (fun h=>?_) (fun h=>?_))
     ·rw [h,Bool.not_true,Bool.false_and,Bool.false_and,if_neg Bool.false_ne_true];exact Ev.now _
     ·rw [Bool.eq_false_iff.2 h,Bool.not_false,Bool.true_and]
      refine Kit.ev_some n5 (Kit.ev_if (fun h=>?_) (fun h=>?_))
      ·rw [h,Bool.true_and]
       refine Kit.ev_some n6 (Kit.ev_if (fun h=>?_) (fun h=>?_))
       ·rw [if_pos h]
        refine Kit.ev_some (a:=againstB h0 h1 l2 l3 l4 l5 l6 data) rfl (Kit.ev_if (fun h=>?_) (fun h=>?_))
        ·rw [if_pos h];exact Ev.now _
        ·rw [if_neg h];exact Ev.now _
       ·rw [if_neg h];exact Ev.now _
      ·rw [Bool.eq_false_iff.2 h,Bool.false_and,if_neg Bool.false_ne_true];exact Ev.now _
   ·rw [Bool.eq_false_iff.2 h,Bool.false_and,Bool.and_false,Bool.false_and,Bool.false_and,if_neg Bool.false_ne_true];exact Ev.now _
  ·rw [Bool.eq_false_iff.2 h,Bool.false_and,Bool.false_and,Bool.false_and,Bool.false_and,if_neg Bool.false_ne_true];exact Ev.now _
 ·rw [Bool.eq_false_iff.2 h,Bool.false_and,Bool.false_and,Bool.false_and,Bool.false_and,if_neg Bool.false_ne_true];exact Ev.now _
/- A configuration of laws' kind: its size, its form of the program's kind. -/
theorem ev_szConfig (x:S73) (left:Int) (h0:0≤left) (h1:left≤1048576) (hg:G73 x):∃ t,Ev (fun k=>laws_szConfig.f k x.f0 x.f1 x.f2 x.f3 x.f4 x.f5 x.f6 x.f7 x.f8 left) t∧t≤left∧(0≤t→FitC (x.f2.map toR) (x.f3.map toR) (x.f4.map toR) x.f5 x.f6∧(∀ y∈x.f2,FitR y)∧(∀ y∈x.f3,FitR y)∧∀ y∈x.f4,FitR y):=by
 obtain ⟨_,_,g2,g3,g4,g5,g6,_,_⟩:=hg
 unfold laws_szConfig.f
 have neg:(-1:Int)≤left:=by omega
 obtain ⟨t2,e2,b2,i2⟩:=ev_szRuleS x.f2 left h0 h1 g2
 by_cases n2:t2<0
 ·exact ⟨-1,Ev.bind e2 (Kit.ev_pos n2 (Ev.now _)),neg,fun h=>absurd h (by omega)⟩
 obtain ⟨t3,e3,b3,i3⟩:=ev_szRuleS x.f3 t2 (by omega) (by omega) g3
 by_cases n3:t3<0
 ·exact ⟨-1,Ev.bind e2 (Kit.ev_neg n2 (Ev.bind e3 (Kit.ev_pos n3 (Ev.now _)))),neg,fun h=>absurd h (by omega)⟩
 obtain ⟨t4,e4,b4,i4⟩:=ev_szRuleS x.f4 t3 (by omega) (by omega) g4
 by_cases n4:t4<0
 ·exact ⟨-1,Ev.bind e2 (Kit.ev_neg n2 (Ev.bind e3 (Kit.ev_neg n3 (Ev.bind e4 (Kit.ev_pos n4 (Ev.now _)))))),neg,fun h=>absurd h (by omega)⟩
 obtain ⟨t5,e5,b5,i5⟩:=ev_szStringS x.f5 t4 (by omega) (by omega) g5
 by_cases n5:t5<0
 ·exact ⟨-1,Ev.bind e2 (Kit.ev_neg n2 (Ev.bind e3 (Kit.ev_neg n3 (Ev.bind e4 (Kit.ev_neg n4 (Ev.bind e5 (Kit.ev_pos n5 (Ev.now _)))))))),neg,fun h=>absurd h (by omega)⟩
 obtain ⟨t6,e6,b6,i6⟩:=ev_szStringS x.f6 t5 (by omega) (by omega) g6
 by_cases n6:t6<0
 ·exact ⟨-1,Ev.bind e2 (Kit.ev_neg n2 (Ev.bind e3 (Kit.ev_neg n3 (Ev.bind e4 (Kit.ev_neg n4 (Ev.bind e5 (Kit.ev_neg n5 (Ev.bind e6 (Kit.ev_pos n6 (Ev.now _)))))))))),neg,fun h=>absurd h (by omega)⟩
 refine ⟨t6,Ev.bind e2 (Kit.ev_neg n2 (Ev.bind e3 (Kit.ev_neg n3 (Ev.bind e4 (Kit.ev_neg n4 (Ev.bind e5 (Kit.ev_neg n5 (Ev.bind e6 (Kit.ev_neg n6 (Ev.now _)))))))))),by omega,fun _=>?_⟩
 have i2:=i2 (by omega)
 have i3:=i3 (by omega)
 have i4:=i4 (by omega)
 have i5:=i5 (by omega)
 have i6:=i6 (by omega)
 exact ⟨⟨⟨by rw [List.length_map];exact i2.1,fitQ_map i2.2⟩,⟨by rw [List.length_map];exact i3.1,fitQ_map i3.2⟩,⟨by rw [List.length_map];exact i4.1,fitQ_map i4.2⟩,⟨by have:=i5.1;omega,fun y hy=>by have:=i5.2 y hy;omega⟩,⟨by have:=i6.1;omega,fun y hy=>by have:=i6.2 y hy;omega⟩⟩,i2.2,i3.2,i4.2⟩
theorem ev_toConfig (x:S73) (hf:FitC (x.f2.map toR) (x.f3.map toR) (x.f4.map toR) x.f5 x.f6) (h2:∀ y∈x.f2,FitR y) (h3:∀ y∈x.f3,FitR y) (h4:∀ y∈x.f4,FitR y):Ev (fun k=>laws_toConfig.f k x.f0 x.f1 x.f2 x.f3 x.f4 x.f5 x.f6 x.f7 x.f8) (x.f0,x.f1,x.f2.map toR,x.f3.map toR,x.f4.map toR,x.f5,x.f6,x.f7,x.f8):=by
 obtain ⟨f2,f3,f4,f5,f6⟩:=hf
 rw [List.length_map] at f2 f3 f4
 unfold laws_toConfig.f
 exact Ev.bind (ev_toRuleS _ f2.1 h2) (Ev.bind (ev_toRuleS _ f3.1 h3) (Ev.bind (ev_toRuleS _ f4.1 h4) (Ev.bind (ev_toStringS _ f5.1) (Ev.bind (ev_toStringS _ f6.1) (Ev.now _)))))
theorem ev_eqConfig (h0 h1:Bool) (l2 l3 l4:List S155) (l5 l6:List ByteArray) (cm data:Bool) (hf:FitC l2 l3 l4 l5 l6):Ev (fun k=>laws_eqConfig.f k h0 h1 l2 l3 l4 l5 l6 cm data h0 h1 l2 l3 l4 l5 l6 cm data) true:=by
 obtain ⟨f2,f3,f4,f5,f6⟩:=hf
 have hb:∀ b:Bool,¬ (b != b)=true:=fun b=>by simp
 unfold laws_eqConfig.f
 exact Kit.ev_neg (hb _) (Kit.ev_neg (hb _) (Ev.bind (ev_eqRuleS _ f2.1 f2.2) (Kit.ev_pos rfl (Ev.bind (ev_eqRuleS _ f3.1 f3.2) (Kit.ev_pos rfl (Ev.bind (ev_eqRuleS _ f4.1 f4.2) (Kit.ev_pos rfl (Ev.bind (ev_eqStringS _ f5.1) (Kit.ev_pos rfl (Ev.bind (ev_eqStringS _ f6.1) (Kit.ev_pos rfl (Kit.ev_neg (hb _) (Kit.ev_neg (hb _) (Ev.now _))))))))))))))
theorem andOrder:∀ b0 b1 b2 b3 b4 b5 b6 b7 b8:Bool,(b0 && (b1 && (b2 && (b3 && (b4 && (b5 && (b6 && (b7 && b8))))))))=(b0 && (b1 && (b7 && (b8 && (b2 && (b3 && (b4 && (b5 && b6)))))))):=by decide
theorem same_eq (h0 h1:Bool) (h2 h3 h4:List S155) (h5 h6:List ByteArray) (h7 h8:Bool) (k0 k1:Bool) (k2 k3 k4:List S155) (k5 k6:List ByteArray) (k7 k8:Bool):spec_l07Same.f h0 h1 h2 h3 h4 h5 h6 h7 h8 k0 k1 k2 k3 k4 k5 k6 k7 k8=impl_Config_isSame.f h0 h1 h2 h3 h4 h5 h6 h7 h8 k0 k1 k2 k3 k4 k5 k6 k7 k8:=by
 unfold spec_l07Same.f impl_Config_isSame.f
 rw [andOrder]
theorem proved:laws_FnExactSameConfig.PureS:=by
 intro x y hg hh
 refine Ev.rounds (g:=fun k=>laws_FnExactSameConfig.f k x.f0 x.f1 x.f2 x.f3 x.f4 x.f5 x.f6 x.f7 x.f8 y.f0 y.f1 y.f2 y.f3 y.f4 y.f5 y.f6 y.f7 y.f8) ?_
 unfold laws_FnExactSameConfig.f
 obtain ⟨t,ht,hle,hfit⟩:=ev_szConfig x 1048576 (by omega) (by omega) hg
 by_cases hneg:t<0
 ·exact Ev.bind ht (Kit.ev_pos hneg (Ev.now _))
 ·obtain ⟨u,hu,_,hfit2⟩:=ev_szConfig y t (by omega) (by omega) hh
  by_cases hneg2:u<0
  ·exact Ev.bind ht (Kit.ev_neg hneg (Ev.bind hu (Kit.ev_pos hneg2 (Ev.now _))))
  ·obtain ⟨hf,h2,h3,h4⟩:=hfit (by omega)
   obtain ⟨kf,k2,k3,k4⟩:=hfit2 (by omega)
   have hto:=ev_toConfig x hf h2 h3 h4
   have kto:=ev_toConfig y kf k2 k3 k4
   have heq:=ev_eqConfig x.f0 x.f1 (x.f2.map toR) (x.f3.map toR) (x.f4.map toR) x.f5 x.f6 x.f7 x.f8 hf
   have keq:=ev_eqConfig y.f0 y.f1 (y.f2.map toR) (y.f3.map toR) (y.f4.map toR) y.f5 y.f6 y.f7 y.f8 kf
   generalize x.f2.map toR=l2 at *
   generalize x.f3.map toR=l3 at *
   generalize x.f4.map toR=l4 at *
   generalize y.f2.map toR=m2 at *
   generalize y.f3.map toR=m3 at *
   generalize y.f4.map toR=m4 at *
   have hv:∃ v:Bool,Ev (fun k=>spec_SameConfig.f k x.f0 x.f1 l2 l3 l4 x.f5 x.f6 x.f7 x.f8 y.f0 y.f1 m2 m3 m4 y.f5 y.f6 y.f7 y.f8) v∧Ev (fun k=>impl_SameConfig.f k x.f0 x.f1 l2 l3 l4 x.f5 x.f6 x.f7 x.f8 y.f0 y.f1 m2 m3 m4 y.f5 y.f6 y.f7 y.f8) v:=by
    obtain ⟨S,s⟩:∃ S,impl_Config_isSame.f x.f0 x.f1 l2 l3 l4 x.f5 x.f6 x.f7 x.f8 y.f0 y.f1 m2 m3 m4 y.f5 y.f6 y.f7 y.f8=some S:=⟨_,rfl⟩
    have s2:=(same_eq x.f0 x.f1 l2 l3 l4 x.f5 x.f6 x.f7 x.f8 y.f0 y.f1 m2 m3 m4 y.f5 y.f6 y.f7 y.f8).trans s
    have c1:=ev_l07Check x.f0 x.f1 l2 l3 l4 x.f5 x.f6 x.f7 x.f8 hf
    have c2:=ev_l07Check y.f0 y.f1 m2 m3 m4 y.f5 y.f6 y.f7 y.f8 kf
    have d1:=ev_implCheck x.f0 x.f1 l2 l3 l4 x.f5 x.f6 x.f7 x.f8 hf
    have d2:=ev_implCheck y.f0 y.f1 m2 m3 m4 y.f5 y.f6 y.f7 y.f8 kf
    generalize checkI x.f0 x.f1 l2 l3 l4 x.f5 x.f6 x.f8=I1 at *
    generalize checkI y.f0 y.f1 m2 m3 m4 y.f5 y.f6 y.f8=I2 at *
    unfold spec_SameConfig.f impl_SameConfig.f
    by_cases h1:I1=0
    case neg=>exact ⟨false,Ev.bind c1 (Kit.ev_neg h1 (Ev.now _)),Ev.bind d1 (Kit.ev_neg h1 (Ev.now _))⟩
    case pos =>
     by_cases h2:I2=0
     case neg=>exact ⟨false,Ev.bind c1 (Kit.ev_pos h1 (Ev.bind c2 (Kit.ev_neg h2 (Ev.now _)))),Ev.bind d1 (Kit.ev_pos h1 (Ev.bind d2 (Kit.ev_neg h2 (Ev.now _))))⟩
     case pos=>exact ⟨S,Ev.bind c1 (Kit.ev_pos h1 (Ev.bind c2 (Kit.ev_pos h2 (Kit.ev_some s2 (Ev.now _))))),Ev.bind d1 (Kit.ev_pos h1 (Ev.bind d2 (Kit.ev_pos h2 (Kit.ev_some s (Ev.now _)))))⟩
   obtain ⟨v,hvs,hvi⟩:=hv
   exact Ev.bind ht (Kit.ev_neg hneg (Ev.bind hu (Kit.ev_neg hneg2 (Ev.bind hto (Ev.bind kto (Ev.bind hvs (Ev.bind hto (Ev.bind kto (Ev.bind hvi (Kit.ev_neg (by simp) (Ev.bind hto (Ev.bind heq (Kit.ev_pos rfl (Ev.bind kto (Ev.bind keq (Kit.ev_pos rfl (Ev.now _)))))))))))))))))
end Go.Proofs.Ytophaihdibplkaa.Pure.LSameConfig
namespace Go.Proofs.Ytophaihdibplkaa.Pure
theorem FnExactSameConfig:PFnExactSameConfig.laws_FnExactSameConfig.PureS:=LSameConfig.proved
end Go.Proofs.Ytophaihdibplkaa.Pure
