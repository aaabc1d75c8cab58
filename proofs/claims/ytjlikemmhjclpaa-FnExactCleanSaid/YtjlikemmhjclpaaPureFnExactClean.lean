/- The pure statement of FnExactClean: of every tree both functions tell the same. No conditions. -/
import Derived.Test.YtjlikemmhjclpaaKit
import Derived.Test.YtjlikemmhjclpaaOpensFnExactClean
namespace Go.Proofs.Ytjlikemmhjclpaa.Pure.LClean
open Go.RowKit Go.Proofs.Ytjlikemmhjclpaa.PFnExactClean Go.Proofs.YtjlikemmhjclpaaW.PrintWords
/- Lists of attributes: laws' kind S82, the program's kind S75. -/
def toA (a:S82):S75:=⟨a.f0,a.f1⟩
theorem rdA_nat (xs:List S82) (i:Nat):rd_T82 xs (i:Int)=xs.getD i z82:=by simp [rd_T82]
theorem rdB_nat (xs:List S75) (i:Nat):rd_T75 xs (i:Int)=xs.getD i z75:=by simp [rd_T75]
def szA (a:S82) (l:Int):Int:=if l - (a.f0.size:Int)<0 then -1 else if l - (a.f0.size:Int) - (a.f1.size:Int)<0 then -1 else l - (a.f0.size:Int) - (a.f1.size:Int)
/-- An attribute whose texts are short. -/
def FitA (a:S82):Prop:=a.f0.size≤1048576∧a.f1.size≤1048576
theorem szAttr_eq (a:S82) (l:Int) (h0:0≤l) (h1:l≤1048576) (hg:G82 a):laws_szAttr.f a.f0 a.f1 l=some (szA a l):=by
 have s0:a.f0.size≤9223372036854775807:=hg.1
 have s1:a.f1.size≤9223372036854775807:=hg.2
 unfold laws_szAttr.f szA
 have hw:wrap64 (l - (a.f0.size:Int))=l - (a.f0.size:Int):=Kit.wrap_of (by omega) (by omega)
 rw [hw]
 by_cases h:l - (a.f0.size:Int)<0
 ·rw [if_pos h,if_pos h]
 ·rw [if_neg h,if_neg h]
  have hw2:wrap64 (l - (a.f0.size:Int) - (a.f1.size:Int))=l - (a.f0.size:Int) - (a.f1.size:Int):=Kit.wrap_of (by omega) (by omega)
  rw [hw2]
  by_cases h2:l - (a.f0.size:Int) - (a.f1.size:Int)<0
  ·rw [if_pos h2,if_pos h2]
  ·rw [if_neg h2,if_neg h2]
theorem szA_fit (a:S82) (l:Int) (h0:0≤l) (h1:l≤1048576):szA a l≤l∧(0≤szA a l→FitA a):=by
 unfold szA FitA
 by_cases h:l - (a.f0.size:Int)<0
 ·rw [if_pos h];exact ⟨by omega,fun h=>absurd h (by omega)⟩
 ·rw [if_neg h]
  by_cases h2:l - (a.f0.size:Int) - (a.f1.size:Int)<0
  ·rw [if_pos h2];exact ⟨by omega,fun h=>absurd h (by omega)⟩
  ·rw [if_neg h2];exact ⟨by omega,fun _=>⟨by omega,by omega⟩⟩
theorem ev_szAttrS (xs:List S82) (left:Int) (h0:0≤left) (h1:left≤1048576) (hx:Open.Few G82 xs) :
 ∃ t,Ev (fun k=>laws_szAttrS.f k xs left) t∧t≤left∧(0≤t→xs.length≤1048576∧∀ x∈xs,FitA x):=by
 have hn:=hx.1
 have hw:wrap64 (left - (xs.length:Int))=left - (xs.length:Int):=Kit.wrap_of (by omega) (by omega)
 unfold laws_szAttrS.f
 rw [hw]
 by_cases hneg:left - (xs.length:Int)<0
 ·exact ⟨-1,Kit.ev_pos hneg (Ev.now _),by omega,fun h=>absurd h (by omega)⟩
 ·obtain ⟨t,ht,htl,hg⟩:=Kit.ev_size z82 (xs:=xs) (P:=FitA) (E:=szA) (L:=fun k l i=>laws_szAttrS.l0 k xs l i) (fun a _ l a0 a1=>szA_fit a l a0 a1)
   (fun l=>Ev.step (fun k=>rfl) (Kit.ev_neg (by omega) (Ev.now _)))
   (fun i hi l a0 a1 hE=>Ev.step (fun k=>rfl) (Kit.ev_pos (by omega) (Kit.ev_pos (by omega) (by rw [rdA_nat];exact Kit.ev_some (szAttr_eq _ l a0 a1 (hx.2 _ (Kit.getD_mem _ hi))) (Kit.ev_pos hE (Ev.now _))))))
   (fun i hi l r a0 a1 hE ih=>Ev.step (fun k=>rfl) (Kit.ev_pos (by omega) (Kit.ev_pos (by omega) (by rw [rdA_nat,Kit.wrap_nat hi (by omega)];exact Kit.ev_some (szAttr_eq _ l a0 a1 (hx.2 _ (Kit.getD_mem _ hi))) (Kit.ev_neg (by omega) ih)))))
   (left - (xs.length:Int)) (by omega) (by omega)
  exact ⟨t,Kit.ev_neg hneg ht,by omega,fun h=>⟨by omega,hg h⟩⟩
theorem ev_toAttrS (xs:List S82) (hn:xs.length≤1048576):Ev (fun k=>laws_toAttrS.f k xs) (xs.map toA):=by
 unfold laws_toAttrS.f
 refine Kit.ev_pos (by omega) (Kit.ev_pos (by omega) ?_)
 rw [Int.toNat_natCast]
 refine Kit.ev_conv z82 (L:=fun k acc i=>laws_toAttrS.l0 k xs acc i) (fun acc hl=>Ev.step (fun k=>rfl) (Kit.ev_neg (by omega) (Ev.now _))) ?_ _ (by rw [List.length_replicate])
 intro i hi acc r hl ih
 refine Ev.step (fun k=>rfl) (Kit.ev_pos (by omega) (Kit.ev_pos (by omega) ?_))
 rw [rdA_nat,Kit.wrap_nat hi (by omega),Int.toNat_natCast]
 exact Kit.ev_some rfl (Kit.ev_pos (by omega) ih)
theorem ev_eqAttrS (xs:List S75) (hn:xs.length≤1048576):Ev (fun k=>laws_eqAttrS.f k xs xs) true:=by
 unfold laws_eqAttrS.f
 refine Kit.ev_pos rfl (Kit.ev_refl (n:=xs.length) (L:=fun k i=>laws_eqAttrS.l0 k xs xs i) (Ev.step (fun k=>rfl) (Kit.ev_neg (by omega) (Ev.now _))) ?_)
 intro i hi ih
 refine Ev.step (fun k=>rfl) (Kit.ev_pos (by omega) (Kit.ev_pos (by omega) (Kit.ev_pos (by omega) ?_)))
 rw [Kit.wrap_nat hi (by omega)]
 refine Kit.ev_some (a:=true) ?_ (Kit.ev_pos rfl ih)
 unfold laws_eqAttr.f
 rw [if_pos rfl,if_pos rfl]
/- Trees: laws' kind S40, the program's kind S44. -/
theorem rdLN_nat (xs:List S40) (i:Nat):rd_T40 xs (i:Int)=xs.getD i z40:=by simp [rd_T40]
theorem rdN_nat (xs:List S44) (i:Nat):rd_T44 xs (i:Int)=xs.getD i z44:=by simp [rd_T44]
theorem all_getD {α : Type} {P : α → Prop} (d : α) {xs:List α} (h:∀ j,j<xs.length→P (xs.getD j d)):∀ y∈xs,P y:=by
 intro y hy
 obtain ⟨j,hj,rfl⟩:=List.getElem_of_mem hy
 have:=h j hj
 rwa [List.getD_eq_getElem?_getD,List.getElem?_eq_getElem hj] at this
/-- A node whose texts are short. -/
inductive FitL:S40→Prop
 | mk (x:S40) (h2:x.f2.size≤1048576) (h3:x.f3.size≤1048576) (h4:x.f4.length≤1048576∧∀ a∈x.f4,FitA a) (h5:x.f5.length≤1048576) (hk:∀ y∈x.f5,FitL y):FitL x
theorem ex_szNodeS (xs:List S40) (hn:xs.length≤9223372036854775807) (hx:∀ y∈xs,∀ l:Int,0≤l→l≤1048576→∃ t,Ev (fun k=>laws_szNode.f k y.f0 y.f1 y.f2 y.f3 y.f4 y.f5 l) t∧t≤l∧(0≤t→FitL y)) (left:Int) (h0:0≤left) (h1:left≤1048576) :
 ∃ t,Ev (fun k=>laws_szNodeS.f k xs left) t∧t≤left∧(0≤t→xs.length≤1048576∧∀ y∈xs,FitL y):=by
 have hw:wrap64 (left - (xs.length:Int))=left - (xs.length:Int):=Kit.wrap_of (by omega) (by omega)
 have he:∀ k,laws_szNodeS.f (k+1) xs left=if left - (xs.length:Int)<0 then (some (-1)) else (laws_szNodeS.l0 k xs (left - (xs.length:Int)) 0):=fun k=>by rw [laws_szNodeS.f,hw]
 by_cases hneg:left - (xs.length:Int)<0
 case pos=>exact ⟨-1,Ev.step he (Kit.ev_pos hneg (Ev.now _)),by omega,fun h=>absurd h (by omega)⟩
 case neg =>
  have key:∀ i,i≤xs.length→∀ l:Int,0≤l→l≤1048576→∃ t,Ev (fun k=>laws_szNodeS.l0 k xs l i) t∧t≤l∧(0≤t→∀ j,i≤j→j<xs.length→FitL (xs.getD j z40)):=by
   refine Kit.down ?_ ?_
   case refine_1 =>
    intro l a0 a1
    exact ⟨l,Ev.step (fun k=>rfl) (Kit.ev_neg (by omega) (Ev.now _)),Int.le_refl _,fun _ j h1 h2=>absurd h2 (by omega)⟩
   case refine_2 =>
    intro i hi ih l a0 a1
    obtain ⟨t,ht,htl,htf⟩:=hx (xs.getD i z40) (Kit.getD_mem _ hi) l a0 a1
    by_cases hn2:t<0
    case pos =>
     refine ⟨-1,Ev.step (fun k=>rfl) (Kit.ev_pos (by omega) (Kit.ev_pos (by omega) ?_)),by omega,fun h=>absurd h (by omega)⟩
     rw [rdLN_nat]
     exact Ev.bind ht (Kit.ev_pos hn2 (Ev.now _))
    case neg =>
     obtain ⟨u,hu,hul,huf⟩:=ih t (by omega) (by omega)
     refine ⟨u,Ev.step (fun k=>rfl) (Kit.ev_pos (by omega) (Kit.ev_pos (by omega) ?_)),by omega,fun h j h1 h2=>?_⟩
     case refine_1 =>
      rw [rdLN_nat,Kit.wrap_nat hi hn]
      exact Ev.bind ht (Kit.ev_neg hn2 hu)
     case refine_2 =>
      by_cases e:j=i
      case pos=>subst e;exact htf (by omega)
      case neg=>exact huf h j (by omega) h2
  obtain ⟨t,ht,htl,htf⟩:=key 0 (by omega) (left - (xs.length:Int)) (by omega) (by omega)
  exact ⟨t,Ev.step he (Kit.ev_neg hneg ht),by omega,fun h=>⟨by omega,all_getD z40 fun j hj=>htf h j (Nat.zero_le _) hj⟩⟩
theorem ex_szNode (x:S40) (hg:G40 x):∀ l:Int,0≤l→l≤1048576→∃ t,Ev (fun k=>laws_szNode.f k x.f0 x.f1 x.f2 x.f3 x.f4 x.f5 l) t∧t≤l∧(0≤t→FitL x):=by
 induction hg with
 | mk x g0 g1 g2 g3 g4 g5 gk ih =>
  intro l h0 h1
  unfold Open.Short at g2 g3
  have w2:wrap64 (l - (x.f2.size:Int))=l - (x.f2.size:Int):=Kit.wrap_of (by omega) (by omega)
  have he:∀ k,laws_szNode.f (k+1) x.f0 x.f1 x.f2 x.f3 x.f4 x.f5 l=if l - (x.f2.size:Int)<0 then (some (-1)) else (if (wrap64 (l - (x.f2.size:Int) - (x.f3.size:Int)))<0 then (some (-1)) else ((laws_szAttrS.f k x.f4 (wrap64 (l - (x.f2.size:Int) - (x.f3.size:Int)))).bind fun t105=>(if t105<0 then (some (-1)) else ((laws_szNodeS.f k x.f5 t105).bind fun t106=>(if t106<0 then (some (-1)) else (some t106)))))):=fun k=>by rw [laws_szNode.f,w2]
  by_cases n2:l - (x.f2.size:Int)<0
  case pos=>exact ⟨-1,Ev.step he (Kit.ev_pos n2 (Ev.now _)),by omega,fun h=>absurd h (by omega)⟩
  case neg =>
   have w3:wrap64 (l - (x.f2.size:Int) - (x.f3.size:Int))=l - (x.f2.size:Int) - (x.f3.size:Int):=Kit.wrap_of (by omega) (by omega)
   rw [w3] at he
   by_cases n3:l - (x.f2.size:Int) - (x.f3.size:Int)<0
   case pos=>exact ⟨-1,Ev.step he (Kit.ev_neg n2 (Kit.ev_pos n3 (Ev.now _))),by omega,fun h=>absurd h (by omega)⟩
   case neg =>
    obtain ⟨t,ht,htl,htf⟩:=ev_szAttrS x.f4 (l - (x.f2.size:Int) - (x.f3.size:Int)) (by omega) (by omega) g4
    by_cases n4:t<0
    case pos=>exact ⟨-1,Ev.step he (Kit.ev_neg n2 (Kit.ev_neg n3 (Ev.bind ht (Kit.ev_pos n4 (Ev.now _))))),by omega,fun h=>absurd h (by omega)⟩
    case neg =>
     obtain ⟨u,hu,hul,huf⟩:=ex_szNodeS x.f5 g5 ih t (by omega) (by omega)
     by_cases n5:u<0
     case pos=>exact ⟨-1,Ev.step he (Kit.ev_neg n2 (Kit.ev_neg n3 (Ev.bind ht (Kit.ev_neg n4 (Ev.bind hu (Kit.ev_pos n5 (Ev.now _))))))),by omega,fun h=>absurd h (by omega)⟩
     case neg=>exact ⟨u,Ev.step he (Kit.ev_neg n2 (Kit.ev_neg n3 (Ev.bind ht (Kit.ev_neg n4 (Ev.bind hu (Kit.ev_neg n5 (Ev.now _))))))),by omega,fun h=>.mk x (by omega) (by omega) (htf (by omega)) (huf h).1 (huf h).2⟩
/-- A node of the program's kind whose texts are short. -/
inductive FitP:S44→Prop
 | mk (x:S44) (h2:x.f2.size≤1048576) (h3:x.f3.size≤1048576) (h4:x.f4.length≤1048576∧∀ a∈x.f4,a.f0.size≤1048576∧a.f1.size≤1048576) (h5:x.f5.length≤1048576) (hk:∀ y∈x.f5,FitP y):FitP x
theorem ex_toNodeS (xs:List S40) (hn:xs.length≤1048576) (hx:∀ y∈xs,∃ v:S44,Ev (fun k=>laws_toNode.f k y.f0 y.f1 y.f2 y.f3 y.f4 y.f5) (v.f0,v.f1,v.f2,v.f3,v.f4,v.f5)∧FitP v):∃ ys:List S44,Ev (fun k=>laws_toNodeS.f k xs) ys∧ys.length=xs.length∧∀ y∈ys,FitP y:=by
 have key:∀ i,i≤xs.length→∀ acc:List S44,acc.length=xs.length→(∀ j,j<i→FitP (acc.getD j z44))→∃ ys:List S44,Ev (fun k=>laws_toNodeS.l0 k xs acc i) ys∧ys.length=xs.length∧∀ y∈ys,FitP y:=by
  refine Kit.down ?_ ?_
  case refine_1 =>
   intro acc hl hb
   exact ⟨acc,Ev.step (fun k=>rfl) (Kit.ev_neg (by omega) (Ev.now _)),hl,all_getD z44 fun j hj=>hb j (by omega)⟩
  case refine_2 =>
   intro i hi ih acc hl hb
   obtain ⟨v,hv,hf⟩:=hx (xs.getD i z40) (Kit.getD_mem _ hi)
   obtain ⟨ys,hy,hyl,hyf⟩:=ih (acc.set i v) (by rw [List.length_set];exact hl) (fun j hj=>by
    rw [List.getD_eq_getElem?_getD,List.getElem?_set]
    by_cases e:i=j
    case pos=>subst e;rw [if_pos rfl,if_pos (by omega)];exact hf
    case neg=>rw [if_neg e,←List.getD_eq_getElem?_getD];exact hb j (by omega))
   refine ⟨ys,Ev.step (fun k=>rfl) (Kit.ev_pos (by omega) (Kit.ev_pos (by omega) ?_)),hyl,hyf⟩
   rw [rdLN_nat,Kit.wrap_nat hi (by omega),Int.toNat_natCast]
   cases v with
   | mk v0 v1 v2 v3 v4 v5=>exact Ev.bind hv (Kit.ev_pos (by omega) hy)
 obtain ⟨ys,hy,hyl,hyf⟩:=key 0 (by omega) (List.replicate xs.length z44) (List.length_replicate) (fun j hj=>absurd hj (Nat.not_lt_zero _))
 have he:∀ k,laws_toNodeS.f (k+1) xs=laws_toNodeS.l0 k xs (List.replicate xs.length z44) 0:=fun k=>by rw [laws_toNodeS.f,if_pos (by omega),if_pos (by omega),Int.toNat_natCast]
 exact ⟨ys,Ev.step he hy,hyl,hyf⟩
theorem ex_toNode (x:S40) (hf:FitL x):∃ v:S44,Ev (fun k=>laws_toNode.f k x.f0 x.f1 x.f2 x.f3 x.f4 x.f5) (v.f0,v.f1,v.f2,v.f3,v.f4,v.f5)∧FitP v:=by
 induction hf with
 | mk x h2 h3 h4 h5 hk ih =>
  obtain ⟨ys,hy,hyl,hyf⟩:=ex_toNodeS x.f5 h5 ih
  refine ⟨⟨x.f0,x.f1,x.f2,x.f3,x.f4.map toA,ys⟩,Ev.step (fun k=>rfl) (Ev.bind (ev_toAttrS x.f4 h4.1) (Ev.bind hy (Ev.now _))),.mk _ h2 h3 ⟨?_,?_⟩ ?_ hyf⟩
  case refine_1=>rw [List.length_map];exact h4.1
  case refine_2 =>
   intro a ha
   obtain ⟨b,hb,rfl⟩:=List.mem_map.1 ha
   exact h4.2 b hb
  case refine_3=>show ys.length≤_;omega
theorem ev_eqNodeS_of (xs:List S44) (hn:xs.length≤1048576) (hx:∀ y∈xs,Ev (fun k=>laws_eqNode.f k y.f0 y.f1 y.f2 y.f3 y.f4 y.f5 y.f0 y.f1 y.f2 y.f3 y.f4 y.f5) true):Ev (fun k=>laws_eqNodeS.f k xs xs) true:=by
 refine Ev.step (fun k=>rfl) (Kit.ev_pos rfl (Kit.ev_refl (n:=xs.length) (L:=fun k i=>laws_eqNodeS.l0 k xs xs i) (Ev.step (fun k=>rfl) (Kit.ev_neg (by omega) (Ev.now _))) ?_))
 intro i hi ih
 refine Ev.step (fun k=>rfl) (Kit.ev_pos (by omega) (Kit.ev_pos (by omega) (Kit.ev_pos (by omega) ?_)))
 rw [rdN_nat,Kit.wrap_nat hi (by omega)]
 exact Ev.bind (hx _ (Kit.getD_mem _ hi)) (Kit.ev_pos rfl ih)
theorem ev_eqNode (x:S44) (hf:FitP x):Ev (fun k=>laws_eqNode.f k x.f0 x.f1 x.f2 x.f3 x.f4 x.f5 x.f0 x.f1 x.f2 x.f3 x.f4 x.f5) true:=by
 induction hf with
 | mk x h2 h3 h4 h5 hk ih=>exact Ev.step (fun k=>rfl) (Kit.ev_pos rfl (Kit.ev_pos rfl (Kit.ev_pos rfl (Kit.ev_pos rfl (Ev.bind (ev_eqAttrS x.f4 h4.1) (Kit.ev_pos rfl (Ev.bind (ev_eqNodeS_of x.f5 h5 ih) (Kit.ev_pos rfl (Ev.now _)))))))))
/-- The argument of a law over a tree: its size, its form of the program's kind, which is like itself. -/
theorem ex_tree (xs:List S40) (hx:Open.Few G40 xs) (left:Int) (h0:0≤left) (h1:left≤1048576):∃ t,Ev (fun k=>laws_szNodeS.f k xs left) t∧t≤left∧(0≤t→∃ ys:List S44,Ev (fun k=>laws_toNodeS.f k xs) ys∧ys.length≤1048576∧(∀ y∈ys,FitP y)∧Ev (fun k=>laws_eqNodeS.f k ys ys) true):=by
 obtain ⟨t,ht,htl,htf⟩:=ex_szNodeS xs hx.1 (fun y hy=>ex_szNode y (hx.2 y hy)) left h0 h1
 refine ⟨t,ht,htl,fun h=>?_⟩
 obtain ⟨hl,hf⟩:=htf h
 obtain ⟨ys,hy,hyl,hyf⟩:=ex_toNodeS xs hl (fun y hy=>ex_toNode y (hf y hy))
 exact ⟨ys,hy,by omega,hyf,ev_eqNodeS_of ys (by omega) (fun y hy=>ev_eqNode y (hyf y hy))⟩
theorem fitB_of (x:S44) (h:FitP x):∀ n,fitB n x=true:=by
 induction h with
 | mk x h2 h3 h4 h5 hk ih =>
  intro n
  cases n with
  | zero=>rfl
  | succ n =>
   rw [fitB,Bool.and_eq_true,Bool.and_eq_true,List.all_eq_true,List.all_eq_true]
   exact ⟨⟨decide_eq_true (by omega),fun a ha=>decide_eq_true (by have:=(h4.2 a ha).1;omega)⟩,fun y hy=>ih y hy n⟩
/- What a tree is. -/
theorem rdA2_nat (xs:List S75) (i:Nat):rd_T75 xs (i:Int)=xs.getD i z75:=by simp [rd_T75]
theorem ev_l03Attrs (l:List S75) (hs:∀ a∈l,a.f0.size≤9223372036854775807) (hn:l.length≤9223372036854775807):Ev (fun k=>spec_l03Attrs.f k l) (attrsOK l):=by
 unfold spec_l03Attrs.f
 refine Kit.ev_if (fun h=>?_) (fun h=>?_)
 case refine_1 =>
  have:attrsOK l=false:=by unfold attrsOK;rw [decide_eq_false (by omega),Bool.and_false]
  rw [this]
  exact Ev.now _
 case refine_2 =>
  have key:∀ i,i≤l.length→(∀ j,j<i→attrAt l j=true)→Ev (fun k=>spec_l03Attrs.l0 k l i) (attrsOK l):=by
   refine Kit.down ?_ ?_
   case refine_1 =>
    intro hb
    have:attrsOK l=true:=by unfold attrsOK;rw [(Kit.allB_iff _ _ _).2 fun j _ hj=>hb j hj,decide_eq_true (by omega)];rfl
    rw [this]
    exact Ev.step (fun k=>rfl) (Kit.ev_neg (by omega) (Ev.now _))
   case refine_2 =>
    intro i hi ih hb
    have no:attrAt l i=false→attrsOK l=false:=by
     intro h2
     unfold attrsOK
     rw [Bool.and_eq_false_iff]
     refine .inl (Bool.eq_false_iff.2 fun h3=>?_)
     rw [(Kit.allB_iff _ _ _).1 h3 i (Nat.zero_le _) hi] at h2
     cases h2
    refine Ev.step (fun k=>rfl) (Kit.ev_pos (by omega) (Kit.ev_pos (by omega) ?_))
    rw [rdA2_nat]
    have ht:=ev_tag_spec (l.getD i z75).f0 (hs _ (Kit.getD_mem _ hi))
    have hj:∀ (b:Bool) (k:Nat),spec_l03Attrs.j1 (k+1) l i b=if b=true then (some false) else (spec_l03Attrs.l1 k l i 0):=fun b k=>by rw [spec_l03Attrs.j1]
    have hat:attrAt l i=((Kit.isTag (l.getD i z75).f0 && decide ((l.getD i z75).f1.size≤40)) && !Mach.anyP (nameAs l i) i):=rfl
    refine Ev.bind ht ?_
    cases hb1:Kit.isTag (l.getD i z75).f0 with
    | false =>
     rw [no (by rw [hat,hb1,Bool.false_and,Bool.false_and])]
     exact Kit.ev_neg Bool.false_ne_true (Ev.step (hj true) (Kit.ev_pos rfl (Ev.now _)))
    | true =>
     refine Kit.ev_pos rfl (Ev.step (hj _) ?_)
     by_cases hv:((l.getD i z75).f1.size:Int)>40
     case pos =>
      rw [no (by rw [hat,decide_eq_false (by omega),Bool.and_false,Bool.false_and])]
      exact Kit.ev_pos (decide_eq_true hv) (Ev.now _)
     case neg =>
      refine Kit.ev_neg (by simpa using hv) ?_
      have key2:∀ m,m≤i→(∀ j,j<m→nameAs l i j=false)→Ev (fun k=>spec_l03Attrs.l1 k l i m) (attrsOK l):=by
       refine Kit.down ?_ ?_
       case refine_1 =>
        intro hc
        refine Ev.step (fun k=>rfl) (Kit.ev_neg (by omega) ?_)
        rw [Kit.wrap_nat hi hn]
        refine ih fun j hj=>?_
        by_cases e:j=i
        case pos =>
         subst e
         have:Mach.anyP (nameAs l j) j=false:=Bool.eq_false_iff.2 fun h5=>by
          obtain ⟨q,hq,h6⟩:=(Mach.anyP_iff _ _).1 h5
          rw [hc q hq] at h6
          cases h6
         rw [hat,hb1,this,decide_eq_true (by omega)]
         rfl
        case neg=>exact hb j (by omega)
       case refine_2 =>
        intro m hm ih2 hc
        refine Ev.step (fun k=>rfl) (Kit.ev_pos (by omega) (Kit.ev_pos (by omega) (Kit.ev_pos (by omega) (Kit.ev_pos (by omega) (Kit.ev_pos (by omega) ?_)))))
        rw [rdA2_nat,rdA2_nat,Kit.wrap_nat hm (by omega)]
        refine Kit.ev_if (fun h7=>?_) (fun h7=>?_)
        case refine_1 =>
         have:Mach.anyP (nameAs l i) i=true:=(Mach.anyP_iff _ _).2 ⟨m,hm,beq_iff_eq.2 h7⟩
         rw [no (by rw [hat,this,Bool.not_true,Bool.and_false])]
         exact Ev.now _
        case refine_2 =>
         refine ih2 fun j hj=>?_
         by_cases e:j=m
         case pos=>subst e;exact beq_eq_false_iff_ne.2 h7
         case neg=>exact hc j (by omega)
      exact key2 0 (by omega) (fun j hj=>absurd hj (Nat.not_lt_zero _))
  exact key 0 (by omega) (fun j hj=>absurd hj (Nat.not_lt_zero _))
theorem l01In_now (n a b:Int):spec_l01In.f n a b=some (decide (a≤n∧n≤b)):=by
 unfold spec_l01In.f
 by_cases h:n≥a
 case pos=>rw [if_pos h];simp [h]
 case neg=>rw [if_neg h];simp;omega
theorem ev_l03Plain (x:S44) (hs:x.f2.size≤9223372036854775807) (ha:∀ a∈x.f4,a.f0.size≤9223372036854775807) (hn:x.f4.length≤9223372036854775807):Ev (fun k=>spec_l03Plain.f k x.f0 x.f1 x.f2 x.f3 x.f4 x.f5) (ownB x):=by
 unfold spec_l03Plain.f ownB
 have he:Ev (fun _=>if (x.f4.length:Int)=0 then (some ((x.f5.length:Int) == 0)) else (some false)) (if (x.f4.length:Int)=0 then ((x.f5.length:Int) == 0) else false):=by
  refine Kit.ev_if (fun h=>?_) (fun h=>?_)
  case refine_1=>rw [if_pos h];exact Ev.now _
  case refine_2=>rw [if_neg h];exact Ev.now _
 have no1:∀ b:Bool,x.f2.toList≠([]:List UInt8)→(b && emptyB x)=false:=fun b h=>by
  unfold emptyB
  by_cases h1:x.f1=0
  case pos=>rw [if_pos h1,if_neg h,Bool.and_false]
  case neg=>rw [if_neg h1,Bool.and_false]
 have no2:∀ b:Bool,x.f1≠0→(b && emptyB x)=false:=fun b h=>by
  unfold emptyB
  rw [if_neg h,Bool.and_false]
 refine Kit.ev_if (fun h=>?_) (fun h=>?_)
 case refine_1 =>
  rw [if_pos h]
  have ht:=ev_tag_spec x.f2 hs
  have hat:=ev_l03Attrs x.f4 ha hn
  generalize Kit.isTag x.f2=b1 at *
  generalize attrsOK x.f4=b3 at *
  refine Ev.bind ht ?_
  cases b1 with
  | false=>exact Kit.ev_neg Bool.false_ne_true (Ev.now _)
  | true =>
   refine Kit.ev_pos rfl (Kit.ev_some (l01In_now _ _ _) ?_)
   generalize decide (0≤x.f1∧x.f1≤2)=b2
   cases b2 with
   | false=>exact Kit.ev_neg Bool.false_ne_true (Ev.now _)
   | true =>
    refine Kit.ev_pos rfl (Kit.ev_if (fun h2=>?_) (fun h2=>?_))
    case refine_1 =>
     rw [beq_iff_eq.2 h2,Bool.and_true]
     exact Ev.bind hat (Ev.now _)
    case refine_2 =>
     rw [beq_eq_false_iff_ne.2 h2,Bool.and_false]
     exact Ev.now _
 case refine_2 =>
  rw [if_neg h]
  refine Kit.ev_if (fun h2=>?_) (fun h2=>?_)
  case refine_1 =>
   rw [if_pos h2]
   refine Kit.ev_if (fun e1=>?_) (fun e1=>?_)
   case refine_2=>rw [no1 _ e1];exact Ev.now _
   case refine_1 =>
    refine Kit.ev_if (fun e2=>?_) (fun e2=>?_)
    case refine_2=>rw [no2 _ e2];exact Ev.now _
    case refine_1 =>
     unfold emptyB
     rw [if_pos e2,if_pos e1]
     refine Kit.ev_some (l01In_now _ _ _) ?_
     generalize decide (1≤(x.f3.size:Int)∧(x.f3.size:Int)≤120)=b
     cases b with
     | false=>exact Kit.ev_neg Bool.false_ne_true (Ev.now _)
     | true=>exact Kit.ev_pos rfl he
  case refine_2 =>
   rw [if_neg h2]
   refine Kit.ev_if (fun h3=>?_) (fun h3=>?_)
   case refine_2=>rw [if_neg h3];exact Ev.now _
   case refine_1 =>
    rw [if_pos h3]
    refine Kit.ev_if (fun e1=>?_) (fun e1=>?_)
    case refine_2=>rw [no1 _ e1];exact Ev.now _
    case refine_1 =>
     refine Kit.ev_if (fun e2=>?_) (fun e2=>?_)
     case refine_2=>rw [no2 _ e2];exact Ev.now _
     case refine_1 =>
      unfold emptyB
      rw [if_pos e2,if_pos e1]
      refine Kit.ev_if (fun e3=>?_) (fun e3=>?_)
      case refine_1 =>
       rw [decide_eq_true (by omega)]
       exact he
      case refine_2 =>
       rw [decide_eq_false (by omega)]
       exact Ev.now _
theorem ev_l01Void (a:ByteArray):Ev (fun k=>spec_l01Void.f k a) (Kit.hasT voidL a):=Ev.bind (ev_l01Has _ a (by decide)) (Ev.now _)
theorem ev_l01Raw (a:ByteArray):Ev (fun k=>spec_l01Raw.f k a) (Kit.hasT rawL a):=Ev.bind (ev_l01Has _ a (by decide)) (Ev.now _)
theorem any_getD {α : Type} (p : α → Bool) (d : α) (xs:List α) (h:∀ j,j<xs.length→p (xs.getD j d)=false):xs.any p=false:=by
 refine Bool.eq_false_iff.2 fun h2=>?_
 obtain ⟨y,hy,h3⟩:=List.any_eq_true.1 h2
 rw [all_getD (P:=fun y=>p y=false) d h y hy] at h3
 cases h3
theorem ev_l03Holds (x:S44) (hn:x.f5.length≤9223372036854775807):Ev (fun k=>spec_l03Holds.f k x.f0 x.f1 x.f2 x.f3 x.f4 x.f5) (!voidFull x && !rawBad x):=by
 have yes:voidB x=false→rawB x=false→(!voidFull x && !rawBad x)=true:=fun h1 h2=>by unfold voidFull rawBad;rw [h1,h2];rfl
 have hj:∀ (b:Bool) (k:Nat),spec_l03Holds.j0 (k+1) b x.f0 x.f1 x.f2 x.f3 x.f4 x.f5=if b=true then (some true) else ((spec_l01Void.f k x.f2).bind fun t132=>(if t132=true then (some ((x.f5.length:Int) == 0)) else (spec_l03Holds.l0 k 0 x.f0 x.f1 x.f2 x.f3 x.f4 x.f5))):=fun b k=>by rw [spec_l03Holds.j0]
 unfold spec_l03Holds.f
 refine Kit.ev_if (fun h=>?_) (fun h=>?_)
 case refine_2 =>
  rw [yes (by unfold voidB;rw [if_neg h]) (by unfold rawB;rw [if_neg h])]
  exact Ev.step (hj true) (Kit.ev_pos rfl (Ev.now _))
 case refine_1 =>
  by_cases h1:x.f1=0
  case neg =>
   rw [yes (by unfold voidB;rw [if_pos h,if_neg h1]) (by unfold rawB;rw [if_pos h,if_neg h1])]
   exact Ev.step (hj _) (Kit.ev_pos (by simpa using h1) (Ev.now _))
  case pos =>
   have hv:voidB x=Kit.hasT voidL x.f2:=by unfold voidB;rw [if_pos h,if_pos h1]
   have hr:rawB x=Kit.hasT rawL x.f2:=by unfold rawB;rw [if_pos h,if_pos h1]
   refine Ev.step (hj _) (Kit.ev_neg (by simp [h1]) (Ev.bind (ev_l01Void x.f2) ?_))
   unfold voidFull rawBad
   rw [hv,hr]
   have rv:=ev_l01Raw x.f2
   cases Kit.hasT voidL x.f2 with
   | true =>
    refine Kit.ev_pos rfl ?_
    by_cases hz:x.f5=[]
    case pos =>
     rw [hz]
     have:(!(true && decide (0<([]:List S44).length)) && !(Kit.hasT rawL x.f2 && ([]:List S44).any noText))=true:=by simp
     rw [this]
     exact Ev.now _
    case neg =>
     have hl:0<x.f5.length:=List.length_pos_iff.2 hz
     rw [decide_eq_true hl]
     have:((x.f5.length:Int) == 0)=false:=beq_eq_false_iff_ne.2 (by omega)
     rw [this]
     exact Ev.now _
   | false =>
    refine Kit.ev_neg Bool.false_ne_true ?_
    rw [Bool.false_and,Bool.not_false,Bool.true_and]
    have key:∀ i,i≤x.f5.length→(Kit.hasT rawL x.f2=true→∀ j,j<i→noText (x.f5.getD j z44)=false)→Ev (fun k=>spec_l03Holds.l0 k i x.f0 x.f1 x.f2 x.f3 x.f4 x.f5) (!(Kit.hasT rawL x.f2 && x.f5.any noText)):=by
     refine Kit.down ?_ ?_
     case refine_1 =>
      intro hb
      have:(!(Kit.hasT rawL x.f2 && x.f5.any noText))=true:=by
       cases hq:Kit.hasT rawL x.f2 with
       | false=>rfl
       | true=>rw [any_getD noText z44 x.f5 (hb hq)];rfl
      rw [this]
      exact Ev.step (fun k=>rfl) (Kit.ev_neg (by omega) (Ev.now _))
     case refine_2 =>
      intro i hi ih hb
      refine Ev.step (fun k=>rfl) (Kit.ev_pos (by omega) (Ev.bind rv ?_))
      rw [rdN_nat,Kit.wrap_nat hi hn]
      refine Kit.ev_if (fun hq=>?_) (fun hq=>?_)
      case refine_2=>exact ih fun h2=>absurd h2 hq
      case refine_1 =>
       refine Kit.ev_pos (by omega) (Kit.ev_if (fun h2=>?_) (fun h2=>?_))
       case refine_1 =>
        refine ih fun _ j hj=>?_
        by_cases e:j=i
        case pos=>subst e;unfold noText;rw [h2];rfl
        case neg=>exact hb hq j (by omega)
       case refine_2 =>
        have:x.f5.any noText=true:=List.any_eq_true.2 ⟨x.f5.getD i z44,Kit.getD_mem _ hi,bne_iff_ne.2 h2⟩
        rw [this,hq]
        exact Ev.now _
    exact key 0 (by omega) (fun _ j hj=>absurd hj (Nat.not_lt_zero _))
/-- A node and all within are right, none deeper than may be; how many there are. -/
def okN:Nat→S44→Bool
 | 0,_=>false
 | n+1,x=>nodeOK x && x.f5.all (okN n)
def cntN:Nat→S44→Nat
 | 0,_=>1
 | n+1,x=>1+(x.f5.map (cntN n)).sum
def kidN (n:Nat) (x:S44):Nat:=cntN n x - 1
theorem cntN_pos (n:Nat) (x:S44):1≤cntN n x:=by
 cases n with
 | zero=>exact Nat.le_refl _
 | succ n=>rw [cntN];omega
theorem kidsI_ok (n:Nat) (hf:∀ (x:S44) (c:Int),0≤c→c≤60→((nodeI n x c).1=true ↔ okN n x=true∧c+cntN n x≤60)∧((nodeI n x c).1=true→(nodeI n x c).2=c+cntN n x)) (l:List S44):∀ c:Int,0≤c→c≤60→((kidsI (nodeI n) l c).1=true ↔ l.all (okN n)=true∧c+((l.map (cntN n)).sum:Nat)≤60)∧((kidsI (nodeI n) l c).1=true→(kidsI (nodeI n) l c).2=c+((l.map (cntN n)).sum:Nat)):=by
 induction l with
 | nil=>intro c h0 h1;exact ⟨⟨fun _=>⟨rfl,by simpa using h1⟩,fun _=>rfl⟩,fun _=>by simp [kidsI]⟩
 | cons x l ih =>
  intro c h0 h1
  obtain ⟨f1,f2⟩:=hf x c h0 h1
  rw [kidsI,List.all_cons,List.map_cons,List.sum_cons]
  by_cases hb:(nodeI n x c).1=true
  case pos =>
   obtain ⟨g1,g2⟩:=f1.1 hb
   have e2:=f2 hb
   rw [if_pos hb,e2,g1,Bool.true_and]
   have p1:=cntN_pos n x
   obtain ⟨i1,i2⟩:=ih (c+cntN n x) (by omega) g2
   refine ⟨⟨fun h=>?_,fun h=>?_⟩,fun h=>?_⟩
   case refine_1=>obtain ⟨j1,j2⟩:=i1.1 h;exact ⟨j1,by omega⟩
   case refine_2=>exact i1.2 ⟨h.1,by omega⟩
   case refine_3=>rw [i2 h];omega
  case neg =>
   rw [if_neg hb]
   refine ⟨⟨fun h=>?_,fun h=>?_⟩,fun h=>?_⟩
   case refine_1=>cases h
   case refine_2 =>
    obtain ⟨h3,h4⟩:=h
    rw [Bool.and_eq_true] at h3
    exact absurd (f1.2 ⟨h3.1,by omega⟩) hb
   case refine_3=>cases h
theorem nodeI_ok (n:Nat):∀ (x:S44) (c:Int),0≤c→c≤60→((nodeI n x c).1=true ↔ okN n x=true∧c+cntN n x≤60)∧((nodeI n x c).1=true→(nodeI n x c).2=c+cntN n x):=by
 induction n with
 | zero=>intro x c h0 h1;exact ⟨⟨fun h=>(by cases h),fun h=>(by cases h.1)⟩,fun h=>(by cases h)⟩
 | succ n ih =>
  intro x c h0 h1
  rw [nodeI,okN,cntN]
  by_cases h6:60<c+1
  case pos =>
   rw [if_pos h6]
   exact ⟨⟨fun h=>(by cases h),fun h=>(by have:=h.2;omega)⟩,fun h=>(by cases h)⟩
  case neg =>
   rw [if_neg h6]
   by_cases hk:nodeOK x=true
   case neg =>
    rw [if_neg hk,Bool.eq_false_iff.2 hk,Bool.false_and]
    exact ⟨⟨fun h=>(by cases h),fun h=>(by cases h.1)⟩,fun h=>(by cases h)⟩
   case pos =>
    rw [if_pos hk,hk,Bool.true_and]
    obtain ⟨i1,i2⟩:=kidsI_ok n ih x.f5 (c+1) (by omega) (by omega)
    refine ⟨⟨fun h=>?_,fun h=>?_⟩,fun h=>?_⟩
    case refine_1=>obtain ⟨j1,j2⟩:=i1.1 h;exact ⟨j1,by omega⟩
    case refine_2=>exact i1.2 ⟨h.1,by omega⟩
    case refine_3=>rw [i2 h];omega
theorem treeB_iff (l:List S44):treeB l=true ↔ l.all (okN 10)=true∧(l.map (cntN 10)).sum≤60:=by
 unfold treeB
 obtain ⟨i1,_⟩:=kidsI_ok 10 (nodeI_ok 10) l 0 (by omega) (by omega)
 rw [i1]
 constructor
 case mp=>intro h;exact ⟨h.1,by omega⟩
 case mpr=>intro h;exact ⟨h.1,by omega⟩
theorem cnt_len (n:Nat) (l:List S44):(l.map (cntN n)).sum=l.length+(l.map (kidN n)).sum:=by
 induction l with
 | nil=>rfl
 | cons x l ih =>
  rw [List.map_cons,List.map_cons,List.sum_cons,List.sum_cons,List.length_cons,ih]
  have:=cntN_pos n x
  unfold kidN
  omega
/-- What the reference counts. -/
theorem ev_l03OK (d:Nat) (hd:d≤10):∀ (l:List S44),l.length≤1048576→(∀ y∈l,FitP y)→∃ v:Int × Bool,Ev (fun k=>spec_l03OK.f k l (d:Int)) v∧(v.2=true ↔ l.all (okN d)=true∧(l.map (cntN d)).sum≤60)∧(v.2=true→v.1=((l.map (cntN d)).sum:Nat)):=by
 have f0:∀ (l:List S44) (d:Int) (k:Nat),spec_l03OK.f (k+1) l d=if (l.length:Int)>60 then (spec_l03OK.j0 k l d (l.length:Int) true) else (if d=0 then (spec_l03OK.j0 k l d (l.length:Int) (decide ((l.length:Int)>0))) else (spec_l03OK.j0 k l d (l.length:Int) false)):=fun l d k=>by rw [spec_l03OK.f]
 have j0:∀ (l:List S44) (d s:Int) (b:Bool) (k:Nat),spec_l03OK.j0 (k+1) l d s b=if b=true then (some (s,false)) else (spec_l03OK.l0 k l d s 0):=fun l d s b k=>by rw [spec_l03OK.j0]
 have l0:∀ (l:List S44) (d s i:Int) (k:Nat),spec_l03OK.l0 (k+1) l d s i=if i<(l.length:Int) then (if 0≤i then ((spec_l03Plain.f k (rd_T44 l i).f0 (rd_T44 l i).f1 (rd_T44 l i).f2 (rd_T44 l i).f3 (rd_T44 l i).f4 (rd_T44 l i).f5).bind fun t136=>(if t136=true then ((spec_l03Holds.f k (rd_T44 l i).f0 (rd_T44 l i).f1 (rd_T44 l i).f2 (rd_T44 l i).f3 (rd_T44 l i).f4 (rd_T44 l i).f5).bind fun t138=>(spec_l03OK.j2 k l d s i (!t138))) else (spec_l03OK.j2 k l d s i true))) else (none)) else (some (s,true)):=fun l d s i k=>by rw [spec_l03OK.l0]
 have j2:∀ (l:List S44) (d s i:Int) (b:Bool) (k:Nat),spec_l03OK.j2 (k+1) l d s i b=if b=true then (some (s,false)) else (if 0≤i then (if i<(l.length:Int) then ((spec_l03OK.f k (rd_T44 l i).f5 (wrap64 (d - 1))).bind fun bt140=>(if bt140.2=true then (if (wrap64 (s+bt140.1))>60 then (some (wrap64 (s+bt140.1),false)) else (spec_l03OK.l0 k l d (wrap64 (s+bt140.1)) (wrap64 (i+1)))) else (some (wrap64 (s+bt140.1),false)))) else (none)) else (none)):=fun l d s i b k=>by rw [spec_l03OK.j2]
 induction d with
 | zero =>
  intro l hl hf
  cases l with
  | nil =>
   refine ⟨(0,true),Ev.step (f0 [] 0) (Kit.ev_neg (by simp) (Kit.ev_pos rfl (Ev.step (j0 [] 0 _ _) (Kit.ev_neg (by simp) (Ev.step (l0 [] 0 _ 0) (Kit.ev_neg (by simp) (Ev.now _))))))),?_,fun _=>by simp⟩
   simp
  | cons x l =>
   have hno:¬ ((x :: l).all (okN 0)=true∧((x :: l).map (cntN 0)).sum≤60):=fun h=>by
    have:=h.1
    rw [List.all_cons,okN,Bool.false_and] at this
    cases this
   by_cases h60:(((x :: l).length:Nat):Int)>60
   case pos=>exact ⟨_,Ev.step (f0 _ _) (Kit.ev_pos h60 (Ev.step (j0 _ _ _ _) (Kit.ev_pos rfl (Ev.now _)))),⟨fun h=>(by cases h),fun h=>absurd h hno⟩,fun h=>(by cases h)⟩
   case neg=>exact ⟨_,Ev.step (f0 _ _) (Kit.ev_neg h60 (Kit.ev_pos rfl (Ev.step (j0 _ _ _ _) (Kit.ev_pos (decide_eq_true (by rw [List.length_cons];omega)) (Ev.now _))))),⟨fun h=>(by cases h),fun h=>absurd h hno⟩,fun h=>(by cases h)⟩
 | succ d ih =>
  intro l hl hf
  by_cases h60:(l.length:Int)>60
  case pos =>
   refine ⟨_,Ev.step (f0 _ _) (Kit.ev_pos h60 (Ev.step (j0 _ _ _ _) (Kit.ev_pos rfl (Ev.now _)))),⟨fun h=>(by cases h),fun h=>?_⟩,fun h=>(by cases h)⟩
   have:=h.2
   rw [cnt_len] at this
   omega
  case neg =>
   have key:∀ i,i≤l.length→∀ s:Nat,s≤60→∃ v:Int × Bool,Ev (fun k=>spec_l03OK.l0 k l ((d+1:Nat):Int) (s:Int) i) v∧(v.2=true ↔ (l.drop i).all (okN (d+1))=true∧s+((l.drop i).map (kidN (d+1))).sum≤60)∧(v.2=true→v.1=((s+((l.drop i).map (kidN (d+1))).sum:Nat):Int)):=by
    refine Kit.down ?_ ?_
    case refine_1 =>
     intro s hs
     refine ⟨((s:Int),true),Ev.step (l0 _ _ _ _) (Kit.ev_neg (by omega) (Ev.now _)),?_,fun _=>?_⟩
     case refine_1=>rw [List.drop_length];simp;exact hs
     case refine_2=>rw [List.drop_length];simp
    case refine_2 =>
     intro i hi ihi s hs
     have hfy:=hf _ (Kit.getD_mem z44 hi)
     rw [Kit.drop_getD z44 l i hi,List.all_cons,List.map_cons,List.sum_cons]
     have hst:∀ v:Int × Bool,Ev (fun k=>(spec_l03Plain.f k (l.getD i z44).f0 (l.getD i z44).f1 (l.getD i z44).f2 (l.getD i z44).f3 (l.getD i z44).f4 (l.getD i z44).f5).bind fun t136=>(if t136=true then ((spec_l03Holds.f k (l.getD i z44).f0 (l.getD i z44).f1 (l.getD i z44).f2 (l.getD i z44).f3 (l.getD i z44).f4 (l.getD i z44).f5).bind fun t138=>(spec_l03OK.j2 k l ((d+1:Nat):Int) (s:Int) i (!t138))) else (spec_l03OK.j2 k l ((d+1:Nat):Int) (s:Int) i true))) v→Ev (fun k=>spec_l03OK.l0 k l ((d+1:Nat):Int) (s:Int) i) v:=fun v hv=>by
      refine Ev.step (l0 _ _ _ _) (Kit.ev_pos (by omega) (Kit.ev_pos (by omega) ?_))
      rw [rdN_nat]
      exact hv
     have hj:∀ v:Int × Bool,Ev (fun k=>(spec_l03OK.f k (l.getD i z44).f5 (wrap64 (((d+1:Nat):Int) - 1))).bind fun bt140=>(if bt140.2=true then (if (wrap64 ((s:Int)+bt140.1))>60 then (some (wrap64 ((s:Int)+bt140.1),false)) else (spec_l03OK.l0 k l ((d+1:Nat):Int) (wrap64 ((s:Int)+bt140.1)) (wrap64 ((i:Int)+1)))) else (some (wrap64 ((s:Int)+bt140.1),false)))) v→Ev (fun k=>spec_l03OK.j2 k l ((d+1:Nat):Int) (s:Int) i false) v:=fun v hv=>by
      refine Ev.step (j2 _ _ _ _ _) (Kit.ev_neg Bool.false_ne_true (Kit.ev_pos (by omega) (Kit.ev_pos (by omega) ?_)))
      rw [rdN_nat]
      exact hv
     generalize l.getD i z44=y at *
     cases hfy with
     | mk _ q2 q3 q4 q5 qk =>
     have hp:=ev_l03Plain y (by omega) (fun a ha=>by have:=(q4.2 a ha).1;omega) (by omega)
     have hh:=ev_l03Holds y (by omega)
     have hok:okN (d+1) y=((ownB y && (!voidFull y && !rawBad y)) && y.f5.all (okN d)):=by rw [okN,nodeOK,Bool.and_assoc (ownB y)]
     have hck:kidN (d+1) y=(y.f5.map (cntN d)).sum:=by unfold kidN;rw [cntN];omega
     rw [hok,hck]
     cases hb1:ownB y with
     | false =>
      rw [hb1] at hp
      refine ⟨_,hst _ (Ev.bind hp (Kit.ev_neg Bool.false_ne_true (Ev.step (j2 _ _ _ _ _) (Kit.ev_pos rfl (Ev.now _))))),⟨fun h=>(by cases h),fun h=>(by cases h.1)⟩,fun h=>(by cases h)⟩
     | true =>
      rw [hb1] at hp
      cases hb2:(!voidFull y && !rawBad y) with
      | false =>
       rw [hb2] at hh
       refine ⟨_,hst _ (Ev.bind hp (Kit.ev_pos rfl (Ev.bind hh (Ev.step (j2 _ _ _ _ _) (Kit.ev_pos rfl (Ev.now _)))))),⟨fun h=>(by cases h),fun h=>(by cases h.1)⟩,fun h=>(by cases h)⟩
      | true =>
       rw [hb2] at hh
       have hjj:=fun v hv=>hst v (Ev.bind hp (Kit.ev_pos rfl (Ev.bind hh (hj v hv))))
       rw [Bool.true_and,Bool.true_and]
       obtain ⟨u,hu,hu1,hu2⟩:=ih (by omega) y.f5 q5 qk
       have hwd:wrap64 (((d+1:Nat):Int) - 1)=(d:Int):=by rw [Kit.wrap_of (by omega) (by omega)];omega
       rw [hwd] at hjj
       by_cases hub:u.2=true
       case neg =>
        refine ⟨_,hjj _ (Ev.bind hu (Kit.ev_neg hub (Ev.now _))),⟨fun h=>(by cases h),fun h=>?_⟩,fun h=>(by cases h)⟩
        obtain ⟨h3,h4⟩:=h
        rw [Bool.and_eq_true] at h3
        exact absurd (hu1.2 ⟨h3.1,by omega⟩) hub
       case pos =>
        obtain ⟨g1,g2⟩:=hu1.1 hub
        have g3:=hu2 hub
        rw [g1,Bool.true_and]
        have hws:wrap64 ((s:Int)+u.1)=((s+(y.f5.map (cntN d)).sum:Nat):Int):=by rw [g3,Kit.wrap_of (by omega) (by omega)];omega
        have hjk:∀ v,Ev (fun k=>if (((s+(y.f5.map (cntN d)).sum:Nat):Int))>60 then (some (((s+(y.f5.map (cntN d)).sum:Nat):Int),false)) else (spec_l03OK.l0 k l ((d+1:Nat):Int) ((s+(y.f5.map (cntN d)).sum:Nat):Int) ((i+1:Nat):Int))) v→_:=fun v hv=>hjj v (Ev.bind hu (Kit.ev_pos hub (by rw [hws,Kit.wrap_nat hi (by omega)];exact hv)))
        by_cases h6:(((s+(y.f5.map (cntN d)).sum:Nat):Int))>60
        case pos=>exact ⟨_,hjk _ (Kit.ev_pos h6 (Ev.now _)),⟨fun h=>(by cases h),fun h=>(by have:=h.2;omega)⟩,fun h=>(by cases h)⟩
        case neg =>
         obtain ⟨v,hv,hv1,hv2⟩:=ihi (s+(y.f5.map (cntN d)).sum) (by omega)
         refine ⟨v,hjk _ (Kit.ev_neg h6 hv),hv1.trans ⟨fun h=>⟨h.1,by omega⟩,fun h=>⟨h.1,by omega⟩⟩,fun h=>?_⟩
         rw [hv2 h]
         omega
   obtain ⟨v,hv,hv1,hv2⟩:=key 0 (by omega) l.length (by omega)
   rw [List.drop_zero] at hv1 hv2
   rw [cnt_len]
   exact ⟨v,Ev.step (f0 _ _) (Kit.ev_neg h60 (Kit.ev_neg (by omega) (Ev.step (j0 _ _ _ _) (Kit.ev_neg Bool.false_ne_true hv)))),hv1,hv2⟩
theorem ev_l03Tree (l:List S44) (hl:l.length≤1048576) (hf:∀ y∈l,FitP y):Ev (fun k=>spec_l03Tree.f k l) (treeB l):=by
 obtain ⟨v,hv,h1,_⟩:=ev_l03OK 10 (Nat.le_refl _) l hl hf
 have:v.2=treeB l:=by rw [Bool.eq_iff_iff,h1,treeB_iff]
 rw [←this]
 unfold spec_l03Tree.f
 exact Ev.bind hv (Ev.now _)
theorem implTree (l:List S44) (hf:∀ y∈l,FitP y):impl_TreeOK.f l=some (treeB l):=impl_TreeOK.fit (fun y hy=>fitB_of y (hf y hy) 10)
/- Trees without harm. -/
open Go.Proofs.Ytjlikemmhjclpaa.Kit (small digit big pos_eq neg_eq tagB isTag nameB isName lowC lowS lowS_bytes handler wantJ wantJ_eq keepC badL badFrom badFrom_zero badFrom_full badFrom_nil badFrom_skip badFrom_take indexByte_any markB namesAt namesOK)
theorem hasPrefix_eq (a b:ByteArray):strings_HasPrefix.f a b=some (decide (a.size≥b.size) && ((a.extract 0 b.size).toList == b.toList)):=by
 unfold strings_HasPrefix.f stringslite_HasPrefix.f
 by_cases h:(a.size:Int)≥(b.size:Int)
 ·rw [if_pos h,if_pos (by omega),if_pos h,decide_eq_true (p:=a.size≥b.size) (by omega)]
  rfl
 ·rw [if_neg h,decide_eq_false (p:=a.size≥b.size) (by omega)]
  rfl
theorem l01Handler_eq (a:ByteArray):spec_l01Handler.f a=some (handler a):=by
 unfold spec_l01Handler.f handler
 by_cases h:(a.size:Int)>2
 ·rw [if_pos h,if_pos (by omega),if_pos (by omega),decide_eq_true h,Bool.true_and]
 ·rw [if_neg h,decide_eq_false h,Bool.false_and]
theorem IsHandler_eq (a:ByteArray):impl_IsHandler.f a=some (!decide (65536<(a.size:Int)) && handler a):=by
 unfold impl_IsHandler.f handler
 rw [isLong1,Option.bind_some]
 by_cases h:65536<(a.size:Int)
 ·rw [if_pos (decide_eq_true h),decide_eq_true h];rfl
 ·rw [if_neg (by simpa using h),decide_eq_false h]
  by_cases h2:(a.size:Int)>2
  ·rw [if_pos h2,hasPrefix_eq,Option.bind_some,decide_eq_true h2]
   have h3:a.size≥(⟨#[111,110]⟩:ByteArray).size:=by show a.size≥2;omega
   rw [decide_eq_true h3,Kit.lit_toList #[111,110]]
   rfl
  ·rw [if_neg h2,decide_eq_false h2];rfl
open Go.Proofs.Ytjlikemmhjclpaa.Kit (small digit big pos_eq neg_eq tagB isTag nameB isName lowC lowS lowS_bytes handler wantJ wantJ_eq keepC badL badFrom badFrom_zero badFrom_full badFrom_nil badFrom_skip badFrom_take indexByte_any markB namesAt namesOK)
theorem ev_l01Bad (s:ByteArray) (hn:s.size≤140737488351232):Ev (fun k=>spec_l01Bad.f k s) (badL (bytesOf s)):=by
 have key:∀ i:Nat,i≤s.size→∀ m:Nat,m≤11→Ev (fun k=>spec_l01Bad.l0 k s (⟨#[106,97,118,97,115,99,114,105,112,116,58]⟩:ByteArray) m i) (badFrom m ((bytesOf s).drop i)):=by
  have stop:∀ (i m:Nat),m=11∨(i=s.size∧m<11)→Ev (fun k=>spec_l01Bad.j1 k s (⟨#[106,97,118,97,115,99,114,105,112,116,58]⟩:ByteArray) m i false) (badFrom m ((bytesOf s).drop i)):=by
   intro i m h
   refine Ev.step (f:=fun _=>some ((m:Int) == (((⟨#[106,97,118,97,115,99,114,105,112,116,58]⟩:ByteArray).size:Nat):Int))) (fun k=>by rw [spec_l01Bad.j1,if_neg Bool.false_ne_true]) (Kit.ev_const ?_)
   rcases h with rfl|⟨rfl,h⟩
   ·rw [badFrom_full];rfl
   ·rw [List.drop_of_length_le (by rw [bytesOf_length];exact Nat.le_refl _),badFrom_nil m h]
    congr 1
    show ((m:Int) == (11:Int))=false
    simp;omega
  refine Kit.down ?_ ?_
  ·intro m hm
   refine Ev.step (fun k=>by rw [spec_l01Bad.l0]) (Kit.ev_neg (by omega) ?_)
   by_cases h:m=11
   ·exact stop _ m (.inl h)
   ·exact stop _ m (.inr ⟨rfl,by omega⟩)
  ·intro i hi ih m hm
   refine Ev.step (fun k=>by rw [spec_l01Bad.l0]) (Kit.ev_pos (by omega) ?_)
   by_cases hm11:m=11
   ·subst hm11
    exact stop i 11 (.inl rfl)
   ·have hlt:decide ((m:Int)<(((⟨#[106,97,118,97,115,99,114,105,112,116,58]⟩:ByteArray).size:Nat):Int))=true:=by
     show decide ((m:Int)<(11:Int))=true
     exact decide_eq_true (by omega)
    rw [hlt]
    refine Ev.step (fun k=>by rw [spec_l01Bad.j1]) (Kit.ev_pos rfl (Kit.ev_pos (by omega) (Kit.ev_pos (by omega) ?_)))
    rw [Kit.bytesOf_drop s i hi]
    have hb:=bt_range s (i:Int)
    generalize bt s (i:Int)=c at hb ⊢
    have skip:(c=9∨c=10∨c=13∨(m=0∧c≤32))→Ev (fun k=>spec_l01Bad.j2 k s (⟨#[106,97,118,97,115,99,114,105,112,116,58]⟩:ByteArray) m i c true) (badFrom m (c :: (bytesOf s).drop (i+1))):=by
     intro h
     rw [badFrom_skip m c _ h]
     refine Ev.step (fun k=>by rw [spec_l01Bad.j2]) (Kit.ev_pos rfl ?_)
     rw [Kit.wrap_nat hi (by omega)]
     exact ih m hm
    have take:¬ c=9→¬ c=10→¬ c=13→(m=0→¬ c≤32)→Ev (fun k=>spec_l01Bad.j2 k s (⟨#[106,97,118,97,115,99,114,105,112,116,58]⟩:ByteArray) m i c false) (badFrom m (c :: (bytesOf s).drop (i+1))):=by
     intro h9 h10 h13 h32
     have hw:bt (⟨#[106,97,118,97,115,99,114,105,112,116,58]⟩:ByteArray) (m:Int)=wantJ.getD m 0:=by rw [Kit.bt_rd,wantJ_eq]
     have hw1:wrap64 ((m:Int)+1)=((m+1:Nat):Int):=Kit.wrap_nat (n:=11) (by omega) (by omega)
     have hs:(m:Int)<(((⟨#[106,97,118,97,115,99,114,105,112,116,58]⟩:ByteArray).size:Nat):Int):=of_decide_eq_true hlt
     rw [badFrom_take m c _ (by omega) h9 h10 h13 h32]
     have fin:∀ x,x=lowC c→Ev (fun k=>if x=bt (⟨#[106,97,118,97,115,99,114,105,112,116,58]⟩:ByteArray) (m:Int) then spec_l01Bad.l0 k s (⟨#[106,97,118,97,115,99,114,105,112,116,58]⟩:ByteArray) (wrap64 ((m:Int)+1)) (wrap64 ((i:Int)+1)) else some false) (decide (lowC c=wantJ.getD m 0) && badFrom (m+1) ((bytesOf s).drop (i+1))):=by
      intro x hx
      rw [hw,hw1,Kit.wrap_nat hi (by omega),hx]
      refine Kit.ev_if (fun h=>?_) (fun h=>?_)
      ·rw [decide_eq_true h,Bool.true_and];exact ih (m+1) (by omega)
      ·rw [decide_eq_false h,Bool.false_and];exact Ev.now _
     refine Ev.step (fun k=>by rw [spec_l01Bad.j2]) (Kit.ev_neg (by decide) ?_)
     have j3:∀ b:Bool,b=decide (65≤c∧c≤90)→Ev (fun k=>spec_l01Bad.j3 k s (⟨#[106,97,118,97,115,99,114,105,112,116,58]⟩:ByteArray) m i c b) (decide (lowC c=wantJ.getD m 0) && badFrom (m+1) ((bytesOf s).drop (i+1))):=by
      intro b hb2
      refine Ev.step (fun k=>by rw [spec_l01Bad.j3]) ?_
      by_cases h:65≤c∧c≤90
      ·refine Kit.ev_pos (by rw [hb2,decide_eq_true h]) (Kit.ev_pos (by omega) (Kit.ev_pos hs (fin _ ?_)))
       unfold lowC;rw [if_pos h];omega
      ·refine Kit.ev_neg (by rw [hb2,decide_eq_false h];decide) (Kit.ev_pos (by omega) (Kit.ev_pos hs (fin _ ?_)))
       unfold lowC;rw [if_neg h]
     refine Kit.ev_if (fun h=>j3 _ ?_) (fun h=>j3 _ ?_)
     ·rw [decide_eq_decide];omega
     ·rw [decide_eq_false];omega
    refine Kit.ev_if (fun h=>skip (by omega)) (fun h9=>Kit.ev_if (fun h=>skip (by omega)) (fun h10=>Kit.ev_if (fun h=>skip (by omega)) (fun h13=>Kit.ev_if (fun h0=>?_) (fun h0=>?_))))
    ·by_cases h32:c≤32
     ·rw [decide_eq_true h32];exact skip (by omega)
     ·rw [decide_eq_false h32];exact take h9 h10 h13 (fun _=>h32)
    ·exact take h9 h10 h13 (fun h=>by omega)
 have:=key 0 (by omega) 0 (by omega)
 rw [badFrom_zero,List.drop_zero] at this
 exact this
theorem fitH_of (x:S44) (h:ownB x=true):FitH x:=by
 unfold ownB at h
 intro a ha
 by_cases h1:x.f0=1
 ·rw [if_pos h1] at h
  simp only [Bool.and_eq_true] at h
  have h2:=h.1.2
  unfold attrsOK at h2
  rw [Bool.and_eq_true] at h2
  obtain ⟨j,hj,rfl⟩:=List.getElem_of_mem ha
  have h3:=(Kit.allB_iff _ _ _).1 h2.1 j (Nat.zero_le _) hj
  unfold attrAt isAttrB at h3
  rw [List.getD_eq_getElem?_getD,List.getElem?_eq_getElem hj] at h3
  simp only [Option.getD_some,Bool.and_eq_true,decide_eq_true_eq] at h3
  have h4:=h3.1.1
  unfold Kit.isTag at h4
  rw [Bool.and_eq_true] at h4
  have h5:=of_decide_eq_true h4.2
  have h6:=h3.1.2
  omega
 ·rw [if_neg h1] at h
  have he:emptyB x=true:=by
   by_cases h2:x.f0=2
   ·rw [if_pos h2,Bool.and_eq_true] at h;exact h.2
   ·rw [if_neg h2] at h
    by_cases h3:x.f0=3
    ·rw [if_pos h3,Bool.and_eq_true] at h;exact h.2
    ·rw [if_neg h3] at h;cases h
  unfold emptyB at he
  have hz:x.f4=[]:=by
   apply List.eq_nil_of_length_eq_zero
   by_cases e:(x.f4.length:Int)=0
   ·omega
   ·rw [if_neg e] at he
    split at he
    ·split at he <;> cases he
    ·cases he
  rw [hz] at ha
  cases ha
theorem goodE_of (n:Nat):∀ x:S44,okN n x=true→goodE FitH n x:=by
 induction n with
 | zero=>intro x h;cases h
 | succ n ih =>
  intro x h
  rw [okN,Bool.and_eq_true,List.all_eq_true] at h
  unfold nodeOK at h
  simp only [Bool.and_eq_true] at h
  exact ⟨fitH_of x h.1.1.1,fun y hy=>ih y (h.2 y hy)⟩
theorem ev_l01Link (a:ByteArray):Ev (fun k=>spec_l01Link.f k a) (Kit.hasT linkL a):=Ev.bind (ev_l01Has _ a (by decide)) (Ev.now _)
theorem ev_l01Banned (a:ByteArray):Ev (fun k=>spec_l01Banned.f k a) (Kit.hasT bannedL a):=Ev.bind (ev_l01Has _ a (by decide)) (Ev.now _)
theorem ev_l08Harm (x:S44) (hf:FitH x) (hn:x.f4.length≤1048576):Ev (fun k=>spec_l08Harm.f k x.f0 x.f1 x.f2 x.f3 x.f4 x.f5) (harmN x):=by
 unfold spec_l08Harm.f harmN
 refine Kit.ev_if (fun h=>?_) (fun h=>?_)
 ·have e:(x.f0 == 1)=true:=by simpa using h
  rw [e,Bool.true_and]
  have loop:∀ i,i≤x.f4.length→Ev (fun k=>spec_l08Harm.l0 k (i:Int) x.f0 x.f1 x.f2 x.f3 x.f4 x.f5) (Kit.hasT bannedL x.f2 || (x.f4.drop i).any attrHarm):=by
   refine Kit.down ?_ ?_
   ·rw [List.drop_length,List.any_nil,Bool.or_false]
    exact Ev.step (fun k=>by rw [spec_l08Harm.l0]) (Kit.ev_neg (by omega) (Ev.bind (ev_l01Banned x.f2) (Ev.now _)))
   ·intro i hi ih
    have hm:=hf _ (Kit.getD_mem z75 hi)
    rw [Kit.drop_getD z75 x.f4 i hi,List.any_cons]
    refine Ev.step (fun k=>by rw [spec_l08Harm.l0]) (Kit.ev_pos (by omega) (Kit.ev_pos (by omega) ?_))
    rw [rdA2_nat,Kit.wrap_nat hi (by omega)]
    generalize x.f4.getD i z75=a at *
    have hat:attrHarm a=if handler a.f0=true then true else if Kit.hasT linkL a.f0=true then badL (bytesOf a.f1) else false:=rfl
    refine Kit.ev_some (l01Handler_eq a.f0) (Kit.ev_if (fun h1=>?_) (fun h1=>?_))
    ·rw [hat,if_pos h1,Bool.true_or,Bool.or_true];exact Ev.now _
    ·rw [hat,if_neg h1]
     refine Ev.bind (ev_l01Link a.f0) (Kit.ev_if (fun h2=>?_) (fun h2=>?_))
     ·rw [if_pos h2]
      refine Ev.bind (ev_l01Bad a.f1 (by omega)) (Kit.ev_if (fun h3=>?_) (fun h3=>?_))
      ·rw [h3,Bool.true_or,Bool.or_true];exact Ev.now _
      ·rw [Bool.eq_false_iff.2 h3,Bool.false_or];exact ih
     ·rw [if_neg h2,Bool.false_or];exact ih
  exact loop 0 (Nat.zero_le _)
 ·have e:(x.f0 == 1)=false:=by simpa using h
  rw [e,Bool.false_and];exact Ev.now _
/- The texts of a tree. -/
def mk (s:List UInt8):ByteArray:=⟨s.toArray⟩
theorem mk_append (s:List UInt8) (t:ByteArray):mk s++t=mk (s++t.data.toList):=by
 unfold mk
 apply ByteArray.ext
 simp
theorem mk_mk (s t:List UInt8):mk s++mk t=mk (s++t):=by rw [mk_append];simp [mk]
theorem mk_size (s:List UInt8):(mk s).size=s.length:=by simp [mk,ByteArray.size]
theorem data_len (t:ByteArray):t.data.toList.length=t.size:=by simp
def txtE:Nat→S44→List UInt8
 | 0,_=>[]
 | n+1,x=>(if x.f0=2 then x.f3.data.toList else [])++x.f5.flatMap (txtE n)
theorem txt_len (n:Nat):∀ x:S44,okN n x=true→(txtE n x).length≤120 * cntN n x:=by
 induction n with
 | zero=>intro x h;cases h
 | succ n ih =>
  intro x h
  rw [okN,Bool.and_eq_true,List.all_eq_true] at h
  obtain ⟨h1,h2⟩:=h
  have hk:∀ l:List S44,(∀ y∈l,okN n y=true)→(l.flatMap (txtE n)).length≤120 * (l.map (cntN n)).sum:=by
   intro l
   induction l with
   | nil=>intro _;simp
   | cons y l ihl =>
    intro hl
    have a1:=ih y (hl y (List.mem_cons_self))
    have a2:=ihl (fun z hz=>hl z (List.mem_cons_of_mem _ hz))
    rw [List.flatMap_cons,List.length_append,List.map_cons,List.sum_cons]
    omega
  have h3:=hk x.f5 h2
  rw [txtE,cntN,List.length_append]
  have h4:(if x.f0=2 then x.f3.data.toList else []).length≤120:=by
   by_cases h:x.f0=2
   ·rw [if_pos h,data_len]
    unfold nodeOK at h1
    simp only [Bool.and_eq_true] at h1
    have h5:=h1.1.1
    unfold ownB at h5
    rw [if_neg (by omega),if_pos h,Bool.and_eq_true] at h5
    have:=of_decide_eq_true h5.1
    omega
   ·rw [if_neg h];simp
  omega
theorem all_len (n:Nat) (l:List S44) (h:∀ y∈l,okN n y=true):(l.flatMap (txtE n)).length≤120 * (l.map (cntN n)).sum:=by
 induction l with
 | nil=>simp
 | cons y l ihl =>
  have a1:=txt_len n y (h y (List.mem_cons_self))
  have a2:=ihl (fun z hz=>h z (List.mem_cons_of_mem _ hz))
  rw [List.flatMap_cons,List.length_append,List.map_cons,List.sum_cons]
  omega
theorem ev_l03Text (n:Nat):∀ l:List S44,l.length≤1048576→(∀ y∈l,okN n y=true)→(∀ y∈l,FitP y)→(l.flatMap (txtE n)).length≤1000000→Ev (fun k=>spec_l03Text.f k l) (mk (l.flatMap (txtE n))):=by
 have hf:∀ (l:List S44) (k:Nat),spec_l03Text.f (k+1) l=spec_l03Text.l0 k l (mk []) 0:=fun l k=>by rw [spec_l03Text.f];rfl
 induction n with
 | zero =>
  intro l _ hd _ _
  cases l with
  | cons x l=>exact absurd (hd x (List.mem_cons_self)) Bool.false_ne_true
  | nil =>
   have h0:∀ k,spec_l03Text.l0 (k+1) ([]:List S44) (mk []) 0=some (mk []):=fun k=>by rw [spec_l03Text.l0,if_neg (by simp)]
   exact Ev.step (hf []) (Ev.step h0 (Ev.now _))
 | succ n ih =>
  intro l hl hd hp hs
  have loop:∀ i,i≤l.length→∀ s:List UInt8,(s++(l.drop i).flatMap (txtE (n+1))).length≤1000000→Ev (fun k=>spec_l03Text.l0 k l (mk s) (i:Int)) (mk (s++(l.drop i).flatMap (txtE (n+1)))):=by
   refine Kit.down ?_ ?_
   ·intro s _
    rw [List.drop_length,List.flatMap_nil,List.append_nil]
    exact Ev.step (f:=fun _=>some (mk s)) (fun k=>by rw [spec_l03Text.l0,if_neg (by omega)]) (Ev.now _)
   ·intro i hi ihi s hs
    have hm:=Kit.getD_mem z44 hi
    have hok:=hd _ hm
    have hfp:=hp _ hm
    rw [Kit.drop_getD z44 l i hi,List.flatMap_cons,txtE] at hs ⊢
    refine Ev.step (fun k=>by rw [spec_l03Text.l0,if_pos (by omega),if_pos (by omega),rdN_nat,Kit.wrap_nat hi (by omega)]) ?_
    generalize l.getD i z44=x at *
    rw [okN,Bool.and_eq_true,List.all_eq_true] at hok
    obtain ⟨h5,hk⟩:x.f5.length≤1048576∧∀ y∈x.f5,FitP y:=by cases hfp with|mk x h2 h3 h4 h5 hk=>exact ⟨h5,hk⟩
    refine Kit.ev_if (fun h=>?_) (fun h=>?_)
    ·rw [if_pos h] at hs ⊢
     have hlen:=hs
     simp only [List.length_append] at hlen
     have hdl:=data_len x.f3
     refine Kit.ev_pos (by rw [mk_size];omega) (Ev.bind (ih x.f5 h5 hok.2 hk (by omega)) ?_)
     rw [mk_append,mk_mk]
     refine Kit.ev_pos (by rw [mk_size,mk_size,List.length_append];omega) ?_
     have e:s++((x.f3.data.toList++x.f5.flatMap (txtE n))++(l.drop (i+1)).flatMap (txtE (n+1)))=(s++x.f3.data.toList++x.f5.flatMap (txtE n))++(l.drop (i+1)).flatMap (txtE (n+1)):=by simp only [List.append_assoc]
     rw [e] at hs ⊢
     exact ihi _ hs
    ·rw [if_neg h,List.nil_append] at hs ⊢
     have hlen:=hs
     simp only [List.length_append] at hlen
     refine Ev.bind (ih x.f5 h5 hok.2 hk (by omega)) ?_
     rw [mk_mk]
     refine Kit.ev_pos (by rw [mk_size,mk_size];omega) ?_
     rw [←List.append_assoc] at hs ⊢
     exact ihi _ hs
  exact Ev.step (hf l) (loop 0 (Nat.zero_le _) [] hs)
theorem ev_l02Has (s:ByteArray) (c:Int) (hn:s.size≤9223372036854775807):Ev (fun k=>spec_l02Has.f k s c) ((bytesOf s).any fun x=>decide (x=c)):=by
 have key:∀ i:Nat,i≤s.size→Ev (fun k=>spec_l02Has.l0 k s c i) (((bytesOf s).drop i).any fun x=>decide (x=c)):=by
  refine Kit.down ?_ ?_
  ·refine Ev.step (fun k=>rfl) (Kit.ev_neg (by omega) ?_)
   rw [List.drop_of_length_le (by rw [bytesOf_length];exact Nat.le_refl _)]
   exact Ev.now _
  ·intro i hi ih
   refine Ev.step (fun k=>rfl) (Kit.ev_pos (by omega) (Kit.ev_pos (by omega) ?_))
   rw [Kit.bytesOf_drop s i hi,Kit.wrap_nat hi hn,List.any_cons]
   refine Kit.ev_if (fun h=>?_) (fun h=>?_)
   ·rw [decide_eq_true h,Bool.true_or];exact Ev.now _
   ·rw [decide_eq_false h,Bool.false_or];exact ih
 exact key 0 (by omega)
/-- p holds of a node, or of one within it. -/
def anyE (p:S44→Bool):Nat→S44→Bool
 | 0,_=>false
 | n+1,x=>p x || x.f5.any (anyE p n)
theorem each_any {σ : Type} (step:S44→List Int → σ → σ) (p:S44→Bool) (v : σ → Bool) (hv:∀ x q s,v (step x q s)=(v s && !p x)) (b:Nat):∀ (l:List S44) (ps:List Int) (s : σ),v (eachP step b l ps s)=(v s && !l.any (anyE p b)):=by
 induction b with
 | zero =>
  intro l ps s
  have:l.any (anyE p 0)=false:=by
   rw [Bool.eq_false_iff]
   intro h
   obtain ⟨y,_,hy⟩:=List.any_eq_true.1 h
   cases hy
  rw [eachP,this,Bool.not_false,Bool.and_true]
 | succ b ih =>
  intro l ps s
  rw [eachP]
  generalize 0=i
  induction l generalizing i s with
  | nil=>rw [foldIx,List.any_nil,Bool.not_false,Bool.and_true]
  | cons x l ihl =>
   rw [foldIx,ihl,ih,hv,List.any_cons,anyE]
   cases v s <;> cases p x <;> cases x.f5.any (anyE p b) <;> rfl
theorem any_or (p q:S44→Bool) (b:Nat):∀ l:List S44,l.any (anyE (fun x=>p x || q x) b)=(l.any (anyE p b) || l.any (anyE q b)):=by
 induction b with
 | zero =>
  intro l
  induction l with
  | nil=>rfl
  | cons x l ihl=>rw [List.any_cons,List.any_cons,List.any_cons,ihl];rfl
 | succ b ih =>
  intro l
  induction l with
  | nil=>rfl
  | cons x l ihl =>
   rw [List.any_cons,List.any_cons,List.any_cons,ihl,anyE,anyE,anyE,ih]
   cases p x <;> cases q x <;> cases x.f5.any (anyE p b) <;> cases x.f5.any (anyE q b) <;> simp
theorem ev_cond {α : Type} {c:Nat→Bool} {f g:Nat→Option α} {r : α} (hc:∃ K,∀ k,K≤k→c k=true) (h:Ev f r):Ev (fun k=>if c k=true then f k else g k) r:=by
 obtain ⟨K,hK⟩:=hc
 obtain ⟨L,hL⟩:=h
 exact ⟨max K L,fun k hk=>by show (if c k=true then f k else g k)=_;rw [if_pos (hK k (by omega))];exact hL k (by omega)⟩
theorem own_parts (x:S44) (h:nodeOK x=true):ownB x=true∧rawBad x=false:=by
 unfold nodeOK at h
 simp only [Bool.and_eq_true,Bool.not_eq_true'] at h
 exact ⟨h.1.1,h.2⟩
theorem text_facts (x:S44) (h:nodeOK x=true) (h2:x.f0=2):x.f3.size≤120∧x.f5=[]:=by
 have h1:=(own_parts x h).1
 unfold ownB at h1
 rw [if_neg (by omega),if_pos h2,Bool.and_eq_true] at h1
 refine ⟨by have:=of_decide_eq_true h1.1;omega,?_⟩
 have he:=h1.2
 unfold emptyB at he
 split at he
 ·split at he
  ·split at he
   ·have:=beq_iff_eq.1 he
    exact List.eq_nil_of_length_eq_zero (by omega)
   ·cases he
  ·cases he
 ·cases he
theorem note_facts (x:S44) (h:nodeOK x=true) (h2:x.f0=3):x.f3.size≤120:=by
 have h1:=(own_parts x h).1
 unfold ownB at h1
 rw [if_neg (by omega),if_neg (by omega),if_pos h2,Bool.and_eq_true] at h1
 have:=of_decide_eq_true h1.1
 omega
theorem bytes_mk (s:ByteArray):bytesOf (mk s.data.toList)=bytesOf s:=by
 have:mk s.data.toList=s:=by unfold mk;apply ByteArray.ext;simp
 rw [this]
theorem mark_text (n:Nat) (l:List S44) (hok:∀ y∈l,okN n y=true) (ht:l.any noText=false):((bytesOf (mk (l.flatMap (txtE n)))).any fun c=>decide (c=60))=l.any markN:=by
 induction l with
 | nil=>rfl
 | cons y l ih =>
  rw [List.any_cons,Bool.or_eq_false_iff] at ht
  rw [List.flatMap_cons,←mk_mk,Kit.bytesOf_append,List.any_append,List.any_cons,ih (fun z hz=>hok z (List.mem_cons_of_mem _ hz)) ht.2]
  congr 1
  have hy:=hok y (List.mem_cons_self)
  have h2:y.f0=2:=by
   have:=ht.1
   unfold noText at this
   simpa using this
  cases n with
  | zero=>cases hy
  | succ n =>
   rw [okN,Bool.and_eq_true] at hy
   obtain ⟨h3,h5⟩:=text_facts y hy.1 h2
   rw [txtE,if_pos h2,h5,List.flatMap_nil,List.append_nil,bytes_mk]
   unfold markN markB
   rw [decide_eq_false (by omega),Bool.not_false,Bool.true_and]
/-- A node may do harm, or come to do some. -/
def badN (x:S44):Bool:=harmN x || dirtyN x
theorem goodC_ok (n:Nat):∀ x:S44,okN n x=true→FitP x→goodC n x=true:=by
 induction n with
 | zero=>intro x h;cases h
 | succ n ih =>
  intro x h hf
  rw [okN,Bool.and_eq_true,List.all_eq_true] at h
  rw [goodC,Bool.and_eq_true,List.all_eq_true]
  cases hf with
  | mk _ h2 h3 h4 h5 hk=>exact ⟨decide_eq_true h3,fun y hy=>ih y (h.2 y hy) (hk y hy)⟩
theorem ev_l08Raw (n:Nat) (x:S44) (h1:x.f0=1) (hok:nodeOK x=true) (hk:∀ y∈x.f5,okN n y=true) (h5:x.f5.length≤1048576) (hp:∀ y∈x.f5,FitP y) (hc:(x.f5.map (cntN n)).sum≤60):Ev (fun k=>spec_l08Raw.f k x.f0 x.f1 x.f2 x.f3 x.f4 x.f5) (rawB x && x.f5.any markN):=by
 unfold spec_l08Raw.f
 have hr:rawB x=if x.f1=0 then Kit.hasT rawL x.f2 else false:=by unfold rawB;rw [if_pos h1]
 refine Kit.ev_if (fun h=>?_) (fun h=>?_)
 ·rw [if_pos h] at hr
  refine Ev.bind (ev_l01Raw x.f2) ?_
  cases hb:Kit.hasT rawL x.f2 with
  | false=>rw [hr,hb,Bool.false_and];exact Kit.ev_neg Bool.false_ne_true (Ev.now _)
  | true =>
   rw [hb] at hr
   have hbad:=(own_parts x hok).2
   unfold rawBad at hbad
   rw [hr,Bool.true_and] at hbad
   have hlen:=all_len n x.f5 hk
   rw [hr,Bool.true_and,←mark_text n x.f5 hk hbad]
   exact Kit.ev_pos rfl (Ev.bind (ev_l03Text n x.f5 h5 hk hp (by omega)) (Ev.bind (ev_l02Has _ 60 (by rw [mk_size];omega)) (Ev.now _)))
 ·rw [hr,if_neg h,Bool.false_and]
  exact Ev.now _
theorem le_cnt (n:Nat) (l:List S44):∀ x∈l,cntN n x≤(l.map (cntN n)).sum:=by
 induction l with
 | nil=>intro x h;cases h
 | cons y l ih =>
  intro x h
  rw [List.map_cons,List.sum_cons]
  rcases List.mem_cons.1 h with rfl|h
  ·omega
  ·have:=ih x h
   omega
theorem ev_l08Clean (n:Nat):∀ l:List S44,l.length≤1048576→(∀ y∈l,okN n y=true)→(∀ y∈l,FitP y)→(l.map (cntN n)).sum≤60→Ev (fun k=>spec_l08Clean.f k l) (!l.any (anyE badN n)):=by
 have hf:∀ (l:List S44) (k:Nat),spec_l08Clean.f (k+1) l=spec_l08Clean.l0 k l 0:=fun l k=>by rw [spec_l08Clean.f]
 induction n with
 | zero =>
  intro l _ hd _ _
  cases l with
  | cons x l=>exact absurd (hd x (List.mem_cons_self)) Bool.false_ne_true
  | nil =>
   have h0:∀ k,spec_l08Clean.l0 (k+1) ([]:List S44) 0=some true:=fun k=>by rw [spec_l08Clean.l0,if_neg (by simp)]
   exact Ev.step (hf []) (Ev.step h0 (Ev.now _))
 | succ n ih =>
  intro l hl hd hp hs
  have loop:∀ i,i≤l.length→Ev (fun k=>spec_l08Clean.l0 k l (i:Int)) (!(l.drop i).any (anyE badN (n+1))):=by
   refine Kit.down ?_ ?_
   ·rw [List.drop_length,List.any_nil]
    exact Ev.step (f:=fun _=>some true) (fun k=>by rw [spec_l08Clean.l0,if_neg (by omega)]) (Ev.now _)
   ·intro i hi ihi
    have hm:=Kit.getD_mem z44 hi
    have hok:=hd _ hm
    have hfp:=hp _ hm
    have hcx:cntN (n+1) (l.getD i z44)≤60:=by
     have:=le_cnt (n+1) l _ hm
     omega
    rw [Kit.drop_getD z44 l i hi,List.any_cons,anyE]
    refine Ev.step (fun k=>by rw [spec_l08Clean.l0]) (Kit.ev_pos (by omega) (Kit.ev_pos (by omega) ?_))
    rw [rdN_nat,Kit.wrap_nat hi (by omega)]
    generalize l.getD i z44=x at *
    have hg:=(goodE_of (n+1) x hok).1
    rw [okN,Bool.and_eq_true,List.all_eq_true] at hok
    obtain ⟨h3,h4,h5,hk⟩:x.f3.size≤1048576∧x.f4.length≤1048576∧x.f5.length≤1048576∧∀ y∈x.f5,FitP y:=by cases hfp with|mk x h2 h3 h4 h5 hk=>exact ⟨h3,h4.1,h5,hk⟩
    rw [cntN] at hcx
    have rest:∀ b:Bool,b=false→Ev (fun k=>(spec_l08Clean.f k x.f5).bind fun t=>if t=true then spec_l08Clean.l0 k l ((i+1:Nat):Int) else some false) (!((b || x.f5.any (anyE badN n)) || (l.drop (i+1)).any (anyE badN (n+1)))):=by
     rintro b rfl
     refine Ev.bind (ih x.f5 h5 hok.2 hk (by omega)) ?_
     cases hq:x.f5.any (anyE badN n) with
     | true=>exact Kit.ev_neg Bool.false_ne_true (Ev.now _)
     | false=>exact Kit.ev_pos rfl ihi
    have hbad:badN x=(harmN x || dirtyN x):=rfl
    have hdir:dirtyN x=(((x.f0 == 3) && !cmtN x) || (rawB x && x.f5.any markN)):=rfl
    refine Ev.bind (ev_l08Harm x hg h4) (Kit.ev_if (fun q1=>?_) (fun q1=>?_))
    ·rw [hbad,q1,Bool.true_or,Bool.true_or,Bool.true_or,Bool.not_true];exact Ev.now _
    ·have q1':harmN x=false:=Bool.eq_false_iff.2 q1
     rw [hbad,q1',Bool.false_or]
     by_cases e1:x.f0=1
     case pos =>
      have e3:(x.f0 == 3)=false:=by rw [e1];rfl
      rw [hdir,e3,Bool.false_and,Bool.false_or]
      refine Kit.ev_pos e1 (Ev.bind (ev_l08Raw n x e1 hok.1 hok.2 h5 hk (by omega)) ?_)
      cases hq:(rawB x && x.f5.any markN) with
      | true=>rw [Bool.true_or,Bool.true_or,Bool.not_true];exact Kit.ev_pos rfl (Ev.now _)
      | false=>exact Kit.ev_neg Bool.false_ne_true (Kit.ev_neg (by omega) (rest false rfl))
     case neg =>
      have er:rawB x=false:=by unfold rawB;rw [if_neg e1]
      rw [hdir,er,Bool.false_and,Bool.or_false]
      refine Kit.ev_neg e1 ?_
      by_cases e3:x.f0=3
      case neg =>
       have e3':(x.f0 == 3)=false:=by simpa using e3
       rw [e3',Bool.false_and]
       exact Kit.ev_neg e3 (rest false rfl)
      case pos =>
       have e3':(x.f0 == 3)=true:=by simpa using e3
       have hn:=note_facts x hok.1 e3
       have ec:cmtN x=cmtOK x.f3:=by unfold cmtN;rw [decide_eq_false (by omega),Bool.not_false,Bool.true_and]
       rw [e3',Bool.true_and,ec]
       refine Kit.ev_pos e3 (Ev.bind (ev_l02Comment x.f3 (by omega)) ?_)
       cases hq:cmtOK x.f3 with
       | false=>rw [Bool.not_false,Bool.true_or,Bool.true_or,Bool.not_true];exact Kit.ev_neg Bool.false_ne_true (Ev.now _)
       | true=>exact Kit.ev_pos rfl (rest _ rfl)
  exact Ev.step (hf l) (loop 0 (Nat.zero_le _))
theorem proved:laws_FnExactClean.PureS:=by
 intro x hg
 refine Ev.rounds (g:=fun k=>laws_FnExactClean.f k x) ?_
 unfold laws_FnExactClean.f
 obtain ⟨t,ht,_,hfit⟩:=ex_tree x hg 1048576 (by omega) (by omega)
 by_cases hneg:t<0
 case pos=>exact Ev.bind ht (Kit.ev_pos hneg (Ev.now _))
 case neg =>
  obtain ⟨ys,hto,hl,hf,heq⟩:=hfit (by omega)
  have hv:∃ v:Bool,Ev (fun k=>spec_Clean.f k ys) v∧impl_Clean.f ys=some v:=by
   unfold impl_Clean.f impl_Harmless.f
   rw [implTree ys hf,Option.bind_some]
   cases hb:treeB ys with
   | false =>
    refine ⟨false,?_,by rw [if_neg Bool.false_ne_true,Option.bind_some,if_neg Bool.false_ne_true]⟩
    unfold spec_Clean.f
    refine Kit.ev_if (fun _=>Ev.now _) (fun _=>?_)
    have h:=ev_l03Tree ys hl hf
    rw [hb] at h
    exact Ev.bind h (Kit.ev_neg Bool.false_ne_true (Ev.now _))
   | true =>
    obtain ⟨h1,h2⟩:=(treeB_iff ys).1 hb
    rw [List.all_eq_true] at h1
    have hg:∀ y∈ys,goodB 10 y=true:=fun y hy=>(goodB_iff 10 y).2 (goodE_of 10 y (h1 y hy))
    have hc:ys.all (goodC 10)=true:=List.all_eq_true.2 fun y hy=>goodC_ok 10 y (h1 y hy) (hf y hy)
    have hh:=each_any stepHP harmN Option.isNone (fun x p s=>by unfold stepHP;cases s <;> cases harmN x <;> rfl) 10 ys [] none
    have hd:=each_any stepC dirtyN (fun b=>b) (fun x p s=>by unfold stepC;cases s <;> cases dirtyN x <;> rfl) 10 ys [] true
    have hor:=any_or harmN dirtyN 10 ys
    rw [Option.isNone_none,Bool.true_and] at hh
    rw [Bool.true_and] at hd
    refine ⟨!ys.any (anyE badN 10),?_,?_⟩
    ·unfold spec_Clean.f
     have h:=ev_l03Tree ys hl hf
     rw [hb] at h
     have h2':=h2
     rw [cnt_len] at h2'
     exact Kit.ev_neg (by omega) (Ev.bind h (Kit.ev_pos rfl (Ev.bind (ev_l08Clean 10 ys (by omega) h1 hf h2) (Ev.now _))))
    ·rw [if_pos rfl,if_pos hg,Option.bind_some,hh,if_pos hc,hd]
     have hor':ys.any (anyE badN 10)=(ys.any (anyE harmN 10) || ys.any (anyE dirtyN 10)):=hor
     rw [hor']
     cases ys.any (anyE harmN 10) <;> rfl
  obtain ⟨v,hs,hi⟩:=hv
  refine Ev.bind ht (Kit.ev_neg hneg (Ev.bind hto (Ev.bind hs (Kit.ev_some hi (ev_cond ?_ (Ev.now _))))))
  obtain ⟨L,hL⟩:=heq
  refine ⟨L,fun k hk=>?_⟩
  have e2:laws_eqNodeS.f k ys ys=some true:=hL k hk
  rw [e2]
  simp
end Go.Proofs.Ytjlikemmhjclpaa.Pure.LClean
namespace Go.Proofs.Ytjlikemmhjclpaa.Pure
theorem FnExactClean:PFnExactClean.laws_FnExactClean.PureS:=LClean.proved
end Go.Proofs.Ytjlikemmhjclpaa.Pure
