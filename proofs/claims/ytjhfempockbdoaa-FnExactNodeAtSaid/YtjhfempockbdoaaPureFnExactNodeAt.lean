/- The pure statement of FnExactNodeAt: at every tree and path both functions tell the same node, and marks stay apart. No conditions. -/
import Derived.Test.YtjhfempockbdoaaKit
import Derived.Test.YtjhfempockbdoaaOpensFnExactNodeAt
namespace Go.Proofs.Ytjhfempockbdoaa.Pure.LNodeAt
open Go.RowKit Go.Proofs.Ytjhfempockbdoaa.PFnExactNodeAt Go.Proofs.YtjhfempockbdoaaW.PrintWords
/- Lists of attributes: laws' kind S67, the program's kind S63. -/
def toA (a:S67):S63:=⟨a.f0,a.f1⟩
theorem rdA_nat (xs:List S67) (i:Nat):rd_T67 xs (i:Int)=xs.getD i z67:=by simp [rd_T67]
theorem rdB_nat (xs:List S63) (i:Nat):rd_T63 xs (i:Int)=xs.getD i z63:=by simp [rd_T63]
def szA (a:S67) (l:Int):Int:=if l - (a.f0.size:Int)<0 then -1 else if l - (a.f0.size:Int) - (a.f1.size:Int)<0 then -1 else l - (a.f0.size:Int) - (a.f1.size:Int)
/-- An attribute whose texts are short. -/
def FitA (a:S67):Prop:=a.f0.size≤1048576∧a.f1.size≤1048576
theorem szAttr_eq (a:S67) (l:Int) (h0:0≤l) (h1:l≤1048576) (hg:G67 a):laws_szAttr.f a.f0 a.f1 l=some (szA a l):=by
 have s0:a.f0.size≤9223372036854775807:=hg.1
 have s1:a.f1.size≤9223372036854775807:=hg.2
 unfold laws_szAttr.f szA
 have hw:wrap64 (l - (a.f0.size:Int))=l - (a.f0.size:Int):=Kit.wrap_of (by omega) (by omega)
 rw [hw]
 by_cases h:l - (a.f0.size:Int)<0
 ·rw [if_pos h,if_pos h]
 ·rw [if_neg h,if_neg h]
  have hw2:wrap64 (l - (a.f0.size:Int) - (a.f1.size:Int))=l - (a.f0.size:Int) - (a.f1.size:Int):=Kit.wrap_of (by omega) (by omega)
  rw [hw2]
  by_cases h2:l - (a.f0.size:Int) - (a.f1.size:Int)<0
  ·rw [if_pos h2,if_pos h2]
  ·rw [if_neg h2,if_neg h2]
theorem szA_fit (a:S67) (l:Int) (h0:0≤l) (h1:l≤1048576):szA a l≤l∧(0≤szA a l→FitA a):=by
 unfold szA FitA
 by_cases h:l - (a.f0.size:Int)<0
 ·rw [if_pos h];exact ⟨by omega,fun h=>absurd h (by omega)⟩
 ·rw [if_neg h]
  by_cases h2:l - (a.f0.size:Int) - (a.f1.size:Int)<0
  ·rw [if_pos h2];exact ⟨by omega,fun h=>absurd h (by omega)⟩
  ·rw [if_neg h2];exact ⟨by omega,fun _=>⟨by omega,by omega⟩⟩
theorem ev_szAttrS (xs:List S67) (left:Int) (h0:0≤left) (h1:left≤1048576) (hx:Open.Few G67 xs) :
 ∃ t,Ev (fun k=>laws_szAttrS.f k xs left) t∧t≤left∧(0≤t→xs.length≤1048576∧∀ x∈xs,FitA x):=by
 have hn:=hx.1
 have hw:wrap64 (left - (xs.length:Int))=left - (xs.length:Int):=Kit.wrap_of (by omega) (by omega)
 unfold laws_szAttrS.f
 rw [hw]
 by_cases hneg:left - (xs.length:Int)<0
 ·exact ⟨-1,Kit.ev_pos hneg (Ev.now _),by omega,fun h=>absurd h (by omega)⟩
 ·obtain ⟨t,ht,htl,hg⟩:=Kit.ev_size z67 (xs:=xs) (P:=FitA) (E:=szA) (L:=fun k l i=>laws_szAttrS.l0 k xs l i) (fun a _ l a0 a1=>szA_fit a l a0 a1)
   (fun l=>Ev.step (fun k=>rfl) (Kit.ev_neg (by omega) (Ev.now _)))
   (fun i hi l a0 a1 hE=>Ev.step (fun k=>rfl) (Kit.ev_pos (by omega) (Kit.ev_pos (by omega) (by rw [rdA_nat];exact Kit.ev_some (szAttr_eq _ l a0 a1 (hx.2 _ (Kit.getD_mem _ hi))) (Kit.ev_pos hE (Ev.now _))))))
   (fun i hi l r a0 a1 hE ih=>Ev.step (fun k=>rfl) (Kit.ev_pos (by omega) (Kit.ev_pos (by omega) (by rw [rdA_nat,Kit.wrap_nat hi (by omega)];exact Kit.ev_some (szAttr_eq _ l a0 a1 (hx.2 _ (Kit.getD_mem _ hi))) (Kit.ev_neg (by omega) ih)))))
   (left - (xs.length:Int)) (by omega) (by omega)
  exact ⟨t,Kit.ev_neg hneg ht,by omega,fun h=>⟨by omega,hg h⟩⟩
theorem ev_toAttrS (xs:List S67) (hn:xs.length≤1048576):Ev (fun k=>laws_toAttrS.f k xs) (xs.map toA):=by
 unfold laws_toAttrS.f
 refine Kit.ev_pos (by omega) (Kit.ev_pos (by omega) ?_)
 rw [Int.toNat_natCast]
 refine Kit.ev_conv z67 (L:=fun k acc i=>laws_toAttrS.l0 k xs acc i) (fun acc hl=>Ev.step (fun k=>rfl) (Kit.ev_neg (by omega) (Ev.now _))) ?_ _ (by rw [List.length_replicate])
 intro i hi acc r hl ih
 refine Ev.step (fun k=>rfl) (Kit.ev_pos (by omega) (Kit.ev_pos (by omega) ?_))
 rw [rdA_nat,Kit.wrap_nat hi (by omega),Int.toNat_natCast]
 exact Kit.ev_some rfl (Kit.ev_pos (by omega) ih)
theorem ev_eqAttrS (xs:List S63) (hn:xs.length≤1048576):Ev (fun k=>laws_eqAttrS.f k xs xs) true:=by
 unfold laws_eqAttrS.f
 refine Kit.ev_pos rfl (Kit.ev_refl (n:=xs.length) (L:=fun k i=>laws_eqAttrS.l0 k xs xs i) (Ev.step (fun k=>rfl) (Kit.ev_neg (by omega) (Ev.now _))) ?_)
 intro i hi ih
 refine Ev.step (fun k=>rfl) (Kit.ev_pos (by omega) (Kit.ev_pos (by omega) (Kit.ev_pos (by omega) ?_)))
 rw [Kit.wrap_nat hi (by omega)]
 refine Kit.ev_some (a:=true) ?_ (Kit.ev_pos rfl ih)
 unfold laws_eqAttr.f
 rw [if_pos rfl,if_pos rfl]
/- Trees: laws' kind S43, the program's kind S28. -/
theorem rdLN_nat (xs:List S43) (i:Nat):rd_T43 xs (i:Int)=xs.getD i z43:=by simp [rd_T43]
theorem rdN_nat (xs:List S28) (i:Nat):rd_T28 xs (i:Int)=xs.getD i z28:=by simp [rd_T28]
theorem all_getD {α : Type} {P : α → Prop} (d : α) {xs:List α} (h:∀ j,j<xs.length→P (xs.getD j d)):∀ y∈xs,P y:=by
 intro y hy
 obtain ⟨j,hj,rfl⟩:=List.getElem_of_mem hy
 have:=h j hj
 rwa [List.getD_eq_getElem?_getD,List.getElem?_eq_getElem hj] at this
/-- A node whose texts are short. -/
inductive FitL:S43→Prop
 | mk (x:S43) (h2:x.f2.size≤1048576) (h3:x.f3.size≤1048576) (h4:x.f4.length≤1048576∧∀ a∈x.f4,FitA a) (h5:x.f5.length≤1048576) (hk:∀ y∈x.f5,FitL y):FitL x
mutual
/-- How many marks a tree takes. -/
def wtL:S43→Nat
 | ⟨_,_,_,_,a,k⟩=>4+2 * a.length+wtLS k
def wtLS:List S43→Nat
 | []=>0
 | y :: l=>wtL y+wtLS l
end
mutual
def wtP:S28→Nat
 | ⟨_,_,_,_,a,k⟩=>4+2 * a.length+wtPS k
def wtPS:List S28→Nat
 | []=>0
 | y :: l=>wtP y+wtPS l
end
theorem ev_szAttrSW (xs:List S67) (left:Int) (h0:0≤left) (h1:left≤1048576) (hx:Open.Few G67 xs) :
 ∃ t,Ev (fun k=>laws_szAttrS.f k xs left) t∧t≤left∧(0≤t→(xs.length≤1048576∧∀ x∈xs,FitA x)∧t+(xs.length:Int)≤left):=by
 have hn:=hx.1
 have hw:wrap64 (left - (xs.length:Int))=left - (xs.length:Int):=Kit.wrap_of (by omega) (by omega)
 unfold laws_szAttrS.f
 rw [hw]
 by_cases hneg:left - (xs.length:Int)<0
 ·exact ⟨-1,Kit.ev_pos hneg (Ev.now _),by omega,fun h=>absurd h (by omega)⟩
 ·obtain ⟨t,ht,htl,hg⟩:=Kit.ev_size z67 (xs:=xs) (P:=FitA) (E:=szA) (L:=fun k l i=>laws_szAttrS.l0 k xs l i) (fun a _ l a0 a1=>szA_fit a l a0 a1)
   (fun l=>Ev.step (fun k=>rfl) (Kit.ev_neg (by omega) (Ev.now _)))
   (fun i hi l a0 a1 hE=>Ev.step (fun k=>rfl) (Kit.ev_pos (by omega) (Kit.ev_pos (by omega) (by rw [rdA_nat];exact Kit.ev_some (szAttr_eq _ l a0 a1 (hx.2 _ (Kit.getD_mem _ hi))) (Kit.ev_pos hE (Ev.now _))))))
   (fun i hi l r a0 a1 hE ih=>Ev.step (fun k=>rfl) (Kit.ev_pos (by omega) (Kit.ev_pos (by omega) (by rw [rdA_nat,Kit.wrap_nat hi (by omega)];exact Kit.ev_some (szAttr_eq _ l a0 a1 (hx.2 _ (Kit.getD_mem _ hi))) (Kit.ev_neg (by omega) ih)))))
   (left - (xs.length:Int)) (by omega) (by omega)
  exact ⟨t,Kit.ev_neg hneg ht,by omega,fun h=>⟨⟨by omega,hg h⟩,by omega⟩⟩
theorem ex_szNodeS (xs:List S43) (hn:xs.length≤9223372036854775807) (hx:∀ y∈xs,∀ l:Int,0≤l→l≤1048576→∃ t,Ev (fun k=>laws_szNode.f k y.f0 y.f1 y.f2 y.f3 y.f4 y.f5 l) t∧t≤l∧(0≤t→FitL y∧(wtL y:Int)≤4+4 * (l - t))) (left:Int) (h0:0≤left) (h1:left≤1048576) :
 ∃ t,Ev (fun k=>laws_szNodeS.f k xs left) t∧t≤left∧(0≤t→xs.length≤1048576∧(∀ y∈xs,FitL y)∧(wtLS xs:Int)≤4 * (left - t)):=by
 have hw:wrap64 (left - (xs.length:Int))=left - (xs.length:Int):=Kit.wrap_of (by omega) (by omega)
 have he:∀ k,laws_szNodeS.f (k+1) xs left=if left - (xs.length:Int)<0 then (some (-1)) else (laws_szNodeS.l0 k xs (left - (xs.length:Int)) 0):=fun k=>by rw [laws_szNodeS.f,hw]
 by_cases hneg:left - (xs.length:Int)<0
 case pos=>exact ⟨-1,Ev.step he (Kit.ev_pos hneg (Ev.now _)),by omega,fun h=>absurd h (by omega)⟩
 case neg =>
  have key:∀ i,i≤xs.length→∀ l:Int,0≤l→l≤1048576→∃ t,Ev (fun k=>laws_szNodeS.l0 k xs l i) t∧t≤l∧(0≤t→(∀ j,i≤j→j<xs.length→FitL (xs.getD j z43))∧(wtLS (xs.drop i):Int)≤4 * ((xs.length:Int) - i)+4 * (l - t)):=by
   refine Kit.down ?_ ?_
   case refine_1 =>
    intro l a0 a1
    exact ⟨l,Ev.step (fun k=>rfl) (Kit.ev_neg (by omega) (Ev.now _)),Int.le_refl _,fun _=>⟨fun j h1 h2=>absurd h2 (by omega),by rw [List.drop_length,wtLS];omega⟩⟩
   case refine_2 =>
    intro i hi ih l a0 a1
    obtain ⟨t,ht,htl,htf⟩:=hx (xs.getD i z43) (Kit.getD_mem _ hi) l a0 a1
    by_cases hn2:t<0
    case pos =>
     refine ⟨-1,Ev.step (fun k=>rfl) (Kit.ev_pos (by omega) (Kit.ev_pos (by omega) ?_)),by omega,fun h=>absurd h (by omega)⟩
     rw [rdLN_nat]
     exact Ev.bind ht (Kit.ev_pos hn2 (Ev.now _))
    case neg =>
     obtain ⟨u,hu,hul,huf⟩:=ih t (by omega) (by omega)
     refine ⟨u,Ev.step (fun k=>rfl) (Kit.ev_pos (by omega) (Kit.ev_pos (by omega) ?_)),by omega,fun h=>⟨fun j h1 h2=>?_,?_⟩⟩
     case refine_1 =>
      rw [rdLN_nat,Kit.wrap_nat hi hn]
      exact Ev.bind ht (Kit.ev_neg hn2 hu)
     case refine_2 =>
      by_cases e:j=i
      case pos=>subst e;exact (htf (by omega)).1
      case neg=>exact (huf h).1 j (by omega) h2
     case refine_3 =>
      rw [Kit.drop_getD z43 xs i hi,wtLS]
      have e1:=(htf (by omega)).2
      have e2:=(huf h).2
      omega
  obtain ⟨t,ht,htl,htf⟩:=key 0 (by omega) (left - (xs.length:Int)) (by omega) (by omega)
  exact ⟨t,Ev.step he (Kit.ev_neg hneg ht),by omega,fun h=>⟨by omega,all_getD z43 fun j hj=>(htf h).1 j (Nat.zero_le _) hj,by have e1:=(htf h).2;rw [List.drop_zero] at e1;omega⟩⟩
theorem ex_szNode (x:S43) (hg:G43 x):∀ l:Int,0≤l→l≤1048576→∃ t,Ev (fun k=>laws_szNode.f k x.f0 x.f1 x.f2 x.f3 x.f4 x.f5 l) t∧t≤l∧(0≤t→FitL x∧(wtL x:Int)≤4+4 * (l - t)):=by
 induction hg with
 | mk x g0 g1 g2 g3 g4 g5 gk ih =>
  intro l h0 h1
  unfold Open.Short at g2 g3
  have w2:wrap64 (l - (x.f2.size:Int))=l - (x.f2.size:Int):=Kit.wrap_of (by omega) (by omega)
  have he:∀ k,laws_szNode.f (k+1) x.f0 x.f1 x.f2 x.f3 x.f4 x.f5 l=if l - (x.f2.size:Int)<0 then (some (-1)) else (if (wrap64 (l - (x.f2.size:Int) - (x.f3.size:Int)))<0 then (some (-1)) else ((laws_szAttrS.f k x.f4 (wrap64 (l - (x.f2.size:Int) - (x.f3.size:Int)))).bind fun t105=>(if t105<0 then (some (-1)) else ((laws_szNodeS.f k x.f5 t105).bind fun t106=>(if t106<0 then (some (-1)) else (some t106)))))):=fun k=>by rw [laws_szNode.f,w2]
  by_cases n2:l - (x.f2.size:Int)<0
  case pos=>exact ⟨-1,Ev.step he (Kit.ev_pos n2 (Ev.now _)),by omega,fun h=>absurd h (by omega)⟩
  case neg =>
   have w3:wrap64 (l - (x.f2.size:Int) - (x.f3.size:Int))=l - (x.f2.size:Int) - (x.f3.size:Int):=Kit.wrap_of (by omega) (by omega)
   rw [w3] at he
   by_cases n3:l - (x.f2.size:Int) - (x.f3.size:Int)<0
   case pos=>exact ⟨-1,Ev.step he (Kit.ev_neg n2 (Kit.ev_pos n3 (Ev.now _))),by omega,fun h=>absurd h (by omega)⟩
   case neg =>
    obtain ⟨t,ht,htl,htf⟩:=ev_szAttrSW x.f4 (l - (x.f2.size:Int) - (x.f3.size:Int)) (by omega) (by omega) g4
    by_cases n4:t<0
    case pos=>exact ⟨-1,Ev.step he (Kit.ev_neg n2 (Kit.ev_neg n3 (Ev.bind ht (Kit.ev_pos n4 (Ev.now _))))),by omega,fun h=>absurd h (by omega)⟩
    case neg =>
     obtain ⟨u,hu,hul,huf⟩:=ex_szNodeS x.f5 g5 ih t (by omega) (by omega)
     by_cases n5:u<0
     case pos=>exact ⟨-1,Ev.step he (Kit.ev_neg n2 (Kit.ev_neg n3 (Ev.bind ht (Kit.ev_neg n4 (Ev.bind hu (Kit.ev_pos n5 (Ev.now _))))))),by omega,fun h=>absurd h (by omega)⟩
     case neg=>exact ⟨u,Ev.step he (Kit.ev_neg n2 (Kit.ev_neg n3 (Ev.bind ht (Kit.ev_neg n4 (Ev.bind hu (Kit.ev_neg n5 (Ev.now _))))))),by omega,fun h=>⟨.mk x (by omega) (by omega) (htf (by omega)).1 (huf h).1 (huf h).2.1,by have e1:=(htf (by omega)).2;have e2:=(huf h).2.2;cases x with|mk x0 x1 x2 x3 x4 x5=>rw [wtL];simp only at *;omega⟩⟩
/-- A node of the program's kind whose texts are short. -/
inductive FitP:S28→Prop
 | mk (x:S28) (h2:x.f2.size≤1048576) (h3:x.f3.size≤1048576) (h4:x.f4.length≤1048576∧∀ a∈x.f4,a.f0.size≤1048576∧a.f1.size≤1048576) (h5:x.f5.length≤1048576) (hk:∀ y∈x.f5,FitP y):FitP x
theorem ex_toNodeS (xs:List S43) (hn:xs.length≤1048576) (hx:∀ y∈xs,∃ v:S28,Ev (fun k=>laws_toNode.f k y.f0 y.f1 y.f2 y.f3 y.f4 y.f5) (v.f0,v.f1,v.f2,v.f3,v.f4,v.f5)∧FitP v∧wtP v=wtL y):∃ ys:List S28,Ev (fun k=>laws_toNodeS.f k xs) ys∧ys.length=xs.length∧(∀ y∈ys,FitP y)∧wtPS ys=wtLS xs:=by
 have key:∀ i,i≤xs.length→∀ acc:List S28,acc.length=xs.length→(∀ j,j<i→FitP (acc.getD j z28))→∃ ys:List S28,Ev (fun k=>laws_toNodeS.l0 k xs acc i) ys∧ys.length=xs.length∧(∀ y∈ys,FitP y)∧ys.take i=acc.take i∧wtPS (ys.drop i)=wtLS (xs.drop i):=by
  refine Kit.down ?_ ?_
  case refine_1 =>
   intro acc hl hb
   exact ⟨acc,Ev.step (fun k=>rfl) (Kit.ev_neg (by omega) (Ev.now _)),hl,all_getD z28 fun j hj=>hb j (by omega),rfl,by rw [List.drop_length,←hl,List.drop_length];rfl⟩
  case refine_2 =>
   intro i hi ih acc hl hb
   obtain ⟨v,hv,hf,hwt⟩:=hx (xs.getD i z43) (Kit.getD_mem _ hi)
   obtain ⟨ys,hy,hyl,hyf,hyt,hyw⟩:=ih (acc.set i v) (by rw [List.length_set];exact hl) (fun j hj=>by
    rw [List.getD_eq_getElem?_getD,List.getElem?_set]
    by_cases e:i=j
    case pos=>subst e;rw [if_pos rfl,if_pos (by omega)];exact hf
    case neg=>rw [if_neg e,←List.getD_eq_getElem?_getD];exact hb j (by omega))
   refine ⟨ys,Ev.step (fun k=>rfl) (Kit.ev_pos (by omega) (Kit.ev_pos (by omega) ?_)),hyl,hyf,?_,?_⟩
   case refine_1 =>
    rw [rdLN_nat,Kit.wrap_nat hi (by omega),Int.toNat_natCast]
    cases v with
    | mk v0 v1 v2 v3 v4 v5=>exact Ev.bind hv (Kit.ev_pos (by omega) hy)
   case refine_2 =>
    have h3:=congrArg (List.take i) hyt
    rw [List.take_take,List.take_take,Nat.min_eq_left (by omega)] at h3
    rw [h3,List.take_set_of_le (Nat.le_refl _)]
   case refine_3 =>
    have e1:ys.getD i z28=v:=by
     have h3:=congrArg (fun l=>l[i]?) hyt
     simp only [List.getElem?_take] at h3
     rw [if_pos (by omega),if_pos (by omega),List.getElem?_set,if_pos rfl,if_pos (by omega)] at h3
     rw [List.getD_eq_getElem?_getD,h3]
     rfl
    rw [Kit.drop_getD z43 xs i hi,Kit.drop_getD z28 ys i (by omega),wtLS,wtPS,hyw,e1,hwt]
 obtain ⟨ys,hy,hyl,hyf,_,hyw⟩:=key 0 (by omega) (List.replicate xs.length z28) (List.length_replicate) (fun j hj=>absurd hj (Nat.not_lt_zero _))
 have he:∀ k,laws_toNodeS.f (k+1) xs=laws_toNodeS.l0 k xs (List.replicate xs.length z28) 0:=fun k=>by rw [laws_toNodeS.f,if_pos (by omega),if_pos (by omega),Int.toNat_natCast]
 exact ⟨ys,Ev.step he hy,hyl,hyf,hyw⟩
theorem ex_toNode (x:S43) (hf:FitL x):∃ v:S28,Ev (fun k=>laws_toNode.f k x.f0 x.f1 x.f2 x.f3 x.f4 x.f5) (v.f0,v.f1,v.f2,v.f3,v.f4,v.f5)∧FitP v∧wtP v=wtL x:=by
 induction hf with
 | mk x h2 h3 h4 h5 hk ih =>
  obtain ⟨ys,hy,hyl,hyf,hyw⟩:=ex_toNodeS x.f5 h5 ih
  refine ⟨⟨x.f0,x.f1,x.f2,x.f3,x.f4.map toA,ys⟩,Ev.step (fun k=>rfl) (Ev.bind (ev_toAttrS x.f4 h4.1) (Ev.bind hy (Ev.now _))),.mk _ h2 h3 ⟨?_,?_⟩ ?_ hyf,?_⟩
  case refine_1=>rw [List.length_map];exact h4.1
  case refine_2 =>
   intro a ha
   obtain ⟨b,hb,rfl⟩:=List.mem_map.1 ha
   exact h4.2 b hb
  case refine_3=>show ys.length≤_;omega
  case refine_4=>cases x with|mk x0 x1 x2 x3 x4 x5=>rw [wtP,wtL,hyw,List.length_map]
theorem ev_eqNodeS_of (xs:List S28) (hn:xs.length≤1048576) (hx:∀ y∈xs,Ev (fun k=>laws_eqNode.f k y.f0 y.f1 y.f2 y.f3 y.f4 y.f5 y.f0 y.f1 y.f2 y.f3 y.f4 y.f5) true):Ev (fun k=>laws_eqNodeS.f k xs xs) true:=by
 refine Ev.step (fun k=>rfl) (Kit.ev_pos rfl (Kit.ev_refl (n:=xs.length) (L:=fun k i=>laws_eqNodeS.l0 k xs xs i) (Ev.step (fun k=>rfl) (Kit.ev_neg (by omega) (Ev.now _))) ?_))
 intro i hi ih
 refine Ev.step (fun k=>rfl) (Kit.ev_pos (by omega) (Kit.ev_pos (by omega) (Kit.ev_pos (by omega) ?_)))
 rw [rdN_nat,Kit.wrap_nat hi (by omega)]
 exact Ev.bind (hx _ (Kit.getD_mem _ hi)) (Kit.ev_pos rfl ih)
theorem ev_eqNode (x:S28) (hf:FitP x):Ev (fun k=>laws_eqNode.f k x.f0 x.f1 x.f2 x.f3 x.f4 x.f5 x.f0 x.f1 x.f2 x.f3 x.f4 x.f5) true:=by
 induction hf with
 | mk x h2 h3 h4 h5 hk ih=>exact Ev.step (fun k=>rfl) (Kit.ev_pos rfl (Kit.ev_pos rfl (Kit.ev_pos rfl (Kit.ev_pos rfl (Ev.bind (ev_eqAttrS x.f4 h4.1) (Kit.ev_pos rfl (Ev.bind (ev_eqNodeS_of x.f5 h5 ih) (Kit.ev_pos rfl (Ev.now _)))))))))
/-- The argument of a law over a tree: its size, its form of the program's kind, which is like itself. -/
theorem ex_tree (xs:List S43) (hx:Open.Few G43 xs) (left:Int) (h0:0≤left) (h1:left≤1048576):∃ t,Ev (fun k=>laws_szNodeS.f k xs left) t∧t≤left∧(0≤t→∃ ys:List S28,Ev (fun k=>laws_toNodeS.f k xs) ys∧ys.length≤1048576∧(∀ y∈ys,FitP y)∧(wtPS ys:Int)≤4 * left∧Ev (fun k=>laws_eqNodeS.f k ys ys) true):=by
 obtain ⟨t,ht,htl,htf⟩:=ex_szNodeS xs hx.1 (fun y hy=>ex_szNode y (hx.2 y hy)) left h0 h1
 refine ⟨t,ht,htl,fun h=>?_⟩
 obtain ⟨hl,hf,hw⟩:=htf h
 obtain ⟨ys,hy,hyl,hyf,hyw⟩:=ex_toNodeS xs hl (fun y hy=>ex_toNode y (hf y hy))
 exact ⟨ys,hy,by omega,hyf,by omega,ev_eqNodeS_of ys (by omega) (fun y hy=>ev_eqNode y (hyf y hy))⟩
theorem fitB_of (x:S28) (h:FitP x):∀ n,fitB n x=true:=by
 induction h with
 | mk x h2 h3 h4 h5 hk ih =>
  intro n
  cases n with
  | zero=>rfl
  | succ n =>
   rw [fitB,Bool.and_eq_true,Bool.and_eq_true,List.all_eq_true,List.all_eq_true]
   exact ⟨⟨decide_eq_true (by omega),fun a ha=>decide_eq_true (by have:=(h4.2 a ha).1;omega)⟩,fun y hy=>ih y hy n⟩
/- What a tree is. -/
theorem rdA2_nat (xs:List S63) (i:Nat):rd_T63 xs (i:Int)=xs.getD i z63:=by simp [rd_T63]
theorem ev_l03Attrs (l:List S63) (hs:∀ a∈l,a.f0.size≤9223372036854775807) (hn:l.length≤9223372036854775807):Ev (fun k=>spec_l03Attrs.f k l) (attrsOK l):=by
 unfold spec_l03Attrs.f
 refine Kit.ev_if (fun h=>?_) (fun h=>?_)
 case refine_1 =>
  have:attrsOK l=false:=by unfold attrsOK;rw [decide_eq_false (by omega),Bool.and_false]
  rw [this]
  exact Ev.now _
 case refine_2 =>
  have key:∀ i,i≤l.length→(∀ j,j<i→attrAt l j=true)→Ev (fun k=>spec_l03Attrs.l0 k l i) (attrsOK l):=by
   refine Kit.down ?_ ?_
   case refine_1 =>
    intro hb
    have:attrsOK l=true:=by unfold attrsOK;rw [(Kit.allB_iff _ _ _).2 fun j _ hj=>hb j hj,decide_eq_true (by omega)];rfl
    rw [this]
    exact Ev.step (fun k=>rfl) (Kit.ev_neg (by omega) (Ev.now _))
   case refine_2 =>
    intro i hi ih hb
    have no:attrAt l i=false→attrsOK l=false:=by
     intro h2
     unfold attrsOK
     rw [Bool.and_eq_false_iff]
     refine .inl (Bool.eq_false_iff.2 fun h3=>?_)
     rw [(Kit.allB_iff _ _ _).1 h3 i (Nat.zero_le _) hi] at h2
     cases h2
    refine Ev.step (fun k=>rfl) (Kit.ev_pos (by omega) (Kit.ev_pos (by omega) ?_))
    rw [rdA2_nat]
    have ht:=ev_tag_spec (l.getD i z63).f0 (hs _ (Kit.getD_mem _ hi))
    have hj:∀ (b:Bool) (k:Nat),spec_l03Attrs.j1 (k+1) l i b=if b=true then (some false) else (spec_l03Attrs.l1 k l i 0):=fun b k=>by rw [spec_l03Attrs.j1]
    have hat:attrAt l i=((Kit.isTag (l.getD i z63).f0 && decide ((l.getD i z63).f1.size≤40)) && !Mach.anyP (nameAs l i) i):=rfl
    refine Ev.bind ht ?_
    cases hb1:Kit.isTag (l.getD i z63).f0 with
    | false =>
     rw [no (by rw [hat,hb1,Bool.false_and,Bool.false_and])]
     exact Kit.ev_neg Bool.false_ne_true (Ev.step (hj true) (Kit.ev_pos rfl (Ev.now _)))
    | true =>
     refine Kit.ev_pos rfl (Ev.step (hj _) ?_)
     by_cases hv:((l.getD i z63).f1.size:Int)>40
     case pos =>
      rw [no (by rw [hat,decide_eq_false (by omega),Bool.and_false,Bool.false_and])]
      exact Kit.ev_pos (decide_eq_true hv) (Ev.now _)
     case neg =>
      refine Kit.ev_neg (by simpa using hv) ?_
      have key2:∀ m,m≤i→(∀ j,j<m→nameAs l i j=false)→Ev (fun k=>spec_l03Attrs.l1 k l i m) (attrsOK l):=by
       refine Kit.down ?_ ?_
       case refine_1 =>
        intro hc
        refine Ev.step (fun k=>rfl) (Kit.ev_neg (by omega) ?_)
        rw [Kit.wrap_nat hi hn]
        refine ih fun j hj=>?_
        by_cases e:j=i
        case pos =>
         subst e
         have:Mach.anyP (nameAs l j) j=false:=Bool.eq_false_iff.2 fun h5=>by
          obtain ⟨q,hq,h6⟩:=(Mach.anyP_iff _ _).1 h5
          rw [hc q hq] at h6
          cases h6
         rw [hat,hb1,this,decide_eq_true (by omega)]
         rfl
        case neg=>exact hb j (by omega)
       case refine_2 =>
        intro m hm ih2 hc
        refine Ev.step (fun k=>rfl) (Kit.ev_pos (by omega) (Kit.ev_pos (by omega) (Kit.ev_pos (by omega) (Kit.ev_pos (by omega) (Kit.ev_pos (by omega) ?_)))))
        rw [rdA2_nat,rdA2_nat,Kit.wrap_nat hm (by omega)]
        refine Kit.ev_if (fun h7=>?_) (fun h7=>?_)
        case refine_1 =>
         have:Mach.anyP (nameAs l i) i=true:=(Mach.anyP_iff _ _).2 ⟨m,hm,beq_iff_eq.2 h7⟩
         rw [no (by rw [hat,this,Bool.not_true,Bool.and_false])]
         exact Ev.now _
        case refine_2 =>
         refine ih2 fun j hj=>?_
         by_cases e:j=m
         case pos=>subst e;exact beq_eq_false_iff_ne.2 h7
         case neg=>exact hc j (by omega)
      exact key2 0 (by omega) (fun j hj=>absurd hj (Nat.not_lt_zero _))
  exact key 0 (by omega) (fun j hj=>absurd hj (Nat.not_lt_zero _))
theorem l01In_now (n a b:Int):spec_l01In.f n a b=some (decide (a≤n∧n≤b)):=by
 unfold spec_l01In.f
 by_cases h:n≥a
 case pos=>rw [if_pos h];simp [h]
 case neg=>rw [if_neg h];simp;omega
theorem ev_l03Plain (x:S28) (hs:x.f2.size≤9223372036854775807) (ha:∀ a∈x.f4,a.f0.size≤9223372036854775807) (hn:x.f4.length≤9223372036854775807):Ev (fun k=>spec_l03Plain.f k x.f0 x.f1 x.f2 x.f3 x.f4 x.f5) (ownB x):=by
 unfold spec_l03Plain.f ownB
 have he:Ev (fun _=>if (x.f4.length:Int)=0 then (some ((x.f5.length:Int) == 0)) else (some false)) (if (x.f4.length:Int)=0 then ((x.f5.length:Int) == 0) else false):=by
  refine Kit.ev_if (fun h=>?_) (fun h=>?_)
  case refine_1=>rw [if_pos h];exact Ev.now _
  case refine_2=>rw [if_neg h];exact Ev.now _
 have no1:∀ b:Bool,x.f2.toList≠([]:List UInt8)→(b && emptyB x)=false:=fun b h=>by
  unfold emptyB
  by_cases h1:x.f1=0
  case pos=>rw [if_pos h1,if_neg h,Bool.and_false]
  case neg=>rw [if_neg h1,Bool.and_false]
 have no2:∀ b:Bool,x.f1≠0→(b && emptyB x)=false:=fun b h=>by
  unfold emptyB
  rw [if_neg h,Bool.and_false]
 refine Kit.ev_if (fun h=>?_) (fun h=>?_)
 case refine_1 =>
  rw [if_pos h]
  have ht:=ev_tag_spec x.f2 hs
  have hat:=ev_l03Attrs x.f4 ha hn
  generalize Kit.isTag x.f2=b1 at *
  generalize attrsOK x.f4=b3 at *
  refine Ev.bind ht ?_
  cases b1 with
  | false=>exact Kit.ev_neg Bool.false_ne_true (Ev.now _)
  | true =>
   refine Kit.ev_pos rfl (Kit.ev_some (l01In_now _ _ _) ?_)
   generalize decide (0≤x.f1∧x.f1≤2)=b2
   cases b2 with
   | false=>exact Kit.ev_neg Bool.false_ne_true (Ev.now _)
   | true =>
    refine Kit.ev_pos rfl (Kit.ev_if (fun h2=>?_) (fun h2=>?_))
    case refine_1 =>
     rw [beq_iff_eq.2 h2,Bool.and_true]
     exact Ev.bind hat (Ev.now _)
    case refine_2 =>
     rw [beq_eq_false_iff_ne.2 h2,Bool.and_false]
     exact Ev.now _
 case refine_2 =>
  rw [if_neg h]
  refine Kit.ev_if (fun h2=>?_) (fun h2=>?_)
  case refine_1 =>
   rw [if_pos h2]
   refine Kit.ev_if (fun e1=>?_) (fun e1=>?_)
   case refine_2=>rw [no1 _ e1];exact Ev.now _
   case refine_1 =>
    refine Kit.ev_if (fun e2=>?_) (fun e2=>?_)
    case refine_2=>rw [no2 _ e2];exact Ev.now _
    case refine_1 =>
     unfold emptyB
     rw [if_pos e2,if_pos e1]
     refine Kit.ev_some (l01In_now _ _ _) ?_
     generalize decide (1≤(x.f3.size:Int)∧(x.f3.size:Int)≤120)=b
     cases b with
     | false=>exact Kit.ev_neg Bool.false_ne_true (Ev.now _)
     | true=>exact Kit.ev_pos rfl he
  case refine_2 =>
   rw [if_neg h2]
   refine Kit.ev_if (fun h3=>?_) (fun h3=>?_)
   case refine_2=>rw [if_neg h3];exact Ev.now _
   case refine_1 =>
    rw [if_pos h3]
    refine Kit.ev_if (fun e1=>?_) (fun e1=>?_)
    case refine_2=>rw [no1 _ e1];exact Ev.now _
    case refine_1 =>
     refine Kit.ev_if (fun e2=>?_) (fun e2=>?_)
     case refine_2=>rw [no2 _ e2];exact Ev.now _
     case refine_1 =>
      unfold emptyB
      rw [if_pos e2,if_pos e1]
      refine Kit.ev_if (fun e3=>?_) (fun e3=>?_)
      case refine_1 =>
       rw [decide_eq_true (by omega)]
       exact he
      case refine_2 =>
       rw [decide_eq_false (by omega)]
       exact Ev.now _
theorem ev_l01Void (a:ByteArray):Ev (fun k=>spec_l01Void.f k a) (Kit.hasT voidL a):=Ev.bind (ev_l01Has _ a (by decide)) (Ev.now _)
theorem ev_l01Raw (a:ByteArray):Ev (fun k=>spec_l01Raw.f k a) (Kit.hasT rawL a):=Ev.bind (ev_l01Has _ a (by decide)) (Ev.now _)
theorem any_getD {α : Type} (p : α → Bool) (d : α) (xs:List α) (h:∀ j,j<xs.length→p (xs.getD j d)=false):xs.any p=false:=by
 refine Bool.eq_false_iff.2 fun h2=>?_
 obtain ⟨y,hy,h3⟩:=List.any_eq_true.1 h2
 rw [all_getD (P:=fun y=>p y=false) d h y hy] at h3
 cases h3
theorem ev_l03Holds (x:S28) (hn:x.f5.length≤9223372036854775807):Ev (fun k=>spec_l03Holds.f k x.f0 x.f1 x.f2 x.f3 x.f4 x.f5) (!voidFull x && !rawBad x):=by
 have yes:voidB x=false→rawB x=false→(!voidFull x && !rawBad x)=true:=fun h1 h2=>by unfold voidFull rawBad;rw [h1,h2];rfl
 have hj:∀ (b:Bool) (k:Nat),spec_l03Holds.j0 (k+1) b x.f0 x.f1 x.f2 x.f3 x.f4 x.f5=if b=true then (some true) else ((spec_l01Void.f k x.f2).bind fun t132=>(if t132=true then (some ((x.f5.length:Int) == 0)) else (spec_l03Holds.l0 k 0 x.f0 x.f1 x.f2 x.f3 x.f4 x.f5))):=fun b k=>by rw [spec_l03Holds.j0]
 unfold spec_l03Holds.f
 refine Kit.ev_if (fun h=>?_) (fun h=>?_)
 case refine_2 =>
  rw [yes (by unfold voidB;rw [if_neg h]) (by unfold rawB;rw [if_neg h])]
  exact Ev.step (hj true) (Kit.ev_pos rfl (Ev.now _))
 case refine_1 =>
  by_cases h1:x.f1=0
  case neg =>
   rw [yes (by unfold voidB;rw [if_pos h,if_neg h1]) (by unfold rawB;rw [if_pos h,if_neg h1])]
   exact Ev.step (hj _) (Kit.ev_pos (by simpa using h1) (Ev.now _))
  case pos =>
   have hv:voidB x=Kit.hasT voidL x.f2:=by unfold voidB;rw [if_pos h,if_pos h1]
   have hr:rawB x=Kit.hasT rawL x.f2:=by unfold rawB;rw [if_pos h,if_pos h1]
   refine Ev.step (hj _) (Kit.ev_neg (by simp [h1]) (Ev.bind (ev_l01Void x.f2) ?_))
   unfold voidFull rawBad
   rw [hv,hr]
   have rv:=ev_l01Raw x.f2
   cases Kit.hasT voidL x.f2 with
   | true =>
    refine Kit.ev_pos rfl ?_
    by_cases hz:x.f5=[]
    case pos =>
     rw [hz]
     have:(!(true && decide (0<([]:List S28).length)) && !(Kit.hasT rawL x.f2 && ([]:List S28).any noText))=true:=by simp
     rw [this]
     exact Ev.now _
    case neg =>
     have hl:0<x.f5.length:=List.length_pos_iff.2 hz
     rw [decide_eq_true hl]
     have:((x.f5.length:Int) == 0)=false:=beq_eq_false_iff_ne.2 (by omega)
     rw [this]
     exact Ev.now _
   | false =>
    refine Kit.ev_neg Bool.false_ne_true ?_
    rw [Bool.false_and,Bool.not_false,Bool.true_and]
    have key:∀ i,i≤x.f5.length→(Kit.hasT rawL x.f2=true→∀ j,j<i→noText (x.f5.getD j z28)=false)→Ev (fun k=>spec_l03Holds.l0 k i x.f0 x.f1 x.f2 x.f3 x.f4 x.f5) (!(Kit.hasT rawL x.f2 && x.f5.any noText)):=by
     refine Kit.down ?_ ?_
     case refine_1 =>
      intro hb
      have:(!(Kit.hasT rawL x.f2 && x.f5.any noText))=true:=by
       cases hq:Kit.hasT rawL x.f2 with
       | false=>rfl
       | true=>rw [any_getD noText z28 x.f5 (hb hq)];rfl
      rw [this]
      exact Ev.step (fun k=>rfl) (Kit.ev_neg (by omega) (Ev.now _))
     case refine_2 =>
      intro i hi ih hb
      refine Ev.step (fun k=>rfl) (Kit.ev_pos (by omega) (Ev.bind rv ?_))
      rw [rdN_nat,Kit.wrap_nat hi hn]
      refine Kit.ev_if (fun hq=>?_) (fun hq=>?_)
      case refine_2=>exact ih fun h2=>absurd h2 hq
      case refine_1 =>
       refine Kit.ev_pos (by omega) (Kit.ev_if (fun h2=>?_) (fun h2=>?_))
       case refine_1 =>
        refine ih fun _ j hj=>?_
        by_cases e:j=i
        case pos=>subst e;unfold noText;rw [h2];rfl
        case neg=>exact hb hq j (by omega)
       case refine_2 =>
        have:x.f5.any noText=true:=List.any_eq_true.2 ⟨x.f5.getD i z28,Kit.getD_mem _ hi,bne_iff_ne.2 h2⟩
        rw [this,hq]
        exact Ev.now _
    exact key 0 (by omega) (fun _ j hj=>absurd hj (Nat.not_lt_zero _))
/-- A node and all within are right, none deeper than may be; how many there are. -/
def okN:Nat→S28→Bool
 | 0,_=>false
 | n+1,x=>nodeOK x && x.f5.all (okN n)
def cntN:Nat→S28→Nat
 | 0,_=>1
 | n+1,x=>1+(x.f5.map (cntN n)).sum
def kidN (n:Nat) (x:S28):Nat:=cntN n x - 1
theorem cntN_pos (n:Nat) (x:S28):1≤cntN n x:=by
 cases n with
 | zero=>exact Nat.le_refl _
 | succ n=>rw [cntN];omega
theorem kidsI_ok (n:Nat) (hf:∀ (x:S28) (c:Int),0≤c→c≤60→((nodeI n x c).1=true ↔ okN n x=true∧c+cntN n x≤60)∧((nodeI n x c).1=true→(nodeI n x c).2=c+cntN n x)) (l:List S28):∀ c:Int,0≤c→c≤60→((kidsI (nodeI n) l c).1=true ↔ l.all (okN n)=true∧c+((l.map (cntN n)).sum:Nat)≤60)∧((kidsI (nodeI n) l c).1=true→(kidsI (nodeI n) l c).2=c+((l.map (cntN n)).sum:Nat)):=by
 induction l with
 | nil=>intro c h0 h1;exact ⟨⟨fun _=>⟨rfl,by simpa using h1⟩,fun _=>rfl⟩,fun _=>by simp [kidsI]⟩
 | cons x l ih =>
  intro c h0 h1
  obtain ⟨f1,f2⟩:=hf x c h0 h1
  rw [kidsI,List.all_cons,List.map_cons,List.sum_cons]
  by_cases hb:(nodeI n x c).1=true
  case pos =>
   obtain ⟨g1,g2⟩:=f1.1 hb
   have e2:=f2 hb
   rw [if_pos hb,e2,g1,Bool.true_and]
   have p1:=cntN_pos n x
   obtain ⟨i1,i2⟩:=ih (c+cntN n x) (by omega) g2
   refine ⟨⟨fun h=>?_,fun h=>?_⟩,fun h=>?_⟩
   case refine_1=>obtain ⟨j1,j2⟩:=i1.1 h;exact ⟨j1,by omega⟩
   case refine_2=>exact i1.2 ⟨h.1,by omega⟩
   case refine_3=>rw [i2 h];omega
  case neg =>
   rw [if_neg hb]
   refine ⟨⟨fun h=>?_,fun h=>?_⟩,fun h=>?_⟩
   case refine_1=>cases h
   case refine_2 =>
    obtain ⟨h3,h4⟩:=h
    rw [Bool.and_eq_true] at h3
    exact absurd (f1.2 ⟨h3.1,by omega⟩) hb
   case refine_3=>cases h
theorem nodeI_ok (n:Nat):∀ (x:S28) (c:Int),0≤c→c≤60→((nodeI n x c).1=true ↔ okN n x=true∧c+cntN n x≤60)∧((nodeI n x c).1=true→(nodeI n x c).2=c+cntN n x):=by
 induction n with
 | zero=>intro x c h0 h1;exact ⟨⟨fun h=>(by cases h),fun h=>(by cases h.1)⟩,fun h=>(by cases h)⟩
 | succ n ih =>
  intro x c h0 h1
  rw [nodeI,okN,cntN]
  by_cases h6:60<c+1
  case pos =>
   rw [if_pos h6]
   exact ⟨⟨fun h=>(by cases h),fun h=>(by have:=h.2;omega)⟩,fun h=>(by cases h)⟩
  case neg =>
   rw [if_neg h6]
   by_cases hk:nodeOK x=true
   case neg =>
    rw [if_neg hk,Bool.eq_false_iff.2 hk,Bool.false_and]
    exact ⟨⟨fun h=>(by cases h),fun h=>(by cases h.1)⟩,fun h=>(by cases h)⟩
   case pos =>
    rw [if_pos hk,hk,Bool.true_and]
    obtain ⟨i1,i2⟩:=kidsI_ok n ih x.f5 (c+1) (by omega) (by omega)
    refine ⟨⟨fun h=>?_,fun h=>?_⟩,fun h=>?_⟩
    case refine_1=>obtain ⟨j1,j2⟩:=i1.1 h;exact ⟨j1,by omega⟩
    case refine_2=>exact i1.2 ⟨h.1,by omega⟩
    case refine_3=>rw [i2 h];omega
theorem treeB_iff (l:List S28):treeB l=true ↔ l.all (okN 10)=true∧(l.map (cntN 10)).sum≤60:=by
 unfold treeB
 obtain ⟨i1,_⟩:=kidsI_ok 10 (nodeI_ok 10) l 0 (by omega) (by omega)
 rw [i1]
 constructor
 case mp=>intro h;exact ⟨h.1,by omega⟩
 case mpr=>intro h;exact ⟨h.1,by omega⟩
theorem cnt_len (n:Nat) (l:List S28):(l.map (cntN n)).sum=l.length+(l.map (kidN n)).sum:=by
 induction l with
 | nil=>rfl
 | cons x l ih =>
  rw [List.map_cons,List.map_cons,List.sum_cons,List.sum_cons,List.length_cons,ih]
  have:=cntN_pos n x
  unfold kidN
  omega
/-- What the reference counts. -/
theorem ev_l03OK (d:Nat) (hd:d≤10):∀ (l:List S28),l.length≤1048576→(∀ y∈l,FitP y)→∃ v:Int × Bool,Ev (fun k=>spec_l03OK.f k l (d:Int)) v∧(v.2=true ↔ l.all (okN d)=true∧(l.map (cntN d)).sum≤60)∧(v.2=true→v.1=((l.map (cntN d)).sum:Nat)):=by
 have f0:∀ (l:List S28) (d:Int) (k:Nat),spec_l03OK.f (k+1) l d=if (l.length:Int)>60 then (spec_l03OK.j0 k l d (l.length:Int) true) else (if d=0 then (spec_l03OK.j0 k l d (l.length:Int) (decide ((l.length:Int)>0))) else (spec_l03OK.j0 k l d (l.length:Int) false)):=fun l d k=>by rw [spec_l03OK.f]
 have j0:∀ (l:List S28) (d s:Int) (b:Bool) (k:Nat),spec_l03OK.j0 (k+1) l d s b=if b=true then (some (s,false)) else (spec_l03OK.l0 k l d s 0):=fun l d s b k=>by rw [spec_l03OK.j0]
 have l0:∀ (l:List S28) (d s i:Int) (k:Nat),spec_l03OK.l0 (k+1) l d s i=if i<(l.length:Int) then (if 0≤i then ((spec_l03Plain.f k (rd_T28 l i).f0 (rd_T28 l i).f1 (rd_T28 l i).f2 (rd_T28 l i).f3 (rd_T28 l i).f4 (rd_T28 l i).f5).bind fun t136=>(if t136=true then ((spec_l03Holds.f k (rd_T28 l i).f0 (rd_T28 l i).f1 (rd_T28 l i).f2 (rd_T28 l i).f3 (rd_T28 l i).f4 (rd_T28 l i).f5).bind fun t138=>(spec_l03OK.j2 k l d s i (!t138))) else (spec_l03OK.j2 k l d s i true))) else (none)) else (some (s,true)):=fun l d s i k=>by rw [spec_l03OK.l0]
 have j2:∀ (l:List S28) (d s i:Int) (b:Bool) (k:Nat),spec_l03OK.j2 (k+1) l d s i b=if b=true then (some (s,false)) else (if 0≤i then (if i<(l.length:Int) then ((spec_l03OK.f k (rd_T28 l i).f5 (wrap64 (d - 1))).bind fun bt140=>(if bt140.2=true then (if (wrap64 (s+bt140.1))>60 then (some (wrap64 (s+bt140.1),false)) else (spec_l03OK.l0 k l d (wrap64 (s+bt140.1)) (wrap64 (i+1)))) else (some (wrap64 (s+bt140.1),false)))) else (none)) else (none)):=fun l d s i b k=>by rw [spec_l03OK.j2]
 induction d with
 | zero =>
  intro l hl hf
  cases l with
  | nil =>
   refine ⟨(0,true),Ev.step (f0 [] 0) (Kit.ev_neg (by simp) (Kit.ev_pos rfl (Ev.step (j0 [] 0 _ _) (Kit.ev_neg (by simp) (Ev.step (l0 [] 0 _ 0) (Kit.ev_neg (by simp) (Ev.now _))))))),?_,fun _=>by simp⟩
   simp
  | cons x l =>
   have hno:¬ ((x :: l).all (okN 0)=true∧((x :: l).map (cntN 0)).sum≤60):=fun h=>by
    have:=h.1
    rw [List.all_cons,okN,Bool.false_and] at this
    cases this
   by_cases h60:(((x :: l).length:Nat):Int)>60
   case pos=>exact ⟨_,Ev.step (f0 _ _) (Kit.ev_pos h60 (Ev.step (j0 _ _ _ _) (Kit.ev_pos rfl (Ev.now _)))),⟨fun h=>(by cases h),fun h=>absurd h hno⟩,fun h=>(by cases h)⟩
   case neg=>exact ⟨_,Ev.step (f0 _ _) (Kit.ev_neg h60 (Kit.ev_pos rfl (Ev.step (j0 _ _ _ _) (Kit.ev_pos (decide_eq_true (by rw [List.length_cons];omega)) (Ev.now _))))),⟨fun h=>(by cases h),fun h=>absurd h hno⟩,fun h=>(by cases h)⟩
 | succ d ih =>
  intro l hl hf
  by_cases h60:(l.length:Int)>60
  case pos =>
   refine ⟨_,Ev.step (f0 _ _) (Kit.ev_pos h60 (Ev.step (j0 _ _ _ _) (Kit.ev_pos rfl (Ev.now _)))),⟨fun h=>(by cases h),fun h=>?_⟩,fun h=>(by cases h)⟩
   have:=h.2
   rw [cnt_len] at this
   omega
  case neg =>
   have key:∀ i,i≤l.length→∀ s:Nat,s≤60→∃ v:Int × Bool,Ev (fun k=>spec_l03OK.l0 k l ((d+1:Nat):Int) (s:Int) i) v∧(v.2=true ↔ (l.drop i).all (okN (d+1))=true∧s+((l.drop i).map (kidN (d+1))).sum≤60)∧(v.2=true→v.1=((s+((l.drop i).map (kidN (d+1))).sum:Nat):Int)):=by
    refine Kit.down ?_ ?_
    case refine_1 =>
     intro s hs
     refine ⟨((s:Int),true),Ev.step (l0 _ _ _ _) (Kit.ev_neg (by omega) (Ev.now _)),?_,fun _=>?_⟩
     case refine_1=>rw [List.drop_length];simp;exact hs
     case refine_2=>rw [List.drop_length];simp
    case refine_2 =>
     intro i hi ihi s hs
     have hfy:=hf _ (Kit.getD_mem z28 hi)
     rw [Kit.drop_getD z28 l i hi,List.all_cons,List.map_cons,List.sum_cons]
     have hst:∀ v:Int × Bool,Ev (fun k=>(spec_l03Plain.f k (l.getD i z28).f0 (l.getD i z28).f1 (l.getD i z28).f2 (l.getD i z28).f3 (l.getD i z28).f4 (l.getD i z28).f5).bind fun t136=>(if t136=true then ((spec_l03Holds.f k (l.getD i z28).f0 (l.getD i z28).f1 (l.getD i z28).f2 (l.getD i z28).f3 (l.getD i z28).f4 (l.getD i z28).f5).bind fun t138=>(spec_l03OK.j2 k l ((d+1:Nat):Int) (s:Int) i (!t138))) else (spec_l03OK.j2 k l ((d+1:Nat):Int) (s:Int) i true))) v→Ev (fun k=>spec_l03OK.l0 k l ((d+1:Nat):Int) (s:Int) i) v:=fun v hv=>by
      refine Ev.step (l0 _ _ _ _) (Kit.ev_pos (by omega) (Kit.ev_pos (by omega) ?_))
      rw [rdN_nat]
      exact hv
     have hj:∀ v:Int × Bool,Ev (fun k=>(spec_l03OK.f k (l.getD i z28).f5 (wrap64 (((d+1:Nat):Int) - 1))).bind fun bt140=>(if bt140.2=true then (if (wrap64 ((s:Int)+bt140.1))>60 then (some (wrap64 ((s:Int)+bt140.1),false)) else (spec_l03OK.l0 k l ((d+1:Nat):Int) (wrap64 ((s:Int)+bt140.1)) (wrap64 ((i:Int)+1)))) else (some (wrap64 ((s:Int)+bt140.1),false)))) v→Ev (fun k=>spec_l03OK.j2 k l ((d+1:Nat):Int) (s:Int) i false) v:=fun v hv=>by
      refine Ev.step (j2 _ _ _ _ _) (Kit.ev_neg Bool.false_ne_true (Kit.ev_pos (by omega) (Kit.ev_pos (by omega) ?_)))
      rw [rdN_nat]
      exact hv
     generalize l.getD i z28=y at *
     cases hfy with
     | mk _ q2 q3 q4 q5 qk =>
     have hp:=ev_l03Plain y (by omega) (fun a ha=>by have:=(q4.2 a ha).1;omega) (by omega)
     have hh:=ev_l03Holds y (by omega)
     have hok:okN (d+1) y=((ownB y && (!voidFull y && !rawBad y)) && y.f5.all (okN d)):=by rw [okN,nodeOK,Bool.and_assoc (ownB y)]
     have hck:kidN (d+1) y=(y.f5.map (cntN d)).sum:=by unfold kidN;rw [cntN];omega
     rw [hok,hck]
     cases hb1:ownB y with
     | false =>
      rw [hb1] at hp
      refine ⟨_,hst _ (Ev.bind hp (Kit.ev_neg Bool.false_ne_true (Ev.step (j2 _ _ _ _ _) (Kit.ev_pos rfl (Ev.now _))))),⟨fun h=>(by cases h),fun h=>(by cases h.1)⟩,fun h=>(by cases h)⟩
     | true =>
      rw [hb1] at hp
      cases hb2:(!voidFull y && !rawBad y) with
      | false =>
       rw [hb2] at hh
       refine ⟨_,hst _ (Ev.bind hp (Kit.ev_pos rfl (Ev.bind hh (Ev.step (j2 _ _ _ _ _) (Kit.ev_pos rfl (Ev.now _)))))),⟨fun h=>(by cases h),fun h=>(by cases h.1)⟩,fun h=>(by cases h)⟩
      | true =>
       rw [hb2] at hh
       have hjj:=fun v hv=>hst v (Ev.bind hp (Kit.ev_pos rfl (Ev.bind hh (hj v hv))))
       rw [Bool.true_and,Bool.true_and]
       obtain ⟨u,hu,hu1,hu2⟩:=ih (by omega) y.f5 q5 qk
       have hwd:wrap64 (((d+1:Nat):Int) - 1)=(d:Int):=by rw [Kit.wrap_of (by omega) (by omega)];omega
       rw [hwd] at hjj
       by_cases hub:u.2=true
       case neg =>
        refine ⟨_,hjj _ (Ev.bind hu (Kit.ev_neg hub (Ev.now _))),⟨fun h=>(by cases h),fun h=>?_⟩,fun h=>(by cases h)⟩
        obtain ⟨h3,h4⟩:=h
        rw [Bool.and_eq_true] at h3
        exact absurd (hu1.2 ⟨h3.1,by omega⟩) hub
       case pos =>
        obtain ⟨g1,g2⟩:=hu1.1 hub
        have g3:=hu2 hub
        rw [g1,Bool.true_and]
        have hws:wrap64 ((s:Int)+u.1)=((s+(y.f5.map (cntN d)).sum:Nat):Int):=by rw [g3,Kit.wrap_of (by omega) (by omega)];omega
        have hjk:∀ v,Ev (fun k=>if (((s+(y.f5.map (cntN d)).sum:Nat):Int))>60 then (some (((s+(y.f5.map (cntN d)).sum:Nat):Int),false)) else (spec_l03OK.l0 k l ((d+1:Nat):Int) ((s+(y.f5.map (cntN d)).sum:Nat):Int) ((i+1:Nat):Int))) v→_:=fun v hv=>hjj v (Ev.bind hu (Kit.ev_pos hub (by rw [hws,Kit.wrap_nat hi (by omega)];exact hv)))
        by_cases h6:(((s+(y.f5.map (cntN d)).sum:Nat):Int))>60
        case pos=>exact ⟨_,hjk _ (Kit.ev_pos h6 (Ev.now _)),⟨fun h=>(by cases h),fun h=>(by have:=h.2;omega)⟩,fun h=>(by cases h)⟩
        case neg =>
         obtain ⟨v,hv,hv1,hv2⟩:=ihi (s+(y.f5.map (cntN d)).sum) (by omega)
         refine ⟨v,hjk _ (Kit.ev_neg h6 hv),hv1.trans ⟨fun h=>⟨h.1,by omega⟩,fun h=>⟨h.1,by omega⟩⟩,fun h=>?_⟩
         rw [hv2 h]
         omega
   obtain ⟨v,hv,hv1,hv2⟩:=key 0 (by omega) l.length (by omega)
   rw [List.drop_zero] at hv1 hv2
   rw [cnt_len]
   exact ⟨v,Ev.step (f0 _ _) (Kit.ev_neg h60 (Kit.ev_neg (by omega) (Ev.step (j0 _ _ _ _) (Kit.ev_neg Bool.false_ne_true hv)))),hv1,hv2⟩
theorem ev_l03Tree (l:List S28) (hl:l.length≤1048576) (hf:∀ y∈l,FitP y):Ev (fun k=>spec_l03Tree.f k l) (treeB l):=by
 obtain ⟨v,hv,h1,_⟩:=ev_l03OK 10 (Nat.le_refl _) l hl hf
 have:v.2=treeB l:=by rw [Bool.eq_iff_iff,h1,treeB_iff]
 rw [←this]
 unfold spec_l03Tree.f
 exact Ev.bind hv (Ev.now _)
theorem implTree (l:List S28) (hf:∀ y∈l,FitP y):impl_TreeOK.f l=some (treeB l):=impl_TreeOK.fit (fun y hy=>fitB_of y (hf y hy) 10)
theorem implFault (l:List S28) (hf:∀ y∈l,FitP y):impl_fault.f l=some (if (l.length:Int)>4096 then 2 else if treeB l=true then 0 else 1):=by
 unfold impl_fault.f
 by_cases h:(l.length:Int)>4096
 case pos=>rw [if_pos h,if_pos h]
 case neg =>
  rw [if_neg h,if_neg h,implTree l hf,Option.bind_some]
  cases treeB l <;> rfl
/- Marks: their texts are there whatever the number. -/
theorem ev_shift {α : Type} {f g:Nat→Option α} {r : α} (n:Nat) (h:∀ k,g (k+n)=f k) (k:Ev f r):Ev g r:=by
 obtain ⟨K,hK⟩:=k
 refine ⟨K+n,fun k hk=>?_⟩
 obtain ⟨j,rfl⟩:∃ j,k=j+n:=⟨k - n,by omega⟩
 rw [h]
 exact hK j (by omega)
theorem one_size (c:Int):(strOfNums [c % 256]).size=1:=by
 rw [Kit.size_eq,Kit.bytesOf_strOf (fun x hx=>by
  rw [List.mem_singleton] at hx
  subst hx
  omega)]
 rfl
theorem ev_markText0:∀ (m:Nat) (a:Int),a<10 ^ m→a≤9223372036854775807→∀ s:ByteArray,s.size+m≤1000→∃ t,Ev (fun k=>laws_markText.l0 k a s) t:=by
 intro m
 induction m with
 | zero =>
  intro a ha _ s hs
  refine ⟨_,Ev.step (fun k=>rfl) (Kit.ev_neg (by omega) (Kit.ev_pos (by omega) (Ev.now _)))⟩
 | succ m ih =>
  intro a ha hb s hs
  by_cases h:a>0
  case neg=>exact ⟨_,Ev.step (fun k=>rfl) (Kit.ev_neg h (Kit.ev_pos (by omega) (Ev.now _)))⟩
  case pos =>
   have hq:Int.tdiv a 10<10 ^ m:=by
    rw [Int.tdiv_eq_ediv_of_nonneg (by omega)]
    have h1:(10:Int) ^ (m+1)=10 ^ m * 10:=Int.pow_succ 10 m
    rw [h1] at ha
    omega
   have hw:wrap64 (Int.tdiv a 10)=Int.tdiv a 10:=by
    rw [Int.tdiv_eq_ediv_of_nonneg (by omega)]
    exact Kit.wrap_of (by omega) (by omega)
   obtain ⟨t,ht⟩:=ih (Int.tdiv a 10) hq (by rw [Int.tdiv_eq_ediv_of_nonneg (by omega)];omega) (strOfNums [(wrap64 (48+(Int.tmod a 10))) % 256]++s) (by rw [ByteArray.size_append,one_size];omega)
   refine ⟨t,Ev.step (fun k=>rfl) (Kit.ev_pos h (Kit.ev_some rfl (Kit.ev_pos (by rw [one_size];omega) ?_)))⟩
   rw [hw]
   exact ht
theorem ev_markText (a:Int) (h:a≤9223372036854775807):∃ t,Ev (fun k=>laws_markText.f k a) t:=by
 unfold laws_markText.f
 by_cases h0:a≤0
 case pos=>exact ⟨_,Kit.ev_pos h0 (Ev.now _)⟩
 case neg =>
  obtain ⟨t,ht⟩:=ev_markText0 19 a (by omega) h (⟨#[]⟩:ByteArray) (by decide)
  exact ⟨t,Kit.ev_neg h0 ht⟩
/- Marks of trees and of lists of texts. -/
theorem ev_markAttrS (n:Nat) (l:List S63) (hl:l.length=n) (a:Int) (h0:0≤a) (h:a+2 * (n:Int)≤1000000000):∃ l',Ev (fun k=>laws_markAttrS.f k l a) (a+2 * (n:Int),l'):=by
 have key:∀ i,i≤n→∀ acc:List S63,acc.length=n→∃ l',Ev (fun k=>laws_markAttrS.l0 k acc (a+2 * (i:Int)) (i:Int)) (a+2 * (n:Int),l'):=by
  refine Kit.down ?_ ?_
  case refine_1=>intro acc hl;exact ⟨acc,Ev.step (fun k=>rfl) (Kit.ev_neg (by omega) (Ev.now _))⟩
  case refine_2 =>
   intro i hi ih acc hl
   obtain ⟨t,ht⟩:=ev_markText (a+2 * (i:Int)) (by omega)
   obtain ⟨u,hu⟩:=ev_markText (a+2 * (i:Int)+1) (by omega)
   obtain ⟨l',h1⟩:=ih ((acc.set (i:Int).toNat ⟨t,(rd_T63 acc (i:Int)).f1⟩).set (i:Int).toNat ⟨(rd_T63 (acc.set (i:Int).toNat ⟨t,(rd_T63 acc (i:Int)).f1⟩) (i:Int)).f0,u⟩) (by rw [List.length_set,List.length_set];exact hl)
   refine ⟨l',Ev.step (fun k=>rfl) (Kit.ev_pos (by omega) (Ev.bind ht (Kit.ev_pos (by omega) (Kit.ev_some rfl ?_))))⟩
   have w1:wrap64 (a+2 * (i:Int)+1)=a+2 * (i:Int)+1:=Kit.wrap_of (by omega) (by omega)
   have w2:wrap64 (a+2 * (i:Int)+1+1)=a+2 * ((i+1:Nat):Int):=by rw [Kit.wrap_of (by omega) (by omega)];omega
   rw [w1,w2,Kit.wrap_nat hi (by omega)]
   exact Ev.bind hu h1
 obtain ⟨l',h1⟩:=key 0 (by omega) l hl
 refine ⟨l',?_⟩
 unfold laws_markAttrS.f
 rw [show a+2 * ((0:Nat):Int)=a by omega] at h1
 exact h1
theorem getD_drop {α : Type} (d : α) {xs ys:List α} {i:Nat} (h:xs.drop i=ys.drop i) (hi:i<ys.length) (hx:i<xs.length):xs.getD i d=ys.getD i d∧xs.drop (i+1)=ys.drop (i+1):=by
 rw [Kit.drop_getD d xs i hx,Kit.drop_getD d ys i hi] at h
 injection h with h1 h2
 exact ⟨h1,h2⟩
theorem ev_markNodeS_of (xs:List S28) (hx:∀ y∈xs,∀ a:Int,0≤a→a+(wtPS y.f5:Int)≤1000000000→∃ u,Ev (fun k=>laws_markNodeS.f k y.f5 a) (a+(wtPS y.f5:Int),u)) (a:Int) (h0:0≤a) (h:a+(wtPS xs:Int)≤1000000000) (hn:xs.length≤1048576):∃ u,Ev (fun k=>laws_markNodeS.f k xs a) (a+(wtPS xs:Int),u):=by
 have key:∀ i,i≤xs.length→∀ acc:List S28,acc.length=xs.length→acc.drop i=xs.drop i→∀ a:Int,0≤a→a+(wtPS (xs.drop i):Int)≤1000000000→∃ u,Ev (fun k=>laws_markNodeS.l0 k acc a (i:Int)) (a+(wtPS (xs.drop i):Int),u):=by
  refine Kit.down ?_ ?_
  case refine_1 =>
   intro acc hl hd a a0 a1
   refine ⟨acc,Ev.step (fun k=>by rw [laws_markNodeS.l0]) (Kit.ev_neg (by omega) ?_)⟩
   rw [List.drop_length,wtPS,show a+((0:Nat):Int)=a by omega]
   exact Ev.now _
  case refine_2 =>
   intro i hi ih acc hl hd a a0 a1
   obtain ⟨e1,e2⟩:=getD_drop z28 hd hi (by omega)
   have hm:=Kit.getD_mem z28 hi
   have hxi:=hx _ hm
   rw [Kit.drop_getD z28 xs i hi,wtPS] at a1 ⊢
   have hw:wtP (xs.getD i z28)=4+2 * (xs.getD i z28).f4.length+wtPS (xs.getD i z28).f5:=by
    cases xs.getD i z28 with
    | mk x0 x1 x2 x3 x4 x5=>rw [wtP]
   rw [hw] at a1 ⊢
   obtain ⟨t,ht⟩:=ev_markText (a+2) (by omega)
   obtain ⟨t',ht'⟩:=ev_markText (a+3) (by omega)
   obtain ⟨ua,hua⟩:=ev_markAttrS _ (xs.getD i z28).f4 rfl (a+4) (by omega) (by omega)
   obtain ⟨uk,huk⟩:=hxi (a+4+2 * ((xs.getD i z28).f4.length:Int)) (by omega) (by omega)
   obtain ⟨u,hu⟩:=ih (acc.set (i:Int).toNat ⟨a,a+1,t,t',ua,uk⟩) (by rw [List.length_set];exact hl) (by rw [Int.toNat_natCast,List.drop_set,if_pos (by omega)];exact e2) (a+4+2 * ((xs.getD i z28).f4.length:Int)+(wtPS (xs.getD i z28).f5:Int)) (by omega) (by omega)
   refine ⟨u,Ev.step (fun k=>by rw [laws_markNodeS.l0]) (Kit.ev_pos (by omega) (Kit.ev_pos (by omega) ?_))⟩
   have w1:wrap64 (a+1)=a+1:=Kit.wrap_of (by omega) (by omega)
   have w2:wrap64 (a+1+1)=a+2:=by rw [Kit.wrap_of (by omega) (by omega)];omega
   have w3:wrap64 (a+2+1)=a+3:=by rw [Kit.wrap_of (by omega) (by omega)];omega
   have w4:wrap64 (a+3+1)=a+4:=by rw [Kit.wrap_of (by omega) (by omega)];omega
   rw [w1,w2,w3,w4,rdN_nat,Kit.wrap_nat hi (by omega),e1]
   have e9:a+((4+2 * (xs.getD i z28).f4.length+wtPS (xs.getD i z28).f5+wtPS (xs.drop (i+1)):Nat):Int)=a+4+2 * ((xs.getD i z28).f4.length:Int)+(wtPS (xs.getD i z28).f5:Int)+(wtPS (xs.drop (i+1)):Int):=by omega
   rw [e9]
   exact Ev.bind ht (Ev.bind ht' (Ev.bind hua (Ev.bind huk hu)))
 obtain ⟨u,hu⟩:=key 0 (by omega) xs rfl rfl a h0 h
 exact ⟨u,Ev.step (fun k=>by rw [laws_markNodeS.f];rfl) hu⟩
theorem ev_markNode (x:S28) (hf:FitP x):∀ a:Int,0≤a→a+(wtPS x.f5:Int)≤1000000000→∃ u,Ev (fun k=>laws_markNodeS.f k x.f5 a) (a+(wtPS x.f5:Int),u):=by
 induction hf with
 | mk x h2 h3 h4 h5 hk ih=>intro a h0 h;exact ev_markNodeS_of x.f5 ih a h0 h h5
theorem ev_markNodeS (xs:List S28) (hf:∀ y∈xs,FitP y) (hn:xs.length≤1048576) (hw:wtPS xs≤100000000):∃ u,Ev (fun k=>laws_markNodeS.f k xs 1) (1+(wtPS xs:Int),u) :=
 ev_markNodeS_of xs (fun y hy=>ev_markNode y (hf y hy)) 1 (by omega) (by omega) hn
theorem ev_cond {α : Type} {c:Nat→Bool} {f g:Nat→Option α} {r : α} (hc:∃ K,∀ k,K≤k→c k=true) (h:Ev f r):Ev (fun k=>if c k=true then f k else g k) r:=by
 obtain ⟨K,hK⟩:=hc
 obtain ⟨L,hL⟩:=h
 exact ⟨max K L,fun k hk=>by show (if c k=true then f k else g k)=_;rw [if_pos (hK k (by omega))];exact hL k (by omega)⟩
/- Marks of trees are held. -/
theorem take_next {α : Type} (d : α) {l acc:List α} {i:Nat} {v : α} (h:l.take (i+1)=(acc.set i v).take (i+1)) (hi:i<acc.length) (_hl:i<l.length):l.getD i d=v∧l.take i=acc.take i:=by
 constructor
 ·have h3:=congrArg (fun l=>l[i]?) h
  simp only [List.getElem?_take] at h3
  rw [if_pos (by omega),if_pos (by omega),List.getElem?_set,if_pos rfl,if_pos (by omega)] at h3
  rw [List.getD_eq_getElem?_getD,h3]
  rfl
 ·have h3:=congrArg (List.take i) h
  rw [List.take_take,List.take_take,Nat.min_eq_left (by omega)] at h3
  rw [h3,List.take_set_of_le (Nat.le_refl _)]
theorem ev_mhAttrS (n:Nat) (l:List S63) (hl:l.length=n) (a:Int) (h0:0≤a) (h:a+2 * (n:Int)≤1000000000):∃ l':List S63,Ev (fun k=>laws_markAttrS.f k l a) (a+2 * (n:Int),l')∧Ev (fun k=>laws_heldAttrS.f k l' a) (a+2 * (n:Int)):=by
 have key:∀ i,i≤n→∀ acc:List S63,acc.length=n→∃ l':List S63,l'.length=n∧l'.take i=acc.take i∧Ev (fun k=>laws_markAttrS.l0 k acc (a+2 * (i:Int)) (i:Int)) (a+2 * (n:Int),l')∧Ev (fun k=>laws_heldAttrS.l0 k l' (a+2 * (i:Int)) (i:Int)) (a+2 * (n:Int)):=by
  refine Kit.down ?_ ?_
  case refine_1=>intro acc hl;exact ⟨acc,hl,rfl,Ev.step (fun k=>rfl) (Kit.ev_neg (by omega) (Ev.now _)),Ev.step (fun k=>rfl) (Kit.ev_neg (by omega) (Ev.now _))⟩
  case refine_2 =>
   intro i hi ih acc hl
   obtain ⟨t,ht⟩:=ev_markText (a+2 * (i:Int)) (by omega)
   obtain ⟨u,hu⟩:=ev_markText (a+2 * (i:Int)+1) (by omega)
   have hset:(acc.set (i:Int).toNat ⟨t,(rd_T63 acc (i:Int)).f1⟩).set (i:Int).toNat ⟨(rd_T63 (acc.set (i:Int).toNat ⟨t,(rd_T63 acc (i:Int)).f1⟩) (i:Int)).f0,u⟩=acc.set i ⟨t,u⟩:=by
    rw [Int.toNat_natCast,List.set_set,rdB_nat]
    congr 2
    rw [List.getD_eq_getElem?_getD,List.getElem?_set,if_pos rfl,if_pos (by omega)]
    rfl
   obtain ⟨l',g1,g2,g3,g4⟩:=ih (acc.set i ⟨t,u⟩) (by rw [List.length_set];exact hl)
   obtain ⟨e1,e2⟩:=take_next z63 g2 (by omega) (by omega)
   have w1:wrap64 (a+2 * (i:Int)+1)=a+2 * (i:Int)+1:=Kit.wrap_of (by omega) (by omega)
   have w2:wrap64 (a+2 * (i:Int)+1+1)=a+2 * ((i+1:Nat):Int):=by rw [Kit.wrap_of (by omega) (by omega)];omega
   refine ⟨l',g1,e2,Ev.step (fun k=>rfl) (Kit.ev_pos (by omega) (Ev.bind ht (Kit.ev_pos (by omega) (Kit.ev_some rfl ?_)))),Ev.step (fun k=>rfl) (Kit.ev_pos (by omega) (Kit.ev_pos (by omega) (Ev.bind ht (Kit.ev_pos ?_ ?_))))⟩
   ·rw [w1,w2,Kit.wrap_nat hi (by omega)]
    exact Ev.bind hu (by rw [hset];exact g3)
   ·rw [rdB_nat,e1]
   ·rw [w1,w2,Kit.wrap_nat hi (by omega)]
    exact Ev.bind hu (Kit.ev_pos (by rw [rdB_nat,e1]) g4)
 obtain ⟨l',_,_,h1,h2⟩:=key 0 (by omega) l hl
 refine ⟨l',?_,?_⟩
 ·unfold laws_markAttrS.f
  rw [show a+2 * ((0:Nat):Int)=a by omega] at h1
  exact h1
 ·unfold laws_heldAttrS.f
  rw [show a+2 * ((0:Nat):Int)=a by omega] at h2
  exact h2
theorem ev_mhNodeS_of (xs:List S28) (hx:∀ y∈xs,∀ a:Int,0≤a→a+(wtPS y.f5:Int)≤1000000000→∃ u,Ev (fun k=>laws_markNodeS.f k y.f5 a) (a+(wtPS y.f5:Int),u)∧Ev (fun k=>laws_heldNodeS.f k u a) (a+(wtPS y.f5:Int))) (a:Int) (h0:0≤a) (h:a+(wtPS xs:Int)≤1000000000) (hn:xs.length≤1048576):∃ u,Ev (fun k=>laws_markNodeS.f k xs a) (a+(wtPS xs:Int),u)∧Ev (fun k=>laws_heldNodeS.f k u a) (a+(wtPS xs:Int)):=by
 have key:∀ i,i≤xs.length→∀ acc:List S28,acc.length=xs.length→acc.drop i=xs.drop i→∀ a:Int,0≤a→a+(wtPS (xs.drop i):Int)≤1000000000→∃ u:List S28,u.length=xs.length∧u.take i=acc.take i∧Ev (fun k=>laws_markNodeS.l0 k acc a (i:Int)) (a+(wtPS (xs.drop i):Int),u)∧Ev (fun k=>laws_heldNodeS.l0 k u a (i:Int)) (a+(wtPS (xs.drop i):Int)):=by
  refine Kit.down ?_ ?_
  case refine_1 =>
   intro acc hl hd a a0 a1
   rw [List.drop_length,wtPS,show a+((0:Nat):Int)=a by omega]
   exact ⟨acc,hl,rfl,Ev.step (f:=fun _=>some (a,acc)) (fun k=>by rw [laws_markNodeS.l0,if_neg (by omega)]) (Ev.now _),Ev.step (f:=fun _=>some a) (fun k=>by rw [laws_heldNodeS.l0,if_neg (by omega)]) (Ev.now _)⟩
  case refine_2 =>
   intro i hi ih acc hl hd a a0 a1
   obtain ⟨e1,e2⟩:=getD_drop z28 hd hi (by omega)
   have hm:=Kit.getD_mem z28 hi
   have hxi:=hx _ hm
   rw [Kit.drop_getD z28 xs i hi,wtPS] at a1 ⊢
   have hw:wtP (xs.getD i z28)=4+2 * (xs.getD i z28).f4.length+wtPS (xs.getD i z28).f5:=by
    cases xs.getD i z28 with
    | mk x0 x1 x2 x3 x4 x5=>rw [wtP]
   rw [hw] at a1 ⊢
   obtain ⟨t,ht⟩:=ev_markText (a+2) (by omega)
   obtain ⟨t',ht'⟩:=ev_markText (a+3) (by omega)
   obtain ⟨ua,hua,hva⟩:=ev_mhAttrS _ (xs.getD i z28).f4 rfl (a+4) (by omega) (by omega)
   obtain ⟨uk,huk,hvk⟩:=hxi (a+4+2 * ((xs.getD i z28).f4.length:Int)) (by omega) (by omega)
   obtain ⟨u,g1,g2,g3,g4⟩:=ih (acc.set i ⟨a,a+1,t,t',ua,uk⟩) (by rw [List.length_set];exact hl) (by rw [List.drop_set,if_pos (by omega)];exact e2) (a+4+2 * ((xs.getD i z28).f4.length:Int)+(wtPS (xs.getD i z28).f5:Int)) (by omega) (by omega)
   obtain ⟨q1,q2⟩:=take_next z28 g2 (by omega) (by omega)
   have w1:wrap64 (a+1)=a+1:=Kit.wrap_of (by omega) (by omega)
   have w2:wrap64 (a+1+1)=a+2:=by rw [Kit.wrap_of (by omega) (by omega)];omega
   have w3:wrap64 (a+2+1)=a+3:=by rw [Kit.wrap_of (by omega) (by omega)];omega
   have w4:wrap64 (a+3+1)=a+4:=by rw [Kit.wrap_of (by omega) (by omega)];omega
   have e9:a+((4+2 * (xs.getD i z28).f4.length+wtPS (xs.getD i z28).f5+wtPS (xs.drop (i+1)):Nat):Int)=a+4+2 * ((xs.getD i z28).f4.length:Int)+(wtPS (xs.getD i z28).f5:Int)+(wtPS (xs.drop (i+1)):Int):=by omega
   rw [e9]
   refine ⟨u,g1,q2,Ev.step (fun k=>by rw [laws_markNodeS.l0]) (Kit.ev_pos (by omega) (Kit.ev_pos (by omega) ?_)),Ev.step (fun k=>by rw [laws_heldNodeS.l0]) (Kit.ev_pos (by omega) (Kit.ev_pos (by omega) ?_))⟩
   ·rw [w1,w2,w3,w4,rdN_nat,Kit.wrap_nat hi (by omega),e1,Int.toNat_natCast]
    exact Ev.bind ht (Ev.bind ht' (Ev.bind hua (Ev.bind huk g3)))
   ·rw [w1,w2,w3,w4,rdN_nat,Kit.wrap_nat hi (by omega),q1]
    exact Kit.ev_pos rfl (Kit.ev_pos rfl (Ev.bind ht (Kit.ev_pos rfl (Ev.bind ht' (Kit.ev_pos rfl (Ev.bind hva (Kit.ev_neg (by omega) (Ev.bind hvk (Kit.ev_neg (by omega) g4)))))))))
 obtain ⟨u,_,_,hu,hv⟩:=key 0 (by omega) xs rfl rfl a h0 h
 exact ⟨u,Ev.step (fun k=>by rw [laws_markNodeS.f];rfl) hu,Ev.step (fun k=>by rw [laws_heldNodeS.f];rfl) hv⟩
theorem ev_mhNode (x:S28) (hf:FitP x):∀ a:Int,0≤a→a+(wtPS x.f5:Int)≤1000000000→∃ u,Ev (fun k=>laws_markNodeS.f k x.f5 a) (a+(wtPS x.f5:Int),u)∧Ev (fun k=>laws_heldNodeS.f k u a) (a+(wtPS x.f5:Int)):=by
 induction hf with
 | mk x h2 h3 h4 h5 hk ih=>intro a h0 h;exact ev_mhNodeS_of x.f5 ih a h0 h h5
theorem ev_mhNodeS (xs:List S28) (hf:∀ y∈xs,FitP y) (hn:xs.length≤1048576) (hw:wtPS xs≤100000000):∃ u,Ev (fun k=>laws_markNodeS.f k xs 1) (1+(wtPS xs:Int),u)∧Ev (fun k=>laws_heldNodeS.f k u 1) (1+(wtPS xs:Int)) :=
 ev_mhNodeS_of xs (fun y hy=>ev_mhNode y (hf y hy)) 1 (by omega) (by omega) hn
/- Nodes at paths: what both functions of the edits ask. -/
theorem rdI_nat (xs:List Int) (i:Nat):rd xs (i:Int)=xs.getD i 0:=by simp [rd]
def tupN (x:S28) (b:Bool):Int × Int × ByteArray × ByteArray × List S63 × List S28 × Bool:=(x.f0,x.f1,x.f2,x.f3,x.f4,x.f5,b)
def walkTo:S28→List Int→Option S28
 | x,[]=>some x
 | x,i :: ps=>if 0≤i∧i<(x.f5.length:Int) then walkTo (x.f5.getD i.toNat z28) ps else none
theorem atPath_nil (xs:List S28):atPath xs []=none:=by rw [atPath]
theorem atPath_one (xs:List S28) (i:Int):atPath xs [i]=if 0≤i∧i<(xs.length:Int) then some (xs.getD i.toNat z28) else none:=by rw [atPath]
theorem atPath_two (xs:List S28) (i j:Int) (ps:List Int):atPath xs (i :: j :: ps)=if 0≤i∧i<(xs.length:Int) then atPath (xs.getD i.toNat z28).f5 (j :: ps) else none:=by rw [atPath]
theorem walkTo_at (ps:List Int):∀ (x:S28) (i:Int),walkTo x (i :: ps)=atPath x.f5 (i :: ps):=by
 induction ps with
 | nil=>intro x i;rw [atPath_one,walkTo];rfl
 | cons j ps ih =>
  intro x i
  rw [atPath_two,walkTo]
  split
  ·exact ih _ j
  ·rfl
theorem fit_kid {x:S28} (h:FitP x):(∀ y∈x.f5,FitP y)∧x.f5.length≤1048576:=by
 cases h with
 | mk _ h2 h3 h4 h5 hk=>exact ⟨hk,h5⟩
theorem at_loop (path:List Int) (hn:path.length≤1048576):∀ i,i≤path.length→∀ x:S28,(∀ y∈x.f5,FitP y)→x.f5.length≤1048576→∃ e,Ev (fun k=>spec_l03At.l0 k path (i:Int) x.f0 x.f1 x.f2 x.f3 x.f4 x.f5) e∧(∀ y,walkTo x (path.drop i)=some y→e=tupN y (decide ((path.length:Int)>0)))∧(walkTo x (path.drop i)=none→e.2.2.2.2.2.2=false):=by
 refine Kit.down ?_ ?_
 case refine_1 =>
  intro x _ _
  refine ⟨_,Ev.step (fun k=>rfl) (Kit.ev_neg (by omega) (Ev.now _)),fun y hy=>?_,fun hy=>?_⟩
  ·rw [List.drop_length,walkTo] at hy
   obtain rfl:=Option.some.inj hy
   rfl
  ·rw [List.drop_length,walkTo] at hy
   cases hy
 case refine_2 =>
  intro i hi ih x hx hxl
  have hd:path.drop i=path.getD i 0 :: path.drop (i+1):=by
   rw [List.drop_eq_getElem_cons hi,List.getD_eq_getElem?_getD,List.getElem?_eq_getElem hi]
   rfl
  rw [hd,walkTo]
  by_cases hb:0≤path.getD i 0∧path.getD i 0<(x.f5.length:Int)
  case pos =>
   have hm:x.f5.getD (path.getD i 0).toNat z28∈x.f5:=Kit.getD_mem z28 (show (path.getD i 0).toNat<x.f5.length by omega)
   obtain ⟨e,h1,h2,h3⟩:=ih (x.f5.getD (path.getD i 0).toNat z28) (fit_kid (hx _ hm)).1 (fit_kid (hx _ hm)).2
   rw [if_pos hb]
   refine ⟨e,Ev.step (fun k=>rfl) (Kit.ev_pos (by omega) (Kit.ev_pos (by omega) ?_)),h2,h3⟩
   rw [rdI_nat,Kit.wrap_of (by omega) (by omega),Kit.wrap_nat hi (by omega)]
   exact Kit.ev_some (l01In_now _ _ _) (Kit.ev_pos (decide_eq_true (by omega)) (Kit.ev_pos hb.1 (Kit.ev_pos hb.2 h1)))
  case neg =>
   rw [if_neg hb]
   refine ⟨(0,0,(⟨#[]⟩:ByteArray),(⟨#[]⟩:ByteArray),([]:List S63),([]:List S28),false),Ev.step (fun k=>rfl) (Kit.ev_pos (by omega) (Kit.ev_pos (by omega) ?_)),fun y hy=>(by cases hy),fun _=>rfl⟩
   rw [rdI_nat,Kit.wrap_of (by omega) (by omega)]
   exact Kit.ev_some (l01In_now _ _ _) (Kit.ev_neg (by rw [decide_eq_true_iff];omega) (Ev.now _))
theorem ex_l03At (l:List S28) (path:List Int) (hl:l.length≤1048576) (hf:∀ y∈l,FitP y) (hn:path.length≤1048576):∃ e,Ev (fun k=>spec_l03At.f k l path) e∧(∀ y,atPath l path=some y→e=tupN y true)∧(atPath l path=none→e.2.2.2.2.2.2=false):=by
 obtain ⟨e,h1,h2,h3⟩:=at_loop path hn 0 (Nat.zero_le _) ⟨0,0,⟨#[]⟩,⟨#[]⟩,[],l⟩ hf hl
 refine ⟨e,by unfold spec_l03At.f;exact h1,?_,?_⟩
 ·intro y hy
  cases path with
  | nil=>rw [atPath_nil] at hy;cases hy
  | cons i ps =>
   rw [List.drop_zero,walkTo_at] at h2
   have:=h2 y hy
   rw [this]
   show tupN y (decide (((i :: ps).length:Int)>0))=tupN y true
   rw [decide_eq_true (by rw [List.length_cons];omega)]
 ·intro hy
  cases path with
  | nil =>
   rw [List.drop_zero,walkTo] at h2
   rw [h2 _ rfl]
   rfl
  | cons i ps =>
   rw [List.drop_zero,walkTo_at] at h3
   exact h3 hy
def spl:List S28→List Int→List S28→List S28
 | xs,[],_=>xs
 | xs,[i],ys=>xs.take i.toNat++ys++xs.drop (i.toNat+1)
 | xs,i :: j :: ps,ys=>xs.take i.toNat++[⟨(xs.getD i.toNat z28).f0,(xs.getD i.toNat z28).f1,(xs.getD i.toNat z28).f2,(xs.getD i.toNat z28).f3,(xs.getD i.toNat z28).f4,spl (xs.getD i.toNat z28).f5 (j :: ps) ys⟩]++xs.drop (i.toNat+1)
theorem take_set_drop {α : Type} (l:List α) (i:Nat) (x : α) (h:i<l.length):l.take i++[x]++l.drop (i+1)=l.set i x:=by
 rw [List.set_eq_take_append_cons_drop,if_pos h,List.append_assoc]
 rfl
theorem wtS_sum (l:List S28):wtPS l=(l.map wtP).sum:=by
 induction l with
 | nil=>rw [wtPS];rfl
 | cons x l ih=>rw [wtPS,ih,List.map_cons,List.sum_cons]
theorem wtS_append (l m:List S28):wtPS (l++m)=wtPS l+wtPS m:=by
 rw [wtS_sum,wtS_sum,wtS_sum,List.map_append,List.sum_append]
theorem wt_eq (x:S28):wtP x=4+2 * x.f4.length+wtPS x.f5:=by
 cases x with
 | mk x0 x1 x2 x3 x4 x5=>rw [wtP]
theorem wtS_at (l:List S28) (i:Nat) (h:i<l.length):wtPS l=wtPS (l.take i)+wtP (l.getD i z28)+wtPS (l.drop (i+1)):=by
 conv=>lhs;rw [←List.take_append_drop i l,List.drop_eq_getElem_cons h]
 rw [wtS_append,wtPS,List.getD_eq_getElem?_getD,List.getElem?_eq_getElem h]
 show _=wtPS (l.take i)+wtP l[i]+_
 omega
theorem wt_one (x:S28):wtPS [x]=wtP x:=by
 rw [wtPS,wtPS]
 rfl
theorem at_facts (path:List Int):∀ (l:List S28) (x:S28),(∀ y∈l,FitP y)→atPath l path=some x→FitP x∧wtP x≤wtPS l:=by
 induction path with
 | nil=>intro l x _ h;rw [atPath_nil] at h;cases h
 | cons i ps ih =>
  intro l x hf h
  cases ps with
  | nil =>
   rw [atPath_one] at h
   obtain ⟨hb,h⟩:=Option.ite_none_right_eq_some.mp h
   obtain rfl:=Option.some.inj h
   have:=wtS_at l i.toNat (by omega)
   exact ⟨hf _ (Kit.getD_mem z28 (by omega)),by omega⟩
  | cons j ps =>
   rw [atPath_two] at h
   obtain ⟨hb,h⟩:=Option.ite_none_right_eq_some.mp h
   obtain ⟨g1,g2⟩:=ih _ x (fit_kid (hf _ (Kit.getD_mem z28 (show i.toNat<l.length by omega)))).1 h
   have h1:=wtS_at l i.toNat (by omega)
   have h2:=wt_eq (l.getD i.toNat z28)
   exact ⟨g1,by omega⟩
theorem spl_put (path:List Int):∀ (l:List S28) (x x':S28),atPath l path=some x→spl l path [x']=putAt l path x':=by
 induction path with
 | nil=>intro l x x' h;rw [atPath_nil] at h;cases h
 | cons i ps ih =>
  intro l x x' h
  cases ps with
  | nil =>
   rw [atPath_one] at h
   obtain ⟨hb,h⟩:=Option.ite_none_right_eq_some.mp h
   rw [spl,take_set_drop _ _ _ (by omega)]
   simp [putAt,updAt]
   rfl
  | cons j ps =>
   rw [atPath_two] at h
   obtain ⟨hb,h⟩:=Option.ite_none_right_eq_some.mp h
   rw [spl,take_set_drop _ _ _ (by omega),ih _ x x' h]
   simp [putAt,updAt,List.getLast?_cons_cons]
   rfl
theorem spl_facts (ys:List S28) (hy:∀ y∈ys,FitP y) (hyl:ys.length≤1) (path:List Int):∀ (l:List S28) (x:S28),(∀ y∈l,FitP y)→atPath l path=some x→(∀ y∈spl l path ys,FitP y)∧(spl l path ys).length≤l.length∧wtPS (spl l path ys)≤wtPS l+wtPS ys:=by
 induction path with
 | nil=>intro l x _ h;rw [atPath_nil] at h;cases h
 | cons i ps ih =>
  intro l x hf h
  cases ps with
  | nil =>
   rw [atPath_one] at h
   obtain ⟨hb,h⟩:=Option.ite_none_right_eq_some.mp h
   rw [spl]
   refine ⟨?_,?_,?_⟩
   ·intro y hm
    rcases List.mem_append.1 hm with hm|hm
    ·rcases List.mem_append.1 hm with hm|hm
     ·exact hf y (List.mem_of_mem_take hm)
     ·exact hy y hm
    ·exact hf y (List.mem_of_mem_drop hm)
   ·rw [List.length_append,List.length_append,List.length_take,List.length_drop]
    omega
   ·have:=wtS_at l i.toNat (by omega)
    rw [wtS_append,wtS_append]
    omega
  | cons j ps =>
   rw [atPath_two] at h
   obtain ⟨hb,h⟩:=Option.ite_none_right_eq_some.mp h
   have hm0:FitP (l.getD i.toNat z28):=hf _ (Kit.getD_mem z28 (show i.toNat<l.length by omega))
   obtain ⟨g1,g2,g3⟩:=ih _ x (fit_kid hm0).1 h
   rw [spl]
   refine ⟨?_,?_,?_⟩
   ·intro y hm
    rcases List.mem_append.1 hm with hm|hm
    ·rcases List.mem_append.1 hm with hm|hm
     ·exact hf y (List.mem_of_mem_take hm)
     ·obtain rfl:=List.mem_singleton.1 hm
      cases hm0 with
      | mk _ h2 h3 h4 h5 hk=>exact .mk _ h2 h3 h4 (Nat.le_trans g2 h5) g1
    ·exact hf y (List.mem_of_mem_drop hm)
   ·rw [List.length_append,List.length_append,List.length_take,List.length_drop,List.length_singleton]
    omega
   ·have h1:=wtS_at l i.toNat (by omega)
    have h2:=wt_eq (l.getD i.toNat z28)
    rw [wtS_append,wtS_append,wt_one,wt_eq]
    show _+(4+2 * (l.getD i.toNat z28).f4.length+wtPS (spl (l.getD i.toNat z28).f5 (j :: ps) ys))+_≤_
    omega
theorem eta_node (x:S28):(⟨x.f0,x.f1,x.f2,x.f3,x.f4,x.f5⟩:S28)=x:=by
 cases x
 rfl
theorem ev_l03Copy_of (l:List S28) (hl:l.length≤1048576) (hx:∀ y∈l,Ev (fun k=>spec_l03Copy.f k y.f5) y.f5) (ha:∀ y∈l,y.f4.length≤1048576):Ev (fun k=>spec_l03Copy.f k l) l:=by
 have key:∀ i,i≤l.length→Ev (fun k=>spec_l03Copy.l0 k l (l.take i) (i:Int)) l:=by
  refine Kit.down ?_ ?_
  ·rw [List.take_length]
   exact Ev.step (fun k=>rfl) (Kit.ev_neg (by omega) (Ev.now _))
  ·intro i hi ih
   have hm:l.getD i z28∈l:=Kit.getD_mem z28 hi
   have ht:l.take i++[l.getD i z28]=l.take (i+1):=by
    rw [List.take_succ_eq_append_getElem hi,List.getD_eq_getElem?_getD,List.getElem?_eq_getElem hi]
    rfl
   refine Ev.step (fun k=>rfl) (Kit.ev_pos (by omega) (Kit.ev_pos (by omega) (Kit.ev_some rfl ?_)))
   rw [rdN_nat,Kit.wrap_nat hi (by omega)]
   have:=ha _ hm
   refine Kit.ev_pos (by rw [List.length_nil];omega) (Ev.bind (hx _ hm) (Kit.ev_pos (by rw [List.length_take];omega) ?_))
   rw [List.nil_append,eta_node]
   rw [ht]
   exact ih
 exact Ev.step (fun k=>rfl) (key 0 (by omega))
theorem ev_l03Copy1 (x:S28) (hf:FitP x):Ev (fun k=>spec_l03Copy.f k x.f5) x.f5:=by
 induction hf with
 | mk _ h2 h3 h4 h5 hk ih=>exact ev_l03Copy_of _ h5 ih (fun y hy=>by
  cases hk y hy with
  | mk _ _ _ h4' _ _=>exact h4'.1)
theorem ev_l03Copy (l:List S28) (hl:l.length≤1048576) (hf:∀ y∈l,FitP y):Ev (fun k=>spec_l03Copy.f k l) l :=
 ev_l03Copy_of l hl (fun y hy=>ev_l03Copy1 y (hf y hy)) (fun y hy=>by
  cases hf y hy with
  | mk _ _ _ h4' _ _=>exact h4'.1)
theorem few_of (n:Nat):∀ x:S28,okN n x=true→FitP x→fewB n x=true:=by
 induction n with
 | zero=>intro x h;cases h
 | succ n ih =>
  intro x h hf
  rw [okN,Bool.and_eq_true,List.all_eq_true] at h
  rw [fewB,Bool.and_eq_true,Bool.and_eq_true,Bool.and_eq_true,List.all_eq_true]
  cases hf with
  | mk _ h2 h3 h4 h5 hk=>exact ⟨⟨⟨decide_eq_true h3,decide_eq_true h4.1⟩,decide_eq_true h5⟩,fun y hy=>ih y (h.2 y hy) (hk y hy)⟩
theorem few_all (l:List S28) (hb:treeB l=true) (hf:∀ y∈l,FitP y):l.all (fewB 10)=true:=by
 obtain ⟨h1,h2⟩:=(treeB_iff l).1 hb
 rw [List.all_eq_true] at h1
 exact List.all_eq_true.2 fun y hy=>few_of 10 y (h1 y hy) (hf y hy)
theorem ev_markIntAt (l:List Int) (a:Int) (h0:0≤a) (hl:a+(l.length:Int)≤1000000000):∃ u:List Int,Ev (fun k=>laws_markIntS.f k l a) (a+(l.length:Int),u):=by
 have key:∀ i,i≤l.length→∀ acc:List Int,acc.length=l.length→∃ u,Ev (fun k=>laws_markIntS.l0 k acc (a+(i:Int)) (i:Int)) (a+(l.length:Int),u):=by
  refine Kit.down ?_ ?_
  case refine_1=>intro acc h1;exact ⟨acc,Ev.step (fun k=>rfl) (Kit.ev_neg (by omega) (Ev.now _))⟩
  case refine_2 =>
   intro i hi ih acc h1
   obtain ⟨u,g1⟩:=ih (acc.set (i:Int).toNat (a+(i:Int))) (by rw [List.length_set];exact h1)
   refine ⟨u,Ev.step (fun k=>rfl) (Kit.ev_pos (by omega) (Kit.ev_pos (by omega) ?_))⟩
   rw [Kit.wrap_of (by omega) (by omega),Kit.wrap_nat hi (by omega),show a+(i:Int)+1=a+((i+1:Nat):Int) by omega]
   exact g1
 obtain ⟨u,g1⟩:=key 0 (by omega) l rfl
 refine ⟨u,?_⟩
 unfold laws_markIntS.f
 rw [show a+((0:Nat):Int)=a by omega] at g1
 exact g1
theorem ev_toIntP (xs:List Int) (hn:xs.length≤1048576):Ev (fun k=>laws_toIntS.f k xs) xs:=by
 unfold laws_toIntS.f
 refine Kit.ev_pos (by omega) (Kit.ev_pos (by omega) ?_)
 rw [Int.toNat_natCast]
 have h:=Kit.ev_conv (0:Int) (xs:=xs) (c:=fun x=>x) (L:=fun k acc i=>laws_toIntS.l0 k xs acc i) (fun acc hl=>Ev.step (fun k=>rfl) (Kit.ev_neg (by omega) (Ev.now _)))
  (fun i hi acc r hl ih=>by
   refine Ev.step (fun k=>rfl) (Kit.ev_pos (by omega) (Kit.ev_pos (by omega) (Kit.ev_pos (by omega) ?_)))
   rw [rdI_nat,Kit.wrap_nat hi (by omega),Int.toNat_natCast]
   exact ih) (List.replicate xs.length 0) (by rw [List.length_replicate])
 rwa [List.map_id'] at h
theorem ev_eqIntP (xs:List Int) (hn:xs.length≤1048576):Ev (fun k=>laws_eqIntS.f k xs xs) true:=by
 have key:∀ i,i≤xs.length→Ev (fun k=>laws_eqIntS.l0 k xs xs i) true:=by
  refine Kit.down ?_ ?_
  ·exact Ev.step (fun k=>rfl) (Kit.ev_neg (by omega) (Ev.now _))
  ·intro i hi ih
   refine Ev.step (fun k=>rfl) (Kit.ev_pos (by omega) (Kit.ev_pos (by omega) (Kit.ev_pos (by omega) (Kit.ev_pos rfl ?_))))
   rw [Kit.wrap_nat hi (by omega)]
   exact ih
 unfold laws_eqIntS.f
 exact Kit.ev_pos rfl (key 0 (by omega))
theorem ev_treeMark (l:List S28) (hl:l.length≤1048576) (hf:∀ y∈l,FitP y) (a:Int) (h0:0≤a) (h:a+(wtPS l:Int)≤1000000000):∃ u,Ev (fun k=>laws_markNodeS.f k l a) (a+(wtPS l:Int),u) :=
 ev_markNodeS_of l (fun y hy=>ev_markNode y (hf y hy)) a h0 h hl
theorem fit_zero:FitP z28:=.mk z28 (Nat.zero_le _) (Nat.zero_le _) ⟨Nat.zero_le _,fun a ha=>by cases ha⟩ (Nat.zero_le _) (fun y hy=>by cases hy)
theorem wt_zero:wtP z28≤100000000:=by
 rw [wt_eq]
 show 4+2 * 0+wtPS []≤_
 rw [wtPS]
 omega
theorem both (ys:List S28) (p:List Int) (hl:ys.length≤1048576) (hf:∀ y∈ys,FitP y) (hw:wtPS ys≤4194304) (hp:p.length≤1048576):∃ v:S28 × Int,Ev (fun k=>spec_NodeAt.f k ys p) v∧impl_NodeAt.f ys p=some v∧wtP v.1≤100000000∧FitP v.1:=by
 unfold impl_NodeAt.f
 by_cases h2:4096<p.length
 case pos =>
  rw [if_pos h2]
  refine ⟨(z28,2),?_,rfl,wt_zero,fit_zero⟩
  unfold spec_NodeAt.f
  exact Kit.ev_if (fun _=>Ev.now _) (fun _=>Kit.ev_pos h2 (Ev.now _))
 rw [if_neg h2,implFault ys hf,Option.bind_some]
 by_cases h1:(ys.length:Int)>4096
 case pos =>
  rw [if_pos h1,if_neg (by decide)]
  refine ⟨(z28,2),?_,rfl,wt_zero,fit_zero⟩
  unfold spec_NodeAt.f
  exact Kit.ev_pos (by omega) (Ev.now _)
 rw [if_neg h1]
 have go:∀ {f:Nat→Option (S28 × Int)} {v},Ev f v→Ev (fun k=>if 4096<ys.length then some (z28,2) else if 4096<p.length then some (z28,2) else f k) v:=fun h=>Kit.ev_neg (by omega) (Kit.ev_neg h2 h)
 have ha:=ev_l03Tree ys hl hf
 cases hb:treeB ys with
 | false =>
  rw [hb] at ha
  rw [if_neg Bool.false_ne_true,if_neg (by decide)]
  refine ⟨(z28,1),?_,rfl,wt_zero,fit_zero⟩
  unfold spec_NodeAt.f
  exact go (Ev.bind ha (Kit.ev_neg (by decide) (Ev.now _)))
 | true =>
 rw [hb] at ha
 have hd:=few_all ys hb hf
 rw [if_pos rfl,if_pos rfl,if_pos hd]
 obtain ⟨e,he,e1,e2⟩:=ex_l03At ys p hl hf hp
 have go2:∀ {v:S28 × Int},Ev (fun k=>if e.2.2.2.2.2.2=true then (spec_l03Copy.f k [⟨e.1,e.2.1,e.2.2.1,e.2.2.2.1,e.2.2.2.2.1,e.2.2.2.2.2.1⟩]).bind fun r=>if 0<r.length then some (r.getD 0 z28,0) else none else some (z28,16)) v→Ev (fun k=>spec_NodeAt.f k ys p) v:=fun h=>by
  unfold spec_NodeAt.f
  exact go (Ev.bind ha (Kit.ev_pos rfl (Ev.bind he h)))
 cases hx:atPath ys p with
 | none =>
  have:=e2 hx
  exact ⟨(z28,16),go2 (Kit.ev_neg (by rw [this];decide) (Ev.now _)),rfl,wt_zero,fit_zero⟩
 | some x =>
 have:=e1 x hx
 subst this
 obtain ⟨hxf,hxw⟩:=at_facts p ys x hf hx
 have hcp:=ev_l03Copy [x] (by rw [List.length_singleton];omega) (fun y hy=>by obtain rfl:=List.mem_singleton.1 hy;exact hxf)
 rw [←eta_node x] at hcp
 exact ⟨(x,0),go2 (Kit.ev_pos rfl (Ev.bind hcp (Kit.ev_pos (Nat.zero_lt_one) (by rw [eta_node];exact Ev.now _)))),rfl,by show wtP x≤_;omega,hxf⟩
theorem ev_markHeld (x:S28) (hf:FitP x) (hw:wtP x≤100000000):∃ u4 u5,Ev (fun k=>laws_markNode.f k x.f4 x.f5 1) (1+2 * (x.f4.length:Int)+(wtPS x.f5:Int),u4,u5)∧Ev (fun k=>laws_heldNode.f k x.f0 x.f1 x.f2 x.f3 u4 u5 1) (1+2 * (x.f4.length:Int)+(wtPS x.f5:Int)):=by
 have hq:=wt_eq x
 obtain ⟨l',a1,a2⟩:=ev_mhAttrS x.f4.length x.f4 rfl 1 (by omega) (by omega)
 obtain ⟨u,b1,b2⟩:=ev_mhNode x hf (1+2 * (x.f4.length:Int)) (by omega) (by omega)
 refine ⟨l',u,?_,?_⟩
 ·unfold laws_markNode.f
  exact Ev.bind a1 (Ev.bind b1 (Ev.now _))
 ·unfold laws_heldNode.f
  exact Ev.bind a2 (Kit.ev_neg (by omega) (Ev.bind b2 (Kit.ev_neg (by omega) (Ev.now _))))
theorem proved:laws_FnExactNodeAt.PureS:=by
 intro x p hx hpw
 refine Ev.rounds (g:=fun k=>laws_FnExactNodeAt.f k x p) ?_
 unfold laws_FnExactNodeAt.f
 by_cases hp:1048576<p.length
 case pos=>exact Kit.ev_pos hp (Ev.now _)
 refine Kit.ev_neg hp ?_
 obtain ⟨t,ht,htl,hfit⟩:=ex_tree x hx 1048576 (by omega) (by omega)
 by_cases hneg:t<0
 case pos=>exact Ev.bind ht (Kit.ev_pos hneg (Ev.now _))
 obtain ⟨ys,hto,hl,hf,hwt,heq⟩:=hfit (by omega)
 refine Ev.bind ht (Kit.ev_neg hneg ?_)
 obtain ⟨v,hs,hi,hw,hvf⟩:=both ys p hl hf (by omega) (by omega)
 obtain ⟨u,hmk⟩:=ev_treeMark ys hl hf 1 (by omega) (by omega)
 obtain ⟨u1,hmp⟩:=ev_markIntAt p (1+(wtPS ys:Int)) (by omega) (by omega)
 obtain ⟨u4,u5,hms,hhe⟩:=ev_markHeld v.1 hvf hw
 have hveq:=ev_eqNode v.1 hvf
 have hpeq:=ev_eqIntP p (by omega)
 refine Ev.bind hto (Ev.bind (ev_toIntP p (by omega)) (Ev.bind hs (Kit.ev_some hi (ev_cond ?_ (Ev.bind hmk (Ev.bind hmp (Kit.ev_pos ?_ (Ev.bind hms (ev_cond ?_ (Ev.now _))))))))))
 case refine_1 =>
  obtain ⟨K,hK⟩:=hveq
  obtain ⟨L,hL⟩:=heq
  obtain ⟨P,hP⟩:=hpeq
  refine ⟨K+L+P,fun k hk=>?_⟩
  have e1:laws_eqNode.f k v.1.f0 v.1.f1 v.1.f2 v.1.f3 v.1.f4 v.1.f5 v.1.f0 v.1.f1 v.1.f2 v.1.f3 v.1.f4 v.1.f5=some true:=hK k (by omega)
  have e2:laws_eqNodeS.f k ys ys=some true:=hL k (by omega)
  have e4:laws_eqIntS.f k p p=some true:=hP k (by omega)
  rw [e1,e2,e4]
  simp
 case refine_2=>show (0:Int)≤1+_+_;omega
 case refine_3 =>
  obtain ⟨K,hK⟩:=hhe
  refine ⟨K,fun k hk=>?_⟩
  have e1:laws_heldNode.f k v.1.f0 v.1.f1 v.1.f2 v.1.f3 u4 u5 1=some (1+2 * (v.1.f4.length:Int)+(wtPS v.1.f5:Int)):=hK k hk
  show (decide (0≤1+2 * (v.1.f4.length:Int)+(wtPS v.1.f5:Int)) && (laws_heldNode.f k v.1.f0 v.1.f1 v.1.f2 v.1.f3 u4 u5 1 == some (1+2 * (v.1.f4.length:Int)+(wtPS v.1.f5:Int))))=true
  rw [e1,decide_eq_true (by omega)]
  simp
end Go.Proofs.Ytjhfempockbdoaa.Pure.LNodeAt
namespace Go.Proofs.Ytjhfempockbdoaa.Pure
theorem FnExactNodeAt:PFnExactNodeAt.laws_FnExactNodeAt.PureS:=LNodeAt.proved
end Go.Proofs.Ytjhfempockbdoaa.Pure
