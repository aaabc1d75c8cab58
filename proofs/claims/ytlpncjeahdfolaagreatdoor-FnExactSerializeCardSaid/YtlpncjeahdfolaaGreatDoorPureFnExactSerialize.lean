/- The pure statement of FnExactSerialize: of every tree both functions tell the same. No conditions. -/
import Derived.Test.YtlpncjeahdfolaaGreatDoorKit
import Derived.Test.YtlpncjeahdfolaaGreatDoorOpensFnExactSerialize
namespace Go.Proofs.YtlpncjeahdfolaaGreatDoor.Pure.LSerialize
open Go.RowKit Go.Proofs.YtlpncjeahdfolaaGreatDoor.PFnExactSerialize Go.Proofs.YtlpncjeahdfolaaGreatDoorW.PrintWords
theorem mk_append (a b:List UInt8):(⟨a.toArray⟩:ByteArray) ++ ⟨b.toArray⟩=⟨(a++b).toArray⟩:=by
 apply ByteArray.ext
 simp
theorem extract_one (s:ByteArray) (i:Nat) (b:UInt8) (h:s.data.toList[i]? = some b):s.extract i (i+1)=⟨[b].toArray⟩:=by
 obtain ⟨hl,he⟩:=List.getElem?_eq_some_iff.1 h
 rw [data_length] at hl
 apply ByteArray.ext
 apply Array.toList_inj.1
 rw [ByteArray.data_extract,Array.toList_extract,List.extract_eq_take_drop]
 rw [List.drop_eq_getElem_cons (by rw [data_length];exact hl),he]
 simp
theorem escF_at (b:UInt8):escF b=if (b.toNat:Int)=38 then [38,97,109,112,59] else if (b.toNat:Int)=60 then [38,108,116,59] else if (b.toNat:Int)=62 then [38,103,116,59] else [b]:=by
 by_cases h1:b=38
 ·subst h1;rfl
 ·by_cases h2:b=60
  ·subst h2;rfl
  ·by_cases h3:b=62
   ·subst h3;rfl
   ·have n1:¬ (b.toNat:Int)=38:=fun e=>h1 (UInt8.toNat_inj.1 (by show b.toNat=38;omega))
    have n2:¬ (b.toNat:Int)=60:=fun e=>h2 (UInt8.toNat_inj.1 (by show b.toNat=60;omega))
    have n3:¬ (b.toNat:Int)=62:=fun e=>h3 (UInt8.toNat_inj.1 (by show b.toNat=62;omega))
    rw [if_neg n1,if_neg n2,if_neg n3]
    unfold escF escL
    rw [if_neg h3,if_neg h2,if_neg h1,if_pos rfl]
theorem byte_at2 (s:ByteArray) (k:Nat) (hk:k<s.size):∃ b,s.data.toList[k]? = some b∧bt s (k:Int)=(b.toNat:Int):=by
 have h:k<s.data.toList.length:=by rw [data_length];exact hk
 refine ⟨s.data.toList[k],List.getElem?_eq_getElem h,?_⟩
 rw [←bt_at s (k:Int) (by simpa using hk)]
 rfl
theorem ev_l02Text (s:ByteArray) (hn:s.size≤140737488351232):Ev (fun k=>spec_l02Text.f k s) (escT s):=by
 have key:∀ i:Nat,i≤s.size→∀ acc:ByteArray,acc=⟨((s.data.toList.take i).flatMap escF).toArray⟩→Ev (fun k=>spec_l02Text.l0 k s acc i) (escT s):=by
  refine Kit.down ?_ ?_
  ·intro acc ha
   refine Ev.step (fun k=>rfl) (Kit.ev_neg (by omega) (Kit.ev_const ?_))
   rw [ha,List.take_of_length_le (by rw [data_length];exact Nat.le_refl _)]
   rfl
  ·intro i hi ih acc ha
   obtain ⟨b,hb,hbt⟩:=byte_at2 s i hi
   have hsz:acc.size≤5 * i:=by
    rw [ha]
    show (List.toArray _).size≤_
    rw [List.size_toArray,flat_len]
    have h1:=escG_le (s.data.toList.take i)
    have h2:(s.data.toList.take i).length≤i:=by rw [List.length_take];omega
    omega
   have hw:wrap64 ((i:Int)+1)=((i+1:Nat):Int):=Kit.wrap_nat hi (by omega)
   have hnext:∀ (l:List UInt8) (x:ByteArray),x=⟨l.toArray⟩→escF b=l→Ev (fun k=>spec_l02Text.l0 k s (acc++x) ((i+1:Nat):Int)) (escT s):=by
    intro l x hx he
    refine ih _ ?_
    rw [ha,hx,mk_append,flat_step hb,he]
   have hE:=escF_at b
   refine Ev.step (fun k=>rfl) (Kit.ev_pos (by omega) (Kit.ev_pos (by omega) ?_))
   rw [hw,hbt]
   refine Kit.ev_if (fun h1=>?_) (fun h1=>Kit.ev_if (fun h2=>?_) (fun h2=>Kit.ev_if (fun h3=>?_) (fun h3=>?_)))
   ·rw [if_pos h1] at hE
    exact Kit.ev_pos (by omega) (hnext _ _ rfl hE)
   ·rw [if_neg h1,if_pos h2] at hE
    exact Kit.ev_pos (by omega) (hnext _ _ rfl hE)
   ·rw [if_neg h1,if_neg h2,if_pos h3] at hE
    exact Kit.ev_pos (by omega) (hnext _ _ rfl hE)
   ·rw [if_neg h1,if_neg h2,if_neg h3] at hE
    have hx:s.extract ((i:Int)).toNat (((i+1:Nat):Int)).toNat=⟨[b].toArray⟩:=extract_one s i b hb
    have hz:(⟨[b].toArray⟩:ByteArray).size=1:=rfl
    rw [hx,hz]
    exact Kit.ev_pos (by omega) (Kit.ev_pos (by omega) (Kit.ev_pos (by omega) (hnext _ _ rfl hE)))
 exact key 0 (by omega) _ (by rw [List.take_zero];rfl)
theorem flatV_step {l:List UInt8} {k:Nat} {b:UInt8} (h:l[k]? = some b):(l.take (k+1)).flatMap escV=(l.take k).flatMap escV++escV b:=by
 rw [take_at h,List.flatMap_append]
 simp
theorem ev_l02Value (s:ByteArray) (hn:s.size≤140737488351232):Ev (fun k=>spec_l02Value.f k s) (escVT s):=by
 have key:∀ i:Nat,i≤s.size→∀ acc:ByteArray,acc=⟨((s.data.toList.take i).flatMap escV).toArray⟩→Ev (fun k=>spec_l02Value.l0 k s acc i) (escVT s):=by
  refine Kit.down ?_ ?_
  ·intro acc ha
   refine Ev.step (fun k=>rfl) (Kit.ev_neg (by omega) (Kit.ev_const ?_))
   rw [ha,List.take_of_length_le (by rw [data_length];exact Nat.le_refl _)]
   rfl
  ·intro i hi ih acc ha
   obtain ⟨b,hb,hbt⟩:=byte_at2 s i hi
   have hsz:acc.size≤6 * i:=by
    rw [ha]
    show (List.toArray _).size≤_
    rw [List.size_toArray]
    have h1:=flatV_len (s.data.toList.take i)
    have h2:(s.data.toList.take i).length≤i:=by rw [List.length_take];omega
    omega
   have hw:wrap64 ((i:Int)+1)=((i+1:Nat):Int):=Kit.wrap_nat hi (by omega)
   have hnext:∀ (l:List UInt8) (x:ByteArray),x=⟨l.toArray⟩→escV b=l→Ev (fun k=>spec_l02Value.l0 k s (acc++x) ((i+1:Nat):Int)) (escVT s):=by
    intro l x hx he
    refine ih _ ?_
    rw [ha,hx,mk_append,flatV_step hb,he]
   refine Ev.step (fun k=>rfl) (Kit.ev_pos (by omega) (Kit.ev_pos (by omega) ?_))
   rw [hw,hbt]
   refine Kit.ev_if (fun h1=>?_) (fun h1=>?_)
   ·have hE:escV b=[38,113,117,111,116,59]:=by
     unfold escV
     rw [if_pos (UInt8.toNat_inj.1 (by show b.toNat=34;omega))]
    exact Kit.ev_pos (by omega) (hnext _ _ rfl hE)
   ·have hE:escV b=escF b:=by
     unfold escV
     rw [if_neg (fun e=>h1 (by rw [e];rfl))]
    have hx:s.extract ((i:Int)).toNat (((i+1:Nat):Int)).toNat=⟨[b].toArray⟩:=extract_one s i b hb
    rw [hx]
    have h1:escT ⟨[b].toArray⟩=⟨(escF b).toArray⟩:=by simp [escT]
    have hl:(⟨(escF b).toArray⟩:ByteArray).size≤6:=by
     show (List.toArray _).size≤_
     rw [List.size_toArray,←hE]
     exact escV_len b
    refine Kit.ev_pos (by omega) (Kit.ev_pos (by omega) (Ev.bind (ev_l02Text ⟨[b].toArray⟩ (by show (1:Nat)≤_;omega)) ?_))
    rw [h1]
    exact Kit.ev_pos (by omega) (hnext _ _ rfl hE)
 exact key 0 (by omega) _ (by rw [List.take_zero];rfl)
/- Lists of attributes: laws' kind S60, the program's kind S63. -/
def toA (a:S60):S63:=⟨a.f0,a.f1⟩
theorem rdA_nat (xs:List S60) (i:Nat):rd_T60 xs (i:Int)=xs.getD i z60:=by simp [rd_T60]
theorem rdB_nat (xs:List S63) (i:Nat):rd_T63 xs (i:Int)=xs.getD i z63:=by simp [rd_T63]
def szA (a:S60) (l:Int):Int:=if l - (a.f0.size:Int)<0 then -1 else if l - (a.f0.size:Int) - (a.f1.size:Int)<0 then -1 else l - (a.f0.size:Int) - (a.f1.size:Int)
/-- An attribute whose texts are short. -/
def FitA (a:S60):Prop:=a.f0.size≤1048576∧a.f1.size≤1048576
theorem szAttr_eq (a:S60) (l:Int) (h0:0≤l) (h1:l≤1048576) (hg:G60 a):laws_szAttr.f a.f0 a.f1 l=some (szA a l):=by
 have s0:a.f0.size≤9223372036854775807:=hg.1
 have s1:a.f1.size≤9223372036854775807:=hg.2
 unfold laws_szAttr.f szA
 have hw:wrap64 (l - (a.f0.size:Int))=l - (a.f0.size:Int):=Kit.wrap_of (by omega) (by omega)
 rw [hw]
 by_cases h:l - (a.f0.size:Int)<0
 ·rw [if_pos h,if_pos h]
 ·rw [if_neg h,if_neg h]
  have hw2:wrap64 (l - (a.f0.size:Int) - (a.f1.size:Int))=l - (a.f0.size:Int) - (a.f1.size:Int):=Kit.wrap_of (by omega) (by omega)
  rw [hw2]
  by_cases h2:l - (a.f0.size:Int) - (a.f1.size:Int)<0
  ·rw [if_pos h2,if_pos h2]
  ·rw [if_neg h2,if_neg h2]
theorem szA_fit (a:S60) (l:Int) (h0:0≤l) (h1:l≤1048576):szA a l≤l∧(0≤szA a l→FitA a):=by
 unfold szA FitA
 by_cases h:l - (a.f0.size:Int)<0
 ·rw [if_pos h];exact ⟨by omega,fun h=>absurd h (by omega)⟩
 ·rw [if_neg h]
  by_cases h2:l - (a.f0.size:Int) - (a.f1.size:Int)<0
  ·rw [if_pos h2];exact ⟨by omega,fun h=>absurd h (by omega)⟩
  ·rw [if_neg h2];exact ⟨by omega,fun _=>⟨by omega,by omega⟩⟩
theorem ev_szAttrS (xs:List S60) (left:Int) (h0:0≤left) (h1:left≤1048576) (hx:Open.Few G60 xs) :
 ∃ t,Ev (fun k=>laws_szAttrS.f k xs left) t∧t≤left∧(0≤t→xs.length≤1048576∧∀ x∈xs,FitA x):=by
 have hn:=hx.1
 have hw:wrap64 (left - (xs.length:Int))=left - (xs.length:Int):=Kit.wrap_of (by omega) (by omega)
 unfold laws_szAttrS.f
 rw [hw]
 by_cases hneg:left - (xs.length:Int)<0
 ·exact ⟨-1,Kit.ev_pos hneg (Ev.now _),by omega,fun h=>absurd h (by omega)⟩
 ·obtain ⟨t,ht,htl,hg⟩:=Kit.ev_size z60 (xs:=xs) (P:=FitA) (E:=szA) (L:=fun k l i=>laws_szAttrS.l0 k xs l i) (fun a _ l a0 a1=>szA_fit a l a0 a1)
   (fun l=>Ev.step (fun k=>rfl) (Kit.ev_neg (by omega) (Ev.now _)))
   (fun i hi l a0 a1 hE=>Ev.step (fun k=>rfl) (Kit.ev_pos (by omega) (Kit.ev_pos (by omega) (by rw [rdA_nat];exact Kit.ev_some (szAttr_eq _ l a0 a1 (hx.2 _ (Kit.getD_mem _ hi))) (Kit.ev_pos hE (Ev.now _))))))
   (fun i hi l r a0 a1 hE ih=>Ev.step (fun k=>rfl) (Kit.ev_pos (by omega) (Kit.ev_pos (by omega) (by rw [rdA_nat,Kit.wrap_nat hi (by omega)];exact Kit.ev_some (szAttr_eq _ l a0 a1 (hx.2 _ (Kit.getD_mem _ hi))) (Kit.ev_neg (by omega) ih)))))
   (left - (xs.length:Int)) (by omega) (by omega)
  exact ⟨t,Kit.ev_neg hneg ht,by omega,fun h=>⟨by omega,hg h⟩⟩
theorem ev_toAttrS (xs:List S60) (hn:xs.length≤1048576):Ev (fun k=>laws_toAttrS.f k xs) (xs.map toA):=by
 unfold laws_toAttrS.f
 refine Kit.ev_pos (by omega) (Kit.ev_pos (by omega) ?_)
 rw [Int.toNat_natCast]
 refine Kit.ev_conv z60 (L:=fun k acc i=>laws_toAttrS.l0 k xs acc i) (fun acc hl=>Ev.step (fun k=>rfl) (Kit.ev_neg (by omega) (Ev.now _))) ?_ _ (by rw [List.length_replicate])
 intro i hi acc r hl ih
 refine Ev.step (fun k=>rfl) (Kit.ev_pos (by omega) (Kit.ev_pos (by omega) ?_))
 rw [rdA_nat,Kit.wrap_nat hi (by omega),Int.toNat_natCast]
 exact Kit.ev_some rfl (Kit.ev_pos (by omega) ih)
theorem ev_eqAttrS (xs:List S63) (hn:xs.length≤1048576):Ev (fun k=>laws_eqAttrS.f k xs xs) true:=by
 unfold laws_eqAttrS.f
 refine Kit.ev_pos rfl (Kit.ev_refl (n:=xs.length) (L:=fun k i=>laws_eqAttrS.l0 k xs xs i) (Ev.step (fun k=>rfl) (Kit.ev_neg (by omega) (Ev.now _))) ?_)
 intro i hi ih
 refine Ev.step (fun k=>rfl) (Kit.ev_pos (by omega) (Kit.ev_pos (by omega) (Kit.ev_pos (by omega) ?_)))
 rw [Kit.wrap_nat hi (by omega)]
 refine Kit.ev_some (a:=true) ?_ (Kit.ev_pos rfl ih)
 unfold laws_eqAttr.f
 rw [if_pos rfl,if_pos rfl]
/- Trees: laws' kind S33, the program's kind S38. -/
theorem rdLN_nat (xs:List S33) (i:Nat):rd_T33 xs (i:Int)=xs.getD i z33:=by simp [rd_T33]
theorem rdN_nat (xs:List S38) (i:Nat):rd_T38 xs (i:Int)=xs.getD i z38:=by simp [rd_T38]
theorem all_getD {α : Type} {P : α → Prop} (d : α) {xs:List α} (h:∀ j,j<xs.length→P (xs.getD j d)):∀ y∈xs,P y:=by
 intro y hy
 obtain ⟨j,hj,rfl⟩:=List.getElem_of_mem hy
 have:=h j hj
 rwa [List.getD_eq_getElem?_getD,List.getElem?_eq_getElem hj] at this
/-- A node whose texts are short. -/
inductive FitL:S33→Prop
 | mk (x:S33) (h2:x.f2.size≤1048576) (h3:x.f3.size≤1048576) (h4:x.f4.length≤1048576∧∀ a∈x.f4,FitA a) (h5:x.f5.length≤1048576) (hk:∀ y∈x.f5,FitL y):FitL x
theorem ex_szNodeS (xs:List S33) (hn:xs.length≤9223372036854775807) (hx:∀ y∈xs,∀ l:Int,0≤l→l≤1048576→∃ t,Ev (fun k=>laws_szNode.f k y.f0 y.f1 y.f2 y.f3 y.f4 y.f5 l) t∧t≤l∧(0≤t→FitL y)) (left:Int) (h0:0≤left) (h1:left≤1048576) :
 ∃ t,Ev (fun k=>laws_szNodeS.f k xs left) t∧t≤left∧(0≤t→xs.length≤1048576∧∀ y∈xs,FitL y):=by
 have hw:wrap64 (left - (xs.length:Int))=left - (xs.length:Int):=Kit.wrap_of (by omega) (by omega)
 have he:∀ k,laws_szNodeS.f (k+1) xs left=if left - (xs.length:Int)<0 then (some (-1)) else (laws_szNodeS.l0 k xs (left - (xs.length:Int)) 0):=fun k=>by rw [laws_szNodeS.f,hw]
 by_cases hneg:left - (xs.length:Int)<0
 case pos=>exact ⟨-1,Ev.step he (Kit.ev_pos hneg (Ev.now _)),by omega,fun h=>absurd h (by omega)⟩
 case neg =>
  have key:∀ i,i≤xs.length→∀ l:Int,0≤l→l≤1048576→∃ t,Ev (fun k=>laws_szNodeS.l0 k xs l i) t∧t≤l∧(0≤t→∀ j,i≤j→j<xs.length→FitL (xs.getD j z33)):=by
   refine Kit.down ?_ ?_
   case refine_1 =>
    intro l a0 a1
    exact ⟨l,Ev.step (fun k=>rfl) (Kit.ev_neg (by omega) (Ev.now _)),Int.le_refl _,fun _ j h1 h2=>absurd h2 (by omega)⟩
   case refine_2 =>
    intro i hi ih l a0 a1
    obtain ⟨t,ht,htl,htf⟩:=hx (xs.getD i z33) (Kit.getD_mem _ hi) l a0 a1
    by_cases hn2:t<0
    case pos =>
     refine ⟨-1,Ev.step (fun k=>rfl) (Kit.ev_pos (by omega) (Kit.ev_pos (by omega) ?_)),by omega,fun h=>absurd h (by omega)⟩
     rw [rdLN_nat]
     exact Ev.bind ht (Kit.ev_pos hn2 (Ev.now _))
    case neg =>
     obtain ⟨u,hu,hul,huf⟩:=ih t (by omega) (by omega)
     refine ⟨u,Ev.step (fun k=>rfl) (Kit.ev_pos (by omega) (Kit.ev_pos (by omega) ?_)),by omega,fun h j h1 h2=>?_⟩
     case refine_1 =>
      rw [rdLN_nat,Kit.wrap_nat hi hn]
      exact Ev.bind ht (Kit.ev_neg hn2 hu)
     case refine_2 =>
      by_cases e:j=i
      case pos=>subst e;exact htf (by omega)
      case neg=>exact huf h j (by omega) h2
  obtain ⟨t,ht,htl,htf⟩:=key 0 (by omega) (left - (xs.length:Int)) (by omega) (by omega)
  exact ⟨t,Ev.step he (Kit.ev_neg hneg ht),by omega,fun h=>⟨by omega,all_getD z33 fun j hj=>htf h j (Nat.zero_le _) hj⟩⟩
theorem ex_szNode (x:S33) (hg:G33 x):∀ l:Int,0≤l→l≤1048576→∃ t,Ev (fun k=>laws_szNode.f k x.f0 x.f1 x.f2 x.f3 x.f4 x.f5 l) t∧t≤l∧(0≤t→FitL x):=by
 induction hg with
 | mk x g0 g1 g2 g3 g4 g5 gk ih =>
  intro l h0 h1
  unfold Open.Short at g2 g3
  have w2:wrap64 (l - (x.f2.size:Int))=l - (x.f2.size:Int):=Kit.wrap_of (by omega) (by omega)
  have he:∀ k,laws_szNode.f (k+1) x.f0 x.f1 x.f2 x.f3 x.f4 x.f5 l=if l - (x.f2.size:Int)<0 then (some (-1)) else (if (wrap64 (l - (x.f2.size:Int) - (x.f3.size:Int)))<0 then (some (-1)) else ((laws_szAttrS.f k x.f4 (wrap64 (l - (x.f2.size:Int) - (x.f3.size:Int)))).bind fun t105=>(if t105<0 then (some (-1)) else ((laws_szNodeS.f k x.f5 t105).bind fun t106=>(if t106<0 then (some (-1)) else (some t106)))))):=fun k=>by rw [laws_szNode.f,w2]
  by_cases n2:l - (x.f2.size:Int)<0
  case pos=>exact ⟨-1,Ev.step he (Kit.ev_pos n2 (Ev.now _)),by omega,fun h=>absurd h (by omega)⟩
  case neg =>
   have w3:wrap64 (l - (x.f2.size:Int) - (x.f3.size:Int))=l - (x.f2.size:Int) - (x.f3.size:Int):=Kit.wrap_of (by omega) (by omega)
   rw [w3] at he
   by_cases n3:l - (x.f2.size:Int) - (x.f3.size:Int)<0
   case pos=>exact ⟨-1,Ev.step he (Kit.ev_neg n2 (Kit.ev_pos n3 (Ev.now _))),by omega,fun h=>absurd h (by omega)⟩
   case neg =>
    obtain ⟨t,ht,htl,htf⟩:=ev_szAttrS x.f4 (l - (x.f2.size:Int) - (x.f3.size:Int)) (by omega) (by omega) g4
    by_cases n4:t<0
    case pos=>exact ⟨-1,Ev.step he (Kit.ev_neg n2 (Kit.ev_neg n3 (Ev.bind ht (Kit.ev_pos n4 (Ev.now _))))),by omega,fun h=>absurd h (by omega)⟩
    case neg =>
     obtain ⟨u,hu,hul,huf⟩:=ex_szNodeS x.f5 g5 ih t (by omega) (by omega)
     by_cases n5:u<0
     case pos=>exact ⟨-1,Ev.step he (Kit.ev_neg n2 (Kit.ev_neg n3 (Ev.bind ht (Kit.ev_neg n4 (Ev.bind hu (Kit.ev_pos n5 (Ev.now _))))))),by omega,fun h=>absurd h (by omega)⟩
     case neg=>exact ⟨u,Ev.step he (Kit.ev_neg n2 (Kit.ev_neg n3 (Ev.bind ht (Kit.ev_neg n4 (Ev.bind hu (Kit.ev_neg n5 (Ev.now _))))))),by omega,fun h=>.mk x (by omega) (by omega) (htf (by omega)) (huf h).1 (huf h).2⟩
/-- A node of the program's kind whose texts are short. -/
inductive FitP:S38→Prop
 | mk (x:S38) (h2:x.f2.size≤1048576) (h3:x.f3.size≤1048576) (h4:x.f4.length≤1048576∧∀ a∈x.f4,a.f0.size≤1048576∧a.f1.size≤1048576) (h5:x.f5.length≤1048576) (hk:∀ y∈x.f5,FitP y):FitP x
theorem ex_toNodeS (xs:List S33) (hn:xs.length≤1048576) (hx:∀ y∈xs,∃ v:S38,Ev (fun k=>laws_toNode.f k y.f0 y.f1 y.f2 y.f3 y.f4 y.f5) (v.f0,v.f1,v.f2,v.f3,v.f4,v.f5)∧FitP v):∃ ys:List S38,Ev (fun k=>laws_toNodeS.f k xs) ys∧ys.length=xs.length∧∀ y∈ys,FitP y:=by
 have key:∀ i,i≤xs.length→∀ acc:List S38,acc.length=xs.length→(∀ j,j<i→FitP (acc.getD j z38))→∃ ys:List S38,Ev (fun k=>laws_toNodeS.l0 k xs acc i) ys∧ys.length=xs.length∧∀ y∈ys,FitP y:=by
  refine Kit.down ?_ ?_
  case refine_1 =>
   intro acc hl hb
   exact ⟨acc,Ev.step (fun k=>rfl) (Kit.ev_neg (by omega) (Ev.now _)),hl,all_getD z38 fun j hj=>hb j (by omega)⟩
  case refine_2 =>
   intro i hi ih acc hl hb
   obtain ⟨v,hv,hf⟩:=hx (xs.getD i z33) (Kit.getD_mem _ hi)
   obtain ⟨ys,hy,hyl,hyf⟩:=ih (acc.set i v) (by rw [List.length_set];exact hl) (fun j hj=>by
    rw [List.getD_eq_getElem?_getD,List.getElem?_set]
    by_cases e:i=j
    case pos=>subst e;rw [if_pos rfl,if_pos (by omega)];exact hf
    case neg=>rw [if_neg e,←List.getD_eq_getElem?_getD];exact hb j (by omega))
   refine ⟨ys,Ev.step (fun k=>rfl) (Kit.ev_pos (by omega) (Kit.ev_pos (by omega) ?_)),hyl,hyf⟩
   rw [rdLN_nat,Kit.wrap_nat hi (by omega),Int.toNat_natCast]
   cases v with
   | mk v0 v1 v2 v3 v4 v5=>exact Ev.bind hv (Kit.ev_pos (by omega) hy)
 obtain ⟨ys,hy,hyl,hyf⟩:=key 0 (by omega) (List.replicate xs.length z38) (List.length_replicate) (fun j hj=>absurd hj (Nat.not_lt_zero _))
 have he:∀ k,laws_toNodeS.f (k+1) xs=laws_toNodeS.l0 k xs (List.replicate xs.length z38) 0:=fun k=>by rw [laws_toNodeS.f,if_pos (by omega),if_pos (by omega),Int.toNat_natCast]
 exact ⟨ys,Ev.step he hy,hyl,hyf⟩
theorem ex_toNode (x:S33) (hf:FitL x):∃ v:S38,Ev (fun k=>laws_toNode.f k x.f0 x.f1 x.f2 x.f3 x.f4 x.f5) (v.f0,v.f1,v.f2,v.f3,v.f4,v.f5)∧FitP v:=by
 induction hf with
 | mk x h2 h3 h4 h5 hk ih =>
  obtain ⟨ys,hy,hyl,hyf⟩:=ex_toNodeS x.f5 h5 ih
  refine ⟨⟨x.f0,x.f1,x.f2,x.f3,x.f4.map toA,ys⟩,Ev.step (fun k=>rfl) (Ev.bind (ev_toAttrS x.f4 h4.1) (Ev.bind hy (Ev.now _))),.mk _ h2 h3 ⟨?_,?_⟩ ?_ hyf⟩
  case refine_1=>rw [List.length_map];exact h4.1
  case refine_2 =>
   intro a ha
   obtain ⟨b,hb,rfl⟩:=List.mem_map.1 ha
   exact h4.2 b hb
  case refine_3=>show ys.length≤_;omega
theorem ev_eqNodeS_of (xs:List S38) (hn:xs.length≤1048576) (hx:∀ y∈xs,Ev (fun k=>laws_eqNode.f k y.f0 y.f1 y.f2 y.f3 y.f4 y.f5 y.f0 y.f1 y.f2 y.f3 y.f4 y.f5) true):Ev (fun k=>laws_eqNodeS.f k xs xs) true:=by
 refine Ev.step (fun k=>rfl) (Kit.ev_pos rfl (Kit.ev_refl (n:=xs.length) (L:=fun k i=>laws_eqNodeS.l0 k xs xs i) (Ev.step (fun k=>rfl) (Kit.ev_neg (by omega) (Ev.now _))) ?_))
 intro i hi ih
 refine Ev.step (fun k=>rfl) (Kit.ev_pos (by omega) (Kit.ev_pos (by omega) (Kit.ev_pos (by omega) ?_)))
 rw [rdN_nat,Kit.wrap_nat hi (by omega)]
 exact Ev.bind (hx _ (Kit.getD_mem _ hi)) (Kit.ev_pos rfl ih)
theorem ev_eqNode (x:S38) (hf:FitP x):Ev (fun k=>laws_eqNode.f k x.f0 x.f1 x.f2 x.f3 x.f4 x.f5 x.f0 x.f1 x.f2 x.f3 x.f4 x.f5) true:=by
 induction hf with
 | mk x h2 h3 h4 h5 hk ih=>exact Ev.step (fun k=>rfl) (Kit.ev_pos rfl (Kit.ev_pos rfl (Kit.ev_pos rfl (Kit.ev_pos rfl (Ev.bind (ev_eqAttrS x.f4 h4.1) (Kit.ev_pos rfl (Ev.bind (ev_eqNodeS_of x.f5 h5 ih) (Kit.ev_pos rfl (Ev.now _)))))))))
/-- The argument of a law over a tree: its size, its form of the program's kind, which is like itself. -/
theorem ex_tree (xs:List S33) (hx:Open.Few G33 xs) (left:Int) (h0:0≤left) (h1:left≤1048576):∃ t,Ev (fun k=>laws_szNodeS.f k xs left) t∧t≤left∧(0≤t→∃ ys:List S38,Ev (fun k=>laws_toNodeS.f k xs) ys∧ys.length≤1048576∧(∀ y∈ys,FitP y)∧Ev (fun k=>laws_eqNodeS.f k ys ys) true):=by
 obtain ⟨t,ht,htl,htf⟩:=ex_szNodeS xs hx.1 (fun y hy=>ex_szNode y (hx.2 y hy)) left h0 h1
 refine ⟨t,ht,htl,fun h=>?_⟩
 obtain ⟨hl,hf⟩:=htf h
 obtain ⟨ys,hy,hyl,hyf⟩:=ex_toNodeS xs hl (fun y hy=>ex_toNode y (hf y hy))
 exact ⟨ys,hy,by omega,hyf,ev_eqNodeS_of ys (by omega) (fun y hy=>ev_eqNode y (hyf y hy))⟩
theorem fitB_of (x:S38) (h:FitP x):∀ n,fitB n x=true:=by
 induction h with
 | mk x h2 h3 h4 h5 hk ih =>
  intro n
  cases n with
  | zero=>rfl
  | succ n =>
   rw [fitB,Bool.and_eq_true,Bool.and_eq_true,List.all_eq_true,List.all_eq_true]
   exact ⟨⟨decide_eq_true (by omega),fun a ha=>decide_eq_true (by have:=(h4.2 a ha).1;omega)⟩,fun y hy=>ih y hy n⟩
/- What a tree is. -/
theorem rdA2_nat (xs:List S63) (i:Nat):rd_T63 xs (i:Int)=xs.getD i z63:=by simp [rd_T63]
theorem ev_l03Attrs (l:List S63) (hs:∀ a∈l,a.f0.size≤9223372036854775807) (hn:l.length≤9223372036854775807):Ev (fun k=>spec_l03Attrs.f k l) (attrsOK l):=by
 unfold spec_l03Attrs.f
 refine Kit.ev_if (fun h=>?_) (fun h=>?_)
 case refine_1 =>
  have:attrsOK l=false:=by unfold attrsOK;rw [decide_eq_false (by omega),Bool.and_false]
  rw [this]
  exact Ev.now _
 case refine_2 =>
  have key:∀ i,i≤l.length→(∀ j,j<i→attrAt l j=true)→Ev (fun k=>spec_l03Attrs.l0 k l i) (attrsOK l):=by
   refine Kit.down ?_ ?_
   case refine_1 =>
    intro hb
    have:attrsOK l=true:=by unfold attrsOK;rw [(Kit.allB_iff _ _ _).2 fun j _ hj=>hb j hj,decide_eq_true (by omega)];rfl
    rw [this]
    exact Ev.step (fun k=>rfl) (Kit.ev_neg (by omega) (Ev.now _))
   case refine_2 =>
    intro i hi ih hb
    have no:attrAt l i=false→attrsOK l=false:=by
     intro h2
     unfold attrsOK
     rw [Bool.and_eq_false_iff]
     refine .inl (Bool.eq_false_iff.2 fun h3=>?_)
     rw [(Kit.allB_iff _ _ _).1 h3 i (Nat.zero_le _) hi] at h2
     cases h2
    refine Ev.step (fun k=>rfl) (Kit.ev_pos (by omega) (Kit.ev_pos (by omega) ?_))
    rw [rdA2_nat]
    have ht:=ev_tag_spec (l.getD i z63).f0 (hs _ (Kit.getD_mem _ hi))
    have hj:∀ (b:Bool) (k:Nat),spec_l03Attrs.j1 (k+1) l i b=if b=true then (some false) else (spec_l03Attrs.l1 k l i 0):=fun b k=>by rw [spec_l03Attrs.j1]
    have hat:attrAt l i=((Kit.isTag (l.getD i z63).f0 && decide ((l.getD i z63).f1.size≤40)) && !Mach.anyP (nameAs l i) i):=rfl
    refine Ev.bind ht ?_
    cases hb1:Kit.isTag (l.getD i z63).f0 with
    | false =>
     rw [no (by rw [hat,hb1,Bool.false_and,Bool.false_and])]
     exact Kit.ev_neg Bool.false_ne_true (Ev.step (hj true) (Kit.ev_pos rfl (Ev.now _)))
    | true =>
     refine Kit.ev_pos rfl (Ev.step (hj _) ?_)
     by_cases hv:((l.getD i z63).f1.size:Int)>40
     case pos =>
      rw [no (by rw [hat,decide_eq_false (by omega),Bool.and_false,Bool.false_and])]
      exact Kit.ev_pos (decide_eq_true hv) (Ev.now _)
     case neg =>
      refine Kit.ev_neg (by simpa using hv) ?_
      have key2:∀ m,m≤i→(∀ j,j<m→nameAs l i j=false)→Ev (fun k=>spec_l03Attrs.l1 k l i m) (attrsOK l):=by
       refine Kit.down ?_ ?_
       case refine_1 =>
        intro hc
        refine Ev.step (fun k=>rfl) (Kit.ev_neg (by omega) ?_)
        rw [Kit.wrap_nat hi hn]
        refine ih fun j hj=>?_
        by_cases e:j=i
        case pos =>
         subst e
         have:Mach.anyP (nameAs l j) j=false:=Bool.eq_false_iff.2 fun h5=>by
          obtain ⟨q,hq,h6⟩:=(Mach.anyP_iff _ _).1 h5
          rw [hc q hq] at h6
          cases h6
         rw [hat,hb1,this,decide_eq_true (by omega)]
         rfl
        case neg=>exact hb j (by omega)
       case refine_2 =>
        intro m hm ih2 hc
        refine Ev.step (fun k=>rfl) (Kit.ev_pos (by omega) (Kit.ev_pos (by omega) (Kit.ev_pos (by omega) (Kit.ev_pos (by omega) (Kit.ev_pos (by omega) ?_)))))
        rw [rdA2_nat,rdA2_nat,Kit.wrap_nat hm (by omega)]
        refine Kit.ev_if (fun h7=>?_) (fun h7=>?_)
        case refine_1 =>
         have:Mach.anyP (nameAs l i) i=true:=(Mach.anyP_iff _ _).2 ⟨m,hm,beq_iff_eq.2 h7⟩
         rw [no (by rw [hat,this,Bool.not_true,Bool.and_false])]
         exact Ev.now _
        case refine_2 =>
         refine ih2 fun j hj=>?_
         by_cases e:j=m
         case pos=>subst e;exact beq_eq_false_iff_ne.2 h7
         case neg=>exact hc j (by omega)
      exact key2 0 (by omega) (fun j hj=>absurd hj (Nat.not_lt_zero _))
  exact key 0 (by omega) (fun j hj=>absurd hj (Nat.not_lt_zero _))
theorem l01In_now (n a b:Int):spec_l01In.f n a b=some (decide (a≤n∧n≤b)):=by
 unfold spec_l01In.f
 by_cases h:n≥a
 case pos=>rw [if_pos h];simp [h]
 case neg=>rw [if_neg h];simp;omega
theorem ev_l03Plain (x:S38) (hs:x.f2.size≤9223372036854775807) (ha:∀ a∈x.f4,a.f0.size≤9223372036854775807) (hn:x.f4.length≤9223372036854775807):Ev (fun k=>spec_l03Plain.f k x.f0 x.f1 x.f2 x.f3 x.f4 x.f5) (ownB x):=by
 unfold spec_l03Plain.f ownB
 have he:Ev (fun _=>if (x.f4.length:Int)=0 then (some ((x.f5.length:Int) == 0)) else (some false)) (if (x.f4.length:Int)=0 then ((x.f5.length:Int) == 0) else false):=by
  refine Kit.ev_if (fun h=>?_) (fun h=>?_)
  case refine_1=>rw [if_pos h];exact Ev.now _
  case refine_2=>rw [if_neg h];exact Ev.now _
 have no1:∀ b:Bool,x.f2.toList≠([]:List UInt8)→(b && emptyB x)=false:=fun b h=>by
  unfold emptyB
  by_cases h1:x.f1=0
  case pos=>rw [if_pos h1,if_neg h,Bool.and_false]
  case neg=>rw [if_neg h1,Bool.and_false]
 have no2:∀ b:Bool,x.f1≠0→(b && emptyB x)=false:=fun b h=>by
  unfold emptyB
  rw [if_neg h,Bool.and_false]
 refine Kit.ev_if (fun h=>?_) (fun h=>?_)
 case refine_1 =>
  rw [if_pos h]
  have ht:=ev_tag_spec x.f2 hs
  have hat:=ev_l03Attrs x.f4 ha hn
  generalize Kit.isTag x.f2=b1 at *
  generalize attrsOK x.f4=b3 at *
  refine Ev.bind ht ?_
  cases b1 with
  | false=>exact Kit.ev_neg Bool.false_ne_true (Ev.now _)
  | true =>
   refine Kit.ev_pos rfl (Kit.ev_some (l01In_now _ _ _) ?_)
   generalize decide (0≤x.f1∧x.f1≤2)=b2
   cases b2 with
   | false=>exact Kit.ev_neg Bool.false_ne_true (Ev.now _)
   | true =>
    refine Kit.ev_pos rfl (Kit.ev_if (fun h2=>?_) (fun h2=>?_))
    case refine_1 =>
     rw [beq_iff_eq.2 h2,Bool.and_true]
     exact Ev.bind hat (Ev.now _)
    case refine_2 =>
     rw [beq_eq_false_iff_ne.2 h2,Bool.and_false]
     exact Ev.now _
 case refine_2 =>
  rw [if_neg h]
  refine Kit.ev_if (fun h2=>?_) (fun h2=>?_)
  case refine_1 =>
   rw [if_pos h2]
   refine Kit.ev_if (fun e1=>?_) (fun e1=>?_)
   case refine_2=>rw [no1 _ e1];exact Ev.now _
   case refine_1 =>
    refine Kit.ev_if (fun e2=>?_) (fun e2=>?_)
    case refine_2=>rw [no2 _ e2];exact Ev.now _
    case refine_1 =>
     unfold emptyB
     rw [if_pos e2,if_pos e1]
     refine Kit.ev_some (l01In_now _ _ _) ?_
     generalize decide (1≤(x.f3.size:Int)∧(x.f3.size:Int)≤120)=b
     cases b with
     | false=>exact Kit.ev_neg Bool.false_ne_true (Ev.now _)
     | true=>exact Kit.ev_pos rfl he
  case refine_2 =>
   rw [if_neg h2]
   refine Kit.ev_if (fun h3=>?_) (fun h3=>?_)
   case refine_2=>rw [if_neg h3];exact Ev.now _
   case refine_1 =>
    rw [if_pos h3]
    refine Kit.ev_if (fun e1=>?_) (fun e1=>?_)
    case refine_2=>rw [no1 _ e1];exact Ev.now _
    case refine_1 =>
     refine Kit.ev_if (fun e2=>?_) (fun e2=>?_)
     case refine_2=>rw [no2 _ e2];exact Ev.now _
     case refine_1 =>
      unfold emptyB
      rw [if_pos e2,if_pos e1]
      refine Kit.ev_if (fun e3=>?_) (fun e3=>?_)
      case refine_1 =>
       rw [decide_eq_true (by omega)]
       exact he
      case refine_2 =>
       rw [decide_eq_false (by omega)]
       exact Ev.now _
theorem ev_l01Void (a:ByteArray):Ev (fun k=>spec_l01Void.f k a) (Kit.hasT voidL a):=Ev.bind (ev_l01Has _ a (by decide)) (Ev.now _)
theorem ev_l01Raw (a:ByteArray):Ev (fun k=>spec_l01Raw.f k a) (Kit.hasT rawL a):=Ev.bind (ev_l01Has _ a (by decide)) (Ev.now _)
theorem any_getD {α : Type} (p : α → Bool) (d : α) (xs:List α) (h:∀ j,j<xs.length→p (xs.getD j d)=false):xs.any p=false:=by
 refine Bool.eq_false_iff.2 fun h2=>?_
 obtain ⟨y,hy,h3⟩:=List.any_eq_true.1 h2
 rw [all_getD (P:=fun y=>p y=false) d h y hy] at h3
 cases h3
theorem ev_l03Holds (x:S38) (hn:x.f5.length≤9223372036854775807):Ev (fun k=>spec_l03Holds.f k x.f0 x.f1 x.f2 x.f3 x.f4 x.f5) (!voidFull x && !rawBad x):=by
 have yes:voidB x=false→rawB x=false→(!voidFull x && !rawBad x)=true:=fun h1 h2=>by unfold voidFull rawBad;rw [h1,h2];rfl
 have hj:∀ (b:Bool) (k:Nat),spec_l03Holds.j0 (k+1) b x.f0 x.f1 x.f2 x.f3 x.f4 x.f5=if b=true then (some true) else ((spec_l01Void.f k x.f2).bind fun t132=>(if t132=true then (some ((x.f5.length:Int) == 0)) else (spec_l03Holds.l0 k 0 x.f0 x.f1 x.f2 x.f3 x.f4 x.f5))):=fun b k=>by rw [spec_l03Holds.j0]
 unfold spec_l03Holds.f
 refine Kit.ev_if (fun h=>?_) (fun h=>?_)
 case refine_2 =>
  rw [yes (by unfold voidB;rw [if_neg h]) (by unfold rawB;rw [if_neg h])]
  exact Ev.step (hj true) (Kit.ev_pos rfl (Ev.now _))
 case refine_1 =>
  by_cases h1:x.f1=0
  case neg =>
   rw [yes (by unfold voidB;rw [if_pos h,if_neg h1]) (by unfold rawB;rw [if_pos h,if_neg h1])]
   exact Ev.step (hj _) (Kit.ev_pos (by simpa using h1) (Ev.now _))
  case pos =>
   have hv:voidB x=Kit.hasT voidL x.f2:=by unfold voidB;rw [if_pos h,if_pos h1]
   have hr:rawB x=Kit.hasT rawL x.f2:=by unfold rawB;rw [if_pos h,if_pos h1]
   refine Ev.step (hj _) (Kit.ev_neg (by simp [h1]) (Ev.bind (ev_l01Void x.f2) ?_))
   unfold voidFull rawBad
   rw [hv,hr]
   have rv:=ev_l01Raw x.f2
   cases Kit.hasT voidL x.f2 with
   | true =>
    refine Kit.ev_pos rfl ?_
    by_cases hz:x.f5=[]
    case pos =>
     rw [hz]
     have:(!(true && decide (0<([]:List S38).length)) && !(Kit.hasT rawL x.f2 && ([]:List S38).any noText))=true:=by simp
     rw [this]
     exact Ev.now _
    case neg =>
     have hl:0<x.f5.length:=List.length_pos_iff.2 hz
     rw [decide_eq_true hl]
     have:((x.f5.length:Int) == 0)=false:=beq_eq_false_iff_ne.2 (by omega)
     rw [this]
     exact Ev.now _
   | false =>
    refine Kit.ev_neg Bool.false_ne_true ?_
    rw [Bool.false_and,Bool.not_false,Bool.true_and]
    have key:∀ i,i≤x.f5.length→(Kit.hasT rawL x.f2=true→∀ j,j<i→noText (x.f5.getD j z38)=false)→Ev (fun k=>spec_l03Holds.l0 k i x.f0 x.f1 x.f2 x.f3 x.f4 x.f5) (!(Kit.hasT rawL x.f2 && x.f5.any noText)):=by
     refine Kit.down ?_ ?_
     case refine_1 =>
      intro hb
      have:(!(Kit.hasT rawL x.f2 && x.f5.any noText))=true:=by
       cases hq:Kit.hasT rawL x.f2 with
       | false=>rfl
       | true=>rw [any_getD noText z38 x.f5 (hb hq)];rfl
      rw [this]
      exact Ev.step (fun k=>rfl) (Kit.ev_neg (by omega) (Ev.now _))
     case refine_2 =>
      intro i hi ih hb
      refine Ev.step (fun k=>rfl) (Kit.ev_pos (by omega) (Ev.bind rv ?_))
      rw [rdN_nat,Kit.wrap_nat hi hn]
      refine Kit.ev_if (fun hq=>?_) (fun hq=>?_)
      case refine_2=>exact ih fun h2=>absurd h2 hq
      case refine_1 =>
       refine Kit.ev_pos (by omega) (Kit.ev_if (fun h2=>?_) (fun h2=>?_))
       case refine_1 =>
        refine ih fun _ j hj=>?_
        by_cases e:j=i
        case pos=>subst e;unfold noText;rw [h2];rfl
        case neg=>exact hb hq j (by omega)
       case refine_2 =>
        have:x.f5.any noText=true:=List.any_eq_true.2 ⟨x.f5.getD i z38,Kit.getD_mem _ hi,bne_iff_ne.2 h2⟩
        rw [this,hq]
        exact Ev.now _
    exact key 0 (by omega) (fun _ j hj=>absurd hj (Nat.not_lt_zero _))
/-- A node and all within are right, none deeper than may be; how many there are. -/
def okN:Nat→S38→Bool
 | 0,_=>false
 | n+1,x=>nodeOK x && x.f5.all (okN n)
def cntN:Nat→S38→Nat
 | 0,_=>1
 | n+1,x=>1+(x.f5.map (cntN n)).sum
def kidN (n:Nat) (x:S38):Nat:=cntN n x - 1
theorem cntN_pos (n:Nat) (x:S38):1≤cntN n x:=by
 cases n with
 | zero=>exact Nat.le_refl _
 | succ n=>rw [cntN];omega
theorem kidsI_ok (n:Nat) (hf:∀ (x:S38) (c:Int),0≤c→c≤60→((nodeI n x c).1=true ↔ okN n x=true∧c+cntN n x≤60)∧((nodeI n x c).1=true→(nodeI n x c).2=c+cntN n x)) (l:List S38):∀ c:Int,0≤c→c≤60→((kidsI (nodeI n) l c).1=true ↔ l.all (okN n)=true∧c+((l.map (cntN n)).sum:Nat)≤60)∧((kidsI (nodeI n) l c).1=true→(kidsI (nodeI n) l c).2=c+((l.map (cntN n)).sum:Nat)):=by
 induction l with
 | nil=>intro c h0 h1;exact ⟨⟨fun _=>⟨rfl,by simpa using h1⟩,fun _=>rfl⟩,fun _=>by simp [kidsI]⟩
 | cons x l ih =>
  intro c h0 h1
  obtain ⟨f1,f2⟩:=hf x c h0 h1
  rw [kidsI,List.all_cons,List.map_cons,List.sum_cons]
  by_cases hb:(nodeI n x c).1=true
  case pos =>
   obtain ⟨g1,g2⟩:=f1.1 hb
   have e2:=f2 hb
   rw [if_pos hb,e2,g1,Bool.true_and]
   have p1:=cntN_pos n x
   obtain ⟨i1,i2⟩:=ih (c+cntN n x) (by omega) g2
   refine ⟨⟨fun h=>?_,fun h=>?_⟩,fun h=>?_⟩
   case refine_1=>obtain ⟨j1,j2⟩:=i1.1 h;exact ⟨j1,by omega⟩
   case refine_2=>exact i1.2 ⟨h.1,by omega⟩
   case refine_3=>rw [i2 h];omega
  case neg =>
   rw [if_neg hb]
   refine ⟨⟨fun h=>?_,fun h=>?_⟩,fun h=>?_⟩
   case refine_1=>cases h
   case refine_2 =>
    obtain ⟨h3,h4⟩:=h
    rw [Bool.and_eq_true] at h3
    exact absurd (f1.2 ⟨h3.1,by omega⟩) hb
   case refine_3=>cases h
theorem nodeI_ok (n:Nat):∀ (x:S38) (c:Int),0≤c→c≤60→((nodeI n x c).1=true ↔ okN n x=true∧c+cntN n x≤60)∧((nodeI n x c).1=true→(nodeI n x c).2=c+cntN n x):=by
 induction n with
 | zero=>intro x c h0 h1;exact ⟨⟨fun h=>(by cases h),fun h=>(by cases h.1)⟩,fun h=>(by cases h)⟩
 | succ n ih =>
  intro x c h0 h1
  rw [nodeI,okN,cntN]
  by_cases h6:60<c+1
  case pos =>
   rw [if_pos h6]
   exact ⟨⟨fun h=>(by cases h),fun h=>(by have:=h.2;omega)⟩,fun h=>(by cases h)⟩
  case neg =>
   rw [if_neg h6]
   by_cases hk:nodeOK x=true
   case neg =>
    rw [if_neg hk,Bool.eq_false_iff.2 hk,Bool.false_and]
    exact ⟨⟨fun h=>(by cases h),fun h=>(by cases h.1)⟩,fun h=>(by cases h)⟩
   case pos =>
    rw [if_pos hk,hk,Bool.true_and]
    obtain ⟨i1,i2⟩:=kidsI_ok n ih x.f5 (c+1) (by omega) (by omega)
    refine ⟨⟨fun h=>?_,fun h=>?_⟩,fun h=>?_⟩
    case refine_1=>obtain ⟨j1,j2⟩:=i1.1 h;exact ⟨j1,by omega⟩
    case refine_2=>exact i1.2 ⟨h.1,by omega⟩
    case refine_3=>rw [i2 h];omega
theorem treeB_iff (l:List S38):treeB l=true ↔ l.all (okN 10)=true∧(l.map (cntN 10)).sum≤60:=by
 unfold treeB
 obtain ⟨i1,_⟩:=kidsI_ok 10 (nodeI_ok 10) l 0 (by omega) (by omega)
 rw [i1]
 constructor
 case mp=>intro h;exact ⟨h.1,by omega⟩
 case mpr=>intro h;exact ⟨h.1,by omega⟩
theorem cnt_len (n:Nat) (l:List S38):(l.map (cntN n)).sum=l.length+(l.map (kidN n)).sum:=by
 induction l with
 | nil=>rfl
 | cons x l ih =>
  rw [List.map_cons,List.map_cons,List.sum_cons,List.sum_cons,List.length_cons,ih]
  have:=cntN_pos n x
  unfold kidN
  omega
/-- What the reference counts. -/
theorem ev_l03OK (d:Nat) (hd:d≤10):∀ (l:List S38),l.length≤1048576→(∀ y∈l,FitP y)→∃ v:Int × Bool,Ev (fun k=>spec_l03OK.f k l (d:Int)) v∧(v.2=true ↔ l.all (okN d)=true∧(l.map (cntN d)).sum≤60)∧(v.2=true→v.1=((l.map (cntN d)).sum:Nat)):=by
 have f0:∀ (l:List S38) (d:Int) (k:Nat),spec_l03OK.f (k+1) l d=if (l.length:Int)>60 then (spec_l03OK.j0 k l d (l.length:Int) true) else (if d=0 then (spec_l03OK.j0 k l d (l.length:Int) (decide ((l.length:Int)>0))) else (spec_l03OK.j0 k l d (l.length:Int) false)):=fun l d k=>by rw [spec_l03OK.f]
 have j0:∀ (l:List S38) (d s:Int) (b:Bool) (k:Nat),spec_l03OK.j0 (k+1) l d s b=if b=true then (some (s,false)) else (spec_l03OK.l0 k l d s 0):=fun l d s b k=>by rw [spec_l03OK.j0]
 have l0:∀ (l:List S38) (d s i:Int) (k:Nat),spec_l03OK.l0 (k+1) l d s i=if i<(l.length:Int) then (if 0≤i then ((spec_l03Plain.f k (rd_T38 l i).f0 (rd_T38 l i).f1 (rd_T38 l i).f2 (rd_T38 l i).f3 (rd_T38 l i).f4 (rd_T38 l i).f5).bind fun t136=>(if t136=true then ((spec_l03Holds.f k (rd_T38 l i).f0 (rd_T38 l i).f1 (rd_T38 l i).f2 (rd_T38 l i).f3 (rd_T38 l i).f4 (rd_T38 l i).f5).bind fun t138=>(spec_l03OK.j2 k l d s i (!t138))) else (spec_l03OK.j2 k l d s i true))) else (none)) else (some (s,true)):=fun l d s i k=>by rw [spec_l03OK.l0]
 have j2:∀ (l:List S38) (d s i:Int) (b:Bool) (k:Nat),spec_l03OK.j2 (k+1) l d s i b=if b=true then (some (s,false)) else (if 0≤i then (if i<(l.length:Int) then ((spec_l03OK.f k (rd_T38 l i).f5 (wrap64 (d - 1))).bind fun bt140=>(if bt140.2=true then (if (wrap64 (s+bt140.1))>60 then (some (wrap64 (s+bt140.1),false)) else (spec_l03OK.l0 k l d (wrap64 (s+bt140.1)) (wrap64 (i+1)))) else (some (wrap64 (s+bt140.1),false)))) else (none)) else (none)):=fun l d s i b k=>by rw [spec_l03OK.j2]
 induction d with
 | zero =>
  intro l hl hf
  cases l with
  | nil =>
   refine ⟨(0,true),Ev.step (f0 [] 0) (Kit.ev_neg (by simp) (Kit.ev_pos rfl (Ev.step (j0 [] 0 _ _) (Kit.ev_neg (by simp) (Ev.step (l0 [] 0 _ 0) (Kit.ev_neg (by simp) (Ev.now _))))))),?_,fun _=>by simp⟩
   simp
  | cons x l =>
   have hno:¬ ((x :: l).all (okN 0)=true∧((x :: l).map (cntN 0)).sum≤60):=fun h=>by
    have:=h.1
    rw [List.all_cons,okN,Bool.false_and] at this
    cases this
   by_cases h60:(((x :: l).length:Nat):Int)>60
   case pos=>exact ⟨_,Ev.step (f0 _ _) (Kit.ev_pos h60 (Ev.step (j0 _ _ _ _) (Kit.ev_pos rfl (Ev.now _)))),⟨fun h=>(by cases h),fun h=>absurd h hno⟩,fun h=>(by cases h)⟩
   case neg=>exact ⟨_,Ev.step (f0 _ _) (Kit.ev_neg h60 (Kit.ev_pos rfl (Ev.step (j0 _ _ _ _) (Kit.ev_pos (decide_eq_true (by rw [List.length_cons];omega)) (Ev.now _))))),⟨fun h=>(by cases h),fun h=>absurd h hno⟩,fun h=>(by cases h)⟩
 | succ d ih =>
  intro l hl hf
  by_cases h60:(l.length:Int)>60
  case pos =>
   refine ⟨_,Ev.step (f0 _ _) (Kit.ev_pos h60 (Ev.step (j0 _ _ _ _) (Kit.ev_pos rfl (Ev.now _)))),⟨fun h=>(by cases h),fun h=>?_⟩,fun h=>(by cases h)⟩
   have:=h.2
   rw [cnt_len] at this
   omega
  case neg =>
   have key:∀ i,i≤l.length→∀ s:Nat,s≤60→∃ v:Int × Bool,Ev (fun k=>spec_l03OK.l0 k l ((d+1:Nat):Int) (s:Int) i) v∧(v.2=true ↔ (l.drop i).all (okN (d+1))=true∧s+((l.drop i).map (kidN (d+1))).sum≤60)∧(v.2=true→v.1=((s+((l.drop i).map (kidN (d+1))).sum:Nat):Int)):=by
    refine Kit.down ?_ ?_
    case refine_1 =>
     intro s hs
     refine ⟨((s:Int),true),Ev.step (l0 _ _ _ _) (Kit.ev_neg (by omega) (Ev.now _)),?_,fun _=>?_⟩
     case refine_1=>rw [List.drop_length];simp;exact hs
     case refine_2=>rw [List.drop_length];simp
    case refine_2 =>
     intro i hi ihi s hs
     have hfy:=hf _ (Kit.getD_mem z38 hi)
     rw [Kit.drop_getD z38 l i hi,List.all_cons,List.map_cons,List.sum_cons]
     have hst:∀ v:Int × Bool,Ev (fun k=>(spec_l03Plain.f k (l.getD i z38).f0 (l.getD i z38).f1 (l.getD i z38).f2 (l.getD i z38).f3 (l.getD i z38).f4 (l.getD i z38).f5).bind fun t136=>(if t136=true then ((spec_l03Holds.f k (l.getD i z38).f0 (l.getD i z38).f1 (l.getD i z38).f2 (l.getD i z38).f3 (l.getD i z38).f4 (l.getD i z38).f5).bind fun t138=>(spec_l03OK.j2 k l ((d+1:Nat):Int) (s:Int) i (!t138))) else (spec_l03OK.j2 k l ((d+1:Nat):Int) (s:Int) i true))) v→Ev (fun k=>spec_l03OK.l0 k l ((d+1:Nat):Int) (s:Int) i) v:=fun v hv=>by
      refine Ev.step (l0 _ _ _ _) (Kit.ev_pos (by omega) (Kit.ev_pos (by omega) ?_))
      rw [rdN_nat]
      exact hv
     have hj:∀ v:Int × Bool,Ev (fun k=>(spec_l03OK.f k (l.getD i z38).f5 (wrap64 (((d+1:Nat):Int) - 1))).bind fun bt140=>(if bt140.2=true then (if (wrap64 ((s:Int)+bt140.1))>60 then (some (wrap64 ((s:Int)+bt140.1),false)) else (spec_l03OK.l0 k l ((d+1:Nat):Int) (wrap64 ((s:Int)+bt140.1)) (wrap64 ((i:Int)+1)))) else (some (wrap64 ((s:Int)+bt140.1),false)))) v→Ev (fun k=>spec_l03OK.j2 k l ((d+1:Nat):Int) (s:Int) i false) v:=fun v hv=>by
      refine Ev.step (j2 _ _ _ _ _) (Kit.ev_neg Bool.false_ne_true (Kit.ev_pos (by omega) (Kit.ev_pos (by omega) ?_)))
      rw [rdN_nat]
      exact hv
     generalize l.getD i z38=y at *
     cases hfy with
     | mk _ q2 q3 q4 q5 qk =>
     have hp:=ev_l03Plain y (by omega) (fun a ha=>by have:=(q4.2 a ha).1;omega) (by omega)
     have hh:=ev_l03Holds y (by omega)
     have hok:okN (d+1) y=((ownB y && (!voidFull y && !rawBad y)) && y.f5.all (okN d)):=by rw [okN,nodeOK,Bool.and_assoc (ownB y)]
     have hck:kidN (d+1) y=(y.f5.map (cntN d)).sum:=by unfold kidN;rw [cntN];omega
     rw [hok,hck]
     cases hb1:ownB y with
     | false =>
      rw [hb1] at hp
      refine ⟨_,hst _ (Ev.bind hp (Kit.ev_neg Bool.false_ne_true (Ev.step (j2 _ _ _ _ _) (Kit.ev_pos rfl (Ev.now _))))),⟨fun h=>(by cases h),fun h=>(by cases h.1)⟩,fun h=>(by cases h)⟩
     | true =>
      rw [hb1] at hp
      cases hb2:(!voidFull y && !rawBad y) with
      | false =>
       rw [hb2] at hh
       refine ⟨_,hst _ (Ev.bind hp (Kit.ev_pos rfl (Ev.bind hh (Ev.step (j2 _ _ _ _ _) (Kit.ev_pos rfl (Ev.now _)))))),⟨fun h=>(by cases h),fun h=>(by cases h.1)⟩,fun h=>(by cases h)⟩
      | true =>
       rw [hb2] at hh
       have hjj:=fun v hv=>hst v (Ev.bind hp (Kit.ev_pos rfl (Ev.bind hh (hj v hv))))
       rw [Bool.true_and,Bool.true_and]
       obtain ⟨u,hu,hu1,hu2⟩:=ih (by omega) y.f5 q5 qk
       have hwd:wrap64 (((d+1:Nat):Int) - 1)=(d:Int):=by rw [Kit.wrap_of (by omega) (by omega)];omega
       rw [hwd] at hjj
       by_cases hub:u.2=true
       case neg =>
        refine ⟨_,hjj _ (Ev.bind hu (Kit.ev_neg hub (Ev.now _))),⟨fun h=>(by cases h),fun h=>?_⟩,fun h=>(by cases h)⟩
        obtain ⟨h3,h4⟩:=h
        rw [Bool.and_eq_true] at h3
        exact absurd (hu1.2 ⟨h3.1,by omega⟩) hub
       case pos =>
        obtain ⟨g1,g2⟩:=hu1.1 hub
        have g3:=hu2 hub
        rw [g1,Bool.true_and]
        have hws:wrap64 ((s:Int)+u.1)=((s+(y.f5.map (cntN d)).sum:Nat):Int):=by rw [g3,Kit.wrap_of (by omega) (by omega)];omega
        have hjk:∀ v,Ev (fun k=>if (((s+(y.f5.map (cntN d)).sum:Nat):Int))>60 then (some (((s+(y.f5.map (cntN d)).sum:Nat):Int),false)) else (spec_l03OK.l0 k l ((d+1:Nat):Int) ((s+(y.f5.map (cntN d)).sum:Nat):Int) ((i+1:Nat):Int))) v→_:=fun v hv=>hjj v (Ev.bind hu (Kit.ev_pos hub (by rw [hws,Kit.wrap_nat hi (by omega)];exact hv)))
        by_cases h6:(((s+(y.f5.map (cntN d)).sum:Nat):Int))>60
        case pos=>exact ⟨_,hjk _ (Kit.ev_pos h6 (Ev.now _)),⟨fun h=>(by cases h),fun h=>(by have:=h.2;omega)⟩,fun h=>(by cases h)⟩
        case neg =>
         obtain ⟨v,hv,hv1,hv2⟩:=ihi (s+(y.f5.map (cntN d)).sum) (by omega)
         refine ⟨v,hjk _ (Kit.ev_neg h6 hv),hv1.trans ⟨fun h=>⟨h.1,by omega⟩,fun h=>⟨h.1,by omega⟩⟩,fun h=>?_⟩
         rw [hv2 h]
         omega
   obtain ⟨v,hv,hv1,hv2⟩:=key 0 (by omega) l.length (by omega)
   rw [List.drop_zero] at hv1 hv2
   rw [cnt_len]
   exact ⟨v,Ev.step (f0 _ _) (Kit.ev_neg h60 (Kit.ev_neg (by omega) (Ev.step (j0 _ _ _ _) (Kit.ev_neg Bool.false_ne_true hv)))),hv1,hv2⟩
theorem ev_l03Tree (l:List S38) (hl:l.length≤1048576) (hf:∀ y∈l,FitP y):Ev (fun k=>spec_l03Tree.f k l) (treeB l):=by
 obtain ⟨v,hv,h1,_⟩:=ev_l03OK 10 (Nat.le_refl _) l hl hf
 have:v.2=treeB l:=by rw [Bool.eq_iff_iff,h1,treeB_iff]
 rw [←this]
 unfold spec_l03Tree.f
 exact Ev.bind hv (Ev.now _)
theorem implTree (l:List S38) (hf:∀ y∈l,FitP y):impl_TreeOK.f l=some (treeB l):=impl_TreeOK.fit (fun y hy=>fitB_of y (hf y hy) 10)
/- What a tree's fault is. -/
theorem treeB_long (l:List S38) (h:(l.length:Int)>4096):treeB l=false:=Bool.eq_false_iff.2 fun h2=>by
 have h3:=(treeB_iff l).1 h2
 rw [cnt_len] at h3
 omega
theorem ev_l03Ask (l:List S38) (hl:l.length≤1048576) (hf:∀ y∈l,FitP y) (h:¬ (l.length:Int)>4096):Ev (fun k=>spec_l03Ask.f k l) (if treeB l=true then 0 else 1):=by
 unfold spec_l03Ask.f
 refine Kit.ev_neg h (Ev.bind (ev_l03Tree l hl hf) (Kit.ev_if (fun h=>?_) (fun h=>?_)))
 case refine_1=>rw [if_pos h];exact Ev.now _
 case refine_2=>rw [if_neg h];exact Ev.now _
theorem implFault (l:List S38) (hf:∀ y∈l,FitP y):impl_fault.f l=some (if (l.length:Int)>4096 then 2 else if treeB l=true then 0 else 1):=by
 unfold impl_fault.f
 by_cases h:(l.length:Int)>4096
 case pos=>rw [if_pos h,if_pos h]
 case neg =>
  rw [if_neg h,if_neg h,implTree l hf,Option.bind_some]
  cases treeB l <;> rfl
/- The reference's tag. -/
theorem ev_l06Start (x:S38) (h2:x.f2.size≤1048576) (hf:FitAs x.f4):Ev (fun k=>spec_l06Start.f k x.f0 x.f1 x.f2 x.f3 x.f4 x.f5) (mk (tagL x)):=by
 have hl:=hf.1
 have key:∀ i,i≤x.f4.length→∀ acc:ByteArray,acc=mk (headL x i)→Ev (fun k=>spec_l06Start.l0 k acc (i:Int) x.f0 x.f1 x.f2 x.f3 x.f4 x.f5) (mk (tagL x)):=by
  refine Kit.down ?_ ?_
  ·intro acc hacc
   have hsz:=head_len x h2 hf x.f4.length
   rw [←mk_size,←hacc] at hsz
   refine Ev.step (fun k=>rfl) (Kit.ev_neg (by omega) (Kit.ev_pos (by omega) (Kit.ev_const ?_)))
   rw [hacc,tag_end]
  ·intro i hi ih acc hacc
   have hsz:=head_len x h2 hf i
   rw [←mk_size,←hacc] at hsz
   have hm:=hf.2 _ (Kit.getD_mem z63 hi)
   have hst:=head_step x i hi
   have hvs:=escVT_size (x.f4.getD i z63).f1
   have hz:=attr_sizes (x.f4.getD i z63) (escVT (x.f4.getD i z63).f1)
   have he:=attr_text (x.f4.getD i z63)
   have hel:=attr_len _ hm
   have hv:=ev_l02Value (x.f4.getD i z63).f1 (by omega)
   refine Ev.step (fun k=>rfl) (Kit.ev_pos (by omega) (Kit.ev_pos (by omega) ?_))
   rw [rdA2_nat,Kit.wrap_nat hi (by omega)]
   generalize x.f4.getD i z63=a at *
   obtain ⟨z1,z2,z3⟩:=hz
   refine Kit.ev_pos (by omega) (Kit.ev_pos (by omega) (Ev.bind hv (Kit.ev_pos (by omega) (Kit.ev_pos (by omega) ?_))))
   rw [he]
   refine Kit.ev_pos (by rw [mk_size];omega) (ih _ ?_)
   rw [hacc,hst,mk_txt]
   simp [mk]
 unfold spec_l06Start.f
 exact Kit.ev_pos (by omega) (key 0 (Nat.zero_le _) _ (head_zero x))
/- The text of a tree. -/
theorem f0_of {x:S38} (h:ownB x=true) (h2:¬ x.f0=2) (h3:¬ x.f0=3):x.f0=1∧x.f4.length≤6:=by
 unfold ownB at h
 by_cases h1:x.f0=1
 ·rw [if_pos h1,Bool.and_eq_true,Bool.and_eq_true] at h
  have h4:=h.1.2
  unfold attrsOK at h4
  rw [Bool.and_eq_true] at h4
  exact ⟨h1,of_decide_eq_true h4.2⟩
 ·rw [if_neg h1,if_neg h2,if_neg h3] at h
  cases h
theorem flatF_le (l:List UInt8):(l.flatMap escF).length≤5 * l.length:=by
 have h:=escG_le l
 rw [flat_len]
 omega
theorem own_of_ok {n:Nat} {x:S38} (h:okN (n+1) x=true):ownB x=true∧∀ y∈x.f5,okN n y=true:=by
 rw [okN,Bool.and_eq_true,List.all_eq_true] at h
 have h1:=h.1
 unfold nodeOK at h1
 rw [Bool.and_eq_true,Bool.and_eq_true] at h1
 exact ⟨h1.1.1,h.2⟩
theorem fit_parts {x:S38} (h:FitP x):x.f2.size≤1048576∧x.f3.size≤1048576∧FitAs x.f4∧x.f5.length≤1048576∧∀ y∈x.f5,FitP y:=by
 cases h with|mk x h2 h3 h4 h5 hk=>exact ⟨h2,h3,h4,h5,hk⟩
theorem tag_len (x:S38) (h2:x.f2.size≤1048576) (hf:FitAs x.f4) (h6:x.f4.length≤6):(tagL x).length≤52000000:=by
 have h1:=attrs_len x.f4 hf.2
 unfold tagL headL
 rw [List.length_append,List.length_cons,List.length_append,data_length,List.take_of_length_le (Nat.le_refl _),List.length_singleton]
 omega
theorem ser_len (n:Nat):∀ (x:S38) (p:Bool),okN n x=true→FitP x→(serE n p x).length≤60000000 * cntN n x:=by
 induction n with
 | zero=>intro x p h;cases h
 | succ n ih =>
  intro x p h hf
  obtain ⟨ho,hk⟩:=own_of_ok h
  obtain ⟨f2,f3,f4,_,f5⟩:=fit_parts hf
  have hkids:∀ (b:Bool) (l:List S38),(∀ y∈l,okN n y=true)→(∀ y∈l,FitP y)→(l.flatMap (serE n b)).length≤60000000 * (l.map (cntN n)).sum:=by
   intro b l
   induction l with
   | nil=>intro _ _;simp
   | cons y l ihl =>
    intro hl hp
    have a1:=ih y b (hl y List.mem_cons_self) (hp y List.mem_cons_self)
    have a2:=ihl (fun z hz=>hl z (List.mem_cons_of_mem _ hz)) (fun z hz=>hp z (List.mem_cons_of_mem _ hz))
    rw [List.flatMap_cons,List.length_append,List.map_cons,List.sum_cons]
    omega
  have h5:=hkids (rawB x) x.f5 hk f5
  have hd3:=data_length x.f3
  have hd2:=data_length x.f2
  rw [serE,cntN]
  by_cases h3:x.f0=3
  ·rw [if_pos h3]
   simp only [List.length_append,List.length_cons,List.length_nil]
   omega
  ·rw [if_neg h3]
   by_cases h2:x.f0=2
   ·rw [if_pos h2]
    have h7:=flatF_le x.f3.data.toList
    split <;> omega
   ·rw [if_neg h2]
    have h8:=tag_len x f2 f4 (f0_of ho h2 h3).2
    split
    ·omega
    ·simp only [List.length_append,List.length_cons,List.length_nil]
     omega
theorem ser_lens (n:Nat) (b:Bool):∀ l:List S38,(∀ y∈l,okN n y=true)→(∀ y∈l,FitP y)→(l.flatMap (serE n b)).length≤60000000 * (l.map (cntN n)).sum
 | [],_,_=>by simp
 | y :: l,hl,hp=>by
  have a1:=ser_len n y b (hl y List.mem_cons_self) (hp y List.mem_cons_self)
  have a2:=ser_lens n b l (fun z hz=>hl z (List.mem_cons_of_mem _ hz)) (fun z hz=>hp z (List.mem_cons_of_mem _ hz))
  rw [List.flatMap_cons,List.length_append,List.map_cons,List.sum_cons]
  omega
theorem fitS_of (n:Nat):∀ x:S38,okN n x=true→FitP x→fitS n x=true:=by
 induction n with
 | zero=>intro x h;cases h
 | succ n ih =>
  intro x h hf
  obtain ⟨_,hk⟩:=own_of_ok h
  obtain ⟨f2,f3,f4,_,f5⟩:=fit_parts hf
  rw [fitS,Bool.and_eq_true,Bool.and_eq_true,List.all_eq_true,List.all_eq_true]
  exact ⟨⟨decide_eq_true ⟨f2,f3,f4.1⟩,fun a ha=>decide_eq_true (f4.2 a ha)⟩,fun y hy=>ih y (hk y hy) (f5 y hy)⟩
theorem ev_l06Tree (n:Nat):∀ (l:List S38) (p:Bool),l.length≤1048576→(∀ y∈l,okN n y=true)→(∀ y∈l,FitP y)→(l.flatMap (serE n p)).length≤1099511627776→Ev (fun k=>spec_l06Tree.f k l p) (mk (l.flatMap (serE n p))):=by
 have hf:∀ (l:List S38) (p:Bool) (k:Nat),spec_l06Tree.f (k+1) l p=spec_l06Tree.l0 k l p (mk []) 0:=fun l p k=>by rw [spec_l06Tree.f];rfl
 induction n with
 | zero =>
  intro l p _ hd _ _
  cases l with
  | cons x l=>exact absurd (hd x List.mem_cons_self) Bool.false_ne_true
  | nil =>
   have h0:∀ k,spec_l06Tree.l0 (k+1) ([]:List S38) p (mk []) 0=some (mk []):=fun k=>by rw [spec_l06Tree.l0,if_neg (by simp)]
   exact Ev.step (hf [] p) (Ev.step h0 (Ev.now _))
 | succ n ih =>
  intro l p hl hd hp hs
  have loop:∀ i,i≤l.length→∀ s:List UInt8,(s++(l.drop i).flatMap (serE (n+1) p)).length≤1099511627776→Ev (fun k=>spec_l06Tree.l0 k l p (mk s) (i:Int)) (mk (s++(l.drop i).flatMap (serE (n+1) p))):=by
   refine Kit.down ?_ ?_
   ·intro s _
    rw [List.drop_length,List.flatMap_nil,List.append_nil]
    exact Ev.step (f:=fun _=>some (mk s)) (fun k=>by rw [spec_l06Tree.l0,if_neg (by omega)]) (Ev.now _)
   ·intro i hi ihi s hs
    have hm:=Kit.getD_mem z38 hi
    have hok:=hd _ hm
    have hfp:=hp _ hm
    rw [Kit.drop_getD z38 l i hi,List.flatMap_cons,←List.append_assoc] at hs ⊢
    have hnext:=fun e:List UInt8=>ihi (s++e)
    have hj1:∀ (acc:ByteArray) (j:Int) (b:Bool) (x:S38) (k:Nat),spec_l06Tree.j1 (k+1) l p acc j b x.f0 x.f1 x.f2 x.f3 x.f4 x.f5=_:=fun acc j b x k=>by rw [spec_l06Tree.j1]
    have hj2:∀ (acc:ByteArray) (j:Int) (b:Bool) (x:S38) (k:Nat),spec_l06Tree.j2 (k+1) l p acc j b x.f0 x.f1 x.f2 x.f3 x.f4 x.f5=_:=fun acc j b x k=>by rw [spec_l06Tree.j2]
    have hw:=Kit.wrap_nat hi (n:=l.length) (by omega)
    refine Ev.step (fun k=>by rw [spec_l06Tree.l0,if_pos (by omega),if_pos (by omega),rdN_nat]) ?_
    generalize l.getD i z38=x at *
    obtain ⟨ho,hk⟩:=own_of_ok hok
    obtain ⟨f2,f3,f4,f5l,f5⟩:=fit_parts hfp
    have hss:=hs
    simp only [List.length_append] at hss
    have hms:=mk_size s
    have hser:serE (n+1) p x=if x.f0=3 then [60,33,45,45]++x.f3.data.toList++[45,45,62] else if x.f0=2 then (if p=true then x.f3.data.toList else x.f3.data.toList.flatMap escF) else if voidB x=true then tagL x else tagL x++x.f5.flatMap (serE n (rawB x))++[60,47]++x.f2.data.toList++[62]:=by rw [serE]
    generalize serE (n+1) p x=E at *
    by_cases h2:x.f0=2
    ·refine Kit.ev_pos h2 (Ev.step (hj1 _ _ _ x) ?_)
     rw [hw]
     have h3:¬ x.f0=3:=by omega
     rw [if_neg h3,if_pos h2] at hser
     cases p with
     | true =>
      rw [if_pos rfl] at hser
      subst hser
      rw [data_length] at hss
      refine Kit.ev_pos rfl (Kit.ev_pos (by omega) ?_)
      rw [mk_txt]
      exact hnext _ hs
     | false =>
      rw [if_neg Bool.false_ne_true] at hser
      subst hser
      have hz:(escT x.f3).size=(x.f3.data.toList.flatMap escF).length:=by simp [escT,ByteArray.size]
      refine Kit.ev_neg Bool.false_ne_true (Kit.ev_pos h2 (Ev.bind (ev_l02Text x.f3 (by omega)) (Kit.ev_pos (by omega) ?_)))
      have e:mk s++escT x.f3=mk (s++x.f3.data.toList.flatMap escF):=by rw [mk_txt];simp [escT]
      rw [e]
      exact hnext _ hs
    ·refine Kit.ev_neg h2 (Ev.step (hj1 _ _ _ x) (Kit.ev_neg Bool.false_ne_true (Kit.ev_neg h2 ?_)))
     rw [hw]
     by_cases h3:x.f0=3
     ·rw [if_pos h3] at hser
      have z1:((⟨#[60,33,45,45]⟩:ByteArray)++x.f3).size=4+x.f3.size:=by rw [ByteArray.size_append];rfl
      have z2:(((⟨#[60,33,45,45]⟩:ByteArray)++x.f3)++(⟨#[45,45,62]⟩:ByteArray)).size=4+x.f3.size+3:=by rw [ByteArray.size_append,z1];rfl
      refine Kit.ev_pos h3 (Kit.ev_pos (by omega) (Kit.ev_pos (by omega) (Kit.ev_pos (by omega) ?_)))
      have e:mk s++(((⟨#[60,33,45,45]⟩:ByteArray)++x.f3)++(⟨#[45,45,62]⟩:ByteArray))=mk (s++E):=by rw [mk_txt,hser];simp
      rw [e]
      exact hnext _ hs
     ·rw [if_neg h3,if_neg h2] at hser
      obtain ⟨h1,h6⟩:=f0_of ho h2 h3
      have htl:=tag_len x f2 f4 h6
      have hts:=mk_size (tagL x)
      refine Kit.ev_neg h3 (Ev.bind (ev_l06Start x f2 f4) (Kit.ev_pos (by omega) ?_))
      have et:mk s++mk (tagL x)=mk (s++tagL x):=by rw [mk_txt];rfl
      rw [et]
      have hrest:voidB x=false→∀ g:Nat→Option ByteArray,(∀ (b:Bool),b=rawB x→Ev (fun k=>(spec_l06Tree.f k x.f5 b).bind fun t157=>(if t157.size+2≤9223372036854775807 then (if (t157++(⟨#[60,47]⟩:ByteArray)).size+x.f2.size≤9223372036854775807 then (if ((t157++(⟨#[60,47]⟩:ByteArray))++x.f2).size+1≤9223372036854775807 then (if (mk (s++tagL x)).size+(((t157++(⟨#[60,47]⟩:ByteArray))++x.f2)++(⟨#[62]⟩:ByteArray)).size≤9223372036854775807 then (spec_l06Tree.l0 k l p (mk (s++tagL x)++(((t157++(⟨#[60,47]⟩:ByteArray))++x.f2)++(⟨#[62]⟩:ByteArray))) ((i+1:Nat):Int)) else (none)) else (none)) else (none)) else (none))) (mk (s++E++(l.drop (i+1)).flatMap (serE (n+1) p)))):=by
       intro hv _ b hb
       subst hb
       rw [hv,if_neg Bool.false_ne_true] at hser
       have hE:E.length=(tagL x).length+(x.f5.flatMap (serE n (rawB x))).length+2+x.f2.size+1:=by rw [hser];simp only [List.length_append,List.length_cons,List.length_nil,data_length]
       have hkz:=mk_size (x.f5.flatMap (serE n (rawB x)))
       have hst:=mk_size (s++tagL x)
       rw [List.length_append] at hst
       have e:mk (s++tagL x)++(((mk (x.f5.flatMap (serE n (rawB x)))++(⟨#[60,47]⟩:ByteArray))++x.f2)++(⟨#[62]⟩:ByteArray))=mk (s++E):=by
        rw [mk_txt,hser]
        simp [mk]
       refine Ev.bind (ih x.f5 (rawB x) f5l hk f5 (by omega)) ?_
       have z1:(mk (x.f5.flatMap (serE n (rawB x)))++(⟨#[60,47]⟩:ByteArray)).size=(mk (x.f5.flatMap (serE n (rawB x)))).size+2:=by rw [ByteArray.size_append];rfl
       have z2:((mk (x.f5.flatMap (serE n (rawB x)))++(⟨#[60,47]⟩:ByteArray))++x.f2).size=(mk (x.f5.flatMap (serE n (rawB x)))).size+2+x.f2.size:=by rw [ByteArray.size_append,z1]
       have z3:(((mk (x.f5.flatMap (serE n (rawB x)))++(⟨#[60,47]⟩:ByteArray))++x.f2)++(⟨#[62]⟩:ByteArray)).size=(mk (x.f5.flatMap (serE n (rawB x)))).size+2+x.f2.size+1:=by rw [ByteArray.size_append,z2];rfl
       refine Kit.ev_pos (by omega) (Kit.ev_pos (by omega) (Kit.ev_pos (by omega) (Kit.ev_pos (by omega) ?_)))
       rw [e]
       exact hnext _ hs
      by_cases hs0:x.f1=0
      ·have hvd:voidB x=Kit.hasT voidL x.f2:=by unfold voidB;rw [if_pos h1,if_pos hs0]
       have hrd:rawB x=Kit.hasT rawL x.f2:=by unfold rawB;rw [if_pos h1,if_pos hs0]
       refine Kit.ev_pos hs0 (Ev.bind (ev_l01Void x.f2) (Ev.step (hj2 _ _ _ x) ?_))
       rw [←hvd]
       cases hv:voidB x with
       | true =>
        rw [hv,if_pos rfl] at hser
        subst hser
        refine Kit.ev_pos rfl ?_
        rw [hw]
        exact hnext _ hs
       | false =>
        refine Kit.ev_neg Bool.false_ne_true (Kit.ev_pos hs0 (Ev.bind (ev_l01Raw x.f2) ?_))
        rw [hw,←hrd]
        exact hrest hv (fun _=>none) _ rfl
      ·have hv:voidB x=false:=by unfold voidB;rw [if_pos h1,if_neg hs0]
       have hr:rawB x=false:=by unfold rawB;rw [if_pos h1,if_neg hs0]
       refine Kit.ev_neg hs0 (Ev.step (hj2 _ _ _ x) (Kit.ev_neg Bool.false_ne_true (Kit.ev_neg hs0 ?_)))
       rw [hw]
       exact hrest hv (fun _=>none) false hr.symm
  exact Ev.step (hf l p) (loop 0 (Nat.zero_le _) [] hs)
theorem proved:laws_FnExactSerialize.PureS:=by
 intro x hg
 refine Ev.rounds (g:=fun k=>laws_FnExactSerialize.f k x) ?_
 unfold laws_FnExactSerialize.f
 obtain ⟨t,ht,_,hfit⟩:=ex_tree x hg 1048576 (by omega) (by omega)
 by_cases hneg:t<0
 case pos=>exact Ev.bind ht (Kit.ev_pos hneg (Ev.now _))
 case neg =>
  obtain ⟨ys,hto,hl,hf,heq⟩:=hfit (by omega)
  have hv:∃ v:ByteArray × Int,Ev (fun k=>spec_Serialize.f k ys) v∧impl_Serialize.f ys=some v:=by
   unfold impl_Serialize.f
   rw [implFault ys hf,Option.bind_some]
   by_cases h:(ys.length:Int)>4096
   case pos =>
    refine ⟨(mk [],2),?_,by rw [if_pos h,if_neg (by decide)];rfl⟩
    unfold spec_Serialize.f
    exact Kit.ev_pos h (Ev.now _)
   case neg =>
    have ha:=ev_l03Ask ys hl hf h
    rw [if_neg h]
    cases hb:treeB ys with
    | false =>
     rw [hb,if_neg Bool.false_ne_true] at ha
     refine ⟨(mk [],1),?_,by rw [if_neg Bool.false_ne_true,if_neg (by decide)];rfl⟩
     unfold spec_Serialize.f
     exact Kit.ev_neg h (Ev.bind ha (Kit.ev_neg (by decide) (Ev.now _)))
    | true =>
     rw [hb,if_pos rfl] at ha
     obtain ⟨h1,h2⟩:=(treeB_iff ys).1 hb
     rw [List.all_eq_true] at h1
     have hlen:=ser_lens 10 false ys h1 hf
     have hbound:(ys.flatMap (serE 10 false)).length≤1099511627776:=by omega
     have hfs:ys.all (fitS 10)=true:=by rw [List.all_eq_true];exact fun y hy=>fitS_of 10 y (h1 y hy) (hf y hy)
     refine ⟨(mk (ys.flatMap (serE 10 false)),0),?_,by rw [if_pos rfl,if_pos rfl];unfold impl_serialize.f;rw [if_pos ⟨hfs,hbound⟩];rfl⟩
     unfold spec_Serialize.f
     exact Kit.ev_neg h (Ev.bind ha (Kit.ev_pos rfl (Ev.bind (ev_l06Tree 10 ys false (by omega) h1 hf hbound) (Ev.now _))))
  obtain ⟨v,hs,hi⟩:=hv
  refine Ev.bind ht (Kit.ev_neg hneg (Ev.bind hto (Ev.bind hs (Ev.bind hto (Kit.ev_some hi (Kit.ev_pos rfl ?_))))))
  have:(v.2 != v.2)=false:=by simp
  rw [this]
  exact Ev.step (fun k=>by rw [laws_FnExactSerialize.j0]) (Kit.ev_neg Bool.false_ne_true (Ev.bind hto (Ev.bind heq (Kit.ev_pos rfl (Ev.now _)))))
end Go.Proofs.YtlpncjeahdfolaaGreatDoor.Pure.LSerialize
namespace Go.Proofs.YtlpncjeahdfolaaGreatDoor.Pure
theorem FnExactSerialize:PFnExactSerialize.laws_FnExactSerialize.PureS:=LSerialize.proved
end Go.Proofs.YtlpncjeahdfolaaGreatDoor.Pure
