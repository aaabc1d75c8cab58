/- The pure statement of FnExactStartTag: of every node both functions tell the same. No conditions. -/
import Derived.Test.YtpoaaomcpleebaaGreatDoorKit
import Derived.Test.YtpoaaomcpleebaaGreatDoorOpensFnExactStartTag
namespace Go.Proofs.YtpoaaomcpleebaaGreatDoor.Pure.LStartTag
open Go.RowKit Go.Proofs.YtpoaaomcpleebaaGreatDoor.PFnExactStartTag Go.Proofs.YtpoaaomcpleebaaGreatDoorW.PrintWords
theorem mk_append (a b:List UInt8):(⟨a.toArray⟩:ByteArray) ++ ⟨b.toArray⟩=⟨(a++b).toArray⟩:=by
 apply ByteArray.ext
 simp
theorem extract_one (s:ByteArray) (i:Nat) (b:UInt8) (h:s.data.toList[i]? = some b):s.extract i (i+1)=⟨[b].toArray⟩:=by
 obtain ⟨hl,he⟩:=List.getElem?_eq_some_iff.1 h
 rw [data_length] at hl
 apply ByteArray.ext
 apply Array.toList_inj.1
 rw [ByteArray.data_extract,Array.toList_extract,List.extract_eq_take_drop]
 rw [List.drop_eq_getElem_cons (by rw [data_length];exact hl),he]
 simp
theorem escF_at (b:UInt8):escF b=if (b.toNat:Int)=38 then [38,97,109,112,59] else if (b.toNat:Int)=60 then [38,108,116,59] else if (b.toNat:Int)=62 then [38,103,116,59] else [b]:=by
 by_cases h1:b=38
 ·subst h1;rfl
 ·by_cases h2:b=60
  ·subst h2;rfl
  ·by_cases h3:b=62
   ·subst h3;rfl
   ·have n1:¬ (b.toNat:Int)=38:=fun e=>h1 (UInt8.toNat_inj.1 (by show b.toNat=38;omega))
    have n2:¬ (b.toNat:Int)=60:=fun e=>h2 (UInt8.toNat_inj.1 (by show b.toNat=60;omega))
    have n3:¬ (b.toNat:Int)=62:=fun e=>h3 (UInt8.toNat_inj.1 (by show b.toNat=62;omega))
    rw [if_neg n1,if_neg n2,if_neg n3]
    unfold escF escL
    rw [if_neg h3,if_neg h2,if_neg h1,if_pos rfl]
theorem byte_at2 (s:ByteArray) (k:Nat) (hk:k<s.size):∃ b,s.data.toList[k]? = some b∧bt s (k:Int)=(b.toNat:Int):=by
 have h:k<s.data.toList.length:=by rw [data_length];exact hk
 refine ⟨s.data.toList[k],List.getElem?_eq_getElem h,?_⟩
 rw [←bt_at s (k:Int) (by simpa using hk)]
 rfl
theorem ev_l02Text (s:ByteArray) (hn:s.size≤140737488351232):Ev (fun k=>spec_l02Text.f k s) (escT s):=by
 have key:∀ i:Nat,i≤s.size→∀ acc:ByteArray,acc=⟨((s.data.toList.take i).flatMap escF).toArray⟩→Ev (fun k=>spec_l02Text.l0 k s acc i) (escT s):=by
  refine Kit.down ?_ ?_
  ·intro acc ha
   refine Ev.step (fun k=>rfl) (Kit.ev_neg (by omega) (Kit.ev_const ?_))
   rw [ha,List.take_of_length_le (by rw [data_length];exact Nat.le_refl _)]
   rfl
  ·intro i hi ih acc ha
   obtain ⟨b,hb,hbt⟩:=byte_at2 s i hi
   have hsz:acc.size≤5 * i:=by
    rw [ha]
    show (List.toArray _).size≤_
    rw [List.size_toArray,flat_len]
    have h1:=escG_le (s.data.toList.take i)
    have h2:(s.data.toList.take i).length≤i:=by rw [List.length_take];omega
    omega
   have hw:wrap64 ((i:Int)+1)=((i+1:Nat):Int):=Kit.wrap_nat hi (by omega)
   have hnext:∀ (l:List UInt8) (x:ByteArray),x=⟨l.toArray⟩→escF b=l→Ev (fun k=>spec_l02Text.l0 k s (acc++x) ((i+1:Nat):Int)) (escT s):=by
    intro l x hx he
    refine ih _ ?_
    rw [ha,hx,mk_append,flat_step hb,he]
   have hE:=escF_at b
   refine Ev.step (fun k=>rfl) (Kit.ev_pos (by omega) (Kit.ev_pos (by omega) ?_))
   rw [hw,hbt]
   refine Kit.ev_if (fun h1=>?_) (fun h1=>Kit.ev_if (fun h2=>?_) (fun h2=>Kit.ev_if (fun h3=>?_) (fun h3=>?_)))
   ·rw [if_pos h1] at hE
    exact Kit.ev_pos (by omega) (hnext _ _ rfl hE)
   ·rw [if_neg h1,if_pos h2] at hE
    exact Kit.ev_pos (by omega) (hnext _ _ rfl hE)
   ·rw [if_neg h1,if_neg h2,if_pos h3] at hE
    exact Kit.ev_pos (by omega) (hnext _ _ rfl hE)
   ·rw [if_neg h1,if_neg h2,if_neg h3] at hE
    have hx:s.extract ((i:Int)).toNat (((i+1:Nat):Int)).toNat=⟨[b].toArray⟩:=extract_one s i b hb
    have hz:(⟨[b].toArray⟩:ByteArray).size=1:=rfl
    rw [hx,hz]
    exact Kit.ev_pos (by omega) (Kit.ev_pos (by omega) (Kit.ev_pos (by omega) (hnext _ _ rfl hE)))
 exact key 0 (by omega) _ (by rw [List.take_zero];rfl)
/-- What a byte stands as in a value. -/
def escV (b:UInt8):List UInt8:=if b=34 then [38,113,117,111,116,59] else escF b
def escVT (s:ByteArray):ByteArray:=⟨(s.data.toList.flatMap escV).toArray⟩
theorem repB_escF (b:UInt8):repB 34 [38,113,117,111,116,59] (escF b)=escV b:=by
 unfold escV
 by_cases h0:b=34
 ·subst h0;rfl
 ·rw [if_neg h0]
  by_cases h1:b=38
  ·subst h1;rfl
  ·by_cases h2:b=60
   ·subst h2;rfl
   ·by_cases h3:b=62
    ·subst h3;rfl
    ·have he:escF b=[b]:=by
      unfold escF escL
      rw [if_neg h3,if_neg h2,if_neg h1,if_pos rfl]
     rw [he]
     simp [repB,h0]
theorem repB_flat:∀ l:List UInt8,repB 34 [38,113,117,111,116,59] (l.flatMap escF)=l.flatMap escV
 | []=>rfl
 | b :: l=>by rw [List.flatMap_cons,List.flatMap_cons,repB_append,repB_escF,repB_flat l]
theorem escV_len (b:UInt8):(escV b).length≤6:=by
 unfold escV
 split
 ·simp
 ·have h1:=escF_len b
  have h2:=escL_le b
  omega
theorem flatV_len:∀ l:List UInt8,(l.flatMap escV).length≤6 * l.length
 | []=>Nat.le_refl _
 | b :: l=>by
  have h1:=escV_len b
  have h2:=flatV_len l
  rw [List.flatMap_cons,List.length_append,List.length_cons]
  omega
theorem escT_size (s:ByteArray):(escT s).size≤5 * s.size:=by
 show (List.toArray _).size≤_
 rw [List.size_toArray,flat_len]
 have h1:=escG_le s.data.toList
 rw [data_length] at h1 ⊢
 omega
theorem escapeValue_eq (s:ByteArray) (h:s.size≤1099511627776):impl_escapeValue.f s=some (escVT s):=by
 have h1:impl_escapeText.f s=some (escT s):=by
  unfold impl_escapeText.f
  rw [if_pos h]
 have h2:=escT_size s
 unfold impl_escapeValue.f
 rw [h1,Option.bind_some]
 have h3:strings_ReplaceAll.f (escT s) ⟨#[34]⟩ ⟨#[38,113,117,111,116,59]⟩=some ⟨(repB 34 [38,113,117,111,116,59] (escT s).data.toList).toArray⟩:=if_pos ⟨by omega,by decide,by decide⟩
 rw [h3,Option.bind_some]
 have h4:(escT s).data.toList=s.data.toList.flatMap escF:=by simp [escT]
 rw [h4,repB_flat]
 rfl
theorem flatV_step {l:List UInt8} {k:Nat} {b:UInt8} (h:l[k]? = some b):(l.take (k+1)).flatMap escV=(l.take k).flatMap escV++escV b:=by
 rw [take_at h,List.flatMap_append]
 simp
theorem ev_l02Value (s:ByteArray) (hn:s.size≤140737488351232):Ev (fun k=>spec_l02Value.f k s) (escVT s):=by
 have key:∀ i:Nat,i≤s.size→∀ acc:ByteArray,acc=⟨((s.data.toList.take i).flatMap escV).toArray⟩→Ev (fun k=>spec_l02Value.l0 k s acc i) (escVT s):=by
  refine Kit.down ?_ ?_
  ·intro acc ha
   refine Ev.step (fun k=>rfl) (Kit.ev_neg (by omega) (Kit.ev_const ?_))
   rw [ha,List.take_of_length_le (by rw [data_length];exact Nat.le_refl _)]
   rfl
  ·intro i hi ih acc ha
   obtain ⟨b,hb,hbt⟩:=byte_at2 s i hi
   have hsz:acc.size≤6 * i:=by
    rw [ha]
    show (List.toArray _).size≤_
    rw [List.size_toArray]
    have h1:=flatV_len (s.data.toList.take i)
    have h2:(s.data.toList.take i).length≤i:=by rw [List.length_take];omega
    omega
   have hw:wrap64 ((i:Int)+1)=((i+1:Nat):Int):=Kit.wrap_nat hi (by omega)
   have hnext:∀ (l:List UInt8) (x:ByteArray),x=⟨l.toArray⟩→escV b=l→Ev (fun k=>spec_l02Value.l0 k s (acc++x) ((i+1:Nat):Int)) (escVT s):=by
    intro l x hx he
    refine ih _ ?_
    rw [ha,hx,mk_append,flatV_step hb,he]
   refine Ev.step (fun k=>rfl) (Kit.ev_pos (by omega) (Kit.ev_pos (by omega) ?_))
   rw [hw,hbt]
   refine Kit.ev_if (fun h1=>?_) (fun h1=>?_)
   ·have hE:escV b=[38,113,117,111,116,59]:=by
     unfold escV
     rw [if_pos (UInt8.toNat_inj.1 (by show b.toNat=34;omega))]
    exact Kit.ev_pos (by omega) (hnext _ _ rfl hE)
   ·have hE:escV b=escF b:=by
     unfold escV
     rw [if_neg (fun e=>h1 (by rw [e];rfl))]
    have hx:s.extract ((i:Int)).toNat (((i+1:Nat):Int)).toNat=⟨[b].toArray⟩:=extract_one s i b hb
    rw [hx]
    have h1:escT ⟨[b].toArray⟩=⟨(escF b).toArray⟩:=by simp [escT]
    have hl:(⟨(escF b).toArray⟩:ByteArray).size≤6:=by
     show (List.toArray _).size≤_
     rw [List.size_toArray,←hE]
     exact escV_len b
    refine Kit.ev_pos (by omega) (Kit.ev_pos (by omega) (Ev.bind (ev_l02Text ⟨[b].toArray⟩ (by show (1:Nat)≤_;omega)) ?_))
    rw [h1]
    exact Kit.ev_pos (by omega) (hnext _ _ rfl hE)
 exact key 0 (by omega) _ (by rw [List.take_zero];rfl)
/- Lists of attributes: laws' kind S47, the program's kind S51. -/
def toA (a:S47):S51:=⟨a.f0,a.f1⟩
theorem rdA_nat (xs:List S47) (i:Nat):rd_T47 xs (i:Int)=xs.getD i z47:=by simp [rd_T47]
theorem rdB_nat (xs:List S51) (i:Nat):rd_T51 xs (i:Int)=xs.getD i z51:=by simp [rd_T51]
def szA (a:S47) (l:Int):Int:=if l - (a.f0.size:Int)<0 then -1 else if l - (a.f0.size:Int) - (a.f1.size:Int)<0 then -1 else l - (a.f0.size:Int) - (a.f1.size:Int)
/-- An attribute whose texts are short. -/
def FitA (a:S47):Prop:=a.f0.size≤1048576∧a.f1.size≤1048576
theorem szAttr_eq (a:S47) (l:Int) (h0:0≤l) (h1:l≤1048576) (hg:G47 a):laws_szAttr.f a.f0 a.f1 l=some (szA a l):=by
 have s0:a.f0.size≤9223372036854775807:=hg.1
 have s1:a.f1.size≤9223372036854775807:=hg.2
 unfold laws_szAttr.f szA
 have hw:wrap64 (l - (a.f0.size:Int))=l - (a.f0.size:Int):=Kit.wrap_of (by omega) (by omega)
 rw [hw]
 by_cases h:l - (a.f0.size:Int)<0
 ·rw [if_pos h,if_pos h]
 ·rw [if_neg h,if_neg h]
  have hw2:wrap64 (l - (a.f0.size:Int) - (a.f1.size:Int))=l - (a.f0.size:Int) - (a.f1.size:Int):=Kit.wrap_of (by omega) (by omega)
  rw [hw2]
  by_cases h2:l - (a.f0.size:Int) - (a.f1.size:Int)<0
  ·rw [if_pos h2,if_pos h2]
  ·rw [if_neg h2,if_neg h2]
theorem szA_fit (a:S47) (l:Int) (h0:0≤l) (h1:l≤1048576):szA a l≤l∧(0≤szA a l→FitA a):=by
 unfold szA FitA
 by_cases h:l - (a.f0.size:Int)<0
 ·rw [if_pos h];exact ⟨by omega,fun h=>absurd h (by omega)⟩
 ·rw [if_neg h]
  by_cases h2:l - (a.f0.size:Int) - (a.f1.size:Int)<0
  ·rw [if_pos h2];exact ⟨by omega,fun h=>absurd h (by omega)⟩
  ·rw [if_neg h2];exact ⟨by omega,fun _=>⟨by omega,by omega⟩⟩
theorem ev_szAttrS (xs:List S47) (left:Int) (h0:0≤left) (h1:left≤1048576) (hx:Open.Few G47 xs) :
 ∃ t,Ev (fun k=>laws_szAttrS.f k xs left) t∧t≤left∧(0≤t→xs.length≤1048576∧∀ x∈xs,FitA x):=by
 have hn:=hx.1
 have hw:wrap64 (left - (xs.length:Int))=left - (xs.length:Int):=Kit.wrap_of (by omega) (by omega)
 unfold laws_szAttrS.f
 rw [hw]
 by_cases hneg:left - (xs.length:Int)<0
 ·exact ⟨-1,Kit.ev_pos hneg (Ev.now _),by omega,fun h=>absurd h (by omega)⟩
 ·obtain ⟨t,ht,htl,hg⟩:=Kit.ev_size z47 (xs:=xs) (P:=FitA) (E:=szA) (L:=fun k l i=>laws_szAttrS.l0 k xs l i) (fun a _ l a0 a1=>szA_fit a l a0 a1)
   (fun l=>Ev.step (fun k=>rfl) (Kit.ev_neg (by omega) (Ev.now _)))
   (fun i hi l a0 a1 hE=>Ev.step (fun k=>rfl) (Kit.ev_pos (by omega) (Kit.ev_pos (by omega) (by rw [rdA_nat];exact Kit.ev_some (szAttr_eq _ l a0 a1 (hx.2 _ (Kit.getD_mem _ hi))) (Kit.ev_pos hE (Ev.now _))))))
   (fun i hi l r a0 a1 hE ih=>Ev.step (fun k=>rfl) (Kit.ev_pos (by omega) (Kit.ev_pos (by omega) (by rw [rdA_nat,Kit.wrap_nat hi (by omega)];exact Kit.ev_some (szAttr_eq _ l a0 a1 (hx.2 _ (Kit.getD_mem _ hi))) (Kit.ev_neg (by omega) ih)))))
   (left - (xs.length:Int)) (by omega) (by omega)
  exact ⟨t,Kit.ev_neg hneg ht,by omega,fun h=>⟨by omega,hg h⟩⟩
theorem ev_toAttrS (xs:List S47) (hn:xs.length≤1048576):Ev (fun k=>laws_toAttrS.f k xs) (xs.map toA):=by
 unfold laws_toAttrS.f
 refine Kit.ev_pos (by omega) (Kit.ev_pos (by omega) ?_)
 rw [Int.toNat_natCast]
 refine Kit.ev_conv z47 (L:=fun k acc i=>laws_toAttrS.l0 k xs acc i) (fun acc hl=>Ev.step (fun k=>rfl) (Kit.ev_neg (by omega) (Ev.now _))) ?_ _ (by rw [List.length_replicate])
 intro i hi acc r hl ih
 refine Ev.step (fun k=>rfl) (Kit.ev_pos (by omega) (Kit.ev_pos (by omega) ?_))
 rw [rdA_nat,Kit.wrap_nat hi (by omega),Int.toNat_natCast]
 exact Kit.ev_some rfl (Kit.ev_pos (by omega) ih)
theorem ev_eqAttrS (xs:List S51) (hn:xs.length≤1048576):Ev (fun k=>laws_eqAttrS.f k xs xs) true:=by
 unfold laws_eqAttrS.f
 refine Kit.ev_pos rfl (Kit.ev_refl (n:=xs.length) (L:=fun k i=>laws_eqAttrS.l0 k xs xs i) (Ev.step (fun k=>rfl) (Kit.ev_neg (by omega) (Ev.now _))) ?_)
 intro i hi ih
 refine Ev.step (fun k=>rfl) (Kit.ev_pos (by omega) (Kit.ev_pos (by omega) (Kit.ev_pos (by omega) ?_)))
 rw [Kit.wrap_nat hi (by omega)]
 refine Kit.ev_some (a:=true) ?_ (Kit.ev_pos rfl ih)
 unfold laws_eqAttr.f
 rw [if_pos rfl,if_pos rfl]
/- Trees: laws' kind S25, the program's kind S32. -/
theorem rdLN_nat (xs:List S25) (i:Nat):rd_T25 xs (i:Int)=xs.getD i z25:=by simp [rd_T25]
theorem rdN_nat (xs:List S32) (i:Nat):rd_T32 xs (i:Int)=xs.getD i z32:=by simp [rd_T32]
theorem all_getD {α : Type} {P : α → Prop} (d : α) {xs:List α} (h:∀ j,j<xs.length→P (xs.getD j d)):∀ y∈xs,P y:=by
 intro y hy
 obtain ⟨j,hj,rfl⟩:=List.getElem_of_mem hy
 have:=h j hj
 rwa [List.getD_eq_getElem?_getD,List.getElem?_eq_getElem hj] at this
/-- A node whose texts are short. -/
inductive FitL:S25→Prop
 | mk (x:S25) (h2:x.f2.size≤1048576) (h3:x.f3.size≤1048576) (h4:x.f4.length≤1048576∧∀ a∈x.f4,FitA a) (h5:x.f5.length≤1048576) (hk:∀ y∈x.f5,FitL y):FitL x
theorem ex_szNodeS (xs:List S25) (hn:xs.length≤9223372036854775807) (hx:∀ y∈xs,∀ l:Int,0≤l→l≤1048576→∃ t,Ev (fun k=>laws_szNode.f k y.f0 y.f1 y.f2 y.f3 y.f4 y.f5 l) t∧t≤l∧(0≤t→FitL y)) (left:Int) (h0:0≤left) (h1:left≤1048576) :
 ∃ t,Ev (fun k=>laws_szNodeS.f k xs left) t∧t≤left∧(0≤t→xs.length≤1048576∧∀ y∈xs,FitL y):=by
 have hw:wrap64 (left - (xs.length:Int))=left - (xs.length:Int):=Kit.wrap_of (by omega) (by omega)
 have he:∀ k,laws_szNodeS.f (k+1) xs left=if left - (xs.length:Int)<0 then (some (-1)) else (laws_szNodeS.l0 k xs (left - (xs.length:Int)) 0):=fun k=>by rw [laws_szNodeS.f,hw]
 by_cases hneg:left - (xs.length:Int)<0
 case pos=>exact ⟨-1,Ev.step he (Kit.ev_pos hneg (Ev.now _)),by omega,fun h=>absurd h (by omega)⟩
 case neg =>
  have key:∀ i,i≤xs.length→∀ l:Int,0≤l→l≤1048576→∃ t,Ev (fun k=>laws_szNodeS.l0 k xs l i) t∧t≤l∧(0≤t→∀ j,i≤j→j<xs.length→FitL (xs.getD j z25)):=by
   refine Kit.down ?_ ?_
   case refine_1 =>
    intro l a0 a1
    exact ⟨l,Ev.step (fun k=>rfl) (Kit.ev_neg (by omega) (Ev.now _)),Int.le_refl _,fun _ j h1 h2=>absurd h2 (by omega)⟩
   case refine_2 =>
    intro i hi ih l a0 a1
    obtain ⟨t,ht,htl,htf⟩:=hx (xs.getD i z25) (Kit.getD_mem _ hi) l a0 a1
    by_cases hn2:t<0
    case pos =>
     refine ⟨-1,Ev.step (fun k=>rfl) (Kit.ev_pos (by omega) (Kit.ev_pos (by omega) ?_)),by omega,fun h=>absurd h (by omega)⟩
     rw [rdLN_nat]
     exact Ev.bind ht (Kit.ev_pos hn2 (Ev.now _))
    case neg =>
     obtain ⟨u,hu,hul,huf⟩:=ih t (by omega) (by omega)
     refine ⟨u,Ev.step (fun k=>rfl) (Kit.ev_pos (by omega) (Kit.ev_pos (by omega) ?_)),by omega,fun h j h1 h2=>?_⟩
     case refine_1 =>
      rw [rdLN_nat,Kit.wrap_nat hi hn]
      exact Ev.bind ht (Kit.ev_neg hn2 hu)
     case refine_2 =>
      by_cases e:j=i
      case pos=>subst e;exact htf (by omega)
      case neg=>exact huf h j (by omega) h2
  obtain ⟨t,ht,htl,htf⟩:=key 0 (by omega) (left - (xs.length:Int)) (by omega) (by omega)
  exact ⟨t,Ev.step he (Kit.ev_neg hneg ht),by omega,fun h=>⟨by omega,all_getD z25 fun j hj=>htf h j (Nat.zero_le _) hj⟩⟩
theorem ex_szNode (x:S25) (hg:G25 x):∀ l:Int,0≤l→l≤1048576→∃ t,Ev (fun k=>laws_szNode.f k x.f0 x.f1 x.f2 x.f3 x.f4 x.f5 l) t∧t≤l∧(0≤t→FitL x):=by
 induction hg with
 | mk x g0 g1 g2 g3 g4 g5 gk ih =>
  intro l h0 h1
  unfold Open.Short at g2 g3
  have w2:wrap64 (l - (x.f2.size:Int))=l - (x.f2.size:Int):=Kit.wrap_of (by omega) (by omega)
  have he:∀ k,laws_szNode.f (k+1) x.f0 x.f1 x.f2 x.f3 x.f4 x.f5 l=if l - (x.f2.size:Int)<0 then (some (-1)) else (if (wrap64 (l - (x.f2.size:Int) - (x.f3.size:Int)))<0 then (some (-1)) else ((laws_szAttrS.f k x.f4 (wrap64 (l - (x.f2.size:Int) - (x.f3.size:Int)))).bind fun t105=>(if t105<0 then (some (-1)) else ((laws_szNodeS.f k x.f5 t105).bind fun t106=>(if t106<0 then (some (-1)) else (some t106)))))):=fun k=>by rw [laws_szNode.f,w2]
  by_cases n2:l - (x.f2.size:Int)<0
  case pos=>exact ⟨-1,Ev.step he (Kit.ev_pos n2 (Ev.now _)),by omega,fun h=>absurd h (by omega)⟩
  case neg =>
   have w3:wrap64 (l - (x.f2.size:Int) - (x.f3.size:Int))=l - (x.f2.size:Int) - (x.f3.size:Int):=Kit.wrap_of (by omega) (by omega)
   rw [w3] at he
   by_cases n3:l - (x.f2.size:Int) - (x.f3.size:Int)<0
   case pos=>exact ⟨-1,Ev.step he (Kit.ev_neg n2 (Kit.ev_pos n3 (Ev.now _))),by omega,fun h=>absurd h (by omega)⟩
   case neg =>
    obtain ⟨t,ht,htl,htf⟩:=ev_szAttrS x.f4 (l - (x.f2.size:Int) - (x.f3.size:Int)) (by omega) (by omega) g4
    by_cases n4:t<0
    case pos=>exact ⟨-1,Ev.step he (Kit.ev_neg n2 (Kit.ev_neg n3 (Ev.bind ht (Kit.ev_pos n4 (Ev.now _))))),by omega,fun h=>absurd h (by omega)⟩
    case neg =>
     obtain ⟨u,hu,hul,huf⟩:=ex_szNodeS x.f5 g5 ih t (by omega) (by omega)
     by_cases n5:u<0
     case pos=>exact ⟨-1,Ev.step he (Kit.ev_neg n2 (Kit.ev_neg n3 (Ev.bind ht (Kit.ev_neg n4 (Ev.bind hu (Kit.ev_pos n5 (Ev.now _))))))),by omega,fun h=>absurd h (by omega)⟩
     case neg=>exact ⟨u,Ev.step he (Kit.ev_neg n2 (Kit.ev_neg n3 (Ev.bind ht (Kit.ev_neg n4 (Ev.bind hu (Kit.ev_neg n5 (Ev.now _))))))),by omega,fun h=>.mk x (by omega) (by omega) (htf (by omega)) (huf h).1 (huf h).2⟩
/-- A node of the program's kind whose texts are short. -/
inductive FitP:S32→Prop
 | mk (x:S32) (h2:x.f2.size≤1048576) (h3:x.f3.size≤1048576) (h4:x.f4.length≤1048576∧∀ a∈x.f4,a.f0.size≤1048576∧a.f1.size≤1048576) (h5:x.f5.length≤1048576) (hk:∀ y∈x.f5,FitP y):FitP x
theorem ex_toNodeS (xs:List S25) (hn:xs.length≤1048576) (hx:∀ y∈xs,∃ v:S32,Ev (fun k=>laws_toNode.f k y.f0 y.f1 y.f2 y.f3 y.f4 y.f5) (v.f0,v.f1,v.f2,v.f3,v.f4,v.f5)∧FitP v):∃ ys:List S32,Ev (fun k=>laws_toNodeS.f k xs) ys∧ys.length=xs.length∧∀ y∈ys,FitP y:=by
 have key:∀ i,i≤xs.length→∀ acc:List S32,acc.length=xs.length→(∀ j,j<i→FitP (acc.getD j z32))→∃ ys:List S32,Ev (fun k=>laws_toNodeS.l0 k xs acc i) ys∧ys.length=xs.length∧∀ y∈ys,FitP y:=by
  refine Kit.down ?_ ?_
  case refine_1 =>
   intro acc hl hb
   exact ⟨acc,Ev.step (fun k=>rfl) (Kit.ev_neg (by omega) (Ev.now _)),hl,all_getD z32 fun j hj=>hb j (by omega)⟩
  case refine_2 =>
   intro i hi ih acc hl hb
   obtain ⟨v,hv,hf⟩:=hx (xs.getD i z25) (Kit.getD_mem _ hi)
   obtain ⟨ys,hy,hyl,hyf⟩:=ih (acc.set i v) (by rw [List.length_set];exact hl) (fun j hj=>by
    rw [List.getD_eq_getElem?_getD,List.getElem?_set]
    by_cases e:i=j
    case pos=>subst e;rw [if_pos rfl,if_pos (by omega)];exact hf
    case neg=>rw [if_neg e,←List.getD_eq_getElem?_getD];exact hb j (by omega))
   refine ⟨ys,Ev.step (fun k=>rfl) (Kit.ev_pos (by omega) (Kit.ev_pos (by omega) ?_)),hyl,hyf⟩
   rw [rdLN_nat,Kit.wrap_nat hi (by omega),Int.toNat_natCast]
   cases v with
   | mk v0 v1 v2 v3 v4 v5=>exact Ev.bind hv (Kit.ev_pos (by omega) hy)
 obtain ⟨ys,hy,hyl,hyf⟩:=key 0 (by omega) (List.replicate xs.length z32) (List.length_replicate) (fun j hj=>absurd hj (Nat.not_lt_zero _))
 have he:∀ k,laws_toNodeS.f (k+1) xs=laws_toNodeS.l0 k xs (List.replicate xs.length z32) 0:=fun k=>by rw [laws_toNodeS.f,if_pos (by omega),if_pos (by omega),Int.toNat_natCast]
 exact ⟨ys,Ev.step he hy,hyl,hyf⟩
theorem ex_toNode (x:S25) (hf:FitL x):∃ v:S32,Ev (fun k=>laws_toNode.f k x.f0 x.f1 x.f2 x.f3 x.f4 x.f5) (v.f0,v.f1,v.f2,v.f3,v.f4,v.f5)∧FitP v:=by
 induction hf with
 | mk x h2 h3 h4 h5 hk ih =>
  obtain ⟨ys,hy,hyl,hyf⟩:=ex_toNodeS x.f5 h5 ih
  refine ⟨⟨x.f0,x.f1,x.f2,x.f3,x.f4.map toA,ys⟩,Ev.step (fun k=>rfl) (Ev.bind (ev_toAttrS x.f4 h4.1) (Ev.bind hy (Ev.now _))),.mk _ h2 h3 ⟨?_,?_⟩ ?_ hyf⟩
  case refine_1=>rw [List.length_map];exact h4.1
  case refine_2 =>
   intro a ha
   obtain ⟨b,hb,rfl⟩:=List.mem_map.1 ha
   exact h4.2 b hb
  case refine_3=>show ys.length≤_;omega
theorem ev_eqNodeS_of (xs:List S32) (hn:xs.length≤1048576) (hx:∀ y∈xs,Ev (fun k=>laws_eqNode.f k y.f0 y.f1 y.f2 y.f3 y.f4 y.f5 y.f0 y.f1 y.f2 y.f3 y.f4 y.f5) true):Ev (fun k=>laws_eqNodeS.f k xs xs) true:=by
 refine Ev.step (fun k=>rfl) (Kit.ev_pos rfl (Kit.ev_refl (n:=xs.length) (L:=fun k i=>laws_eqNodeS.l0 k xs xs i) (Ev.step (fun k=>rfl) (Kit.ev_neg (by omega) (Ev.now _))) ?_))
 intro i hi ih
 refine Ev.step (fun k=>rfl) (Kit.ev_pos (by omega) (Kit.ev_pos (by omega) (Kit.ev_pos (by omega) ?_)))
 rw [rdN_nat,Kit.wrap_nat hi (by omega)]
 exact Ev.bind (hx _ (Kit.getD_mem _ hi)) (Kit.ev_pos rfl ih)
theorem ev_eqNode (x:S32) (hf:FitP x):Ev (fun k=>laws_eqNode.f k x.f0 x.f1 x.f2 x.f3 x.f4 x.f5 x.f0 x.f1 x.f2 x.f3 x.f4 x.f5) true:=by
 induction hf with
 | mk x h2 h3 h4 h5 hk ih=>exact Ev.step (fun k=>rfl) (Kit.ev_pos rfl (Kit.ev_pos rfl (Kit.ev_pos rfl (Kit.ev_pos rfl (Ev.bind (ev_eqAttrS x.f4 h4.1) (Kit.ev_pos rfl (Ev.bind (ev_eqNodeS_of x.f5 h5 ih) (Kit.ev_pos rfl (Ev.now _)))))))))
/-- The argument of a law over a tree: its size, its form of the program's kind, which is like itself. -/
theorem ex_tree (xs:List S25) (hx:Open.Few G25 xs) (left:Int) (h0:0≤left) (h1:left≤1048576):∃ t,Ev (fun k=>laws_szNodeS.f k xs left) t∧t≤left∧(0≤t→∃ ys:List S32,Ev (fun k=>laws_toNodeS.f k xs) ys∧ys.length≤1048576∧(∀ y∈ys,FitP y)∧Ev (fun k=>laws_eqNodeS.f k ys ys) true):=by
 obtain ⟨t,ht,htl,htf⟩:=ex_szNodeS xs hx.1 (fun y hy=>ex_szNode y (hx.2 y hy)) left h0 h1
 refine ⟨t,ht,htl,fun h=>?_⟩
 obtain ⟨hl,hf⟩:=htf h
 obtain ⟨ys,hy,hyl,hyf⟩:=ex_toNodeS xs hl (fun y hy=>ex_toNode y (hf y hy))
 exact ⟨ys,hy,by omega,hyf,ev_eqNodeS_of ys (by omega) (fun y hy=>ev_eqNode y (hyf y hy))⟩
/- What a tree is. -/
theorem rdA2_nat (xs:List S51) (i:Nat):rd_T51 xs (i:Int)=xs.getD i z51:=by simp [rd_T51]
theorem ev_l03Attrs (l:List S51) (hs:∀ a∈l,a.f0.size≤9223372036854775807) (hn:l.length≤9223372036854775807):Ev (fun k=>spec_l03Attrs.f k l) (attrsOK l):=by
 unfold spec_l03Attrs.f
 refine Kit.ev_if (fun h=>?_) (fun h=>?_)
 case refine_1 =>
  have:attrsOK l=false:=by unfold attrsOK;rw [decide_eq_false (by omega),Bool.and_false]
  rw [this]
  exact Ev.now _
 case refine_2 =>
  have key:∀ i,i≤l.length→(∀ j,j<i→attrAt l j=true)→Ev (fun k=>spec_l03Attrs.l0 k l i) (attrsOK l):=by
   refine Kit.down ?_ ?_
   case refine_1 =>
    intro hb
    have:attrsOK l=true:=by unfold attrsOK;rw [(Kit.allB_iff _ _ _).2 fun j _ hj=>hb j hj,decide_eq_true (by omega)];rfl
    rw [this]
    exact Ev.step (fun k=>rfl) (Kit.ev_neg (by omega) (Ev.now _))
   case refine_2 =>
    intro i hi ih hb
    have no:attrAt l i=false→attrsOK l=false:=by
     intro h2
     unfold attrsOK
     rw [Bool.and_eq_false_iff]
     refine .inl (Bool.eq_false_iff.2 fun h3=>?_)
     rw [(Kit.allB_iff _ _ _).1 h3 i (Nat.zero_le _) hi] at h2
     cases h2
    refine Ev.step (fun k=>rfl) (Kit.ev_pos (by omega) (Kit.ev_pos (by omega) ?_))
    rw [rdA2_nat]
    have ht:=ev_tag_spec (l.getD i z51).f0 (hs _ (Kit.getD_mem _ hi))
    have hj:∀ (b:Bool) (k:Nat),spec_l03Attrs.j1 (k+1) l i b=if b=true then (some false) else (spec_l03Attrs.l1 k l i 0):=fun b k=>by rw [spec_l03Attrs.j1]
    have hat:attrAt l i=((Kit.isTag (l.getD i z51).f0 && decide ((l.getD i z51).f1.size≤40)) && !Mach.anyP (nameAs l i) i):=rfl
    refine Ev.bind ht ?_
    cases hb1:Kit.isTag (l.getD i z51).f0 with
    | false =>
     rw [no (by rw [hat,hb1,Bool.false_and,Bool.false_and])]
     exact Kit.ev_neg Bool.false_ne_true (Ev.step (hj true) (Kit.ev_pos rfl (Ev.now _)))
    | true =>
     refine Kit.ev_pos rfl (Ev.step (hj _) ?_)
     by_cases hv:((l.getD i z51).f1.size:Int)>40
     case pos =>
      rw [no (by rw [hat,decide_eq_false (by omega),Bool.and_false,Bool.false_and])]
      exact Kit.ev_pos (decide_eq_true hv) (Ev.now _)
     case neg =>
      refine Kit.ev_neg (by simpa using hv) ?_
      have key2:∀ m,m≤i→(∀ j,j<m→nameAs l i j=false)→Ev (fun k=>spec_l03Attrs.l1 k l i m) (attrsOK l):=by
       refine Kit.down ?_ ?_
       case refine_1 =>
        intro hc
        refine Ev.step (fun k=>rfl) (Kit.ev_neg (by omega) ?_)
        rw [Kit.wrap_nat hi hn]
        refine ih fun j hj=>?_
        by_cases e:j=i
        case pos =>
         subst e
         have:Mach.anyP (nameAs l j) j=false:=Bool.eq_false_iff.2 fun h5=>by
          obtain ⟨q,hq,h6⟩:=(Mach.anyP_iff _ _).1 h5
          rw [hc q hq] at h6
          cases h6
         rw [hat,hb1,this,decide_eq_true (by omega)]
         rfl
        case neg=>exact hb j (by omega)
       case refine_2 =>
        intro m hm ih2 hc
        refine Ev.step (fun k=>rfl) (Kit.ev_pos (by omega) (Kit.ev_pos (by omega) (Kit.ev_pos (by omega) (Kit.ev_pos (by omega) (Kit.ev_pos (by omega) ?_)))))
        rw [rdA2_nat,rdA2_nat,Kit.wrap_nat hm (by omega)]
        refine Kit.ev_if (fun h7=>?_) (fun h7=>?_)
        case refine_1 =>
         have:Mach.anyP (nameAs l i) i=true:=(Mach.anyP_iff _ _).2 ⟨m,hm,beq_iff_eq.2 h7⟩
         rw [no (by rw [hat,this,Bool.not_true,Bool.and_false])]
         exact Ev.now _
        case refine_2 =>
         refine ih2 fun j hj=>?_
         by_cases e:j=m
         case pos=>subst e;exact beq_eq_false_iff_ne.2 h7
         case neg=>exact hc j (by omega)
      exact key2 0 (by omega) (fun j hj=>absurd hj (Nat.not_lt_zero _))
  exact key 0 (by omega) (fun j hj=>absurd hj (Nat.not_lt_zero _))
theorem l01In_now (n a b:Int):spec_l01In.f n a b=some (decide (a≤n∧n≤b)):=by
 unfold spec_l01In.f
 by_cases h:n≥a
 case pos=>rw [if_pos h];simp [h]
 case neg=>rw [if_neg h];simp;omega
theorem ev_l03Plain (x:S32) (hs:x.f2.size≤9223372036854775807) (ha:∀ a∈x.f4,a.f0.size≤9223372036854775807) (hn:x.f4.length≤9223372036854775807):Ev (fun k=>spec_l03Plain.f k x.f0 x.f1 x.f2 x.f3 x.f4 x.f5) (ownB x):=by
 unfold spec_l03Plain.f ownB
 have he:Ev (fun _=>if (x.f4.length:Int)=0 then (some ((x.f5.length:Int) == 0)) else (some false)) (if (x.f4.length:Int)=0 then ((x.f5.length:Int) == 0) else false):=by
  refine Kit.ev_if (fun h=>?_) (fun h=>?_)
  case refine_1=>rw [if_pos h];exact Ev.now _
  case refine_2=>rw [if_neg h];exact Ev.now _
 have no1:∀ b:Bool,x.f2.toList≠([]:List UInt8)→(b && emptyB x)=false:=fun b h=>by
  unfold emptyB
  by_cases h1:x.f1=0
  case pos=>rw [if_pos h1,if_neg h,Bool.and_false]
  case neg=>rw [if_neg h1,Bool.and_false]
 have no2:∀ b:Bool,x.f1≠0→(b && emptyB x)=false:=fun b h=>by
  unfold emptyB
  rw [if_neg h,Bool.and_false]
 refine Kit.ev_if (fun h=>?_) (fun h=>?_)
 case refine_1 =>
  rw [if_pos h]
  have ht:=ev_tag_spec x.f2 hs
  have hat:=ev_l03Attrs x.f4 ha hn
  generalize Kit.isTag x.f2=b1 at *
  generalize attrsOK x.f4=b3 at *
  refine Ev.bind ht ?_
  cases b1 with
  | false=>exact Kit.ev_neg Bool.false_ne_true (Ev.now _)
  | true =>
   refine Kit.ev_pos rfl (Kit.ev_some (l01In_now _ _ _) ?_)
   generalize decide (0≤x.f1∧x.f1≤2)=b2
   cases b2 with
   | false=>exact Kit.ev_neg Bool.false_ne_true (Ev.now _)
   | true =>
    refine Kit.ev_pos rfl (Kit.ev_if (fun h2=>?_) (fun h2=>?_))
    case refine_1 =>
     rw [beq_iff_eq.2 h2,Bool.and_true]
     exact Ev.bind hat (Ev.now _)
    case refine_2 =>
     rw [beq_eq_false_iff_ne.2 h2,Bool.and_false]
     exact Ev.now _
 case refine_2 =>
  rw [if_neg h]
  refine Kit.ev_if (fun h2=>?_) (fun h2=>?_)
  case refine_1 =>
   rw [if_pos h2]
   refine Kit.ev_if (fun e1=>?_) (fun e1=>?_)
   case refine_2=>rw [no1 _ e1];exact Ev.now _
   case refine_1 =>
    refine Kit.ev_if (fun e2=>?_) (fun e2=>?_)
    case refine_2=>rw [no2 _ e2];exact Ev.now _
    case refine_1 =>
     unfold emptyB
     rw [if_pos e2,if_pos e1]
     refine Kit.ev_some (l01In_now _ _ _) ?_
     generalize decide (1≤(x.f3.size:Int)∧(x.f3.size:Int)≤120)=b
     cases b with
     | false=>exact Kit.ev_neg Bool.false_ne_true (Ev.now _)
     | true=>exact Kit.ev_pos rfl he
  case refine_2 =>
   rw [if_neg h2]
   refine Kit.ev_if (fun h3=>?_) (fun h3=>?_)
   case refine_2=>rw [if_neg h3];exact Ev.now _
   case refine_1 =>
    rw [if_pos h3]
    refine Kit.ev_if (fun e1=>?_) (fun e1=>?_)
    case refine_2=>rw [no1 _ e1];exact Ev.now _
    case refine_1 =>
     refine Kit.ev_if (fun e2=>?_) (fun e2=>?_)
     case refine_2=>rw [no2 _ e2];exact Ev.now _
     case refine_1 =>
      unfold emptyB
      rw [if_pos e2,if_pos e1]
      refine Kit.ev_if (fun e3=>?_) (fun e3=>?_)
      case refine_1 =>
       rw [decide_eq_true (by omega)]
       exact he
      case refine_2 =>
       rw [decide_eq_false (by omega)]
       exact Ev.now _
/- The tag with which an element begins. -/
def mk (s:List UInt8):ByteArray:=⟨s.toArray⟩
theorem mk_size (s:List UInt8):(mk s).size=s.length:=by simp [mk,ByteArray.size]
theorem mk_txt (s:List UInt8) (t:ByteArray):mk s++t=mk (s++t.data.toList):=by
 unfold mk
 apply ByteArray.ext
 simp
theorem lit_mk (l:List UInt8):(⟨l.toArray⟩:ByteArray)=mk l:=rfl
theorem take_getD {α : Type} (d : α) (xs:List α) (i:Nat) (h:i<xs.length):xs.take (i+1)=xs.take i++[xs.getD i d]:=by
 rw [List.take_add_one,List.getElem?_eq_getElem h]
 simp [List.getD,h]
def attrL (a:S51):List UInt8:=32 :: (a.f0.data.toList++([61,34]++(a.f1.data.toList.flatMap escV++[34])))
def headL (x:S32) (i:Nat):List UInt8:=60 :: (x.f2.data.toList++(x.f4.take i).flatMap attrL)
def tagL (x:S32):List UInt8:=headL x x.f4.length++[62]
theorem attr_text (a:S51):((((⟨#[32]⟩:ByteArray)++a.f0)++(⟨#[61,34]⟩:ByteArray))++escVT a.f1)++(⟨#[34]⟩:ByteArray)=mk (attrL a):=by
 unfold attrL mk escVT
 apply ByteArray.ext
 simp
theorem escVT_size (s:ByteArray):(escVT s).size≤6 * s.size:=by
 show (List.toArray _).size≤_
 rw [List.size_toArray]
 have h:=flatV_len s.data.toList
 rwa [data_length] at h
def FitAs (l:List S51):Prop:=l.length≤1048576∧∀ a∈l,a.f0.size≤1048576∧a.f1.size≤1048576
theorem attr_len (a:S51) (h:a.f0.size≤1048576∧a.f1.size≤1048576):(attrL a).length≤8388608:=by
 have h1:=flatV_len a.f1.data.toList
 unfold attrL
 simp only [List.length_cons,List.length_append,List.length_nil]
 rw [data_length] at h1 ⊢
 omega
theorem attrs_len:∀ l:List S51,(∀ a∈l,a.f0.size≤1048576∧a.f1.size≤1048576)→(l.flatMap attrL).length≤8388608 * l.length
 | [],_=>Nat.le_refl _
 | a :: l,h=>by
  have h1:=attr_len a (h a List.mem_cons_self)
  have h2:=attrs_len l (fun b hb=>h b (List.mem_cons_of_mem _ hb))
  rw [List.flatMap_cons,List.length_append,List.length_cons]
  omega
theorem head_len (x:S32) (h2:x.f2.size≤1048576) (hf:FitAs x.f4) (i:Nat):(headL x i).length≤9000000000000:=by
 have h1:=attrs_len (x.f4.take i) (fun a ha=>hf.2 a (List.mem_of_mem_take ha))
 have h3:(x.f4.take i).length≤1048576:=by rw [List.length_take];have:=hf.1;omega
 unfold headL
 rw [List.length_cons,List.length_append,data_length]
 omega
theorem head_step (x:S32) (i:Nat) (h:i<x.f4.length):headL x (i+1)=headL x i++attrL (x.f4.getD i z51):=by
 unfold headL
 rw [take_getD z51 _ i h,List.flatMap_append]
 simp
theorem head_zero (x:S32):(⟨#[60]⟩:ByteArray)++x.f2=mk (headL x 0):=by
 unfold headL mk
 apply ByteArray.ext
 simp
theorem tag_end (x:S32):mk (headL x x.f4.length)++(⟨#[62]⟩:ByteArray)=mk (tagL x):=by
 rw [mk_txt]
 rfl
theorem attr_sizes (a:S51) (v:ByteArray):((⟨#[32]⟩:ByteArray)++a.f0).size=1+a.f0.size∧(((⟨#[32]⟩:ByteArray)++a.f0)++(⟨#[61,34]⟩:ByteArray)).size=1+a.f0.size+2∧((((⟨#[32]⟩:ByteArray)++a.f0)++(⟨#[61,34]⟩:ByteArray))++v).size=1+a.f0.size+2+v.size:=by
 refine ⟨?_,?_,?_⟩ <;> simp only [ByteArray.size_append] <;> rfl
theorem ev_l06Start (x:S32) (h2:x.f2.size≤1048576) (hf:FitAs x.f4):Ev (fun k=>spec_l06Start.f k x.f0 x.f1 x.f2 x.f3 x.f4 x.f5) (mk (tagL x)):=by
 have hl:=hf.1
 have key:∀ i,i≤x.f4.length→∀ acc:ByteArray,acc=mk (headL x i)→Ev (fun k=>spec_l06Start.l0 k acc (i:Int) x.f0 x.f1 x.f2 x.f3 x.f4 x.f5) (mk (tagL x)):=by
  refine Kit.down ?_ ?_
  ·intro acc hacc
   have hsz:=head_len x h2 hf x.f4.length
   rw [←mk_size,←hacc] at hsz
   refine Ev.step (fun k=>rfl) (Kit.ev_neg (by omega) (Kit.ev_pos (by omega) (Kit.ev_const ?_)))
   rw [hacc,tag_end]
  ·intro i hi ih acc hacc
   have hsz:=head_len x h2 hf i
   rw [←mk_size,←hacc] at hsz
   have hm:=hf.2 _ (Kit.getD_mem z51 hi)
   have hst:=head_step x i hi
   have hvs:=escVT_size (x.f4.getD i z51).f1
   have hz:=attr_sizes (x.f4.getD i z51) (escVT (x.f4.getD i z51).f1)
   have he:=attr_text (x.f4.getD i z51)
   have hel:=attr_len _ hm
   have hv:=ev_l02Value (x.f4.getD i z51).f1 (by omega)
   refine Ev.step (fun k=>rfl) (Kit.ev_pos (by omega) (Kit.ev_pos (by omega) ?_))
   rw [rdA2_nat,Kit.wrap_nat hi (by omega)]
   generalize x.f4.getD i z51=a at *
   obtain ⟨z1,z2,z3⟩:=hz
   refine Kit.ev_pos (by omega) (Kit.ev_pos (by omega) (Ev.bind hv (Kit.ev_pos (by omega) (Kit.ev_pos (by omega) ?_))))
   rw [he]
   refine Kit.ev_pos (by rw [mk_size];omega) (ih _ ?_)
   rw [hacc,hst,mk_txt]
   simp [mk]
 unfold spec_l06Start.f
 exact Kit.ev_pos (by omega) (key 0 (Nat.zero_le _) _ (head_zero x))
theorem ev_startTag (x:S32) (h2:x.f2.size≤1048576) (hf:FitAs x.f4):Ev (fun k=>impl_startTag.f k x.f0 x.f1 x.f2 x.f3 x.f4 x.f5) (mk (tagL x)):=by
 have hl:=hf.1
 have key:∀ i,i≤x.f4.length→∀ acc:ByteArray,acc=mk (headL x i)→Ev (fun k=>impl_startTag.l0 k acc x.f4 (x.f4.length:Int) (i:Int)) (mk (tagL x)):=by
  refine Kit.down ?_ ?_
  ·intro acc hacc
   have hsz:=head_len x h2 hf x.f4.length
   rw [←mk_size,←hacc] at hsz
   refine Ev.step (fun k=>rfl) (Kit.ev_neg (by omega) (Kit.ev_pos (by omega) (Kit.ev_const ?_)))
   rw [hacc,tag_end]
  ·intro i hi ih acc hacc
   have hsz:=head_len x h2 hf i
   rw [←mk_size,←hacc] at hsz
   have hm:=hf.2 _ (Kit.getD_mem z51 hi)
   have hst:=head_step x i hi
   have hvs:=escVT_size (x.f4.getD i z51).f1
   have hz:=attr_sizes (x.f4.getD i z51) (escVT (x.f4.getD i z51).f1)
   have he:=attr_text (x.f4.getD i z51)
   have hel:=attr_len _ hm
   have hv:=escapeValue_eq (x.f4.getD i z51).f1 (by omega)
   refine Ev.step (fun k=>rfl) (Kit.ev_pos (by omega) (Kit.ev_pos (by omega) (Kit.ev_pos (by omega) ?_)))
   rw [rdA2_nat,Kit.wrap_nat hi (by omega)]
   generalize x.f4.getD i z51=a at *
   obtain ⟨z1,z2,z3⟩:=hz
   refine Kit.ev_pos (by omega) (Kit.ev_pos (by omega) (Kit.ev_some hv (Kit.ev_pos (by omega) (Kit.ev_pos (by omega) ?_))))
   rw [he]
   refine Kit.ev_pos (by rw [mk_size];omega) (ih _ ?_)
   rw [hacc,hst,mk_txt]
   simp [mk]
 unfold impl_startTag.f
 exact Kit.ev_pos (by omega) (key 0 (Nat.zero_le _) _ (head_zero x))
theorem proved:laws_FnExactStartTag.PureS:=by
 intro x hg
 refine Ev.rounds (g:=fun k=>laws_FnExactStartTag.f k x.f0 x.f1 x.f2 x.f3 x.f4 x.f5) ?_
 unfold laws_FnExactStartTag.f
 obtain ⟨t,ht,_,hfit⟩:=ex_szNode x hg 1048576 (by omega) (by omega)
 by_cases hneg:t<0
 case pos=>exact Ev.bind ht (Kit.ev_pos hneg (Ev.now _))
 case neg =>
  obtain ⟨v,hto,hf⟩:=ex_toNode x (hfit (by omega))
  have heq:=ev_eqNode v hf
  obtain ⟨h2,h4⟩:v.f2.size≤1048576∧FitAs v.f4:=by cases hf with|mk x h2 h3 h4 h5 hk=>exact ⟨h2,h4⟩
  have hown:=ev_isOwn v (by omega) (fun a ha=>by have:=(h4.2 a ha).1;omega)
  have hpl:=ev_l03Plain v (by omega) (fun a ha=>by have:=(h4.2 a ha).1;omega) (by have:=h4.1;omega)
  have hv:∃ r:ByteArray × Int,Ev (fun k=>spec_StartTag.f k v.f0 v.f1 v.f2 v.f3 v.f4 v.f5) r∧Ev (fun k=>impl_StartTag.f k v.f0 v.f1 v.f2 v.f3 v.f4 v.f5) r:=by
   refine ⟨if ownB v=true then (if v.f0=1 then (mk (tagL v),0) else ((⟨#[]⟩:ByteArray),9)) else ((⟨#[]⟩:ByteArray),1),?_,?_⟩
   ·unfold spec_StartTag.f
    refine Ev.bind hpl (Kit.ev_if (fun h=>?_) (fun h=>?_))
    ·rw [if_pos h]
     refine Kit.ev_if (fun h=>?_) (fun h=>?_)
     ·rw [if_pos h];exact Ev.bind (ev_l06Start v h2 h4) (Ev.now _)
     ·rw [if_neg h];exact Ev.now _
    ·rw [if_neg h];exact Ev.now _
   ·unfold impl_StartTag.f
    refine Ev.bind hown (Kit.ev_if (fun h=>?_) (fun h=>?_))
    ·rw [if_pos h]
     refine Kit.ev_if (fun h=>?_) (fun h=>?_)
     ·rw [if_pos h];exact Ev.bind (ev_startTag v h2 h4) (Ev.now _)
     ·rw [if_neg h];exact Ev.now _
    ·rw [if_neg h];exact Ev.now _
  obtain ⟨r,hs,hi⟩:=hv
  refine Ev.bind ht (Kit.ev_neg hneg (Ev.bind hto (Ev.bind hs (Ev.bind hto (Ev.bind hi (Kit.ev_pos rfl ?_))))))
  have:(r.2 != r.2)=false:=by simp
  rw [this]
  exact Ev.step (fun k=>by rw [laws_FnExactStartTag.j0]) (Kit.ev_neg Bool.false_ne_true (Ev.bind hto (Ev.bind heq (Kit.ev_pos rfl (Ev.now _)))))
end Go.Proofs.YtpoaaomcpleebaaGreatDoor.Pure.LStartTag
namespace Go.Proofs.YtpoaaomcpleebaaGreatDoor.Pure
theorem FnExactStartTag:PFnExactStartTag.laws_FnExactStartTag.PureS:=LStartTag.proved
end Go.Proofs.YtpoaaomcpleebaaGreatDoor.Pure
