/- The pure statement of FnExactEscapeValue: for every text both functions tell the same text. No conditions. -/
import Derived.Test.YtpoaaomcpleebaaDoorKit
import Derived.Test.YtpoaaomcpleebaaDoorPFnExactEscapeValuex
namespace Go.Proofs.YtpoaaomcpleebaaDoor.Pure.LEscapeValue
open Go.RowKit Go.Proofs.YtpoaaomcpleebaaDoor.PFnExactEscapeValue Go.Proofs.YtpoaaomcpleebaaDoorW.PrintWords
theorem isLong1 (a:ByteArray):impl_isLong.f [a]=some (decide (65536<(a.size:Int))):=by
 unfold impl_isLong.f
 rw [if_pos (by simp)]
 simp
theorem mk_append (a b:List UInt8):(⟨a.toArray⟩:ByteArray) ++ ⟨b.toArray⟩=⟨(a++b).toArray⟩:=by
 apply ByteArray.ext
 simp
theorem extract_one (s:ByteArray) (i:Nat) (b:UInt8) (h:s.data.toList[i]? = some b):s.extract i (i+1)=⟨[b].toArray⟩:=by
 obtain ⟨hl,he⟩:=List.getElem?_eq_some_iff.1 h
 rw [data_length] at hl
 apply ByteArray.ext
 apply Array.toList_inj.1
 rw [ByteArray.data_extract,Array.toList_extract,List.extract_eq_take_drop]
 rw [List.drop_eq_getElem_cons (by rw [data_length];exact hl),he]
 simp
theorem escF_at (b:UInt8):escF b=if (b.toNat:Int)=38 then [38,97,109,112,59] else if (b.toNat:Int)=60 then [38,108,116,59] else if (b.toNat:Int)=62 then [38,103,116,59] else [b]:=by
 by_cases h1:b=38
 ·subst h1;rfl
 ·by_cases h2:b=60
  ·subst h2;rfl
  ·by_cases h3:b=62
   ·subst h3;rfl
   ·have n1:¬ (b.toNat:Int)=38:=fun e=>h1 (UInt8.toNat_inj.1 (by show b.toNat=38;omega))
    have n2:¬ (b.toNat:Int)=60:=fun e=>h2 (UInt8.toNat_inj.1 (by show b.toNat=60;omega))
    have n3:¬ (b.toNat:Int)=62:=fun e=>h3 (UInt8.toNat_inj.1 (by show b.toNat=62;omega))
    rw [if_neg n1,if_neg n2,if_neg n3]
    unfold escF escL
    rw [if_neg h3,if_neg h2,if_neg h1,if_pos rfl]
theorem byte_at2 (s:ByteArray) (k:Nat) (hk:k<s.size):∃ b,s.data.toList[k]? = some b∧bt s (k:Int)=(b.toNat:Int):=by
 have h:k<s.data.toList.length:=by rw [data_length];exact hk
 refine ⟨s.data.toList[k],List.getElem?_eq_getElem h,?_⟩
 rw [←bt_at s (k:Int) (by simpa using hk)]
 rfl
theorem ev_l02Text (s:ByteArray) (hn:s.size≤140737488351232):Ev (fun k=>spec_l02Text.f k s) (escT s):=by
 have key:∀ i:Nat,i≤s.size→∀ acc:ByteArray,acc=⟨((s.data.toList.take i).flatMap escF).toArray⟩→Ev (fun k=>spec_l02Text.l0 k s acc i) (escT s):=by
  refine Kit.down ?_ ?_
  ·intro acc ha
   refine Ev.step (fun k=>rfl) (Kit.ev_neg (by omega) (Kit.ev_const ?_))
   rw [ha,List.take_of_length_le (by rw [data_length];exact Nat.le_refl _)]
   rfl
  ·intro i hi ih acc ha
   obtain ⟨b,hb,hbt⟩:=byte_at2 s i hi
   have hsz:acc.size≤5 * i:=by
    rw [ha]
    show (List.toArray _).size≤_
    rw [List.size_toArray,flat_len]
    have h1:=escG_le (s.data.toList.take i)
    have h2:(s.data.toList.take i).length≤i:=by rw [List.length_take];omega
    omega
   have hw:wrap64 ((i:Int)+1)=((i+1:Nat):Int):=Kit.wrap_nat hi (by omega)
   have hnext:∀ (l:List UInt8) (x:ByteArray),x=⟨l.toArray⟩→escF b=l→Ev (fun k=>spec_l02Text.l0 k s (acc++x) ((i+1:Nat):Int)) (escT s):=by
    intro l x hx he
    refine ih _ ?_
    rw [ha,hx,mk_append,flat_step hb,he]
   have hE:=escF_at b
   refine Ev.step (fun k=>rfl) (Kit.ev_pos (by omega) (Kit.ev_pos (by omega) ?_))
   rw [hw,hbt]
   refine Kit.ev_if (fun h1=>?_) (fun h1=>Kit.ev_if (fun h2=>?_) (fun h2=>Kit.ev_if (fun h3=>?_) (fun h3=>?_)))
   ·rw [if_pos h1] at hE
    exact Kit.ev_pos (by omega) (hnext _ _ rfl hE)
   ·rw [if_neg h1,if_pos h2] at hE
    exact Kit.ev_pos (by omega) (hnext _ _ rfl hE)
   ·rw [if_neg h1,if_neg h2,if_pos h3] at hE
    exact Kit.ev_pos (by omega) (hnext _ _ rfl hE)
   ·rw [if_neg h1,if_neg h2,if_neg h3] at hE
    have hx:s.extract ((i:Int)).toNat (((i+1:Nat):Int)).toNat=⟨[b].toArray⟩:=extract_one s i b hb
    have hz:(⟨[b].toArray⟩:ByteArray).size=1:=rfl
    rw [hx,hz]
    exact Kit.ev_pos (by omega) (Kit.ev_pos (by omega) (Kit.ev_pos (by omega) (hnext _ _ rfl hE)))
 exact key 0 (by omega) _ (by rw [List.take_zero];rfl)
/-- What a byte stands as in a value. -/
def escV (b:UInt8):List UInt8:=if b=34 then [38,113,117,111,116,59] else escF b
def escVT (s:ByteArray):ByteArray:=⟨(s.data.toList.flatMap escV).toArray⟩
theorem repB_escF (b:UInt8):repB 34 [38,113,117,111,116,59] (escF b)=escV b:=by
 unfold escV
 by_cases h0:b=34
 ·subst h0;rfl
 ·rw [if_neg h0]
  by_cases h1:b=38
  ·subst h1;rfl
  ·by_cases h2:b=60
   ·subst h2;rfl
   ·by_cases h3:b=62
    ·subst h3;rfl
    ·have he:escF b=[b]:=by
      unfold escF escL
      rw [if_neg h3,if_neg h2,if_neg h1,if_pos rfl]
     rw [he]
     simp [repB,h0]
theorem repB_flat:∀ l:List UInt8,repB 34 [38,113,117,111,116,59] (l.flatMap escF)=l.flatMap escV
 | []=>rfl
 | b :: l=>by rw [List.flatMap_cons,List.flatMap_cons,repB_append,repB_escF,repB_flat l]
theorem escV_len (b:UInt8):(escV b).length≤6:=by
 unfold escV
 split
 ·simp
 ·have h1:=escF_len b
  have h2:=escL_le b
  omega
theorem flatV_len:∀ l:List UInt8,(l.flatMap escV).length≤6 * l.length
 | []=>Nat.le_refl _
 | b :: l=>by
  have h1:=escV_len b
  have h2:=flatV_len l
  rw [List.flatMap_cons,List.length_append,List.length_cons]
  omega
theorem escT_size (s:ByteArray):(escT s).size≤5 * s.size:=by
 show (List.toArray _).size≤_
 rw [List.size_toArray,flat_len]
 have h1:=escG_le s.data.toList
 rw [data_length] at h1 ⊢
 omega
theorem escapeValue_eq (s:ByteArray) (h:s.size≤1099511627776):impl_escapeValue.f s=some (escVT s):=by
 have h1:impl_escapeText.f s=some (escT s):=by
  unfold impl_escapeText.f
  rw [if_pos h]
 have h2:=escT_size s
 unfold impl_escapeValue.f
 rw [h1,Option.bind_some]
 have h3:strings_ReplaceAll.f (escT s) ⟨#[34]⟩ ⟨#[38,113,117,111,116,59]⟩=some ⟨(repB 34 [38,113,117,111,116,59] (escT s).data.toList).toArray⟩:=if_pos ⟨by omega,by decide,by decide⟩
 rw [h3,Option.bind_some]
 have h4:(escT s).data.toList=s.data.toList.flatMap escF:=by simp [escT]
 rw [h4,repB_flat]
 rfl
theorem flatV_step {l:List UInt8} {k:Nat} {b:UInt8} (h:l[k]? = some b):(l.take (k+1)).flatMap escV=(l.take k).flatMap escV++escV b:=by
 rw [take_at h,List.flatMap_append]
 simp
theorem ev_l02Value (s:ByteArray) (hn:s.size≤140737488351232):Ev (fun k=>spec_l02Value.f k s) (escVT s):=by
 have key:∀ i:Nat,i≤s.size→∀ acc:ByteArray,acc=⟨((s.data.toList.take i).flatMap escV).toArray⟩→Ev (fun k=>spec_l02Value.l0 k s acc i) (escVT s):=by
  refine Kit.down ?_ ?_
  ·intro acc ha
   refine Ev.step (fun k=>rfl) (Kit.ev_neg (by omega) (Kit.ev_const ?_))
   rw [ha,List.take_of_length_le (by rw [data_length];exact Nat.le_refl _)]
   rfl
  ·intro i hi ih acc ha
   obtain ⟨b,hb,hbt⟩:=byte_at2 s i hi
   have hsz:acc.size≤6 * i:=by
    rw [ha]
    show (List.toArray _).size≤_
    rw [List.size_toArray]
    have h1:=flatV_len (s.data.toList.take i)
    have h2:(s.data.toList.take i).length≤i:=by rw [List.length_take];omega
    omega
   have hw:wrap64 ((i:Int)+1)=((i+1:Nat):Int):=Kit.wrap_nat hi (by omega)
   have hnext:∀ (l:List UInt8) (x:ByteArray),x=⟨l.toArray⟩→escV b=l→Ev (fun k=>spec_l02Value.l0 k s (acc++x) ((i+1:Nat):Int)) (escVT s):=by
    intro l x hx he
    refine ih _ ?_
    rw [ha,hx,mk_append,flatV_step hb,he]
   refine Ev.step (fun k=>rfl) (Kit.ev_pos (by omega) (Kit.ev_pos (by omega) ?_))
   rw [hw,hbt]
   refine Kit.ev_if (fun h1=>?_) (fun h1=>?_)
   ·have hE:escV b=[38,113,117,111,116,59]:=by
     unfold escV
     rw [if_pos (UInt8.toNat_inj.1 (by show b.toNat=34;omega))]
    exact Kit.ev_pos (by omega) (hnext _ _ rfl hE)
   ·have hE:escV b=escF b:=by
     unfold escV
     rw [if_neg (fun e=>h1 (by rw [e];rfl))]
    have hx:s.extract ((i:Int)).toNat (((i+1:Nat):Int)).toNat=⟨[b].toArray⟩:=extract_one s i b hb
    rw [hx]
    have h1:escT ⟨[b].toArray⟩=⟨(escF b).toArray⟩:=by simp [escT]
    have hl:(⟨(escF b).toArray⟩:ByteArray).size≤6:=by
     show (List.toArray _).size≤_
     rw [List.size_toArray,←hE]
     exact escV_len b
    refine Kit.ev_pos (by omega) (Kit.ev_pos (by omega) (Ev.bind (ev_l02Text ⟨[b].toArray⟩ (by show (1:Nat)≤_;omega)) ?_))
    rw [h1]
    exact Kit.ev_pos (by omega) (hnext _ _ rfl hE)
 exact key 0 (by omega) _ (by rw [List.take_zero];rfl)
theorem proved:laws_FnExactEscapeValue.Pure:=by
 intro a ha
 refine Ev.rounds (g:=fun k=>laws_FnExactEscapeValue.f k a) ?_
 unfold laws_FnExactEscapeValue.f spec_EscapeValue.f impl_EscapeValue.f
 rw [isLong1,Option.bind_some]
 refine Kit.ev_if (fun _=>Ev.now _) (fun _=>?_)
 by_cases h:(a.size:Int)>65536
 ·refine Ev.bind (Kit.ev_pos h (Ev.now _)) ?_
  refine Kit.ev_const ?_
  rw [if_pos (by simpa using h),Option.bind_some,if_pos rfl]
 ·refine Ev.bind (Kit.ev_neg h (Ev.bind (ev_l02Value a ha) (Ev.now _))) ?_
  refine Kit.ev_const ?_
  rw [if_neg (by simpa using h),escapeValue_eq a (by omega),Option.bind_some,Option.bind_some,if_pos rfl]
end Go.Proofs.YtpoaaomcpleebaaDoor.Pure.LEscapeValue
namespace Go.Proofs.YtpoaaomcpleebaaDoor.Pure
theorem FnExactEscapeValue:PFnExactEscapeValue.laws_FnExactEscapeValue.Pure:=LEscapeValue.proved
end Go.Proofs.YtpoaaomcpleebaaDoor.Pure
