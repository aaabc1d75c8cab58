/- The pure statement of FnExactEscapeText: for every text both functions tell the same text. No conditions. -/
import Derived.Test.YtpoaaomcpleebaaKit
import Derived.Test.YtpoaaomcpleebaaPFnExactEscapeTextx
namespace Go.Proofs.Ytpoaaomcpleebaa.Pure.LEscapeText
open Go.RowKit Go.Proofs.Ytpoaaomcpleebaa.PFnExactEscapeText Go.Proofs.YtpoaaomcpleebaaW.PrintWords
theorem isLong1 (a:ByteArray):impl_isLong.f [a]=some (decide (65536<(a.size:Int))):=by
 unfold impl_isLong.f
 rw [if_pos (by simp)]
 simp
theorem mk_append (a b:List UInt8):(⟨a.toArray⟩:ByteArray) ++ ⟨b.toArray⟩=⟨(a++b).toArray⟩:=by
 apply ByteArray.ext
 simp
theorem extract_one (s:ByteArray) (i:Nat) (b:UInt8) (h:s.data.toList[i]? = some b):s.extract i (i+1)=⟨[b].toArray⟩:=by
 obtain ⟨hl,he⟩:=List.getElem?_eq_some_iff.1 h
 rw [data_length] at hl
 apply ByteArray.ext
 apply Array.toList_inj.1
 rw [ByteArray.data_extract,Array.toList_extract,List.extract_eq_take_drop]
 rw [List.drop_eq_getElem_cons (by rw [data_length];exact hl),he]
 simp
theorem escF_at (b:UInt8):escF b=if (b.toNat:Int)=38 then [38,97,109,112,59] else if (b.toNat:Int)=60 then [38,108,116,59] else if (b.toNat:Int)=62 then [38,103,116,59] else [b]:=by
 by_cases h1:b=38
 ·subst h1;rfl
 ·by_cases h2:b=60
  ·subst h2;rfl
  ·by_cases h3:b=62
   ·subst h3;rfl
   ·have n1:¬ (b.toNat:Int)=38:=fun e=>h1 (UInt8.toNat_inj.1 (by show b.toNat=38;omega))
    have n2:¬ (b.toNat:Int)=60:=fun e=>h2 (UInt8.toNat_inj.1 (by show b.toNat=60;omega))
    have n3:¬ (b.toNat:Int)=62:=fun e=>h3 (UInt8.toNat_inj.1 (by show b.toNat=62;omega))
    rw [if_neg n1,if_neg n2,if_neg n3]
    unfold escF escL
    rw [if_neg h3,if_neg h2,if_neg h1,if_pos rfl]
theorem byte_at2 (s:ByteArray) (k:Nat) (hk:k<s.size):∃ b,s.data.toList[k]? = some b∧bt s (k:Int)=(b.toNat:Int):=by
 have h:k<s.data.toList.length:=by rw [data_length];exact hk
 refine ⟨s.data.toList[k],List.getElem?_eq_getElem h,?_⟩
 rw [←bt_at s (k:Int) (by simpa using hk)]
 rfl
theorem ev_l02Text (s:ByteArray) (hn:s.size≤140737488351232):Ev (fun k=>spec_l02Text.f k s) (escT s):=by
 have key:∀ i:Nat,i≤s.size→∀ acc:ByteArray,acc=⟨((s.data.toList.take i).flatMap escF).toArray⟩→Ev (fun k=>spec_l02Text.l0 k s acc i) (escT s):=by
  refine Kit.down ?_ ?_
  ·intro acc ha
   refine Ev.step (fun k=>rfl) (Kit.ev_neg (by omega) (Kit.ev_const ?_))
   rw [ha,List.take_of_length_le (by rw [data_length];exact Nat.le_refl _)]
   rfl
  ·intro i hi ih acc ha
   obtain ⟨b,hb,hbt⟩:=byte_at2 s i hi
   have hsz:acc.size≤5 * i:=by
    rw [ha]
    show (List.toArray _).size≤_
    rw [List.size_toArray,flat_len]
    have h1:=escG_le (s.data.toList.take i)
    have h2:(s.data.toList.take i).length≤i:=by rw [List.length_take];omega
    omega
   have hw:wrap64 ((i:Int)+1)=((i+1:Nat):Int):=Kit.wrap_nat hi (by omega)
   have hnext:∀ (l:List UInt8) (x:ByteArray),x=⟨l.toArray⟩→escF b=l→Ev (fun k=>spec_l02Text.l0 k s (acc++x) ((i+1:Nat):Int)) (escT s):=by
    intro l x hx he
    refine ih _ ?_
    rw [ha,hx,mk_append,flat_step hb,he]
   have hE:=escF_at b
   refine Ev.step (fun k=>rfl) (Kit.ev_pos (by omega) (Kit.ev_pos (by omega) ?_))
   rw [hw,hbt]
   refine Kit.ev_if (fun h1=>?_) (fun h1=>Kit.ev_if (fun h2=>?_) (fun h2=>Kit.ev_if (fun h3=>?_) (fun h3=>?_)))
   ·rw [if_pos h1] at hE
    exact Kit.ev_pos (by omega) (hnext _ _ rfl hE)
   ·rw [if_neg h1,if_pos h2] at hE
    exact Kit.ev_pos (by omega) (hnext _ _ rfl hE)
   ·rw [if_neg h1,if_neg h2,if_pos h3] at hE
    exact Kit.ev_pos (by omega) (hnext _ _ rfl hE)
   ·rw [if_neg h1,if_neg h2,if_neg h3] at hE
    have hx:s.extract ((i:Int)).toNat (((i+1:Nat):Int)).toNat=⟨[b].toArray⟩:=extract_one s i b hb
    have hz:(⟨[b].toArray⟩:ByteArray).size=1:=rfl
    rw [hx,hz]
    exact Kit.ev_pos (by omega) (Kit.ev_pos (by omega) (Kit.ev_pos (by omega) (hnext _ _ rfl hE)))
 exact key 0 (by omega) _ (by rw [List.take_zero];rfl)
theorem proved:laws_FnExactEscapeText.Pure:=by
 intro a ha
 refine Ev.rounds (g:=fun k=>laws_FnExactEscapeText.f k a) ?_
 unfold laws_FnExactEscapeText.f spec_EscapeText.f impl_EscapeText.f
 rw [isLong1,Option.bind_some]
 refine Kit.ev_if (fun _=>Ev.now _) (fun _=>?_)
 by_cases h:(a.size:Int)>65536
 ·refine Ev.bind (Kit.ev_pos h (Ev.now _)) ?_
  refine Kit.ev_const ?_
  rw [if_pos (by simpa using h),Option.bind_some,if_pos rfl]
 ·refine Ev.bind (Kit.ev_neg h (Ev.bind (ev_l02Text a ha) (Ev.now _))) ?_
  refine Kit.ev_const ?_
  have he:impl_escapeText.f a=some (escT a):=by
   unfold impl_escapeText.f
   rw [if_pos (by omega)]
  rw [if_neg (by simpa using h),he,Option.bind_some,Option.bind_some,if_pos rfl]
end Go.Proofs.Ytpoaaomcpleebaa.Pure.LEscapeText
namespace Go.Proofs.Ytpoaaomcpleebaa.Pure
theorem FnExactEscapeText:PFnExactEscapeText.laws_FnExactEscapeText.Pure:=LEscapeText.proved
end Go.Proofs.Ytpoaaomcpleebaa.Pure
