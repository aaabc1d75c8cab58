/- The pure statement of FnExactTokensOf: for every text both functions tell the same tokens. No conditions. -/
import Derived.Test.YtfkanlbmgbkniaaGreatDoorKit
import Derived.Test.YtfkanlbmgbkniaaGreatDoorOpensFnExactTokensOf
import Derived.Test.YtfkanlbmgbkniaaGreatDoorPFnExactTokensOfx
namespace Go.Proofs.YtfkanlbmgbkniaaGreatDoor.Pure.LTokensOf
open Go.RowKit Go.Proofs.YtfkanlbmgbkniaaGreatDoor.PFnExactTokensOf Go.Proofs.YtfkanlbmgbkniaaGreatDoorW.PrintWords
open Go.Proofs.YtfkanlbmgbkniaaGreatDoor.Kit (lowC lowS lowS_bytes)
theorem isLong1 (a:ByteArray):impl_isLong.f [a]=some (decide (65536<(a.size:Int))):=by
 unfold impl_isLong.f
 rw [if_pos (by simp)]
 simp
/- A text with the bytes that escapes stand for. -/
theorem byte_at3 (s:ByteArray) (k:Nat) (hk:k<s.size):∃ b,s.data.toList[k]? = some b∧bt s (k:Int)=(b.toNat:Int):=by
 have h:k<s.data.toList.length:=by rw [data_length];exact hk
 refine ⟨s.data.toList[k],List.getElem?_eq_getElem h,?_⟩
 rw [←bt_at s (k:Int) (by simpa using hk)]
 rfl
theorem drop_at {l:List UInt8} {i:Nat} {b:UInt8} (h:l[i]? = some b):l.drop i=b :: l.drop (i+1):=by
 obtain ⟨hl,he⟩:=List.getElem?_eq_some_iff.1 h
 rw [List.drop_eq_getElem_cons hl,he]
theorem index_at (c:UInt8):∀ (l:List UInt8) (m:Nat),l[m]? = some c→(∀ j,j<m→l[j]? ≠ some c)→Lib.index l [c]=(m:Int)
 | [],m,h,_=>by simp at h
 | b :: l,0,h,_=>by
  have:b=c:=by simpa using h
  subst this
  unfold Lib.index
  rw [if_pos (by simp)]
  rfl
 | b :: l,m+1,h,hn=>by
  have hb:¬ b=c:=fun e=>hn 0 (by omega) (by simp [e])
  have ih:=index_at c l m (by simpa using h) (fun j hj=>by have:=hn (j+1) (by omega);simpa using this)
  unfold Lib.index
  rw [if_neg (by simpa using fun e:c=b=>hb e.symm),ih,if_neg (by simp)]
  omega
theorem index_not (c:UInt8):∀ l:List UInt8,(∀ j,j<l.length→l[j]? ≠ some c)→Lib.index l [c] = -1
 | [],_=>rfl
 | b :: l,hn=>by
  have hb:¬ b=c:=fun e=>hn 0 (by simp) (by simp [e])
  have ih:=index_not c l (fun j hj=>by have:=hn (j+1) (by simpa using hj);simpa using this)
  unfold Lib.index
  rw [if_neg (by simpa using fun e:c=b=>hb e.symm),ih,if_pos (by rfl)]
theorem cut_at (c:UInt8) (l:List UInt8) (m:Nat) (h:l[m]? = some c) (hn:∀ j,j<m→l[j]? ≠ some c):(Lib.cut l [c]).1=l.take m∧(Lib.cut l [c]).2.2=true:=by
 unfold Lib.cut
 rw [index_at c l m h hn,if_pos (by omega)]
 exact ⟨by rw [Int.toNat_natCast],rfl⟩
theorem cut_not (c:UInt8) (l:List UInt8) (hn:∀ j,j<l.length→l[j]? ≠ some c):(Lib.cut l [c]).2.2=false:=by
 unfold Lib.cut
 rw [index_not c l hn,if_neg (by decide)]
/-- The number's loop. -/
theorem ev_digits (s:ByteArray) (hs:s.size≤4) (sg:Int) (hg:sg=1∨sg = -1):Ev (fun k=>spec_l00Number.l0 k s sg 0 0) (match Lib.decFrom 0 s.data.toList with|some n=>(sg * (n:Int),true)|none=>(0,false)):=by
 have key:∀ m,m≤s.size→∀ a:Nat,a<10 ^ m→Ev (fun k=>spec_l00Number.l0 k s sg (a:Int) (m:Int)) (match Lib.decFrom a (s.data.toList.drop m) with|some n=>(sg * (n:Int),true)|none=>(0,false)):=by
  refine Kit.down ?_ ?_
  ·intro a ha
   have h9:10 ^ s.size≤10 ^ 4:=Nat.pow_le_pow_right (by omega) hs
   rw [List.drop_eq_nil_of_le (by rw [data_length];exact Nat.le_refl _)]
   refine Ev.step (fun k=>rfl) (Kit.ev_neg (by omega) (Kit.ev_const ?_))
   have:wrap64 (sg * (a:Int))=sg * (a:Int):=by rcases hg with rfl|rfl <;> exact Kit.wrap_of (by omega) (by omega)
   rw [this]
   rfl
  ·intro m hm ih a ha
   have h9:10 ^ m≤10 ^ 4:=Nat.pow_le_pow_right (by omega) (by omega)
   obtain ⟨b,hb,hbt⟩:=byte_at3 s m hm
   have hb9:=b.toNat_lt
   have hw:wrap64 ((m:Int)+1)=((m+1:Nat):Int):=Kit.wrap_nat hm (by omega)
   rw [drop_at hb,Lib.decFrom]
   refine Ev.step (fun k=>rfl) (Kit.ev_pos (by omega) (Kit.ev_pos (by omega) ?_))
   rw [hbt,hw]
   refine Kit.ev_if (fun h1=>?_) (fun h1=>Kit.ev_if (fun h2=>?_) (fun h2=>?_))
   ·have:Lib.digitVal b=none:=by unfold Lib.digitVal;rw [if_neg (by omega)]
    rw [this]
    exact Ev.now _
   ·have:Lib.digitVal b=none:=by unfold Lib.digitVal;rw [if_neg (by omega)]
    rw [this]
    exact Ev.now _
   ·have:Lib.digitVal b=some (b.toNat - 48):=by unfold Lib.digitVal;rw [if_pos (by omega)]
    rw [this]
    have e:wrap64 (wrap64 (wrap64 ((a:Int) * 10)+wrap64 (b.toNat:Int)) - 48)=((a * 10+(b.toNat - 48):Nat):Int):=by
     rw [Kit.wrap_of (i:=(a:Int) * 10) (by omega) (by omega),Kit.wrap_of (i:=(b.toNat:Int)) (by omega) (by omega),Kit.wrap_of (i:=(a:Int) * 10+(b.toNat:Int)) (by omega) (by omega),Kit.wrap_of (by omega) (by omega)]
     omega
    rw [e]
    exact ih _ (by rw [Nat.pow_succ];omega)
 exact key 0 (Nat.zero_le _) 0 (by decide)
/-- What the reference's number tells, as far as escapes ask. -/
theorem ev_number (s:ByteArray) (hs:s.size≤4):∃ p:Int × Bool,Ev (fun k=>spec_l00Number.f k s) p∧(if p.2=true∧1≤p.1∧p.1≤126 then some p.1.toNat else none)=numE s.data.toList:=by
 rw [←numS_numE]
 have hz:s.data.toList.length=s.size:=data_length s
 have hj0:∀ (x:ByteArray) (g:Int) (b:Bool) (k:Nat),spec_l00Number.j0 (k+1) x g b=if b=true then (if 1≤(x.size:Int) then (spec_l00Number.j1 k (x.extract 1 x.size) (-1)) else (none)) else (spec_l00Number.j1 k x g):=fun x g b k=>by rw [spec_l00Number.j0]
 have hj2:∀ (x:ByteArray) (g:Int) (b:Bool) (k:Nat),spec_l00Number.j2 (k+1) x g b=if b=true then (some (0,false)) else (spec_l00Number.l0 k x g 0 0):=fun x g b k=>by rw [spec_l00Number.j2]
 have bad:∀ (x:ByteArray) (g:Int),Ev (fun k=>spec_l00Number.j2 k x g true) (0,false):=fun x g=>Ev.step (hj2 x g true) (Kit.ev_pos rfl (Ev.now _))
 unfold spec_l00Number.f
 by_cases h0:s.size=0
 ·refine ⟨(0,false),?_,?_⟩
  ·exact Kit.ev_neg (by omega) (Ev.step (hj0 s 1 false) (Kit.ev_neg Bool.false_ne_true (Ev.step (fun k=>rfl) (Kit.ev_pos (by omega) (bad s 1)))))
  ·have:s.data.toList=[]:=List.length_eq_zero_iff.1 (by omega)
   rw [this]
   rfl
 ·obtain ⟨b,hb,hbt⟩:=byte_at3 s 0 (by omega)
  have hbt:bt s 0=(b.toNat:Int):=hbt
  have hl:s.data.toList=b :: s.data.toList.drop 1:=by have:=drop_at hb;rwa [List.drop_zero] at this
  by_cases h45:b=45
  ·have hN:numS s.data.toList=none:=by
    unfold numS
    split
    ·rfl
    ·rw [hl,h45]
     rfl
   rw [hN]
   have hneg:((bt s 0) == 45)=true:=by rw [hbt,h45];rfl
   have hx:(s.extract 1 s.size).data.toList=s.data.toList.drop 1:=by rw [ByteArray.data_extract,Array.toList_extract,List.extract_eq_take_drop,List.take_of_length_le (by rw [List.length_drop];omega)]
   have hxs:(s.extract 1 s.size).size=s.size - 1:=by rw [ByteArray.size_extract];omega
   obtain ⟨x,hgx⟩:∃ x,s.extract 1 s.size=x:=⟨_,rfl⟩
   rw [hgx] at hx hxs
   have hp:∀ p:Int × Bool,Ev (fun k=>spec_l00Number.j1 k x (-1)) p→Ev (fun k=>if (s.size:Int)>0 then (if 0<(s.size:Int) then (spec_l00Number.j0 k s 1 ((bt s 0) == 45)) else (none)) else (spec_l00Number.j0 k s 1 false)) p:=by
    intro p h
    rw [hneg]
    exact Kit.ev_pos (by omega) (Kit.ev_pos (by omega) (Ev.step (hj0 s 1 true) (Kit.ev_pos rfl (Kit.ev_pos (by omega) (by rw [hgx];exact h)))))
   by_cases hx0:x.size=0
   ·exact ⟨(0,false),hp _ (Ev.step (fun k=>rfl) (Kit.ev_pos (by omega) (bad x _))),rfl⟩
   ·by_cases h48:bt x 0=48
    ·refine ⟨(0,false),hp _ (Ev.step (fun k=>rfl) (Kit.ev_neg (by omega) (Kit.ev_neg (by omega) (Kit.ev_pos (by omega) (Kit.ev_pos h48 (Kit.ev_if (fun _=>bad x _) (fun _=>?_))))))),rfl⟩
     exact bad x _
    ·have hd:=ev_digits x (by omega) (-1) (Or.inr rfl)
     have hd2:Ev (fun k=>spec_l00Number.j2 k x (-1) false) _:=Ev.step (hj2 x (-1) false) (Kit.ev_neg Bool.false_ne_true hd)
     refine ⟨_,hp _ (Ev.step (fun k=>rfl) (Kit.ev_neg (by omega) (Kit.ev_neg (by omega) (Kit.ev_pos (by omega) (Kit.ev_neg h48 hd2))))),?_⟩
     cases Lib.decFrom 0 x.data.toList with
     | none=>rfl
     | some n=>exact if_neg (by rintro ⟨_,h1,_⟩;simp only at h1;omega)
  ·have hneg:((bt s 0) == 45)=false:=beq_eq_false_iff_ne.2 (by
    rw [hbt]
    intro e
    exact h45 (UInt8.toNat_inj.1 (by show b.toNat=45;omega)))
   have hp:∀ p:Int × Bool,Ev (fun k=>spec_l00Number.j1 k s 1) p→Ev (fun k=>if (s.size:Int)>0 then (if 0<(s.size:Int) then (spec_l00Number.j0 k s 1 ((bt s 0) == 45)) else (none)) else (spec_l00Number.j0 k s 1 false)) p:=by
    intro p h
    rw [hneg]
    exact Kit.ev_pos (by omega) (Kit.ev_pos (by omega) (Ev.step (hj0 s 1 false) (Kit.ev_neg Bool.false_ne_true h)))
   by_cases h48:b=48
   ·have hN:numS s.data.toList=none:=by
     unfold numS
     rw [if_pos (.inr (by rw [hl,h48];rfl))]
    rw [hN]
    by_cases h1:(s.size:Int)>1
    ·exact ⟨(0,false),hp _ (Ev.step (fun k=>rfl) (Kit.ev_neg (by omega) (Kit.ev_neg (by omega) (Kit.ev_pos (by omega) (Kit.ev_pos (by rw [hbt,h48];rfl) (Kit.ev_pos h1 (bad s 1))))))),rfl⟩
    ·have hd:=ev_digits s (by omega) 1 (Or.inl rfl)
     have hd2:Ev (fun k=>spec_l00Number.j2 k s 1 (decide ((1:Int)<0))) _:=Ev.step (hj2 s 1 _) (Kit.ev_neg (by decide) hd)
     refine ⟨_,hp _ (Ev.step (fun k=>rfl) (Kit.ev_neg (by omega) (Kit.ev_neg (by omega) (Kit.ev_pos (by omega) (Kit.ev_pos (by rw [hbt,h48];rfl) (Kit.ev_neg h1 hd2)))))),?_⟩
     have hone:s.data.toList=[48]:=by
      rw [hl,h48,List.drop_eq_nil_of_le (by omega)]
     rw [hone]
     rfl
   ·have hd:=ev_digits s (by omega) 1 (Or.inl rfl)
    have hd2:Ev (fun k=>spec_l00Number.j2 k s 1 false) _:=Ev.step (hj2 s 1 _) (Kit.ev_neg Bool.false_ne_true hd)
    refine ⟨_,hp _ (Ev.step (fun k=>rfl) (Kit.ev_neg (by omega) (Kit.ev_neg (by omega) (Kit.ev_pos (by omega) (Kit.ev_neg (fun e=>h48 (UInt8.toNat_inj.1 (by show b.toNat=48;omega))) hd2))))),?_⟩
    have hn:Lib.decNat s.data.toList=Lib.decFrom 0 s.data.toList:=by unfold Lib.decNat;rw [hl];rfl
    have hS:numS s.data.toList=match Lib.decFrom 0 s.data.toList with
     | some n=>if 1≤n∧n≤126 then some n else none
     | none=>none:=by
     unfold numS
     rw [if_neg (fun h=>h.elim (fun e=>by rw [hl] at e;cases e) (fun e=>by rw [hl] at e;exact h48 (Option.some.inj e))),hn]
     cases Lib.decFrom 0 s.data.toList <;> rfl
    rw [hS]
    cases Lib.decFrom 0 s.data.toList with
    | none=>rfl
    | some n =>
     show (if true=true∧1≤(1:Int) * (n:Int)∧(1:Int) * (n:Int)≤126 then some ((1:Int) * (n:Int)).toNat else none)=if 1≤n∧n≤126 then some n else none
     rw [Int.one_mul,Int.toNat_natCast]
     by_cases h:1≤n∧n≤126
     ·rw [if_pos h,if_pos ⟨rfl,by omega,by omega⟩]
     ·rw [if_neg h,if_neg (by omega)]
/-- A name at a place, as both sides ask. -/
theorem pre_iff (s nm:ByteArray) (i:Nat) (hi:i≤s.size):((i+nm.size≤s.size)∧(s.extract i (i+nm.size)).toList=nm.toList) ↔ Lib.hasPrefix (s.data.toList.drop i) nm.data.toList=true:=by
 have hx:(s.extract i (i+nm.size)).toList=(s.data.toList.drop i).take nm.size:=by
  rw [ByteArray.toList_eq,ByteArray.data_extract,Array.toList_extract,List.extract_eq_take_drop,Nat.add_sub_cancel_left]
 have hn:nm.toList=nm.data.toList:=by rw [ByteArray.toList_eq]
 have hl:nm.data.toList.length=nm.size:=data_length nm
 rw [hx,hn]
 unfold Lib.hasPrefix
 rw [List.isPrefixOf_iff_prefix,List.prefix_iff_eq_take,hl]
 constructor
 ·rintro ⟨_,h⟩;exact h.symm
 ·intro h
  refine ⟨?_,h.symm⟩
  have h2:=congrArg List.length h
  rw [List.length_take,List.length_drop,hl,data_length] at h2
  omega
def NL:List ByteArray:=[(⟨#[38,97,109,112,59]⟩:ByteArray),(⟨#[38,108,116,59]⟩:ByteArray),(⟨#[38,103,116,59]⟩:ByteArray),(⟨#[38,113,117,111,116,59]⟩:ByteArray)]
theorem one_step (s:ByteArray) (hs:s.size≤1048576) (i:Nat) (hi:i<s.size) (j:Nat) (hj:j<4) (nm:ByteArray) (hnm:rdOf ByteArray.empty NL (j:Int)=nm) (h1:1≤nm.size) (h6:nm.size≤6) (r:Int × Int)
 (hit:Lib.hasPrefix (s.data.toList.drop i) nm.data.toList=true→(bt (⟨#[38,60,62,34]⟩:ByteArray) (j:Int),(nm.size:Int))=r)
 (miss:Lib.hasPrefix (s.data.toList.drop i) nm.data.toList=false→Ev (fun k=>spec_l02One.l0 k s i NL ((j+1:Nat):Int)) r):Ev (fun k=>spec_l02One.l0 k s i NL (j:Int)) r:=by
 have hp:=pre_iff s nm i (by omega)
 have hw:wrap64 ((j:Int)+1)=((j+1:Nat):Int):=Kit.wrap_nat hj (by omega)
 have hw2:wrap64 ((i:Int)+(nm.size:Int))=((i+nm.size:Nat):Int):=by rw [Kit.wrap_of (by omega) (by omega)];omega
 refine Ev.step (fun k=>rfl) (Kit.ev_pos (by show (j:Int)<4;omega) (Kit.ev_pos (by omega) ?_))
 rw [hnm,hw2,hw]
 refine Kit.ev_if (fun h=>?_) (fun h=>?_)
 ·refine Kit.ev_pos (by omega) (Kit.ev_pos (by omega) ?_)
  rw [Int.toNat_natCast,Int.toNat_natCast]
  refine Kit.ev_if (fun h2=>?_) (fun h2=>?_)
  ·rw [←hit (hp.1 ⟨by omega,h2⟩)]
   exact Kit.ev_pos (by omega) (Ev.now _)
  ·exact miss (Bool.eq_false_iff.2 fun h3=>h2 (hp.2 h3).2)
 ·exact miss (Bool.eq_false_iff.2 fun h3=>h (by have:=(hp.2 h3).1;omega))
theorem l01In_now2 (n a b:Int):spec_l01In.f n a b=some (decide (a≤n∧n≤b)):=by
 unfold spec_l01In.f
 by_cases h:n≥a
 ·rw [if_pos h];simp [h]
 ·rw [if_neg h];simp;omega
/-- The number's part of an escape. -/
def numPart (win:List UInt8):Int × Int:=match numE (Lib.cut win [59]).1 with
 | some n=>if (Lib.cut win [59]).2.2=true then ((n:Int),((Lib.cut win [59]).1.length:Int)+3) else (0,0)
 | none=>(0,0)
theorem numPart_not {win:List UInt8} (h:(Lib.cut win [59]).2.2=false):numPart win=(0,0):=by
 unfold numPart
 rw [h]
 split
 ·exact if_neg Bool.false_ne_true
 ·rfl
theorem numE_le {w:List UInt8} {n:Nat} (h:numE w=some n):1≤n∧n≤126:=by
 unfold numE at h
 split at h
 ·split at h
  ·rename_i hc
   have:=Option.some.inj h
   omega
  ·cases h
 ·cases h
theorem ev_window (s:ByteArray) (hs:s.size≤1048576) (i:Nat) (hi:i+2≤s.size):Ev (fun k=>spec_l02One.l1 k s i ((i+2:Nat):Int)) (numPart ((s.data.toList.drop (i+2)).take 4)):=by
 have hj3:∀ (x:Int) (b:Bool) (k:Nat),spec_l02One.j3 (k+1) s i x b=if b=true then (if 0≤x then (if x<(s.size:Int) then (if (bt s x)=59 then (if 0≤(wrap64 ((i:Int)+2)) then (if (wrap64 ((i:Int)+2))≤x then (if x≤(s.size:Int) then ((spec_l00Number.f k (s.extract ((wrap64 ((i:Int)+2)):Int).toNat (x:Int).toNat)).bind fun bt106=>(if bt106.2=true then ((spec_l01In.f bt106.1 1 126).bind fun t108=>(if t108=true then (some ((bt106.1) % 256,wrap64 ((wrap64 (x+1)) - (i:Int)))) else (some (0,0)))) else (some (0,0)))) else (none)) else (none)) else (none)) else (spec_l02One.l1 k s i (wrap64 (x+1)))) else (none)) else (none)) else (some (0,0)):=fun x b k=>by rw [spec_l02One.j3]
 have hwl:((s.data.toList.drop (i+2)).take 4).length=min 4 (s.size - (i+2)):=by rw [List.length_take,List.length_drop,data_length]
 have hat:∀ j,j<((s.data.toList.drop (i+2)).take 4).length→((s.data.toList.drop (i+2)).take 4)[j]? = s.data.toList[i+2+j]?:=fun j hj=>by rw [List.getElem?_take,if_pos (by omega),List.getElem?_drop]
 have htk:∀ m,m≤((s.data.toList.drop (i+2)).take 4).length→((s.data.toList.drop (i+2)).take 4).take m=(s.extract (i+2) (i+2+m)).data.toList:=fun m hm=>by
  rw [ByteArray.data_extract,Array.toList_extract,List.extract_eq_take_drop,List.take_take,Nat.min_eq_left (by omega),Nat.add_sub_cancel_left]
 generalize (s.data.toList.drop (i+2)).take 4=win at *
 have key:∀ m,m≤win.length→(∀ j,j<m→win[j]? ≠ some 59)→Ev (fun k=>spec_l02One.l1 k s i ((i+2+m:Nat):Int)) (numPart win):=by
  refine Kit.down ?_ ?_
  ·intro hn
   rw [numPart_not (cut_not 59 win hn)]
   refine Ev.step (fun k=>rfl) (Kit.ev_if (fun h=>?_) (fun h=>?_))
   ·refine Ev.step (hj3 _ _) (Kit.ev_neg ?_ (Ev.now _))
    rw [Kit.wrap_of (by omega) (by omega),decide_eq_true_iff]
    omega
   ·exact Ev.step (hj3 _ _) (Kit.ev_neg Bool.false_ne_true (Ev.now _))
  ·intro m hm ih hn
   obtain ⟨b,hb,hbt⟩:=byte_at3 s (i+2+m) (by omega)
   have hw2:wrap64 ((i:Int)+2)=((i+2:Nat):Int):=by rw [Kit.wrap_of (by omega) (by omega)];omega
   have hw6:wrap64 ((i:Int)+6)=(i:Int)+6:=Kit.wrap_of (by omega) (by omega)
   have hw1:wrap64 (((i+2+m:Nat):Int)+1)=((i+2+(m+1):Nat):Int):=by rw [Kit.wrap_of (by omega) (by omega)];omega
   refine Ev.step (fun k=>rfl) (Kit.ev_pos (by omega) (Ev.step (hj3 _ _) (Kit.ev_pos (by rw [hw6,decide_eq_true_iff];omega) (Kit.ev_pos (by omega) (Kit.ev_pos (by omega) ?_)))))
   rw [hbt,hw2,hw1]
   refine Kit.ev_if (fun h=>?_) (fun h=>?_)
   ·have hb59:b=59:=UInt8.toNat_inj.1 (by show b.toNat=59;omega)
    obtain ⟨hc1,hc2⟩:=cut_at 59 win m (by rw [hat m hm,hb,hb59]) hn
    rw [htk m (by omega)] at hc1
    refine Kit.ev_pos (by omega) (Kit.ev_pos (by omega) (Kit.ev_pos (by omega) ?_))
    rw [Int.toNat_natCast,Int.toNat_natCast]
    have hxs:(s.extract (i+2) (i+2+m)).size=m:=by rw [ByteArray.size_extract];omega
    obtain ⟨p,hp,hpe⟩:=ev_number (s.extract (i+2) (i+2+m)) (by omega)
    have hlen:((s.extract (i+2) (i+2+m)).data.toList).length=m:=by rw [data_length,hxs]
    refine Ev.bind hp ?_
    have hres:numPart win=if p.2=true∧1≤p.1∧p.1≤126 then (p.1,(m:Int)+3) else (0,0):=by
     unfold numPart
     rw [hc1,hc2,←hpe,hlen]
     by_cases h:p.2=true∧1≤p.1∧p.1≤126
     ·rw [if_pos h,if_pos h]
      show (if true=true then (((p.1.toNat:Nat):Int),(m:Int)+3) else (0,0))=_
      rw [if_pos rfl,Int.toNat_of_nonneg (by omega)]
     ·rw [if_neg h,if_neg h]
    rw [hres]
    refine Kit.ev_if (fun h2=>?_) (fun h2=>?_)
    ·refine Kit.ev_some (l01In_now2 _ _ _) (Kit.ev_if (fun h3=>?_) (fun h3=>?_))
     ·have h4:=of_decide_eq_true h3
      rw [if_pos ⟨h2,h4.1,h4.2⟩,Int.emod_eq_of_lt (by omega) (by omega)]
      have:wrap64 (((i+2+(m+1):Nat):Int) - (i:Int))=(m:Int)+3:=by rw [Kit.wrap_of (by omega) (by omega)];omega
      rw [this]
      exact Ev.now _
     ·rw [if_neg (fun h4=>h3 (decide_eq_true ⟨h4.2.1,h4.2.2⟩))]
      exact Ev.now _
    ·rw [if_neg (fun h4=>h2 h4.1)]
     exact Ev.now _
   ·refine ih fun j hj=>?_
    by_cases e:j=m
    ·subst e
     rw [hat j hm,hb]
     intro e
     have:=Option.some.inj e
     subst this
     exact h rfl
    ·exact hn j (by omega)
 exact key 0 (Nat.zero_le _) (fun j hj=>absurd hj (Nat.not_lt_zero _))
theorem numPart_short (win:List UInt8) (h:win.length≤1):numPart win=(0,0):=by
 match win,h with
 | [],_=>rfl
 | [b],_ =>
  by_cases e:b=59
  ·subst e;rfl
  ·exact numPart_not (cut_not 59 [b] (fun j hj=>by
    have:j=0:=by simpa using hj
    subst this
    simpa using e))
theorem numPart_le (win:List UInt8) (h:win.length≤4):0≤(numPart win).2∧(numPart win).2≤7:=by
 have h1:=cut_len win 59
 unfold numPart
 split
 ·split
  ·show 0≤((Lib.cut win [59]).1.length:Int)+3∧((Lib.cut win [59]).1.length:Int)+3≤7
   omega
  ·exact ⟨by decide,by decide⟩
 ·exact ⟨by decide,by decide⟩
theorem escOf_eq (t:List UInt8):escOf t=if Lib.hasPrefix t [38,97,109,112,59]=true then (38,5) else if Lib.hasPrefix t [38,108,116,59]=true then (60,4) else if Lib.hasPrefix t [38,103,116,59]=true then (62,4) else if Lib.hasPrefix t [38,113,117,111,116,59]=true then (34,6) else if Lib.hasPrefix t [38,35]=true then numPart ((t.drop 2).take 4) else (0,0):=rfl
theorem escOf_le (t:List UInt8):0≤(escOf t).2∧(escOf t).2≤7:=by
 rw [escOf_eq]
 have h:=numPart_le ((t.drop 2).take 4) (by rw [List.length_take];omega)
 split
 ·exact ⟨by decide,by decide⟩
 ·split
  ·exact ⟨by decide,by decide⟩
  ·split
   ·exact ⟨by decide,by decide⟩
   ·split
    ·exact ⟨by decide,by decide⟩
    ·split
     ·exact h
     ·exact ⟨by decide,by decide⟩
theorem escOf_other {t:List UInt8} {b:UInt8} (h:t[0]? = some b) (hb:b≠38):escOf t=(0,0):=by
 obtain ⟨r,rfl⟩:∃ r,t=b :: r:=by
  cases t with
  | nil=>simp at h
  | cons a r=>exact ⟨r,by rw [show a=b by simpa using h]⟩
 have hp:∀ l:List UInt8,Lib.hasPrefix (b :: r) (38 :: l)=false:=fun l=>by
  unfold Lib.hasPrefix
  rw [List.isPrefixOf_cons_cons,beq_eq_false_iff_ne.2 (fun e:(38:UInt8)=b=>hb e.symm),Bool.false_and]
 rw [escOf_eq]
 simp only [hp,Bool.false_eq_true,if_false]
theorem ev_l02One (s:ByteArray) (hs:s.size≤1048576) (i:Nat) (hi:i<s.size) (hb:s.data.toList[i]? = some 38):Ev (fun k=>spec_l02One.f k s i) (escOf (s.data.toList.drop i)):=by
 have hdd:(s.data.toList.drop i).drop 2=s.data.toList.drop (i+2):=by rw [List.drop_drop]
 have he:=escOf_eq (s.data.toList.drop i)
 have hjj:∀ (b:Bool) (k:Nat),spec_l02One.j1 (k+1) s i b=if b=true then (some (0,0)) else (spec_l02One.l1 k s i (wrap64 ((i:Int)+2))):=fun b k=>by rw [spec_l02One.j1]
 show Ev (fun k=>spec_l02One.l0 k s i NL ((0:Nat):Int)) _
 refine one_step s hs i hi 0 (by omega) ⟨#[38,97,109,112,59]⟩ rfl (by decide) (by decide) _ (fun (h:Lib.hasPrefix (s.data.toList.drop i) [38,97,109,112,59]=true)=>?_) (fun (h0:Lib.hasPrefix (s.data.toList.drop i) [38,97,109,112,59]=false)=>?_)
 ·rw [he,if_pos h];rfl
 rw [if_neg (Bool.eq_false_iff.1 h0)] at he
 refine one_step s hs i hi 1 (by omega) ⟨#[38,108,116,59]⟩ rfl (by decide) (by decide) _ (fun (h:Lib.hasPrefix (s.data.toList.drop i) [38,108,116,59]=true)=>?_) (fun (h1:Lib.hasPrefix (s.data.toList.drop i) [38,108,116,59]=false)=>?_)
 ·rw [he,if_pos h];rfl
 rw [if_neg (Bool.eq_false_iff.1 h1)] at he
 refine one_step s hs i hi 2 (by omega) ⟨#[38,103,116,59]⟩ rfl (by decide) (by decide) _ (fun (h:Lib.hasPrefix (s.data.toList.drop i) [38,103,116,59]=true)=>?_) (fun (h2:Lib.hasPrefix (s.data.toList.drop i) [38,103,116,59]=false)=>?_)
 ·rw [he,if_pos h];rfl
 rw [if_neg (Bool.eq_false_iff.1 h2)] at he
 refine one_step s hs i hi 3 (by omega) ⟨#[38,113,117,111,116,59]⟩ rfl (by decide) (by decide) _ (fun (h:Lib.hasPrefix (s.data.toList.drop i) [38,113,117,111,116,59]=true)=>?_) (fun (h3:Lib.hasPrefix (s.data.toList.drop i) [38,113,117,111,116,59]=false)=>?_)
 ·rw [he,if_pos h];rfl
 rw [if_neg (Bool.eq_false_iff.1 h3),hdd] at he
 rw [he]
 have hw3:wrap64 ((i:Int)+3)=(i:Int)+3:=Kit.wrap_of (by omega) (by omega)
 have hw1:wrap64 ((i:Int)+1)=((i+1:Nat):Int):=Kit.wrap_nat hi (by omega)
 have hw2:wrap64 ((i:Int)+2)=((i+2:Nat):Int):=by rw [Kit.wrap_of (by omega) (by omega)];omega
 refine Ev.step (fun k=>rfl) (Kit.ev_neg (by show ¬ ((3+1:Nat):Int)<4;omega) ?_)
 rw [hw3,hw1]
 refine Kit.ev_if (fun h=>?_) (fun h=>?_)
 ·have:numPart ((s.data.toList.drop (i+2)).take 4)=(0,0):=numPart_short _ (by rw [List.length_take,List.length_drop,data_length];omega)
  rw [this,ite_self]
  exact Ev.step (hjj true) (Kit.ev_pos rfl (Ev.now _))
 ·obtain ⟨c,hc,hct⟩:=byte_at3 s (i+1) (by omega)
  refine Kit.ev_pos (by omega) (Kit.ev_pos (by omega) (Ev.step (hjj _) ?_))
  rw [hct,hw2]
  have hp:Lib.hasPrefix (s.data.toList.drop i) [38,35]=(35 == c):=by
   rw [drop_at hb,drop_at hc]
   unfold Lib.hasPrefix
   rw [List.isPrefixOf_cons_cons,List.isPrefixOf_cons_cons]
   simp
  rw [hp]
  by_cases e:c=35
  ·subst e
   rw [if_pos (by rfl)]
   exact Kit.ev_neg (by decide) (ev_window s hs i (by omega))
  ·rw [if_neg (by rw [beq_iff_eq];exact fun h=>e h.symm)]
   refine Kit.ev_pos (bne_iff_ne.2 fun h=>e (UInt8.toNat_inj.1 (by show c.toNat=35;omega))) (Ev.now _)
/-- Both sides come to one text. -/
theorem un_both (s:ByteArray) (hs:s.size≤1048576):∃ r,Ev (fun k=>impl_unescape.f k s) r∧Ev (fun k=>spec_l02Un.f k s) r:=by
 have key:∀ d i:Nat,s.size≤i+d→i≤1048600→∀ out:List Int,out.length≤i→∃ r,Ev (fun k=>impl_unescape.l0 k s out (i:Int)) r∧Ev (fun k=>spec_l02Un.l0 k s out (i:Int)) r:=by
  have fin:∀ i:Nat,s.size≤i→∀ out:List Int,∃ r,Ev (fun k=>impl_unescape.l0 k s out (i:Int)) r∧Ev (fun k=>spec_l02Un.l0 k s out (i:Int)) r:=fun i hi out =>
   ⟨strOfNums out,Ev.step (fun k=>rfl) (Kit.ev_neg (by omega) (Ev.now _)),Ev.step (fun k=>rfl) (Kit.ev_neg (by omega) (Ev.now _))⟩
  intro d
  induction d with
  | zero=>intro i h1 _ out _;exact fin i (by omega) out
  | succ d ih =>
   intro i h1 h2 out ho
   by_cases hi:i<s.size
   case neg=>exact fin i (by omega) out
   case pos =>
    obtain ⟨b,hb,hbt⟩:=byte_at3 s i hi
    have hx:(s.extract i s.size).data.toList=s.data.toList.drop i:=by rw [ByteArray.data_extract,Array.toList_extract,List.extract_eq_take_drop,List.take_of_length_le (by rw [List.length_drop,data_length];omega)]
    have hE:impl_escape.f (s.extract i s.size)=some (escOf (s.data.toList.drop i)):=by
     unfold impl_escape.f
     rw [if_pos (by rw [ByteArray.size_extract];omega),hx]
    have hle:=escOf_le (s.data.toList.drop i)
    have hw:wrap64 ((i:Int)+1)=((i+1:Nat):Int):=Kit.wrap_nat hi (by omega)
    have himp:∀ r,((0<(escOf (s.data.toList.drop i)).2→Ev (fun k=>impl_unescape.l0 k s (out++[(escOf (s.data.toList.drop i)).1]) (wrap64 ((i:Int)+(escOf (s.data.toList.drop i)).2))) r)∧(¬ 0<(escOf (s.data.toList.drop i)).2→Ev (fun k=>impl_unescape.l0 k s (out++[bt s (i:Int)]) ((i+1:Nat):Int)) r))→Ev (fun k=>impl_unescape.l0 k s out (i:Int)) r:=by
     intro r hr
     refine Ev.step (fun k=>rfl) (Kit.ev_pos (by omega) (Kit.ev_pos (by omega) (Kit.ev_pos (by omega) ?_)))
     rw [Int.toNat_natCast,hw]
     exact Kit.ev_some hE (Kit.ev_if (fun h=>Kit.ev_pos (by omega) (hr.1 h)) (fun h=>Kit.ev_pos (by omega) (hr.2 h)))
    by_cases h38:b=38
    ·subst h38
     have hO:=ev_l02One s hs i hi hb
     by_cases hp:0<(escOf (s.data.toList.drop i)).2
     ·obtain ⟨n,hn⟩:∃ n:Nat,(escOf (s.data.toList.drop i)).2=(n:Int):=⟨(escOf (s.data.toList.drop i)).2.toNat,by omega⟩
      have hwn:wrap64 ((i:Int)+(n:Int))=((i+n:Nat):Int):=by rw [Kit.wrap_of (by omega) (by omega)];omega
      obtain ⟨r,r1,r2⟩:∃ r,Ev (fun k=>impl_unescape.l0 k s (out++[(escOf (s.data.toList.drop i)).1]) ((i+n:Nat):Int)) r∧Ev (fun k=>spec_l02Un.l0 k s (out++[(escOf (s.data.toList.drop i)).1]) ((i+n:Nat):Int)) r:=by
       by_cases hin:i+n≤1048600
       ·exact ih (i+n) (by omega) hin _ (by rw [List.length_append,List.length_singleton];omega)
       ·exact fin (i+n) (by omega) _
      refine ⟨r,himp r ⟨fun _=>by rw [hn,hwn];exact r1,fun h=>absurd hp h⟩,?_⟩
      refine Ev.step (fun k=>rfl) (Kit.ev_pos (by omega) (Kit.ev_pos (by omega) ?_))
      rw [hbt]
      refine Kit.ev_pos (by rfl) (Ev.bind hO (Kit.ev_pos hp (Kit.ev_pos (by omega) ?_)))
      rw [hn,hwn]
      exact r2
     ·obtain ⟨r,r1,r2⟩:=ih (i+1) (by omega) (by omega) (out++[bt s (i:Int)]) (by rw [List.length_append,List.length_singleton];omega)
      refine ⟨r,himp r ⟨fun h=>absurd h hp,fun _=>r1⟩,?_⟩
      refine Ev.step (fun k=>rfl) (Kit.ev_pos (by omega) (Kit.ev_pos (by omega) ?_))
      rw [hw]
      exact Kit.ev_pos (by rw [hbt];rfl) (Ev.bind hO (Kit.ev_neg hp (Kit.ev_pos (by omega) r2)))
    ·have hz:escOf (s.data.toList.drop i)=(0,0):=escOf_other (by rw [List.getElem?_drop];exact hb) h38
     obtain ⟨r,r1,r2⟩:=ih (i+1) (by omega) (by omega) (out++[bt s (i:Int)]) (by rw [List.length_append,List.length_singleton];omega)
     refine ⟨r,himp r ⟨fun h=>absurd h (by rw [hz];decide),fun _=>r1⟩,?_⟩
     refine Ev.step (fun k=>rfl) (Kit.ev_pos (by omega) (Kit.ev_pos (by omega) ?_))
     rw [hw]
     exact Kit.ev_neg (by rw [hbt];exact fun h=>h38 (UInt8.toNat_inj.1 (by show b.toNat=38;omega))) (Kit.ev_pos (by omega) r2)
 obtain ⟨r,r1,r2⟩:=key s.size 0 (by omega) (by omega) [] (Nat.le_refl _)
 exact ⟨r,r1,r2⟩
/- Where a text's bytes first meet a test. -/
def scan (p:UInt8→Bool) (l:List UInt8) (i:Nat):Nat:=i+((l.drop i).takeWhile fun b=>!p b).length
theorem scan_end {p:UInt8→Bool} {l:List UInt8} {i:Nat} (h:l.length≤i):scan p l i=i:=by
 unfold scan
 rw [List.drop_eq_nil_of_le h]
 rfl
theorem scan_hit {p:UInt8→Bool} {l:List UInt8} {i:Nat} {b:UInt8} (hb:l[i]? = some b) (h:p b=true):scan p l i=i:=by
 unfold scan
 rw [drop_at hb,List.takeWhile_cons,h]
 rfl
theorem scan_miss {p:UInt8→Bool} {l:List UInt8} {i:Nat} {b:UInt8} (hb:l[i]? = some b) (h:p b=false):scan p l i=scan p l (i+1):=by
 unfold scan
 rw [drop_at hb,List.takeWhile_cons,h]
 simp only [Bool.not_false,if_true,List.length_cons]
 omega
theorem scan_ge (p:UInt8→Bool) (l:List UInt8) (i:Nat):i≤scan p l i:=Nat.le_add_right _ _
theorem scan_le (p:UInt8→Bool) {l:List UInt8} {i:Nat} (h:i≤l.length):scan p l i≤l.length:=by
 unfold scan
 have h1:=(List.takeWhile_prefix (l:=l.drop i) (fun b=>!p b)).length_le
 rw [List.length_drop] at h1
 omega
theorem scan_rec {p:UInt8→Bool} {l:List UInt8} {M:Nat→Prop} (hend:∀ i,l.length≤i→M i) (hhit:∀ i b,l[i]? = some b→p b=true→M i) (hmiss:∀ i b,l[i]? = some b→p b=false→M (i+1)→M i):∀ i,M i:=by
 have key:∀ d i,l.length≤i+d→M i:=by
  intro d
  induction d with
  | zero=>intro i h;exact hend i (by omega)
  | succ d ih =>
   intro i h
   by_cases hi:l.length≤i
   ·exact hend i hi
   ·have hb:l[i]? = some (l[i]'(by omega)):=List.getElem?_eq_getElem (by omega)
    cases hp:p (l[i]'(by omega)) with
    | true=>exact hhit i _ hb hp
    | false=>exact hmiss i _ hb hp (ih (i+1) (by omega))
 exact fun i=>key l.length i (Nat.le_add_left _ _)
theorem scan_not (p:UInt8→Bool) (l:List UInt8):∀ i j,i≤j→j<scan p l i→∃ b,l[j]? = some b∧p b=false:=by
 refine scan_rec (p:=p) (l:=l) ?_ ?_ ?_
 ·intro i h j h1 h2;rw [scan_end h] at h2;omega
 ·intro i b hb hp j h1 h2;rw [scan_hit hb hp] at h2;omega
 ·intro i b hb hp ih j h1 h2
  rw [scan_miss hb hp] at h2
  by_cases e:j=i
  ·subst e;exact ⟨b,hb,hp⟩
  ·exact ih j (by omega) h2
theorem scan_at (p:UInt8→Bool) (l:List UInt8):∀ i,scan p l i<l.length→∃ b,l[scan p l i]? = some b∧p b=true:=by
 refine scan_rec (p:=p) (l:=l) ?_ ?_ ?_
 ·intro i h h2;rw [scan_end h] at h2;omega
 ·intro i b hb hp h2;rw [scan_hit hb hp];exact ⟨b,hb,hp⟩
 ·intro i b hb hp ih h2;rw [scan_miss hb hp] at h2 ⊢;exact ih h2
theorem scan_skip (p:UInt8→Bool) (l:List UInt8) (e:Nat):∀ i,i≤e→(∀ j,i≤j→j<e→∃ b,l[j]? = some b∧p b=false)→scan p l i=scan p l e:=by
 have key:∀ d i,i+d=e→(∀ j,i≤j→j<e→∃ b,l[j]? = some b∧p b=false)→scan p l i=scan p l e:=by
  intro d
  induction d with
  | zero=>intro i h _;rw [show i=e by omega]
  | succ d ih =>
   intro i h hn
   obtain ⟨b,hb,hp⟩:=hn i (Nat.le_refl _) (by omega)
   rw [scan_miss hb hp]
   exact ih (i+1) (by omega) (fun j h1 h2=>hn j (by omega) h2)
 exact fun i hi hn=>key (e - i) i (by omega) hn
/-- A loop that steps over bytes that do not meet the test. -/
theorem ev_scan {α : Type} (s:ByteArray) (p:UInt8→Bool) (i0:Nat) {L:Nat→Int→Option α} {r : α}
 (step:∀ i b,i0≤i→i<s.size→bt s (i:Int)=(b.toNat:Int)→s.data.toList[i]? = some b→p b=false→Ev (fun k=>L k ((i+1:Nat):Int)) r→Ev (fun k=>L k (i:Int)) r)
 (last:Ev (fun k=>L k ((scan p s.data.toList i0:Nat):Int)) r):Ev (fun k=>L k (i0:Int)) r:=by
 have key:∀ d i,i0≤i→i+d=scan p s.data.toList i0→Ev (fun k=>L k (i:Int)) r:=by
  intro d
  induction d with
  | zero=>intro i _ h;rw [show i=scan p s.data.toList i0 by omega];exact last
  | succ d ih =>
   intro i h0 h
   obtain ⟨b,hb,hp⟩:=scan_not p s.data.toList i0 i h0 (by omega)
   have hi:i<s.size:=by have:=(List.getElem?_eq_some_iff.1 hb).1;rwa [data_length] at this
   obtain ⟨c,hc,hbt⟩:=byte_at3 s i hi
   obtain rfl:b=c:=by rw [hb] at hc;exact Option.some.inj hc
   exact step i b h0 hi hbt hb hp (ih (i+1) (by omega) (by omega))
 exact key (scan p s.data.toList i0 - i0) i0 (Nat.le_refl _) (by have:=scan_ge p s.data.toList i0;omega)
/-- Where a scan ends: at the end, or at a byte that meets the test. -/
theorem scan_last (s:ByteArray) (p:UInt8→Bool) (i:Nat) (hi:i≤s.size):i≤scan p s.data.toList i∧scan p s.data.toList i≤s.size∧(scan p s.data.toList i=s.size∨(scan p s.data.toList i<s.size∧Aside0 (∃ b,s.data.toList[scan p s.data.toList i]? = some b∧bt s ((scan p s.data.toList i:Nat):Int)=(b.toNat:Int)∧p b=true))):=by
 have h1:=scan_ge p s.data.toList i
 have h2:=scan_le p (l:=s.data.toList) (i:=i) (by rw [data_length];exact hi)
 rw [data_length] at h2
 refine ⟨h1,h2,?_⟩
 by_cases e:scan p s.data.toList i=s.size
 ·exact .inl e
 ·obtain ⟨b,hb,hp⟩:=scan_at p s.data.toList i (by rw [data_length];omega)
  obtain ⟨c,hc,hbt⟩:=byte_at3 s (scan p s.data.toList i) (by omega)
  obtain rfl:b=c:=by rw [hb] at hc;exact Option.some.inj hc
  exact .inr ⟨by omega,⟨b,hb,hbt,hp⟩⟩
def inS (S:ByteArray) (b:UInt8):Bool:=S.data.toList.contains b
def notS (S:ByteArray) (b:UInt8):Bool:=!inS S b
theorem ixb (S:ByteArray) (b:UInt8):strings_IndexByte.f S (b.toNat:Int)=some (Lib.indexByte S.data.toList b):=by
 have h:=b.toNat_lt
 unfold strings_IndexByte.f
 rw [if_pos (show 0≤(b.toNat:Int)∧(b.toNat:Int)<256 from ⟨by omega,by omega⟩),Int.toNat_natCast]
 simp
theorem ix_iff (b:UInt8):∀ l:List UInt8,0≤Lib.indexByte l b ↔ l.contains b=true
 | []=>by simp [Lib.indexByte]
 | a :: l=>by
  have ih:=ix_iff b l
  have hg:=Lib.indexByte_ge l b
  unfold Lib.indexByte
  rw [List.contains_cons]
  by_cases e:a=b
  ·subst e;simp
  ·rw [if_neg (by simpa using e)]
   have e2:(b == a)=false:=beq_eq_false_iff_ne.2 (fun h=>e h.symm)
   rw [e2,Bool.false_or,←ih]
   split
   ·rename_i h;have:=beq_iff_eq.1 h;omega
   ·rename_i h
    have h2:Lib.indexByte l b ≠ -1:=fun e=>h (beq_iff_eq.2 e)
    omega
theorem inS_ge (S:ByteArray) (b:UInt8):0≤Lib.indexByte S.data.toList b ↔ inS S b=true:=ix_iff b _
theorem ev_upTo (s S:ByteArray) (hs:s.size≤1048576) (i:Nat) (hi:i≤s.size):Ev (fun k=>impl_upTo.f k s (i:Int) S) ((scan (inS S) s.data.toList i:Nat):Int):=by
 refine ev_scan s (inS S) i (L:=fun k x=>impl_upTo.l0 k s x S) ?_ ?_
 ·intro j b _ hj hbt _ hp h
  refine Ev.step (fun k=>rfl) (Kit.ev_pos (by omega) (Kit.ev_pos (by omega) ?_))
  rw [hbt,Kit.wrap_nat hj (by omega)]
  exact Kit.ev_some (ixb S b) (Kit.ev_pos (by have:=mt (inS_ge S b).1 (by rw [hp];exact Bool.false_ne_true);omega) h)
 ·obtain ⟨_,h2,h3|⟨h3,⟨⟨b,_,hbt,hp⟩⟩⟩⟩:=scan_last s (inS S) i hi
  ·exact Ev.step (fun k=>rfl) (Kit.ev_neg (by omega) (Ev.now _))
  ·refine Ev.step (fun k=>rfl) (Kit.ev_pos (by omega) (Kit.ev_pos (by omega) ?_))
   rw [hbt]
   exact Kit.ev_some (ixb S b) (Kit.ev_neg (by have:=(inS_ge S b).2 hp;omega) (Ev.now _))
theorem ev_past (s S:ByteArray) (hs:s.size≤1048576) (i:Nat) (hi:i≤s.size):Ev (fun k=>impl_past.f k s (i:Int) S) ((scan (notS S) s.data.toList i:Nat):Int):=by
 refine ev_scan s (notS S) i (L:=fun k x=>impl_past.l0 k s x S) ?_ ?_
 ·intro j b _ hj hbt _ hp h
  have hp2:inS S b=true:=by unfold notS at hp;simpa using hp
  refine Ev.step (fun k=>rfl) (Kit.ev_pos (by omega) (Kit.ev_pos (by omega) ?_))
  rw [hbt,Kit.wrap_nat hj (by omega)]
  exact Kit.ev_some (ixb S b) (Kit.ev_pos ((inS_ge S b).2 hp2) h)
 ·obtain ⟨_,h2,h3|⟨h3,⟨⟨b,_,hbt,hp⟩⟩⟩⟩:=scan_last s (notS S) i hi
  ·exact Ev.step (fun k=>rfl) (Kit.ev_neg (by omega) (Ev.now _))
  ·have hp2:inS S b=false:=by unfold notS at hp;simpa using hp
   refine Ev.step (fun k=>rfl) (Kit.ev_pos (by omega) (Kit.ev_pos (by omega) ?_))
   rw [hbt]
   exact Kit.ev_some (ixb S b) (Kit.ev_neg (by have:=mt (inS_ge S b).1 (by rw [hp2];exact Bool.false_ne_true);omega) (Ev.now _))
def blankS:ByteArray:=⟨#[32,9,10,12,13]⟩
def blankB (b:UInt8):Bool:=inS blankS b
theorem all_bytes {P:UInt8→Prop} (h:∀ n:Fin 256,P (UInt8.ofNat n.val)) (b:UInt8):P b:=by
 have h1:=h ⟨b.toNat,b.toNat_lt⟩
 simpa using h1
theorem spec_blank (b:UInt8):spec_l04Blank.f (b.toNat:Int)=some (blankB b):=all_bytes (P:=fun b=>spec_l04Blank.f (b.toNat:Int)=some (blankB b)) (by decide +kernel) b
theorem impl_blank (b:UInt8):impl_isBlank.f (b.toNat:Int)=some (blankB b):=by
 unfold impl_isBlank.f
 have h:=ixb blankS b
 unfold blankS at h
 rw [h,Option.bind_some]
 refine congrArg some ?_
 rw [Bool.eq_iff_iff,decide_eq_true_iff]
 exact inS_ge blankS b
set_option maxRecDepth 100000 in
theorem letters (b:UInt8):∃ r,impl_isLetter.f (b.toNat:Int)=some r∧spec_l04Letter.f (b.toNat:Int)=some r:=by
 have h:=all_bytes (P:=fun b=>impl_isLetter.f (b.toNat:Int)=spec_l04Letter.f (b.toNat:Int)∧(spec_l04Letter.f (b.toNat:Int)).isSome=true) (by decide +kernel) b
 obtain ⟨r,hr⟩:=Option.isSome_iff_exists.1 h.2
 exact ⟨r,h.1.trans hr,hr⟩
theorem in7 (b:UInt8):inS ⟨#[32,9,10,12,13,47,62]⟩ b=(blankB b || b == 47 || b == 62):=all_bytes (P:=fun b=>inS ⟨#[32,9,10,12,13,47,62]⟩ b=(blankB b || b == 47 || b == 62)) (by decide +kernel) b
theorem in8 (b:UInt8):inS ⟨#[32,9,10,12,13,47,62,61]⟩ b=(blankB b || b == 47 || b == 62 || b == 61):=all_bytes (P:=fun b=>inS ⟨#[32,9,10,12,13,47,62,61]⟩ b=(blankB b || b == 47 || b == 62 || b == 61)) (by decide +kernel) b
theorem in6 (b:UInt8):inS ⟨#[32,9,10,12,13,47]⟩ b=(blankB b || b == 47):=all_bytes (P:=fun b=>inS ⟨#[32,9,10,12,13,47]⟩ b=(blankB b || b == 47)) (by decide +kernel) b
theorem in6b (b:UInt8):inS ⟨#[32,9,10,12,13,62]⟩ b=(blankB b || b == 62):=all_bytes (P:=fun b=>inS ⟨#[32,9,10,12,13,62]⟩ b=(blankB b || b == 62)) (by decide +kernel) b
theorem in1 (c b:UInt8):inS ⟨#[c]⟩ b=(b == c):=by
 unfold inS
 rw [Bool.eq_iff_iff]
 simp
theorem num_iff (b c:UInt8):(b.toNat:Int)=(c.toNat:Int) ↔ b=c:=⟨fun h=>UInt8.toNat_inj.1 (by omega),fun h=>by rw [h]⟩
theorem ev_l01Lower (s:ByteArray) (hn:s.size≤140737488351232):Ev (fun k=>spec_l01Lower.f k s) (lowS s):=by
 have key:∀ i:Nat,i≤s.size→∀ acc:List Int,acc=((bytesOf s).take i).map lowC→Ev (fun k=>spec_l01Lower.l0 k s acc i) (lowS s):=by
  refine Kit.down ?_ ?_
  ·intro acc ha
   refine Ev.step (fun k=>rfl) (Kit.ev_neg (by omega) (Kit.ev_const ?_))
   rw [ha,List.take_of_length_le (by rw [bytesOf_length];exact Nat.le_refl _),←lowS_bytes,Kit.strOf_bytesOf]
  ·intro i hi ih acc ha
   have hl:acc.length<140737488355328:=by
    rw [ha,List.length_map,List.length_take,bytesOf_length];omega
   have hnext:∀ x,x=lowC (bt s (i:Int))→Ev (fun k=>if acc.length<140737488355328 then spec_l01Lower.l0 k s (acc++[x]) (wrap64 ((i:Int)+1)) else none) (lowS s):=by
    intro x hx
    refine Kit.ev_pos hl ?_
    rw [Kit.wrap_nat hi (by omega)]
    refine ih _ ?_
    rw [ha,hx,←List.map_singleton,←List.map_append,List.take_add_one,Kit.bt_rd]
    have:i<(bytesOf s).length:=by rw [bytesOf_length];exact hi
    simp [List.getD,this]
   have hb:=bt_range s (i:Int)
   refine Ev.step (fun k=>rfl) (Kit.ev_pos (by omega) (Kit.ev_pos (by omega) ?_))
   refine Kit.ev_if (fun h1=>Kit.ev_if (fun h2=>hnext _ ?_) (fun h2=>hnext _ ?_)) (fun h1=>hnext _ ?_)
   ·unfold lowC;rw [if_pos ⟨h1,h2⟩];omega
   ·unfold lowC;rw [if_neg (by omega)]
   ·unfold lowC;rw [if_neg (by omega)]
 exact key 0 (by omega) [] (by simp)
/- What a tree is. -/
theorem rdA2_nat (xs:List S52) (i:Nat):rd_T52 xs (i:Int)=xs.getD i z52:=by simp [rd_T52]
theorem ev_l03Attrs (l:List S52) (hs:∀ a∈l,a.f0.size≤9223372036854775807) (hn:l.length≤9223372036854775807):Ev (fun k=>spec_l03Attrs.f k l) (attrsOK l):=by
 unfold spec_l03Attrs.f
 refine Kit.ev_if (fun h=>?_) (fun h=>?_)
 case refine_1 =>
  have:attrsOK l=false:=by unfold attrsOK;rw [decide_eq_false (by omega),Bool.and_false]
  rw [this]
  exact Ev.now _
 case refine_2 =>
  have key:∀ i,i≤l.length→(∀ j,j<i→attrAt l j=true)→Ev (fun k=>spec_l03Attrs.l0 k l i) (attrsOK l):=by
   refine Kit.down ?_ ?_
   case refine_1 =>
    intro hb
    have:attrsOK l=true:=by unfold attrsOK;rw [(Kit.allB_iff _ _ _).2 fun j _ hj=>hb j hj,decide_eq_true (by omega)];rfl
    rw [this]
    exact Ev.step (fun k=>rfl) (Kit.ev_neg (by omega) (Ev.now _))
   case refine_2 =>
    intro i hi ih hb
    have no:attrAt l i=false→attrsOK l=false:=by
     intro h2
     unfold attrsOK
     rw [Bool.and_eq_false_iff]
     refine .inl (Bool.eq_false_iff.2 fun h3=>?_)
     rw [(Kit.allB_iff _ _ _).1 h3 i (Nat.zero_le _) hi] at h2
     cases h2
    refine Ev.step (fun k=>rfl) (Kit.ev_pos (by omega) (Kit.ev_pos (by omega) ?_))
    rw [rdA2_nat]
    have ht:=ev_tag_spec (l.getD i z52).f0 (hs _ (Kit.getD_mem _ hi))
    have hj:∀ (b:Bool) (k:Nat),spec_l03Attrs.j1 (k+1) l i b=if b=true then (some false) else (spec_l03Attrs.l1 k l i 0):=fun b k=>by rw [spec_l03Attrs.j1]
    have hat:attrAt l i=((Kit.isTag (l.getD i z52).f0 && decide ((l.getD i z52).f1.size≤40)) && !Mach.anyP (nameAs l i) i):=rfl
    refine Ev.bind ht ?_
    cases hb1:Kit.isTag (l.getD i z52).f0 with
    | false =>
     rw [no (by rw [hat,hb1,Bool.false_and,Bool.false_and])]
     exact Kit.ev_neg Bool.false_ne_true (Ev.step (hj true) (Kit.ev_pos rfl (Ev.now _)))
    | true =>
     refine Kit.ev_pos rfl (Ev.step (hj _) ?_)
     by_cases hv:((l.getD i z52).f1.size:Int)>40
     case pos =>
      rw [no (by rw [hat,decide_eq_false (by omega),Bool.and_false,Bool.false_and])]
      exact Kit.ev_pos (decide_eq_true hv) (Ev.now _)
     case neg =>
      refine Kit.ev_neg (by simpa using hv) ?_
      have key2:∀ m,m≤i→(∀ j,j<m→nameAs l i j=false)→Ev (fun k=>spec_l03Attrs.l1 k l i m) (attrsOK l):=by
       refine Kit.down ?_ ?_
       case refine_1 =>
        intro hc
        refine Ev.step (fun k=>rfl) (Kit.ev_neg (by omega) ?_)
        rw [Kit.wrap_nat hi hn]
        refine ih fun j hj=>?_
        by_cases e:j=i
        case pos =>
         subst e
         have:Mach.anyP (nameAs l j) j=false:=Bool.eq_false_iff.2 fun h5=>by
          obtain ⟨q,hq,h6⟩:=(Mach.anyP_iff _ _).1 h5
          rw [hc q hq] at h6
          cases h6
         rw [hat,hb1,this,decide_eq_true (by omega)]
         rfl
        case neg=>exact hb j (by omega)
       case refine_2 =>
        intro m hm ih2 hc
        refine Ev.step (fun k=>rfl) (Kit.ev_pos (by omega) (Kit.ev_pos (by omega) (Kit.ev_pos (by omega) (Kit.ev_pos (by omega) (Kit.ev_pos (by omega) ?_)))))
        rw [rdA2_nat,rdA2_nat,Kit.wrap_nat hm (by omega)]
        refine Kit.ev_if (fun h7=>?_) (fun h7=>?_)
        case refine_1 =>
         have:Mach.anyP (nameAs l i) i=true:=(Mach.anyP_iff _ _).2 ⟨m,hm,beq_iff_eq.2 h7⟩
         rw [no (by rw [hat,this,Bool.not_true,Bool.and_false])]
         exact Ev.now _
        case refine_2 =>
         refine ih2 fun j hj=>?_
         by_cases e:j=m
         case pos=>subst e;exact beq_eq_false_iff_ne.2 h7
         case neg=>exact hc j (by omega)
      exact key2 0 (by omega) (fun j hj=>absurd hj (Nat.not_lt_zero _))
  exact key 0 (by omega) (fun j hj=>absurd hj (Nat.not_lt_zero _))
theorem l01In_now (n a b:Int):spec_l01In.f n a b=some (decide (a≤n∧n≤b)):=by
 unfold spec_l01In.f
 by_cases h:n≥a
 case pos=>rw [if_pos h];simp [h]
 case neg=>rw [if_neg h];simp;omega
theorem ev_eqAttrS (xs:List S52) (hn:xs.length≤1048576):Ev (fun k=>laws_eqAttrS.f k xs xs) true:=by
 unfold laws_eqAttrS.f
 refine Kit.ev_pos rfl (Kit.ev_refl (n:=xs.length) (L:=fun k i=>laws_eqAttrS.l0 k xs xs i) (Ev.step (fun k=>rfl) (Kit.ev_neg (by omega) (Ev.now _))) ?_)
 intro i hi ih
 refine Ev.step (fun k=>rfl) (Kit.ev_pos (by omega) (Kit.ev_pos (by omega) (Kit.ev_pos (by omega) ?_)))
 rw [Kit.wrap_nat hi (by omega)]
 refine Kit.ev_some (a:=true) ?_ (Kit.ev_pos rfl ih)
 unfold laws_eqAttr.f
 rw [if_pos rfl,if_pos rfl]
/- Names, words, the ends of raw elements, pieces found. -/
theorem lower_ok (s:ByteArray) (h:s.size≤1048576):impl_lower.f s=some (Kit.lowS s):=if_pos (by omega)
theorem ex_size (s:ByteArray) (i e:Nat) (h:e≤s.size):(s.extract i e).size≤s.size:=by rw [ByteArray.size_extract];omega
theorem ev_l04Name (s:ByteArray) (hs:s.size≤1048576) (i:Nat) (hi:i≤s.size):Ev (fun k=>spec_l04Name.f k s (i:Int)) (Kit.lowS (s.extract i (scan (inS ⟨#[32,9,10,12,13,47,62]⟩) s.data.toList i)),((scan (inS ⟨#[32,9,10,12,13,47,62]⟩) s.data.toList i:Nat):Int)):=by
 have hlast:=scan_last s (inS ⟨#[32,9,10,12,13,47,62]⟩) i hi
 refine ev_scan s (inS ⟨#[32,9,10,12,13,47,62]⟩) i (L:=fun k x=>spec_l04Name.l0 k s (i:Int) x) ?_ ?_
 ·intro j b _ hj hbt _ hp h
  rw [in7,Bool.or_eq_false_iff,Bool.or_eq_false_iff] at hp
  refine Ev.step (fun k=>rfl) (Kit.ev_pos (by omega) (Kit.ev_pos (by omega) ?_))
  rw [hbt,Kit.wrap_nat hj (by omega)]
  refine Kit.ev_some (spec_blank b) (Kit.ev_neg (by rw [hp.1.1];exact Bool.false_ne_true) (Kit.ev_neg (fun e=>?_) (Kit.ev_neg (fun e=>?_) h)))
  ·exact beq_eq_false_iff_ne.1 hp.1.2 ((num_iff b 47).1 e)
  ·exact beq_eq_false_iff_ne.1 hp.2 ((num_iff b 62).1 e)
 ·generalize scan (inS ⟨#[32,9,10,12,13,47,62]⟩) s.data.toList i=e at *
  obtain ⟨h1,h2,h3⟩:=hlast
  have hlow:=ev_l01Lower (s.extract i e) (by have:=ex_size s i e h2;omega)
  have hfin:Ev (fun k=>if 0≤(i:Int) then (if (i:Int)≤(e:Int) then (if (e:Int)≤(s.size:Int) then ((spec_l01Lower.f k (s.extract (i:Int).toNat (e:Int).toNat)).bind fun t147=>(some (t147,(e:Int)))) else (none)) else (none)) else (none)) (Kit.lowS (s.extract i e),(e:Int)) :=
   Kit.ev_pos (by omega) (Kit.ev_pos (by omega) (Kit.ev_pos (by omega) (by rw [Int.toNat_natCast,Int.toNat_natCast];exact Ev.bind hlow (Ev.now _))))
  rcases h3 with h3|⟨h3,⟨⟨b,_,hbt,hp⟩⟩⟩
  ·exact Ev.step (fun k=>rfl) (Kit.ev_neg (by omega) hfin)
  ·refine Ev.step (fun k=>rfl) (Kit.ev_pos (by omega) (Kit.ev_pos (by omega) ?_))
   rw [hbt]
   refine Kit.ev_some (spec_blank b) (Kit.ev_if (fun _=>hfin) (fun h4=>Kit.ev_if (fun _=>hfin) (fun h5=>Kit.ev_if (fun _=>hfin) (fun h6=>?_))))
   exfalso
   rw [in7,Bool.or_eq_true,Bool.or_eq_true] at hp
   rcases hp with (hp|hp)|hp
   ·exact h4 hp
   ·exact h5 ((num_iff b 47).2 (beq_iff_eq.1 hp))
   ·exact h6 ((num_iff b 62).2 (beq_iff_eq.1 hp))
abbrev TKN:=Int × Int × Int × ByteArray × ByteArray × List S52 × Bool
def noTok (at_ len:Int):TKN:=(5,at_,len,⟨#[]⟩,⟨#[]⟩,[],false)
/-- Words, up to what might begin a tag. -/
theorem words_both (s:ByteArray) (hs:s.size≤1048576) (i:Nat) (hi:i<s.size):∃ (e:Nat) (u:ByteArray),i<e∧e≤s.size∧Ev (fun k=>spec_l04Words.f k s (i:Int)) ((1:Int),(i:Int),((e - i:Nat):Int),(⟨#[]⟩:ByteArray),u,([]:List S52),false) ∧
 Ev (fun k=>(impl_upTo.f k s (wrap64 ((i:Int)+1)) (⟨#[60]⟩:ByteArray)).bind fun t430=>(if 0≤(i:Int) then (if (i:Int)≤t430 then (if t430≤(s.size:Int) then ((impl_unescape.f k (s.extract (i:Int).toNat (t430:Int).toNat)).bind fun t431=>(some ((1:Int),(i:Int),wrap64 (t430 - (i:Int)),(⟨#[]⟩:ByteArray),t431,([]:List S52),false))) else (none)) else (none)) else (none))) ((1:Int),(i:Int),((e - i:Nat):Int),(⟨#[]⟩:ByteArray),u,([]:List S52),false):=by
 have hlast:=scan_last s (inS ⟨#[60]⟩) (i+1) (by omega)
 have hup:=ev_upTo s ⟨#[60]⟩ hs (i+1) (by omega)
 have hw:wrap64 ((i:Int)+1)=((i+1:Nat):Int):=Kit.wrap_nat hi (by omega)
 obtain ⟨e,he⟩:∃ e,scan (inS ⟨#[60]⟩) s.data.toList (i+1)=e:=⟨_,rfl⟩
 rw [he] at hlast hup
 obtain ⟨h1,h2,h3⟩:=hlast
 obtain ⟨u,u1,u2⟩:=un_both (s.extract i e) (by have:=ex_size s i e h2;omega)
 have hwe:wrap64 ((e:Int) - (i:Int))=((e - i:Nat):Int):=by rw [Kit.wrap_of (by omega) (by omega)];omega
 refine ⟨e,u,by omega,h2,?_,?_⟩
 ·unfold spec_l04Words.f
  rw [hw]
  have hfin:Ev (fun k=>if 0≤(i:Int) then (if (i:Int)≤(e:Int) then (if (e:Int)≤(s.size:Int) then ((spec_l02Un.f k (s.extract (i:Int).toNat (e:Int).toNat)).bind fun t142=>(some ((1:Int),(i:Int),wrap64 ((e:Int) - (i:Int)),(⟨#[]⟩:ByteArray),t142,([]:List S52),false))) else (none)) else (none)) else (none)) ((1:Int),(i:Int),((e - i:Nat):Int),(⟨#[]⟩:ByteArray),u,([]:List S52),false) :=
   Kit.ev_pos (by omega) (Kit.ev_pos (by omega) (Kit.ev_pos (by omega) (by rw [Int.toNat_natCast,Int.toNat_natCast,hwe];exact Ev.bind u2 (Ev.now _))))
  refine ev_scan s (inS ⟨#[60]⟩) (i+1) (L:=fun k x=>spec_l04Words.l0 k s (i:Int) x) ?_ ?_
  ·intro j b _ hj hbt _ hp h
   rw [in1] at hp
   refine Ev.step (fun k=>rfl) (Kit.ev_pos (by omega) (Kit.ev_pos (by omega) ?_))
   rw [hbt,Kit.wrap_nat hj (by omega)]
   exact Kit.ev_neg (fun e=>beq_eq_false_iff_ne.1 hp ((num_iff b 60).1 e)) h
  ·rw [he]
   rcases h3 with h3|⟨h3,⟨⟨b,_,hbt,hp⟩⟩⟩
   ·exact Ev.step (fun k=>rfl) (Kit.ev_neg (by omega) hfin)
   ·rw [in1] at hp
    refine Ev.step (fun k=>rfl) (Kit.ev_pos (by omega) (Kit.ev_pos (by omega) ?_))
    rw [hbt]
    exact Kit.ev_pos ((num_iff b 60).2 (beq_iff_eq.1 hp)) hfin
 ·rw [hw]
  exact Ev.bind hup (Kit.ev_pos (by omega) (Kit.ev_pos (by omega) (Kit.ev_pos (by omega) (by rw [Int.toNat_natCast,Int.toNat_natCast,hwe];exact Ev.bind u1 (Ev.now _)))))
/-- Where a raw element is closed. -/
theorem raw_both (s w:ByteArray) (hs:s.size≤1048576) (hw:w.size≤1048576) (i0:Nat) (hi0:i0≤s.size):∃ r:Nat,i0≤r∧r≤s.size∧Ev (fun k=>impl_rawEnd.f k s (i0:Int) w) (r:Int)∧Ev (fun k=>spec_l04RawEnd.f k s (i0:Int) w) (r:Int):=by
 have hj1:∀ (x:Int) (b:Bool) (k:Nat),spec_l04RawEnd.j1 (k+1) s w x b=if b=true then (if 0≤(wrap64 ((wrap64 (x+2))+(w.size:Int))) then (if (wrap64 ((wrap64 (x+2))+(w.size:Int)))<(s.size:Int) then ((spec_l04Blank.f (bt s (wrap64 ((wrap64 (x+2))+(w.size:Int))))).bind fun t117=>(if t117=true then (some x) else (if (bt s (wrap64 ((wrap64 (x+2))+(w.size:Int))))=47 then (some x) else (if (bt s (wrap64 ((wrap64 (x+2))+(w.size:Int))))=62 then (some x) else (spec_l04RawEnd.l0 k s w (wrap64 (x+1))))))) else (none)) else (none)) else (spec_l04RawEnd.l0 k s w (wrap64 (x+1))):=fun x b k=>by rw [spec_l04RawEnd.j1]
 have key:∀ i,i≤s.size→∃ r:Nat,i≤r∧r≤s.size∧Ev (fun k=>impl_rawEnd.l0 k s w (i:Int)) (r:Int)∧Ev (fun k=>spec_l04RawEnd.l0 k s w (i:Int)) (r:Int):=by
  refine Kit.down ?_ ?_
  ·have h2:wrap64 ((s.size:Int)+2)=(s.size:Int)+2:=Kit.wrap_of (by omega) (by omega)
   have h3:wrap64 ((s.size:Int)+2+(w.size:Int))=(s.size:Int)+2+(w.size:Int):=Kit.wrap_of (by omega) (by omega)
   exact ⟨s.size,Nat.le_refl _,Nat.le_refl _,Ev.step (fun k=>rfl) (Kit.ev_neg (by rw [h2,h3];omega) (Ev.now _)),Ev.step (fun k=>by rw [spec_l04RawEnd.l0]) (Kit.ev_neg (by rw [h2,h3];omega) (Ev.now _))⟩
  ·intro i hi ih
   have h2:wrap64 ((i:Int)+2)=((i+2:Nat):Int):=by rw [Kit.wrap_of (by omega) (by omega)];omega
   have h3:wrap64 (((i+2:Nat):Int)+(w.size:Int))=((i+2+w.size:Nat):Int):=by rw [Kit.wrap_of (by omega) (by omega)];omega
   have h1:wrap64 ((i:Int)+1)=((i+1:Nat):Int):=Kit.wrap_nat hi (by omega)
   by_cases hend:i+2+w.size<s.size
   case neg=>exact ⟨s.size,by omega,Nat.le_refl _,Ev.step (fun k=>rfl) (Kit.ev_neg (by rw [h2,h3];omega) (Ev.now _)),Ev.step (fun k=>by rw [spec_l04RawEnd.l0]) (Kit.ev_neg (by rw [h2,h3];omega) (Ev.now _))⟩
   case pos =>
    obtain ⟨r,r0,r1,r2,r3⟩:=ih
    have h4:((i+1:Nat):Int)<(s.size:Int):=by omega
    obtain ⟨b,hb,hbt⟩:=byte_at3 s (i+2+w.size) hend
    have hno:Ev (fun k=>spec_l04RawEnd.j1 k s w (i:Int) false) (r:Int):=Ev.step (hj1 _ _) (Kit.ev_neg Bool.false_ne_true (by rw [h1];exact r3))
    by_cases c1:bt s (i:Int)=60
    case neg =>
     refine ⟨r,by omega,r1,Ev.step (fun k=>by rw [impl_rawEnd.l0]) ?_,Ev.step (fun k=>by rw [spec_l04RawEnd.l0]) ?_⟩
     ·rw [h2,h3,h1];exact Kit.ev_pos (by omega) (Kit.ev_pos (by omega) (Kit.ev_pos (by omega) (Kit.ev_pos (by omega) (Kit.ev_neg c1 r2))))
     ·rw [h2,h3,h1];exact Kit.ev_pos (by omega) (Kit.ev_pos (by omega) (Kit.ev_pos (by omega) (Kit.ev_neg c1 hno)))
    case pos =>
     by_cases c2:bt s ((i+1:Nat):Int)=47
     case neg =>
      refine ⟨r,by omega,r1,Ev.step (fun k=>by rw [impl_rawEnd.l0]) ?_,Ev.step (fun k=>by rw [spec_l04RawEnd.l0]) ?_⟩
      ·rw [h2,h3,h1];exact Kit.ev_pos (by omega) (Kit.ev_pos (by omega) (Kit.ev_pos (by omega) (Kit.ev_pos (by omega) (Kit.ev_pos c1 (Kit.ev_pos (by omega) (Kit.ev_pos h4 (Kit.ev_neg c2 r2)))))))
      ·rw [h2,h3,h1];exact Kit.ev_pos (by omega) (Kit.ev_pos (by omega) (Kit.ev_pos (by omega) (Kit.ev_pos c1 (Kit.ev_pos (by omega) (Kit.ev_pos h4 (Kit.ev_neg c2 hno))))))
     case pos =>
      have hxs:=ex_size s (i+2) (i+2+w.size) (by omega)
      have hl1:=lower_ok (s.extract (i+2) (i+2+w.size)) (by omega)
      have hl2:=ev_l01Lower (s.extract (i+2) (i+2+w.size)) (by omega)
      have himp:∀ q:Nat,(∀ (x:ByteArray),x=Kit.lowS (s.extract (i+2) (i+2+w.size))→Ev (fun k=>if x.toList=w.toList then ((impl_isBlank.f (bt s ((i+2+w.size:Nat):Int))).bind fun t282=>(if t282=true then (some (i:Int)) else (if (bt s ((i+2+w.size:Nat):Int))=47 then (some (i:Int)) else (if (bt s ((i+2+w.size:Nat):Int))=62 then (some (i:Int)) else (impl_rawEnd.l0 k s w ((i+1:Nat):Int)))))) else (impl_rawEnd.l0 k s w ((i+1:Nat):Int))) (q:Int))→Ev (fun k=>impl_rawEnd.l0 k s w (i:Int)) (q:Int):=by
       intro q hq
       refine Ev.step (fun k=>by rw [impl_rawEnd.l0]) ?_
       rw [h2,h3,h1,Int.toNat_natCast,Int.toNat_natCast]
       exact Kit.ev_pos (by omega) (Kit.ev_pos (by omega) (Kit.ev_pos (by omega) (Kit.ev_pos (by omega) (Kit.ev_pos c1 (Kit.ev_pos (by omega) (Kit.ev_pos h4 (Kit.ev_pos c2 (Kit.ev_pos (by omega) (Kit.ev_pos (by omega) (Kit.ev_pos (by omega) (Kit.ev_some hl1 (hq _ rfl))))))))))))
      have hspec:∀ q:Nat,Ev (fun k=>spec_l04RawEnd.j1 k s w (i:Int) ((Kit.lowS (s.extract (i+2) (i+2+w.size))).toList == w.toList)) (q:Int)→Ev (fun k=>spec_l04RawEnd.l0 k s w (i:Int)) (q:Int):=by
       intro q hq
       refine Ev.step (fun k=>by rw [spec_l04RawEnd.l0]) ?_
       rw [h2,h3,h1,Int.toNat_natCast,Int.toNat_natCast]
       exact Kit.ev_pos (by omega) (Kit.ev_pos (by omega) (Kit.ev_pos (by omega) (Kit.ev_pos c1 (Kit.ev_pos (by omega) (Kit.ev_pos h4 (Kit.ev_pos c2 (Kit.ev_pos (by omega) (Kit.ev_pos (by omega) (Kit.ev_pos (by omega) (Ev.bind hl2 hq))))))))))
      by_cases c3:(Kit.lowS (s.extract (i+2) (i+2+w.size))).toList=w.toList
      case neg=>exact ⟨r,by omega,r1,himp r (fun x hx=>by subst hx;exact Kit.ev_neg c3 r2),hspec r (by rw [beq_eq_false_iff_ne.2 c3];exact hno)⟩
      case pos =>
       have hyes:∀ q:Nat,Ev (fun k=>if blankB b=true then (some (i:Int)) else (if (b.toNat:Int)=47 then (some (i:Int)) else (if (b.toNat:Int)=62 then (some (i:Int)) else (spec_l04RawEnd.l0 k s w ((i+1:Nat):Int))))) (q:Int)→Ev (fun k=>spec_l04RawEnd.j1 k s w (i:Int) true) (q:Int):=by
        intro q hq
        refine Ev.step (hj1 _ _) (Kit.ev_pos rfl ?_)
        rw [h2,h3,h1,hbt]
        exact Kit.ev_pos (by omega) (Kit.ev_pos (by omega) (Kit.ev_some (spec_blank b) hq))
       by_cases c4:blankB b=true∨(b.toNat:Int)=47∨(b.toNat:Int)=62
       case pos =>
        refine ⟨i,Nat.le_refl _,by omega,himp i (fun x hx=>?_),hspec i ?_⟩
        ·subst hx
         rw [hbt]
         refine Kit.ev_pos c3 (Kit.ev_some (impl_blank b) (Kit.ev_if (fun _=>Ev.now _) (fun n1=>Kit.ev_if (fun _=>Ev.now _) (fun n2=>Kit.ev_if (fun _=>Ev.now _) (fun n3=>?_)))))
         exact absurd c4 (by rintro (h|h|h);exact n1 h;exact n2 h;exact n3 h)
        ·rw [beq_iff_eq.2 c3]
         refine hyes i (Kit.ev_if (fun _=>Ev.now _) (fun n1=>Kit.ev_if (fun _=>Ev.now _) (fun n2=>Kit.ev_if (fun _=>Ev.now _) (fun n3=>?_))))
         exact absurd c4 (by rintro (h|h|h);exact n1 h;exact n2 h;exact n3 h)
       case neg =>
        refine ⟨r,by omega,r1,himp r (fun x hx=>?_),hspec r ?_⟩
        ·subst hx
         rw [hbt]
         exact Kit.ev_pos c3 (Kit.ev_some (impl_blank b) (Kit.ev_neg (fun h=>c4 (.inl h)) (Kit.ev_neg (fun h=>c4 (.inr (.inl h))) (Kit.ev_neg (fun h=>c4 (.inr (.inr h))) r2))))
        ·rw [beq_iff_eq.2 c3]
         exact hyes r (Kit.ev_neg (fun h=>c4 (.inl h)) (Kit.ev_neg (fun h=>c4 (.inr (.inl h))) (Kit.ev_neg (fun h=>c4 (.inr (.inr h))) r3)))
 obtain ⟨r,r0,r1,r2,r3⟩:=key i0 hi0
 exact ⟨r,r0,r1,r2,r3⟩
/- Pieces found; comments; tags that close. -/
theorem index_cons (b:UInt8) (l sub:List UInt8):Lib.index (b :: l) sub=if sub.isPrefixOf (b :: l) then 0 else if Lib.index l sub == -1 then -1 else Lib.index l sub+1:=rfl
theorem index_short {sub:List UInt8} : ∀ {l:List UInt8},l.length<sub.length→Lib.index l sub = -1
 | [],h=>by
  unfold Lib.index
  rw [if_neg (by intro e;rw [List.isEmpty_iff] at e;subst e;simp at h)]
 | b :: l,h=>by
  rw [index_cons,if_neg (fun e=>by
   have h2:=List.IsPrefix.length_le (List.isPrefixOf_iff_prefix.1 e)
   omega),index_short (l:=l) (by rw [List.length_cons] at h;omega)]
  rfl
theorem index_room {sub:List UInt8} : ∀ {l:List UInt8},0≤Lib.index l sub→Lib.index l sub+(sub.length:Int)≤(l.length:Int)
 | [],h=>by
  unfold Lib.index at h ⊢
  split at h
  ·rename_i e
   rw [List.isEmpty_iff] at e
   subst e
   simp
  ·simp at h
 | b :: l,h=>by
  rw [index_cons] at h ⊢
  split at h
  ·rename_i e
   rw [if_pos e]
   have h2:=List.IsPrefix.length_le (List.isPrefixOf_iff_prefix.1 e)
   omega
  ·rename_i e
   rw [if_neg e]
   split at h
   ·simp at h
   ·rename_i e2
    have hg:=Lib.index_ge l sub
    have h2:Lib.index l sub ≠ -1:=fun e=>e2 (beq_iff_eq.2 e)
    rw [if_neg e2]
    have:=index_room (l:=l) (sub:=sub) (by omega)
    rw [List.length_cons]
    omega
def fnd (s w:ByteArray) (i:Nat):Int:=Lib.index (s.data.toList.drop i) w.data.toList
theorem fnd_room (s w:ByteArray) (i:Nat) (hi:i≤s.size) (h:0≤fnd s w i):(i:Int)+fnd s w i+(w.size:Int)≤(s.size:Int):=by
 have h2:=index_room h
 rw [List.length_drop,data_length,data_length] at h2
 unfold fnd at h ⊢
 omega
theorem fnd_ge (s w:ByteArray) (i:Nat) : -1≤fnd s w i:=Lib.index_ge _ _
theorem ev_l04Find (s w:ByteArray) (hs:s.size≤1048576) (hw1:1≤w.size) (hw:w.size≤1048576) (i0:Nat) (hi0:i0≤s.size):Ev (fun k=>spec_l04Find.f k s w (i0:Int)) (if 0≤fnd s w i0 then ((i0:Int)+fnd s w i0,true) else ((s.size:Int),false)):=by
 have key:∀ i,i≤s.size→Ev (fun k=>spec_l04Find.l0 k s w (i:Int)) (if 0≤fnd s w i then ((i:Int)+fnd s w i,true) else ((s.size:Int),false)):=by
  have short:∀ i,s.size<i+w.size→fnd s w i = -1:=fun i h=>index_short (by rw [List.length_drop,data_length,data_length];omega)
  refine Kit.down ?_ ?_
  ·rw [short s.size (by omega),if_neg (by decide)]
   exact Ev.step (fun k=>rfl) (Kit.ev_neg (by rw [Kit.wrap_of (by omega) (by omega)];omega) (Ev.now _))
  ·intro i hi ih
   have h1:wrap64 ((i:Int)+1)=((i+1:Nat):Int):=Kit.wrap_nat hi (by omega)
   have h2:wrap64 ((i:Int)+(w.size:Int))=((i+w.size:Nat):Int):=by rw [Kit.wrap_of (by omega) (by omega)];omega
   have hp:=pre_iff s w i (by omega)
   obtain ⟨b,hb,_⟩:=byte_at3 s i hi
   have hf:fnd s w i=if Lib.hasPrefix (s.data.toList.drop i) w.data.toList=true then 0 else if fnd s w (i+1) == -1 then -1 else fnd s w (i+1)+1:=by
    unfold fnd Lib.hasPrefix
    rw [drop_at hb,index_cons]
   refine Ev.step (fun k=>by rw [spec_l04Find.l0]) ?_
   rw [h1,h2,Int.toNat_natCast,Int.toNat_natCast]
   refine Kit.ev_if (fun c=>?_) (fun c=>?_)
   ·refine Kit.ev_pos (by omega) (Kit.ev_pos (by omega) (Kit.ev_if (fun c2=>?_) (fun c2=>?_)))
    ·rw [if_pos (hp.1 ⟨by omega,c2⟩)] at hf
     rw [hf,if_pos (by decide),Int.add_zero]
     exact Ev.now _
    ·rw [if_neg (fun h=>c2 (hp.2 h).2)] at hf
     have hg:=fnd_ge s w (i+1)
     by_cases e:fnd s w (i+1) = -1
     ·rw [if_pos (beq_iff_eq.2 e)] at hf
      rw [e,if_neg (by decide)] at ih
      rw [hf,if_neg (by decide)]
      exact ih
     ·rw [if_neg (fun h=>e (beq_iff_eq.1 h))] at hf
      rw [if_pos (by omega)] at ih
      rw [hf,if_pos (by omega),show (i:Int)+(fnd s w (i+1)+1)=((i+1:Nat):Int)+fnd s w (i+1) by omega]
      exact ih
   ·rw [short i (by omega),if_neg (by decide)]
    exact Ev.now _
 exact key i0 hi0
theorem endOf_eq (s w:ByteArray) (hs:s.size≤1048576) (hw:w.size≤1048576) (i:Nat) (hi:i≤s.size):impl_endOf.f s (i:Int) w=some (if 0≤fnd s w i then ((i:Int)+fnd s w i,(i:Int)+fnd s w i+(w.size:Int)) else ((s.size:Int),(s.size:Int))):=by
 have hx:(s.extract i s.size).data.toList=s.data.toList.drop i:=by rw [ByteArray.data_extract,Array.toList_extract,List.extract_eq_take_drop,List.take_of_length_le (by rw [List.length_drop,data_length];omega)]
 have hI:strings_Index.f (s.extract i s.size) w=some (fnd s w i):=by
  unfold strings_Index.f fnd
  rw [if_pos (by have:=ex_size s i s.size (Nat.le_refl _);omega),hx]
 have hg:=fnd_ge s w i
 unfold impl_endOf.f
 rw [if_neg (by omega),if_pos (by omega),if_pos (by omega),Int.toNat_natCast,hI,Option.bind_some]
 by_cases h:0≤fnd s w i
 ·have hr:=fnd_room s w i hi h
  rw [if_pos h,if_neg (by omega),Kit.wrap_of (i:=(i:Int)+fnd s w i) (by omega) (by omega),Kit.wrap_of (by omega) (by omega)]
 ·rw [if_neg h,if_pos (by omega)]
/-- A comment. -/
def Small6 (l:List S52):Prop:=l.length≤6∧∀ a∈l,a.f0.size≤1048576
theorem small_nil:Small6 []:=⟨Nat.zero_le _,fun _ h=>by cases h⟩
theorem comment_both (s w:ByteArray) (hs:s.size≤1048576) (hw1:1≤w.size) (hw:w.size≤1048576) (i n:Nat) (hin:i<n) (hn:n≤s.size):∃ (t:TKN) (d:Nat),t.2.2.1=(d:Int)∧1≤d∧i+d≤s.size∧Small6 t.2.2.2.2.2.1∧t.2.2.2.1.size≤1048576∧impl_comment.f s (i:Int) (n:Int) w=some t∧Ev (fun k=>spec_l04Comment.f k s (i:Int) (n:Int) w) t:=by
 have he:=endOf_eq s w hs hw n hn
 have hf:=ev_l04Find s w hs hw1 hw n hn
 have hmn:mn (n:Int) (s.size:Int)=(n:Int):=by unfold mn;omega
 unfold impl_comment.f spec_l04Comment.f
 rw [he,Option.bind_some,hmn]
 by_cases h:0≤fnd s w n
 ·have hr:=fnd_room s w n hn h
  obtain ⟨f,hfn⟩:∃ f:Nat,fnd s w n=(f:Int):=⟨(fnd s w n).toNat,by omega⟩
  rw [if_pos h] at hf ⊢
  rw [hfn] at hf hr ⊢
  have w1:wrap64 ((n:Int)+(f:Int)+(w.size:Int) - (i:Int))=((n+f+w.size - i:Nat):Int):=by rw [Kit.wrap_of (by omega) (by omega)];omega
  have w2:wrap64 (wrap64 ((n:Int)+(f:Int) - (i:Int))+(w.size:Int))=((n+f+w.size - i:Nat):Int):=by rw [Kit.wrap_of (i:=(n:Int)+(f:Int) - (i:Int)) (by omega) (by omega),Kit.wrap_of (by omega) (by omega)];omega
  refine ⟨(4,(i:Int),((n+f+w.size - i:Nat):Int),⟨#[]⟩,s.extract n (n+f),[],false),n+f+w.size - i,rfl,by omega,by omega,small_nil,Nat.zero_le _,?_,?_⟩
  ·rw [if_pos (by omega),if_pos (by show (n:Int)≤(n:Int)+(f:Int);omega),if_pos (by show (n:Int)+(f:Int)≤_;omega)]
   show some ((4:Int),(i:Int),wrap64 ((n:Int)+(f:Int)+(w.size:Int) - (i:Int)),(⟨#[]⟩:ByteArray),s.extract (n:Int).toNat ((n:Int)+(f:Int)).toNat,([]:List S52),false)=_
   rw [w1,show ((n:Int)+(f:Int)).toNat=n+f by omega,Int.toNat_natCast]
  ·refine Ev.bind hf (Kit.ev_pos rfl (Kit.ev_pos (by omega) (Kit.ev_pos (by show (n:Int)≤(n:Int)+(f:Int);omega) (Kit.ev_pos (by show (n:Int)+(f:Int)≤_;omega) ?_))))
   show Ev (fun k=>some ((4:Int),(i:Int),wrap64 (wrap64 ((n:Int)+(f:Int) - (i:Int))+(w.size:Int)),(⟨#[]⟩:ByteArray),s.extract (n:Int).toNat ((n:Int)+(f:Int)).toNat,([]:List S52),false)) _
   rw [w2,show ((n:Int)+(f:Int)).toNat=n+f by omega,Int.toNat_natCast]
   exact Ev.now _
 ·rw [if_neg h] at hf ⊢
  have w1:wrap64 ((s.size:Int) - (i:Int))=((s.size - i:Nat):Int):=by rw [Kit.wrap_of (by omega) (by omega)];omega
  refine ⟨(4,(i:Int),((s.size - i:Nat):Int),⟨#[]⟩,s.extract n s.size,[],false),s.size - i,rfl,by omega,by omega,small_nil,Nat.zero_le _,?_,?_⟩
  ·rw [if_pos (by omega),if_pos (by show (n:Int)≤(s.size:Int);omega),if_pos (by show (s.size:Int)≤_;omega)]
   show some ((4:Int),(i:Int),wrap64 ((s.size:Int) - (i:Int)),(⟨#[]⟩:ByteArray),s.extract (n:Int).toNat (s.size:Int).toNat,([]:List S52),false)=_
   rw [w1,Int.toNat_natCast,Int.toNat_natCast]
  ·refine Ev.bind hf (Kit.ev_neg Bool.false_ne_true (Kit.ev_pos (by omega) (Kit.ev_pos (by show (n:Int)≤(s.size:Int);omega) (Kit.ev_pos (by show (s.size:Int)≤_;omega) ?_))))
   show Ev (fun k=>some ((4:Int),(i:Int),wrap64 ((s.size:Int) - (i:Int)),(⟨#[]⟩:ByteArray),s.extract (n:Int).toNat (s.size:Int).toNat,([]:List S52),false)) _
   rw [w1,Int.toNat_natCast,Int.toNat_natCast]
   exact Ev.now _
theorem nothing_eq (i n:Nat) (h:i≤n) (hn:n≤1048576):impl_nothing.f (i:Int) (n:Int)=some (noTok (i:Int) ((n - i:Nat):Int)):=by
 unfold impl_nothing.f noTok
 rw [Kit.wrap_of (by omega) (by omega),show (n:Int) - (i:Int)=((n - i:Nat):Int) by omega]
/-- A tag that closes. -/
theorem closes_both (s:ByteArray) (hs:s.size≤1048576) (i:Nat) (hi:i+2≤s.size):∃ (t:TKN) (d:Nat),t.2.2.1=(d:Int)∧1≤d∧i+d≤s.size∧Small6 t.2.2.2.2.2.1∧t.2.2.2.1.size≤1048576∧Ev (fun k=>impl_closes.f k s (i:Int)) t∧Ev (fun k=>spec_l04Close.f k s (i:Int)) t:=by
 have hw2:wrap64 ((i:Int)+2)=((i+2:Nat):Int):=by rw [Kit.wrap_of (by omega) (by omega)];omega
 have hup:=ev_upTo s ⟨#[32,9,10,12,13,47,62]⟩ hs (i+2) hi
 have hnm:=ev_l04Name s hs (i+2) hi
 have hlast:=scan_last s (inS ⟨#[32,9,10,12,13,47,62]⟩) (i+2) hi
 generalize scan (inS ⟨#[32,9,10,12,13,47,62]⟩) s.data.toList (i+2)=e at *
 obtain ⟨h1,h2,-⟩:=hlast
 have hxs:=ex_size s (i+2) e h2
 have hlow:=lower_ok (s.extract (i+2) e) (by omega)
 have hls:(lowS (s.extract (i+2) e)).size≤1048576:=by
  have h:=congrArg List.length (lowS_bytes (s.extract (i+2) e))
  rw [List.length_map,bytesOf_length,bytesOf_length] at h
  omega
 have ht1:=ev_tag_impl (lowS (s.extract (i+2) e)) (by omega)
 have ht2:=ev_tag_spec (lowS (s.extract (i+2) e)) (by omega)
 generalize lowS (s.extract (i+2) e)=nm at *
 have he:=endOf_eq s ⟨#[62]⟩ hs (show (1:Nat)≤1048576 by omega) e h2
 have hf:=ev_l04Find s ⟨#[62]⟩ hs (Nat.le_refl 1) (show (1:Nat)≤1048576 by omega) e h2
 have hz:((⟨#[62]⟩:ByteArray).size:Int)=1:=rfl
 have himp:∀ t,Ev (fun k=>(impl_endOf.f s (e:Int) (⟨#[62]⟩:ByteArray)).bind fun bt362=>(if bt362.1=bt362.2 then ((impl_nothing.f (i:Int) bt362.2).bind fun bt364=>(some (bt364.1,bt364.2.1,bt364.2.2.1,bt364.2.2.2.1,bt364.2.2.2.2.1,bt364.2.2.2.2.2.1,bt364.2.2.2.2.2.2))) else ((impl_TagOK.f k nm).bind fun t373=>(if t373=true then (some (3,(i:Int),wrap64 (bt362.2 - (i:Int)),nm,(⟨#[]⟩:ByteArray),([]:List S52),false)) else ((impl_nothing.f (i:Int) bt362.2).bind fun bt374=>(some (bt374.1,bt374.2.1,bt374.2.2.1,bt374.2.2.2.1,bt374.2.2.2.2.1,bt374.2.2.2.2.2.1,bt374.2.2.2.2.2.2))))))) t→Ev (fun k=>impl_closes.f k s (i:Int)) t:=by
  intro t h
  unfold impl_closes.f
  rw [hw2]
  refine Ev.bind hup (Kit.ev_pos (by omega) (Kit.ev_pos (by omega) (Kit.ev_pos (by omega) ?_)))
  rw [Int.toNat_natCast,Int.toNat_natCast]
  exact Kit.ev_some hlow h
 have hspec:∀ t,Ev (fun k=>(spec_l04Find.f k s (⟨#[62]⟩:ByteArray) (e:Int)).bind fun bt192=>(if bt192.2=true then ((spec_l01Tag.f k nm).bind fun t194=>(if t194=true then (some (3,(i:Int),wrap64 ((wrap64 (bt192.1+1)) - (i:Int)),nm,(⟨#[]⟩:ByteArray),([]:List S52),false)) else (some (5,(i:Int),wrap64 ((wrap64 (bt192.1+1)) - (i:Int)),(⟨#[]⟩:ByteArray),(⟨#[]⟩:ByteArray),([]:List S52),false)))) else (some (5,(i:Int),wrap64 ((s.size:Int) - (i:Int)),(⟨#[]⟩:ByteArray),(⟨#[]⟩:ByteArray),([]:List S52),false)))) t→Ev (fun k=>spec_l04Close.f k s (i:Int)) t:=by
  intro t h
  unfold spec_l04Close.f
  rw [hw2]
  exact Ev.bind hnm h
 by_cases h:0≤fnd s ⟨#[62]⟩ e
 ·have hr:=fnd_room s ⟨#[62]⟩ e h2 h
  rw [hz] at hr
  obtain ⟨f,hfn⟩:∃ f:Nat,fnd s ⟨#[62]⟩ e=(f:Int):=⟨(fnd s ⟨#[62]⟩ e).toNat,by omega⟩
  rw [if_pos h,hfn] at he hf
  rw [hfn] at hr
  have g0:e+f+1≤s.size:=by omega
  have g1:1≤e+f+1 - i:=by clear he hf hr;omega
  have g2:i+(e+f+1 - i)≤s.size:=by clear he hf hr;omega
  rw [hz,show (e:Int)+(f:Int)+1=((e+f+1:Nat):Int) by omega,show (e:Int)+(f:Int)=((e+f:Nat):Int) by omega] at he
  rw [show (e:Int)+(f:Int)=((e+f:Nat):Int) by omega] at hf
  have hno:=nothing_eq i (e+f+1) (by omega) (by omega)
  have w1:wrap64 (((e+f+1:Nat):Int) - (i:Int))=((e+f+1 - i:Nat):Int):=by rw [Kit.wrap_of (by omega) (by omega)];omega
  have w2:wrap64 (((e+f:Nat):Int)+1)=((e+f+1:Nat):Int):=by rw [Kit.wrap_of (by omega) (by omega)];omega
  cases hb:Kit.isTag nm with
  | true =>
   rw [hb] at ht1 ht2
   refine ⟨(3,(i:Int),((e+f+1 - i:Nat):Int),nm,⟨#[]⟩,[],false),e+f+1 - i,rfl,g1,g2,small_nil,hls,himp _ (Kit.ev_some he (Kit.ev_neg (by show ¬ ((e+f:Nat):Int)=((e+f+1:Nat):Int);omega) (Ev.bind ht1 (Kit.ev_pos rfl ?_)))),hspec _ (Ev.bind hf (Kit.ev_pos rfl (Ev.bind ht2 (Kit.ev_pos rfl ?_))))⟩
   ·show Ev (fun k=>some ((3:Int),(i:Int),wrap64 (((e+f+1:Nat):Int) - (i:Int)),nm,(⟨#[]⟩:ByteArray),([]:List S52),false)) _
    rw [w1];exact Ev.now _
   ·show Ev (fun k=>some ((3:Int),(i:Int),wrap64 (wrap64 (((e+f:Nat):Int)+1) - (i:Int)),nm,(⟨#[]⟩:ByteArray),([]:List S52),false)) _
    rw [w2,w1];exact Ev.now _
  | false =>
   rw [hb] at ht1 ht2
   refine ⟨noTok (i:Int) ((e+f+1 - i:Nat):Int),e+f+1 - i,rfl,g1,g2,small_nil,Nat.zero_le _,himp _ (Kit.ev_some he (Kit.ev_neg (by show ¬ ((e+f:Nat):Int)=((e+f+1:Nat):Int);omega) (Ev.bind ht1 (Kit.ev_neg Bool.false_ne_true (Kit.ev_some hno (Ev.now _)))))),hspec _ (Ev.bind hf (Kit.ev_pos rfl (Ev.bind ht2 (Kit.ev_neg Bool.false_ne_true ?_))))⟩
   show Ev (fun k=>some ((5:Int),(i:Int),wrap64 (wrap64 (((e+f:Nat):Int)+1) - (i:Int)),(⟨#[]⟩:ByteArray),(⟨#[]⟩:ByteArray),([]:List S52),false)) _
   rw [w2,w1];exact Ev.now _
 ·rw [if_neg h] at he hf
  have hno:=nothing_eq i s.size (by omega) hs
  have w1:wrap64 ((s.size:Int) - (i:Int))=((s.size - i:Nat):Int):=by rw [Kit.wrap_of (by omega) (by omega)];omega
  refine ⟨noTok (i:Int) ((s.size - i:Nat):Int),s.size - i,rfl,by omega,by omega,small_nil,Nat.zero_le _,himp _ (Kit.ev_some he (Kit.ev_pos rfl (Kit.ev_some hno (Ev.now _)))),hspec _ (Ev.bind hf (Kit.ev_neg Bool.false_ne_true ?_))⟩
  show Ev (fun k=>some ((5:Int),(i:Int),wrap64 ((s.size:Int) - (i:Int)),(⟨#[]⟩:ByteArray),(⟨#[]⟩:ByteArray),([]:List S52),false)) _
  rw [w1];exact Ev.now _
/- Attributes. -/
theorem one_at (s:ByteArray) (i:Nat) (b:UInt8) (h:s.data.toList[i]? = some b):s.extract i (i+1)=⟨#[b]⟩:=by
 obtain ⟨hl,he⟩:=List.getElem?_eq_some_iff.1 h
 rw [data_length] at hl
 apply ByteArray.ext
 apply Array.toList_inj.1
 rw [ByteArray.data_extract,Array.toList_extract,List.extract_eq_take_drop]
 rw [List.drop_eq_getElem_cons (by rw [data_length];exact hl),he]
 simp
theorem fnd_one (s:ByteArray) (c:UInt8) (i:Nat) (hi:i≤s.size):fnd s ⟨#[c]⟩ i=if scan (inS ⟨#[c]⟩) s.data.toList i<s.size then ((scan (inS ⟨#[c]⟩) s.data.toList i - i:Nat):Int) else -1:=by
 have hn:=scan_not (inS ⟨#[c]⟩) s.data.toList i
 have hlast:=scan_last s (inS ⟨#[c]⟩) i hi
 generalize scan (inS ⟨#[c]⟩) s.data.toList i=e at *
 obtain ⟨h1,h2,h3⟩:=hlast
 have no:∀ j,j<e - i→(s.data.toList.drop i)[j]? ≠ some c:=fun j hj=>by
  obtain ⟨b,hb,hp⟩:=hn (i+j) (by omega) (by omega)
  rw [in1] at hp
  rw [List.getElem?_drop,hb]
  intro he
  exact beq_eq_false_iff_ne.1 hp (Option.some.inj he)
 show Lib.index (s.data.toList.drop i) [c]=_
 rcases h3 with h3|⟨h3,⟨⟨b,hb,_,hp⟩⟩⟩
 ·rw [if_neg (by omega)]
  exact index_not c _ (fun j hj=>no j (by rw [List.length_drop,data_length] at hj;omega))
 ·rw [if_pos h3]
  rw [in1] at hp
  have hbc:b=c:=beq_iff_eq.1 hp
  exact index_at c _ (e - i) (by rw [List.getElem?_drop,show i+(e - i)=e by omega,hb,hbc]) no
theorem un_nil (x:ByteArray) (h:x.size=0):Ev (fun k=>spec_l02Un.f k x) (⟨#[]⟩:ByteArray) :=
 Ev.step (fun k=>rfl) (Kit.ev_neg (by omega) (Ev.now _))
theorem blank_not (b:UInt8) (h:notS blankS b=false):blankB b=true:=by unfold notS at h;simpa [blankB] using h
theorem blank_yes (b:UInt8) (h:notS blankS b=true):blankB b=false:=by unfold notS at h;simpa [blankB] using h
theorem attr_both (s:ByteArray) (hs:s.size≤1048576) (f:Nat) (hf:f<s.size) (b0:UInt8) (hb0:bt s (f:Int)=(b0.toNat:Int)) (n1:blankB b0=false) (n2:b0≠47) (n3:b0≠62) :
 ∃ (n v v':ByteArray) (e i':Nat) (ok:Bool),Ev (fun k=>impl_attribute.f k s (f:Int)) (n,v,(e:Int),ok)∧Ev (fun k=>spec_l04Attr.f k s (f:Int)) (n,v',(i':Int))∧n.size≤1048576∧f<i'∧i'≤s.size ∧
  ((ok=true∧v'=v∧i'≤e∧e≤s.size∧∀ j,i'≤j→j<e→∃ b,s.data.toList[j]? = some b∧blankB b=true)∨(ok=false∧i'=s.size)):=by
 have hw:Aside0 (wrap64 ((f:Int)+1)=((f+1:Nat):Int)):=⟨Kit.wrap_nat hf (by omega)⟩
 have hup:=ev_upTo s ⟨#[32,9,10,12,13,47,62,61]⟩ hs (f+1) (by omega)
 have hlast:=scan_last s (inS ⟨#[32,9,10,12,13,47,62,61]⟩) (f+1) (by omega)
 have hspec0:∀ r,Ev (fun k=>spec_l04Attr.j1 k s (f:Int) ((scan (inS ⟨#[32,9,10,12,13,47,62,61]⟩) s.data.toList (f+1):Nat):Int)) r→Ev (fun k=>spec_l04Attr.f k s (f:Int)) r:=by
  intro r h
  have h1:Ev (fun k=>spec_l04Attr.l0 k s (f:Int) ((f+1:Nat):Int)) r:=by
   refine ev_scan s (inS ⟨#[32,9,10,12,13,47,62,61]⟩) (f+1) (L:=fun k x=>spec_l04Attr.l0 k s (f:Int) x) ?_ ?_
   ·intro j b hfj hj hbt _ hp hn
    rw [in8,Bool.or_eq_false_iff,Bool.or_eq_false_iff,Bool.or_eq_false_iff] at hp
    refine Ev.step (fun k=>by rw [spec_l04Attr.l0]) ?_
    rw [hbt,Kit.wrap_nat hj (by omega)]
    exact Kit.ev_pos (by omega) (Kit.ev_pos (by omega) (Kit.ev_some (spec_blank b) (Kit.ev_neg (by rw [hp.1.1.1];exact Bool.false_ne_true) (Kit.ev_neg (fun e=>beq_eq_false_iff_ne.1 hp.1.1.2 ((num_iff b 47).1 e)) (Kit.ev_neg (fun e=>beq_eq_false_iff_ne.1 hp.1.2 ((num_iff b 62).1 e)) (Kit.ev_neg (fun e=>beq_eq_false_iff_ne.1 hp.2 ((num_iff b 61).1 e)) hn))))))
   ·obtain ⟨h1,h2,h3⟩:=hlast
    generalize scan (inS ⟨#[32,9,10,12,13,47,62,61]⟩) s.data.toList (f+1)=e at *
    rcases h3 with h3|⟨h3,⟨⟨b,_,hbt,hp⟩⟩⟩
    ·exact Ev.step (fun k=>by rw [spec_l04Attr.l0]) (Kit.ev_neg (by omega) h)
    ·refine Ev.step (fun k=>by rw [spec_l04Attr.l0]) ?_
     rw [hbt]
     refine Kit.ev_pos (by omega) (Kit.ev_pos (by omega) (Kit.ev_some (spec_blank b) (Kit.ev_if (fun _=>h) (fun h4=>Kit.ev_if (fun _=>h) (fun h5=>Kit.ev_if (fun _=>h) (fun h6=>Kit.ev_if (fun _=>Kit.ev_neg (by omega) h) (fun h7=>?_)))))))
     exfalso
     rw [in8,Bool.or_eq_true,Bool.or_eq_true,Bool.or_eq_true] at hp
     rcases hp with ((hp|hp)|hp)|hp
     ·exact h4 hp
     ·exact h5 ((num_iff b 47).2 (beq_iff_eq.1 hp))
     ·exact h6 ((num_iff b 62).2 (beq_iff_eq.1 hp))
     ·exact h7 ((num_iff b 61).2 (beq_iff_eq.1 hp))
  unfold spec_l04Attr.f
  refine Ev.step (fun k=>by rw [spec_l04Attr.l0]) ?_
  rw [hb0,hw.out]
  exact Kit.ev_pos (by omega) (Kit.ev_pos (by omega) (Kit.ev_some (spec_blank b0) (Kit.ev_neg (by rw [n1];exact Bool.false_ne_true) (Kit.ev_neg (fun e=>n2 ((num_iff b0 47).1 e)) (Kit.ev_neg (fun e=>n3 ((num_iff b0 62).1 e)) (Kit.ev_if (fun _=>Kit.ev_pos rfl h1) (fun _=>h1)))))))
 generalize scan (inS ⟨#[32,9,10,12,13,47,62,61]⟩) s.data.toList (f+1)=e1 at *
 obtain ⟨g1,g2,-⟩:=hlast
 have hxs:=ex_size s f e1 g2
 have hlow:=lower_ok (s.extract f e1) (by omega)
 have hlow2:=ev_l01Lower (s.extract f e1) (by omega)
 have hnz:(lowS (s.extract f e1)).size≤1048576:=by
  have h:=congrArg List.length (lowS_bytes (s.extract f e1))
  rw [List.length_map,bytesOf_length,bytesOf_length] at h
  omega
 generalize lowS (s.extract f e1)=nm at *
 have hpast:=ev_past s blankS hs e1 g2
 have hlast2:=scan_last s (notS blankS) e1 g2
 have hbl2:=scan_not (notS blankS) s.data.toList e1
 have hl1:∀ r,Ev (fun k=>spec_l04Attr.j3 k s (e1:Int) nm ((scan (notS blankS) s.data.toList e1:Nat):Int)) r→Ev (fun k=>spec_l04Attr.f k s (f:Int)) r:=by
  intro r h
  refine hspec0 r (Ev.step (fun k=>by rw [spec_l04Attr.j1]) ?_)
  rw [Int.toNat_natCast,Int.toNat_natCast]
  refine Kit.ev_pos (by omega) (Kit.ev_pos (by omega) (Kit.ev_pos (by omega) (Ev.bind hlow2 ?_)))
  refine ev_scan s (notS blankS) e1 (L:=fun k x=>spec_l04Attr.l1 k s (e1:Int) nm x) ?_ ?_
  ·intro j b _ hj hbt _ hp hn
   refine Ev.step (fun k=>by rw [spec_l04Attr.l1]) ?_
   rw [hbt,Kit.wrap_nat hj (by omega)]
   exact Kit.ev_pos (by omega) (Kit.ev_pos (by omega) (Kit.ev_some (spec_blank b) (Kit.ev_pos (blank_not b hp) hn)))
  ·generalize scan (notS blankS) s.data.toList e1=q at *
   obtain ⟨_,_,h3|⟨h3,⟨⟨b,_,hbt,hp⟩⟩⟩⟩:=hlast2
   ·exact Ev.step (fun k=>by rw [spec_l04Attr.l1]) (Kit.ev_neg (by omega) h)
   ·refine Ev.step (fun k=>by rw [spec_l04Attr.l1]) ?_
    rw [hbt]
    exact Kit.ev_pos (by omega) (Kit.ev_pos (by omega) (Kit.ev_some (spec_blank b) (Kit.ev_neg (by rw [blank_yes b hp];exact Bool.false_ne_true) h)))
 generalize scan (notS blankS) s.data.toList e1=q at *
 obtain ⟨p1,p2,p3⟩:=hlast2
 have himp:∀ r,(q=s.size→Ev (fun k=>impl_attribute.j0 k s (q:Int) true nm (⟨#[]⟩:ByteArray)) r)→(q<s.size→Ev (fun k=>impl_attribute.j0 k s (q:Int) ((bt s (q:Int)) != 61) nm (⟨#[]⟩:ByteArray)) r)→Ev (fun k=>impl_attribute.f k s (f:Int)) r:=by
  intro r ha hb
  unfold impl_attribute.f
  rw [hw.out]
  refine Ev.bind hup (Kit.ev_pos (by omega) (Kit.ev_pos (by omega) (Kit.ev_pos (by omega) ?_)))
  rw [Int.toNat_natCast,Int.toNat_natCast]
  exact Kit.ev_some hlow (Ev.bind hpast (Kit.ev_if (fun h=>ha (by omega)) (fun h=>Kit.ev_pos (by omega) (Kit.ev_pos (by omega) (hb (by omega))))))
 have himpT:Ev (fun k=>impl_attribute.j0 k s (q:Int) true nm (⟨#[]⟩:ByteArray)) (nm,(⟨#[]⟩:ByteArray),(q:Int),true):=Ev.step (fun k=>by rw [impl_attribute.j0]) (Kit.ev_pos rfl (Ev.now _))
 have hspT:Ev (fun k=>spec_l04Attr.j4 k s (e1:Int) nm (q:Int) true) (nm,(⟨#[]⟩:ByteArray),(e1:Int)):=Ev.step (fun k=>by rw [spec_l04Attr.j4]) (Kit.ev_pos rfl (Ev.now _))
 have hrel:∀ j,e1≤j→j<q→∃ b,s.data.toList[j]? = some b∧blankB b=true:=fun j h1 h2=>by
  obtain ⟨b,hb,hp⟩:=hbl2 j h1 h2
  exact ⟨b,hb,blank_not b hp⟩
 rcases p3 with p3|⟨p3,⟨⟨b,_,hbt,_⟩⟩⟩
 ·refine ⟨nm,⟨#[]⟩,⟨#[]⟩,q,e1,true,himp _ (fun _=>himpT) (fun h=>absurd h (by omega)),hl1 _ (Ev.step (fun k=>by rw [spec_l04Attr.j3]) (Kit.ev_pos (by omega) hspT)),hnz,by omega,g2,.inl ⟨rfl,rfl,p1,p2,hrel⟩⟩
 ·have hl1b:∀ r,Ev (fun k=>spec_l04Attr.j4 k s (e1:Int) nm (q:Int) ((bt s (q:Int)) != 61)) r→Ev (fun k=>spec_l04Attr.f k s (f:Int)) r:=fun r h=>hl1 r (Ev.step (fun k=>by rw [spec_l04Attr.j3]) (Kit.ev_neg (by omega) (Kit.ev_pos (by omega) (Kit.ev_pos (by omega) h))))
  by_cases h61:bt s (q:Int)=61
  case neg =>
   rw [bne_iff_ne.2 h61] at hl1b himp
   exact ⟨nm,⟨#[]⟩,⟨#[]⟩,q,e1,true,himp _ (fun h=>absurd h (by omega)) (fun _=>himpT),hl1b _ hspT,hnz,by omega,g2,.inl ⟨rfl,rfl,p1,p2,hrel⟩⟩
  case pos =>
   rw [bne_eq_false_iff_eq.2 h61] at hl1b himp
   have hq1:Aside0 (wrap64 ((q:Int)+1)=((q+1:Nat):Int)):=⟨Kit.wrap_nat p3 (by omega)⟩
   have hpast2:=ev_past s blankS hs (q+1) (by omega)
   have hlast3:=scan_last s (notS blankS) (q+1) (by omega)
   have hl2:∀ r,Ev (fun k=>spec_l04Attr.j6 k s nm ((scan (notS blankS) s.data.toList (q+1):Nat):Int)) r→Ev (fun k=>spec_l04Attr.f k s (f:Int)) r:=by
    intro r h
    refine hl1b r (Ev.step (fun k=>by rw [spec_l04Attr.j4]) (Kit.ev_neg Bool.false_ne_true ?_))
    rw [hq1.out]
    refine ev_scan s (notS blankS) (q+1) (L:=fun k x=>spec_l04Attr.l2 k s nm x) ?_ ?_
    ·intro j b _ hj hbt _ hp hn
     refine Ev.step (fun k=>by rw [spec_l04Attr.l2]) ?_
     rw [hbt,Kit.wrap_nat hj (by omega)]
     exact Kit.ev_pos (by omega) (Kit.ev_pos (by omega) (Kit.ev_some (spec_blank b) (Kit.ev_pos (blank_not b hp) hn)))
    ·generalize scan (notS blankS) s.data.toList (q+1)=z at *
     obtain ⟨_,_,h3|⟨h3,⟨⟨b,_,hbt,hp⟩⟩⟩⟩:=hlast3
     ·exact Ev.step (fun k=>by rw [spec_l04Attr.l2]) (Kit.ev_neg (by omega) h)
     ·refine Ev.step (fun k=>by rw [spec_l04Attr.l2]) ?_
      rw [hbt]
      exact Kit.ev_pos (by omega) (Kit.ev_pos (by omega) (Kit.ev_some (spec_blank b) (Kit.ev_neg (by rw [blank_yes b hp];exact Bool.false_ne_true) h)))
   generalize scan (notS blankS) s.data.toList (q+1)=z at *
   obtain ⟨z1,z2,z3⟩:=hlast3
   have himp2:∀ r,(z=s.size→r=(nm,(⟨#[]⟩:ByteArray),(z:Int),true))→(z<s.size→Ev (fun k=>if (bt s (z:Int))=34 then (impl_attribute.j1 k s (z:Int) true nm (⟨#[]⟩:ByteArray)) else (impl_attribute.j1 k s (z:Int) ((bt s (z:Int)) == 39) nm (⟨#[]⟩:ByteArray))) r)→Ev (fun k=>impl_attribute.f k s (f:Int)) r:=by
    intro r ha hb
    refine himp r (fun h=>absurd h (by omega)) (fun _=>Ev.step (fun k=>by rw [impl_attribute.j0]) (Kit.ev_neg Bool.false_ne_true ?_))
    rw [hq1.out]
    refine Ev.bind hpast2 (Kit.ev_if (fun h=>?_) (fun h=>Kit.ev_pos (by omega) (Kit.ev_pos (by omega) (hb (by omega)))))
    rw [ha (by omega)]
    exact Ev.now _
   have hup3:=ev_upTo s ⟨#[32,9,10,12,13,62]⟩ hs z z2
   have hlast4:=scan_last s (inS ⟨#[32,9,10,12,13,62]⟩) z z2
   have hl3:∀ (u:ByteArray),Ev (fun k=>spec_l02Un.f k (s.extract z (scan (inS ⟨#[32,9,10,12,13,62]⟩) s.data.toList z))) u→Ev (fun k=>spec_l04Attr.j7 k s nm (z:Int) false) (nm,u,((scan (inS ⟨#[32,9,10,12,13,62]⟩) s.data.toList z:Nat):Int)):=by
    intro u hu
    refine Ev.step (fun k=>by rw [spec_l04Attr.j7]) (Kit.ev_neg Bool.false_ne_true ?_)
    refine ev_scan s (inS ⟨#[32,9,10,12,13,62]⟩) z (L:=fun k x=>spec_l04Attr.l3 k s x nm (z:Int)) ?_ ?_
    ·intro j b _ hj hbt _ hp hn
     rw [in6b,Bool.or_eq_false_iff] at hp
     refine Ev.step (fun k=>by rw [spec_l04Attr.l3]) ?_
     rw [hbt,Kit.wrap_nat hj (by omega)]
     exact Kit.ev_pos (by omega) (Kit.ev_pos (by omega) (Kit.ev_some (spec_blank b) (Kit.ev_neg (by rw [hp.1];exact Bool.false_ne_true) (Kit.ev_neg (fun e=>beq_eq_false_iff_ne.1 hp.2 ((num_iff b 62).1 e)) hn))))
    ·generalize scan (inS ⟨#[32,9,10,12,13,62]⟩) s.data.toList z=y at *
     obtain ⟨y1,y2,y3⟩:=hlast4
     have hfin:Ev (fun k=>if 0≤(z:Int) then (if (z:Int)≤(y:Int) then (if (y:Int)≤(s.size:Int) then ((spec_l02Un.f k (s.extract (z:Int).toNat (y:Int).toNat)).bind fun t158=>(some (nm,t158,(y:Int)))) else (none)) else (none)) else (none)) (nm,u,(y:Int)) :=
      Kit.ev_pos (by omega) (Kit.ev_pos (by omega) (Kit.ev_pos (by omega) (by rw [Int.toNat_natCast,Int.toNat_natCast];exact Ev.bind hu (Ev.now _))))
     rcases y3 with h3|⟨h3,⟨⟨b,_,hbt,hp⟩⟩⟩
     ·exact Ev.step (fun k=>by rw [spec_l04Attr.l3]) (Kit.ev_neg (by omega) hfin)
     ·refine Ev.step (fun k=>by rw [spec_l04Attr.l3]) ?_
      rw [hbt]
      refine Kit.ev_pos (by omega) (Kit.ev_pos (by omega) (Kit.ev_some (spec_blank b) (Kit.ev_if (fun _=>hfin) (fun h4=>Kit.ev_if (fun _=>hfin) (fun h5=>?_)))))
      exfalso
      rw [in6b,Bool.or_eq_true] at hp
      rcases hp with hp|hp
      ·exact h4 hp
      ·exact h5 ((num_iff b 62).2 (beq_iff_eq.1 hp))
   rcases z3 with z3|⟨z3,⟨⟨c,hc,hct,hcn⟩⟩⟩
   ·have hse:scan (inS ⟨#[32,9,10,12,13,62]⟩) s.data.toList z=z:=scan_end (by rw [data_length];omega)
    have hn:=hl3 _ (by rw [hse];exact un_nil _ (by rw [ByteArray.size_extract];omega))
    rw [hse] at hn
    exact ⟨nm,⟨#[]⟩,⟨#[]⟩,z,z,true,himp2 _ (fun _=>rfl) (fun h=>absurd h (by omega)),hl2 _ (Ev.step (fun k=>by rw [spec_l04Attr.j6]) (Kit.ev_neg (by omega) hn)),hnz,by omega,z2,.inl ⟨rfl,rfl,Nat.le_refl _,z2,fun j h1 h2=>absurd h2 (by omega)⟩⟩
   ·have hz1:Aside0 (wrap64 ((z:Int)+1)=((z+1:Nat):Int)):=⟨Kit.wrap_nat z3 (by omega)⟩
    by_cases hquo:(c.toNat:Int)=34∨(c.toNat:Int)=39
    case pos =>
     have hsp:∀ r,Ev (fun k=>spec_l04Attr.j7 k s nm (z:Int) true) r→Ev (fun k=>spec_l04Attr.f k s (f:Int)) r:=by
      intro r h
      refine hl2 r (Ev.step (fun k=>by rw [spec_l04Attr.j6]) ?_)
      rw [hct]
      refine Kit.ev_pos (by omega) (Kit.ev_pos (by omega) (Kit.ev_if (fun _=>h) (fun h4=>?_)))
      rw [beq_iff_eq.2 (hquo.resolve_left h4)]
      exact h
     have him:∀ r,Ev (fun k=>impl_attribute.j1 k s (z:Int) true nm (⟨#[]⟩:ByteArray)) r→Ev (fun k=>impl_attribute.f k s (f:Int)) r:=by
      intro r h
      refine himp2 r (fun h=>absurd h (by omega)) (fun _=>?_)
      rw [hct]
      refine Kit.ev_if (fun _=>h) (fun h4=>?_)
      rw [beq_iff_eq.2 (hquo.resolve_left h4)]
      exact h
     have hx:=one_at s z c hc
     have hup4:=ev_upTo s ⟨#[c]⟩ hs (z+1) (by omega)
     have hlast5:=scan_last s (inS ⟨#[c]⟩) (z+1) (by omega)
     have hfo:=fnd_one s c (z+1) (by omega)
     have hfi:=ev_l04Find s ⟨#[c]⟩ hs (Nat.le_refl 1) (show (1:Nat)≤1048576 by omega) (z+1) (by omega)
     generalize scan (inS ⟨#[c]⟩) s.data.toList (z+1)=y at *
     obtain ⟨y1,y2,-⟩:=hlast5
     by_cases hys:y=s.size
     ·rw [if_neg (by omega)] at hfo
      rw [hfo,if_neg (by decide)] at hfi
      refine ⟨nm,⟨#[]⟩,⟨#[]⟩,y,s.size,false,him _ (Ev.step (fun k=>by rw [impl_attribute.j1]) (Kit.ev_pos rfl ?_)),hsp _ (Ev.step (fun k=>by rw [spec_l04Attr.j7]) (Kit.ev_pos rfl ?_)),hnz,by omega,Nat.le_refl _,.inr ⟨rfl,rfl⟩⟩
      ·rw [hz1.out,Int.toNat_natCast,Int.toNat_natCast,hx]
       exact Kit.ev_pos (by omega) (Kit.ev_pos (by omega) (Kit.ev_pos (by omega) (Ev.bind hup4 (Kit.ev_pos (by omega) (Ev.now _)))))
      ·rw [hz1.out,Int.toNat_natCast,Int.toNat_natCast,hx]
       exact Kit.ev_pos (by omega) (Kit.ev_pos (by omega) (Kit.ev_pos (by omega) (Ev.bind hfi (Kit.ev_neg Bool.false_ne_true (Ev.now _)))))
     ·rw [if_pos (by omega)] at hfo
      have hye:((z+1:Nat):Int)+((y - (z+1):Nat):Int)=(y:Int):=by omega
      have hyp:(0:Int)≤((y - (z+1):Nat):Int):=by omega
      rw [hfo,if_pos hyp,hye] at hfi
      obtain ⟨u,u1,u2⟩:=un_both (s.extract (z+1) y) (by have:=ex_size s (z+1) y y2;omega)
      have hy1:Aside0 (wrap64 ((y:Int)+1)=((y+1:Nat):Int)):=⟨Kit.wrap_nat (n:=s.size) (by omega) (by omega)⟩
      refine ⟨nm,u,u,y+1,y+1,true,him _ (Ev.step (fun k=>by rw [impl_attribute.j1]) (Kit.ev_pos rfl ?_)),hsp _ (Ev.step (fun k=>by rw [spec_l04Attr.j7]) (Kit.ev_pos rfl ?_)),hnz,by omega,by omega,.inl ⟨rfl,rfl,Nat.le_refl _,by omega,fun j h1 h2=>absurd h2 (by omega)⟩⟩
      ·rw [hz1.out,Int.toNat_natCast,Int.toNat_natCast,hx]
       refine Kit.ev_pos (by omega) (Kit.ev_pos (by omega) (Kit.ev_pos (by omega) (Ev.bind hup4 (Kit.ev_neg (by omega) (Kit.ev_pos (by omega) (Kit.ev_pos (by omega) (Kit.ev_pos (by omega) ?_)))))))
       rw [Int.toNat_natCast,hy1.out]
       exact Ev.bind u1 (Ev.now _)
      ·rw [hz1.out,Int.toNat_natCast,Int.toNat_natCast,hx]
       refine Kit.ev_pos (by omega) (Kit.ev_pos (by omega) (Kit.ev_pos (by omega) (Ev.bind hfi (Kit.ev_pos rfl (Kit.ev_pos (by omega) (Kit.ev_pos (by show ((z+1:Nat):Int)≤(y:Int);omega) (Kit.ev_pos (by show (y:Int)≤_;omega) ?_)))))))
       show Ev (fun k=>(spec_l02Un.f k (s.extract (z+1) ((y:Int)).toNat)).bind fun t154=>some (nm,t154,wrap64 ((y:Int)+1))) _
       rw [Int.toNat_natCast,hy1.out]
       exact Ev.bind u2 (Ev.now _)
    case neg =>
     have hsp:∀ r,Ev (fun k=>spec_l04Attr.j7 k s nm (z:Int) false) r→Ev (fun k=>spec_l04Attr.f k s (f:Int)) r:=by
      intro r h
      refine hl2 r (Ev.step (fun k=>by rw [spec_l04Attr.j6]) ?_)
      rw [hct,beq_eq_false_iff_ne.2 (fun h4=>hquo (.inr h4))]
      exact Kit.ev_pos (by omega) (Kit.ev_pos (by omega) (Kit.ev_neg (fun h4=>hquo (.inl h4)) h))
     have him:∀ r,Ev (fun k=>impl_attribute.j1 k s (z:Int) false nm (⟨#[]⟩:ByteArray)) r→Ev (fun k=>impl_attribute.f k s (f:Int)) r:=by
      intro r h
      refine himp2 r (fun h=>absurd h (by omega)) (fun _=>?_)
      rw [hct,beq_eq_false_iff_ne.2 (fun h4=>hquo (.inr h4))]
      exact Kit.ev_neg (fun h4=>hquo (.inl h4)) h
     generalize scan (inS ⟨#[32,9,10,12,13,62]⟩) s.data.toList z=y at *
     obtain ⟨y1,y2,-⟩:=hlast4
     obtain ⟨u,u1,u2⟩:=un_both (s.extract z y) (by have:=ex_size s z y y2;omega)
     refine ⟨nm,u,u,y,y,true,him _ (Ev.step (fun k=>by rw [impl_attribute.j1]) (Kit.ev_neg Bool.false_ne_true (Ev.bind hup3 ?_))),hsp _ (hl3 u u2),hnz,by omega,y2,.inl ⟨rfl,rfl,Nat.le_refl _,y2,fun j h1 h2=>absurd h2 (by omega)⟩⟩
     refine Kit.ev_pos (by omega) (Kit.ev_pos (by omega) (Kit.ev_pos (by omega) ?_))
     rw [Int.toNat_natCast,Int.toNat_natCast]
     exact Ev.bind u1 (Ev.now _)
/- Tags that open. -/
theorem ne_succ {i j:Nat} (h:i≤j):¬ ((j+1:Nat):Int)=(i:Int):=by omega
theorem int_lt {j n:Nat} (h:j<n):(j:Int)<(n:Int):=by omega
theorem int_nonneg (j:Nat):0≤(j:Int):=by omega
theorem small_next {l:List S52} {n v:ByteArray} (h:Small6 l) (hn:n.size≤1048576):(∀ a∈l++[⟨n,v⟩],a.f0.size≤9223372036854775807)∧(attrsOK (l++[⟨n,v⟩])=true→Small6 (l++[⟨n,v⟩])):=by
 have h1:∀ a∈l++[(⟨n,v⟩:S52)],a.f0.size≤1048576:=fun a ha=>by
  rcases List.mem_append.1 ha with h2|h2
  ·exact h.2 a h2
  ·rw [List.mem_singleton.1 h2];exact hn
 refine ⟨fun a ha=>by have:=h1 a ha;omega,fun hk=>⟨?_,h1⟩⟩
 unfold attrsOK at hk
 rw [Bool.and_eq_true] at hk
 exact of_decide_eq_true hk.2
theorem ev_keep (l:List S52) (n v:ByteArray) (h:Small6 l) (hn:n.size≤1048576):Ev (fun k=>spec_l04Keep.f k l n v) (if attrsOK (l++[⟨n,v⟩])=true then l++[⟨n,v⟩] else l):=by
 have hl:=h.1
 have h3:=ev_l03Attrs (l++[⟨n,v⟩]) (small_next h hn).1 (by rw [List.length_append,List.length_singleton];omega)
 unfold spec_l04Keep.f
 refine Kit.ev_some rfl (Kit.ev_pos (by rw [List.length_nil];omega) (Kit.ev_some rfl (Kit.ev_pos (by rw [List.nil_append];omega) (Kit.ev_some rfl ?_))))
 rw [List.nil_append]
 refine Ev.bind h3 (Kit.ev_if (fun h=>?_) (fun h=>?_))
 ·rw [if_pos h];exact Ev.now _
 ·rw [if_neg h];exact Ev.now _
theorem open_loop (s:ByteArray) (hs:s.size≤1048576) (a:Nat) (ha:a<s.size) (nm:ByteArray) (hnm:nm.size≤1048576):∀ d i e:Nat,s.size≤i+d→a<i→i≤e→e≤s.size→(∀ j,i≤j→j<e→∃ b,s.data.toList[j]? = some b∧blankB b=true)→∀ L,Small6 L →
 ∃ (t:TKN) (n:Nat),t.2.2.1=(n:Int)∧1≤n∧a+n≤s.size∧Small6 t.2.2.2.2.2.1∧t.2.2.2.1.size≤1048576∧Ev (fun k=>impl_open.l0 k s (a:Int) (e:Int) 2 (a:Int) 0 nm (⟨#[]⟩:ByteArray) L false) t∧Ev (fun k=>spec_l04Open.l0 k s (a:Int) nm (i:Int) 2 (a:Int) 0 nm (⟨#[]⟩:ByteArray) L false) t:=by
 have ht1:=ev_tag_impl nm (by omega)
 have ht2:=ev_tag_spec nm (by omega)
 intro d
 induction d with
 | zero =>
  intro i e h1 h2 h3 h4 _ L hL
  obtain rfl:i=s.size:=by omega
  obtain rfl:e=s.size:=by omega
  have hp:=ev_past s ⟨#[32,9,10,12,13,47]⟩ hs s.size (Nat.le_refl _)
  rw [scan_end (by rw [data_length];exact Nat.le_refl _)] at hp
  have hno:=nothing_eq a s.size (by omega) hs
  have hw:wrap64 ((s.size:Int) - (a:Int))=((s.size - a:Nat):Int):=by rw [Kit.wrap_of (by omega) (by omega)];omega
  refine ⟨noTok (a:Int) ((s.size - a:Nat):Int),s.size - a,rfl,by omega,by omega,⟨Nat.zero_le _,fun _ h=>by cases h⟩,Nat.zero_le _,Ev.step (fun k=>by rw [impl_open.l0]) (Ev.bind hp (Kit.ev_pos rfl (Kit.ev_some hno (Ev.now _)))),Ev.step (fun k=>by rw [spec_l04Open.l0]) (Kit.ev_neg (by omega) (Ev.step (fun k=>by rw [spec_l04Open.j1]) (Kit.ev_neg Bool.false_ne_true (Kit.ev_pos (by omega) ?_))))⟩
  rw [hw]
  exact Ev.now _
 | succ d ih =>
  intro i e h1 h2 h3 h4 hbl L hL
  have hp:=ev_past s ⟨#[32,9,10,12,13,47]⟩ hs e h4
  have hse:scan (notS ⟨#[32,9,10,12,13,47]⟩) s.data.toList e=scan (notS ⟨#[32,9,10,12,13,47]⟩) s.data.toList i :=
   (scan_skip _ _ e i h3 (fun j j1 j2=>by
    obtain ⟨b,hb,hk⟩:=hbl j j1 j2
    refine ⟨b,hb,?_⟩
    unfold notS
    rw [in6,hk]
    rfl)).symm
  have hge:=scan_ge (notS ⟨#[32,9,10,12,13,47]⟩) s.data.toList e
  rw [hse] at hp hge
  have hlast:=scan_last s (notS ⟨#[32,9,10,12,13,47]⟩) i (by omega)
  have hspec:∀ r,Ev (fun k=>spec_l04Open.l0 k s (a:Int) nm ((scan (notS ⟨#[32,9,10,12,13,47]⟩) s.data.toList i:Nat):Int) 2 (a:Int) 0 nm (⟨#[]⟩:ByteArray) L (if scan (notS ⟨#[32,9,10,12,13,47]⟩) s.data.toList i=i then false else (bt s ((scan (notS ⟨#[32,9,10,12,13,47]⟩) s.data.toList i:Nat) - 1:Int) == 47))) r→Ev (fun k=>spec_l04Open.l0 k s (a:Int) nm (i:Int) 2 (a:Int) 0 nm (⟨#[]⟩:ByteArray) L false) r:=by
   intro r h
   have h9:=ev_scan s (notS ⟨#[32,9,10,12,13,47]⟩) i (L:=fun k x=>spec_l04Open.l0 k s (a:Int) nm x 2 (a:Int) 0 nm (⟨#[]⟩:ByteArray) L (if x=(i:Int) then false else (bt s (x - 1) == 47))) (r:=r) ?_ ?_
   ·simpa using h9
   ·intro j b hij hj hbt _ hpb hn
    have hin:inS ⟨#[32,9,10,12,13,47]⟩ b=true:=by unfold notS at hpb;simpa using hpb
    rw [in6,Bool.or_eq_true] at hin
    have hw1:wrap64 ((j:Int)+1)=((j+1:Nat):Int):=Kit.wrap_nat hj (by omega)
    have hn2:Ev (fun k=>spec_l04Open.l0 k s (a:Int) nm ((j+1:Nat):Int) 2 (a:Int) 0 nm (⟨#[]⟩:ByteArray) L ((bt s (j:Int)) == 47)) r:=by
     have e1:¬ ((j+1:Nat):Int)=(i:Int):=ne_succ hij
     have e2:((j+1:Nat):Int) - 1=(j:Int):=by omega
     rw [if_neg e1,e2] at hn
     exact hn
    have h62:((bt s (j:Int)) != 62)=true:=bne_iff_ne.2 (fun h=>by
     rw [hbt] at h
     have:b=62:=(num_iff b 62).1 h
     subst this
     rcases hin with hin|hin
     ·exact absurd hin (by decide)
     ·exact absurd hin (by decide))
    refine Ev.step (fun k=>by rw [spec_l04Open.l0]) (Kit.ev_pos (int_lt hj) (Kit.ev_pos (int_nonneg j) ?_))
    rw [h62]
    refine Ev.step (fun k=>by rw [spec_l04Open.j1]) (Kit.ev_pos rfl (Kit.ev_pos (int_nonneg j) (Kit.ev_pos (int_lt hj) ?_)))
    have hj2:Ev (fun k=>spec_l04Open.j2 k s (a:Int) nm (j:Int) true 2 (a:Int) 0 nm (⟨#[]⟩:ByteArray) L (if (j:Int)=(i:Int) then false else (bt s ((j:Int) - 1) == 47))) r:=by
     refine Ev.step (fun k=>by rw [spec_l04Open.j2]) (Kit.ev_pos rfl (Kit.ev_pos (int_nonneg j) (Kit.ev_pos (int_lt hj) ?_)))
     rw [hw1]
     exact hn2
    rw [hbt]
    refine Kit.ev_some (spec_blank b) (Kit.ev_if (fun _=>hj2) (fun hb=>?_))
    have:((b.toNat:Int) == 47)=true:=beq_iff_eq.2 ((num_iff b 47).2 (beq_iff_eq.1 (hin.resolve_left hb)))
    rw [this]
    exact hj2
   ·have hc:(if ((scan (notS ⟨#[32,9,10,12,13,47]⟩) s.data.toList i:Nat):Int)=(i:Int) then false else (bt s (((scan (notS ⟨#[32,9,10,12,13,47]⟩) s.data.toList i:Nat):Int) - 1) == 47))=(if scan (notS ⟨#[32,9,10,12,13,47]⟩) s.data.toList i=i then false else (bt s ((scan (notS ⟨#[32,9,10,12,13,47]⟩) s.data.toList i:Nat) - 1:Int) == 47)):=by
     by_cases e:scan (notS ⟨#[32,9,10,12,13,47]⟩) s.data.toList i=i
     ·rw [if_pos e,if_pos (by omega)]
     ·rw [if_neg e,if_neg (by omega)]
    rw [hc]
    exact h
  have hsg:∀ f,scan (notS ⟨#[32,9,10,12,13,47]⟩) s.data.toList i=f→f≤e→(if f=i then false else (bt s ((f:Int) - 1) == 47))=false:=by
   intro f _ hfe
   by_cases e1:f=i
   ·rw [if_pos e1]
   ·rw [if_neg e1]
    have hge2:=scan_ge (notS ⟨#[32,9,10,12,13,47]⟩) s.data.toList i
    obtain ⟨b,hb,hk⟩:=hbl (f - 1) (by omega) (by omega)
    have hl:f - 1<s.size:=by have:=(List.getElem?_eq_some_iff.1 hb).1;rwa [data_length] at this
    obtain ⟨c,hc,hct⟩:=byte_at3 s (f - 1) hl
    obtain rfl:b=c:=by rw [hb] at hc;exact Option.some.inj hc
    rw [show (f:Int) - 1=((f - 1:Nat):Int) by omega,hct]
    refine beq_eq_false_iff_ne.2 (fun h=>?_)
    have:b=47:=(num_iff b 47).1 h
    subst this
    exact absurd hk (by decide)
  obtain ⟨f,hf⟩:∃ f,scan (notS ⟨#[32,9,10,12,13,47]⟩) s.data.toList i=f:=⟨_,rfl⟩
  have hsf:=hsg f hf
  rw [hf] at hp hge hlast hspec
  clear hse hsg hf
  obtain ⟨p1,p2,p3⟩:=hlast
  rcases p3 with p3|⟨p3,⟨⟨b,hb,hbt,hbn⟩⟩⟩
  ·have hno:=nothing_eq a f (by omega) (by omega)
   have hw:Aside0 (wrap64 ((s.size:Int) - (a:Int))=((s.size - a:Nat):Int)):=⟨by rw [Kit.wrap_of (by omega) (by omega)];omega⟩
   rw [p3] at hno
   refine ⟨noTok (a:Int) ((s.size - a:Nat):Int),s.size - a,rfl,by omega,by omega,⟨Nat.zero_le _,fun _ h=>by cases h⟩,Nat.zero_le _,Ev.step (fun k=>by rw [impl_open.l0]) (Ev.bind hp (Kit.ev_pos (show (f:Int)=(s.size:Int) by omega) ?_)),hspec _ (Ev.step (fun k=>by rw [spec_l04Open.l0]) (Kit.ev_neg (show ¬ (f:Int)<(s.size:Int) by omega) (Ev.step (fun k=>by rw [spec_l04Open.j1]) (Kit.ev_neg Bool.false_ne_true (Kit.ev_pos (show (f:Int)≥(s.size:Int) by omega) ?_)))))⟩
   ·rw [p3]
    exact Kit.ev_some hno (Ev.now _)
   ·rw [hw.out]
    exact Ev.now _
  ·have hnin:inS ⟨#[32,9,10,12,13,47]⟩ b=false:=by unfold notS at hbn;simpa using hbn
   rw [in6,Bool.or_eq_false_iff] at hnin
   have himp:∀ r,Ev (fun k=>if (bt s (f:Int))=62 then (if (f:Int)>(e:Int) then (if 0≤(wrap64 ((f:Int) - 1)) then (if (wrap64 ((f:Int) - 1))<(s.size:Int) then (impl_open.j1 k (a:Int) (f:Int) 2 (a:Int) 0 nm (⟨#[]⟩:ByteArray) L ((bt s (wrap64 ((f:Int) - 1))) == 47)) else (none)) else (none)) else (impl_open.j1 k (a:Int) (f:Int) 2 (a:Int) 0 nm (⟨#[]⟩:ByteArray) L false)) else ((impl_attribute.f k s (f:Int)).bind fun bt324=>(if bt324.2.2.2=true then ((slices_CloneAttr.f L).bind fun t338=>((some (([(⟨bt324.1,bt324.2.1⟩:S52)]:List (S52)):List (S52))).bind fun y341=>(if t338.length+y341.length<4398046511104 then ((some (t338++y341:List (S52))).bind fun y344=>((impl_areAttrs.f y344).bind fun t347=>(if t347=true then (impl_open.l0 k s (a:Int) bt324.2.2.1 2 (a:Int) 0 nm (⟨#[]⟩:ByteArray) y344 false) else (impl_open.l0 k s (a:Int) bt324.2.2.1 2 (a:Int) 0 nm (⟨#[]⟩:ByteArray) L false)))) else (none)))) else ((impl_nothing.f (a:Int) (s.size:Int)).bind fun bt329=>(some (bt329.1,bt329.2.1,bt329.2.2.1,bt329.2.2.2.1,bt329.2.2.2.2.1,bt329.2.2.2.2.2.1,bt329.2.2.2.2.2.2)))))) r→Ev (fun k=>impl_open.l0 k s (a:Int) (e:Int) 2 (a:Int) 0 nm (⟨#[]⟩:ByteArray) L false) r:=fun r h=>by
    refine Ev.step (fun k=>by rw [impl_open.l0]) (Ev.bind hp ?_)
    refine Kit.ev_neg (show ¬ (f:Int)=(s.size:Int) by omega) ?_
    refine Kit.ev_pos (int_nonneg f) ?_
    exact Kit.ev_pos (int_lt p3) h
   by_cases h62:b=62
   case pos =>
    have hbt62:bt s (f:Int)=62:=by rw [hbt,h62];rfl
    obtain ⟨g,hg⟩:∃ g:Bool,g=(if f=i then false else (bt s ((f:Int) - 1) == 47)):=⟨_,rfl⟩
    rw [←hg] at hspec hsf
    have hw2:Aside0 (wrap64 (wrap64 ((f:Int)+1) - (a:Int))=((f+1 - a:Nat):Int)):=⟨by
     have hw1:wrap64 ((f:Int)+1)=((f+1:Nat):Int):=Kit.wrap_nat p3 (by omega)
     rw [hw1,Kit.wrap_of (by omega) (by omega)]
     omega⟩
    have hw1:Aside0 (wrap64 ((f:Int)+1)=((f+1:Nat):Int)):=⟨Kit.wrap_nat p3 (by omega)⟩
    have him2:∀ r,Ev (fun k=>impl_open.j1 k (a:Int) (f:Int) 2 (a:Int) 0 nm (⟨#[]⟩:ByteArray) L g) r→Ev (fun k=>impl_open.l0 k s (a:Int) (e:Int) 2 (a:Int) 0 nm (⟨#[]⟩:ByteArray) L false) r:=by
     intro r h
     refine himp r (Kit.ev_pos hbt62 (Kit.ev_if (fun hfe=>?_) (fun hfe=>?_)))
     ·have hw3:wrap64 ((f:Int) - 1)=(f:Int) - 1:=Kit.wrap_of (by omega) (by omega)
      rw [hw3]
      refine Kit.ev_pos (by omega) (Kit.ev_pos (by omega) ?_)
      rw [if_neg (by omega)] at hg
      rw [←hg]
      exact h
     ·rw [hsf (by omega)] at h
      exact h
    have hsp2:∀ r,Ev (fun k=>(spec_l01Tag.f k nm).bind fun t188=>(if t188=true then (some ((2:Int),(a:Int),wrap64 ((wrap64 ((f:Int)+1)) - (a:Int)),nm,(⟨#[]⟩:ByteArray),L,g)) else (some ((5:Int),(a:Int),wrap64 ((wrap64 ((f:Int)+1)) - (a:Int)),(⟨#[]⟩:ByteArray),(⟨#[]⟩:ByteArray),([]:List (S52)),false)))) r→Ev (fun k=>spec_l04Open.l0 k s (a:Int) nm (i:Int) 2 (a:Int) 0 nm (⟨#[]⟩:ByteArray) L false) r:=by
     intro r h
     refine hspec r (Ev.step (fun k=>by rw [spec_l04Open.l0]) (Kit.ev_pos (by omega) (Kit.ev_pos (by omega) ?_)))
     rw [bne_eq_false_iff_eq.2 hbt62]
     exact Ev.step (fun k=>by rw [spec_l04Open.j1]) (Kit.ev_neg Bool.false_ne_true (Kit.ev_neg (by omega) h))
    have g1:1≤f+1 - a:=by omega
    have g2:a+(f+1 - a)≤s.size:=by omega
    cases hb2:Kit.isTag nm with
    | true =>
     rw [hb2] at ht1 ht2
     refine ⟨(2,(a:Int),((f+1 - a:Nat):Int),nm,⟨#[]⟩,L,g),f+1 - a,rfl,g1,g2,hL,hnm,him2 _ (Ev.step (fun k=>by rw [impl_open.j1]) (Ev.bind ht1 (Kit.ev_pos rfl ?_))),hsp2 _ (Ev.bind ht2 (Kit.ev_pos rfl ?_))⟩
     ·rw [hw2.out];exact Ev.now _
     ·rw [hw2.out];exact Ev.now _
    | false =>
     rw [hb2] at ht1 ht2
     have hno:=nothing_eq a (f+1) (by omega) (by omega)
     refine ⟨noTok (a:Int) ((f+1 - a:Nat):Int),f+1 - a,rfl,g1,g2,⟨Nat.zero_le _,fun _ h=>by cases h⟩,Nat.zero_le _,him2 _ (Ev.step (fun k=>by rw [impl_open.j1]) (Ev.bind ht1 (Kit.ev_neg Bool.false_ne_true ?_))),hsp2 _ (Ev.bind ht2 (Kit.ev_neg Bool.false_ne_true ?_))⟩
     ·rw [hw1.out];exact Kit.ev_some hno (Ev.now _)
     ·rw [hw2.out];exact Ev.now _
   case neg =>
    have hne62:¬ bt s (f:Int)=62:=by rw [hbt];exact fun h=>h62 ((num_iff b 62).1 h)
    have hb47:b≠47:=beq_eq_false_iff_ne.1 hnin.2
    obtain ⟨n,v,v',e',i',ok,ha1,ha2,hn,hfi,hi',hrel⟩:=attr_both s hs f p3 b hbt hnin.1 hb47 h62
    have hkp:=fun v=>ev_keep L n v hL hn
    have hsp2:∀ r,Ev (fun k=>(spec_l04Keep.f k L n v').bind fun t185=>(spec_l04Open.l0 k s (a:Int) nm (i':Int) 2 (a:Int) 0 nm (⟨#[]⟩:ByteArray) t185 false)) r→Ev (fun k=>spec_l04Open.l0 k s (a:Int) nm (i:Int) 2 (a:Int) 0 nm (⟨#[]⟩:ByteArray) L false) r:=by
     intro r h
     refine hspec r (Ev.step (fun k=>by rw [spec_l04Open.l0]) (Kit.ev_pos (by omega) (Kit.ev_pos (by omega) ?_)))
     rw [bne_iff_ne.2 hne62]
     refine Ev.step (fun k=>by rw [spec_l04Open.j1]) (Kit.ev_pos rfl (Kit.ev_pos (by omega) (Kit.ev_pos (by omega) ?_)))
     rw [hbt]
     refine Kit.ev_some (spec_blank b) (Kit.ev_neg (by rw [hnin.1];exact Bool.false_ne_true) ?_)
     rw [show ((b.toNat:Int) == 47)=false from beq_eq_false_iff_ne.2 (fun h=>hb47 ((num_iff b 47).1 h))]
     exact Ev.step (fun k=>by rw [spec_l04Open.j2]) (Kit.ev_neg Bool.false_ne_true (Ev.bind ha2 h))
    rcases hrel with ⟨rfl,rfl,r1,r2,r3⟩|⟨rfl,rfl⟩
    ·have hL2:Small6 (if attrsOK (L++[⟨n,v'⟩])=true then L++[⟨n,v'⟩] else L):=by
      by_cases hk:attrsOK (L++[⟨n,v'⟩])=true
      ·rw [if_pos hk];exact (small_next hL hn).2 hk
      ·rw [if_neg hk];exact hL
     obtain ⟨t,m,t1,t2,t3,t4,t5,t6,t7⟩:=ih i' e' (by omega) (by omega) r1 r2 r3 _ hL2
     refine ⟨t,m,t1,t2,t3,t4,t5,himp _ (Kit.ev_neg hne62 (Ev.bind ha1 (Kit.ev_pos rfl ?_))),hsp2 _ (Ev.bind (hkp v') t7)⟩
     have hcl:slices_CloneAttr.f L=some L:=by unfold slices_CloneAttr.f;rw [if_pos (by have:=hL.1;omega)]
     have har:impl_areAttrs.f (L++[⟨n,v'⟩])=some (attrsOK (L++[⟨n,v'⟩])):=by unfold impl_areAttrs.f;rw [if_pos (small_next hL hn).1]
     refine Kit.ev_some hcl (Kit.ev_some rfl (Kit.ev_pos (by rw [List.length_singleton];have:=hL.1;omega) (Kit.ev_some rfl (Kit.ev_some har (Kit.ev_if (fun hk=>?_) (fun hk=>?_))))))
     ·rw [if_pos hk] at t6;exact t6
     ·rw [if_neg hk] at t6;exact t6
    ·have hno:=nothing_eq a s.size (by omega) hs
     have hw:Aside0 (wrap64 ((s.size:Int) - (a:Int))=((s.size - a:Nat):Int)):=⟨by rw [Kit.wrap_of (by omega) (by omega)];omega⟩
     have g1:1≤s.size - a:=by omega
     have g2:a+(s.size - a)≤s.size:=by omega
     refine ⟨noTok (a:Int) ((s.size - a:Nat):Int),s.size - a,rfl,g1,g2,⟨Nat.zero_le _,fun _ h=>by cases h⟩,Nat.zero_le _,himp _ (Kit.ev_neg hne62 (Ev.bind ha1 (Kit.ev_neg Bool.false_ne_true (Kit.ev_some hno (Ev.now _))))),hsp2 _ (Ev.bind (hkp v') (Ev.step (fun k=>by rw [spec_l04Open.l0]) (Kit.ev_neg (by omega) (Ev.step (fun k=>by rw [spec_l04Open.j1]) (Kit.ev_neg Bool.false_ne_true (Kit.ev_pos (by omega) ?_))))))⟩
     rw [hw.out]
     exact Ev.now _
theorem open_both (s:ByteArray) (hs:s.size≤1048576) (a:Nat) (ha:a<s.size):∃ (t:TKN) (n:Nat),t.2.2.1=(n:Int)∧1≤n∧a+n≤s.size∧Small6 t.2.2.2.2.2.1∧t.2.2.2.1.size≤1048576∧Ev (fun k=>impl_open.f k s (a:Int)) t∧Ev (fun k=>spec_l04Open.f k s (a:Int)) t:=by
 have hw:wrap64 ((a:Int)+1)=((a+1:Nat):Int):=Kit.wrap_nat ha (by omega)
 have hup:=ev_upTo s ⟨#[32,9,10,12,13,47,62]⟩ hs (a+1) (by omega)
 have hnm:=ev_l04Name s hs (a+1) (by omega)
 have hlast:=scan_last s (inS ⟨#[32,9,10,12,13,47,62]⟩) (a+1) (by omega)
 generalize scan (inS ⟨#[32,9,10,12,13,47,62]⟩) s.data.toList (a+1)=e at *
 obtain ⟨h1,h2,-⟩:=hlast
 have hxs:=ex_size s (a+1) e h2
 have hlow:=lower_ok (s.extract (a+1) e) (by omega)
 have hls:(lowS (s.extract (a+1) e)).size≤1048576:=by
  have h:=congrArg List.length (lowS_bytes (s.extract (a+1) e))
  rw [List.length_map,bytesOf_length,bytesOf_length] at h
  omega
 generalize lowS (s.extract (a+1) e)=nm at *
 obtain ⟨t,n,t1,t2,t3,t4,t5,t6,t7⟩:=open_loop s hs a ha nm hls s.size e e (by omega) (by omega) (Nat.le_refl _) h2 (fun j j1 j2=>absurd j2 (by omega)) [] ⟨Nat.zero_le _,fun _ h=>by cases h⟩
 refine ⟨t,n,t1,t2,t3,t4,t5,?_,?_⟩
 ·unfold impl_open.f
  rw [hw]
  refine Ev.bind hup (Kit.ev_pos (by omega) (Kit.ev_pos (by omega) (Kit.ev_pos (by omega) ?_)))
  rw [Int.toNat_natCast,Int.toNat_natCast]
  exact Kit.ev_some hlow t6
 ·unfold spec_l04Open.f
  rw [hw]
  exact Ev.bind hnm t7
/- One token. -/
theorem bt_tail (s:ByteArray) (i j:Nat) (h:i+j<s.size):bt (s.extract i s.size) (j:Int)=bt s ((i+j:Nat):Int):=by
 have hsz:(s.extract i s.size).size=s.size - i:=by rw [ByteArray.size_extract];omega
 obtain ⟨b,hb,e1⟩:=byte_at3 (s.extract i s.size) j (by omega)
 obtain ⟨c,hc,e2⟩:=byte_at3 s (i+j) h
 rw [ByteArray.data_extract,Array.toList_extract,List.extract_eq_take_drop,List.getElem?_take,if_pos (by omega),List.getElem?_drop] at hb
 rw [hb] at hc
 rw [e1,e2,Option.some.inj hc]
theorem pre4 (s:ByteArray) (i:Nat) (hi:i≤s.size):strings_HasPrefix.f (s.extract i s.size) (⟨#[60,33,45,45]⟩:ByteArray)=some (if i+4≤s.size then ((s.extract i (i+4)).toList == ([60,33,45,45]:List UInt8)) else false):=by
 have hsz:(s.extract i s.size).size=s.size - i:=by rw [ByteArray.size_extract];omega
 have h4:((⟨#[60,33,45,45]⟩:ByteArray).size:Int)=4:=rfl
 have hl:(⟨#[60,33,45,45]⟩:ByteArray).toList=[60,33,45,45]:=by rw [ByteArray.toList_eq]
 unfold strings_HasPrefix.f stringslite_HasPrefix.f
 rw [hsz,h4,hl]
 by_cases h:i+4≤s.size
 ·have hx:(s.extract i s.size).extract 0 ((4:Int)).toNat=s.extract i (i+4):=by
   rw [ByteArray.extract_extract,Nat.add_zero,Nat.min_eq_left (show i+(4:Int).toNat≤s.size from h)]
   rfl
  rw [if_pos (by omega),if_pos (by omega),if_pos (by omega),if_pos h,hx]
  rfl
 ·rw [if_neg (by omega),if_neg h]
  rfl
/-- Both sides tell the same token, which is not empty and stays within the text. -/
def Both (s:ByteArray) (i:Nat) (F G:Nat→Option TKN):Prop:=∃ (t:TKN) (n:Nat),t.2.2.1=(n:Int)∧1≤n∧i+n≤s.size∧Small6 t.2.2.2.2.2.1∧t.2.2.2.1.size≤1048576∧Ev F t∧Ev G t
theorem Both.mono {s:ByteArray} {i:Nat} {F G F' G':Nat→Option TKN} (h:Both s i F G) (f:∀ t,Ev F t→Ev F' t) (g:∀ t,Ev G t→Ev G' t):Both s i F' G':=by
 obtain ⟨t,n,a,b,c,d,e,p,q⟩:=h
 exact ⟨t,n,a,b,c,d,e,f t p,g t q⟩
theorem words2 (s:ByteArray) (hs:s.size≤1048576) (i:Nat) (hi:i<s.size):Both s i (fun k=>(impl_upTo.f k s (wrap64 ((i:Int)+1)) (⟨#[60]⟩:ByteArray)).bind fun t430=>(if 0≤(i:Int) then (if (i:Int)≤t430 then (if t430≤(s.size:Int) then ((impl_unescape.f k (s.extract (i:Int).toNat (t430:Int).toNat)).bind fun t431=>(some ((1:Int),(i:Int),wrap64 (t430 - (i:Int)),(⟨#[]⟩:ByteArray),t431,([]:List S52),false))) else (none)) else (none)) else (none))) (fun k=>spec_l04Words.f k s (i:Int)):=by
 obtain ⟨e,u,h1,h2,h3,h4⟩:=words_both s hs i hi
 exact ⟨_,e - i,rfl,by omega,by omega,small_nil,Nat.zero_le _,h4,h3⟩
theorem j3_both (s:ByteArray) (hs:s.size≤1048576) (i:Nat) (hi:i+2≤s.size) (b:Bool):Both s i (fun k=>impl_nextToken.j3 k s (i:Int) b) (fun k=>spec_l04Next.j4 k s (i:Int) b):=by
 cases b with
 | true =>
  have hw:wrap64 ((i:Int)+2)=((i+2:Nat):Int):=by rw [Kit.wrap_of (by omega) (by omega)];omega
  obtain ⟨t,d,a,b,c,e,f,h1,h2⟩:=comment_both s ⟨#[62]⟩ hs (Nat.le_refl 1) (show (1:Nat)≤1048576 by omega) i (i+2) (by omega) hi
  refine ⟨t,d,a,b,c,e,f,Ev.step (fun k=>by rw [impl_nextToken.j3]) (Kit.ev_pos rfl ?_),Ev.step (fun k=>by rw [spec_l04Next.j4]) (Kit.ev_pos rfl ?_)⟩
  ·rw [hw];exact Kit.ev_some h1 (Ev.now _)
  ·rw [hw];exact Ev.bind h2 (Ev.now _)
 | false =>
  refine (words2 s hs i (by omega)).mono (fun t h=>?_) (fun t h=>?_)
  ·refine Ev.step (fun k=>by rw [impl_nextToken.j3]) (Kit.ev_neg Bool.false_ne_true ?_)
   exact h
  ·refine Ev.step (fun k=>by rw [spec_l04Next.j4]) (Kit.ev_neg Bool.false_ne_true ?_)
   exact Ev.bind h (Ev.now _)
theorem j2_both (s:ByteArray) (hs:s.size≤1048576) (i:Nat) (hi:i+2≤s.size) (q:Int):Both s i (fun k=>impl_nextToken.j2 k s (i:Int) (s.extract i s.size) q false) (fun k=>spec_l04Next.j2 k s (i:Int) q false):=by
 have hp:=pre4 s i (by omega)
 have hw4:wrap64 ((i:Int)+4)=((i+4:Nat):Int):=by rw [Kit.wrap_of (by omega) (by omega)];omega
 obtain ⟨z,hz⟩:∃ z,(if i+4≤s.size then ((s.extract i (i+4)).toList == ([60,33,45,45]:List UInt8)) else false)=z:=⟨_,rfl⟩
 rw [hz] at hp
 have hsp:∀ t,Ev (fun k=>spec_l04Next.j3 k s (i:Int) q z) t→Ev (fun k=>spec_l04Next.j2 k s (i:Int) q false) t:=by
  intro t h
  refine Ev.step (fun k=>by rw [spec_l04Next.j2]) (Kit.ev_neg Bool.false_ne_true ?_)
  rw [hw4]
  refine Kit.ev_if (fun h5=>Kit.ev_pos (int_nonneg i) (Kit.ev_pos (by omega) ?_)) (fun h5=>?_)
  ·rw [if_pos (by omega)] at hz
   rw [Int.toNat_natCast,Int.toNat_natCast,hz]
   exact h
  ·rw [if_neg (by omega)] at hz
   rw [hz]
   exact h
 cases z with
 | true =>
  have h4:i+4≤s.size:=by
   by_cases h:i+4≤s.size
   ·exact h
   ·rw [if_neg h] at hz;exact absurd hz Bool.false_ne_true
  obtain ⟨t,d,a,b,c,e,f,h1,h2⟩:=comment_both s ⟨#[45,45,62]⟩ hs (show 1≤3 by omega) (show (3:Nat)≤1048576 by omega) i (i+4) (by omega) h4
  refine ⟨t,d,a,b,c,e,f,Ev.step (fun k=>by rw [impl_nextToken.j2]) (Kit.ev_neg Bool.false_ne_true (Kit.ev_some hp (Kit.ev_pos rfl ?_))),hsp t (Ev.step (fun k=>by rw [spec_l04Next.j3]) (Kit.ev_pos rfl ?_))⟩
  ·rw [hw4];exact Kit.ev_some h1 (Ev.now _)
  ·rw [hw4];exact Ev.bind h2 (Ev.now _)
 | false =>
  have hrest:Both s i (fun k=>if q=33 then (impl_nextToken.j3 k s (i:Int) true) else (if q=63 then (impl_nextToken.j3 k s (i:Int) true) else (impl_nextToken.j3 k s (i:Int) (q == 47)))) (fun k=>if q=33 then (spec_l04Next.j4 k s (i:Int) true) else (if q=63 then (spec_l04Next.j4 k s (i:Int) true) else (spec_l04Next.j4 k s (i:Int) (q == 47)))):=by
   by_cases h1:q=33
   ·exact (j3_both s hs i hi true).mono (fun t h=>Kit.ev_pos h1 h) (fun t h=>Kit.ev_pos h1 h)
   ·by_cases h2:q=63
    ·exact (j3_both s hs i hi true).mono (fun t h=>Kit.ev_neg h1 (Kit.ev_pos h2 h)) (fun t h=>Kit.ev_neg h1 (Kit.ev_pos h2 h))
    ·exact (j3_both s hs i hi (q == 47)).mono (fun t h=>Kit.ev_neg h1 (Kit.ev_neg h2 h)) (fun t h=>Kit.ev_neg h1 (Kit.ev_neg h2 h))
  refine hrest.mono (fun t h=>?_) (fun t h=>hsp t ?_)
  ·refine Ev.step (fun k=>by rw [impl_nextToken.j2]) (Kit.ev_neg Bool.false_ne_true (Kit.ev_some hp (Kit.ev_neg Bool.false_ne_true ?_)))
   exact h
  ·refine Ev.step (fun k=>by rw [spec_l04Next.j3]) (Kit.ev_neg Bool.false_ne_true ?_)
   exact h
theorem plain_both (s:ByteArray) (hs:s.size≤1048576) (i:Nat) (hi:i<s.size):Both s i (fun k=>impl_nextToken.j0 k s (i:Int)) (fun k=>spec_l04Next.j0 k s (i:Int)):=by
 have hsz:(s.extract i s.size).size=s.size - i:=by rw [ByteArray.size_extract];omega
 have hw1:wrap64 ((i:Int)+1)=((i+1:Nat):Int):=Kit.wrap_nat hi (by omega)
 have hb0:bt (s.extract i s.size) 0=bt s (i:Int):=bt_tail s i 0 hi
 have him:∀ t b,(if bt s (i:Int)=60 then decide (((s.extract i s.size).size:Int)>1) else false)=b→Ev (fun k=>impl_nextToken.j1 k s (i:Int) (s.extract i s.size) b) t→Ev (fun k=>impl_nextToken.j0 k s (i:Int)) t:=by
  intro t b hb h
  refine Ev.step (fun k=>by rw [impl_nextToken.j0]) (Kit.ev_pos (int_nonneg i) (Kit.ev_pos (Int.ofNat_le.2 (Nat.le_of_lt hi)) ?_))
  rw [Int.toNat_natCast]
  refine Kit.ev_pos (show (0:Int)<((s.extract i s.size).size:Int) by omega) ?_
  rw [hb0]
  refine Kit.ev_if (fun h6=>?_) (fun h6=>?_)
  ·rw [if_pos h6] at hb;rw [hb];exact h
  ·rw [if_neg h6] at hb;rw [hb];exact h
 have hsp:∀ t b,(if bt s (i:Int)=60 then (((i+1:Nat):Int) == (s.size:Int)) else true)=b→Ev (fun k=>spec_l04Next.j1 k s (i:Int) b) t→Ev (fun k=>spec_l04Next.j0 k s (i:Int)) t:=by
  intro t b hb h
  refine Ev.step (fun k=>by rw [spec_l04Next.j0]) (Kit.ev_pos (int_nonneg i) (Kit.ev_pos (int_lt hi) ?_))
  rw [hw1]
  refine Kit.ev_if (fun h6=>?_) (fun h6=>?_)
  ·rw [if_pos h6] at hb;rw [hb];exact h
  ·rw [if_neg h6] at hb;rw [hb];exact h
 by_cases hA:bt s (i:Int)=60∧i+1<s.size
 case neg =>
  refine (words2 s hs i hi).mono (fun t h=>him t false ?_ ?_) (fun t h=>hsp t true ?_ ?_)
  ·by_cases h6:bt s (i:Int)=60
   ·rw [if_pos h6]
    have:¬ i+1<s.size:=fun h7=>hA ⟨h6,h7⟩
    exact decide_eq_false (by omega)
   ·rw [if_neg h6]
  ·refine Ev.step (fun k=>by rw [impl_nextToken.j1]) (Kit.ev_neg Bool.false_ne_true ?_)
   exact h
  ·by_cases h6:bt s (i:Int)=60
   ·rw [if_pos h6]
    have:¬ i+1<s.size:=fun h7=>hA ⟨h6,h7⟩
    exact beq_iff_eq.2 (by omega)
   ·rw [if_neg h6]
  ·refine Ev.step (fun k=>by rw [spec_l04Next.j1]) (Kit.ev_pos rfl ?_)
   exact Ev.bind h (Ev.now _)
 case pos =>
  obtain ⟨h6,h7⟩:=hA
  rw [if_pos h6] at him hsp
  have hw2:wrap64 ((i:Int)+2)=((i+2:Nat):Int):=by rw [Kit.wrap_of (by omega) (by omega)];omega
  have hb1:bt (s.extract i s.size) 1=bt s ((i+1:Nat):Int):=bt_tail s i 1 h7
  obtain ⟨b1,-,e1⟩:=byte_at3 s (i+1) h7
  obtain ⟨r1,l1,m1⟩:=letters b1
  rw [←e1] at l1 m1
  clear e1
  have hj2:=j2_both s hs i h7 (bt s ((i+1:Nat):Int))
  have hI:∀ t,Ev (fun k=>if r1=true then ((impl_open.f k s (i:Int)).bind fun bt390=>(some (bt390.1,bt390.2.1,bt390.2.2.1,bt390.2.2.2.1,bt390.2.2.2.2.1,bt390.2.2.2.2.2.1,bt390.2.2.2.2.2.2))) else (if (bt s ((i+1:Nat):Int))=47 then (if ((s.extract i s.size).size:Int)>2 then (if 2<((s.extract i s.size).size:Int) then ((impl_isLetter.f (bt (s.extract i s.size) 2)).bind fun t399=>(impl_nextToken.j2 k s (i:Int) (s.extract i s.size) (bt s ((i+1:Nat):Int)) t399)) else (none)) else (impl_nextToken.j2 k s (i:Int) (s.extract i s.size) (bt s ((i+1:Nat):Int)) false)) else (impl_nextToken.j2 k s (i:Int) (s.extract i s.size) (bt s ((i+1:Nat):Int)) false))) t→Ev (fun k=>impl_nextToken.j0 k s (i:Int)) t:=by
   intro t h
   refine him t true (decide_eq_true (by omega)) ?_
   refine Ev.step (fun k=>by rw [impl_nextToken.j1]) (Kit.ev_pos rfl (Kit.ev_pos (show (1:Int)<((s.extract i s.size).size:Int) by omega) ?_))
   rw [hb1]
   exact Kit.ev_some l1 h
  have hS:∀ t,Ev (fun k=>if r1=true then ((spec_l04Open.f k s (i:Int)).bind fun bt210=>(some (bt210.1,bt210.2.1,bt210.2.2.1,bt210.2.2.2.1,bt210.2.2.2.2.1,bt210.2.2.2.2.2.1,bt210.2.2.2.2.2.2))) else (if (bt s ((i+1:Nat):Int))=47 then (if ((i+2:Nat):Int)<(s.size:Int) then (if 0≤((i+2:Nat):Int) then ((spec_l04Letter.f (bt s ((i+2:Nat):Int))).bind fun t219=>(spec_l04Next.j2 k s (i:Int) (bt s ((i+1:Nat):Int)) t219)) else (none)) else (spec_l04Next.j2 k s (i:Int) (bt s ((i+1:Nat):Int)) false)) else (spec_l04Next.j2 k s (i:Int) (bt s ((i+1:Nat):Int)) false))) t→Ev (fun k=>spec_l04Next.j0 k s (i:Int)) t:=by
   intro t h
   refine hsp t false (beq_eq_false_iff_ne.2 (by omega)) ?_
   refine Ev.step (fun k=>by rw [spec_l04Next.j1]) (Kit.ev_neg Bool.false_ne_true ?_)
   rw [hw1,hw2]
   refine Kit.ev_pos (int_nonneg _) (Kit.ev_pos (int_lt h7) ?_)
   exact Kit.ev_some m1 h
  cases r1 with
  | true =>
   have ho:Both s i (fun k=>impl_open.f k s (i:Int)) (fun k=>spec_l04Open.f k s (i:Int)):=open_both s hs i hi
   exact ho.mono (fun t h=>hI t (Kit.ev_pos rfl (Ev.bind h (Ev.now _)))) (fun t h=>hS t (Kit.ev_pos rfl (Ev.bind h (Ev.now _))))
  | false =>
   by_cases h47:bt s ((i+1:Nat):Int)=47
   case neg=>exact hj2.mono (fun t h=>hI t (Kit.ev_neg Bool.false_ne_true (Kit.ev_neg h47 h))) (fun t h=>hS t (Kit.ev_neg Bool.false_ne_true (Kit.ev_neg h47 h)))
   case pos =>
    by_cases h8:i+2<s.size
    case neg=>exact hj2.mono (fun t h=>hI t (Kit.ev_neg Bool.false_ne_true (Kit.ev_pos h47 (Kit.ev_neg (by omega) h)))) (fun t h=>hS t (Kit.ev_neg Bool.false_ne_true (Kit.ev_pos h47 (Kit.ev_neg (by omega) h))))
    case pos =>
     have hb2:bt (s.extract i s.size) 2=bt s ((i+2:Nat):Int):=bt_tail s i 2 h8
     rw [hb2] at hI
     obtain ⟨b2,-,e2⟩:=byte_at3 s (i+2) h8
     obtain ⟨r2,l2,m2⟩:=letters b2
     rw [←e2] at l2 m2
     clear e2
     have hI2:∀ t,Ev (fun k=>impl_nextToken.j2 k s (i:Int) (s.extract i s.size) (bt s ((i+1:Nat):Int)) r2) t→Ev (fun k=>impl_nextToken.j0 k s (i:Int)) t:=fun t h =>
      hI t (Kit.ev_neg Bool.false_ne_true (Kit.ev_pos h47 (Kit.ev_pos (by omega) (Kit.ev_pos (by omega) (Kit.ev_some l2 h)))))
     have hS2:∀ t,Ev (fun k=>spec_l04Next.j2 k s (i:Int) (bt s ((i+1:Nat):Int)) r2) t→Ev (fun k=>spec_l04Next.j0 k s (i:Int)) t:=fun t h =>
      hS t (Kit.ev_neg Bool.false_ne_true (Kit.ev_pos h47 (Kit.ev_pos (int_lt h8) (Kit.ev_pos (int_nonneg _) (Kit.ev_some m2 h)))))
     cases r2 with
     | false=>exact hj2.mono hI2 hS2
     | true =>
      have hc:Both s i (fun k=>impl_closes.f k s (i:Int)) (fun k=>spec_l04Close.f k s (i:Int)):=closes_both s hs i h7
      refine hc.mono (fun t h=>hI2 t ?_) (fun t h=>hS2 t ?_)
      ·refine Ev.step (fun k=>by rw [impl_nextToken.j2]) (Kit.ev_pos rfl ?_)
       exact Ev.bind h (Ev.now _)
      ·refine Ev.step (fun k=>by rw [spec_l04Next.j2]) (Kit.ev_pos rfl ?_)
       exact Ev.bind h (Ev.now _)
theorem next_both (s w:ByteArray) (hs:s.size≤1048576) (hw:w.size≤1048576) (i:Nat) (hi:i<s.size):Both s i (fun k=>impl_nextToken.f k s (i:Int) w) (fun k=>spec_l04Next.f k s (i:Int) w):=by
 have hp:=plain_both s hs i hi
 unfold impl_nextToken.f spec_l04Next.f
 by_cases h0:w.toList=([]:List UInt8)
 ·exact hp.mono (fun t h=>Kit.ev_pos h0 h) (fun t h=>Kit.ev_pos h0 h)
 ·obtain ⟨r,h1,h2,h3,h4⟩:=raw_both s w hs hw i (Nat.le_of_lt hi)
  by_cases h5:r>i
  ·have hwr:wrap64 ((r:Int) - (i:Int))=((r - i:Nat):Int):=by rw [Kit.wrap_of (by omega) (by omega)];omega
   refine ⟨(1,(i:Int),((r - i:Nat):Int),⟨#[]⟩,s.extract i r,[],false),r - i,rfl,by omega,by omega,small_nil,Nat.zero_le _,Kit.ev_neg h0 (Ev.bind h3 (Kit.ev_pos (int_lt h5) (Kit.ev_pos (int_nonneg i) (Kit.ev_pos (Int.ofNat_le.2 h1) (Kit.ev_pos (Int.ofNat_le.2 h2) ?_))))),Kit.ev_neg h0 (Ev.bind h4 (Kit.ev_pos (int_lt h5) (Kit.ev_pos (int_nonneg i) (Kit.ev_pos (Int.ofNat_le.2 h1) (Kit.ev_pos (Int.ofNat_le.2 h2) ?_)))))⟩
   ·rw [hwr];exact Ev.now _
   ·rw [hwr];exact Ev.now _
  ·exact hp.mono (fun t h=>Kit.ev_neg h0 (Ev.bind h3 (Kit.ev_neg (by omega) h))) (fun t h=>Kit.ev_neg h0 (Ev.bind h4 (Kit.ev_neg (by omega) h)))
/- Tokens alike, marks of attributes. -/
theorem ev_eqToken (t:TKN) (h:t.2.2.2.2.2.1.length≤1048576):Ev (fun k=>laws_eqToken.f k t.1 t.2.1 t.2.2.1 t.2.2.2.1 t.2.2.2.2.1 t.2.2.2.2.2.1 t.2.2.2.2.2.2 t.1 t.2.1 t.2.2.1 t.2.2.2.1 t.2.2.2.2.1 t.2.2.2.2.2.1 t.2.2.2.2.2.2) true:=by
 have he:=ev_eqAttrS t.2.2.2.2.2.1 h
 unfold laws_eqToken.f
 refine Kit.ev_pos rfl (Kit.ev_pos rfl (Kit.ev_pos rfl (Kit.ev_pos rfl (Kit.ev_pos rfl (Ev.bind he (Kit.ev_pos rfl (Kit.ev_neg ?_ (Ev.now _))))))))
 rw [bne_self_eq_false]
 exact Bool.false_ne_true
theorem rdB_nat (xs:List S52) (i:Nat):rd_T52 xs (i:Int)=xs.getD i z52:=by simp [rd_T52]
/- Marks: their texts are there whatever the number. -/
theorem ev_shift {α : Type} {f g:Nat→Option α} {r : α} (n:Nat) (h:∀ k,g (k+n)=f k) (k:Ev f r):Ev g r:=by
 obtain ⟨K,hK⟩:=k
 refine ⟨K+n,fun k hk=>?_⟩
 obtain ⟨j,rfl⟩:∃ j,k=j+n:=⟨k - n,by omega⟩
 rw [h]
 exact hK j (by omega)
theorem one_size (c:Int):(strOfNums [c % 256]).size=1:=by
 rw [Kit.size_eq,Kit.bytesOf_strOf (fun x hx=>by
  rw [List.mem_singleton] at hx
  subst hx
  omega)]
 rfl
theorem ev_markText0:∀ (m:Nat) (a:Int),a<10 ^ m→a≤9223372036854775807→∀ s:ByteArray,s.size+m≤1000→∃ t,Ev (fun k=>laws_markText.l0 k a s) t:=by
 intro m
 induction m with
 | zero =>
  intro a ha _ s hs
  refine ⟨_,Ev.step (fun k=>rfl) (Kit.ev_neg (by omega) (Kit.ev_pos (by omega) (Ev.now _)))⟩
 | succ m ih =>
  intro a ha hb s hs
  by_cases h:a>0
  case neg=>exact ⟨_,Ev.step (fun k=>rfl) (Kit.ev_neg h (Kit.ev_pos (by omega) (Ev.now _)))⟩
  case pos =>
   have hq:Int.tdiv a 10<10 ^ m:=by
    rw [Int.tdiv_eq_ediv_of_nonneg (by omega)]
    have h1:(10:Int) ^ (m+1)=10 ^ m * 10:=Int.pow_succ 10 m
    rw [h1] at ha
    omega
   have hw:wrap64 (Int.tdiv a 10)=Int.tdiv a 10:=by
    rw [Int.tdiv_eq_ediv_of_nonneg (by omega)]
    exact Kit.wrap_of (by omega) (by omega)
   obtain ⟨t,ht⟩:=ih (Int.tdiv a 10) hq (by rw [Int.tdiv_eq_ediv_of_nonneg (by omega)];omega) (strOfNums [(wrap64 (48+(Int.tmod a 10))) % 256]++s) (by rw [ByteArray.size_append,one_size];omega)
   refine ⟨t,Ev.step (fun k=>rfl) (Kit.ev_pos h (Kit.ev_some rfl (Kit.ev_pos (by rw [one_size];omega) ?_)))⟩
   rw [hw]
   exact ht
theorem ev_markText (a:Int) (h:a≤9223372036854775807):∃ t,Ev (fun k=>laws_markText.f k a) t:=by
 unfold laws_markText.f
 by_cases h0:a≤0
 case pos=>exact ⟨_,Kit.ev_pos h0 (Ev.now _)⟩
 case neg =>
  obtain ⟨t,ht⟩:=ev_markText0 19 a (by omega) h (⟨#[]⟩:ByteArray) (by decide)
  exact ⟨t,Kit.ev_neg h0 ht⟩
/- Marks of trees are held. -/
theorem take_next {α : Type} (d : α) {l acc:List α} {i:Nat} {v : α} (h:l.take (i+1)=(acc.set i v).take (i+1)) (hi:i<acc.length) (_hl:i<l.length):l.getD i d=v∧l.take i=acc.take i:=by
 constructor
 ·have h3:=congrArg (fun l=>l[i]?) h
  simp only [List.getElem?_take] at h3
  rw [if_pos (by omega),if_pos (by omega),List.getElem?_set,if_pos rfl,if_pos (by omega)] at h3
  rw [List.getD_eq_getElem?_getD,h3]
  rfl
 ·have h3:=congrArg (List.take i) h
  rw [List.take_take,List.take_take,Nat.min_eq_left (by omega)] at h3
  rw [h3,List.take_set_of_le (Nat.le_refl _)]
theorem ev_mhAttrS (n:Nat) (l:List S52) (hl:l.length=n) (a:Int) (h0:0≤a) (h:a+2 * (n:Int)≤1000000000):∃ l':List S52,Ev (fun k=>laws_markAttrS.f k l a) (a+2 * (n:Int),l')∧Ev (fun k=>laws_heldAttrS.f k l' a) (a+2 * (n:Int)):=by
 have key:∀ i,i≤n→∀ acc:List S52,acc.length=n→∃ l':List S52,l'.length=n∧l'.take i=acc.take i∧Ev (fun k=>laws_markAttrS.l0 k acc (a+2 * (i:Int)) (i:Int)) (a+2 * (n:Int),l')∧Ev (fun k=>laws_heldAttrS.l0 k l' (a+2 * (i:Int)) (i:Int)) (a+2 * (n:Int)):=by
  refine Kit.down ?_ ?_
  case refine_1=>intro acc hl;exact ⟨acc,hl,rfl,Ev.step (fun k=>rfl) (Kit.ev_neg (by omega) (Ev.now _)),Ev.step (fun k=>rfl) (Kit.ev_neg (by omega) (Ev.now _))⟩
  case refine_2 =>
   intro i hi ih acc hl
   obtain ⟨t,ht⟩:=ev_markText (a+2 * (i:Int)) (by omega)
   obtain ⟨u,hu⟩:=ev_markText (a+2 * (i:Int)+1) (by omega)
   have hset:(acc.set (i:Int).toNat ⟨t,(rd_T52 acc (i:Int)).f1⟩).set (i:Int).toNat ⟨(rd_T52 (acc.set (i:Int).toNat ⟨t,(rd_T52 acc (i:Int)).f1⟩) (i:Int)).f0,u⟩=acc.set i ⟨t,u⟩:=by
    rw [Int.toNat_natCast,List.set_set,rdB_nat]
    congr 2
    rw [List.getD_eq_getElem?_getD,List.getElem?_set,if_pos rfl,if_pos (by omega)]
    rfl
   obtain ⟨l',g1,g2,g3,g4⟩:=ih (acc.set i ⟨t,u⟩) (by rw [List.length_set];exact hl)
   obtain ⟨e1,e2⟩:=take_next z52 g2 (by omega) (by omega)
   have w1:wrap64 (a+2 * (i:Int)+1)=a+2 * (i:Int)+1:=Kit.wrap_of (by omega) (by omega)
   have w2:wrap64 (a+2 * (i:Int)+1+1)=a+2 * ((i+1:Nat):Int):=by rw [Kit.wrap_of (by omega) (by omega)];omega
   refine ⟨l',g1,e2,Ev.step (fun k=>rfl) (Kit.ev_pos (by omega) (Ev.bind ht (Kit.ev_pos (by omega) (Kit.ev_some rfl ?_)))),Ev.step (fun k=>rfl) (Kit.ev_pos (by omega) (Kit.ev_pos (by omega) (Ev.bind ht (Kit.ev_pos ?_ ?_))))⟩
   ·rw [w1,w2,Kit.wrap_nat hi (by omega)]
    exact Ev.bind hu (by rw [hset];exact g3)
   ·rw [rdB_nat,e1]
   ·rw [w1,w2,Kit.wrap_nat hi (by omega)]
    exact Ev.bind hu (Kit.ev_pos (by rw [rdB_nat,e1]) g4)
 obtain ⟨l',_,_,h1,h2⟩:=key 0 (by omega) l hl
 refine ⟨l',?_,?_⟩
 ·unfold laws_markAttrS.f
  rw [show a+2 * ((0:Nat):Int)=a by omega] at h1
  exact h1
 ·unfold laws_heldAttrS.f
  rw [show a+2 * ((0:Nat):Int)=a by omega] at h2
  exact h2
theorem ev_slices_Index (xs:List ByteArray) (t:ByteArray) (hn:xs.length≤9223372036854775807):Ev (fun k=>slices_Index_string_string.f k xs t) (Kit.indexOf t xs 0):=by
 have key:∀ i,i≤xs.length→Ev (fun k=>slices_Index_string_string.l0 k xs t xs.length i) (Kit.indexOf t (xs.drop i) i):=by
  refine Kit.down ?_ ?_
  ·refine Ev.step (fun k=>rfl) ?_
   refine Kit.ev_neg (by omega) ?_
   rw [List.drop_length]
   exact Ev.now _
  ·intro i hi ih
   refine Ev.step (fun k=>rfl) ?_
   refine Kit.ev_pos (by omega) (Kit.ev_pos (by omega) (Kit.ev_pos (by omega) ?_))
   rw [Kit.drop_getD ByteArray.empty xs i hi,Kit.indexOf,Kit.rdOf_nat,Kit.wrap_nat hi hn]
   refine Kit.ev_if (fun h=>?_) (fun h=>?_)
   ·rw [if_pos h];exact Ev.now _
   ·rw [if_neg h];exact ih
 exact key 0 (by omega)
theorem ev_slices_Contains (xs:List ByteArray) (t:ByteArray) (hn:xs.length≤9223372036854775807):Ev (fun k=>slices_Contains_string_string.f k xs t) (Kit.hasT xs t):=by
 unfold slices_Contains_string_string.f
 refine Ev.bind (ev_slices_Index xs t hn) ?_
 rw [←Kit.indexOf_has xs t 0]
 exact Ev.now _
theorem ev_l01Has (xs:List ByteArray) (t:ByteArray) (hn:xs.length≤9223372036854775807):Ev (fun k=>spec_l01Has.f k xs t) (Kit.hasT xs t):=by
 have key:∀ i,i≤xs.length→Ev (fun k=>spec_l01Has.l0 k xs t i) (Kit.hasT (xs.drop i) t):=by
  refine Kit.down ?_ ?_
  ·refine Ev.step (fun k=>rfl) ?_
   refine Kit.ev_neg (by omega) ?_
   rw [List.drop_length]
   exact Ev.now _
  ·intro i hi ih
   refine Ev.step (fun k=>rfl) ?_
   refine Kit.ev_pos (by omega) (Kit.ev_pos (by omega) ?_)
   rw [Kit.drop_getD ByteArray.empty xs i hi,Kit.hasT_cons,Kit.rdOf_nat,Kit.wrap_nat hi hn]
   refine Kit.ev_if (fun h=>?_) (fun h=>?_)
   ·rw [decide_eq_true h.symm,Bool.true_or];exact Ev.now _
   ·rw [decide_eq_false (fun e=>h e.symm),Bool.false_or];exact ih
 exact key 0 (by omega)
/- All tokens of a text. -/
theorem raw_same (a:ByteArray):∃ b,Ev (fun k=>impl_IsRaw.f k a) b∧Ev (fun k=>spec_l01Raw.f k a) b:=⟨_,Ev.bind (ev_slices_Contains _ a (by decide)) (Ev.now _),Ev.bind (ev_l01Has _ a (by decide)) (Ev.now _)⟩
def Few6 (l:List S24):Prop:=l.length≤4096∧∀ x∈l,x.f5.length≤6
theorem few_nil:Few6 []:=⟨Nat.zero_le _,fun _ h=>by cases h⟩
theorem few_snoc {l:List S24} {x:S24} (h:Few6 l) (hn:l.length≠4096) (hx:x.f5.length≤6):Few6 (l++[x]):=by
 have h1:=h.1
 refine ⟨by rw [List.length_append,List.length_singleton];omega,fun y hy=>?_⟩
 rcases List.mem_append.1 hy with h2|h2
 ·exact h.2 y h2
 ·rw [List.mem_singleton.1 h2];exact hx
theorem toks_loop (s:ByteArray) (hs:s.size≤65536):∀ d i:Nat,s.size≤i+d→i≤s.size→∀ (L:List S24) (w:ByteArray),Few6 L→w.size≤1048576 →
 ∃ r:List S24 × Int,Few6 r.1∧Ev (fun k=>impl_TokensOf.l0 k s L w (i:Int)) r∧Ev (fun k=>spec_TokensOf.l0 k s L w (i:Int)) r:=by
 have hend:∀ i:Nat,s.size≤i→∀ (L:List S24) (w:ByteArray),Few6 L→∃ r:List S24 × Int,Few6 r.1∧Ev (fun k=>impl_TokensOf.l0 k s L w (i:Int)) r∧Ev (fun k=>spec_TokensOf.l0 k s L w (i:Int)) r:=by
  intro i hi L w hL
  refine ⟨(L,0),hL,?_,?_⟩
  ·refine Ev.step (fun k=>by rw [impl_TokensOf.l0]) (Kit.ev_neg (show ¬ (i:Int)<(s.size:Int) by omega) ?_)
   exact Ev.now _
  ·refine Ev.step (fun k=>by rw [spec_TokensOf.l0]) (Kit.ev_neg (show ¬ (i:Int)<(s.size:Int) by omega) ?_)
   exact Ev.now _
 intro d
 induction d with
 | zero=>intro i h1 _ L w hL _;exact hend i (by omega) L w hL
 | succ d ih =>
  intro i h1 h2 L w hL hw
  by_cases hi:i<s.size
  case neg=>exact hend i (by omega) L w hL
  case pos =>
   obtain ⟨t,n,t1,t2,t3,t4,t5,f1,f2⟩:=next_both s w (by omega) hw i hi
   obtain ⟨b,q1,q2⟩:=raw_same t.2.2.2.1
   have hw1:wrap64 ((i:Int)+t.2.2.1)=((i+n:Nat):Int):=by rw [t1,Kit.wrap_of (by omega) (by omega)];omega
   obtain ⟨x,hx⟩:∃ x:S24,x=⟨t.1,t.2.1,t.2.2.1,t.2.2.2.1,t.2.2.2.2.1,t.2.2.2.2.2.1,t.2.2.2.2.2.2⟩:=⟨_,rfl⟩
   have hl:=hL.1
   have hla:(L++[x]).length=L.length+1:=by rw [List.length_append,List.length_singleton]
   have himp:∀ r,Ev (fun k=>if t.1=2 then (impl_TokensOf.j1 k s (L++[x]) (⟨#[]⟩:ByteArray) ((i+n:Nat):Int) b t.1 t.2.1 t.2.2.1 t.2.2.2.1 t.2.2.2.2.1 t.2.2.2.2.2.1 t.2.2.2.2.2.2) else (impl_TokensOf.j1 k s (L++[x]) (⟨#[]⟩:ByteArray) ((i+n:Nat):Int) false t.1 t.2.1 t.2.2.1 t.2.2.2.1 t.2.2.2.2.1 t.2.2.2.2.2.1 t.2.2.2.2.2.2)) r→Ev (fun k=>impl_TokensOf.l0 k s L w (i:Int)) r:=by
    intro r h
    refine Ev.step (fun k=>by rw [impl_TokensOf.l0]) (Kit.ev_pos (int_lt hi) (Ev.bind f1 (Kit.ev_pos (show L.length<1599289640401 by omega) (Kit.ev_some rfl ?_))))
    rw [←hx,hw1]
    by_cases h2:t.1=2
    ·simp only [if_pos h2] at h
     exact Kit.ev_pos h2 (Ev.bind q1 h)
    ·simp only [if_neg h2] at h
     exact Kit.ev_neg h2 h
   by_cases hf:L.length=4096
   case pos =>
    have hj:∀ c,Ev (fun k=>impl_TokensOf.j1 k s (L++[x]) (⟨#[]⟩:ByteArray) ((i+n:Nat):Int) c t.1 t.2.1 t.2.2.1 t.2.2.2.1 t.2.2.2.2.1 t.2.2.2.2.2.1 t.2.2.2.2.2.2) (([]:List S24),(6:Int)):=by
     intro c
     cases c with
     | true =>
      refine Ev.step (fun k=>by rw [impl_TokensOf.j1]) (Kit.ev_pos rfl (Kit.ev_pos (show ((L++[x]).length:Int)>4096 by omega) ?_))
      exact Ev.now _
     | false =>
      refine Ev.step (fun k=>by rw [impl_TokensOf.j1]) (Kit.ev_neg Bool.false_ne_true (Kit.ev_pos (show ((L++[x]).length:Int)>4096 by omega) ?_))
      exact Ev.now _
    refine ⟨(([]:List S24),(6:Int)),few_nil,himp _ (Kit.ev_if (fun _=>hj b) (fun _=>hj false)),?_⟩
    refine Ev.step (fun k=>by rw [spec_TokensOf.l0]) (Kit.ev_pos (int_lt hi) (Ev.bind f2 (Kit.ev_pos (show (L.length:Int)=4096 by omega) ?_)))
    exact Ev.now _
   case neg =>
    obtain ⟨v,hv⟩:∃ v:ByteArray,v=(if t.1=2 then (if b=true then t.2.2.2.1 else ⟨#[]⟩) else ⟨#[]⟩):=⟨_,rfl⟩
    have hvs:v.size≤1048576:=by
     rw [hv]
     split
     ·split
      ·exact t5
      ·exact Nat.zero_le _
     ·exact Nat.zero_le _
    obtain ⟨r,r1,r2,r3⟩:=ih (i+n) (by omega) (by omega) (L++[x]) v (few_snoc hL hf (by rw [hx];exact t4.1)) hvs
    have hng:¬ ((L++[x]).length:Int)>4096:=by omega
    have hj:∀ c,v=(if c=true then t.2.2.2.1 else ⟨#[]⟩)→Ev (fun k=>impl_TokensOf.j1 k s (L++[x]) (⟨#[]⟩:ByteArray) ((i+n:Nat):Int) c t.1 t.2.1 t.2.2.1 t.2.2.2.1 t.2.2.2.2.1 t.2.2.2.2.2.1 t.2.2.2.2.2.2) r:=by
     intro c hc
     cases c with
     | true =>
      rw [if_pos rfl] at hc
      refine Ev.step (fun k=>by rw [impl_TokensOf.j1]) (Kit.ev_pos rfl (Kit.ev_neg hng ?_))
      rw [←hc];exact r2
     | false =>
      rw [if_neg Bool.false_ne_true] at hc
      refine Ev.step (fun k=>by rw [impl_TokensOf.j1]) (Kit.ev_neg Bool.false_ne_true (Kit.ev_neg hng ?_))
      rw [←hc];exact r2
    refine ⟨r,r1,himp _ (Kit.ev_if (fun h2=>hj b (by rw [hv,if_pos h2])) (fun h2=>hj false (by rw [hv,if_neg h2,if_neg Bool.false_ne_true]))),?_⟩
    refine Ev.step (fun k=>by rw [spec_TokensOf.l0]) (Kit.ev_pos (int_lt hi) (Ev.bind f2 (Kit.ev_neg (show ¬ (L.length:Int)=4096 by omega) (Kit.ev_pos (show L.length<1599289640401 by omega) (Kit.ev_some rfl ?_)))))
    rw [←hx,hw1]
    refine Kit.ev_if (fun h2=>Ev.bind q2 (Kit.ev_if (fun hb=>?_) (fun hb=>?_))) (fun h2=>?_)
    ·rw [if_pos h2,if_pos hb] at hv;rw [←hv];exact r3
    ·rw [if_pos h2,if_neg hb] at hv;rw [←hv];exact r3
    ·rw [if_neg h2] at hv;rw [←hv];exact r3
theorem toks_both (s:ByteArray):∃ r:List S24 × Int,Few6 r.1∧Ev (fun k=>impl_TokensOf.f k s) r∧Ev (fun k=>spec_TokensOf.f k s) r:=by
 unfold impl_TokensOf.f spec_TokensOf.f
 by_cases hs:(s.size:Int)>65536
 ·exact ⟨(([]:List S24),(2:Int)),few_nil,Kit.ev_some (a:=true) (by rw [isLong1,decide_eq_true (by omega)]) (Kit.ev_pos rfl (Ev.now _)),Kit.ev_pos hs (Ev.now _)⟩
 ·obtain ⟨r,h1,h2,h3⟩:=toks_loop s (by omega) s.size 0 (by omega) (by omega) [] (⟨#[]⟩:ByteArray) few_nil (Nat.zero_le _)
  exact ⟨r,h1,Kit.ev_some (a:=false) (by rw [isLong1,decide_eq_false (by omega)]) (Kit.ev_neg Bool.false_ne_true h2),Kit.ev_neg hs h3⟩
theorem rdK_nat (xs:List S24) (i:Nat):rd_T24 xs (i:Int)=xs.getD i z24:=by simp [rd_T24]
theorem ev_eqTokenS (xs:List S24) (h:Few6 xs):Ev (fun k=>laws_eqTokenS.f k xs xs) true:=by
 have hn:=h.1
 unfold laws_eqTokenS.f
 refine Kit.ev_pos rfl (Kit.ev_refl (n:=xs.length) (L:=fun k i=>laws_eqTokenS.l0 k xs xs i) (Ev.step (fun k=>rfl) (Kit.ev_neg (by omega) (Ev.now _))) ?_)
 intro i hi ih
 have hm:=h.2 _ (Kit.getD_mem z24 hi)
 refine Ev.step (fun k=>rfl) (Kit.ev_pos (by omega) (Kit.ev_pos (by omega) (Kit.ev_pos (by omega) ?_)))
 rw [Kit.wrap_nat hi (by omega),rdK_nat]
 generalize xs.getD i z24=x at hm
 exact Ev.bind (ev_eqToken (x.f0,x.f1,x.f2,x.f3,x.f4,x.f5,x.f6) (by show x.f5.length≤_;omega)) (Kit.ev_pos rfl ih)
def wtK:List S24→Nat
 | []=>0
 | x :: r=>6+2 * x.f5.length+wtK r
theorem wtK_le:∀ l:List S24,(∀ x∈l,x.f5.length≤6)→wtK l≤18 * l.length
 | [],_=>Nat.zero_le _
 | x :: r,h=>by
  have h1:=wtK_le r (fun y hy=>h y (List.mem_cons_of_mem _ hy))
  have h2:=h x List.mem_cons_self
  rw [wtK,List.length_cons]
  omega
theorem getD_drop7 {α : Type} (d : α) {xs ys:List α} {i:Nat} (h:xs.drop i=ys.drop i) (hi:i<ys.length) (hx:i<xs.length):xs.getD i d=ys.getD i d∧xs.drop (i+1)=ys.drop (i+1):=by
 rw [Kit.drop_getD d xs i hx,Kit.drop_getD d ys i hi] at h
 exact ⟨(List.cons.inj h).1,(List.cons.inj h).2⟩
theorem ev_mhTokenS (xs:List S24) (hn:xs.length≤1048576) (a:Int) (h0:0≤a) (h:a+(wtK xs:Int)≤1000000000):∃ u,Ev (fun k=>laws_markTokenS.f k xs a) (a+(wtK xs:Int),u)∧Ev (fun k=>laws_heldTokenS.f k u a) (a+(wtK xs:Int)):=by
 have key:∀ i,i≤xs.length→∀ acc:List S24,acc.length=xs.length→acc.drop i=xs.drop i→∀ a:Int,0≤a→a+(wtK (xs.drop i):Int)≤1000000000→∃ u:List S24,u.length=xs.length∧u.take i=acc.take i∧Ev (fun k=>laws_markTokenS.l0 k acc a (i:Int)) (a+(wtK (xs.drop i):Int),u)∧Ev (fun k=>laws_heldTokenS.l0 k u a (i:Int)) (a+(wtK (xs.drop i):Int)):=by
  refine Kit.down ?_ ?_
  case refine_1 =>
   intro acc hl hd a a0 a1
   rw [List.drop_length,wtK,show a+((0:Nat):Int)=a by omega]
   exact ⟨acc,hl,rfl,Ev.step (f:=fun _=>some (a,acc)) (fun k=>by rw [laws_markTokenS.l0,if_neg (by omega)]) (Ev.now _),Ev.step (f:=fun _=>some a) (fun k=>by rw [laws_heldTokenS.l0,if_neg (by omega)]) (Ev.now _)⟩
  case refine_2 =>
   intro i hi ih acc hl hd a a0 a1
   obtain ⟨e1,e2⟩:=getD_drop7 z24 hd hi (by omega)
   rw [Kit.drop_getD z24 xs i hi,wtK] at a1 ⊢
   generalize xs.getD i z24=x at *
   obtain ⟨t,ht⟩:=ev_markText (a+3) (by omega)
   obtain ⟨t',ht'⟩:=ev_markText (a+4) (by omega)
   obtain ⟨ua,hua,hva⟩:=ev_mhAttrS _ x.f5 rfl (a+5) (by omega) (by omega)
   obtain ⟨u,g1,g2,g3,g4⟩:=ih (acc.set i ⟨a,a+1,a+2,t,t',ua,(Int.tmod (a+5+2 * (x.f5.length:Int)) 3 == 0)⟩) (by rw [List.length_set];exact hl) (by rw [List.drop_set,if_pos (by omega)];exact e2) (a+5+2 * (x.f5.length:Int)+1) (by omega) (by omega)
   obtain ⟨q1,q2⟩:=take_next z24 g2 (by omega) (by omega)
   have w1:wrap64 (a+1)=a+1:=Kit.wrap_of (by omega) (by omega)
   have w2:wrap64 (a+1+1)=a+2:=by rw [Kit.wrap_of (by omega) (by omega)];omega
   have w3:wrap64 (a+2+1)=a+3:=by rw [Kit.wrap_of (by omega) (by omega)];omega
   have w4:wrap64 (a+3+1)=a+4:=by rw [Kit.wrap_of (by omega) (by omega)];omega
   have w5:wrap64 (a+4+1)=a+5:=by rw [Kit.wrap_of (by omega) (by omega)];omega
   have w6:wrap64 (a+5+2 * (x.f5.length:Int)+1)=a+5+2 * (x.f5.length:Int)+1:=Kit.wrap_of (by omega) (by omega)
   have e9:a+((6+2 * x.f5.length+wtK (xs.drop (i+1)):Nat):Int)=a+5+2 * (x.f5.length:Int)+1+(wtK (xs.drop (i+1)):Int):=by omega
   rw [e9]
   refine ⟨u,g1,q2,Ev.step (fun k=>by rw [laws_markTokenS.l0]) (Kit.ev_pos (by omega) (Kit.ev_pos (by omega) ?_)),Ev.step (fun k=>by rw [laws_heldTokenS.l0]) (Kit.ev_pos (by omega) (Kit.ev_pos (by omega) ?_))⟩
   ·rw [w1,w2,w3,w4,w5,rdK_nat,Kit.wrap_nat hi (by omega),e1,Int.toNat_natCast]
    refine Ev.bind ht (Ev.bind ht' (Ev.bind hua ?_))
    show Ev (fun k=>laws_markTokenS.l0 k (acc.set i ⟨a,a+1,a+2,t,t',ua,(Int.tmod (a+5+2 * (x.f5.length:Int)) 3 == 0)⟩) (wrap64 (a+5+2 * (x.f5.length:Int)+1)) ((i+1:Nat):Int)) _
    rw [w6]
    exact g3
   ·rw [w1,w2,w3,w4,w5,rdK_nat,Kit.wrap_nat hi (by omega),q1]
    refine Kit.ev_pos rfl (Kit.ev_pos rfl (Kit.ev_pos rfl (Ev.bind ht (Kit.ev_pos rfl (Ev.bind ht' (Kit.ev_pos rfl (Ev.bind hva (Kit.ev_neg (by omega) (Kit.ev_neg ?_ ?_)))))))))
    ·rw [bne_self_eq_false];exact Bool.false_ne_true
    ·rw [w6];exact g4
 obtain ⟨u,_,_,hu,hv⟩:=key 0 (by omega) xs rfl rfl a h0 h
 exact ⟨u,by unfold laws_markTokenS.f;exact hu,by unfold laws_heldTokenS.f;exact hv⟩
/- The law. -/
theorem ev_cond {α : Type} {c:Nat→Bool} {f g:Nat→Option α} {r : α} (hc:∃ K,∀ k,K≤k→c k=true) (h:Ev f r):Ev (fun k=>if c k=true then f k else g k) r:=by
 obtain ⟨K,hK⟩:=hc
 obtain ⟨L,hL⟩:=h
 exact ⟨max K L,fun k hk=>by show (if c k=true then f k else g k)=_;rw [if_pos (hK k (by omega))];exact hL k (by omega)⟩
theorem proved:laws_FnExactTokensOf.PureS:=by
 intro a _
 refine Ev.rounds (g:=fun k=>laws_FnExactTokensOf.f k a) ?_
 unfold laws_FnExactTokensOf.f
 refine Kit.ev_if (fun _=>Ev.now _) (fun _=>?_)
 obtain ⟨r,hr,f1,f2⟩:=toks_both a
 have hn:=hr.1
 have hw:=wtK_le r.1 hr.2
 obtain ⟨u,m1,m2⟩:=ev_mhTokenS r.1 (by omega) 1 (by omega) (by omega)
 have he:=ev_eqTokenS r.1 hr
 refine Ev.bind f2 (Ev.bind f1 (ev_cond ?_ (Ev.bind m1 (ev_cond ?_ (Ev.now _)))))
 case refine_1 =>
  obtain ⟨K,hK⟩:=he
  refine ⟨K,fun k hk=>?_⟩
  have e1:laws_eqTokenS.f k r.1 r.1=some true:=hK k hk
  rw [e1]
  simp
 case refine_2 =>
  obtain ⟨K,hK⟩:=m2
  refine ⟨K,fun k hk=>?_⟩
  show (decide (0≤1+(wtK r.1:Int)) && (laws_heldTokenS.f k u 1 == some (1+(wtK r.1:Int))))=true
  have e1:laws_heldTokenS.f k u 1=some (1+(wtK r.1:Int)):=hK k hk
  rw [e1,decide_eq_true (by omega)]
  simp
end Go.Proofs.YtfkanlbmgbkniaaGreatDoor.Pure.LTokensOf
namespace Go.Proofs.YtfkanlbmgbkniaaGreatDoor.Pure
theorem FnExactTokensOf:PFnExactTokensOf.laws_FnExactTokensOf.PureS:=LTokensOf.proved
end Go.Proofs.YtfkanlbmgbkniaaGreatDoor.Pure
