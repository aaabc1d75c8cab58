/- The machine side of a law, printed by a program. No conditions. -/
import Derived.Test.YtfkanlbmgbkniaaGreatDoorPFnExactTokensOfx0
import Derived.Test.YtfkanlbmgbkniaaGreatDoorPFnExactTokensOfx13
namespace Go.Proofs.YtfkanlbmgbkniaaGreatDoor.PFnExactTokensOf
open Go.RowKit Go.Proofs.YtfkanlbmgbkniaaGreatDoorW.PrintWords Go.Proofs.YtfkanlbmgbkniaaGreatDoorW.PrintLast Go.Proofs.YtfkanlbmgbkniaaGreatDoorW.PrintMore
attribute [local go_sem] max2_int min2_int max_two min_two max_three min_three max_four min_four
set_option linter.unusedVariables false
set_option linter.unusedSimpArgs false
/-- The number that a word of an escape stands for: 1 to 126, spelt as strconv.Itoa spells it. -/
def numE (w:List UInt8):Option Nat:=match Lib.atoi w with
 | some n=>if 1≤n∧n≤126∧Lib.itoa n=w then some n.toNat else none
 | none=>none
/-- The same as the reference reads it, behind its sign. -/
def numS (w:List UInt8):Option Nat:=if w=[]∨(w.head? = some 48) then none else match Lib.decNat w with
 | some n=>if 1≤n∧n≤126 then some n else none
 | none=>none
theorem digit_of {b:UInt8} {d:Nat} (h:Lib.digitVal b=some d):b=UInt8.ofNat (48+d)∧d<10:=by
 unfold Lib.digitVal at h
 split at h
 ·rename_i h1
  have e:=oi_ h
  refine ⟨?_,by omega⟩
  have:48+d=b.toNat:=by omega
  rw [this]
  simp
 ·cases h
theorem digit_at (d:Nat) (h:d<10):Lib.digitVal (UInt8.ofNat (48+d))=some d:=by
 have h2:(UInt8.ofNat (48+d)).toNat=48+d:=by simp;omega
 unfold Lib.digitVal
 rw [h2,if_pos (by omega)]
 congr 1
 omega
theorem decDigits_three {i:Nat} (h1:100≤i) (h2:i<1000):Lib.decDigits i=[UInt8.ofNat (48+i / 100),UInt8.ofNat (48+i / 10 % 10),UInt8.ofNat (48+i % 10)]:=by
 have h3:i / 10 / 10=i / 100:=by omega
 rw [Lib.decDigits,dif_neg (by omega),Lib.decDigits_two (by omega) (by omega),h3]
 rfl
theorem itoa_nat (n:Nat):Lib.itoa (n:Int)=Lib.decDigits n:=by
 unfold Lib.itoa
 rw [if_neg (by omega)]
 rfl
theorem numE_dec (n:Nat) (h1:1≤n) (h2:n≤126):Lib.atoi (Lib.decDigits n)=some (n:Int)∧Lib.decNat (Lib.decDigits n)=some n∧Lib.decDigits n≠[]∧(Lib.decDigits n).head? ≠ some 48:=by
 have key:∀ d:Nat,d<10→∃ b,b=UInt8.ofNat (48+d)∧Lib.digitVal b=some d∧(b == 45)=false∧(b == 43)=false∧(1≤d→b≠48):=fun d hd=>by
  have e:(UInt8.ofNat (48+d)).toNat=48+d:=by simp;omega
  have ne:∀ c:UInt8,c.toNat≠48+d→UInt8.ofNat (48+d)≠c:=fun c hc h=>hc (by rw [←h,e])
  exact ⟨_,rfl,digit_at d hd,beq_eq_false_iff_ne.2 (ne 45 (by simp;omega)),beq_eq_false_iff_ne.2 (ne 43 (by simp;omega)),fun h=>ne 48 (by simp;omega)⟩
 by_cases ha:n<10
 ·rw [Lib.decDigits_one ha]
  obtain ⟨b,e,k1,k2,k3,k4⟩:=key n ha
  rw [←e]
  refine ⟨?_,?_,by simp,by simpa using k4 h1⟩
  ·simp [Lib.atoi,k2,k3,Lib.decNat,Lib.decFrom,k1]
  ·simp [Lib.decNat,Lib.decFrom,k1]
 ·by_cases hb:n<100
  ·rw [Lib.decDigits_two ha hb]
   obtain ⟨b,e,k1,k2,k3,k4⟩:=key (n / 10) (by omega)
   obtain ⟨c,e2,m1,-,-,-⟩:=key (n % 10) (by omega)
   rw [←e,←e2]
   have hn:n / 10 * 10+n % 10=n:=by omega
   refine ⟨?_,?_,by simp,by simpa using k4 (by omega)⟩
   ·simp only [Lib.atoi,k2,k3,Bool.false_eq_true,if_false,Lib.decNat,List.isEmpty_cons,Lib.decFrom,k1,m1,Nat.zero_mul,Nat.zero_add,hn,Option.map_some]
   ·simp only [Lib.decNat,List.isEmpty_cons,Bool.false_eq_true,if_false,Lib.decFrom,k1,m1,Nat.zero_mul,Nat.zero_add,hn]
  ·rw [decDigits_three (by omega) (by omega)]
   obtain ⟨b,e,k1,k2,k3,k4⟩:=key (n / 100) (by omega)
   obtain ⟨c,e2,m1,-,-,-⟩:=key (n / 10 % 10) (by omega)
   obtain ⟨d,e3,p1,-,-,-⟩:=key (n % 10) (by omega)
   rw [←e,←e2,←e3]
   have hn:(n / 100 * 10+n / 10 % 10) * 10+n % 10=n:=by omega
   refine ⟨?_,?_,by simp,by simpa using k4 (by omega)⟩
   ·simp only [Lib.atoi,k2,k3,Bool.false_eq_true,if_false,Lib.decNat,List.isEmpty_cons,Lib.decFrom,k1,m1,p1,Nat.zero_mul,Nat.zero_add,hn,Option.map_some]
   ·simp only [Lib.decNat,List.isEmpty_cons,Bool.false_eq_true,if_false,Lib.decFrom,k1,m1,p1,Nat.zero_mul,Nat.zero_add,hn]
theorem dec_ge:∀ (l:List UInt8) (a n:Nat),Lib.decFrom a l=some n→a * 10 ^ l.length≤n
 | [],a,n,h=>by
  have:=oi_ h
  simp
  omega
 | b :: l,a,n,h=>by
  unfold Lib.decFrom at h
  split at h
  ·rename_i d hd
   have:=dec_ge l _ n h
   rw [List.length_cons,Nat.pow_succ]
   have h3:(a * 10+d) * 10 ^ l.length=a * (10 ^ l.length * 10)+d * 10 ^ l.length:=by
    rw [Nat.add_mul,Nat.mul_assoc,Nat.mul_comm 10]
   omega
  ·cases h
/-- A numeral that does not begin with 0 is spelt as strconv.Itoa spells it. -/
theorem dec_back (w:List UInt8) (n:Nat) (h:Lib.decNat w=some n) (h0:w.head? ≠ some 48) (hn:n≤126):Lib.decDigits n=w:=by
 unfold Lib.decNat at h
 match w,h,h0 with
 | [],h,_=>simp at h
 | a :: r,h,h0 =>
  simp only [List.isEmpty_cons,Bool.false_eq_true,if_false] at h
  unfold Lib.decFrom at h
  split at h
  case h_2=>cases h
  rename_i d hd
  obtain ⟨rfl,hd10⟩:=digit_of hd
  have hd1:1≤d:=by
   rcases Nat.eq_zero_or_pos d with e|e
   ·subst e
    simp at h0
   ·exact e
  have hge:=dec_ge r _ n h
  match r,h,hge with
  | [],h,_ =>
   have e:=oi_ h
   have:n=d:=by omega
   subst this
   rw [Lib.decDigits_one hd10]
  | b :: r,h,hge =>
   unfold Lib.decFrom at h
   split at h
   case h_2=>cases h
   rename_i d2 hd2
   obtain ⟨rfl,hd210⟩:=digit_of hd2
   match r,h,hge with
   | [],h,_ =>
    have e:=oi_ h
    have:n=d * 10+d2:=by omega
    subst this
    rw [Lib.decDigits_two (by omega) (by omega),show (d * 10+d2) / 10=d by omega,show (d * 10+d2) % 10=d2 by omega]
   | c :: r,h,hge =>
    unfold Lib.decFrom at h
    split at h
    case h_2=>cases h
    rename_i d3 hd3
    obtain ⟨rfl,hd310⟩:=digit_of hd3
    match r,h,hge with
    | [],h,_ =>
     have e:=oi_ h
     have:n=d * 100+d2 * 10+d3:=by omega
     subst this
     rw [decDigits_three (by omega) (by omega),show (d * 100+d2 * 10+d3) / 100=d by omega,show (d * 100+d2 * 10+d3) / 10 % 10=d2 by omega,show (d * 100+d2 * 10+d3) % 10=d3 by omega]
    | e :: r,h,hge =>
     exfalso
     have h1:10 ^ (UInt8.ofNat (48+d2) :: UInt8.ofNat (48+d3) :: e :: r).length=1000 * 10 ^ r.length:=by
      simp only [List.length_cons,Nat.pow_succ]
      omega
     have h2:1≤10 ^ r.length:=Nat.one_le_pow _ _ (by decide)
     rw [h1] at hge
     have h3:1 * (1000 * 10 ^ r.length)≤(0 * 10+d) * (1000 * 10 ^ r.length):=Nat.mul_le_mul_right _ (by omega)
     omega
theorem numS_numE (w:List UInt8):numS w=numE w:=by
 cases hE:numE w with
 | some n =>
  unfold numE at hE
  split at hE
  case h_2=>cases hE
  rename_i m hm
  split at hE
  case isFalse=>cases hE
  rename_i hc
  have e:=oi_ hE
  obtain ⟨k,rfl⟩:∃ k:Nat,m=(k:Int):=⟨m.toNat,by omega⟩
  have:n=k:=by omega
  subst this
  rw [itoa_nat] at hc
  obtain ⟨-,g2,g3,g4⟩:=numE_dec n (by omega) (by omega)
  rw [hc.2.2] at g2 g3 g4
  unfold numS
  rw [if_neg (by rintro (h|h);exact g3 h;exact g4 h),g2]
  exact if_pos ⟨by omega,by omega⟩
 | none =>
  unfold numS
  split
  ·rfl
  ·rename_i h1
   split
   case h_2=>rfl
   rename_i n hn
   split
   case isFalse=>rfl
   rename_i hc
   exfalso
   have hb:=dec_back w n hn (fun h=>h1 (.inr h)) hc.2
   have hd:=(numE_dec n hc.1 hc.2).1
   rw [hb] at hd
   unfold numE at hE
   rw [hd] at hE
   simp only at hE
   rw [if_pos ⟨by omega,by omega,by rw [itoa_nat,hb]⟩] at hE
   cases hE
/-- What the listed variables hold, as far as escapes ask. -/
def Laid (w:World):Prop:=(∃ m,w.cell? ⟨0,0,none⟩=some (.int .i64 m))∧(∃ tp p,w.cell? ⟨1,0,none⟩=some (.iface tp p))∧Lib.TabIs Tryz.prog w "internal/strconv.uint64pow10" .u64 Lib.pow10Tab
theorem Laid.below {w w':World} (h:Laid w) (hb:Below w.heap.size w w'):Laid w':=by
 obtain ⟨⟨m,hm⟩,⟨tp,p,hp⟩,ht⟩:=h
 exact ⟨⟨m,pw_cell_below hb hm⟩,⟨tp,p,pw_cell_below hb hp⟩,Lib.tabBelow_of_tabIs ht _ hb⟩
/-- The byte that an escape at the beginning of a text stands for, and how long it is. -/
def escOf (t:List UInt8):Int × Int :=
 if Lib.hasPrefix t [38,97,109,112,59]=true then (38,5) else if Lib.hasPrefix t [38,108,116,59]=true then (60,4) else if Lib.hasPrefix t [38,103,116,59]=true then (62,4) else if Lib.hasPrefix t [38,113,117,111,116,59]=true then (34,6)
 else if Lib.hasPrefix t [38,35]=true then
  (match numE (Lib.cut ((t.drop 2).take 4) [59]).1 with
   | some n=>if (Lib.cut ((t.drop 2).take 4) [59]).2.2=true then ((n:Int),((Lib.cut ((t.drop 2).take 4) [59]).1.length:Int)+3) else (0,0)
   | none=>(0,0))
 else (0,0)
def impl_escape.f (a0:ByteArray):Option (Int × Int):=if a0.size≤1048576 then some (escOf a0.data.toList) else none
theorem pre_two {s:ByteArray} (h:Lib.hasPrefix s.data.toList [38,35]=true):2≤s.size:=by
 have:=List.IsPrefix.length_le (List.isPrefixOf_iff_prefix.1 h)
 rw [data_length] at this
 exact this
theorem window (s:ByteArray):(s.extract 2 (min s.size 6)).data.toList=(s.data.toList.drop 2).take 4:=by
 rw [ByteArray.data_extract,Array.toList_extract,List.extract_eq_take_drop]
 by_cases h:s.size≤6
 ·rw [Nat.min_eq_left h,List.take_of_length_le (by rw [ld_,data_length];exact Nat.le_refl _),List.take_of_length_le (by rw [ld_,data_length];omega)]
 ·rw [Nat.min_eq_right (by omega)]
theorem cut_len (l:List UInt8) (c:UInt8):(Lib.cut l [c]).1.length≤l.length:=by
 unfold Lib.cut
 split
 ·rw [lt_];omega
 ·exact Nat.le_refl _
set_option maxHeartbeats 8000000 in
set_option maxRecDepth 1000000 in
theorem impl_escape.calls (a0:ByteArray) (r1 r2:Int) (w:World) (hL:Laid w) (h:impl_escape.f a0=some (r1,r2)) :
 Calls Tryz.prog 68 #[.string a0] w fun e w'=>e=.returned (.tuple #[.int .u8 r1,.int .i64 r2])∧Below w.heap.size w w':=by
 unfold impl_escape.f at h
 obtain ⟨hs,h⟩:=Option.ite_none_right_eq_some.mp h
 have HR:=A_ (oi_ h)
 have QP:Aside0 (∀ (p:ByteArray) (W:World),Calls Tryz.prog 43 #[.string a0,.string p] W fun e w'=>e=.returned (.bool (Lib.hasPrefix a0.data.toList p.data.toList))∧w'=W):=⟨fun p W=>Tryz.strings_HasPrefix a0 p W⟩
 have HL:=A_ hL
 have HB1:Aside0 (Below w.heap.size w (w.alloc (.cells #[.string ⟨#[38,97,109,112,59]⟩,.string ⟨#[38,108,116,59]⟩,.string ⟨#[38,103,116,59]⟩,.string ⟨#[38,113,117,111,116,59]⟩] 9 (0,0)))):=⟨ba_ (Below.refl _ _) _⟩
 have HC1:Aside0 (w.heap.size<(w.alloc (.cells #[.string ⟨#[38,97,109,112,59]⟩,.string ⟨#[38,108,116,59]⟩,.string ⟨#[38,103,116,59]⟩,.string ⟨#[38,113,117,111,116,59]⟩] 9 (0,0))).heap.size):=⟨by rw [World.size_alloc];omega⟩
 have HN0:Aside0 ((w.alloc (.cells #[.string ⟨#[38,97,109,112,59]⟩,.string ⟨#[38,108,116,59]⟩,.string ⟨#[38,103,116,59]⟩,.string ⟨#[38,113,117,111,116,59]⟩] 9 (0,0))).cell? ⟨w.heap.size,0,none⟩=some (.string ⟨#[38,97,109,112,59]⟩)):=⟨Mach.new_cell w _ _ 0 _ rfl⟩
 have HN1:Aside0 ((w.alloc (.cells #[.string ⟨#[38,97,109,112,59]⟩,.string ⟨#[38,108,116,59]⟩,.string ⟨#[38,103,116,59]⟩,.string ⟨#[38,113,117,111,116,59]⟩] 9 (0,0))).cell? ⟨w.heap.size,1,none⟩=some (.string ⟨#[38,108,116,59]⟩)):=⟨Mach.new_cell w _ _ 1 _ rfl⟩
 have HN2:Aside0 ((w.alloc (.cells #[.string ⟨#[38,97,109,112,59]⟩,.string ⟨#[38,108,116,59]⟩,.string ⟨#[38,103,116,59]⟩,.string ⟨#[38,113,117,111,116,59]⟩] 9 (0,0))).cell? ⟨w.heap.size,2,none⟩=some (.string ⟨#[38,103,116,59]⟩)):=⟨Mach.new_cell w _ _ 2 _ rfl⟩
 have HN3:Aside0 ((w.alloc (.cells #[.string ⟨#[38,97,109,112,59]⟩,.string ⟨#[38,108,116,59]⟩,.string ⟨#[38,103,116,59]⟩,.string ⟨#[38,113,117,111,116,59]⟩] 9 (0,0))).cell? ⟨w.heap.size,3,none⟩=some (.string ⟨#[38,113,117,111,116,59]⟩)):=⟨Mach.new_cell w _ _ 3 _ rfl⟩
 clear h hL
 go_enter Tryz.func68,Tryz.ntmps68
 go_wp2
 go_loopg [5,6,15] 4 (fun gg s5 s6 s15 wr=>∃ kk:Nat,kk≤4∧4 - kk≤gg∧s15=.int .i64 kk∧Aside0 (Below w.heap.size w wr)∧Aside0 (wr.cell? ⟨w.heap.size,0,none⟩=some (.string ⟨#[38,97,109,112,59]⟩)∧wr.cell? ⟨w.heap.size,1,none⟩=some (.string ⟨#[38,108,116,59]⟩)∧wr.cell? ⟨w.heap.size,2,none⟩=some (.string ⟨#[38,103,116,59]⟩)∧wr.cell? ⟨w.heap.size,3,none⟩=some (.string ⟨#[38,113,117,111,116,59]⟩))∧Aside0 ((0<kk→Lib.hasPrefix a0.data.toList [38,97,109,112,59]=false)∧(1<kk→Lib.hasPrefix a0.data.toList [38,108,116,59]=false)∧(2<kk→Lib.hasPrefix a0.data.toList [38,103,116,59]=false)∧(3<kk→Lib.hasPrefix a0.data.toList [38,113,117,111,116,59]=false)))
 case atStart=>exact ⟨0,by omega,by omega,rfl,HB1,⟨HN0.out,HN1.out,HN2.out,HN3.out⟩,⟨fun h=>absurd h (by omega),fun h=>absurd h (by omega),fun h=>absurd h (by omega),fun h=>absurd h (by omega)⟩⟩
 case round =>
  obtain ⟨kk,hkk,hgg,rfl,BW,CC,AA⟩:=hrel
  clear HN0 HN1 HN2 HN3 HB1 HC1
  rcases (by omega:kk=0∨kk=1∨kk=2∨kk=3∨kk=4) with rfl|rfl|rfl|rfl|rfl
  ·have hc:=CC.out.1
   have hq:=QP.out ⟨#[38,97,109,112,59]⟩ wr
   cases hb:Lib.hasPrefix a0.data.toList [38,97,109,112,59] with
   | true =>
    obtain ⟨rfl,rfl⟩:r1=38∧r2=5:=by
     have hr:=HR.out
     unfold escOf at hr
     rw [if_pos hb] at hr
     exact ⟨(Prod.mk.inj hr).1.symm,(Prod.mk.inj hr).2.symm⟩
    replace hq:=A_ (hq.mono (R':=fun e w'=>e=.returned (.bool true)∧w'=wr) fun e w' ⟨h1,h2⟩=>⟨by rw [h1];exact congrArg (fun b=>Ending.returned (.bool b)) hb,h2⟩)
    clear hb HR
    go_wp2_with (go_at_call 43;(with_reducible refine hq.out.mono ?_);rintro e w9 ⟨rfl,hw9⟩;subst hw9)
    go_ret2
    exact ⟨rfl,BW.out⟩
   | false =>
    replace hq:=A_ (hq.mono (R':=fun e w'=>e=.returned (.bool false)∧w'=wr) fun e w' ⟨h1,h2⟩=>⟨by rw [h1];exact congrArg (fun b=>Ending.returned (.bool b)) hb,h2⟩)
    have HBN:=A_ hb
    clear hb
    go_wp2_with (go_at_call 43;(with_reducible refine hq.out.mono ?_);rintro e w9 ⟨rfl,hw9⟩;subst hw9)
    go_roundg 3
    case measure=>omega
    case rel=>exact ⟨1,by omega,by omega,by go_num,BW,CC,⟨fun _=>HBN.out,fun h=>absurd h (by omega),fun h=>absurd h (by omega),fun h=>absurd h (by omega)⟩⟩
  ·have hc:=CC.out.2.1
   have hq:=QP.out ⟨#[38,108,116,59]⟩ wr
   cases hb:Lib.hasPrefix a0.data.toList [38,108,116,59] with
   | true =>
    obtain ⟨rfl,rfl⟩:r1=60∧r2=4:=by
     have hr:=HR.out
     unfold escOf at hr
     rw [if_neg (by rw [AA.out.1 (by omega)];exact Bool.false_ne_true)] at hr;rw [if_pos hb] at hr
     exact ⟨(Prod.mk.inj hr).1.symm,(Prod.mk.inj hr).2.symm⟩
    replace hq:=A_ (hq.mono (R':=fun e w'=>e=.returned (.bool true)∧w'=wr) fun e w' ⟨h1,h2⟩=>⟨by rw [h1];exact congrArg (fun b=>Ending.returned (.bool b)) hb,h2⟩)
    clear hb HR
    go_wp2_with (go_at_call 43;(with_reducible refine hq.out.mono ?_);rintro e w9 ⟨rfl,hw9⟩;subst hw9)
    go_ret2
    exact ⟨rfl,BW.out⟩
   | false =>
    replace hq:=A_ (hq.mono (R':=fun e w'=>e=.returned (.bool false)∧w'=wr) fun e w' ⟨h1,h2⟩=>⟨by rw [h1];exact congrArg (fun b=>Ending.returned (.bool b)) hb,h2⟩)
    have HBN:=A_ hb
    clear hb
    go_wp2_with (go_at_call 43;(with_reducible refine hq.out.mono ?_);rintro e w9 ⟨rfl,hw9⟩;subst hw9)
    go_roundg 2
    case measure=>omega
    case rel=>exact ⟨2,by omega,by omega,by go_num,BW,CC,⟨fun _=>AA.out.1 (by omega),fun _=>HBN.out,fun h=>absurd h (by omega),fun h=>absurd h (by omega)⟩⟩
  ·have hc:=CC.out.2.2.1
   have hq:=QP.out ⟨#[38,103,116,59]⟩ wr
   cases hb:Lib.hasPrefix a0.data.toList [38,103,116,59] with
   | true =>
    obtain ⟨rfl,rfl⟩:r1=62∧r2=4:=by
     have hr:=HR.out
     unfold escOf at hr
     rw [if_neg (by rw [AA.out.1 (by omega)];exact Bool.false_ne_true)] at hr;rw [if_neg (by rw [AA.out.2.1 (by omega)];exact Bool.false_ne_true)] at hr;rw [if_pos hb] at hr
     exact ⟨(Prod.mk.inj hr).1.symm,(Prod.mk.inj hr).2.symm⟩
    replace hq:=A_ (hq.mono (R':=fun e w'=>e=.returned (.bool true)∧w'=wr) fun e w' ⟨h1,h2⟩=>⟨by rw [h1];exact congrArg (fun b=>Ending.returned (.bool b)) hb,h2⟩)
    clear hb HR
    go_wp2_with (go_at_call 43;(with_reducible refine hq.out.mono ?_);rintro e w9 ⟨rfl,hw9⟩;subst hw9)
    go_ret2
    exact ⟨rfl,BW.out⟩
   | false =>
    replace hq:=A_ (hq.mono (R':=fun e w'=>e=.returned (.bool false)∧w'=wr) fun e w' ⟨h1,h2⟩=>⟨by rw [h1];exact congrArg (fun b=>Ending.returned (.bool b)) hb,h2⟩)
    have HBN:=A_ hb
    clear hb
    go_wp2_with (go_at_call 43;(with_reducible refine hq.out.mono ?_);rintro e w9 ⟨rfl,hw9⟩;subst hw9)
    go_roundg 1
    case measure=>omega
    case rel=>exact ⟨3,by omega,by omega,by go_num,BW,CC,⟨fun _=>AA.out.1 (by omega),fun _=>AA.out.2.1 (by omega),fun _=>HBN.out,fun h=>absurd h (by omega)⟩⟩
  ·have hc:=CC.out.2.2.2
   have hq:=QP.out ⟨#[38,113,117,111,116,59]⟩ wr
   cases hb:Lib.hasPrefix a0.data.toList [38,113,117,111,116,59] with
   | true =>
    obtain ⟨rfl,rfl⟩:r1=34∧r2=6:=by
     have hr:=HR.out
     unfold escOf at hr
     rw [if_neg (by rw [AA.out.1 (by omega)];exact Bool.false_ne_true)] at hr;rw [if_neg (by rw [AA.out.2.1 (by omega)];exact Bool.false_ne_true)] at hr;rw [if_neg (by rw [AA.out.2.2.1 (by omega)];exact Bool.false_ne_true)] at hr;rw [if_pos hb] at hr
     exact ⟨(Prod.mk.inj hr).1.symm,(Prod.mk.inj hr).2.symm⟩
    replace hq:=A_ (hq.mono (R':=fun e w'=>e=.returned (.bool true)∧w'=wr) fun e w' ⟨h1,h2⟩=>⟨by rw [h1];exact congrArg (fun b=>Ending.returned (.bool b)) hb,h2⟩)
    clear hb HR
    go_wp2_with (go_at_call 43;(with_reducible refine hq.out.mono ?_);rintro e w9 ⟨rfl,hw9⟩;subst hw9)
    go_ret2
    exact ⟨rfl,BW.out⟩
   | false =>
    replace hq:=A_ (hq.mono (R':=fun e w'=>e=.returned (.bool false)∧w'=wr) fun e w' ⟨h1,h2⟩=>⟨by rw [h1];exact congrArg (fun b=>Ending.returned (.bool b)) hb,h2⟩)
    have HBN:=A_ hb
    clear hb
    go_wp2_with (go_at_call 43;(with_reducible refine hq.out.mono ?_);rintro e w9 ⟨rfl,hw9⟩;subst hw9)
    go_roundg 0
    case measure=>omega
    case rel=>exact ⟨4,by omega,by omega,by go_num,BW,CC,⟨fun _=>AA.out.1 (by omega),fun _=>AA.out.2.1 (by omega),fun _=>AA.out.2.2.1 (by omega),fun _=>HBN.out⟩⟩
  ·have hq:=QP.out ⟨#[38,35]⟩ wr
   have HR2:Aside0 ((if Lib.hasPrefix a0.data.toList [38,35]=true then (match numE (Lib.cut ((a0.data.toList.drop 2).take 4) [59]).1 with | some n=>if (Lib.cut ((a0.data.toList.drop 2).take 4) [59]).2.2=true then ((n:Int),((Lib.cut ((a0.data.toList.drop 2).take 4) [59]).1.length:Int)+3) else (0,0) | none=>(0,0)) else (0,0))=(r1,r2)):=⟨by
    have hr:=HR.out
    unfold escOf at hr
    rw [if_neg (by rw [AA.out.1 (by omega)];exact Bool.false_ne_true)] at hr;rw [if_neg (by rw [AA.out.2.1 (by omega)];exact Bool.false_ne_true)] at hr;rw [if_neg (by rw [AA.out.2.2.1 (by omega)];exact Bool.false_ne_true)] at hr;rw [if_neg (by rw [AA.out.2.2.2 (by omega)];exact Bool.false_ne_true)] at hr;exact hr⟩
   clear HR CC AA
   cases hb:Lib.hasPrefix a0.data.toList [38,35] with
   | false =>
    replace hq:=A_ (hq.mono (R':=fun e w'=>e=.returned (.bool false)∧w'=wr) fun e w' ⟨h1,h2⟩=>⟨by rw [h1];exact congrArg (fun b=>Ending.returned (.bool b)) hb,h2⟩)
    obtain ⟨rfl,rfl⟩:r1=0∧r2=0:=by
     have hr:=HR2.out
     rw [if_neg (by rw [hb];exact Bool.false_ne_true)] at hr
     exact ⟨(Prod.mk.inj hr).1.symm,(Prod.mk.inj hr).2.symm⟩
    clear hb HR2
    go_wp2_with (go_at_call 43;(with_reducible refine hq.out.mono ?_);rintro e w9 ⟨rfl,hw9⟩;subst hw9)
    go_ret2
    exact ⟨rfl,BW.out⟩
   | true =>
    replace hq:=A_ (hq.mono (R':=fun e w'=>e=.returned (.bool true)∧w'=wr) fun e w' ⟨h1,h2⟩=>⟨by rw [h1];exact congrArg (fun b=>Ending.returned (.bool b)) hb,h2⟩)
    have h2:=pre_two hb
    replace HR2:=A_ (by have hr:=HR2.out;rw [if_pos hb,←window] at hr;exact hr)
    have hcl:=cut_len (a0.extract 2 (min a0.size 6)).data.toList 59
    have hmin:(if (6:Int)<(a0.size:Int) then (6:Int) else (a0.size:Int))=((min a0.size 6:Nat):Int):=by split <;> omega
    have hn1:2≤min a0.size 6:=by omega
    have hn2:min a0.size 6≤a0.size:=by omega
    have hes:(a0.extract 2 (min a0.size 6)).size≤4:=by rw [ByteArray.size_extract];omega
    rw [data_length] at hcl
    clear hb h2
    generalize hN:min a0.size 6=N at *
    clear hN
    obtain ⟨⟨m,hm⟩,-,-⟩:=HL.out.below BW.out
    have QC:=A_ (Tryz.strings_Cut (a0.extract 2 N) ⟨#[59]⟩ m wr (by omega) hm)
    clear hm
    have hz:([59]:List UInt8)=(⟨#[59]⟩:ByteArray).data.toList:=rfl
    rw [hz] at HR2 hcl
    clear hz
    generalize hG:Lib.cut (a0.extract 2 N).data.toList (⟨#[59]⟩:ByteArray).data.toList=C at *
    clear hG
    obtain ⟨W1,W2,E⟩:=C
    have hwl:W1.length≤4:=by show (W1,W2,E).1.length≤4;omega
    have hwz:(⟨W1.toArray⟩:ByteArray).size=W1.length:=by simp [ByteArray.size]
    have hwd:(⟨W1.toArray⟩:ByteArray).data.toList=W1:=rfl
    replace HR2:Aside0 ((match numE W1 with
     | some n=>if E=true then ((n:Int),(W1.length:Int)+3) else (0,0)
     | none=>(0,0))=(r1,r2)):=HR2
    replace QC:Aside0 (Calls Tryz.prog 77 #[.string (a0.extract 2 N),.string ⟨#[59]⟩] wr fun e w'=>e=.returned (.tuple #[.string ⟨W1.toArray⟩,.string ⟨W2.toArray⟩,.bool E])∧∃ n,w'=wr.drewN n):=QC
    have g1:(2:Int)≤(N:Int):=by omega
    have g2:(N:Int)≤(a0.size:Int):=by omega
    clear hcl hes
    cases hat:Lib.atoi W1 with
    | none =>
     obtain ⟨rfl,rfl⟩:r1=0∧r2=0:=by
      have hr:=HR2.out
      unfold numE at hr
      rw [hat] at hr
      exact ⟨(Prod.mk.inj hr).1.symm,(Prod.mk.inj hr).2.symm⟩
     have QA:Aside0 (∀ W,Below w.heap.size w W→Calls Tryz.prog 78 #[.string ⟨W1.toArray⟩] W fun e w'=>∃ T N,e=.returned (.tuple #[.int .i64 0,.iface T (.pointer (some ⟨N,0,none⟩))])∧Below W.heap.size W w'):=⟨fun W hW=>by
      obtain ⟨-,⟨tp,p,hp⟩,-⟩:=HL.out.below hW
      exact (Tryz.strconv_Atoi_err ⟨W1.toArray⟩ (by omega) (by rw [hwd];exact hat) _ W hp (Or.inr ⟨tp,p,rfl⟩)).mono fun e w' ⟨N,h1,_,_,h4⟩=>⟨_,N,h1,h4⟩⟩
     clear HR2 hat hwz hwd hwl
     generalize (⟨W1.toArray⟩:ByteArray)=word at *
     generalize (⟨W2.toArray⟩:ByteArray)=rest at *
     cases E <;>
     ·go_wp2_with (first|(go_at_call 43;(with_reducible refine hq.out.mono ?_);rintro e w9 ⟨rfl,hw9⟩;subst hw9)|(go_at_call 77;(with_reducible refine QC.out.mono ?_);rintro e w5 ⟨rfl,n5,rfl⟩;(have HB5:=A_ (pd_ BW.out n5)))|(go_at_call 78;(with_reducible refine (QA.out _ HB5.out).mono ?_);rintro e w6 ⟨T,NB,rfl,hb6⟩;(have HB6:=A_ (bp_ HB5.out hb6));clear hb6))
      go_ret2
      exact ⟨rfl,HB6.out⟩
    | some n =>
     have QA:Aside0 (∀ W,Below w.heap.size w W→Calls Tryz.prog 78 #[.string ⟨W1.toArray⟩] W fun e w'=>e=.returned (.tuple #[.int .i64 n,.nilIface])∧Below w.heap.size w w'):=⟨fun W hW =>
      (Tryz.strconv_Atoi ⟨W1.toArray⟩ n (by omega) (by rw [hwd];exact hat) W).mono fun e w' ⟨h1,t,h2⟩=>⟨h1,by rw [h2];exact bp_ hW (Lib.bytesWorld_below _ _ _)⟩⟩
     clear hwd
     have hne:numE W1=if 1≤n∧n≤126∧Lib.itoa n=W1 then some n.toNat else none:=by unfold numE;rw [hat]
     have QI:Aside0 (∀ W,Below w.heap.size w W→Calls Tryz.prog 79 #[.int .i64 n] W fun e w'=>e=.returned (.string ⟨(Lib.itoa n).toArray⟩)∧Below w.heap.size w w'):=⟨fun W hW=>by
      have hb:=Lib.atoi_bound hat (by omega)
      obtain ⟨-,-,ht⟩:=HL.out.below hW
      exact (Tryz.strconv_Itoa n (by omega) (by omega) W ht).mono fun e w' ⟨h1,k,os,h2⟩=>⟨h1,by rw [h2];exact hW.trans (Lib.below_grow _ W hW.size k os)⟩⟩
     cases E with
     | false =>
      obtain ⟨rfl,rfl⟩:r1=0∧r2=0:=by
       have hr:=HR2.out
       cases hN:numE W1 with
       | none=>rw [hN] at hr;exact ⟨(Prod.mk.inj hr).1.symm,(Prod.mk.inj hr).2.symm⟩
       | some k=>rw [hN] at hr;exact ⟨(Prod.mk.inj hr).1.symm,(Prod.mk.inj hr).2.symm⟩
      clear HR2 hat hwz hwl hne QI
      generalize (⟨W1.toArray⟩:ByteArray)=word at *
      generalize (⟨W2.toArray⟩:ByteArray)=rest at *
      go_wp2_with (first|(go_at_call 43;(with_reducible refine hq.out.mono ?_);rintro e w9 ⟨rfl,hw9⟩;subst hw9)|(go_at_call 77;(with_reducible refine QC.out.mono ?_);rintro e w5 ⟨rfl,n5,rfl⟩;(have HB5:=A_ (pd_ BW.out n5)))|(go_at_call 78;(with_reducible refine (QA.out _ HB5.out).mono ?_);rintro e w6 ⟨rfl,hb6⟩;(have HB6:=A_ hb6);clear hb6))
      go_ret2
      exact ⟨rfl,HB6.out⟩
     | true =>
      by_cases hr:1≤n∧n≤126
      ·obtain ⟨k,rfl⟩:∃ k:Nat,n=(k:Int):=⟨n.toNat,by omega⟩
       have hk1:(1:Int)≤(k:Int):=hr.1
       have hk2:(k:Int)≤126:=hr.2
       have QW:Aside0 (∀ W,Calls Tryz.prog 19 #[.int .i64 (k:Int),.int .i64 1,.int .i64 126] W fun e w'=>e=.returned (.bool true)∧∃ m,w'=W.drewN m):=⟨fun W=>by have h9:=impl_within.pure (k:Int) 1 126 W;rw [dt_ (show 1≤(k:Int)∧(k:Int)≤126 from ⟨hk1,hk2⟩)] at h9;exact Mach.quietD h9⟩
       by_cases hi:Lib.itoa (k:Int)=W1
       ·obtain ⟨rfl,hr2⟩:r1=(k:Int)∧r2=((⟨W1.toArray⟩:ByteArray).size:Int)+3:=by
         have h9:=HR2.out
         rw [hwz]
         rw [hne,if_pos ⟨hr.1,hr.2,hi⟩] at h9
         exact ⟨(Prod.mk.inj h9).1.symm,(Prod.mk.inj h9).2.symm⟩
        rw [hi] at QI
        rw [←hwz] at hwl
        replace hr2:=A_ hr2
        clear HR2 hat hne hi hr hwz
        generalize (⟨W1.toArray⟩:ByteArray)=word at *
        generalize (⟨W2.toArray⟩:ByteArray)=rest at *
        go_wp2_with (first|(go_at_call 43;(with_reducible refine hq.out.mono ?_);rintro e w9 ⟨rfl,hw9⟩;subst hw9)|(go_at_call 77;(with_reducible refine QC.out.mono ?_);rintro e w5 ⟨rfl,n5,rfl⟩;(have HB5:=A_ (pd_ BW.out n5)))|(go_at_call 78;(with_reducible refine (QA.out _ HB5.out).mono ?_);rintro e w6 ⟨rfl,hb6⟩;(have HB6:=A_ hb6);clear hb6)|(go_at_call 19;(with_reducible refine (QW.out _).mono ?_);rintro e w7 ⟨rfl,n7,rfl⟩;(have HB7:=A_ (pd_ HB6.out n7)))|(go_at_call 79;(with_reducible refine (QI.out _ HB7.out).mono ?_);rintro e w8 ⟨rfl,hb8⟩;(have HB8:=A_ hb8);clear hb8))
        go_ret2
        refine ⟨?_,HB8.out⟩
        rw [hr2.out]
        rfl
       ·have hbe:((⟨(Lib.itoa (k:Int)).toArray⟩:ByteArray).toList == (⟨W1.toArray⟩:ByteArray).toList)=false:=(Lib.bytes_beq_false_iff _ _).2 fun e=>hi (by have:=congrArg (fun s:ByteArray=>s.data.toList) e;exact this)
        obtain ⟨rfl,rfl⟩:r1=0∧r2=0:=by
         have h9:=HR2.out
         rw [hne,if_neg (fun h=>hi h.2.2)] at h9
         exact ⟨(Prod.mk.inj h9).1.symm,(Prod.mk.inj h9).2.symm⟩
        have hbn:((⟨(Lib.itoa (k:Int)).toArray⟩:ByteArray).toList != (⟨W1.toArray⟩:ByteArray).toList)=true:=by rw [bne,hbe];rfl
        clear HR2 hat hne hi hr hwz hwl
        generalize (⟨W1.toArray⟩:ByteArray)=word at *
        generalize (⟨W2.toArray⟩:ByteArray)=rest at *
        generalize (⟨(Lib.itoa (k:Int)).toArray⟩:ByteArray)=iw at *
        go_wp2_with (first|(go_at_call 43;(with_reducible refine hq.out.mono ?_);rintro e w9 ⟨rfl,hw9⟩;subst hw9)|(go_at_call 77;(with_reducible refine QC.out.mono ?_);rintro e w5 ⟨rfl,n5,rfl⟩;(have HB5:=A_ (pd_ BW.out n5)))|(go_at_call 78;(with_reducible refine (QA.out _ HB5.out).mono ?_);rintro e w6 ⟨rfl,hb6⟩;(have HB6:=A_ hb6);clear hb6)|(go_at_call 19;(with_reducible refine (QW.out _).mono ?_);rintro e w7 ⟨rfl,n7,rfl⟩;(have HB7:=A_ (pd_ HB6.out n7)))|(go_at_call 79;(with_reducible refine (QI.out _ HB7.out).mono ?_);rintro e w8 ⟨rfl,hb8⟩;(have HB8:=A_ hb8);clear hb8))
        go_ret2
        exact ⟨rfl,HB8.out⟩
      ·have QW:Aside0 (∀ W,Calls Tryz.prog 19 #[.int .i64 n,.int .i64 1,.int .i64 126] W fun e w'=>e=.returned (.bool false)∧∃ m,w'=W.drewN m):=⟨fun W=>by have h9:=impl_within.pure n 1 126 W;rw [df_ hr] at h9;exact Mach.quietD h9⟩
       obtain ⟨rfl,rfl⟩:r1=0∧r2=0:=by
        have h9:=HR2.out
        rw [hne,if_neg (fun h=>hr ⟨h.1,h.2.1⟩)] at h9
        exact ⟨(Prod.mk.inj h9).1.symm,(Prod.mk.inj h9).2.symm⟩
       clear HR2 hat hne hr hwz hwl QI
       generalize (⟨W1.toArray⟩:ByteArray)=word at *
       generalize (⟨W2.toArray⟩:ByteArray)=rest at *
       go_wp2_with (first|(go_at_call 43;(with_reducible refine hq.out.mono ?_);rintro e w9 ⟨rfl,hw9⟩;subst hw9)|(go_at_call 77;(with_reducible refine QC.out.mono ?_);rintro e w5 ⟨rfl,n5,rfl⟩;(have HB5:=A_ (pd_ BW.out n5)))|(go_at_call 78;(with_reducible refine (QA.out _ HB5.out).mono ?_);rintro e w6 ⟨rfl,hb6⟩;(have HB6:=A_ hb6);clear hb6)|(go_at_call 19;(with_reducible refine (QW.out _).mono ?_);rintro e w7 ⟨rfl,n7,rfl⟩;(have HB7:=A_ (pd_ HB6.out n7))))
       go_ret2
       first|exact ⟨rfl,HB7.out⟩|exact ⟨rfl,HB6.out⟩
 def impl_unescape.l0:Nat→ByteArray→List Int→Int→Option (ByteArray)
  | 0,_,_,_=>none
  | k+1,x0,x3,x4=>if x4<(x0.size:Int) then (if 0≤x4 then (if x4≤(x0.size:Int) then ((impl_escape.f (x0.extract (x4:Int).toNat x0.size)).bind fun bt297=>(if bt297.2>0 then (if x3.length<140737488355328 then (impl_unescape.l0 k x0 (x3++[bt297.1]) (wrap64 (x4+bt297.2))) else (none)) else (if x3.length<140737488355328 then (impl_unescape.l0 k x0 (x3++[bt x0 x4]) (wrap64 (x4+1))) else (none)))) else (none)) else (none)) else (some (strOfNums x3))
 def impl_unescape.f (k:Nat) (a0:ByteArray):Option (ByteArray):=impl_unescape.l0 k a0 (([]:List Int)) 0
theorem impl_unescape.mono_l:∀ k,(∀ y0 y1 y2,LeO (impl_unescape.l0 k y0 y1 y2) (impl_unescape.l0 (k+1) y0 y1 y2))
 | 0=>fun _ _ _ r h=>by simp [impl_unescape.l0] at h
 | k+1=>by
  have ih0:=impl_unescape.mono_l k
  ·intro y0 y1 y2
   unfold impl_unescape.l0
   repeat' first|(with_reducible first|exact ih0 ..|exact LeO.refl _|exact LeO.none _|refine LeO.ite ?_ ?_|refine LeO.bind ?_ (fun _=>?_))|exact ih0 ..|exact LeO.none _|refine LeO.ite ?_ ?_|refine LeO.bind ?_ (fun _=>?_)
theorem impl_unescape.mono:∀ a0 k,LeO (impl_unescape.f k a0) (impl_unescape.f (k+1) a0):=by
 intro a0 k
 have ih0:=impl_unescape.mono_l k
 unfold impl_unescape.f
 repeat' first|(with_reducible first|exact ih0 ..|exact LeO.refl _|exact LeO.none _|refine LeO.ite ?_ ?_|refine LeO.bind ?_ (fun _=>?_))|exact ih0 ..|exact LeO.none _|refine LeO.ite ?_ ?_|refine LeO.bind ?_ (fun _=>?_)
set_option maxHeartbeats 8000000 in
set_option maxRecDepth 100000 in
theorem impl_unescape.calls (k:Nat) (a0:ByteArray) (r:ByteArray) (w:World) (hL:Laid w) (h:impl_unescape.f k a0=some r) :
 Calls Tryz.prog 46 #[.string a0] w fun e w'=>e=.returned (.string r)∧Below w.heap.size w w':=by
 have HB:=A_ (Below.refl w.heap.size w)
 have HL:=A_ hL
 clear hL
 have H:(impl_unescape.l0 k a0 (([]:List Int)) 0)=some r:=h
 clear h
 obtain ⟨y294,hy294⟩:∃ y_:List Int,y_=(([]:List Int)):=⟨_,rfl⟩
 replace H:(impl_unescape.l0 k a0 y294 0)=some r:=by first|(rw [hy294];with_reducible exact H)|(have H2_:=(Option.bind_some _ _).symm.trans H;rw [hy294];with_reducible exact H2_)|(have H2_:=(Option.bind_some _ _).symm.trans H;with_reducible exact H2_)|with_reducible exact H|(rw [hy294];exact H)|exact H
 have Ny294:=A_ hy294
 clear hy294
 have H':=A_ H
 clear H
 go_enter Tryz.func46,Tryz.ntmps46
 go_wp2_with (first|((with_reducible refine gate_dst (N:=7) rfl ?_);refine Kd.R_lit (Kd.int .u8) _ 5 ?hg (N:=7) ?hd (xs:=([]:List Int)) (inner:=[]) (ok:=fun _=>True) (okp:=fun _=>True) ?hr ?hp (fun _ hk=>hk) trivial (Below.refl _ _) (Nat.le_refl _) (by simp) ?_;(case hd=>rfl);(case hg=>rfl);(case hr=>first|(go_simp;done)|(go_simp;rfl)|(first|(go_simp;done)|(go_simp;rfl)));(case hp=>exact (Reps.none _ _));intro v295 w2 ho3 hb hg_ hnew_;clear hg_ hnew_;(first|rw [←Ny294.out] at ho3|(simp only [Int.reduceToNat] at ho3;rw [←Ny294.out] at ho3));have n0_:=A_ (Kd.R_lower ho3 (bz_ (bq0_ HB.out)));have n1_:=A_ (bp_ (bq0_ HB.out) hb);clear HB;have HO296:=n0_;have HB:=n1_;clear n0_ n1_;clear hb ho3))
 go_loopg [3,4] k (fun kq v3 v4 w'=>∃ (x3_1:List Int) (x4_1:Int),v4=.int .i64 x4_1∧Aside0 (impl_unescape.l0 kq a0 x3_1 x4_1=some r)∧Aside0 (kq≤k)∧Aside0 (Kd.R (Kd.int .u8) 5 w' w.heap.size (fun _=>True) v3 x3_1)∧Aside0 (Below w.heap.size w w'))
 case atStart=>exact ⟨(y294),(0),rs_,H',⟨Nat.le_refl _⟩,⟨by (with_reducible repeat first|apply ra_|apply rn_|apply rd_);exact HO296.out⟩,⟨bq0_ HB.out⟩⟩
 case round =>
  clear H'
  try clear p2
  obtain ⟨x3_1,x4_1,rfl,HA,HK1,HO_3,HB⟩:=hrel
  cases gk with
  | zero=>exact absurd HA.out (by simp [impl_unescape.l0])
  | succ k1 =>
   have H:=HA.out
   clear HA
   simp only [impl_unescape.l0] at H
   by_cases c4:x4_1<(a0.size:Int)
   ·rw [if_pos c4] at H
    have c4b0:decide (x4_1<(a0.size:Int))=true:=dt_ c4
    clear c4
    by_cases c5:0≤x4_1
    ·rw [if_pos c5] at H
     have c5b0:=eq_true c5
     have c5b1:decide (0≤x4_1)=true:=dt_ c5
     clear c5
     by_cases c6:x4_1≤(a0.size:Int)
     ·rw [if_pos c6] at H
      have c6b0:=eq_true c6
      have c6b1:decide (x4_1≤(a0.size:Int))=true:=dt_ c6
      clear c6
      replace H:=ob_ H
      obtain ⟨⟨t297,t298⟩,A70,H⟩:=H
      replace H:(if t298>0 then (if x3_1.length<140737488355328 then (impl_unescape.l0 k1 a0 (x3_1++[t297]) (wrap64 (x4_1+t298))) else (none)) else (if x3_1.length<140737488355328 then (impl_unescape.l0 k1 a0 (x3_1++[bt a0 x4_1]) (wrap64 (x4_1+1))) else (none)))=some r:=H
      have A7:=A_ A70
      clear A70
      by_cases c8:t298>0
      ·rw [if_pos c8] at H
       have c8b0:decide (0<t298)=true:=dt_ c8
       clear c8
       by_cases c9:x3_1.length<140737488355328
       ·rw [if_pos c9] at H
        have LMc9:=A_ c9
        clear c9
        obtain ⟨y299,hy299⟩:∃ y_:List Int,y_=(x3_1++[t297]):=⟨_,rfl⟩
        replace H:(impl_unescape.l0 k1 a0 y299 (wrap64 (x4_1+t298)))=some r:=by first|(rw [hy299];with_reducible exact H)|(have H2_:=(Option.bind_some _ _).symm.trans H;rw [hy299];with_reducible exact H2_)|(have H2_:=(Option.bind_some _ _).symm.trans H;with_reducible exact H2_)|with_reducible exact H|(rw [hy299];exact H)|exact H
        have Ny299:=A_ hy299
        clear hy299
        have H':=A_ H
        clear H
        go_wp2_with (first|((with_reducible refine gate_callee (f:=68) rfl ?_);refine gl_ (some 16) rfl rfl Tryz.func68 (by kernel_rfl) rfl #[.string (a0.extract (x4_1:Int).toNat a0.size)] rfl  ?_;(with_reducible refine (impl_escape.calls (a0.extract (x4_1:Int).toNat a0.size) t297 t298 _ ?sideL A7.out).mono ?_);(case sideL=>exact HL.out.below (bq0_ HB.out));rintro e w10 ⟨rfl,hb⟩;refine ⟨_,rfl,?_⟩;have n0_:=A_ (Kd.R_below (rq_ HO_3.out) hb);have n1_:=A_ (bp_ (bq0_ HB.out) hb);clear HO_3;clear HB;have HO_3:=n0_;have HB:=n1_;clear n0_ n1_;(try clear hb);(try clear hb2);(try clear hk);(try clear hi))|((with_reducible refine gate_builtin (b:=.append) (xs:=#[.tmp 21,.tmp 23]) rfl ?_);at_builtin;refine Kd.R_append (Kd.int .u8) (w0:=w) w.heap.size rfl (.tmp 21) (.tmp 23) 54 5 (.int .u8 0) 1 rfl Tryz.underlying54 info5 rfl (by decide) (by omega) u3 x3_1 t297 [.int .u8 t297] (fun _=>True) (fun _=>False) rfl rfl ?aP (fun _ hk=>hk.elim) ?aF ?aO ?aB ?aS ?aL ?_;(case aP=>exact rfl);(case aB=>exact (bq0_ HB.out));(case aF=>exact (fun _ _=>trivial));(case aO=>exact (rq_ HO_3.out));(case aS=>exact (bz_ (bq0_ HB.out)));(case aL=>have:=LMc9.out;omega);intro v300 w11 ho hb hg hat;rw [←Ny299.out] at ho;have n0_:=A_ (hb);have n1_:=A_ (ho);clear HB;clear HO_3;have HB:=n0_;have HO301:=n1_;clear n0_ n1_;clear ho hb hg hat))
        go_roundg k1
        case measure=>have:=HK1.out;omega
        case rel=>exact ⟨(y299),(wrap64 (x4_1+t298)),rs_,H',⟨by have:=HK1.out;omega⟩,⟨by (with_reducible repeat first|apply ra_|apply rn_|apply rd_);exact HO301.out⟩,⟨bq0_ HB.out⟩⟩
       ·rw [if_neg c9] at H
        exact absurd H (by simp)
      ·rw [if_neg c8] at H
       have c8b0:decide (0<t298)=false:=df_ c8
       clear c8
       by_cases c13:x3_1.length<140737488355328
       ·rw [if_pos c13] at H
        have LMc13:=A_ c13
        clear c13
        obtain ⟨y302,hy302⟩:∃ y_:List Int,y_=(x3_1++[bt a0 x4_1]):=⟨_,rfl⟩
        replace H:(impl_unescape.l0 k1 a0 y302 (wrap64 (x4_1+1)))=some r:=by first|(rw [hy302];with_reducible exact H)|(have H2_:=(Option.bind_some _ _).symm.trans H;rw [hy302];with_reducible exact H2_)|(have H2_:=(Option.bind_some _ _).symm.trans H;with_reducible exact H2_)|with_reducible exact H|(rw [hy302];exact H)|exact H
        have Ny302:=A_ hy302
        clear hy302
        have H':=A_ H
        clear H
        go_wp2_with (first|((with_reducible refine gate_callee (f:=68) rfl ?_);refine gl_ (some 16) rfl rfl Tryz.func68 (by kernel_rfl) rfl #[.string (a0.extract (x4_1:Int).toNat a0.size)] rfl  ?_;(with_reducible refine (impl_escape.calls (a0.extract (x4_1:Int).toNat a0.size) t297 t298 _ ?sideL A7.out).mono ?_);(case sideL=>exact HL.out.below (bq0_ HB.out));rintro e w14 ⟨rfl,hb⟩;refine ⟨_,rfl,?_⟩;have n0_:=A_ (Kd.R_below (rq_ HO_3.out) hb);have n1_:=A_ (bp_ (bq0_ HB.out) hb);clear HO_3;clear HB;have HO_3:=n0_;have HB:=n1_;clear n0_ n1_;(try clear hb);(try clear hb2);(try clear hk);(try clear hi);have p12:0≤(x4_1:Int):=oa_;have q12:x4_1<(a0.size:Int):=oa_;have hx12:=bt_at a0 x4_1;replace p12:=eq_true p12;replace q12:=eq_true q12)|((with_reducible refine gate_builtin (b:=.append) (xs:=#[.tmp 28,.tmp 32]) rfl ?_);at_builtin;refine Kd.R_append (Kd.int .u8) (w0:=w) w.heap.size rfl (.tmp 28) (.tmp 32) 54 5 (.int .u8 0) 1 rfl Tryz.underlying54 info5 rfl (by decide) (by omega) u3 x3_1 (bt a0 x4_1) [.int .u8 (bt a0 x4_1)] (fun _=>True) (fun _=>False) rfl rfl ?aP (fun _ hk=>hk.elim) ?aF ?aO ?aB ?aS ?aL ?_;(case aP=>exact rfl);(case aB=>exact (bq0_ HB.out));(case aF=>exact (fun _ _=>trivial));(case aO=>exact (rq_ HO_3.out));(case aS=>exact (bz_ (bq0_ HB.out)));(case aL=>have:=LMc13.out;omega);intro v303 w15 ho hb hg hat;rw [←Ny302.out] at ho;have n0_:=A_ (hb);have n1_:=A_ (ho);clear HB;clear HO_3;have HB:=n0_;have HO304:=n1_;clear n0_ n1_;clear ho hb hg hat))
        go_roundg k1
        case measure=>have:=HK1.out;omega
        case rel=>exact ⟨(y302),(wrap64 (x4_1+1)),rs_,H',⟨by have:=HK1.out;omega⟩,⟨by (with_reducible repeat first|apply ra_|apply rn_|apply rd_);exact HO304.out⟩,⟨bq0_ HB.out⟩⟩
       ·rw [if_neg c13] at H
        exact absurd H (by simp)
     ·rw [if_neg c6] at H
      exact absurd H (by simp)
    ·rw [if_neg c5] at H
     exact absurd H (by simp)
   ·rw [if_neg c4] at H
    have c4b0:decide (x4_1<(a0.size:Int))=false:=df_ c4
    clear c4
    obtain rfl:=oi_ H
    have hcv16:=own_string (P:=Tryz.prog) Tryz.underlying54 Tryz.underlying5 Tryz.underlying9 (Kd.own_of_R HO_3.out)
    go_wp2
    go_ret
    exact ⟨by first|rfl|(simp [errW_none,errW_some] <;> rfl)|(simp [*,errW_none,errW_some] <;> rfl),bq0_ HB.out⟩
end Go.Proofs.YtfkanlbmgbkniaaGreatDoor.PFnExactTokensOf
