/- By a program of this session, out of the kit's print and contracts made by hand: the machine side of a law; Lean checks it. No conditions. -/
import Derived.Test.YtjlikemmhjclpaaPFnExactCleanx0
import Derived.Test.YtjlikemmhjclpaaPFnExactCleanx24
import Derived.Test.YtjlikemmhjclpaaPFnExactCleanx25
import Derived.Test.YtjlikemmhjclpaaPFnExactCleanx27
namespace Go.Proofs.Ytjlikemmhjclpaa.PFnExactClean
open Go.RowKit Go.Proofs.YtjlikemmhjclpaaW.PrintWords Go.Proofs.YtjlikemmhjclpaaW.PrintLast Go.Proofs.YtjlikemmhjclpaaW.PrintMore
attribute [local go_sem] max2_int min2_int max_two min_two max_three min_three max_four min_four
set_option linter.unusedVariables false
set_option linter.unusedSimpArgs false
/-! ### impl_HarmlessP: function 34, by hand -/
def impl_Harmless.f (l0:List S44):Option Bool:=(impl_TreeOK.f l0).bind fun b=>if b=true then (if ∀ y∈l0,goodB 10 y=true then some (eachP stepHP 10 l0 [] none).isNone else none) else some false
theorem impl_Harmless.calls (A0:Option Addr) (c0:Nat) (l0:List S44) (r:Bool) (w:World) (hr0:Kd.C k44 w A0 l0.length l0) (hc0:l0.length≤c0) (h:impl_Harmless.f l0=some r) :
 Calls Try.prog 34 #[.slice A0 l0.length c0] w fun e w'=>e=.returned (.bool r)∧Below w.heap.size w w':=by
 unfold impl_Harmless.f at h
 obtain ⟨b,hb,h⟩:=ob_ h
 have QT:=A_ (impl_TreeOK.calls A0 c0 l0 b w hr0 hc0 hb)
 cases b with
 | false =>
  rw [if_neg Bool.false_ne_true] at h
  obtain rfl:=oi_ h
  clear h hb hr0 hc0
  generalize l0.length=n0 at *
  go_enter Try.func34,Try.ntmps34
  go_wp2_with (go_at_call 25;(with_reducible refine QT.out.mono ?_);rintro e w1 ⟨rfl,hb1⟩;have HB1:=A_ hb1;clear hb1)
  go_ret
  exact ⟨rfl,HB1.out⟩
 | true =>
  rw [if_pos rfl] at h
  obtain ⟨hd',h⟩:=Option.ite_none_right_eq_some.mp h
  have hd:=fun y hy=>(goodB_iff 10 y).1 (hd' y hy)
  clear hd'
  obtain rfl:=oi_ h
  have QH9:Aside0 (∀ V,Below w.heap.size w V→Calls Try.prog 53 #[.slice A0 l0.length c0] V fun e w'=>∃ v,e=.returned v∧harmRes w' V.heap.size v (eachP stepHP 10 l0 [] none)∧Below V.heap.size V w'):=⟨fun V hV=>impl_firstHarm.calls A0 c0 l0 V (cb_ hr0 hV) hd⟩
  clear h hb hr0 hc0 hd
  generalize eachP stepHP 10 l0 [] none=R at *
  generalize l0.length=n0 at *
  have hn1:=fun (w:World) (ad:Addr) (n c:Nat)=>nil_no w ad n c
  have hn2:=nil_yes
  cases R with
  | none =>
   go_enter Try.func34,Try.ntmps34
   go_wp2_with (first|(go_at_call 25;(with_reducible refine QT.out.mono ?_);rintro e w1 ⟨rfl,hb1⟩;have HB1:=A_ hb1;clear hb1)|(go_at_call 53;(with_reducible refine (QH9.out _ HB1.out).mono ?_);rintro e w2 ⟨v2,rfl,hv2,hb2⟩;have HB2:=A_ (HB1.out.trans (hb2.mono HB1.out.size));obtain rfl:=hv2;clear hb2))
   go_ret
   exact ⟨rfl,HB2.out⟩
  | some ps =>
   go_enter Try.func34,Try.ntmps34
   go_wp2_with (first|(go_at_call 25;(with_reducible refine QT.out.mono ?_);rintro e w1 ⟨rfl,hb1⟩;have HB1:=A_ hb1;clear hb1)|(go_at_call 53;(with_reducible refine (QH9.out _ HB1.out).mono ?_);rintro e w2 ⟨v2,rfl,⟨ad9,c9,rfl,hp9,_⟩,hb2⟩;have HB2:=A_ (HB1.out.trans (hb2.mono HB1.out.size));have hn9:=fun (w:World)=>nil_no w ad9 ps.length c9;clear hb2))
   go_ret
   exact ⟨rfl,HB2.out⟩
/-! ### strings_ContainsAny: function 56, by hand -/
/-- strings.IndexRune of a rune beyond ASCII in "<>": none. -/
theorem validRune_iff (r:Int):Utf8.valid r=Lib.validRune r:=by
 rw [validRune_eq]
 rfl
set_option maxHeartbeats 4000000 in
set_option maxRecDepth 1000000 in
theorem indexRune_high (c:Nat) (w:World) (h0:128≤c) (h1:c≤2147483647):Calls Try.prog 104 #[.string ⟨#[60,62]⟩,.int .i32 c] w fun e w'=>e=.returned (.int .i64 (-1))∧Below w.heap.size w w':=by
 have z0:decide ((0:Int)≤(c:Int))=true:=dt_ (by omega)
 have z1:decide ((c:Int)<128)=false:=df_ (by omega)
 by_cases hE:c=65533
 case pos =>
  subst hE
  go_enter Try.func104,Try.ntmps104
  go_wp2
  go_loopg [5,6] 2 (fun gg _ _ wx=>∃ i:Nat,i+gg=2∧wx=w.iter ⟨#[60,62]⟩ i)
  case atStart=>exact ⟨0,by omega,rfl⟩
  case round =>
   obtain ⟨i,hig,rfl⟩:=hrel
   cases gk with
   | zero =>
    obtain rfl:i=2:=by omega
    have hnx:=fun ty=>run_next_end (P:=Try.prog) w ⟨#[60,62]⟩ 2 ty (by decide)
    go_wp2
    go_ret
    exact ⟨rfl,ba_ (Below.refl _ _) _⟩
   | succ g =>
    have hi:i=0∨i=1:=by omega
    rcases hi with rfl|rfl
    ·have hnx:=fun ty=>run_next_ascii (P:=Try.prog) w ⟨#[60,62]⟩ 0 ty (by decide) (by decide)
     go_wp2
     go_roundg g
     case measure=>omega
     case rel=>exact ⟨1,by omega,rfl⟩
    ·have hnx:=fun ty=>run_next_ascii (P:=Try.prog) w ⟨#[60,62]⟩ 1 ty (by decide) (by decide)
     go_wp2
     go_roundg g
     case measure=>omega
     case rel=>exact ⟨2,by omega,rfl⟩
 case neg =>
  have z2:((c:Int) == 65533)=false:=beq_eq_false_iff_ne.2 (by omega)
  have QV:=A_ (fun W=>Try.utf8_ValidRune (c:Int) W)
  cases hv:Lib.validRune (c:Int)
  case false =>
   rw [hv] at QV
   clear hv
   go_enter Try.func104,Try.ntmps104
   go_wp2_with (go_at_call 120;(with_reducible refine (QV.out _).mono ?_);rintro e w' ⟨rfl,hw⟩;rw [hw])
   go_ret
   exact ⟨rfl,Below.refl _ _⟩
  case true =>
   rw [hv] at QV
   obtain ⟨e1,e2,e3⟩:=encode_facts (c:Int) ((validRune_iff _).trans hv) (by omega)
   clear hv
   obtain ⟨u,hu⟩:∃ u,Utf8.encode (c:Int)=u:=⟨_,rfl⟩
   rw [hu] at e1 e2 e3
   have hcv:∀ W:World,(convert 21 9 (.int .i32 (c:Int))).run Try.prog W=.ok (.string u) W:=fun W=>by rw [run_convert_int_string W 21 9 .i32 (c:Int) (by kernel_rfl) Try.underlying9,hu]
   clear hu
   by_cases h2:u.size=2
   ·have e4:=e3 (by omega)
    have hb:128≤bt u 1:=by
     unfold bt
     rw [dif_pos (show (1:Int).toNat<u.size by show 1<u.size;omega)]
     have:u.size - 1=(1:Int).toNat:=by rw [h2];rfl
     simp only [this] at e4
     omega
    have q1:∀ h:1<u.size,((u[1]'h).toNat:Int)=bt u 1:=bt_at u 1
    have q8:∀ h:1<(⟨#[60,62]⟩:ByteArray).size,(((⟨#[60,62]⟩:ByteArray)[1]'h).toNat:Int)=62:=fun _=>rfl
    have q2:((u.size:Nat):Int)=2:=by omega
    have q3:(62:Int)≠bt u 1:=by omega
    have q4:((62:Int) == bt u 1)=false:=beq_eq_false_iff_ne.2 q3
    have q5:((62:Int) != bt u 1)=true:=bne_iff_ne.2 q3
    have q6:(1:Int)<(u.size:Int):=by omega
    have QI:∀ W:World,Calls Try.prog 119 #[.string ByteArray.empty,.int .u8 (bt u 1)] W fun e w'=>e=.returned (.int .i64 (-1))∧Drawn0 W w':=fun W=>(Try.strings_IndexByte ByteArray.empty (bt u 1) W).mono fun e w' ⟨he,hw⟩=>⟨he,hw ▸ dr_ _⟩
    have q7:∀ W:World,(Instr.slice 9 (.string (⟨#[60,62]⟩:ByteArray)) (some (.int .i64 2)) none none).run Try.prog W=.ok (.string ByteArray.empty) W:=fun W=>by
     rw [run_slice_string_l (ht:=Try.underlying9) (h0:=by decide) (h1:=by decide)]
     rfl
    go_enter Try.func104,Try.ntmps104
    go_wp2_with (first|(go_at_call 120;(with_reducible refine (QV.out _).mono ?_);rintro e w' ⟨rfl,hw⟩;rw [hw]))
    go_step3
    go_wp2
    go_loopg [9,10,11,12] 0 (fun _ v9 _ _ _ wx=>v9=.int .i64 1∧wx=w)
    case atStart=>exact ⟨rfl,rfl⟩
    case round =>
     obtain ⟨rfl,rfl⟩:=hrel
     go_wp2
     go_step3
     go_wp2
     go_quiet (fail)
     go_wp2
     go_quiet (first|(go_at_call 119;exact Mach.quietD2 (QI _)))
     go_wp2
     rw [Exit.noGoto_ret]
     go_wp2
     rw [Exit.noGoto_ret]
     go_wp2
     go_ret
     exact ⟨rfl,pd_ (Below.refl _ _) _⟩
   ·have q2:decide (((u.size:Nat):Int) - 1<2)=false:=df_ (by omega)
    go_enter Try.func104,Try.ntmps104
    go_wp2_with (first|(go_at_call 120;(with_reducible refine (QV.out _).mono ?_);rintro e w' ⟨rfl,hw⟩;rw [hw]))
    go_step3
    go_wp2
    go_loopg [9,10,11,12] 0 (fun _ v9 _ _ _ wx=>v9=.int .i64 (((u.size:Nat):Int) - 1)∧wx=w)
    case atStart=>exact ⟨rfl,rfl⟩
    case round =>
     obtain ⟨rfl,rfl⟩:=hrel
     go_wp2
     repeat rw [Exit.noGoto_ret]
     go_ret
     exact ⟨rfl,Below.refl _ _⟩
/-- Behind a byte beyond ASCII: what its rune takes in besides holds no ASCII byte. -/
theorem decode_skipG (s:ByteArray) (pos:Nat) (h:pos<s.size) (ha:128≤(s[pos]'h).toNat):∀ k,pos<k→k<pos+(Utf8.decode s pos).2→128≤(s.get! k).toNat:=by
 have hn:¬ (s[pos]'h).toNat<128:=by omega
 simp only [Utf8.decode,get_at s pos h,hn,if_false]
 intro k h1 h2
 revert h2
 repeat' split
 all_goals intro h2
 all_goals simp_all
 all_goals try omega
 ·obtain rfl:k=pos+1:=by omega
  omega
 ·have hk2:k=pos+1∨k=pos+2:=by omega
  rcases hk2 with rfl|rfl <;> omega
 ·have hk2:k=pos+1∨k=pos+2∨k=pos+3:=by omega
  rcases hk2 with rfl|rfl|rfl <;> omega
theorem decode_skip (s:ByteArray) (pos:Nat) (h:pos<s.size) (ha:128≤(s[pos]'h).toNat) (k:Nat) (h1:pos<k) (h2:k<pos+(Utf8.decode s pos).2) (hk:k<s.size):128≤(s[k]'hk).toNat:=by
 have hg:s.get! k=s[k]'hk:=by
  simp [ByteArray.get!,getElem!_pos,hk]
  rfl
 rw [←hg]
 exact decode_skipG s pos h ha k h1 h2
theorem noAny_high {s:ByteArray} {i n:Nat} (h:Lib.NoAny s.data.toList [60,62] i) (hs:∀ k,i≤k→k<i+n→∀ hk:k<s.size,128≤(s[k]'hk).toNat):Lib.NoAny s.data.toList [60,62] (i+n):=fun j b hj hb=>by
 by_cases e:j<i
 ·exact h j b e hb
 ·have hl:j<s.size:=by
   have:=(List.getElem?_eq_some_iff.1 hb).1
   simpa using this
  have h2:=hs j (by omega) hj hl
  rw [Lib.data_getElem? s j hl] at hb
  obtain rfl:=oi_ hb
  have n1:s[j]≠60:=fun e=>by rw [e] at h2;exact absurd h2 (by decide)
  have n2:s[j]≠62:=fun e=>by rw [e] at h2;exact absurd h2 (by decide)
  simp [n1,n2]
set_option maxHeartbeats 8000000 in
set_option maxRecDepth 1000000 in
theorem indexAny_lt (s:ByteArray) (w:World) (hs:s.size≤1048576):Calls Try.prog 86 #[.string s,.string ⟨#[60,62]⟩] w fun e w'=>e=.returned (.int .i64 (Lib.indexAny s.data.toList [60,62]))∧Below w.heap.size w w':=by
 by_cases h8:8<s.size
 case pos =>
  have hi:(Try.prog.info? 101).map (fun i=>(i.zero,i.size))=some (some (.agg (Array.replicate 256 (.bool false))),256):=by kernel_rfl
  refine (Any.strings_IndexAny_long Try.lays153 (zero_of_info hi).1 (zero_of_info hi).2 s ⟨#[60,62]⟩ w (by decide) h8 (by omega) (by decide) (fun j b hb=>?_)).mono fun e w' ⟨h1,h2⟩=>⟨h1,?_⟩
  ·have hm:b∈([60,62]:List UInt8):=List.mem_of_getElem? hb
   simp at hm
   rcases hm with rfl|rfl <;> decide
  ·rw [h2]
   exact ((Below.refl _ _).alloc (Nat.le_refl _) _).alloc (by simp) _
 case neg =>
  have hn1:(((⟨#[60,62]⟩:ByteArray).size:Int) == 1)=false:=by decide
  have h8z:decide ((8:Int)<(s.size:Int))=false:=df_ (by omega)
  have QU:=A_ (fun W=>Try.strings_shouldUseASCIISet (s.size:Int) W)
  rw [h8z] at QU
  obtain ⟨k0,hk0⟩:∃ k0,w.heap.size=k0:=⟨_,rfl⟩
  have HK0:=A_ hk0
  go_enter Try.func86,Try.ntmps86
  go_wp2_with (go_at_call 105;(with_reducible refine (QU.out _).mono ?_);rintro e w' ⟨rfl,hw⟩;rw [hw])
  go_loopg [9,10] s.size (fun gg _ _ wx=>∃ i:Nat,s.size≤i+gg∧Aside0 (wx.heap[k0]? = some (.stringIter s i))∧Aside0 (Below w.heap.size w wx)∧Aside0 (Lib.NoAny s.data.toList [60,62] i))
  case atStart=>exact ⟨0,by omega,⟨hk0 ▸ World.iter_heap w s 0⟩,⟨ba_ (Below.refl _ _) _⟩,⟨Lib.NoAny.zero _ _⟩⟩
  case round =>
   obtain ⟨i,hig,HI,HB,HN⟩:=hrel
   by_cases hi:i<s.size
   case neg =>
    have hnx:=fun ty=>Lib.run_next_end_at (P:=Try.prog) wr k0 s i ty HI.out hi
    go_wp2
    go_ret
    exact ⟨by rw [Lib.indexAny_none (fun j b hj hb=>HN.out j b (by have:=Lib.size_eq s;omega) hb)];rfl,HB.out⟩
   case pos =>
    obtain ⟨g,rfl⟩:∃ g,gk=g+1:=⟨gk - 1,by omega⟩
    obtain ⟨x,hx⟩:∃ x:UInt8,s[i]'hi=x:=⟨_,rfl⟩
    have hxl:s.data.toList[i]? = some x:=by rw [←hx];exact Lib.data_getElem? s i hi
    by_cases hxa:x.toNat<128
    case pos =>
     have hnx:=fun ty=>Lib.run_next_ascii_at (P:=Try.prog) wr k0 s i ty HI.out hi (by rw [hx];exact hxa)
     rw [hx] at hnx
     have hcon:=Lib.contains_iff_indexByte [60,62] x
     have hback:((x.toNat:Int)).toNat.toUInt8=x:=by simp
     have QI:=A_ (fun W=>Try.strings_IndexRune_ascii ⟨#[60,62]⟩ (x.toNat:Int) W (by omega) (by omega))
     rw [hback] at QI
     have HX:=A_ hxl
     have HI2:=A_ (Lib.iterAt_heap wr k0 s i (i+1) HI.out)
     have HB2:=A_ (Lib.below_iterAt HB.out (Nat.le_of_eq HK0.out) s (i+1))
     clear hxl hx
     cases hin:([60,62]:List UInt8).contains x
     ·rw [hin] at hcon
      have hlt:decide ((0:Int)≤Lib.indexByte [60,62] x)=false:=hcon.symm
      clear hcon
      go_wp2_with (go_at_call 104;(with_reducible refine (QI.out _).mono ?_);rintro e w' ⟨rfl,hw⟩;rw [hw])
      go_roundg g
      case measure=>omega
      case rel=>exact ⟨i+1,by omega,HI2,HB2,⟨HN.out.succ HX.out hin⟩⟩
     ·rw [hin] at hcon
      have hge:decide ((0:Int)≤Lib.indexByte [60,62] x)=true:=hcon.symm
      clear hcon
      go_wp2_with (go_at_call 104;(with_reducible refine (QI.out _).mono ?_);rintro e w' ⟨rfl,hw⟩;rw [hw])
      go_ret
      exact ⟨by rw [Lib.indexAny_hit HN.out HX.out hin];rfl,HB2.out⟩
    case neg =>
     have hnx:=fun ty=>Lib.run_next_any_at (P:=Try.prog) wr k0 s i ty HI.out hi
     have hhi:=decode_high s i hi (by rw [hx];omega)
     have hle:=decode_le s i
     have hsk:=decode_skip s i hi (by rw [hx];omega)
     have HN2:Aside0 (Lib.NoAny s.data.toList [60,62] (i+(Utf8.decode s i).2)):=⟨noAny_high HN.out (fun k h1 h2 hk=>by
      by_cases e:k=i
      ·subst e;rw [hx];omega
      ·exact hsk k (by omega) h2 hk)⟩
     clear hsk hx hxl
     generalize Utf8.decode s i=p at *
     obtain ⟨c,wd⟩:=p
     have QI:=A_ (fun W=>indexRune_high c W hhi.1 hle)
     obtain ⟨_,hwd⟩:=hhi
     have HI2:=A_ (Lib.iterAt_heap wr k0 s i (i+wd) HI.out)
     have HB2:=A_ (Lib.below_iterAt HB.out (Nat.le_of_eq HK0.out) s (i+wd))
     clear hle
     go_wp2_with (go_at_call 104;(with_reducible refine (QI.out _).mono ?_);rintro e w' ⟨rfl,hb⟩;(have HI3:=A_ (kb_ HI2.out hb));(have HB3:=A_ (bp_ HB2.out hb));clear hb)
     go_roundg g
     case measure=>omega
     case rel=>exact ⟨i+wd,by have:1≤wd:=hwd;omega,HI3,HB3,HN2⟩
theorem containsAny_lt (s:ByteArray) (w:World) (hs:s.size≤1048576):Calls Try.prog 56 #[.string s,.string ⟨#[60,62]⟩] w fun e w'=>e=.returned (.bool (Lib.containsAny s.data.toList [60,62]))∧Below w.heap.size w w':=by
 have Q:=A_ (indexAny_lt s w hs)
 go_enter Try.func56,Try.ntmps56
 go_wp2_with (go_at_call 86;(with_reducible refine Q.out.mono ?_);rintro e w' ⟨rfl,hb⟩)
 go_ret
 exact ⟨rfl,hb⟩
/-! ### strings_Contains: function 57, by hand -/
/-- strings.Contains of one byte. -/
def strings_Contains.f (a0 a1:ByteArray):Option Bool:=match a1.data.toList with | [c]=>some (decide (0≤Lib.indexByte a0.data.toList c))|_=>none
theorem strings_Contains.calls (a0:ByteArray) (a1:ByteArray) (r:Bool) (w:World) (h:strings_Contains.f a0 a1=some r) :
 Calls Try.prog 57 #[.string a0,.string a1] w fun e w'=>e=.returned (.bool r)∧Drawn0 w w':=by
 unfold strings_Contains.f at h
 rcases a1 with ⟨⟨l⟩⟩
 cases l with
 | nil=>cases h
 | cons c l =>
  cases l with
  | cons _ _=>cases h
  | nil =>
   obtain rfl:=oi_ h
   refine (Try.strings_Contains_one a0 c w).mono ?_
   rintro e w' ⟨rfl,rfl⟩
   exact ⟨rfl,dr_ _⟩
/-! ### stringslite_HasSuffix: function 89 -/
def stringslite_HasSuffix.f (a0:ByteArray) (a1:ByteArray):Option (Bool):=if (a0.size:Int)≥(a1.size:Int) then (if 0≤(wrap64 ((a0.size:Int) - (a1.size:Int))) then (if (wrap64 ((a0.size:Int) - (a1.size:Int)))≤(a0.size:Int) then (some ((a0.extract ((wrap64 ((a0.size:Int) - (a1.size:Int))):Int).toNat a0.size).toList == a1.toList)) else (none)) else (none)) else (some false)
set_option maxHeartbeats 8000000 in
set_option maxRecDepth 100000 in
theorem stringslite_HasSuffix.calls (a0:ByteArray) (a1:ByteArray) (r:Bool) (w:World) (h:stringslite_HasSuffix.f a0 a1=some r) :
 Calls Try.prog 89 #[.string a0,.string a1] w fun e w'=>e=.returned (.bool r)∧Drawn0 w w':=by
 have H:(if (a0.size:Int)≥(a1.size:Int) then (if 0≤(wrap64 ((a0.size:Int) - (a1.size:Int))) then (if (wrap64 ((a0.size:Int) - (a1.size:Int)))≤(a0.size:Int) then (some ((a0.extract ((wrap64 ((a0.size:Int) - (a1.size:Int))):Int).toNat a0.size).toList == a1.toList)) else (none)) else (none)) else (some false))=some r:=h
 clear h
 by_cases c3:(a0.size:Int)≥(a1.size:Int)
 ·rw [if_pos c3] at H
  have c3b0:decide ((a1.size:Int)≤(a0.size:Int))=true:=dt_ c3
  have c3b1:decide (a1.size≤a0.size)=true:=dt_ (Int.ofNat_le.mp c3)
  clear c3
  obtain ⟨ji4,hji4⟩:∃ j_:Int,(wrap64 ((a0.size:Int) - (a1.size:Int)))=j_:=⟨_,rfl⟩
  replace H:(if 0≤(ji4) then (if (ji4)≤(a0.size:Int) then (some ((a0.extract ((ji4):Int).toNat a0.size).toList == a1.toList)) else (none)) else (none))=some r:=by first|(rw [hji4] at H;exact H)|(simp only [hji4] at H ⊢;exact H)
  have hji4w:(IntKind.i64.wrap ((a0.size:Int) - (a1.size:Int)))=ji4:=(i64_w _).trans hji4
  by_cases c5:0≤(ji4)
  ·rw [if_pos c5] at H
   have c5b0:=eq_true c5
   have c5b1:decide (0≤(ji4))=true:=dt_ c5
   clear c5
   by_cases c6:(ji4)≤(a0.size:Int)
   ·rw [if_pos c6] at H
    have c6b0:=eq_true c6
    have c6b1:decide ((ji4)≤(a0.size:Int))=true:=dt_ c6
    clear c6
    obtain rfl:=oi_ H
    go_enter Try.func89,Try.ntmps89
    go_wp2
    go_ret
    exact ⟨by first|rfl|(simp;done)|(simp only [←hji4] <;> (first|rfl|simp))|(simp [*];done),by repeat (first|exact dr_ _|apply dp_)⟩
   ·rw [if_neg c6] at H
    exact absurd H (by simp)
  ·rw [if_neg c5] at H
   exact absurd H (by simp)
 ·rw [if_neg c3] at H
  have c3b0:decide ((a1.size:Int)≤(a0.size:Int))=false:=df_ c3
  have c3b1:decide (a1.size≤a0.size)=false:=df_ (fun h=>c3 (Int.ofNat_le.mpr h))
  clear c3
  obtain rfl:=oi_ H
  go_enter Try.func89,Try.ntmps89
  go_wp2
  go_ret
  exact ⟨by first|rfl|(simp;done)|(simp [*];done),by repeat (first|exact dr_ _|apply dp_)⟩
/-! ### strings_HasSuffix: function 59 -/
def strings_HasSuffix.f (a0:ByteArray) (a1:ByteArray):Option (Bool):=(stringslite_HasSuffix.f a0 a1).bind fun t265=>(some t265)
set_option maxHeartbeats 8000000 in
set_option maxRecDepth 100000 in
theorem strings_HasSuffix.calls (a0:ByteArray) (a1:ByteArray) (r:Bool) (w:World) (h:strings_HasSuffix.f a0 a1=some r) :
 Calls Try.prog 59 #[.string a0,.string a1] w fun e w'=>e=.returned (.bool r)∧Drawn0 w w':=by
 have H:((stringslite_HasSuffix.f a0 a1).bind fun t265=>(some t265))=some r:=h
 clear h
 replace H:=ob_ H
 obtain ⟨t265,A30,H⟩:=H
 replace H:(some t265)=some r:=H
 have A3:=A_ A30
 clear A30
 obtain rfl:=oi_ H
 go_enter Try.func59,Try.ntmps59
 go_wp2_with (first|((with_reducible refine gate_callee (f:=89) rfl ?_);refine goesL_ (some 7) rfl rfl Try.func89 (by kernel_rfl) rfl #[.string a0,.string a1] rfl (by (try simp only [List.map_toArray,List.map_cons,List.map_nil]);first|done|rfl|(simp only [ld_,lt_];rfl)) ?_;(with_reducible refine (stringslite_HasSuffix.calls a0 a1 t265 _ A3.out).mono ?_);rintro e w' ⟨rfl,⟨nd,rfl⟩⟩;refine ⟨_,rfl,?_⟩))
 go_ret
 exact ⟨by first|rfl|(simp;done)|(simp [*];done),by repeat (first|exact dr_ _|apply dp_)⟩
/-! ### impl_CommentOK: function 37, by hand -/
/-- What impl.CommentOK comes to, the two ends told. -/
def commentB (t:ByteArray) (p q:Bool):Bool:=!decide (65536<(t.size:Int)) && (!Lib.containsAny t.data.toList [60,62] && (!Lib.contains t.data.toList [45,45] && (!p && !q)))
set_option maxHeartbeats 8000000 in
theorem impl_CommentOK.calls (t:ByteArray) (m:Int) (p q:Bool) (w:World) (hm:w.cell? ⟨0,0,none⟩=some (.int .i64 m)) (hs:t.size≤1048576) (hp:strings_HasPrefix.f t ⟨#[45]⟩=some p) (hq:strings_HasSuffix.f t ⟨#[45]⟩=some q) :
 Calls Try.prog 37 #[.string t] w fun e w'=>e=.returned (.bool (commentB t p q))∧Below w.heap.size w w':=by
 have QL:=A_ (impl_isLong.one t w)
 have HB0:=A_ (ba_ (Below.refl w.heap.size w) (.cells #[.string t] 9 (0,0)))
 have QA:=A_ (fun W=>containsAny_lt t W hs)
 have QC:Aside0 (∀ W,Below w.heap.size w W→Calls Try.prog 57 #[.string t,.string ⟨#[45,45]⟩] W fun e w'=>e=.returned (.bool (Lib.contains t.data.toList [45,45]))∧w'=W):=⟨fun W hW=>Try.strings_Contains t ⟨#[45,45]⟩ m W (by omega) (pc_ hW hm)⟩
 have QP:=A_ (fun W=>strings_HasPrefix.calls t ⟨#[45]⟩ p W hp)
 have QS:=A_ (fun W=>strings_HasSuffix.calls t ⟨#[45]⟩ q W hq)
 unfold commentB
 clear hm hp hq hs
 generalize decide (65536<(t.size:Int))=b1 at *
 generalize Lib.containsAny t.data.toList [60,62]=b2 at *
 generalize Lib.contains t.data.toList [45,45]=b3 at *
 cases b1 <;> cases b2 <;> cases b3 <;> cases p <;> cases q
 all_goals
  go_enter Try.func37,Try.ntmps37
  go_wp2_with (first|(go_at_call 55;(with_reducible refine QL.out.mono ?_);rintro e w1 ⟨rfl,hb⟩;(have HB1:=A_ (bp_ HB0.out hb));clear hb HB0)|(go_at_call 56;(with_reducible refine (QA.out _).mono ?_);rintro e w2 ⟨rfl,hb⟩;(have HB2:=A_ (bp_ HB1.out hb));clear hb)|(go_at_call 57;(with_reducible refine (QC.out _ HB2.out).mono ?_);rintro e w3 ⟨rfl,hw⟩;rw [hw])|(go_at_call 58;(with_reducible refine (QP.out _).mono ?_);rintro e w4 ⟨rfl,⟨nd,rfl⟩⟩)|(go_at_call 59;(with_reducible refine (QS.out _).mono ?_);rintro e w5 ⟨rfl,⟨nd,rfl⟩⟩))
  go_ret
  first|exact ⟨rfl,HB1.out⟩|exact ⟨rfl,HB2.out⟩|exact ⟨rfl,pd_ HB2.out _⟩
end Go.Proofs.Ytjlikemmhjclpaa.PFnExactClean
