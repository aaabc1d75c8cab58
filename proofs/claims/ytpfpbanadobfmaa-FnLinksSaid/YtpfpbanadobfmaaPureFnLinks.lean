/- The pure statement of FnLinks: for every two codes the law tells true. No conditions. -/
import Derived.Test.YtpfpbanadobfmaaKit
import Derived.Test.YtpfpbanadobfmaaPFnLinksx
namespace Go.Proofs.Ytpfpbanadobfmaa.Pure.LFnLinks
open Go.RowKit Go.Proofs.Ytpfpbanadobfmaa.PFnLinks Go.Proofs.YtpfpbanadobfmaaW.PrintWords
theorem isLong1 (a:ByteArray):impl_isLong.f [a]=some (decide (65536<(a.size:Int))):=by
 unfold impl_isLong.f
 rw [if_pos (by simp)]
 simp
open Go.Proofs.Ytpfpbanadobfmaa.Kit (small digit big pos_eq neg_eq tagB isTag nameB isName lowC lowS lowS_bytes handler wantJ wantJ_eq keepC badL badFrom badFrom_zero badFrom_full badFrom_nil badFrom_skip badFrom_take indexByte_any markB namesAt namesOK)
theorem lower_eq (s:ByteArray) (h:s.size≤9223372036854775807):impl_lower.f s=some (lowS s):=if_pos h
theorem hasPrefix_eq (a b:ByteArray):strings_HasPrefix.f a b=some (decide (a.size≥b.size) && ((a.extract 0 b.size).toList == b.toList)):=by
 unfold strings_HasPrefix.f stringslite_HasPrefix.f
 by_cases h:(a.size:Int)≥(b.size:Int)
 ·rw [if_pos h,if_pos (by omega),if_pos h,decide_eq_true (p:=a.size≥b.size) (by omega)]
  rfl
 ·rw [if_neg h,decide_eq_false (p:=a.size≥b.size) (by omega)]
  rfl
open Go.Proofs.Ytpfpbanadobfmaa.Kit (small digit big pos_eq neg_eq tagB isTag nameB isName lowC lowS lowS_bytes handler wantJ wantJ_eq keepC badL badFrom badFrom_zero badFrom_full badFrom_nil badFrom_skip badFrom_take indexByte_any markB namesAt namesOK)
theorem ev_l01Bad (s:ByteArray) (hn:s.size≤140737488351232):Ev (fun k=>spec_l01Bad.f k s) (badL (bytesOf s)):=by
 have key:∀ i:Nat,i≤s.size→∀ m:Nat,m≤11→Ev (fun k=>spec_l01Bad.l0 k s (⟨#[106,97,118,97,115,99,114,105,112,116,58]⟩:ByteArray) m i) (badFrom m ((bytesOf s).drop i)):=by
  have stop:∀ (i m:Nat),m=11∨(i=s.size∧m<11)→Ev (fun k=>spec_l01Bad.j1 k s (⟨#[106,97,118,97,115,99,114,105,112,116,58]⟩:ByteArray) m i false) (badFrom m ((bytesOf s).drop i)):=by
   intro i m h
   refine Ev.step (f:=fun _=>some ((m:Int) == (((⟨#[106,97,118,97,115,99,114,105,112,116,58]⟩:ByteArray).size:Nat):Int))) (fun k=>by rw [spec_l01Bad.j1,if_neg Bool.false_ne_true]) (Kit.ev_const ?_)
   rcases h with rfl|⟨rfl,h⟩
   ·rw [badFrom_full];rfl
   ·rw [List.drop_of_length_le (by rw [bytesOf_length];exact Nat.le_refl _),badFrom_nil m h]
    congr 1
    show ((m:Int) == (11:Int))=false
    simp;omega
  refine Kit.down ?_ ?_
  ·intro m hm
   refine Ev.step (fun k=>by rw [spec_l01Bad.l0]) (Kit.ev_neg (by omega) ?_)
   by_cases h:m=11
   ·exact stop _ m (.inl h)
   ·exact stop _ m (.inr ⟨rfl,by omega⟩)
  ·intro i hi ih m hm
   refine Ev.step (fun k=>by rw [spec_l01Bad.l0]) (Kit.ev_pos (by omega) ?_)
   by_cases hm11:m=11
   ·subst hm11
    exact stop i 11 (.inl rfl)
   ·have hlt:decide ((m:Int)<(((⟨#[106,97,118,97,115,99,114,105,112,116,58]⟩:ByteArray).size:Nat):Int))=true:=by
     show decide ((m:Int)<(11:Int))=true
     exact decide_eq_true (by omega)
    rw [hlt]
    refine Ev.step (fun k=>by rw [spec_l01Bad.j1]) (Kit.ev_pos rfl (Kit.ev_pos (by omega) (Kit.ev_pos (by omega) ?_)))
    rw [Kit.bytesOf_drop s i hi]
    have hb:=bt_range s (i:Int)
    generalize bt s (i:Int)=c at hb ⊢
    have skip:(c=9∨c=10∨c=13∨(m=0∧c≤32))→Ev (fun k=>spec_l01Bad.j2 k s (⟨#[106,97,118,97,115,99,114,105,112,116,58]⟩:ByteArray) m i c true) (badFrom m (c :: (bytesOf s).drop (i+1))):=by
     intro h
     rw [badFrom_skip m c _ h]
     refine Ev.step (fun k=>by rw [spec_l01Bad.j2]) (Kit.ev_pos rfl ?_)
     rw [Kit.wrap_nat hi (by omega)]
     exact ih m hm
    have take:¬ c=9→¬ c=10→¬ c=13→(m=0→¬ c≤32)→Ev (fun k=>spec_l01Bad.j2 k s (⟨#[106,97,118,97,115,99,114,105,112,116,58]⟩:ByteArray) m i c false) (badFrom m (c :: (bytesOf s).drop (i+1))):=by
     intro h9 h10 h13 h32
     have hw:bt (⟨#[106,97,118,97,115,99,114,105,112,116,58]⟩:ByteArray) (m:Int)=wantJ.getD m 0:=by rw [Kit.bt_rd,wantJ_eq]
     have hw1:wrap64 ((m:Int)+1)=((m+1:Nat):Int):=Kit.wrap_nat (n:=11) (by omega) (by omega)
     have hs:(m:Int)<(((⟨#[106,97,118,97,115,99,114,105,112,116,58]⟩:ByteArray).size:Nat):Int):=of_decide_eq_true hlt
     rw [badFrom_take m c _ (by omega) h9 h10 h13 h32]
     have fin:∀ x,x=lowC c→Ev (fun k=>if x=bt (⟨#[106,97,118,97,115,99,114,105,112,116,58]⟩:ByteArray) (m:Int) then spec_l01Bad.l0 k s (⟨#[106,97,118,97,115,99,114,105,112,116,58]⟩:ByteArray) (wrap64 ((m:Int)+1)) (wrap64 ((i:Int)+1)) else some false) (decide (lowC c=wantJ.getD m 0) && badFrom (m+1) ((bytesOf s).drop (i+1))):=by
      intro x hx
      rw [hw,hw1,Kit.wrap_nat hi (by omega),hx]
      refine Kit.ev_if (fun h=>?_) (fun h=>?_)
      ·rw [decide_eq_true h,Bool.true_and];exact ih (m+1) (by omega)
      ·rw [decide_eq_false h,Bool.false_and];exact Ev.now _
     refine Ev.step (fun k=>by rw [spec_l01Bad.j2]) (Kit.ev_neg (by decide) ?_)
     have j3:∀ b:Bool,b=decide (65≤c∧c≤90)→Ev (fun k=>spec_l01Bad.j3 k s (⟨#[106,97,118,97,115,99,114,105,112,116,58]⟩:ByteArray) m i c b) (decide (lowC c=wantJ.getD m 0) && badFrom (m+1) ((bytesOf s).drop (i+1))):=by
      intro b hb2
      refine Ev.step (fun k=>by rw [spec_l01Bad.j3]) ?_
      by_cases h:65≤c∧c≤90
      ·refine Kit.ev_pos (by rw [hb2,decide_eq_true h]) (Kit.ev_pos (by omega) (Kit.ev_pos hs (fin _ ?_)))
       unfold lowC;rw [if_pos h];omega
      ·refine Kit.ev_neg (by rw [hb2,decide_eq_false h];decide) (Kit.ev_pos (by omega) (Kit.ev_pos hs (fin _ ?_)))
       unfold lowC;rw [if_neg h]
     refine Kit.ev_if (fun h=>j3 _ ?_) (fun h=>j3 _ ?_)
     ·rw [decide_eq_decide];omega
     ·rw [decide_eq_false];omega
    refine Kit.ev_if (fun h=>skip (by omega)) (fun h9=>Kit.ev_if (fun h=>skip (by omega)) (fun h10=>Kit.ev_if (fun h=>skip (by omega)) (fun h13=>Kit.ev_if (fun h0=>?_) (fun h0=>?_))))
    ·by_cases h32:c≤32
     ·rw [decide_eq_true h32];exact skip (by omega)
     ·rw [decide_eq_false h32];exact take h9 h10 h13 (fun _=>h32)
    ·exact take h9 h10 h13 (fun h=>by omega)
 have:=key 0 (by omega) 0 (by omega)
 rw [badFrom_zero,List.drop_zero] at this
 exact this
theorem ev_BadLink_l1 (s:ByteArray) (hn:s.size≤140737488351232):Ev (fun k=>impl_BadLink.l1 k s ([]:List Int) s.size 0) (wantJ.isPrefixOf (((bytesOf s).filter keepC).map lowC)):=by
 have key:∀ i:Nat,i≤s.size→∀ acc:List Int,acc=((bytesOf s).take i).filter keepC→Ev (fun k=>impl_BadLink.l1 k s acc s.size i) (wantJ.isPrefixOf (((bytesOf s).filter keepC).map lowC)):=by
  refine Kit.down ?_ ?_
  ·intro acc ha
   rw [List.take_of_length_le (by rw [bytesOf_length];exact Nat.le_refl _)] at ha
   have hlen:acc.length≤s.size:=by rw [ha,←bytesOf_length s];exact List.length_filter_le _ _
   refine Ev.step (fun k=>by rw [impl_BadLink.l1]) (Kit.ev_neg (by omega) (Kit.ev_const ?_))
   rw [lower_eq _ (by rw [strOfNums_size];omega),Option.bind_some,hasPrefix_eq,Option.bind_some]
   congr 1
   have hb:bytesOf (strOfNums acc)=acc:=Kit.bytesOf_strOf (fun x hx=>by rw [ha] at hx;exact Kit.bytesOf_mem ((List.mem_filter.1 hx).1))
   rw [Kit.toList_beq,Kit.bytesOf_extract,lowS_bytes,hb,wantJ_eq,←ha]
   have:=Kit.isPrefix_take wantJ (acc.map lowC)
   rw [←this]
   have e1:(lowS (strOfNums acc)).size=(acc.map lowC).length:=by rw [Kit.size_eq,lowS_bytes,hb]
   rw [e1]
   rfl
  ·intro i hi ih acc ha
   have hl:acc.length<140737488355328:=by
    have h1:acc.length≤i:=by
     rw [ha]
     refine Nat.le_trans (List.length_filter_le _ _) ?_
     rw [List.length_take];omega
    omega
   have ht:(bytesOf s).take (i+1)=(bytesOf s).take i++[bt s (i:Int)]:=by
    rw [List.take_add_one,Kit.bt_rd]
    have:i<(bytesOf s).length:=by rw [bytesOf_length];exact hi
    simp [List.getD,this]
   have hskip:keepC (bt s (i:Int))=false→Ev (fun k=>impl_BadLink.l1 k s acc s.size (wrap64 ((i:Int)+1))) (wantJ.isPrefixOf (((bytesOf s).filter keepC).map lowC)):=by
    intro h
    rw [Kit.wrap_nat hi (by omega)]
    refine ih _ ?_
    rw [ha,ht,List.filter_append,List.filter_cons,if_neg (by rw [h];decide),List.filter_nil,List.append_nil]
   refine Ev.step (fun k=>by rw [impl_BadLink.l1]) (Kit.ev_pos (by omega) (Kit.ev_pos (by omega) (Kit.ev_pos (by omega) ?_)))
   refine Kit.ev_if (fun h=>hskip (by simp [keepC,h])) (fun h9=>Kit.ev_if (fun h=>hskip (by simp [keepC,h])) (fun h10=>Kit.ev_if (fun h=>hskip (by simp [keepC,h])) (fun h13=>Kit.ev_pos hl ?_)))
   rw [Kit.wrap_nat hi (by omega)]
   refine ih _ ?_
   have:keepC (bt s (i:Int))=true:=by simp [keepC,h9,h10,h13]
   rw [ha,ht,List.filter_append,List.filter_cons,if_pos this,List.filter_nil]
 exact key 0 (by omega) [] (by simp)
theorem ev_BadLink_l0:∀ (n:Nat) (s:ByteArray),s.size=n→s.size≤140737488351232→Ev (fun k=>impl_BadLink.l0 k s) (badL (bytesOf s)):=by
 intro n
 induction n with
 | zero =>
  intro s hs hn
  have he:bytesOf s=[]:=List.eq_nil_of_length_eq_zero (by rw [bytesOf_length];exact hs)
  refine Ev.step (fun k=>by rw [impl_BadLink.l0]) (Kit.ev_pos ((Kit.toList_nil s).2 he) ?_)
  refine Ev.step (fun k=>by rw [impl_BadLink.j1]) ?_
  have:=ev_BadLink_l1 s hn
  rw [he] at this ⊢
  exact this
 | succ n ih =>
  intro s hs hn
  have hd:bytesOf s=bt s 0 :: (bytesOf s).drop 1:=Kit.bytesOf_drop s 0 (by omega)
  refine Ev.step (fun k=>by rw [impl_BadLink.l0]) (Kit.ev_neg (fun h=>?_) (Kit.ev_pos (by omega) (Kit.ev_if (fun h=>?_) (fun h=>?_))))
  ·rw [(Kit.toList_nil s).1 h] at hd;cases hd
  ·refine Kit.ev_pos (by omega) ?_
   have hx:bytesOf (s.extract 1 s.size)=(bytesOf s).drop 1:=Kit.bytesOf_tail s 1
   have hz:(s.extract 1 s.size).size=n:=by rw [Kit.size_eq,hx,List.length_drop,bytesOf_length];omega
   have:=ih (s.extract 1 s.size) hz (by omega)
   rw [hx] at this
   have e:badL (bytesOf s)=badL ((bytesOf s).drop 1):=by
    rw [←badFrom_zero,hd,badFrom_skip 0 _ _ (.inr (.inr (.inr ⟨rfl,h⟩))),badFrom_zero]
    rfl
   rw [e]
   exact this
  ·refine Ev.step (fun k=>by rw [impl_BadLink.j1]) ?_
   have:=ev_BadLink_l1 s hn
   have e:badL (bytesOf s)=wantJ.isPrefixOf (((bytesOf s).filter keepC).map lowC):=by
    unfold badL
    have h2:(bytesOf s).dropWhile (fun c=>decide (c≤32))=bytesOf s:=by
     rw [hd,List.dropWhile_cons,if_neg (by simpa using h)]
    rw [h2]
   rw [e]
   exact this
theorem ev_BadLink_impl (a:ByteArray) (ha:a.size≤140737488351232):Ev (fun k=>impl_BadLink.f k a) (!decide (65536<(a.size:Int)) && badL (bytesOf a)):=by
 unfold impl_BadLink.f
 refine Kit.ev_some (isLong1 a) (Kit.ev_if (fun h=>?_) (fun h=>?_))
 ·rw [h];exact Ev.now _
 ·rw [Bool.eq_false_iff.2 h];exact ev_BadLink_l0 a.size a rfl ha
/- What is drawn of a source: bytes, places, texts of a list. -/
def Bytes (l:List Int):Prop:=∀ x∈l,0≤x∧x≤255
/-- The source stands at a place not past n, with a seed in its bounds. -/
def St (n a sd:Int):Prop:=0≤a∧a≤n∧0≤sd∧sd<2147483648
theorem draw_byte {l:List Int} (hl:Bytes l) {n a sd:Int} (hn:n<4611686018427387904) (h:St n a sd):∃ b a' sd',spec_l00Src_byte.f l a sd=some (b,a',sd')∧(0≤b∧b≤255)∧St (n+1) a' sd':=by
 obtain ⟨h0,h1,h2,h3⟩:=h
 unfold spec_l00Src_byte.f
 rw [if_pos ⟨h0,by omega,h2,h3⟩]
 by_cases c:a<(l.length:Int)
 ·have hb:0≤rd l a∧rd l a≤255:=by
   have e:rd l a=l.getD a.toNat 0:=rfl
   rw [e]
   exact hl _ (Kit.getD_mem (d:=0) (by omega))
  rw [if_pos c,if_pos hb]
  exact ⟨_,_,_,rfl,hb,by omega,by omega,Int.emod_nonneg _ (by omega),Int.emod_lt_of_pos _ (by omega)⟩
 ·rw [if_neg c]
  by_cases c2:a+1>3000
  ·rw [if_pos c2];exact ⟨_,_,_,rfl,by omega,by omega,by omega,h2,h3⟩
  ·rw [if_neg c2]
   exact ⟨_,_,_,rfl,by omega,by omega,by omega,Int.emod_nonneg _ (by omega),Int.emod_lt_of_pos _ (by omega)⟩
theorem draw_next {l:List Int} (hl:Bytes l) {n a sd m:Int} (hn:n<4611686018427387904) (h:St n a sd) (h1:1≤m) (h2:m≤256):∃ v a' sd',spec_l00Src_next.f l a sd m=some (v,a',sd')∧(0≤v∧v<m)∧St (n+1) a' sd':=by
 unfold spec_l00Src_next.f
 by_cases c:m≤1
 ·rw [if_pos c]
  obtain ⟨h0,h3,h4,h5⟩:=h
  exact ⟨_,_,_,rfl,by omega,h0,by omega,h4,h5⟩
 ·rw [if_neg c,if_pos h2]
  obtain ⟨b,a',sd',e,hb,hs⟩:=draw_byte hl hn h
  rw [e,Option.bind_some,if_neg (by omega)]
  refine ⟨_,_,_,rfl,?_,hs⟩
  rw [Int.tmod_eq_emod_of_nonneg hb.1]
  exact ⟨Int.emod_nonneg _ (by omega),Int.emod_lt_of_pos _ (by omega)⟩
theorem draw_pick {l:List Int} (hl:Bytes l) {n a sd:Int} (hn:n<4611686018427387904) (h:St n a sd) (xs:List ByteArray) (h1:1≤xs.length) (h2:xs.length≤256):∃ t a' sd',spec_l00Src_pick.f l a sd xs=some (t,a',sd')∧t∈xs∧St (n+1) a' sd':=by
 unfold spec_l00Src_pick.f
 rw [if_neg (by omega)]
 obtain ⟨v,a',sd',e,hv,hs⟩:=draw_next hl hn h (m:=(xs.length:Int)) (by omega) (by omega)
 rw [e,Option.bind_some,if_pos hv.1,if_pos hv.2]
 refine ⟨_,_,_,rfl,?_,hs⟩
 have e:rdOf ByteArray.empty xs v=xs.getD v.toNat ByteArray.empty:=rfl
 rw [e]
 exact Kit.getD_mem (d:=ByteArray.empty) (by omega)
theorem St.source (l:List Int):St 0 0 ((l.length:Int) % 1000):=⟨Int.le_refl _,Int.le_refl _,Int.emod_nonneg _ (by omega),by have:=Int.emod_lt_of_pos (l.length:Int) (show (0:Int)<1000 by omega);omega⟩
theorem Bytes.of (l:List Int) (h:∀ x∈l,(Lit.int .u8 x).wf=true):Bytes l:=fun x hx=>by
 have:=h x hx
 simpa [Lit.wf,IntKind.min,IntKind.max,IntKind.signed,IntKind.bits] using this
theorem at_ok (l:List Int) (hl:Bytes l) (i n:Nat) (hi:i≤1000) (hn:2≤n) (hn2:n≤5):∃ v,laws_at.f l (i:Int) (n:Int)=some v∧0≤v∧v<(n:Int):=by
 unfold laws_at.f
 rw [if_neg (by omega)]
 by_cases h:(l.length:Int)=0
 ·have e:wrap64 ((i:Int) * 7)=(i:Int) * 7:=Kit.wrap_of (by omega) (by omega)
  rw [if_pos h,if_neg (by omega),e,Int.tmod_eq_emod_of_nonneg (by omega)]
  exact ⟨_,rfl,Int.emod_nonneg _ (by omega),Int.emod_lt_of_pos _ (by omega)⟩
 ·have hp:0<(l.length:Int):=by omega
  have e1:Int.tmod (i:Int) (l.length:Int)=(i:Int) % (l.length:Int):=Int.tmod_eq_emod_of_nonneg (by omega)
  have e2:Int.tmod (wrap64 ((i:Int)+1)) (l.length:Int)=((i:Int)+1) % (l.length:Int):=by rw [Kit.wrap_of (i:=(i:Int)+1) (by omega) (by omega)];exact Int.tmod_eq_emod_of_nonneg (by omega)
  have p1:=Int.emod_nonneg (i:Int) (show (l.length:Int)≠0 by omega)
  have p2:=Int.emod_lt_of_pos (i:Int) hp
  have p3:=Int.emod_nonneg ((i:Int)+1) (show (l.length:Int)≠0 by omega)
  have p4:=Int.emod_lt_of_pos ((i:Int)+1) hp
  rw [if_neg h,e1,e2,if_pos p1,if_pos p2,if_pos p3,if_pos p4,if_neg (by omega)]
  have hb:∀ a:Int,0≤a→a<(l.length:Int)→0≤rd l a∧rd l a≤255:=by
   intro a h0 h1
   have e:rd l a=l.getD a.toNat 0:=rfl
   rw [e]
   exact hl _ (Kit.getD_mem (d:=0) (by omega))
  have b1:=hb _ p1 p2
  have b2:=hb _ p3 p4
  generalize rd l ((i:Int) % (l.length:Int))=x at b1 ⊢
  generalize rd l (((i:Int)+1) % (l.length:Int))=y at b2 ⊢
  have hd:0≤Int.tdiv (i:Int) (l.length:Int)∧Int.tdiv (i:Int) (l.length:Int)≤1000:=by
   rw [Int.tdiv_eq_ediv_of_nonneg (by omega)]
   have h1:=Int.ediv_nonneg (show (0:Int)≤(i:Int) by omega) (show (0:Int)≤(l.length:Int) by omega)
   have h2:=Int.ediv_le_self (l.length:Int) (show (0:Int)≤(i:Int) by omega)
   omega
  generalize Int.tdiv (i:Int) (l.length:Int)=d at hd ⊢
  rw [Kit.wrap_of (i:=x) (by omega) (by omega),Kit.wrap_of (i:=y) (by omega) (by omega),Kit.wrap_of (i:=d) (by omega) (by omega),Kit.wrap_of (i:=x * 31) (by omega) (by omega),Kit.wrap_of (i:=x * 31+y) (by omega) (by omega),Kit.wrap_of (i:=x * 31+y+d) (by omega) (by omega),Int.tmod_eq_emod_of_nonneg (by omega)]
  exact ⟨_,rfl,Int.emod_nonneg _ (by omega),Int.emod_lt_of_pos _ (by omega)⟩
/-- The values that a source draws. -/
def valuesD:List ByteArray:=[(⟨#[]⟩:ByteArray),(⟨#[120]⟩:ByteArray),(⟨#[47,97,63,98,61,49,38,99]⟩:ByteArray),(⟨#[106,97,118,97,115,99,114,105,112,116,58,97,108,101,114,116,40,49,41]⟩:ByteArray),(⟨#[32,74,97,118,97,83,99,114,105,112,116,58,120]⟩:ByteArray),(⟨#[106,97,118,97,9,115,99,114,105,112,116,58,120]⟩:ByteArray),(⟨#[34,113,34]⟩:ByteArray),(⟨#[60,98,62]⟩:ByteArray),(⟨#[38,97,109,112,59]⟩:ByteArray),(⟨#[104,116,116,112,115,58,120]⟩:ByteArray),(⟨#[106,97,118,97,32,115,99,114,105,112,116,58]⟩:ByteArray),(⟨#[97,32,98]⟩:ByteArray)]
theorem valuesD_ok:∀ t∈valuesD,t.size≤20:=by
 have h:valuesD.all (fun t=>decide (t.size≤20))=true:=by kernel_rfl
 intro t ht
 have:=List.all_eq_true.1 h t ht
 simpa using this
theorem draw_value {l:List Int} (hl:Bytes l):∃ t,spec_ValueDrawn.f l=some t∧t.size≤20:=by
 obtain ⟨t,a1,s1,e1,ht,_⟩:=draw_pick hl (by omega) (St.source l) valuesD (by decide) (by decide)
 refine ⟨t,?_,valuesD_ok t ht⟩
 have ev:spec_l00Src_value.f l 0 ((l.length:Int) % 1000)=some (t,a1,s1):=by
  generalize (l.length:Int) % 1000=sd at *
  unfold spec_l00Src_value.f
  unfold valuesD at e1
  rw [e1,Option.bind_some]
 unfold spec_ValueDrawn.f
 have es:spec_l00Source.f l=some (l,0,(l.length:Int) % 1000):=by unfold spec_l00Source.f;exact rfl
 rw [es,Option.bind_some]
 dsimp only
 rw [ev,Option.bind_some]
def blanksL:List ByteArray:=[(⟨#[32]⟩:ByteArray),(⟨#[0]⟩:ByteArray),(⟨#[9]⟩:ByteArray),(⟨#[31]⟩:ByteArray)]
def gapsL:List ByteArray:=[(⟨#[]⟩:ByteArray),(⟨#[]⟩:ByteArray),(⟨#[10]⟩:ByteArray),(⟨#[13]⟩:ByteArray),(⟨#[9]⟩:ByteArray)]
def J:ByteArray:=⟨#[106,97,118,97,115,99,114,105,112,116,58]⟩
theorem blanks_ok:∀ b∈blanksL,∃ c,bytesOf b=[c]∧c≤32∧b.size=1:=by
 intro b hb
 unfold blanksL at hb
 simp only [List.mem_cons,List.not_mem_nil,or_false] at hb
 rcases hb with rfl|rfl|rfl|rfl
 ·exact ⟨32,rfl,by omega,rfl⟩
 ·exact ⟨0,rfl,by omega,rfl⟩
 ·exact ⟨9,rfl,by omega,rfl⟩
 ·exact ⟨31,rfl,by omega,rfl⟩
theorem gaps_ok:∀ b∈gapsL,(bytesOf b=[]∨∃ c,bytesOf b=[c]∧(c=9∨c=10∨c=13))∧b.size≤1:=by
 intro b hb
 unfold gapsL at hb
 simp only [List.mem_cons,List.not_mem_nil,or_false] at hb
 rcases hb with rfl|rfl|rfl|rfl|rfl
 ·exact ⟨.inl rfl,Nat.zero_le _⟩
 ·exact ⟨.inl rfl,Nat.zero_le _⟩
 ·exact ⟨.inr ⟨10,rfl,by omega⟩,Nat.le_refl _⟩
 ·exact ⟨.inr ⟨13,rfl,by omega⟩,Nat.le_refl _⟩
 ·exact ⟨.inr ⟨9,rfl,by omega⟩,Nat.le_refl _⟩
theorem gap_skip {g:ByteArray} (hg:g∈gapsL) (m:Nat) (rest:List Int):badFrom m (bytesOf g++rest)=badFrom m rest:=by
 rcases (gaps_ok g hg).1 with h|⟨c,h,hc⟩
 ·rw [h];rfl
 ·rw [h]
  exact badFrom_skip m c rest (by omega)
theorem want_ok:∀ i,i<11→(97≤wantJ.getD i 0∧wantJ.getD i 0≤122)∨wantJ.getD i 0=58:=by decide
theorem badL_pre (l:List Int):badL (wantJ++l)=true:=by
 rw [←badFrom_zero]
 have key:∀ i,i≤11→badFrom i (wantJ.drop i++l)=true:=by
  refine Kit.down ?_ ?_
  ·exact badFrom_full _
  ·intro i hi ih
   have hw:=want_ok i hi
   have hlow:lowC (wantJ.getD i 0)=wantJ.getD i 0:=by
    unfold lowC
    split <;> omega
   rw [Kit.drop_getD 0 wantJ i hi,List.cons_append,badFrom_take i _ _ hi (by omega) (by omega) (by omega) (fun _=>by omega),decide_eq_true hlow,Bool.true_and]
   exact ih
 exact key 0 (by omega)
theorem cap_some (l:List Int) (hl:Bytes l) (i:Nat) (hi:i≤1000) (c:Int):∃ b,laws_FnLinks.capB l (i:Int) c=some b∧(b=true→97≤c∧c≤122):=by
 unfold laws_FnLinks.capB
 by_cases h1:c≥97
 ·rw [if_pos h1]
  by_cases h2:c≤122
  ·rw [if_pos h2]
   obtain ⟨v,e,_,_⟩:=at_ok l hl i 3 hi (by omega) (by omega)
   rw [show ((3:Nat):Int)=3 from rfl] at e
   rw [e,Option.bind_some]
   exact ⟨_,rfl,fun _=>⟨h1,h2⟩⟩
  ·rw [if_neg h2];exact ⟨false,rfl,fun h=>by cases h⟩
 ·rw [if_neg h1];exact ⟨false,rfl,fun h=>by cases h⟩
theorem bad_of (a:ByteArray) (ha:a.size≤1000) (b:Bool) (h:badL (bytesOf a)=b):Ev (fun k=>impl_BadLink.f k a) b:=by
 have:=ev_BadLink_impl a (by omega)
 rw [decide_eq_false (by omega),h] at this
 exact this
theorem spec_of (a:ByteArray) (ha:a.size≤1000) (b:Bool) (h:badL (bytesOf a)=b):Ev (fun k=>spec_BadLink.f k a) b:=by
 unfold spec_BadLink.f
 have:=ev_l01Bad a (by omega)
 rw [h] at this
 exact Kit.ev_neg (by omega) (Ev.bind this (Ev.now _))
/-- The second round: the value's bytes, some turned to great letters, with gaps between them. -/
theorem second (l:List Int) (hl:Bytes l) (v:ByteArray) (hv:v.size≤20):∀ i,i≤(J++v).size→∀ x:ByteArray,x.size≤3+2 * i→(∀ rest,badFrom 0 (bytesOf x++rest)=badFrom (min i 11) rest)→Ev (fun k=>laws_FnLinks.l1 k l (J++v) x (i:Int)) true:=by
 have hs:(J++v).size=11+v.size:=by rw [ByteArray.size_append];rfl
 have hJ:bytesOf (J++v)=wantJ++bytesOf v:=by rw [Kit.bytesOf_append];rfl
 refine Kit.down ?_ ?_
 ·intro x hx hi
  have hb:badL (bytesOf x)=true:=by
   have:=hi []
   rw [List.append_nil,badFrom_zero,show min (J++v).size 11=11 by omega,badFrom_full] at this
   exact this
  have hbad:badL (bytesOf (J++v))=true:=by
   rw [hJ]
   exact badL_pre (bytesOf v)
  have hxb:badL (bytesOf ((⟨#[120]⟩:ByteArray)++(J++v)))=false:=by
   rw [Kit.bytesOf_append,←badFrom_zero]
   show badFrom 0 (120 :: bytesOf (J++v))=false
   rw [badFrom_take 0 120 _ (by omega) (by omega) (by omega) (by omega) (fun _=>by omega)]
   rfl
  have hjs:badL (bytesOf (⟨#[106,97,118,97,32,115,99,114,105,112,116,58]⟩:ByteArray))=false:=by kernel_rfl
  obtain ⟨w,ew,hw⟩:=draw_value hl
  refine Ev.step (fun k=>by rw [laws_FnLinks.l1]) (Kit.ev_neg (by omega) (Kit.ev_some ew (Ev.bind (bad_of _ (by omega) true hbad) (Kit.ev_pos rfl ?_))))
  refine Ev.bind (bad_of x (by omega) true hb) (Kit.ev_pos rfl ?_)
  refine Kit.ev_pos (by omega) ?_
  refine Ev.bind (bad_of _ (by rw [ByteArray.size_append];show 1+_≤_;omega) false hxb) ?_
  refine Kit.ev_neg (by decide) ?_
  refine Ev.bind (bad_of _ (by show 12≤_;omega) false hjs) ?_
  refine Kit.ev_neg (by decide) ?_
  refine Ev.bind (bad_of w (by omega) _ rfl) (Ev.bind (spec_of w (by omega) _ rfl) ?_)
  rw [beq_self_eq_true]
  exact Ev.now _
 ·intro i hi ih x hx hinv
  obtain ⟨b,eb,hb⟩:=cap_some l hl i (by omega) (bt (J++v) (i:Int))
  obtain ⟨t,et,ht0,ht1⟩:=at_ok l hl (i+5) 5 (by omega) (by omega) (by omega)
  obtain ⟨tn,rfl⟩:∃ tn:Nat,t=(tn:Int):=⟨t.toNat,by omega⟩
  have hc:=bt_range (J++v) (i:Int)
  have hcw:i<11→bt (J++v) (i:Int)=wantJ.getD i 0:=by
   intro h
   rw [Kit.bt_rd,hJ,List.getD_eq_getElem?_getD,List.getElem?_append_left (by show i<11;exact h),←List.getD_eq_getElem?_getD]
  refine Ev.step (f:=fun k=>(if (i:Int)<((J++v).size:Int) then _ else _)) (fun k=>by rw [laws_FnLinks.l1]) ?_
  generalize bt (J++v) (i:Int)=c at *
  have hg:gapsL.getD tn ByteArray.empty∈gapsL:=Kit.getD_mem (d:=ByteArray.empty) (by show tn<5;omega)
  obtain ⟨c9,hc9⟩:∃ c9:Int,c9=(if b=true then (c - 32) % 256 else c):=⟨_,rfl⟩
  have hcc:(c9=c∨(97≤c∧c≤122∧c9=c - 32))∧0≤c9∧c9≤255:=by
   rw [hc9]
   cases b with
   | true =>
    have:=hb rfl
    rw [if_pos rfl]
    omega
   | false=>rw [if_neg Bool.false_ne_true];omega
  have hb9:bytesOf (strOfNums [c9])=[c9]:=Kit.bytesOf_strOf (fun y hy=>by obtain rfl:=List.mem_singleton.1 hy;exact hcc.2)
  have hs9:(strOfNums [c9]).size=1:=by rw [strOfNums_size];rfl
  have hgs:=(gaps_ok _ hg).2
  refine Kit.ev_pos (by omega) (Kit.ev_pos (by omega) (Kit.ev_some eb (Kit.ev_some rfl (Kit.ev_some rfl ?_))))
  rw [←hc9,show wrap64 ((i:Int)+5)=((i+5:Nat):Int) by rw [Kit.wrap_of (by omega) (by omega)];omega]
  refine Kit.ev_some et (Kit.ev_pos ht0 (Kit.ev_pos ht1 ?_))
  rw [Kit.rdOf_nat]
  show Ev (fun k=>if (strOfNums [c9]).size+(gapsL.getD tn ByteArray.empty).size≤9223372036854775807 then (if x.size+((strOfNums [c9])++(gapsL.getD tn ByteArray.empty)).size≤9223372036854775807 then laws_FnLinks.l1 k l (J++v) (x++((strOfNums [c9])++(gapsL.getD tn ByteArray.empty))) (wrap64 ((i:Int)+1)) else none) else none) true
  generalize gapsL.getD tn ByteArray.empty=g at hg hgs ⊢
  refine Kit.ev_pos (by omega) (Kit.ev_pos (by rw [ByteArray.size_append];omega) ?_)
  rw [Kit.wrap_nat hi (by omega)]
  refine ih _ (by rw [ByteArray.size_append,ByteArray.size_append];omega) (fun rest=>?_)
  rw [Kit.bytesOf_append,Kit.bytesOf_append,hb9,List.append_assoc,hinv,List.append_assoc]
  show badFrom (min i 11) (c9 :: (bytesOf g++rest))=_
  by_cases h11:i<11
  ·have hw:=want_ok i h11
   rw [←hcw h11] at hw
   rw [show min i 11=i by omega,show min (i+1) 11=i+1 by omega,badFrom_take i c9 _ h11 (by omega) (by omega) (by omega) (fun _=>by omega),gap_skip hg]
   have hlow:lowC c9=wantJ.getD i 0:=by
    rw [←hcw h11]
    have:=hcc.1
    unfold lowC
    split <;> omega
   rw [decide_eq_true hlow,Bool.true_and]
  ·rw [show min i 11=11 by omega,show min (i+1) 11=11 by omega,badFrom_full,badFrom_full]
/-- The first round: what stands ahead. -/
theorem first (l:List Int) (hl:Bytes l) (v:ByteArray) (hv:v.size≤20) (n:Nat) (hn:n≤3) (en:laws_at.f l 0 4=some (n:Int)):∀ i,i≤n→∀ x:ByteArray,x.size≤i→(∀ rest,badFrom 0 (bytesOf x++rest)=badFrom 0 rest)→Ev (fun k=>laws_FnLinks.l0 k l (J++v) x (i:Int)) true:=by
 refine Kit.down ?_ ?_
 ·intro x hx hi
  refine Ev.step (fun k=>by rw [laws_FnLinks.l0]) (Kit.ev_some en ?_)
  refine Kit.ev_neg (by omega) ?_
  exact second l hl v hv 0 (Nat.zero_le _) x (by omega) hi
 ·intro i hi ih x hx hinv
  obtain ⟨t,et,ht0,ht1⟩:=at_ok l hl (i+1) 4 (by omega) (by omega) (by omega)
  obtain ⟨tn,rfl⟩:∃ tn:Nat,t=(tn:Int):=⟨t.toNat,by omega⟩
  have hg:blanksL.getD tn ByteArray.empty∈blanksL:=Kit.getD_mem (d:=ByteArray.empty) (by show tn<4;omega)
  refine Ev.step (fun k=>by rw [laws_FnLinks.l0]) (Kit.ev_some en ?_)
  refine Kit.ev_pos (by omega) ?_
  refine Kit.ev_some rfl ?_
  rw [Kit.wrap_nat hi (by omega)]
  refine Kit.ev_some et (Kit.ev_pos ht0 (Kit.ev_pos ht1 ?_))
  rw [Kit.rdOf_nat]
  show Ev (fun k=>if x.size+(blanksL.getD tn ByteArray.empty).size≤9223372036854775807 then laws_FnLinks.l0 k l (J++v) (x++(blanksL.getD tn ByteArray.empty)) ((i+1:Nat):Int) else none) true
  generalize blanksL.getD tn ByteArray.empty=g at hg ⊢
  obtain ⟨c,hc,hc32,hgs⟩:=blanks_ok g hg
  refine Kit.ev_pos (by omega) (ih _ (by rw [ByteArray.size_append];omega) (fun rest=>?_))
  rw [Kit.bytesOf_append,List.append_assoc,hinv,hc]
  exact badFrom_skip 0 c rest (.inr (.inr (.inr ⟨rfl,hc32⟩)))
theorem proved:laws_FnLinks.Pure:=by
 intro code more h1 _ hw h2 _ hw2
 refine Ev.rounds (g:=fun k=>laws_FnLinks.f k code more) ?_
 have hj:∀ b,Ev (fun k=>laws_FnLinks.j0 k code more b) true:=by
  intro b
  cases b with
  | true=>exact Ev.step (fun k=>by rw [laws_FnLinks.j0]) (Kit.ev_pos rfl (Ev.now _))
  | false =>
   obtain ⟨v,ev,hv⟩:=draw_value (Bytes.of code hw)
   obtain ⟨n,en,hn0,hn4⟩:=at_ok more (Bytes.of more hw2) 0 4 (by omega) (by omega) (by omega)
   obtain ⟨nn,rfl⟩:∃ nn:Nat,n=(nn:Int):=⟨n.toNat,by omega⟩
   refine Ev.step (fun k=>by rw [laws_FnLinks.j0]) (Kit.ev_neg Bool.false_ne_true (Kit.ev_some ev ?_))
   refine Kit.ev_pos (by omega) ?_
   exact first more (Bytes.of more hw2) v hv nn (by omega) en 0 (Nat.zero_le _) ⟨#[]⟩ (Nat.le_refl _) (fun rest=>rfl)
 unfold laws_FnLinks.f
 exact Kit.ev_if (fun _=>hj _) (fun _=>hj _)
end Go.Proofs.Ytpfpbanadobfmaa.Pure.LFnLinks
namespace Go.Proofs.Ytpfpbanadobfmaa.Pure
theorem FnLinks:PFnLinks.laws_FnLinks.Pure:=LFnLinks.proved
end Go.Proofs.Ytpfpbanadobfmaa.Pure
