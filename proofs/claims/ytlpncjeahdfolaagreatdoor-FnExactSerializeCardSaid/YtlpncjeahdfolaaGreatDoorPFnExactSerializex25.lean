/- By a program of this session, out of the kit's print and contracts made by hand: the machine side of a law; Lean checks it. No conditions. -/
import Derived.Test.YtlpncjeahdfolaaGreatDoorPFnExactSerializex0
import Derived.Test.YtlpncjeahdfolaaGreatDoorPFnExactSerializex14
import Derived.Test.YtlpncjeahdfolaaGreatDoorPFnExactSerializex19
import Derived.Test.YtlpncjeahdfolaaGreatDoorPFnExactSerializex22
import Derived.Test.YtlpncjeahdfolaaGreatDoorPFnExactSerializex23
import Derived.Test.YtlpncjeahdfolaaGreatDoorPFnExactSerializex24
namespace Go.Proofs.YtlpncjeahdfolaaGreatDoor.PFnExactSerialize
open Go.RowKit Go.Proofs.YtlpncjeahdfolaaGreatDoorW.PrintWords Go.Proofs.YtlpncjeahdfolaaGreatDoorW.PrintLast Go.Proofs.YtlpncjeahdfolaaGreatDoorW.PrintMore
attribute [local go_sem] max2_int min2_int max_two min_two max_three min_three max_four min_four
set_option linter.unusedVariables false
set_option linter.unusedSimpArgs false
/-! ### impl_serialize: function 14, by hand -/
/-- What a byte stands as in a value. -/
def escV (b:UInt8):List UInt8:=if b=34 then [38,113,117,111,116,59] else escF b
def escVT (s:ByteArray):ByteArray:=⟨(s.data.toList.flatMap escV).toArray⟩
theorem repB_escF (b:UInt8):repB 34 [38,113,117,111,116,59] (escF b)=escV b:=by
 unfold escV
 by_cases h0:b=34
 ·subst h0;rfl
 ·rw [if_neg h0]
  by_cases h1:b=38
  ·subst h1;rfl
  ·by_cases h2:b=60
   ·subst h2;rfl
   ·by_cases h3:b=62
    ·subst h3;rfl
    ·have he:escF b=[b]:=by
      unfold escF escL
      rw [if_neg h3,if_neg h2,if_neg h1,if_pos rfl]
     rw [he]
     simp [repB,h0]
theorem repB_flat:∀ l:List UInt8,repB 34 [38,113,117,111,116,59] (l.flatMap escF)=l.flatMap escV
 | []=>rfl
 | b :: l=>by rw [List.flatMap_cons,List.flatMap_cons,repB_append,repB_escF,repB_flat l]
theorem escV_len (b:UInt8):(escV b).length≤6:=by
 unfold escV
 split
 ·simp
 ·have h1:=escF_len b
  have h2:=escL_le b
  omega
theorem flatV_len:∀ l:List UInt8,(l.flatMap escV).length≤6 * l.length
 | []=>Nat.le_refl _
 | b :: l=>by
  have h1:=escV_len b
  have h2:=flatV_len l
  rw [List.flatMap_cons,List.length_append,List.length_cons]
  omega
theorem escT_size (s:ByteArray):(escT s).size≤5 * s.size:=by
 show (List.toArray _).size≤_
 rw [List.size_toArray,flat_len]
 have h1:=escG_le s.data.toList
 rw [data_length] at h1 ⊢
 omega
theorem escapeValue_eq (s:ByteArray) (h:s.size≤1099511627776):impl_escapeValue.f s=some (escVT s):=by
 have h1:impl_escapeText.f s=some (escT s):=by
  unfold impl_escapeText.f
  rw [if_pos h]
 have h2:=escT_size s
 unfold impl_escapeValue.f
 rw [h1,Option.bind_some]
 have h3:strings_ReplaceAll.f (escT s) ⟨#[34]⟩ ⟨#[38,113,117,111,116,59]⟩=some ⟨(repB 34 [38,113,117,111,116,59] (escT s).data.toList).toArray⟩:=if_pos ⟨by omega,by decide,by decide⟩
 rw [h3,Option.bind_some]
 have h4:(escT s).data.toList=s.data.toList.flatMap escF:=by simp [escT]
 rw [h4,repB_flat]
 rfl
/- The tag with which an element begins. -/
def mk (s:List UInt8):ByteArray:=⟨s.toArray⟩
theorem mk_size (s:List UInt8):(mk s).size=s.length:=by simp [mk,ByteArray.size]
theorem mk_txt (s:List UInt8) (t:ByteArray):mk s++t=mk (s++t.data.toList):=by
 unfold mk
 apply ByteArray.ext
 simp
theorem lit_mk (l:List UInt8):(⟨l.toArray⟩:ByteArray)=mk l:=rfl
theorem take_getD {α : Type} (d : α) (xs:List α) (i:Nat) (h:i<xs.length):xs.take (i+1)=xs.take i++[xs.getD i d]:=by
 rw [List.take_add_one,List.getElem?_eq_getElem h]
 simp [List.getD,h]
def attrL (a:S63):List UInt8:=32 :: (a.f0.data.toList++([61,34]++(a.f1.data.toList.flatMap escV++[34])))
def headL (x:S38) (i:Nat):List UInt8:=60 :: (x.f2.data.toList++(x.f4.take i).flatMap attrL)
def tagL (x:S38):List UInt8:=headL x x.f4.length++[62]
theorem attr_text (a:S63):((((⟨#[32]⟩:ByteArray)++a.f0)++(⟨#[61,34]⟩:ByteArray))++escVT a.f1)++(⟨#[34]⟩:ByteArray)=mk (attrL a):=by
 unfold attrL mk escVT
 apply ByteArray.ext
 simp
theorem escVT_size (s:ByteArray):(escVT s).size≤6 * s.size:=by
 show (List.toArray _).size≤_
 rw [List.size_toArray]
 have h:=flatV_len s.data.toList
 rwa [data_length] at h
def FitAs (l:List S63):Prop:=l.length≤1048576∧∀ a∈l,a.f0.size≤1048576∧a.f1.size≤1048576
theorem attr_len (a:S63) (h:a.f0.size≤1048576∧a.f1.size≤1048576):(attrL a).length≤8388608:=by
 have h1:=flatV_len a.f1.data.toList
 unfold attrL
 simp only [List.length_cons,List.length_append,List.length_nil]
 rw [data_length] at h1 ⊢
 omega
theorem attrs_len:∀ l:List S63,(∀ a∈l,a.f0.size≤1048576∧a.f1.size≤1048576)→(l.flatMap attrL).length≤8388608 * l.length
 | [],_=>Nat.le_refl _
 | a :: l,h=>by
  have h1:=attr_len a (h a List.mem_cons_self)
  have h2:=attrs_len l (fun b hb=>h b (List.mem_cons_of_mem _ hb))
  rw [List.flatMap_cons,List.length_append,List.length_cons]
  omega
theorem head_len (x:S38) (h2:x.f2.size≤1048576) (hf:FitAs x.f4) (i:Nat):(headL x i).length≤9000000000000:=by
 have h1:=attrs_len (x.f4.take i) (fun a ha=>hf.2 a (List.mem_of_mem_take ha))
 have h3:(x.f4.take i).length≤1048576:=by rw [lt_];have:=hf.1;omega
 unfold headL
 rw [List.length_cons,List.length_append,data_length]
 omega
theorem head_step (x:S38) (i:Nat) (h:i<x.f4.length):headL x (i+1)=headL x i++attrL (x.f4.getD i z63):=by
 unfold headL
 rw [take_getD z63 _ i h,List.flatMap_append]
 simp
theorem head_zero (x:S38):(⟨#[60]⟩:ByteArray)++x.f2=mk (headL x 0):=by
 unfold headL mk
 apply ByteArray.ext
 simp
theorem tag_end (x:S38):mk (headL x x.f4.length)++(⟨#[62]⟩:ByteArray)=mk (tagL x):=by
 rw [mk_txt]
 rfl
theorem attr_sizes (a:S63) (v:ByteArray):((⟨#[32]⟩:ByteArray)++a.f0).size=1+a.f0.size∧(((⟨#[32]⟩:ByteArray)++a.f0)++(⟨#[61,34]⟩:ByteArray)).size=1+a.f0.size+2∧((((⟨#[32]⟩:ByteArray)++a.f0)++(⟨#[61,34]⟩:ByteArray))++v).size=1+a.f0.size+2+v.size:=by
 refine ⟨?_,?_,?_⟩ <;> simp only [ByteArray.size_append] <;> rfl
theorem rdA3_nat (xs:List S63) (i:Nat):rd_T63 xs (i:Int)=xs.getD i z63:=by simp [rd_T63]
theorem ev_startTag (x:S38) (h2:x.f2.size≤1048576) (hf:FitAs x.f4):Ev (fun k=>impl_startTag.f k x.f0 x.f1 x.f2 x.f3 x.f4 x.f5) (mk (tagL x)):=by
 have hl:=hf.1
 have key:∀ i,i≤x.f4.length→∀ acc:ByteArray,acc=mk (headL x i)→Ev (fun k=>impl_startTag.l0 k acc x.f4 (x.f4.length:Int) (i:Int)) (mk (tagL x)):=by
  refine Kit.down ?_ ?_
  ·intro acc hacc
   have hsz:=head_len x h2 hf x.f4.length
   rw [←mk_size,←hacc] at hsz
   refine Ev.step (fun k=>rfl) (Kit.ev_neg (by omega) (Kit.ev_pos (by omega) (Kit.ev_const ?_)))
   rw [hacc,tag_end]
  ·intro i hi ih acc hacc
   have hsz:=head_len x h2 hf i
   rw [←mk_size,←hacc] at hsz
   have hm:=hf.2 _ (Kit.getD_mem z63 hi)
   have hst:=head_step x i hi
   have hvs:=escVT_size (x.f4.getD i z63).f1
   have hz:=attr_sizes (x.f4.getD i z63) (escVT (x.f4.getD i z63).f1)
   have he:=attr_text (x.f4.getD i z63)
   have hel:=attr_len _ hm
   have hv:=escapeValue_eq (x.f4.getD i z63).f1 (by omega)
   refine Ev.step (fun k=>rfl) (Kit.ev_pos (by omega) (Kit.ev_pos (by omega) (Kit.ev_pos (by omega) ?_)))
   rw [rdA3_nat,Kit.wrap_nat hi (by omega)]
   generalize x.f4.getD i z63=a at *
   obtain ⟨z1,z2,z3⟩:=hz
   refine Kit.ev_pos (by omega) (Kit.ev_pos (by omega) (Kit.ev_some hv (Kit.ev_pos (by omega) (Kit.ev_pos (by omega) ?_))))
   rw [he]
   refine Kit.ev_pos (by rw [mk_size];omega) (ih _ ?_)
   rw [hacc,hst,mk_txt]
   simp [mk]
 unfold impl_startTag.f
 exact Kit.ev_pos (by omega) (key 0 (Nat.zero_le _) _ (head_zero x))
/-- The text of a node, in a tree of that depth. -/
def serE:Nat→Bool→S38→List UInt8
 | 0,_,_=>[]
 | n+1,p,x=>if x.f0=3 then [60,33,45,45]++x.f3.data.toList++[45,45,62] else if x.f0=2 then (if p=true then x.f3.data.toList else x.f3.data.toList.flatMap escF) else if voidB x=true then tagL x else tagL x++x.f5.flatMap (serE n (rawB x))++[60,47]++x.f2.data.toList++[62]
/-- A node of that depth whose texts are short. -/
def fitS:Nat→S38→Bool
 | 0,_=>false
 | n+1,x=>decide (x.f2.size≤1048576∧x.f3.size≤1048576∧x.f4.length≤1048576) && x.f4.all (fun a=>decide (a.f0.size≤1048576∧a.f1.size≤1048576)) && x.f5.all (fitS n)
theorem ok_belowS {g:Nat} {W W':World} (h:Below W.heap.size W W'):Lib.OthersKept 5 (some g) W W':=fun k o hk _ _=>(h.block k (blk_lt hk)).trans hk
theorem isB_belowS {T e:TypeId} {B b:Nat} {bs:List Value} {W W':World} (h:Lib.IsBuilderF T e B b bs W) (hb:Below W.heap.size W W'):Lib.IsBuilderF T e B b bs W':=by
 have key:∀ p,Lib.BuilderAtF T e B b p bs W→Lib.BuilderAtF T e B b p bs W':=by
  rintro p ⟨hB,v,hk,⟨ho1,ho2⟩,hne⟩
  refine ⟨hB,v,(hb.block _ (blk_lt hk)).trans hk,⟨ho1,?_⟩,hne⟩
  rcases ho2 with h|⟨g,cap,cur,fz,hv,hbg,hg,rest⟩
  ·exact .inl h
  ·exact .inr ⟨g,cap,cur,fz,hv,hbg,(hb.block _ (blk_lt hg)).trans hg,rest⟩
 exact h.elim (fun x=>.inl (key _ x)) (fun x=>.inr (key _ x))
theorem cells_appendS (s:List UInt8) (t:ByteArray):Lib.byteCells s++Lib.strCells t=Lib.byteCells (s++t.data.toList):=by simp [Lib.byteCells,Lib.strCells]
theorem mk_dataS (l:List UInt8):(mk l).data.toList=l:=rfl
def serC (n:Nat):Prop:=∀ (A0:Option Addr) (c0:Nat) (l0:List S38) (p:Bool) (w:World),l0.all (fitS n)=true→(l0.flatMap (serE n p)).length≤1099511627776→Kd.C k38 w A0 l0.length l0 →
 Calls Tryz.prog 14 #[.slice A0 l0.length c0,.bool p] w fun e w'=>e=.returned (.string (mk (l0.flatMap (serE n p))))∧Below w.heap.size w w'
set_option maxHeartbeats 16000000 in
set_option maxRecDepth 1000000 in
theorem ser_step (n:Nat) (ih:∀ m,n=m+1→serC m):serC n:=by
 intro A0 c0 l0 p w hf hlen h0
 rw [List.all_eq_true] at hf
 have HALL:=A_ hf
 have HC:=A_ h0
 have IH:=A_ ih
 have HLEN:=A_ hlen
 have hL:l0.length≤9223372036854775807:=h0.2.1
 have HS:Aside0 (Lib.IsBuilderF 50 5 w.heap.size w.heap.size (Lib.byteCells []) (w.alloc (.cells #[.pointer none,.slice none 0 0] 50))):=⟨.inl ⟨Nat.le_refl _,.slice none 0 0,blk_new w _,⟨rfl,.inl ⟨rfl,rfl⟩⟩,by simp [Value.ownBlock]⟩⟩
 have HB:=A_ (ba_ (Below.refl w.heap.size w) (.cells #[.pointer none,.slice none 0 0] 50))
 clear hf hlen h0 ih
 go_enter Tryz.func14,Tryz.ntmps14
 go_wp2
 go_loopg [7,11,29,38,48,56] l0.length (fun gg _ s11 _ _ _ _ wr=>∃ kk:Nat,kk≤l0.length∧l0.length - kk≤gg∧s11=.int .i64 kk∧Aside0 (Lib.IsBuilderF 50 5 w.heap.size w.heap.size (Lib.byteCells ((l0.take kk).flatMap (serE n p))) wr)∧Aside0 (Below w.heap.size w wr))
 case atStart=>exact ⟨0,Nat.zero_le _,by omega,rfl,HS,HB⟩
 case round =>
  obtain ⟨kk,hkk,hgg,rfl,HI,BW⟩:=hrel
  clear HS HB
  by_cases hlt:kk<l0.length
  case neg =>
   have hltz:¬ (kk:Int)<(l0.length:Int):=by omega
   have HE:Aside0 (l0.take kk=l0):=⟨List.take_of_length_le (by omega)⟩
   have QG:Aside0 (Calls Tryz.prog 29 #[.pointer (some ⟨w.heap.size,0,none⟩)] wr fun e w'=>e=.returned (.string (mk (l0.flatMap (serE n p))))∧Below w.heap.size wr w'):=⟨by
    have h:=HI.out
    rw [HE.out] at h
    exact (Tryz.Builder_String_any_k w.heap.size w.heap.size _ wr h BW.out.size).mono fun e w' ⟨h1,_,h3,_⟩=>⟨h1,h3⟩⟩
   go_wp2_with (go_at_call 29;(with_reducible refine QG.out.mono ?_);rintro e w3 ⟨rfl,hb3⟩;have HB3:=A_ (BW.out.trans hb3);clear hb3)
   go_ret
   exact ⟨rfl,HB3.out⟩
  case pos =>
   have hltz:(kk:Int)<(l0.length:Int):=by omega
   obtain ⟨ad,cs,e,hcl,hK,hc⟩:=Kd.C_get HC.out z38 (kk:Int) (by omega) (by omega)
   rw [Int.toNat_natCast] at hK hc
   have hfy:=HALL.out _ (Kit.getD_mem z38 hlt)
   have htk:=take_getD z38 l0 kk hlt
   have hsum:((l0.take (kk+1)).flatMap (serE n p)).length≤1099511627776:=by
    have h:=HLEN.out
    rw [←List.take_append_drop (kk+1) l0,List.flatMap_append,List.length_append] at h
    omega
   have HACC:Aside0 ((l0.take (kk+1)).flatMap (serE n p)=(l0.take kk).flatMap (serE n p)++serE n p (l0.getD kk z38)):=⟨by rw [htk,List.flatMap_append];simp⟩
   rw [HACC.out,List.length_append] at hsum
   clear htk
   generalize l0.getD kk z38=x at *
   obtain ⟨m,rfl⟩:∃ m,n=m+1:=by
    cases n with
    | zero=>cases hfy
    | succ m=>exact ⟨m,rfl⟩
   have IH2:=A_ (IH.out m rfl)
   clear IH
   rw [fitS,Bool.and_eq_true,Bool.and_eq_true,List.all_eq_true] at hfy
   obtain ⟨⟨n0,n4⟩,n5⟩:=hfy
   obtain ⟨n2,n3,n6⟩:=od_ n0
   have hFA:FitAs x.f4:=⟨n6,fun a ha=>od_ (n4 a ha)⟩
   clear n0 n4 n6
   obtain ⟨A4,c4,A5,c5,rfl,m4,q4,m5,q5⟩:=k38_open hK
   subst e
   have r0:wr.cell? (ad.add (kk * 6))=some (.int .i64 x.f0):=pc_ BW.out (hc 0 _ rfl)
   have r1:wr.cell? ⟨(ad.add (kk * 6)).block,(ad.add (kk * 6)).off+1,none⟩=some (.int .i64 x.f1):=pc_ BW.out ((by rw [←add_field _ _ 1 (by omega)];exact hc 1 _ rfl))
   have r2:wr.cell? ⟨(ad.add (kk * 6)).block,(ad.add (kk * 6)).off+2,none⟩=some (.string x.f2):=pc_ BW.out ((by rw [←add_field _ _ 2 (by omega)];exact hc 2 _ rfl))
   have r3:wr.cell? ⟨(ad.add (kk * 6)).block,(ad.add (kk * 6)).off+3,none⟩=some (.string x.f3):=pc_ BW.out ((by rw [←add_field _ _ 3 (by omega)];exact hc 3 _ rfl))
   have r4:wr.cell? ⟨(ad.add (kk * 6)).block,(ad.add (kk * 6)).off+4,none⟩=some (.slice A4 x.f4.length c4):=pc_ BW.out ((by rw [←add_field _ _ 4 (by omega)];exact hc 4 _ rfl))
   have r5:wr.cell? ⟨(ad.add (kk * 6)).block,(ad.add (kk * 6)).off+5,none⟩=some (.slice A5 x.f5.length c5):=pc_ BW.out ((by rw [←add_field _ _ 5 (by omega)];exact hc 5 _ rfl))
   have Q4:Aside0 (∀ V,Below w.heap.size w V→Kd.C k63 V A4 x.f4.length x.f4):=⟨fun V hV=>cb_ q4 hV⟩
   have Q5:Aside0 (∀ V,Below w.heap.size w V→Kd.C k38 V A5 x.f5.length x.f5):=⟨fun V hV=>cb_ q5 hV⟩
   have QT:Aside0 (∀ V,Below w.heap.size w V→Calls Tryz.prog 27 #[.agg #[.int .i64 x.f0,.int .i64 x.f1,.string x.f2,.string x.f3,.slice A4 x.f4.length c4,.slice A5 x.f5.length c5]] V fun e w'=>e=.returned (.string (mk (tagL x)))∧Below V.heap.size V w'):=⟨fun V hV=>by
    obtain ⟨k,hk⟩:=ev_startTag x n2 hFA
    exact impl_startTag.calls k x.f0 x.f1 x.f2 x.f3 A4 c4 x.f4 A5 c5 x.f5 _ V (Q4.out V hV) m4 (Q5.out V hV) m5 (hk k (Nat.le_refl _))⟩
   have QV:Aside0 (∀ V,Below w.heap.size w V→Calls Tryz.prog 26 #[.agg #[.int .i64 x.f0,.int .i64 x.f1,.string x.f2,.string x.f3,.slice A4 x.f4.length c4,.slice A5 x.f5.length c5]] V fun e w'=>e=.returned (.bool (voidB x))∧Below V.heap.size V w'):=⟨fun V hV=>by
    obtain ⟨k,hk⟩:=ev_isVoidN x
    exact impl_Node_isVoid.calls k x.f0 x.f1 x.f2 x.f3 A4 c4 x.f4 A5 c5 x.f5 _ V (Q4.out V hV) m4 (Q5.out V hV) m5 (hk k (Nat.le_refl _))⟩
   have QR:Aside0 (∀ V,Below w.heap.size w V→Calls Tryz.prog 28 #[.agg #[.int .i64 x.f0,.int .i64 x.f1,.string x.f2,.string x.f3,.slice A4 x.f4.length c4,.slice A5 x.f5.length c5]] V fun e w'=>e=.returned (.bool (rawB x))∧Below V.heap.size V w'):=⟨fun V hV=>by
    obtain ⟨k,hk⟩:=ev_isRawN x
    exact impl_Node_isRaw.calls k x.f0 x.f1 x.f2 x.f3 A4 c4 x.f4 A5 c5 x.f5 _ V (Q4.out V hV) m4 (Q5.out V hV) m5 (hk k (Nat.le_refl _))⟩
   have QE:Aside0 (∀ V,Below w.heap.size w V→Calls Tryz.prog 25 #[.string x.f3] V fun e w'=>e=.returned (.string (escT x.f3))∧Below V.heap.size V w'):=⟨fun V _=>impl_escapeText.calls x.f3 _ V (by unfold impl_escapeText.f;rw [if_pos (by omega)])⟩
   have QF:Aside0 (∀ s:ByteArray,s.data.toList=serE (m+1) p x→∀ V,Lib.IsBuilderF 50 5 w.heap.size w.heap.size (Lib.byteCells ((l0.take kk).flatMap (serE (m+1) p))) V→Below w.heap.size w V→Calls Tryz.prog 24 #[.pointer (some ⟨w.heap.size,0,none⟩),.string s] V fun e w'=>e=.returned (.tuple #[.int .i64 s.size,.nilIface])∧Lib.IsBuilderF 50 5 w.heap.size w.heap.size (Lib.byteCells ((l0.take (kk+1)).flatMap (serE (m+1) p))) w'∧Below w.heap.size V w'∧Lib.OthersKept 5 (some w.heap.size) V w'):=⟨fun s hs V hV hB=>by
    have hz:s.data.toList.length=s.size:=data_length s
    have h:=Bld.write_text w.heap.size w.heap.size (Lib.byteCells ((l0.take kk).flatMap (serE (m+1) p))) s V hV (by rw [Lib.byteCells_length];rw [←hz,hs];omega) hB.size
    rw [cells_appendS,hs,←HACC.out] at h
    exact h⟩
   have HLE:Aside0 ((serE (m+1) p x).length≤1099511627776):=⟨by omega⟩
   have HX:Aside0 ((wr.alloc (.cells #[.int .i64 x.f0,.int .i64 x.f1,.string x.f2,.string x.f3,.slice A4 x.f4.length c4,.slice A5 x.f5.length c5] 38)).heap[wr.heap.size]? = some (.cells #[.int .i64 x.f0,.int .i64 x.f1,.string x.f2,.string x.f3,.slice A4 x.f4.length c4,.slice A5 x.f5.length c5] 38)):=⟨blk_new wr _⟩
   have HIV:Aside0 (Lib.IsBuilderF 50 5 w.heap.size w.heap.size (Lib.byteCells ((l0.take kk).flatMap (serE (m+1) p))) (wr.alloc (.cells #[.int .i64 x.f0,.int .i64 x.f1,.string x.f2,.string x.f3,.slice A4 x.f4.length c4,.slice A5 x.f5.length c5] 38))):=⟨isB_belowS HI.out (ba_ (Below.refl _ _) _)⟩
   have HBV:Aside0 (Below w.heap.size w (wr.alloc (.cells #[.int .i64 x.f0,.int .i64 x.f1,.string x.f2,.string x.f3,.slice A4 x.f4.length c4,.slice A5 x.f5.length c5] 38))):=⟨ba_ BW.out _⟩
   have HSZ:Aside0 (w.heap.size<wr.heap.size):=⟨HI.out.elim (fun h=>h.lt) (fun h=>h.lt)⟩
   have b0:(wr.alloc (.cells #[.int .i64 x.f0,.int .i64 x.f1,.string x.f2,.string x.f3,.slice A4 x.f4.length c4,.slice A5 x.f5.length c5] 38)).cell? ⟨wr.heap.size,0,none⟩=some (.int .i64 x.f0):=Mach.new_cell wr _ _ 0 _ rfl
   have b1:(wr.alloc (.cells #[.int .i64 x.f0,.int .i64 x.f1,.string x.f2,.string x.f3,.slice A4 x.f4.length c4,.slice A5 x.f5.length c5] 38)).cell? ⟨wr.heap.size,1,none⟩=some (.int .i64 x.f1):=Mach.new_cell wr _ _ 1 _ rfl
   have b2:(wr.alloc (.cells #[.int .i64 x.f0,.int .i64 x.f1,.string x.f2,.string x.f3,.slice A4 x.f4.length c4,.slice A5 x.f5.length c5] 38)).cell? ⟨wr.heap.size,2,none⟩=some (.string x.f2):=Mach.new_cell wr _ _ 2 _ rfl
   have b3:(wr.alloc (.cells #[.int .i64 x.f0,.int .i64 x.f1,.string x.f2,.string x.f3,.slice A4 x.f4.length c4,.slice A5 x.f5.length c5] 38)).cell? ⟨wr.heap.size,3,none⟩=some (.string x.f3):=Mach.new_cell wr _ _ 3 _ rfl
   have b4:(wr.alloc (.cells #[.int .i64 x.f0,.int .i64 x.f1,.string x.f2,.string x.f3,.slice A4 x.f4.length c4,.slice A5 x.f5.length c5] 38)).cell? ⟨wr.heap.size,4,none⟩=some (.slice A4 x.f4.length c4):=Mach.new_cell wr _ _ 4 _ rfl
   have b5:(wr.alloc (.cells #[.int .i64 x.f0,.int .i64 x.f1,.string x.f2,.string x.f3,.slice A4 x.f4.length c4,.slice A5 x.f5.length c5] 38)).cell? ⟨wr.heap.size,5,none⟩=some (.slice A5 x.f5.length c5):=Mach.new_cell wr _ _ 5 _ rfl
   have HK5:Aside0 (x.f5.all (fitS m)=true):=⟨n5⟩
   have Q45:=A_ (And.intro m4 m5)
   clear hc hK hcl m4 q4 m5 q5 n5 hsum
   by_cases h3:x.f0=3
   ·have hz3:(x.f0 == 3)=true:=by simpa using h3
    have HD:Aside0 ((((⟨#[60,33,45,45]⟩:ByteArray)++x.f3)++(⟨#[45,45,62]⟩:ByteArray)).data.toList=serE (m+1) p x):=⟨by rw [serE,if_pos h3];simp⟩
    clear h3 n2
    have sm0:(9223372036854775807<4+x.f3.size)=False:=eq_false (by omega)
    have sd0:decide (4+x.f3.size≤9223372036854775807)=true:=dt_ (by omega)
    have sm1:(9223372036854775807<4+x.f3.size+3)=False:=eq_false (by omega)
    have sd1:decide (4+x.f3.size+3≤9223372036854775807)=true:=dt_ (by omega)
    go_wp2_with (go_at_call 24;(with_reducible refine (QF.out (((⟨#[60,33,45,45]⟩:ByteArray)++x.f3)++(⟨#[45,45,62]⟩:ByteArray)) HD.out _ HIV.out HBV.out).mono ?_);rintro e w9 ⟨rfl,hi9,hb9,hk9⟩;(have HI9:=A_ hi9);(have HB9:=A_ (HBV.out.trans hb9));clear hi9 hb9 hk9)
    go_roundg (l0.length - (kk+1))
    case measure=>omega
    case rel=>exact ⟨kk+1,by omega,by omega,by go_num,HI9,HB9⟩
   ·have hz3:(x.f0 == 3)=false:=by simpa using h3
    by_cases h2:x.f0=2
    ·have hz2:(x.f0 == 2)=true:=by simpa using h2
     cases p with
     | true =>
      have HD:Aside0 (x.f3.data.toList=serE (m+1) true x):=⟨by rw [serE,if_neg h3,if_pos h2,if_pos rfl]⟩
      clear h2 h3 n2 n3
      go_wp2_with (go_at_call 24;(with_reducible refine (QF.out x.f3 HD.out _ HIV.out HBV.out).mono ?_);rintro e w9 ⟨rfl,hi9,hb9,hk9⟩;(have HI9:=A_ hi9);(have HB9:=A_ (HBV.out.trans hb9));clear hi9 hb9 hk9)
      go_roundg (l0.length - (kk+1))
      case measure=>omega
      case rel=>exact ⟨kk+1,by omega,by omega,by go_num,HI9,HB9⟩
     | false =>
      have HD:Aside0 ((escT x.f3).data.toList=serE (m+1) false x):=⟨by rw [serE,if_neg h3,if_pos h2,if_neg Bool.false_ne_true];simp [escT]⟩
      clear h2 h3 n2 n3
      generalize escT x.f3=E at *
      go_wp2_with (first|(go_at_call 25;(with_reducible refine (QE.out _ HBV.out).mono ?_);rintro e w2 ⟨rfl,hb2⟩;(have HB2:=A_ (bp_ HBV.out hb2));(have HI2:=A_ (isB_belowS HIV.out hb2));clear hb2)|(go_at_call 24;(with_reducible refine (QF.out E HD.out _ HI2.out HB2.out).mono ?_);rintro e w9 ⟨rfl,hi9,hb9,hk9⟩;(have HI9:=A_ hi9);(have HB9:=A_ (HB2.out.trans hb9));clear hi9 hb9 hk9))
      go_roundg (l0.length - (kk+1))
      case measure=>omega
      case rel=>exact ⟨kk+1,by omega,by omega,by go_num,HI9,HB9⟩
    ·have hz2:(x.f0 == 2)=false:=by simpa using h2
     have hsv:serE (m+1) p x=if voidB x=true then tagL x else tagL x++x.f5.flatMap (serE m (rawB x))++[60,47]++x.f2.data.toList++[62]:=by rw [serE,if_neg h3,if_neg h2]
     clear h2 h3 n3
     cases hv:voidB x with
     | true =>
      rw [hv] at QV
      have HD:Aside0 ((mk (tagL x)).data.toList=serE (m+1) p x):=⟨by rw [hsv,hv,if_pos rfl,mk_dataS]⟩
      clear hsv hv n2
      generalize mk (tagL x)=E at *
      go_wp2_with (first|(go_at_call 26;(with_reducible refine (QV.out _ HBV.out).mono ?_);rintro e w2 ⟨rfl,hb2⟩;(have HB2:=A_ (bp_ HBV.out hb2));(have HI2:=A_ (isB_belowS HIV.out hb2));(have HX2:=A_ (kb_ HX.out hb2));(have d0:w2.cell? ⟨wr.heap.size,0,none⟩=some (.int .i64 x.f0):=(bc_ HX2.out 0).trans rfl);(have d1:w2.cell? ⟨wr.heap.size,1,none⟩=some (.int .i64 x.f1):=(bc_ HX2.out 1).trans rfl);(have d2:w2.cell? ⟨wr.heap.size,2,none⟩=some (.string x.f2):=(bc_ HX2.out 2).trans rfl);(have d3:w2.cell? ⟨wr.heap.size,3,none⟩=some (.string x.f3):=(bc_ HX2.out 3).trans rfl);(have d4:w2.cell? ⟨wr.heap.size,4,none⟩=some (.slice A4 x.f4.length c4):=(bc_ HX2.out 4).trans rfl);(have d5:w2.cell? ⟨wr.heap.size,5,none⟩=some (.slice A5 x.f5.length c5):=(bc_ HX2.out 5).trans rfl);clear hb2)              | (go_at_call 27;(with_reducible refine (QT.out _ HB2.out).mono ?_);rintro e w4 ⟨rfl,hb4⟩;(have HB4:=A_ (bp_ HB2.out hb4));(have HI4:=A_ (isB_belowS HI2.out hb4));clear hb4)|(go_at_call 24;(with_reducible refine (QF.out E HD.out _ HI4.out HB4.out).mono ?_);rintro e w9 ⟨rfl,hi9,hb9,hk9⟩;(have HI9:=A_ hi9);(have HB9:=A_ (HB4.out.trans hb9));clear hi9 hb9 hk9))
      go_roundg (l0.length - (kk+1))
      case measure=>omega
      case rel=>exact ⟨kk+1,by omega,by omega,by go_num,HI9,HB9⟩
     | false =>
      rw [hv] at QV
      have QS:Aside0 (∀ V,Below w.heap.size w V→Calls Tryz.prog 14 #[.slice A5 x.f5.length c5,.bool (rawB x)] V fun e w'=>e=.returned (.string (mk (x.f5.flatMap (serE m (rawB x)))))∧Below V.heap.size V w'):=⟨fun V hV=>IH2.out A5 c5 x.f5 (rawB x) V HK5.out (by
       have h:=HLE.out
       rw [hsv,hv,if_neg Bool.false_ne_true] at h
       simp only [List.length_append] at h
       omega) (Q5.out V hV)⟩
      have hTs:(mk (tagL x)).size+(mk (x.f5.flatMap (serE m (rawB x)))).size+2+x.f2.size+1≤1099511627776:=by
       have h:=HLE.out
       rw [hsv,hv,if_neg Bool.false_ne_true] at h
       simp only [List.length_append,List.length_cons,List.length_nil] at h
       rw [data_length] at h
       rw [mk_size,mk_size]
       omega
      have HD:Aside0 (((((mk (tagL x)++mk (x.f5.flatMap (serE m (rawB x))))++(⟨#[60,47]⟩:ByteArray))++x.f2)++(⟨#[62]⟩:ByteArray)).data.toList=serE (m+1) p x):=⟨by rw [hsv,hv,if_neg Bool.false_ne_true];simp [mk]⟩
      clear hsv hv n2
      generalize mk (tagL x)=E at *
      generalize mk (x.f5.flatMap (serE m (rawB x)))=R at *
      generalize rawB x=rb at *
      have sm0:(9223372036854775807<E.size+R.size)=False:=eq_false (by omega)
      have sd0:decide (E.size+R.size≤9223372036854775807)=true:=dt_ (by omega)
      have sm1:(9223372036854775807<E.size+R.size+2)=False:=eq_false (by omega)
      have sd1:decide (E.size+R.size+2≤9223372036854775807)=true:=dt_ (by omega)
      have sm2:(9223372036854775807<E.size+R.size+2+x.f2.size)=False:=eq_false (by omega)
      have sd2:decide (E.size+R.size+2+x.f2.size≤9223372036854775807)=true:=dt_ (by omega)
      have sm3:(9223372036854775807<E.size+R.size+2+x.f2.size+1)=False:=eq_false (by omega)
      have sd3:decide (E.size+R.size+2+x.f2.size+1≤9223372036854775807)=true:=dt_ (by omega)
      go_wp2_with (first|(go_at_call 26;(with_reducible refine (QV.out _ HBV.out).mono ?_);rintro e w2 ⟨rfl,hb2⟩;(have HBc:=A_ (b1_ (bp_ HBV.out hb2)));(have HIc:=A_ (isB_belowS (isB_belowS HIV.out hb2) (b1_ (Below.refl _ _))));(have HXc:=A_ (kd_ (kb_ HX.out hb2)));clear hb2)|fail)
      go_region_held3 (fun w'=>w'.cell? ⟨wr.heap.size,0,none⟩=some (.int .i64 x.f0)∧w'.cell? ⟨wr.heap.size,1,none⟩=some (.int .i64 x.f1)∧w'.cell? ⟨wr.heap.size,2,none⟩=some (.string x.f2)∧w'.cell? ⟨wr.heap.size,3,none⟩=some (.string x.f3)∧w'.cell? ⟨wr.heap.size,4,none⟩=some (.slice A4 x.f4.length c4)∧w'.cell? ⟨wr.heap.size,5,none⟩=some (.slice A5 x.f5.length c5)) (exact ⟨(bc_ HXc.out 0).trans rfl,(bc_ HXc.out 1).trans rfl,(bc_ HXc.out 2).trans rfl,(bc_ HXc.out 3).trans rfl,(bc_ HXc.out 4).trans rfl,(bc_ HXc.out 5).trans rfl⟩) (first|(go_at_call 27;(with_reducible refine (QT.out _ HBc.out).mono ?_);rintro e w2 ⟨rfl,hb2⟩;(have n1:=A_ (bp_ HBc.out hb2));(have n2:=A_ (isB_belowS HIc.out hb2));(have n3:=A_ (kb_ HXc.out hb2));clear HBc HIc HXc hb2;(have HBc:=n1);(have HIc:=n2);(have HXc:=n3);clear n1 n2 n3)|(go_at_call 28;(with_reducible refine (QR.out _ HBc.out).mono ?_);rintro e w2 ⟨rfl,hb2⟩;(have n1:=A_ (bp_ HBc.out hb2));(have n2:=A_ (isB_belowS HIc.out hb2));(have n3:=A_ (kb_ HXc.out hb2));clear HBc HIc HXc hb2;(have HBc:=n1);(have HIc:=n2);(have HXc:=n3);clear n1 n2 n3)|(go_at_call 14;(with_reducible refine (QS.out _ HBc.out).mono ?_);rintro e w2 ⟨rfl,hb2⟩;(have n1:=A_ (bp_ HBc.out hb2));(have n2:=A_ (isB_belowS HIc.out hb2));(have n3:=A_ (kb_ HXc.out hb2));clear HBc HIc HXc hb2;(have HBc:=n1);(have HIc:=n2);(have HXc:=n3);clear n1 n2 n3)|(go_at_call 24;(with_reducible refine (QF.out ((((E++R)++(⟨#[60,47]⟩:ByteArray))++x.f2)++(⟨#[62]⟩:ByteArray)) HD.out _ HIc.out HBc.out).mono ?_);rintro e w9 ⟨rfl,hi9,hb9,hk9⟩;(have HI9:=A_ hi9);(have HB9:=A_ (HBc.out.trans hb9));(have n3:=A_ (hk9 _ _ HXc.out (fun e=>by have:=HSZ.out;have:=oi_ e;omega) (fun _ _ e=>by injection e with _ h;exact absurd h (by decide))));clear HXc hi9 hb9 hk9;(have HXc:=n3);clear n3))
      go_wp2
      go_roundg (l0.length - (kk+1))
      case measure=>omega
      case rel=>exact ⟨kk+1,by omega,by omega,by go_num,HI9,HB9⟩
theorem ser_all:∀ n,serC n
 | 0=>ser_step 0 (fun m h=>by cases h)
 | n+1=>ser_step (n+1) (fun m h=>by
  obtain rfl:n=m:=Nat.succ.inj h
  exact ser_all n)
def impl_serialize.f (l0:List S38) (a1:Bool):Option ByteArray:=if l0.all (fitS 10)=true∧(l0.flatMap (serE 10 a1)).length≤1099511627776 then some (mk (l0.flatMap (serE 10 a1))) else none
theorem impl_serialize.calls (A0:Option Addr) (c0:Nat) (l0:List S38) (a1:Bool) (r:ByteArray) (w:World) (hr0:Kd.C k38 w A0 l0.length l0) (hc0:l0.length≤c0) (h:impl_serialize.f l0 a1=some r) :
 Calls Tryz.prog 14 #[.slice A0 l0.length c0,.bool a1] w fun e w'=>e=.returned (.string r)∧Below w.heap.size w w':=by
 unfold impl_serialize.f at h
 obtain ⟨⟨h1,h2⟩,h⟩:=Option.ite_none_right_eq_some.mp h
 obtain rfl:=oi_ h
 exact ser_all 10 A0 c0 l0 a1 w h1 h2 hr0
/-! ### impl_Serialize: function 7 -/
def impl_Serialize.f (l0:List (S38)):Option (ByteArray × Int):=(impl_fault.f l0).bind fun t236=>(if t236=0 then ((impl_serialize.f l0 false).bind fun t237=>(some (t237,0))) else (some ((⟨#[]⟩:ByteArray),t236)))
set_option maxHeartbeats 8000000 in
set_option maxRecDepth 100000 in
theorem impl_Serialize.calls (A0:Option Addr) (c0:Nat) (l0:List (S38)) (r1:ByteArray) (r2:Int) (w:World) (hr0:Kd.C k38 w A0 l0.length l0) (hc0:l0.length≤c0) (h:impl_Serialize.f l0=some (r1,r2)) :
 Calls Tryz.prog 7 #[.slice A0 l0.length c0] w fun e w'=>e=.returned (.tuple #[.string r1,.int .i64 r2])∧Below w.heap.size w w':=by
 have HR0:=A_ hr0
 have HC0:=A_ hc0
 clear hr0 hc0
 have HB:=A_ (Below.refl w.heap.size w)
 have H:((impl_fault.f l0).bind fun t236=>(if t236=0 then ((impl_serialize.f l0 false).bind fun t237=>(some (t237,0))) else (some ((⟨#[]⟩:ByteArray),t236))))=some (r1,r2):=h
 clear h
 replace H:=ob_ H
 obtain ⟨t236,A20,H⟩:=H
 replace H:(if t236=0 then ((impl_serialize.f l0 false).bind fun t237=>(some (t237,0))) else (some ((⟨#[]⟩:ByteArray),t236)))=some (r1,r2):=H
 have A2:=A_ A20
 clear A20
 by_cases c3:t236=0
 ·rw [if_pos c3] at H
  have c3b0:(t236 == 0)=true:=beq_iff_eq.mpr c3
  have c3b1:(t236 != 0)=false:=bne_eq_false_iff_eq.mpr c3
  clear c3
  replace H:=ob_ H
  obtain ⟨t237,A40,H⟩:=H
  replace H:(some (t237,0))=some (r1,r2):=H
  have A4:=A_ A40
  clear A40
  simp only [Option.some.injEq,Prod.mk.injEq] at H
  obtain ⟨rfl,rfl⟩:=H
  go_enter Tryz.func7,Tryz.ntmps7
  go_wp2_with (first|((with_reducible refine gate_callee (f:=13) rfl ?_);refine goesL_ (some 6) rfl rfl Tryz.func13 (by kernel_rfl) rfl #[.slice A0 l0.length c0] rfl (by (try simp only [List.map_toArray,List.map_cons,List.map_nil]);first|done|rfl|(simp only [ld_,lt_];rfl)) ?_;(with_reducible refine (impl_fault.calls _ _ l0 t236 _ ?side1 ?side2 A2.out).mono ?_);(case side1=>repeat (first|exact HR0.out|(with_reducible refine ca_ ?_ _)|(with_reducible refine cn_ ?_ _)|(with_reducible refine cd_ ?_)));(case side2=>exact HC0.out);rintro e w5 ⟨rfl,hb⟩;refine ⟨_,rfl,?_⟩;have n0_:=A_ (bp_ (by repeat (first|(with_reducible first|exact HB.out|apply ba_|apply pd_|apply b1_)|exact HB.out)) hb);clear HB;have HB:=n0_;clear n0_;(try clear hb);(try clear hb2);(try clear hk);(try clear hi))|((with_reducible refine gate_callee (f:=14) rfl ?_);refine goesL_ (some 11) rfl rfl Tryz.func14 (by kernel_rfl) rfl #[.slice A0 l0.length c0,.bool false] rfl (by (try simp only [List.map_toArray,List.map_cons,List.map_nil]);first|done|rfl|(simp only [ld_,lt_];rfl)) ?_;(with_reducible refine (impl_serialize.calls _ _ l0 false t237 _ ?side1 ?side2 A4.out).mono ?_);(case side1=>repeat (first|exact (cb_ HR0.out HB.out)|(with_reducible refine ca_ ?_ _)|(with_reducible refine cn_ ?_ _)|(with_reducible refine cd_ ?_)));(case side2=>exact HC0.out);rintro e w6 ⟨rfl,hb⟩;refine ⟨_,rfl,?_⟩;have n0_:=A_ (bp_ (by repeat (first|(with_reducible first|exact HB.out|apply ba_|apply pd_|apply b1_)|exact HB.out)) hb);clear HB;have HB:=n0_;clear n0_;(try clear hb);(try clear hb2);(try clear hk);(try clear hi)))
  go_ret2
  exact ⟨by first|rfl|(simp [errW_none,errW_some] <;> rfl)|(simp [*,errW_none,errW_some] <;> rfl),by repeat (first|(with_reducible first|exact HB.out|apply ba_|apply pd_|apply b1_)|exact HB.out)⟩
 ·rw [if_neg c3] at H
  have c3b0:(t236 == 0)=false:=beq_eq_false_iff_ne.mpr c3
  have c3b1:(t236 != 0)=true:=bne_iff_ne.mpr c3
  simp only [Option.some.injEq,Prod.mk.injEq] at H
  obtain ⟨rfl,rfl⟩:=H
  go_enter Tryz.func7,Tryz.ntmps7
  go_wp2_with (first|((with_reducible refine gate_callee (f:=13) rfl ?_);refine goesL_ (some 6) rfl rfl Tryz.func13 (by kernel_rfl) rfl #[.slice A0 l0.length c0] rfl (by (try simp only [List.map_toArray,List.map_cons,List.map_nil]);first|done|rfl|(simp only [ld_,lt_];rfl)) ?_;(with_reducible refine (impl_fault.calls _ _ l0 t236 _ ?side1 ?side2 A2.out).mono ?_);(case side1=>repeat (first|exact HR0.out|(with_reducible refine ca_ ?_ _)|(with_reducible refine cn_ ?_ _)|(with_reducible refine cd_ ?_)));(case side2=>exact HC0.out);rintro e w7 ⟨rfl,hb⟩;refine ⟨_,rfl,?_⟩;have n0_:=A_ (bp_ (by repeat (first|(with_reducible first|exact HB.out|apply ba_|apply pd_|apply b1_)|exact HB.out)) hb);clear HB;have HB:=n0_;clear n0_;(try clear hb);(try clear hb2);(try clear hk);(try clear hi)))
  go_ret2
  exact ⟨by first|rfl|(simp [errW_none,errW_some] <;> rfl)|(simp [*,errW_none,errW_some] <;> rfl),by repeat (first|(with_reducible first|exact HB.out|apply ba_|apply pd_|apply b1_)|exact HB.out)⟩
end Go.Proofs.YtlpncjeahdfolaaGreatDoor.PFnExactSerialize
