/- By a program of this session, out of the kit's print and contracts made by hand: the machine side of a law; Lean checks it. No conditions. -/
import Derived.Test.YtpoaaomcpleebaaGreatDoorPFnExactStartTagx0
namespace Go.Proofs.YtpoaaomcpleebaaGreatDoor.PFnExactStartTag
open Go.RowKit Go.Proofs.YtpoaaomcpleebaaGreatDoorW.PrintWords Go.Proofs.YtpoaaomcpleebaaGreatDoorW.PrintLast Go.Proofs.YtpoaaomcpleebaaGreatDoorW.PrintMore
attribute [local go_sem] max2_int min2_int max_two min_two max_three min_three max_four min_four
set_option linter.unusedVariables false
set_option linter.unusedSimpArgs false
/-! ### strings_ReplaceAll: function 37, by hand -/
/-- Each byte c of a text replaced by a text. -/
def repB (c:UInt8) (new:List UInt8) (l:List UInt8):List UInt8:=l.flatMap fun b=>if b=c then new else [b]
theorem repB_append (c:UInt8) (new a b:List UInt8):repB c new (a++b)=repB c new a++repB c new b:=by simp [repB]
theorem repB_none (c:UInt8) (new:List UInt8):∀ l:List UInt8,l.count c=0→repB c new l=l
 | [],_=>rfl
 | b :: l,h=>by
  rw [List.count_cons] at h
  have hb:¬ b=c:=fun e=>by simp [e] at h
  have:=repB_none c new l (by omega)
  unfold repB at this ⊢
  rw [List.flatMap_cons,this,if_neg hb]
  rfl
theorem repB_len (c:UInt8) (new:List UInt8):∀ l:List UInt8,(repB c new l).length+l.count c=l.length+l.count c * new.length
 | []=>by simp [repB]
 | b :: l=>by
  have:=repB_len c new l
  unfold repB at this ⊢
  rw [List.flatMap_cons,List.length_append,List.count_cons,List.length_cons]
  by_cases h:b=c
  ·rw [if_pos h,if_pos (by simpa using h),Nat.add_mul]
   omega
  ·rw [if_neg h,if_neg (by simpa using h),List.length_singleton,Nat.add_zero]
   omega
theorem indexByte_cut (c:UInt8):∀ l:List UInt8,0<l.count c→∃ j:Nat,Lib.indexByte l c=(j:Int)∧j<l.length∧(l.take j).count c=0∧l.drop j=c :: l.drop (j+1)
 | [],h=>by simp at h
 | b :: l,h=>by
  by_cases e:b=c
  ·subst e
   exact ⟨0,by simp [Lib.indexByte],by simp,by simp,by simp⟩
  ·have hc:0<l.count c:=by rw [List.count_cons,if_neg (by simpa using e)] at h;omega
   obtain ⟨j,h1,h2,h3,h4⟩:=indexByte_cut c l hc
   refine ⟨j+1,?_,by simpa using h2,?_,by simpa using h4⟩
   ·unfold Lib.indexByte
    rw [if_neg (by simpa using e),if_neg (by rw [h1];simp),h1]
    push_cast
    rfl
   ·rw [List.take_succ_cons,List.count_cons,h3,if_neg (by simpa using e)]
theorem drop_cut {l:List UInt8} {c:UInt8} {st j:Nat} (h1:st+j<l.length) (h:(l.drop st).drop j=c :: (l.drop st).drop (j+1)) (new:List UInt8) (h3:((l.drop st).take j).count c=0) :
 repB c new (l.take (st+j+1))=repB c new (l.take st)++(l.drop st).take j++new:=by
 have e:l.take (st+j+1)=l.take st++((l.drop st).take j++[c]):=by
  rw [List.drop_drop,List.drop_eq_getElem_cons h1] at h
  have hc:l[st+j]=c:=(List.cons.inj h).1
  rw [List.take_add_one,List.getElem?_eq_getElem h1,hc,List.take_add]
  first|done|simp
 rw [e,repB_append,repB_append,repB_none c new _ h3]
 simp [repB]
theorem count_cut {l:List UInt8} {c:UInt8} {st j:Nat} (h:(l.drop st).drop j=c :: (l.drop st).drop (j+1)) (h3:((l.drop st).take j).count c=0):(l.drop st).count c=1+(l.drop (st+j+1)).count c:=by
 have e:l.drop st=(l.drop st).take j++(c :: (l.drop st).drop (j+1)):=by rw [←h,List.take_append_drop]
 rw [e,List.count_append,h3,List.count_cons,if_pos (by simp),List.drop_drop]
 have:st+j+1=st+(j+1):=by omega
 rw [this]
 omega
theorem write_one (B b:Nat) (bs:List Value) (s:ByteArray) (w:World) (h:Lib.IsBuilder 67 5 B b bs w) (hlen:bs.length+s.size≤140737488355328) (hBw:B≤w.heap.size) :
 Calls Tryz.prog 46 #[.pointer (some ⟨b,0,none⟩),.string s] w fun e w'=>e=.returned (.tuple #[.int .i64 s.size,.nilIface])∧Lib.IsBuilder 67 5 B b (bs++Lib.strCells s) w'∧Below B w w' :=
 (Any.Builder_WriteString (P:=Tryz.prog) (ρ := Tryz.lays154_ren) { Tryz.lays154 with } Tryz.Builder_Extra_154 B b bs s w h hlen hBw).mono fun _ _ ⟨h1,h2,h3⟩=>⟨h1,Or.inr h2,h3⟩
theorem grow_one (B b n:Nat) (w:World) (hB:B≤b) (hbk:w.heap[b]? = some (.cells #[.pointer none,.slice none 0 0] 67 (0,0))) (hBw:B≤w.heap.size) (hn:n≤281474976710656) :
 Calls Tryz.prog 44 #[.pointer (some ⟨b,0,none⟩),.int .i64 n] w fun e w'=>e=.returned (.tuple #[])∧Lib.IsBuilder 67 5 B b (Lib.byteCells []) w'∧Below B w w' :=
 (Any.Builder_Grow_fresh (P:=Tryz.prog) (ρ := Tryz.lays154_ren) { Tryz.lays154 with } Tryz.Builder_Extra_154 B b n w hB hbk hBw hn).mono fun _ _ ⟨h1,h2,h3⟩=>⟨h1,Or.inr h2,h3⟩
theorem text_one (B b:Nat) (l:List UInt8) (w:World) (h:Lib.IsBuilder 67 5 B b (Lib.byteCells l) w) (hBw:B≤w.heap.size) :
 Calls Tryz.prog 48 #[.pointer (some ⟨b,0,none⟩)] w fun e w'=>e=.returned (.string ⟨l.toArray⟩)∧Below B w w' :=
 Any.Builder_String_any (P:=Tryz.prog) (ρ := Tryz.lays154_ren) { Tryz.lays154 with } Tryz.Builder_Extra_154 B b l w h hBw
theorem index_one (s:ByteArray) (c:UInt8) (w:World):Calls Tryz.prog 45 #[.string s,.string ⟨#[c]⟩] w fun e w'=>e=.returned (.int .i64 (Lib.indexByte s.data.toList c))∧w'=w :=
 Any.strings_Index_one (P:=Tryz.prog) (ρ := Tryz.lays154_ren) { Tryz.lays154 with } s c w
theorem count_one2 (s:ByteArray) (c:UInt8) (w:World):Calls Tryz.prog 43 #[.string s,.string ⟨#[c]⟩] w fun e w'=>e=.returned (.int .i64 (Lib.countByte s.data.toList c))∧w'=w :=
 Any.strings_Count_one (P:=Tryz.prog) (ρ := Tryz.lays154_ren) { Tryz.lays154 with } s c w
set_option maxHeartbeats 16000000 in
set_option maxRecDepth 1000000 in
theorem replace_one (s old:ByteArray) (c:UInt8) (hold:old=⟨#[c]⟩) (new:ByteArray) (w:World) (hs:s.size≤8796093022208) (hn2:new.size≤8) (hne:old≠new) :
 Calls Tryz.prog 40 #[.string s,.string old,.string new,.int .i64 (-1)] w fun e w'=>e=.returned (.string ⟨(repB c new.data.toList s.data.toList).toArray⟩)∧Below w.heap.size w w':=by
 have hbeq:(old.toList == new.toList)=false:=(Lib.bytes_beq_false_iff _ new).2 hne
 have ho1:old.size=1:=by rw [hold];rfl
 have HC:Aside0 (Calls Tryz.prog 43 #[.string s,.string old] w fun e w'=>e=.returned (.int .i64 (Lib.countByte s.data.toList c))∧w'=w):=⟨by rw [hold];exact count_one2 s c w⟩
 have HI:Aside0 (∀ (x:ByteArray) (W:World),Calls Tryz.prog 45 #[.string x,.string old] W fun e w'=>e=.returned (.int .i64 (Lib.indexByte x.data.toList c))∧w'=W):=⟨by rw [hold];exact fun x W=>index_one x c W⟩
 have hcl:Lib.countByte s.data.toList c≤s.size:=by
  unfold Lib.countByte
  have:=List.count_le_length (a:=c) (l:=s.data.toList)
  rwa [data_length] at this
 obtain ⟨K,hK⟩:∃ K,Lib.countByte s.data.toList c=K:=⟨_,rfl⟩
 have HK:=A_ hK
 rw [hK] at HC hcl
 clear hK hold hne
 by_cases hK0:K=0
 ·subst hK0
  go_enter Tryz.func40,Tryz.ntmps40
  go_wp2_with (go_at_call 43;(with_reducible refine HC.out.mono ?_);rintro e w2 ⟨rfl,rfl⟩)
  go_ret
  refine ⟨?_,Below.refl _ _⟩
  rw [repB_none c _ _ HK.out,Lib.mk_data]
  rfl
 ·have hcz:((K:Int) == 0)=false:=beq_eq_false_iff_ne.2 (by omega)
  have hb0:=Nat.mul_le_mul hcl hn2
  have hga:=Lib.grow_arg s.size K new.size 1 (by omega) (by omega) (by omega)
  have e1:wrap64 ((new.size:Int) - ((1:Nat):Int))=(new.size:Int) - 1:=IntWalk.wrap64_in _ ⟨by omega,by omega⟩
  rw [e1,Nat.mul_one] at hga
  have hod:decide (0<old.size)=true:=dt_ (by omega)
  have HL0:Aside0 (∀ k,k≤s.size→(repB c new.data.toList (s.data.toList.take k)).length≤s.size+8 * s.size):=⟨fun k hk=>by
   have h1:=repB_len c new.data.toList (s.data.toList.take k)
   have h3:(s.data.toList.take k).length≤s.size:=by rw [lt_,data_length];omega
   have h2:=List.count_le_length (a:=c) (l:=s.data.toList.take k)
   have h4:=Nat.mul_le_mul (Nat.le_trans h2 h3) hn2
   have h5:new.data.toList.length=new.size:=data_length new
   rw [h5] at h1
   omega⟩
  have HG:=A_ (grow_one w.heap.size w.heap.size (s.size+K * new.size - K) (w.alloc (.cells #[.pointer none,.slice none 0 0] 67 (0,0))) (Nat.le_refl _) (blk_new w _) (by rw [World.size_alloc];omega) (by omega))
  have HA:Aside0 (Below w.heap.size w (w.alloc (.cells #[.pointer none,.slice none 0 0] 67 (0,0)))):=⟨(Below.refl _ _).alloc (Nat.le_refl _) _⟩
  clear hb0 e1
  go_enter Tryz.func40,Tryz.ntmps40
  go_wp2_with (first|(go_at_call 43;(with_reducible refine HC.out.mono ?_);rintro e w2 ⟨rfl,hw2⟩;subst hw2)|(go_at_call 44;(with_reducible refine HG.out.mono ?_);rintro e w3 ⟨rfl,hb3,hbl⟩;(have H3:=A_ hb3);(have HB3:=A_ (HA.out.trans hbl));clear hb3 hbl))
  go_loopg [11,53] K (fun g s11 s53 wx=>∃ i start:Nat,s53=.int .i64 i∧s11=.int .i64 start∧i+g=K∧start≤s.size∧Aside0 (Lib.IsBuilder 67 5 w2.heap.size w2.heap.size (Lib.byteCells (repB c new.data.toList (s.data.toList.take start))) wx)∧Aside0 (Below w2.heap.size w2 wx)∧Aside0 ((s.data.toList.drop start).count c=g))
  case atStart=>exact ⟨0,0,rfl,rfl,by omega,Nat.zero_le _,H3,HB3,⟨by rw [List.drop_zero];exact HK.out⟩⟩
  case round =>
   obtain ⟨i,start,rfl,rfl,hig,hst,HB,HW,HR⟩:=hrel
   clear H3 HB3
   have hBw:w2.heap.size≤wr.heap.size:=HW.out.size
   have c1:(0:Int)≤(start:Int):=by omega
   have c2:(start:Int)≤(s.size:Int):=by omega
   have hl0:=HL0.out start hst
   cases gk with
   | zero =>
    have hiK:¬ ((i:Int)<(K:Int)):=by omega
    have hx:(s.extract start s.size).size=s.size - start:=by rw [ByteArray.size_extract];omega
    have HX:=A_ (write_one w2.heap.size w2.heap.size _ (s.extract start s.size) wr HB.out (by rw [Lib.byteCells_length,hx];omega) hBw)
    clear hx
    go_wp2_with (first|(go_at_call 46;(with_reducible refine HX.out.mono ?_);rintro e w3 ⟨rfl,h3,hb3⟩;rw [Lib.strCells_eq,Lib.extract_to_end,←Lib.byteCells_append] at h3;(have HB5:=A_ (HW.out.trans hb3));(have HT:=A_ (text_one w2.heap.size w2.heap.size _ w3 h3 HB5.out.size));clear h3 hb3)|(go_at_call 48;(with_reducible refine HT.out.mono ?_);rintro e w5 ⟨rfl,hb5⟩;(have HB6:=A_ (HB5.out.trans hb5));clear hb5))
    go_ret
    refine ⟨?_,HB6.out⟩
    have e2:repB c new.data.toList s.data.toList=repB c new.data.toList (s.data.toList.take start)++s.data.toList.drop start:=by
     have e3:=repB_append c new.data.toList (s.data.toList.take start) (s.data.toList.drop start)
     rw [List.take_append_drop,repB_none c _ (s.data.toList.drop start) HR.out] at e3
     exact e3
    rw [e2]
    rfl
   | succ g =>
    have hiK:(i:Int)<(K:Int):=by omega
    obtain ⟨j,hj,hjl,hj0,hjd⟩:=indexByte_cut c (s.data.toList.drop start) (by rw [HR.out];omega)
    rw [ld_,data_length] at hjl
    have c3:(start:Int)≤(start:Int)+(j:Int):=by omega
    have c4:(start:Int)+(j:Int)≤(s.size:Int):=by omega
    have hl1:=HL0.out (start+j+1) (by omega)
    have hnext:=drop_cut (l:=s.data.toList) (by rw [data_length];omega) hjd new.data.toList hj0
    have hcnt:=count_cut (l:=s.data.toList) hjd hj0
    rw [HR.out] at hcnt
    have HN:=A_ hnext
    have HCN:=A_ hcnt
    have hx:(s.extract start (start+j)).size=j:=by rw [ByteArray.size_extract];omega
    have hlx:(repB c new.data.toList (s.data.toList.take (start+j+1))).length=(repB c new.data.toList (s.data.toList.take start)).length+j+new.size:=by
     rw [hnext,List.length_append,List.length_append,lt_,ld_,data_length,data_length]
     omega
    have HX:=A_ (write_one w2.heap.size w2.heap.size _ (s.extract start (start+j)) wr HB.out (by rw [Lib.byteCells_length,hx];omega) hBw)
    have HI2:Aside0 (Calls Tryz.prog 45 #[.string (s.extract start s.size),.string old] wr fun e w'=>e=.returned (.int .i64 j)∧w'=wr):=⟨by rw [←hj,←Lib.extract_to_end];exact HI.out _ wr⟩
    have HXL:Aside0 ((Lib.byteCells (repB c new.data.toList (s.data.toList.take start))++Lib.strCells (s.extract start (start+j))).length+new.size≤140737488355328):=⟨by rw [List.length_append,Lib.byteCells_length,Lib.strCells_eq,Lib.byteCells_length,data_length,hx];omega⟩
    have HXE:Aside0 (Lib.byteCells (repB c new.data.toList (s.data.toList.take start))++Lib.strCells (s.extract start (start+j))++Lib.strCells new=Lib.byteCells (repB c new.data.toList (s.data.toList.take (start+j+1)))):=⟨by
     rw [hnext,Lib.strCells_eq,Lib.strCells_eq,Lib.extract_data,Nat.add_sub_cancel_left,←Lib.byteCells_append,←Lib.byteCells_append]⟩
    clear hnext hcnt hx hlx hl0 hl1 hj hj0 hjd HR
    go_wp2_with (first|(go_at_call 45;(with_reducible refine HI2.out.mono ?_);rintro e w3 ⟨rfl,hw3⟩;subst hw3)|(go_at_call 46;(with_reducible refine HX.out.mono ?_);rintro e w4 ⟨rfl,h3,hb3⟩;(have HB5:=A_ (HW.out.trans hb3));(have HX2:=A_ (write_one w2.heap.size w2.heap.size _ new w4 h3 HXL.out HB5.out.size));clear h3 hb3 HX)|(go_at_call 46;(with_reducible refine HX2.out.mono ?_);rintro e w6 ⟨rfl,h6,hb6⟩;rw [HXE.out] at h6;(have H6:=A_ h6);(have HB7:=A_ (HB5.out.trans hb6));clear h6 hb6))
    go_roundg g
    case measure=>omega
    case rel=>exact ⟨i+1,start+j+1,by go_num,by go_num,by omega,by omega,H6,HB7,⟨by have:=HCN.out;omega⟩⟩
def strings_ReplaceAll.f (a0 a1 a2:ByteArray):Option ByteArray:=match a1.data.toList with | [c]=>if a0.size≤8796093022208∧a2.size≤8∧2≤a2.size then some ⟨(repB c a2.data.toList a0.data.toList).toArray⟩ else none|_=>none
set_option maxHeartbeats 8000000 in
set_option maxRecDepth 1000000 in
theorem strings_ReplaceAll.calls (a0 a1 a2:ByteArray) (r:ByteArray) (w:World) (h:strings_ReplaceAll.f a0 a1 a2=some r) :
 Calls Tryz.prog 37 #[.string a0,.string a1,.string a2] w fun e w'=>e=.returned (.string r)∧Below w.heap.size w w':=by
 unfold strings_ReplaceAll.f at h
 rcases a1 with ⟨⟨l⟩⟩
 cases l with
 | nil=>cases h
 | cons c l =>
  cases l with
  | cons _ _=>cases h
  | nil =>
   obtain ⟨⟨h1,h2,h3⟩,h⟩:=Option.ite_none_right_eq_some.mp h
   obtain rfl:=oi_ h
   have HR:=A_ (replace_one a0 ⟨#[c]⟩ c rfl a2 w h1 h2 (fun e=>by rw [←e] at h3;exact absurd h3 (by show ¬ (2≤1);omega)))
   clear h h1 h2 h3
   generalize (⟨#[c]⟩:ByteArray)=old at *
   go_enter Tryz.func37,Tryz.ntmps37
   go_wp2_with (go_at_call 40;(with_reducible refine HR.out.mono ?_);rintro e w2 ⟨rfl,hb2⟩;(have HB2:=A_ hb2);clear hb2)
   go_ret
   exact ⟨rfl,HB2.out⟩
/-! ### atomic_b32: function 77 -/
def atomic_b32.f (a0:Bool):Option (Int):=if a0=true then (some 1) else (some 0)
set_option maxHeartbeats 8000000 in
set_option maxRecDepth 100000 in
theorem atomic_b32.calls (a0:Bool) (r:Int) (w:World) (h:atomic_b32.f a0=some r) :
 Calls Tryz.prog 77 #[.bool a0] w fun e w'=>e=.returned (.int .u32 r)∧Drawn0 w w':=by
 have H:(if a0=true then (some 1) else (some 0))=some r:=h
 clear h
 by_cases c2:a0=true
 ·subst c2
  have H1:(some 1)=some r:=by rw [if_pos rfl] at H;exact H
  clear H
  have H:=H1
  clear H1
  obtain rfl:=oi_ H
  go_enter Tryz.func77,Tryz.ntmps77
  go_wp2
  go_ret
  exact ⟨by first|rfl|(simp;done)|(simp [*];done),by repeat (first|exact dr_ _|apply dp_)⟩
 ·replace c2:=bm_ c2
  subst c2
  have H1:(some 0)=some r:=by rw [if_neg (show ¬ (false=true) by decide)] at H;exact H
  clear H
  have H:=H1
  clear H1
  obtain rfl:=oi_ H
  go_enter Tryz.func77,Tryz.ntmps77
  go_wp2
  go_ret
  exact ⟨by first|rfl|(simp;done)|(simp [*];done),by repeat (first|exact dr_ _|apply dp_)⟩
/-! ### sync_Once: function 58, by hand -/
theorem once_disable (w:World):(callFunc 80 #[]).run Tryz.prog w=.ok (.value (.tuple #[])) w:=run_call_mark0 Tryz.func80 (by kernel_rfl) (by kernel_rfl) (by kernel_rfl) .disable (by kernel_rfl) w
theorem once_enable (w:World):(callFunc 82 #[]).run Tryz.prog w=.ok (.value (.tuple #[])) w:=run_call_mark0 Tryz.func82 (by kernel_rfl) (by kernel_rfl) (by kernel_rfl) .enable (by kernel_rfl) w
theorem once_acquire (a:Addr) (w:World):(callFunc 83 #[.pointer (some a)]).run Tryz.prog w=.ok (.value (.tuple #[])) w:=run_call_marked Tryz.func83 (by kernel_rfl) (by kernel_rfl) (by kernel_rfl) .acquire (by kernel_rfl) a w
theorem once_release (a:Addr) (w:World):(callFunc 85 #[.pointer (some a)]).run Tryz.prog w=.ok (.value (.tuple #[])) w:=run_call_marked Tryz.func85 (by kernel_rfl) (by kernel_rfl) (by kernel_rfl) .releaseMerge (by kernel_rfl) a w
set_option maxHeartbeats 4000000 in
set_option maxRecDepth 1000000 in
/-- '(*sync/atomic.Bool).Store(true)', entered as a deferred call: the cell holds 1. -/
theorem once_store (a:Addr) (x:Value) (u:FrameMode) (w:World) (hc:w.cell? a=some x) (hz:w.frozen? a=false) :
 CallsD Tryz.prog 69 #[.pointer (some a),.bool true] u w fun e u' w'=>u'=u∧(e=.returned (.tuple #[])∧w'=w.drew.setCell a (.int .u32 1)):=by
 have hmix:Tryz.prog.follows .mixedOrders=true:=by kernel_rfl
 have hc':w.drew.cell? a=some x:=by go_simp
 have hz':w.drew.frozen? a=false:=by go_simp
 have hst:=run_call_store (P:=Tryz.prog) Tryz.func76 (by kernel_rfl) (by kernel_rfl) (by kernel_rfl) (by kernel_rfl) (k:=.u32) (y:=1) hc' hz'
 go_enter_d Tryz.func69,Tryz.ntmps69
 go_wp2
 go_region_calls
 all_goals (go_end0;exact ⟨rfl,rfl⟩)
set_option maxHeartbeats 4000000 in
set_option maxRecDepth 1000000 in
/-- '(*sync.Mutex).Unlock', entered as a deferred call, the lock held and nobody waiting. -/
theorem once_unlock (a:Addr) (u:FrameMode) (w:World) (hc:w.cell? a=some (.int .i32 1)) (hz:w.frozen? a=false) :
 CallsD Tryz.prog 68 #[.pointer (some a)] u w fun e u' w'=>u'=u∧(e=.returned (.tuple #[])∧w'=w.setCell a (.int .i32 0)):=by
 have hd:=once_disable
 have he:=once_enable
 have hr:=once_release
 have hadd:=run_call_add (P:=Tryz.prog) Tryz.func86 (by kernel_rfl) (by kernel_rfl) (by kernel_rfl) .i32 (by kernel_rfl) (y:=-1) (s:=0) hc hz (by simp [go_sem];rfl)
 have hcv:=run_convert_to_unsafe (P:=Tryz.prog) (src:=138) (dst:=99) Tryz.underlying138 Tryz.underlying99 (by kernel_rfl) hc
 go_enter_d Tryz.func68,Tryz.ntmps68
 go_wp2
 go_end0
 go_wp2
 go_end0
 exact ⟨rfl,rfl⟩
set_option maxHeartbeats 4000000 in
set_option maxRecDepth 1000000 in
/-- '(*sync.Mutex).Lock', the lock free. -/
theorem once_lock (a:Addr) (w:World) (hc:w.cell? a=some (.int .i32 0)) (hz:w.frozen? a=false) :
 Calls Tryz.prog 67 #[.pointer (some a)] w fun e w'=>e=.returned (.tuple #[])∧w'=w.setCell a (.int .i32 1):=by
 have hd:=once_disable
 have he:=once_enable
 have ha:=once_acquire
 have hcas:=run_call_cas_hit (P:=Tryz.prog) Tryz.func81 (by kernel_rfl) (by kernel_rfl) (by kernel_rfl) .i32 (by kernel_rfl) (y:=1) hc hz
 have hc':(w.setCell a (.int .i32 1)).cell? a=some (.int .i32 1):=World.cell?_setCell_same w a _ hc
 have hcv:=run_convert_to_unsafe (P:=Tryz.prog) (src:=138) (dst:=99) Tryz.underlying138 Tryz.underlying99 (by kernel_rfl) hc'
 go_enter Tryz.func67,Tryz.ntmps67
 go_wp2
 first|go_end0|(simp only [Exit.inBlock,Exit.then];refine bodyPost_ret (results_none rfl _ _ _) rfl ?_)|refine bodyPost_ret (results_none rfl _ _ _) rfl ?_
 go_wp2
 go_end0
 exact ⟨rfl,rfl⟩
set_option maxHeartbeats 8000000 in
set_option maxRecDepth 1000000 in
/-- '(*sync.Once).doSlow' of a Replacer's own once, not yet done, the lock free. -/
theorem once_slow (g:Nat) (x3 x4:Value) (w:World) (Q:World→Value→Prop) (hb:w.heap[g]? = some (.cells #[.int .u32 0,.int .i32 0,.int .u32 0,x3,x4] 92 (0,0)))
 (hF:Calls Tryz.prog 50 #[.pointer (some ⟨g,0,none⟩)] (w.setCell ⟨g,1,none⟩ (.int .i32 1)) fun e w'=>e=.returned (.tuple #[])∧∃ y3 y4,w'.heap[g]? = some (.cells #[.int .u32 0,.int .i32 1,.int .u32 0,y3,y4] 92 (0,0))∧Q w' y3) :
 Calls Tryz.prog 58 #[.pointer (some ⟨g,0,none⟩),.func (.func 50) #[.pointer (some ⟨g,0,none⟩)] #[]] w fun e w'=>e=.returned (.tuple #[])∧∃ W y3 y4,Q W y3∧W.heap[g]? = some (.cells #[.int .u32 0,.int .i32 1,.int .u32 0,y3,y4] 92 (0,0))∧w'=(W.drew.setCell ⟨g,0,none⟩ (.int .u32 1)).setCell ⟨g,1,none⟩ (.int .i32 0):=by
 have h1:w.cell? ⟨g,1,none⟩=some (.int .i32 0):=(bc_ hb 1).trans rfl
 have f1:w.frozen? ⟨g,1,none⟩=false:=bf_ hb 1
 have hb1:=blk_put hb 1 (.int .i32 1) rfl
 have hl:=run_call_load (P:=Tryz.prog) Tryz.func66 (by kernel_rfl) (by kernel_rfl) (by kernel_rfl) .u32 (by kernel_rfl) (w:=w.setCell ⟨g,1,none⟩ (.int .i32 1)) (a:=⟨g,0,none⟩) (x:=0) ((bc_ hb1 0).trans rfl)
 have hnot:∀ (x:Bool) (w:World),(Op.unary .not (.bool x)).run Tryz.prog w=.ok (.bool (!x)) w:=fun _ _=>rfl
 have HF:=A_ hF
 clear hF hb hb1
 go_enter_defers Tryz.func58,Tryz.ntmps58
 go_wp2_with (go_at_call 67;refine (once_lock ⟨g,1,none⟩ _ (by go_simp) (by go_simp)).mono ?_;rintro e w' ⟨rfl,rfl⟩)
 go_wp2_with (first|(go_at_call 57;go_in)|(go_at_call 50;refine HF.out.mono ?_;rintro e W ⟨rfl,y3,y4,hW,hQ⟩))
 go_wp2
 refine leaves_cons (f:=69) (args:=#[.pointer (some ⟨g,0,none⟩),.bool true]) (by simp) (by simp [go_sem]) ?_
 refine (once_store ⟨g,0,none⟩ (.int .u32 0) .returning _ ((bc_ hW 0).trans rfl) (bf_ hW 0)).mono ?_
 rintro e u' w'' ⟨rfl,rfl,rfl⟩
 have hW2:=blk_put (kd_ hW) 0 (.int .u32 1) rfl
 refine leaves_cons (f:=68) (args:=#[.pointer (some ⟨g,1,none⟩)]) (by simp [settle]) (by simp [go_sem]) ?_
 refine (once_unlock ⟨g,1,none⟩ _ _ ((bc_ hW2 1).trans rfl) (bf_ hW2 1)).mono ?_
 rintro e u' w'' ⟨rfl,rfl,rfl⟩
 simp [Leaves,settle,results]
 exact ⟨W,y3,hQ,⟨y4,hW⟩,rfl⟩
set_option maxHeartbeats 8000000 in
set_option maxRecDepth 1000000 in
/-- '(*sync.Once).Do' of a Replacer's own once, not yet done, the lock free. -/
theorem once_do (g:Nat) (x3 x4:Value) (w:World) (Q:World→Value→Prop) (hb:w.heap[g]? = some (.cells #[.int .u32 0,.int .i32 0,.int .u32 0,x3,x4] 92 (0,0)))
 (hF:Calls Tryz.prog 50 #[.pointer (some ⟨g,0,none⟩)] (w.setCell ⟨g,1,none⟩ (.int .i32 1)) fun e w'=>e=.returned (.tuple #[])∧∃ y3 y4,w'.heap[g]? = some (.cells #[.int .u32 0,.int .i32 1,.int .u32 0,y3,y4] 92 (0,0))∧Q w' y3) :
 Calls Tryz.prog 49 #[.pointer (some ⟨g,0,none⟩),.func (.func 50) #[.pointer (some ⟨g,0,none⟩)] #[]] w fun e w'=>e=.returned (.tuple #[])∧∃ W y3 y4,Q W y3∧W.heap[g]? = some (.cells #[.int .u32 0,.int .i32 1,.int .u32 0,y3,y4] 92 (0,0))∧w'=(W.drew.setCell ⟨g,0,none⟩ (.int .u32 1)).setCell ⟨g,1,none⟩ (.int .i32 0):=by
 have hl:=run_call_load (P:=Tryz.prog) Tryz.func66 (by kernel_rfl) (by kernel_rfl) (by kernel_rfl) .u32 (by kernel_rfl) (w:=w) (a:=⟨g,0,none⟩) (x:=0) ((bc_ hb 0).trans rfl)
 have hnot:∀ (x:Bool) (w:World),(Op.unary .not (.bool x)).run Tryz.prog w=.ok (.bool (!x)) w:=fun _ _=>rfl
 have HS:=A_ (once_slow g x3 x4 w Q hb hF)
 clear hF hb
 go_enter Tryz.func49,Tryz.ntmps49
 go_wp2_with (first|(go_at_call 58;refine HS.out.mono ?_;rintro e w' ⟨rfl,hE⟩)|(go_at_call 57;go_in))
 go_end0
 exact ⟨rfl,hE⟩
/-! ### stringslite_HasPrefix: function 97 -/
def stringslite_HasPrefix.f (a0:ByteArray) (a1:ByteArray):Option (Bool):=if (a0.size:Int)≥(a1.size:Int) then (if 0≤(a1.size:Int) then (if (a1.size:Int)≤(a0.size:Int) then (some ((a0.extract 0 ((a1.size:Int):Int).toNat).toList == a1.toList)) else (none)) else (none)) else (some false)
set_option maxHeartbeats 8000000 in
set_option maxRecDepth 100000 in
theorem stringslite_HasPrefix.calls (a0:ByteArray) (a1:ByteArray) (r:Bool) (w:World) (h:stringslite_HasPrefix.f a0 a1=some r) :
 Calls Tryz.prog 97 #[.string a0,.string a1] w fun e w'=>e=.returned (.bool r)∧Drawn0 w w':=by
 have H:(if (a0.size:Int)≥(a1.size:Int) then (if 0≤(a1.size:Int) then (if (a1.size:Int)≤(a0.size:Int) then (some ((a0.extract 0 ((a1.size:Int):Int).toNat).toList == a1.toList)) else (none)) else (none)) else (some false))=some r:=h
 clear h
 by_cases c3:(a0.size:Int)≥(a1.size:Int)
 ·rw [if_pos c3] at H
  have c3b0:decide ((a1.size:Int)≤(a0.size:Int))=true:=dt_ c3
  have c3b1:decide (a1.size≤a0.size)=true:=dt_ (Int.ofNat_le.mp c3)
  clear c3
  by_cases c4:0≤(a1.size:Int)
  ·rw [if_pos c4] at H
   have c4b0:=eq_true c4
   have c4b1:decide (0≤(a1.size:Int))=true:=dt_ c4
   clear c4
   by_cases c5:(a1.size:Int)≤(a0.size:Int)
   ·rw [if_pos c5] at H
    have c5b0:=eq_true c5
    have c5b1:decide ((a1.size:Int)≤(a0.size:Int))=true:=dt_ c5
    clear c5
    obtain rfl:=oi_ H
    go_enter Tryz.func97,Tryz.ntmps97
    go_wp2
    go_ret
    exact ⟨by first|rfl|(simp;done)|(simp [*];done),by repeat (first|exact dr_ _|apply dp_)⟩
   ·rw [if_neg c5] at H
    exact absurd H (by simp)
  ·rw [if_neg c4] at H
   exact absurd H (by simp)
 ·rw [if_neg c3] at H
  have c3b0:decide ((a1.size:Int)≤(a0.size:Int))=false:=df_ c3
  have c3b1:decide (a1.size≤a0.size)=false:=df_ (fun h=>c3 (Int.ofNat_le.mpr h))
  clear c3
  obtain rfl:=oi_ H
  go_enter Tryz.func97,Tryz.ntmps97
  go_wp2
  go_ret
  exact ⟨by first|rfl|(simp;done)|(simp [*];done),by repeat (first|exact dr_ _|apply dp_)⟩
/-! ### strings_HasPrefix: function 88 -/
def strings_HasPrefix.f (a0:ByteArray) (a1:ByteArray):Option (Bool):=(stringslite_HasPrefix.f a0 a1).bind fun t175=>(some t175)
set_option maxHeartbeats 8000000 in
set_option maxRecDepth 100000 in
theorem strings_HasPrefix.calls (a0:ByteArray) (a1:ByteArray) (r:Bool) (w:World) (h:strings_HasPrefix.f a0 a1=some r) :
 Calls Tryz.prog 88 #[.string a0,.string a1] w fun e w'=>e=.returned (.bool r)∧Drawn0 w w':=by
 have H:((stringslite_HasPrefix.f a0 a1).bind fun t175=>(some t175))=some r:=h
 clear h
 replace H:=ob_ H
 obtain ⟨t175,A30,H⟩:=H
 replace H:(some t175)=some r:=H
 have A3:=A_ A30
 clear A30
 obtain rfl:=oi_ H
 go_enter Tryz.func88,Tryz.ntmps88
 go_wp2_with (first|((with_reducible refine gate_callee (f:=97) rfl ?_);refine goesL_ (some 7) rfl rfl Tryz.func97 (by kernel_rfl) rfl #[.string a0,.string a1] rfl (by (try simp only [List.map_toArray,List.map_cons,List.map_nil]);first|done|rfl|(simp only [ld_,lt_];rfl)) ?_;(with_reducible refine (stringslite_HasPrefix.calls a0 a1 t175 _ A3.out).mono ?_);rintro e w' ⟨rfl,⟨nd,rfl⟩⟩;refine ⟨_,rfl,?_⟩))
 go_ret
 exact ⟨by first|rfl|(simp;done)|(simp [*];done),by repeat (first|exact dr_ _|apply dp_)⟩
end Go.Proofs.YtpoaaomcpleebaaGreatDoor.PFnExactStartTag
