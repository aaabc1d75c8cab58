/- By a program of this session, out of the kit's print and contracts made by hand: the machine side of a law; Lean checks it. No conditions. -/
import Derived.Test.YtlpncjeahdfolaaGreatDoorPFnExactSerializex0
import Derived.Test.YtlpncjeahdfolaaGreatDoorPFnExactSerializex21
import Derived.Test.YtlpncjeahdfolaaGreatDoorPFnExactSerializex22
namespace Go.Proofs.YtlpncjeahdfolaaGreatDoor.PFnExactSerialize
open Go.RowKit Go.Proofs.YtlpncjeahdfolaaGreatDoorW.PrintWords Go.Proofs.YtlpncjeahdfolaaGreatDoorW.PrintLast Go.Proofs.YtlpncjeahdfolaaGreatDoorW.PrintMore
attribute [local go_sem] max2_int min2_int max_two min_two max_three min_three max_four min_four
set_option linter.unusedVariables false
set_option linter.unusedSimpArgs false
/-! ### impl_escapeText: function 25, by hand -/
theorem run_build_rep (A:Option Addr) (n c:Nat) (w:World):(Instr.build 91 #[(2,.slice A n c)]).run Tryz.prog w=.ok (.agg #[.int .u32 0,.int .i32 0,.int .u32 0,.nilIface,.slice A n c]) w:=by kernel_rfl
theorem six_at (W:World) (b:Nat) (rest:Array Value) (h:W.heap[b]? = some (.cells (#[.string ⟨#[38]⟩,.string ⟨#[38,97,109,112,59]⟩,.string ⟨#[60]⟩,.string ⟨#[38,108,116,59]⟩,.string ⟨#[62]⟩,.string ⟨#[38,103,116,59]⟩]++rest) 9 (0,0))):∀ i,i<6→W.cell? ⟨b,i,none⟩=some (.string (escN.getD i ByteArray.empty)):=by
 intro i hi
 rw [bc_ h]
 rcases (show i=0∨i=1∨i=2∨i=3∨i=4∨i=5 by omega) with rfl|rfl|rfl|rfl|rfl|rfl <;> (rw [Array.getElem?_append_left (by simp)];rfl)
theorem append_six (w:World) (b:Nat) (hb:w.heap[b]? = some (.cells #[.string ⟨#[38]⟩,.string ⟨#[38,97,109,112,59]⟩,.string ⟨#[60]⟩,.string ⟨#[38,108,116,59]⟩,.string ⟨#[62]⟩,.string ⟨#[38,103,116,59]⟩] 9 (0,0))) :
 ∃ W c,(∀ ty,(Builtin.append_ #[65,65] ty #[.slice none 0 0,.slice (some ⟨b,0,none⟩) 6 6]).run Tryz.prog w=.ok (.slice (some ⟨w.heap.size,0,none⟩) 6 c) W)∧(∀ i,i<6→W.cell? ⟨w.heap.size,i,none⟩=some (.string (escN.getD i ByteArray.empty)))∧W.heap.size=w.heap.size+1∧Below w.heap.size w W:=by
 obtain ⟨i0,hi0,hz0⟩:=Option.map_eq_some_iff.1 (show (Tryz.prog.info? 9).map (fun i=>(i.zero,i.size,i.bytes))=some (some (.string ⟨#[]⟩),1,16) by kernel_rfl)
 simp only [Prod.mk.injEq] at hz0
 obtain ⟨h1,h2,h3⟩:=hz0
 have hr:=fun ty=>run_append_nil (P:=Tryz.prog) w 65 ty 9 i0 (.string ⟨#[]⟩) Tryz.underlying65 hi0 h1 ⟨b,0,none⟩ 6 6 [.string ⟨#[38]⟩,.string ⟨#[38,97,109,112,59]⟩,.string ⟨#[60]⟩,.string ⟨#[38,108,116,59]⟩,.string ⟨#[62]⟩,.string ⟨#[38,103,116,59]⟩] (by rw [h2];rfl) (fun j v hj=>by
  rw [add_plain,bc_ hb]
  first|simpa using hj|(rw [←hj];simp)) (by omega) (by omega) (by rw [h3];omega)
 refine ⟨_,_,hr,?_,by rw [World.size_alloc];rfl,(Below.refl _ _).drew.alloc (Nat.le_refl _) _⟩
 exact six_at _ _ _ (blk_new w.drew _)
set_option maxHeartbeats 8000000 in
set_option maxRecDepth 1000000 in
theorem newReplacer_calls (b:Nat) (w:World) (hb:w.heap[b]? = some (.cells #[.string ⟨#[38]⟩,.string ⟨#[38,97,109,112,59]⟩,.string ⟨#[60]⟩,.string ⟨#[38,108,116,59]⟩,.string ⟨#[62]⟩,.string ⟨#[38,103,116,59]⟩] 9 (0,0))) :
 Calls Tryz.prog 38 #[.slice (some ⟨b,0,none⟩) 6 6] w fun e w'=>∃ g a c,e=.returned (.pointer (some ⟨g,0,none⟩))∧w'.heap[g]? = some (.cells #[.int .u32 0,.int .i32 0,.int .u32 0,.nilIface,.slice (some ⟨a,0,none⟩) 6 c] 91 (0,0))∧(∀ i,i<6→w'.cell? ⟨a,i,none⟩=some (.string (escN.getD i ByteArray.empty)))∧a≠g∧w.heap.size≤g∧Below w.heap.size w w':=by
 obtain ⟨W,c,hap,h6,hsz,hbl⟩:=append_six w b hb
 have H6:=A_ h6
 have HBL:=A_ hbl
 have HSZ:=A_ hsz
 have hbd:=run_build_rep
 clear h6 hbl hb hsz
 go_enter Tryz.func38,Tryz.ntmps38
 go_wp2_with ((with_reducible refine gate_builtin (b:=.append) (xs:=#[.const (.slice none 0 0),.tmp 8]) rfl ?_);refine append_event rfl (.const (.slice none 0 0)) (.tmp 8) #[65,65] rfl rfl rfl hap ?_)
 go_ret
 have hlt:=HSZ.out
 refine ⟨W.heap.size,w.heap.size,c,rfl,blk_new W _,fun i hi=>(((Below.refl W.heap.size W).alloc (Nat.le_refl _) _).cell (p:=⟨w.heap.size,i,none⟩) (by show w.heap.size<W.heap.size;omega)).trans (H6.out i hi),by omega,by omega,HBL.out.alloc (by omega) _⟩
def impl_escapeText.f (a0:ByteArray):Option ByteArray:=if a0.size≤1099511627776 then some (escT a0) else none
set_option maxHeartbeats 8000000 in
set_option maxRecDepth 1000000 in
theorem impl_escapeText.calls (a0:ByteArray) (r:ByteArray) (w:World) (h:impl_escapeText.f a0=some r) :
 Calls Tryz.prog 25 #[.string a0] w fun e w'=>e=.returned (.string r)∧Below w.heap.size w w':=by
 unfold impl_escapeText.f at h
 obtain ⟨hn,h⟩:=Option.ite_none_right_eq_some.mp h
 obtain rfl:=oi_ h
 have HN:=A_ (newReplacer_calls w.heap.size (w.alloc (.cells #[.string ⟨#[38]⟩,.string ⟨#[38,97,109,112,59]⟩,.string ⟨#[60]⟩,.string ⟨#[38,108,116,59]⟩,.string ⟨#[62]⟩,.string ⟨#[38,103,116,59]⟩] 9 (0,0))) (blk_new w _))
 have HB0:Aside0 (Below w.heap.size w (w.alloc (.cells #[.string ⟨#[38]⟩,.string ⟨#[38,97,109,112,59]⟩,.string ⟨#[60]⟩,.string ⟨#[38,108,116,59]⟩,.string ⟨#[62]⟩,.string ⟨#[38,103,116,59]⟩] 9 (0,0)))):=⟨(Below.refl _ _).alloc (Nat.le_refl _) _⟩
 have HS0:Aside0 ((w.alloc (.cells #[.string ⟨#[38]⟩,.string ⟨#[38,97,109,112,59]⟩,.string ⟨#[60]⟩,.string ⟨#[38,108,116,59]⟩,.string ⟨#[62]⟩,.string ⟨#[38,103,116,59]⟩] 9 (0,0))).heap.size=w.heap.size+1):=⟨World.size_alloc _ _⟩
 go_enter Tryz.func25,Tryz.ntmps25
 go_wp2_with (first|(go_at_call 38;(with_reducible refine HN.out.mono ?_);rintro e w2 ⟨g,a,c,rfl,hg,hs,hag,hlo,hb2⟩;(have HR:=A_ (replace_calls g a c w.heap.size w2 w a0 hn hg hs hag (by have:=HS0.out;omega) (HB0.out.trans (hb2.mono HB0.out.size))));clear hg hs hb2)|(go_at_call 39;(with_reducible refine HR.out.mono ?_);rintro e w3 ⟨rfl,hb3⟩;(have HB3:=A_ hb3);clear hb3))
 go_ret
 exact ⟨rfl,HB3.out⟩
/-! ### strings_ReplaceAll: function 52, by hand -/
/-- Each byte c of a text replaced by a text. -/
def repB (c:UInt8) (new:List UInt8) (l:List UInt8):List UInt8:=l.flatMap fun b=>if b=c then new else [b]
theorem repB_append (c:UInt8) (new a b:List UInt8):repB c new (a++b)=repB c new a++repB c new b:=by simp [repB]
theorem repB_none (c:UInt8) (new:List UInt8):∀ l:List UInt8,l.count c=0→repB c new l=l
 | [],_=>rfl
 | b :: l,h=>by
  rw [List.count_cons] at h
  have hb:¬ b=c:=fun e=>by simp [e] at h
  have:=repB_none c new l (by omega)
  unfold repB at this ⊢
  rw [List.flatMap_cons,this,if_neg hb]
  rfl
theorem repB_len (c:UInt8) (new:List UInt8):∀ l:List UInt8,(repB c new l).length+l.count c=l.length+l.count c * new.length
 | []=>by simp [repB]
 | b :: l=>by
  have:=repB_len c new l
  unfold repB at this ⊢
  rw [List.flatMap_cons,List.length_append,List.count_cons,List.length_cons]
  by_cases h:b=c
  ·rw [if_pos h,if_pos (by simpa using h),Nat.add_mul]
   omega
  ·rw [if_neg h,if_neg (by simpa using h),List.length_singleton,Nat.add_zero]
   omega
theorem indexByte_cut (c:UInt8):∀ l:List UInt8,0<l.count c→∃ j:Nat,Lib.indexByte l c=(j:Int)∧j<l.length∧(l.take j).count c=0∧l.drop j=c :: l.drop (j+1)
 | [],h=>by simp at h
 | b :: l,h=>by
  by_cases e:b=c
  ·subst e
   exact ⟨0,by simp [Lib.indexByte],by simp,by simp,by simp⟩
  ·have hc:0<l.count c:=by rw [List.count_cons,if_neg (by simpa using e)] at h;omega
   obtain ⟨j,h1,h2,h3,h4⟩:=indexByte_cut c l hc
   refine ⟨j+1,?_,by simpa using h2,?_,by simpa using h4⟩
   ·unfold Lib.indexByte
    rw [if_neg (by simpa using e),if_neg (by rw [h1];simp),h1]
    push_cast
    rfl
   ·rw [List.take_succ_cons,List.count_cons,h3,if_neg (by simpa using e)]
theorem drop_cut {l:List UInt8} {c:UInt8} {st j:Nat} (h1:st+j<l.length) (h:(l.drop st).drop j=c :: (l.drop st).drop (j+1)) (new:List UInt8) (h3:((l.drop st).take j).count c=0) :
 repB c new (l.take (st+j+1))=repB c new (l.take st)++(l.drop st).take j++new:=by
 have e:l.take (st+j+1)=l.take st++((l.drop st).take j++[c]):=by
  rw [List.drop_drop,List.drop_eq_getElem_cons h1] at h
  have hc:l[st+j]=c:=(List.cons.inj h).1
  rw [List.take_add_one,List.getElem?_eq_getElem h1,hc,List.take_add]
  first|done|simp
 rw [e,repB_append,repB_append,repB_none c new _ h3]
 simp [repB]
theorem count_cut {l:List UInt8} {c:UInt8} {st j:Nat} (h:(l.drop st).drop j=c :: (l.drop st).drop (j+1)) (h3:((l.drop st).take j).count c=0):(l.drop st).count c=1+(l.drop (st+j+1)).count c:=by
 have e:l.drop st=(l.drop st).take j++(c :: (l.drop st).drop (j+1)):=by rw [←h,List.take_append_drop]
 rw [e,List.count_append,h3,List.count_cons,if_pos (by simp),List.drop_drop]
 have:st+j+1=st+(j+1):=by omega
 rw [this]
 omega
theorem write_one (B b:Nat) (bs:List Value) (s:ByteArray) (w:World) (h:Lib.IsBuilder 50 5 B b bs w) (hlen:bs.length+s.size≤140737488355328) (hBw:B≤w.heap.size) :
 Calls Tryz.prog 24 #[.pointer (some ⟨b,0,none⟩),.string s] w fun e w'=>e=.returned (.tuple #[.int .i64 s.size,.nilIface])∧Lib.IsBuilder 50 5 B b (bs++Lib.strCells s) w'∧Below B w w' :=
 (Any.Builder_WriteString (P:=Tryz.prog) (ρ := Tryz.lays154_ren) { Tryz.lays154 with } Tryz.Builder_Extra_154 B b bs s w h hlen hBw).mono fun _ _ ⟨h1,h2,h3⟩=>⟨h1,Or.inr h2,h3⟩
theorem grow_one (B b n:Nat) (w:World) (hB:B≤b) (hbk:w.heap[b]? = some (.cells #[.pointer none,.slice none 0 0] 50 (0,0))) (hBw:B≤w.heap.size) (hn:n≤281474976710656) :
 Calls Tryz.prog 80 #[.pointer (some ⟨b,0,none⟩),.int .i64 n] w fun e w'=>e=.returned (.tuple #[])∧Lib.IsBuilder 50 5 B b (Lib.byteCells []) w'∧Below B w w' :=
 (Any.Builder_Grow_fresh (P:=Tryz.prog) (ρ := Tryz.lays154_ren) { Tryz.lays154 with } Tryz.Builder_Extra_154 B b n w hB hbk hBw hn).mono fun _ _ ⟨h1,h2,h3⟩=>⟨h1,Or.inr h2,h3⟩
theorem text_one (B b:Nat) (l:List UInt8) (w:World) (h:Lib.IsBuilder 50 5 B b (Lib.byteCells l) w) (hBw:B≤w.heap.size) :
 Calls Tryz.prog 29 #[.pointer (some ⟨b,0,none⟩)] w fun e w'=>e=.returned (.string ⟨l.toArray⟩)∧Below B w w' :=
 Any.Builder_String_any (P:=Tryz.prog) (ρ := Tryz.lays154_ren) { Tryz.lays154 with } Tryz.Builder_Extra_154 B b l w h hBw
theorem index_one (s:ByteArray) (c:UInt8) (w:World):Calls Tryz.prog 81 #[.string s,.string ⟨#[c]⟩] w fun e w'=>e=.returned (.int .i64 (Lib.indexByte s.data.toList c))∧w'=w :=
 Any.strings_Index_one (P:=Tryz.prog) (ρ := Tryz.lays154_ren) { Tryz.lays154 with } s c w
theorem count_one2 (s:ByteArray) (c:UInt8) (w:World):Calls Tryz.prog 79 #[.string s,.string ⟨#[c]⟩] w fun e w'=>e=.returned (.int .i64 (Lib.countByte s.data.toList c))∧w'=w :=
 Any.strings_Count_one (P:=Tryz.prog) (ρ := Tryz.lays154_ren) { Tryz.lays154 with } s c w
set_option maxHeartbeats 16000000 in
set_option maxRecDepth 1000000 in
theorem replace_one (s old:ByteArray) (c:UInt8) (hold:old=⟨#[c]⟩) (new:ByteArray) (w:World) (hs:s.size≤8796093022208) (hn2:new.size≤8) (hne:old≠new) :
 Calls Tryz.prog 65 #[.string s,.string old,.string new,.int .i64 (-1)] w fun e w'=>e=.returned (.string ⟨(repB c new.data.toList s.data.toList).toArray⟩)∧Below w.heap.size w w':=by
 have hbeq:(old.toList == new.toList)=false:=(Lib.bytes_beq_false_iff _ new).2 hne
 have ho1:old.size=1:=by rw [hold];rfl
 have HC:Aside0 (Calls Tryz.prog 79 #[.string s,.string old] w fun e w'=>e=.returned (.int .i64 (Lib.countByte s.data.toList c))∧w'=w):=⟨by rw [hold];exact count_one2 s c w⟩
 have HI:Aside0 (∀ (x:ByteArray) (W:World),Calls Tryz.prog 81 #[.string x,.string old] W fun e w'=>e=.returned (.int .i64 (Lib.indexByte x.data.toList c))∧w'=W):=⟨by rw [hold];exact fun x W=>index_one x c W⟩
 have hcl:Lib.countByte s.data.toList c≤s.size:=by
  unfold Lib.countByte
  have:=List.count_le_length (a:=c) (l:=s.data.toList)
  rwa [data_length] at this
 obtain ⟨K,hK⟩:∃ K,Lib.countByte s.data.toList c=K:=⟨_,rfl⟩
 have HK:=A_ hK
 rw [hK] at HC hcl
 clear hK hold hne
 by_cases hK0:K=0
 ·subst hK0
  go_enter Tryz.func65,Tryz.ntmps65
  go_wp2_with (go_at_call 79;(with_reducible refine HC.out.mono ?_);rintro e w2 ⟨rfl,rfl⟩)
  go_ret
  refine ⟨?_,Below.refl _ _⟩
  rw [repB_none c _ _ HK.out,Lib.mk_data]
  rfl
 ·have hcz:((K:Int) == 0)=false:=beq_eq_false_iff_ne.2 (by omega)
  have hb0:=Nat.mul_le_mul hcl hn2
  have hga:=Lib.grow_arg s.size K new.size 1 (by omega) (by omega) (by omega)
  have e1:wrap64 ((new.size:Int) - ((1:Nat):Int))=(new.size:Int) - 1:=IntWalk.wrap64_in _ ⟨by omega,by omega⟩
  rw [e1,Nat.mul_one] at hga
  have hod:decide (0<old.size)=true:=dt_ (by omega)
  have HL0:Aside0 (∀ k,k≤s.size→(repB c new.data.toList (s.data.toList.take k)).length≤s.size+8 * s.size):=⟨fun k hk=>by
   have h1:=repB_len c new.data.toList (s.data.toList.take k)
   have h3:(s.data.toList.take k).length≤s.size:=by rw [lt_,data_length];omega
   have h2:=List.count_le_length (a:=c) (l:=s.data.toList.take k)
   have h4:=Nat.mul_le_mul (Nat.le_trans h2 h3) hn2
   have h5:new.data.toList.length=new.size:=data_length new
   rw [h5] at h1
   omega⟩
  have HG:=A_ (grow_one w.heap.size w.heap.size (s.size+K * new.size - K) (w.alloc (.cells #[.pointer none,.slice none 0 0] 50 (0,0))) (Nat.le_refl _) (blk_new w _) (by rw [World.size_alloc];omega) (by omega))
  have HA:Aside0 (Below w.heap.size w (w.alloc (.cells #[.pointer none,.slice none 0 0] 50 (0,0)))):=⟨(Below.refl _ _).alloc (Nat.le_refl _) _⟩
  clear hb0 e1
  go_enter Tryz.func65,Tryz.ntmps65
  go_wp2_with (first|(go_at_call 79;(with_reducible refine HC.out.mono ?_);rintro e w2 ⟨rfl,hw2⟩;subst hw2)|(go_at_call 80;(with_reducible refine HG.out.mono ?_);rintro e w3 ⟨rfl,hb3,hbl⟩;(have H3:=A_ hb3);(have HB3:=A_ (HA.out.trans hbl));clear hb3 hbl))
  go_loopg [11,53] K (fun g s11 s53 wx=>∃ i start:Nat,s53=.int .i64 i∧s11=.int .i64 start∧i+g=K∧start≤s.size∧Aside0 (Lib.IsBuilder 50 5 w2.heap.size w2.heap.size (Lib.byteCells (repB c new.data.toList (s.data.toList.take start))) wx)∧Aside0 (Below w2.heap.size w2 wx)∧Aside0 ((s.data.toList.drop start).count c=g))
  case atStart=>exact ⟨0,0,rfl,rfl,by omega,Nat.zero_le _,H3,HB3,⟨by rw [List.drop_zero];exact HK.out⟩⟩
  case round =>
   obtain ⟨i,start,rfl,rfl,hig,hst,HB,HW,HR⟩:=hrel
   clear H3 HB3
   have hBw:w2.heap.size≤wr.heap.size:=HW.out.size
   have c1:(0:Int)≤(start:Int):=by omega
   have c2:(start:Int)≤(s.size:Int):=by omega
   have hl0:=HL0.out start hst
   cases gk with
   | zero =>
    have hiK:¬ ((i:Int)<(K:Int)):=by omega
    have hx:(s.extract start s.size).size=s.size - start:=by rw [ByteArray.size_extract];omega
    have HX:=A_ (write_one w2.heap.size w2.heap.size _ (s.extract start s.size) wr HB.out (by rw [Lib.byteCells_length,hx];omega) hBw)
    clear hx
    go_wp2_with (first|(go_at_call 24;(with_reducible refine HX.out.mono ?_);rintro e w3 ⟨rfl,h3,hb3⟩;rw [Lib.strCells_eq,Lib.extract_to_end,←Lib.byteCells_append] at h3;(have HB5:=A_ (HW.out.trans hb3));(have HT:=A_ (text_one w2.heap.size w2.heap.size _ w3 h3 HB5.out.size));clear h3 hb3)|(go_at_call 29;(with_reducible refine HT.out.mono ?_);rintro e w5 ⟨rfl,hb5⟩;(have HB6:=A_ (HB5.out.trans hb5));clear hb5))
    go_ret
    refine ⟨?_,HB6.out⟩
    have e2:repB c new.data.toList s.data.toList=repB c new.data.toList (s.data.toList.take start)++s.data.toList.drop start:=by
     have e3:=repB_append c new.data.toList (s.data.toList.take start) (s.data.toList.drop start)
     rw [List.take_append_drop,repB_none c _ (s.data.toList.drop start) HR.out] at e3
     exact e3
    rw [e2]
    rfl
   | succ g =>
    have hiK:(i:Int)<(K:Int):=by omega
    obtain ⟨j,hj,hjl,hj0,hjd⟩:=indexByte_cut c (s.data.toList.drop start) (by rw [HR.out];omega)
    rw [ld_,data_length] at hjl
    have c3:(start:Int)≤(start:Int)+(j:Int):=by omega
    have c4:(start:Int)+(j:Int)≤(s.size:Int):=by omega
    have hl1:=HL0.out (start+j+1) (by omega)
    have hnext:=drop_cut (l:=s.data.toList) (by rw [data_length];omega) hjd new.data.toList hj0
    have hcnt:=count_cut (l:=s.data.toList) hjd hj0
    rw [HR.out] at hcnt
    have HN:=A_ hnext
    have HCN:=A_ hcnt
    have hx:(s.extract start (start+j)).size=j:=by rw [ByteArray.size_extract];omega
    have hlx:(repB c new.data.toList (s.data.toList.take (start+j+1))).length=(repB c new.data.toList (s.data.toList.take start)).length+j+new.size:=by
     rw [hnext,List.length_append,List.length_append,lt_,ld_,data_length,data_length]
     omega
    have HX:=A_ (write_one w2.heap.size w2.heap.size _ (s.extract start (start+j)) wr HB.out (by rw [Lib.byteCells_length,hx];omega) hBw)
    have HI2:Aside0 (Calls Tryz.prog 81 #[.string (s.extract start s.size),.string old] wr fun e w'=>e=.returned (.int .i64 j)∧w'=wr):=⟨by rw [←hj,←Lib.extract_to_end];exact HI.out _ wr⟩
    have HXL:Aside0 ((Lib.byteCells (repB c new.data.toList (s.data.toList.take start))++Lib.strCells (s.extract start (start+j))).length+new.size≤140737488355328):=⟨by rw [List.length_append,Lib.byteCells_length,Lib.strCells_eq,Lib.byteCells_length,data_length,hx];omega⟩
    have HXE:Aside0 (Lib.byteCells (repB c new.data.toList (s.data.toList.take start))++Lib.strCells (s.extract start (start+j))++Lib.strCells new=Lib.byteCells (repB c new.data.toList (s.data.toList.take (start+j+1)))):=⟨by
     rw [hnext,Lib.strCells_eq,Lib.strCells_eq,Lib.extract_data,Nat.add_sub_cancel_left,←Lib.byteCells_append,←Lib.byteCells_append]⟩
    clear hnext hcnt hx hlx hl0 hl1 hj hj0 hjd HR
    go_wp2_with (first|(go_at_call 81;(with_reducible refine HI2.out.mono ?_);rintro e w3 ⟨rfl,hw3⟩;subst hw3)|(go_at_call 24;(with_reducible refine HX.out.mono ?_);rintro e w4 ⟨rfl,h3,hb3⟩;(have HB5:=A_ (HW.out.trans hb3));(have HX2:=A_ (write_one w2.heap.size w2.heap.size _ new w4 h3 HXL.out HB5.out.size));clear h3 hb3 HX)|(go_at_call 24;(with_reducible refine HX2.out.mono ?_);rintro e w6 ⟨rfl,h6,hb6⟩;rw [HXE.out] at h6;(have H6:=A_ h6);(have HB7:=A_ (HB5.out.trans hb6));clear h6 hb6))
    go_roundg g
    case measure=>omega
    case rel=>exact ⟨i+1,start+j+1,by go_num,by go_num,by omega,by omega,H6,HB7,⟨by have:=HCN.out;omega⟩⟩
def strings_ReplaceAll.f (a0 a1 a2:ByteArray):Option ByteArray:=match a1.data.toList with | [c]=>if a0.size≤8796093022208∧a2.size≤8∧2≤a2.size then some ⟨(repB c a2.data.toList a0.data.toList).toArray⟩ else none|_=>none
set_option maxHeartbeats 8000000 in
set_option maxRecDepth 1000000 in
theorem strings_ReplaceAll.calls (a0 a1 a2:ByteArray) (r:ByteArray) (w:World) (h:strings_ReplaceAll.f a0 a1 a2=some r) :
 Calls Tryz.prog 52 #[.string a0,.string a1,.string a2] w fun e w'=>e=.returned (.string r)∧Below w.heap.size w w':=by
 unfold strings_ReplaceAll.f at h
 rcases a1 with ⟨⟨l⟩⟩
 cases l with
 | nil=>cases h
 | cons c l =>
  cases l with
  | cons _ _=>cases h
  | nil =>
   obtain ⟨⟨h1,h2,h3⟩,h⟩:=Option.ite_none_right_eq_some.mp h
   obtain rfl:=oi_ h
   have HR:=A_ (replace_one a0 ⟨#[c]⟩ c rfl a2 w h1 h2 (fun e=>by rw [←e] at h3;exact absurd h3 (by show ¬ (2≤1);omega)))
   clear h h1 h2 h3
   generalize (⟨#[c]⟩:ByteArray)=old at *
   go_enter Tryz.func52,Tryz.ntmps52
   go_wp2_with (go_at_call 65;(with_reducible refine HR.out.mono ?_);rintro e w2 ⟨rfl,hb2⟩;(have HB2:=A_ hb2);clear hb2)
   go_ret
   exact ⟨rfl,HB2.out⟩
/-! ### impl_escapeValue: function 41 -/
def impl_escapeValue.f (a0:ByteArray):Option (ByteArray):=(impl_escapeText.f a0).bind fun t230=>((strings_ReplaceAll.f t230 (⟨#[34]⟩:ByteArray) (⟨#[38,113,117,111,116,59]⟩:ByteArray)).bind fun t231=>(some t231))
set_option maxHeartbeats 8000000 in
set_option maxRecDepth 100000 in
theorem impl_escapeValue.calls (a0:ByteArray) (r:ByteArray) (w:World) (h:impl_escapeValue.f a0=some r) :
 Calls Tryz.prog 41 #[.string a0] w fun e w'=>e=.returned (.string r)∧Below w.heap.size w w':=by
 have HB:=A_ (Below.refl w.heap.size w)
 have H:((impl_escapeText.f a0).bind fun t230=>((strings_ReplaceAll.f t230 (⟨#[34]⟩:ByteArray) (⟨#[38,113,117,111,116,59]⟩:ByteArray)).bind fun t231=>(some t231)))=some r:=h
 clear h
 replace H:=ob_ H
 obtain ⟨t230,A20,H⟩:=H
 replace H:((strings_ReplaceAll.f t230 (⟨#[34]⟩:ByteArray) (⟨#[38,113,117,111,116,59]⟩:ByteArray)).bind fun t231=>(some t231))=some r:=H
 have A2:=A_ A20
 clear A20
 replace H:=ob_ H
 obtain ⟨t231,A30,H⟩:=H
 replace H:(some t231)=some r:=H
 have A3:=A_ A30
 clear A30
 obtain rfl:=oi_ H
 go_enter Tryz.func41,Tryz.ntmps41
 go_wp2_with (first|((with_reducible refine gate_callee (f:=25) rfl ?_);refine goesL_ (some 4) rfl rfl Tryz.func25 (by kernel_rfl) rfl #[.string a0] rfl (by (try simp only [List.map_toArray,List.map_cons,List.map_nil]);first|done|rfl|(simp only [ld_,lt_];rfl)) ?_;(with_reducible refine (impl_escapeText.calls a0 t230 _ A2.out).mono ?_);rintro e w4 ⟨rfl,hb⟩;refine ⟨_,rfl,?_⟩;have n0_:=A_ (bp_ (by repeat (first|(with_reducible first|exact HB.out|apply ba_|apply pd_|apply b1_)|exact HB.out)) hb);clear HB;have HB:=n0_;clear n0_;(try clear hb);(try clear hb2);(try clear hk);(try clear hi))|((with_reducible refine gate_callee (f:=52) rfl ?_);refine goesL_ (some 5) rfl rfl Tryz.func52 (by kernel_rfl) rfl #[.string t230,.string (⟨#[34]⟩:ByteArray),.string (⟨#[38,113,117,111,116,59]⟩:ByteArray)] rfl (by (try simp only [List.map_toArray,List.map_cons,List.map_nil]);first|done|rfl|(simp only [ld_,lt_];rfl)) ?_;(with_reducible refine (strings_ReplaceAll.calls t230 (⟨#[34]⟩:ByteArray) (⟨#[38,113,117,111,116,59]⟩:ByteArray) t231 _ A3.out).mono ?_);rintro e w5 ⟨rfl,hb⟩;refine ⟨_,rfl,?_⟩;have n0_:=A_ (bp_ (by repeat (first|(with_reducible first|exact HB.out|apply ba_|apply pd_|apply b1_)|exact HB.out)) hb);clear HB;have HB:=n0_;clear n0_;(try clear hb);(try clear hb2);(try clear hk);(try clear hi)))
 go_ret
 exact ⟨by first|rfl|(simp [errW_none,errW_some] <;> rfl)|(simp [*,errW_none,errW_some] <;> rfl),by repeat (first|(with_reducible first|exact HB.out|apply ba_|apply pd_|apply b1_)|exact HB.out)⟩
end Go.Proofs.YtlpncjeahdfolaaGreatDoor.PFnExactSerialize
