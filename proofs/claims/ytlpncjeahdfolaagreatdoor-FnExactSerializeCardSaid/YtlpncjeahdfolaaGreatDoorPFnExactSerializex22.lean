/- By a program of this session, out of the kit's print and contracts made by hand: the machine side of a law; Lean checks it. No conditions. -/
import Derived.Test.YtlpncjeahdfolaaGreatDoorPFnExactSerializex0
import Derived.Test.YtlpncjeahdfolaaGreatDoorPFnExactSerializex19
import Derived.Test.YtlpncjeahdfolaaGreatDoorPFnExactSerializex21
namespace Go.Proofs.YtlpncjeahdfolaaGreatDoor.PFnExactSerialize
open Go.RowKit Go.Proofs.YtlpncjeahdfolaaGreatDoorW.PrintWords Go.Proofs.YtlpncjeahdfolaaGreatDoorW.PrintLast Go.Proofs.YtlpncjeahdfolaaGreatDoorW.PrintMore
attribute [local go_sem] max2_int min2_int max_two min_two max_three min_three max_four min_four
set_option linter.unusedVariables false
set_option linter.unusedSimpArgs false
/-! ### strings_Replace: function 39, by hand -/
/-- What stands for a byte in a text: nothing where it stands for itself. -/
def escL (b:UInt8):List UInt8:=if b=62 then [38,103,116,59] else if b=60 then [38,108,116,59] else if b=38 then [38,97,109,112,59] else []
def escF (b:UInt8):List UInt8:=if escL b=[] then [b] else escL b
def escG (l:List UInt8):Nat:=(l.map (fun b=>(escL b).length - 1)).sum
def escT (s:ByteArray):ByteArray:=⟨(s.data.toList.flatMap escF).toArray⟩
theorem escF_len (b:UInt8):(escF b).length=1+((escL b).length - 1):=by
 unfold escF
 by_cases h:escL b=[]
 ·rw [if_pos h,h];rfl
 ·rw [if_neg h]
  have:=List.length_pos_iff.2 h
  omega
theorem flat_len:∀ l:List UInt8,(l.flatMap escF).length=l.length+escG l
 | []=>rfl
 | b :: l=>by
  rw [List.flatMap_cons,List.length_append,flat_len l,escF_len,List.length_cons]
  simp only [escG,List.map_cons,List.sum_cons]
  omega
theorem escL_le (b:UInt8):(escL b).length≤5:=by
 unfold escL
 split <;> (try split) <;> (try split) <;> simp
theorem escL_pos {b:UInt8} (h:escL b≠[]):2≤(escL b).length:=by
 unfold escL at h ⊢
 split <;> (try split) <;> (try split) <;> simp_all
theorem escG_cons (b:UInt8) (l:List UInt8):escG (b :: l)=((escL b).length - 1)+escG l:=by simp [escG]
theorem escG_append (a b:List UInt8):escG (a++b)=escG a+escG b:=by simp [escG]
theorem escG_le:∀ l:List UInt8,escG l≤4 * l.length
 | []=>Nat.zero_le _
 | b :: l=>by
  have h1:=escL_le b
  have h2:=escG_le l
  rw [escG_cons,List.length_cons]
  omega
theorem flat_none:∀ l:List UInt8,escG l=0→l.flatMap escF=l
 | [],_=>rfl
 | b :: l,h=>by
  rw [escG_cons] at h
  rw [List.flatMap_cons,flat_none l (by omega)]
  by_cases he:escL b=[]
  ·unfold escF
   rw [if_pos he]
   rfl
  ·have:=escL_pos he
   omega
theorem escG_cnt:∀ l:List UInt8,escG l=Lib.countByte l 62 * 3+Lib.countByte l 60 * 3+Lib.countByte l 38 * 4
 | []=>rfl
 | b :: l=>by
  rw [escG_cons,escG_cnt l]
  unfold Lib.countByte
  simp only [List.count_cons]
  by_cases h1:b=62
  ·subst h1
   simp [escL]
   omega
  ·by_cases h2:b=60
   ·subst h2
    simp [escL]
    omega
   ·by_cases h3:b=38
    ·subst h3
     simp [escL]
     omega
    ·have e:escL b=[]:=by unfold escL;rw [if_neg h1,if_neg h2,if_neg h3]
     rw [e]
     simp [h1,h2,h3]
theorem take_at {l:List UInt8} {k:Nat} {b:UInt8} (h:l[k]? = some b):l.take (k+1)=l.take k++[b]:=by
 rw [List.take_add_one,h]
 rfl
theorem flat_step {l:List UInt8} {k:Nat} {b:UInt8} (h:l[k]? = some b):(l.take (k+1)).flatMap escF=(l.take k).flatMap escF++escF b:=by
 rw [take_at h,List.flatMap_append]
 simp
theorem flat_fit {s:ByteArray} {k:Nat} {b:UInt8} (h:s.data.toList[k]? = some b):((s.data.toList.take k).flatMap escF).length+(escF b).length≤s.size+escG s.data.toList:=by
 have h1:=flat_len s.data.toList
 have h2:=flat_step h
 have h3:(s.data.toList.take (k+1)++s.data.toList.drop (k+1)).flatMap escF=s.data.toList.flatMap escF:=by rw [List.take_append_drop]
 rw [List.flatMap_append,h2] at h3
 have h4:=congrArg List.length h3
 rw [List.length_append,List.length_append,h1,data_length] at h4
 omega
theorem byte_at (s:ByteArray) (k:Nat) (hk:k<s.size):∃ b,s.data.toList[k]? = some b∧∀ h,s[k]'h=b:=by
 have h:k<s.data.toList.length:=by rw [data_length];exact hk
 exact ⟨s.data.toList[k],List.getElem?_eq_getElem h,fun _=>rfl⟩
/-- The cells of the table, for every byte. -/
def tabR (W:World) (H H0:Nat):Prop:=(∀ b:UInt8,(escL b=[]∧W.cell? ⟨H,b.toNat,none⟩=some (.slice none 0 0))∨∃ x c,escL b≠[]∧W.cell? ⟨H,b.toNat,none⟩=some (.slice (some ⟨x,0,none⟩) (escL b).length c)∧(x<W.heap.size∧H0<x)∧∀ (i:Nat) y,(escL b)[i]? = some y→W.cell? ⟨x,i,none⟩=some (.int .u8 (y.toNat:Int)))∧W.cell? ⟨H,256,none⟩=some (.slice (some ⟨H0,0,none⟩) 3 3)∧W.cell? ⟨H0,0,none⟩=some (.string ⟨#[62]⟩)∧W.cell? ⟨H0,1,none⟩=some (.string ⟨#[60]⟩)∧W.cell? ⟨H0,2,none⟩=some (.string ⟨#[38]⟩)∧H<W.heap.size∧H0<H
theorem bt_cell {l:List UInt8} {i:Nat} {y:UInt8} (h:l[i]? = some y):bt ⟨l.toArray⟩ (i:Int)=(y.toNat:Int):=by
 obtain ⟨hl,he⟩:=List.getElem?_eq_some_iff.1 h
 have h1:i<(⟨l.toArray⟩:ByteArray).size:=by show i<l.toArray.size;simpa using hl
 rw [←bt_at ⟨l.toArray⟩ (i:Int) (by simpa using h1)]
 show ((l.toArray[((i:Nat):Int).toNat]).toNat:Int)=_
 simp [he]
theorem tabR_of {w W:World} {H H0:Nat} (h:tabJ w H H0 3 W):tabR W H H0:=by
 obtain ⟨arr,tr,a1,a2,a3,a4,a5,a6,a7,a8,⟨_,_,hlow⟩,_⟩:=h
 refine ⟨fun b=>?_,(bc_ a1 256).trans a3,(bc_ a4 0).trans (a6 0 (by omega)),(bc_ a4 1).trans (a6 1 (by omega)),(bc_ a4 2).trans (a6 2 (by omega)),blk_lt a1,hlow⟩
 have key:∀ t,t<3→∀ b:UInt8,b.toNat=keyN t→(⟨(escL b).toArray⟩:ByteArray)=valT t→escL b≠[]→∃ x c,escL b≠[]∧W.cell? ⟨H,b.toNat,none⟩=some (.slice (some ⟨x,0,none⟩) (escL b).length c)∧(x<W.heap.size∧H0<x)∧∀ (i:Nat) y,(escL b)[i]? = some y→W.cell? ⟨x,i,none⟩=some (.int .u8 (y.toNat:Int)):=by
  intro t ht b hb hv hne
  obtain ⟨u,h1,x,c,rfl,h3,h4,h5⟩:=a8 t ht
  have hsz:(valT t).size=(escL b).length:=by rw [←hv];show (escL b).toArray.size=_;simp
  refine ⟨x,c,hne,?_,⟨h4,by omega⟩,fun i y hi=>?_⟩
  ·rw [bc_ a1,hb,h1,hsz]
  ·rw [h5 i (by rw [hsz];exact (List.getElem?_eq_some_iff.1 hi).1),←hv,bt_cell hi]
 by_cases h1:b=62
 ·subst h1;exact .inr (key 0 (by omega) 62 rfl rfl (by decide))
 ·by_cases h2:b=60
  ·subst h2;exact .inr (key 1 (by omega) 60 rfl rfl (by decide))
  ·by_cases h3:b=38
   ·subst h3;exact .inr (key 2 (by omega) 38 rfl rfl (by decide))
   ·refine .inl ⟨by unfold escL;rw [if_neg h1,if_neg h2,if_neg h3],?_⟩
    rw [bc_ a1]
    refine a7 b.toNat b.toNat_lt (fun t ht=>?_)
    have n1:b.toNat≠62:=fun e=>h1 (UInt8.toNat_inj.1 e)
    have n2:b.toNat≠60:=fun e=>h2 (UInt8.toNat_inj.1 e)
    have n3:b.toNat≠38:=fun e=>h3 (UInt8.toNat_inj.1 e)
    unfold keyN
    split
    ·exact n1
    ·split
     ·exact n2
     ·exact n3
theorem tabR_below {w W:World} {H H0 B:Nat} (h:tabR w H H0) (hb:Below B w W) (hB:w.heap.size≤B):tabR W H H0:=by
 obtain ⟨h1,h2,h3,h4,h5,h6,h7⟩:=h
 have up:∀ {p:Addr} {v:Value},w.cell? p=some v→W.cell? p=some v:=fun hc=>Lib.Below.cellOf hb hc hB
 refine ⟨fun b=>?_,up h2,up h3,up h4,up h5,Nat.lt_of_lt_of_le h6 hb.size,h7⟩
 rcases h1 b with ⟨e,hc⟩|⟨x,c,e,hc,hx,hi⟩
 ·exact .inl ⟨e,up hc⟩
 ·exact .inr ⟨x,c,e,up hc,⟨Nat.lt_of_lt_of_le hx.1 hb.size,hx.2⟩,fun i y h=>up (hi i y h)⟩
/-- A store below the table. -/
theorem tabR_set {W:World} {H H0 g k:Nat} (h:tabR W H H0) (hg:g<H0) (v:Value):tabR (W.setCell ⟨g,k,none⟩ v) H H0:=by
 obtain ⟨h1,h2,h3,h4,h5,h6,h7⟩:=h
 have up:∀ {b i:Nat} {u:Value},b≠g→W.cell? ⟨b,i,none⟩=some u→(W.setCell ⟨g,k,none⟩ v).cell? ⟨b,i,none⟩=some u:=fun hb hc=>(World.cell?_of_block (w:=W) (Below.heap_setCell W ⟨g,k,none⟩ v _ hb)).trans hc
 have hz:(W.setCell ⟨g,k,none⟩ v).heap.size=W.heap.size:=by simp [World.setCell]
 refine ⟨fun b=>?_,up (by omega) h2,up (by omega) h3,up (by omega) h4,up (by omega) h5,by rw [hz];exact h6,h7⟩
 rcases h1 b with ⟨e,hc⟩|⟨x,c,e,hc,hx,hi⟩
 ·exact .inl ⟨e,up (by omega) hc⟩
 ·exact .inr ⟨x,c,e,up (by omega) hc,by rw [hz];exact hx,fun i y h=>up (by omega) (hi i y h)⟩
theorem tabR_drew {W:World} {H H0:Nat} (h:tabR W H H0):tabR W.drew H H0:=h
theorem tabR_all {W:World} {H H0:Nat} (h:tabR W H H0) (b:UInt8):(escL b=[]∧W.cell? ⟨H,b.toNat,none⟩=some (.slice none 0 0))∨∃ x c,escL b≠[]∧W.cell? ⟨H,b.toNat,none⟩=some (.slice (some ⟨x,0,none⟩) (escL b).length c)∧∀ (i:Nat) y,(escL b)[i]? = some y→W.cell? ⟨x,i,none⟩=some (.int .u8 (y.toNat:Int)):=by
 rcases h.1 b with h|⟨x,c,h1,h2,_,h3⟩
 ·exact .inl h
 ·exact .inr ⟨x,c,h1,h2,h3⟩
theorem run_make_bytes (W:World) (N:Nat) (h:N≤140737488355328):(Instr.makeSlice 48 (.int .i64 (N:Int)) (.int .i64 (N:Int))).run Tryz.prog W=.ok (.slice (some ⟨W.heap.size,0,none⟩) N N) (W.alloc (.cells (madeCells #[.int .u8 0] N) 5 (0,0))):=by
 obtain ⟨i0,hi0,hz0⟩:=Option.map_eq_some_iff.1 (show (Tryz.prog.info? 5).map (fun i=>(i.zero,i.size,i.bytes))=some (some (.int .u8 0),1,1) by kernel_rfl)
 simp only [Prod.mk.injEq] at hz0
 obtain ⟨h1,h2,h3⟩:=hz0
 have hr:=run_make (P:=Tryz.prog) W 48 5 i0 (.int .u8 0) Tryz.underlying48 hi0 h1 .i64 .i64 (N:Int) (N:Int) (by omega) (Int.le_refl _) (by rw [h3];omega) (by omega)
 rw [h2,Int.toNat_natCast,Nat.mul_one] at hr
 exact hr
theorem buf_start (w:World) (N:Nat):Lib.Buf w (w.alloc (.cells (madeCells #[.int .u8 0] N) 5 (0,0))) w.heap.size N []:=by
 have hn:=blk_new w (.cells (madeCells #[.int .u8 0] N) 5 (0,0))
 refine ⟨(Below.refl _ _).alloc (Nat.le_refl _) _,fun j hj=>?_,fun j _=>bf_ hn j,fun j x hx=>by simp at hx,Nat.zero_le _⟩
 rw [bc_ hn,Array.getElem?_eq_getElem (by rw [size_madeCells];exact hj)]
 rfl
theorem buf_put {w0 wr:World} {h N:Nat} {acc:List UInt8} (b:UInt8) (hb:Lib.Buf w0 wr h N acc) (hl:acc.length<N):Lib.Buf w0 (wr.setCell ⟨h,acc.length,none⟩ (.int .u8 (b.toNat:Int))) h N (acc++[b]):=by
 obtain ⟨wo,hwo⟩:=Option.isSome_iff_exists.1 (hb.there acc.length hl)
 have hsame:=World.cell?_setCell_same wr ⟨h,acc.length,none⟩ (.int .u8 (b.toNat:Int)) hwo
 have hoth:∀ j,j≠acc.length→(wr.setCell ⟨h,acc.length,none⟩ (.int .u8 (b.toNat:Int))).cell? ⟨h,j,none⟩=wr.cell? ⟨h,j,none⟩:=fun j hj=>World.cell?_setCell_other _ _ _ _ (fun e=>hj (by injection e with _ e2 _;exact e2.symm))
 refine ⟨hb.below.setCell (p:=⟨h,acc.length,none⟩) (Nat.le_refl _) _,fun j hj=>?_,fun j hj=>by rw [World.frozen?_setCell];exact hb.free j hj,fun j x hx=>?_,by rw [List.length_append];exact hl⟩
 ·by_cases e:j=acc.length
  ·subst e;rw [hsame];rfl
  ·rw [hoth j e];exact hb.there j hj
 ·by_cases e:j=acc.length
  ·subst e
   rw [List.getElem?_append_right (Nat.le_refl _),Nat.sub_self] at hx
   simp at hx
   subst hx
   exact hsame
  ·rw [hoth j e]
   refine hb.holds j x ?_
   have hlt:=(List.getElem?_eq_some_iff.1 hx).1
   rw [List.length_append,List.length_singleton] at hlt
   rwa [List.getElem?_append_left (by omega)] at hx
set_option maxHeartbeats 4000000 in
set_option maxRecDepth 1000000 in
/-- strings.Count of one byte. -/
theorem count_one (s:ByteArray) (c:UInt8) (w:World) :
 Calls Tryz.prog 79 #[.string s,.string ⟨#[c]⟩] w fun e w'=>e=.returned (.int .i64 (Lib.countByte s.data.toList c))∧w'=w:=by
 go_enter Tryz.func79,Tryz.ntmps79
 go_wp2
 rw [run_callFunc_extern Tryz.func91 (by kernel_rfl) (by kernel_rfl) (by kernel_rfl) (e:=Extern.BytealgCount.count) (by kernel_rfl),Lib.run_countString]
 simp only [Result.andThen]
 rw [Oper.upon_value]
 go_wp2
 go_ret
 exact ⟨rfl,rfl⟩
theorem step_copy_run {P:Program} {ops:Array Oper} {o:Oper} {a:Act} {w:World} {K:Act→World→Prop} {Q:Exit→Act→World→Prop} {E:Prop}
 (hg:o.guard=none) (d x:Operand) (dT sT:TypeId) (hop:o.op=Op.call { callee:=Callee.builtin Builtin.copy,args:=#[d,x],argTypes:=#[dT,sT] })
 (v u:Value) (hd:a.eval d=v) (hx:a.eval x=u) {v':Value} {w':World} (hr:(Builtin.copy_ #[dT,sT] o.type #[v,u]).run P w=.ok v' w') (hK:K (a.put o.dst v') w') :
 if Region.wanted o (yielded ops a.tmps)=true then Oper.wp P o a w K Q else E:=by
 have hw:Region.wanted o (yielded ops a.tmps)=true:=by simp [Region.wanted,hg]
 rw [if_pos hw]
 unfold Oper.wp
 simp [execOp,hop,resolve,invoke,builtin,hd,hx,hr,Result.andThen]
 exact hK
def cntJ (s:ByteArray) (j:Nat):Nat:=if j=0 then 0 else if j=1 then Lib.countByte s.data.toList 62 * 3 else if j=2 then Lib.countByte s.data.toList 62 * 3+Lib.countByte s.data.toList 60 * 3 else escG s.data.toList
theorem count_le (s:ByteArray) (c:UInt8):Lib.countByte s.data.toList c≤s.size:=by
 unfold Lib.countByte
 have:=List.count_le_length (a:=c) (l:=s.data.toList)
 rwa [data_length] at this
theorem cntJ_le (s:ByteArray) (j:Nat):cntJ s j≤16 * s.size:=by
 have h1:=count_le s 62
 have h2:=count_le s 60
 have h3:=escG_le s.data.toList
 rw [data_length] at h3
 unfold cntJ
 split
 ·omega
 ·split
  ·omega
  ·split <;> omega
theorem cntJ_step0 (s:ByteArray):cntJ s 1=cntJ s 0+Lib.countByte s.data.toList 62 * 3:=by simp [cntJ]
theorem cntJ_step1 (s:ByteArray):cntJ s 2=cntJ s 1+Lib.countByte s.data.toList 60 * 3:=by simp [cntJ]
theorem cntJ_step2 (s:ByteArray):cntJ s 3=cntJ s 2+Lib.countByte s.data.toList 38 * 4:=by simp [cntJ,escG_cnt]
theorem escT_none (s:ByteArray) (h:escG s.data.toList=0):s=escT s:=by
 unfold escT
 rw [flat_none _ h,Array.toArray_toList]
theorem buf_drew {w0 wr:World} {h N:Nat} {acc:List UInt8} (hb:Lib.Buf w0 wr h N acc):Lib.Buf w0 wr.drew h N acc :=
 ⟨hb.below.drew,hb.there,hb.free,hb.holds,hb.fits⟩
theorem buf_string {w0 wr:World} {h N:Nat} {acc:List UInt8} (hb:Lib.Buf w0 wr h N acc) (hl:acc.length=N):(convert 48 9 (.slice (some ⟨h,0,none⟩) N N)).run Tryz.prog wr=.ok (.string ⟨acc.toArray⟩) wr:=by
 have hr:=run_convert_bytes_arg (P:=Tryz.prog) wr 48 5 Tryz.underlying48 Tryz.underlying5 h 0 N N (acc.map fun x=>(x.toNat:Int)) (by rw [List.length_map,hl]) (fun i hi=>by
  have h1:i<acc.length:=by omega
  rw [Nat.zero_add,hb.holds i acc[i] (List.getElem?_eq_getElem h1),List.getD_eq_getElem?_getD,List.getElem?_map,List.getElem?_eq_getElem h1]
  rfl) 9 Tryz.underlying9
 rw [hr]
 unfold strOfNums
 rw [List.map_map]
 have e:acc.map ((fun n:Int=>UInt8.ofNat n.toNat) ∘ fun x:UInt8=>(x.toNat:Int))=acc:=by
  refine List.map_id'' (fun x=>?_) acc
  simp
 rw [e]
set_option maxHeartbeats 32000000 in
set_option maxRecDepth 1000000 in
theorem br_calls (H H0:Nat) (w:World) (s:ByteArray) (hs:s.size≤1099511627776) (h:tabR w H H0) :
 Calls Tryz.prog 147 #[.pointer (some ⟨H,0,none⟩),.string s] w fun e w'=>e=.returned (.string (escT s))∧Below w.heap.size w w':=by
 have hneq:=fun (W:World) (a:Option Addr) (l c:Nat)=>Go.run_neq_slice_nil (P:=Tryz.prog) W 48 5 a l c Tryz.underlying48
 have hk256:w.cell? ⟨H,256,none⟩=some (.slice (some ⟨H0,0,none⟩) 3 3):=h.2.1
 have HT:=A_ h
 have HLT:=A_ h.2.2.2.2.2.1
 clear h
 by_cases hway:24≤s.size
 ·have hway2:(24:Int)≤(s.size:Int):=by omega
  go_enter Tryz.func147,Tryz.ntmps147
  go_wp2_with fail
  go_loopg [5,6,8,9,32] 3 (fun gg v5 v6 v8 v9 v32 wr=>∃ j N:Nat,j≤3∧gg+j=3∧v32=.int .i64 j∧v5=.int .i64 N∧v6=.bool (decide (s.size<N))∧Aside0 (N=s.size+cntJ s j)∧Aside0 (Below w.heap.size w wr∧wr.heap.size=w.heap.size))
  case atStart=>exact ⟨0,s.size,by omega,rfl,rfl,rfl,by rw [df_ (Nat.lt_irrefl _)],⟨rfl⟩,⟨Below.refl _ _,rfl⟩⟩
  case round =>
  obtain ⟨j,N,hj,hgk,rfl,rfl,rfl,HN,HW⟩:=hrel
  have hNa:s.size≤N:=by rw [HN.out];omega
  have hNb:N≤s.size+16 * s.size:=by
   rw [HN.out]
   have:=cntJ_le s j
   omega
  rcases (show j=0∨j=1∨j=2∨j=3 by omega) with rfl|rfl|rfl|rfl
  ·have hgk:gk=3:=by omega
   subst hgk
   have hcJ:cntJ s 1=cntJ s 0+Lib.countByte s.data.toList 62 * 3:=cntJ_step0 s
   have HCJ:=A_ hcJ
   have hcB:=count_le s 62
   obtain ⟨hall,k256,r0,r1,r2,_,_⟩:=tabR_below HT.out HW.out.1 (Nat.le_refl _)
   have hrow:∃ x c,wr.cell? ⟨H,62,none⟩=some (.slice (some ⟨x,0,none⟩) 4 c):=by
    rcases hall 62 with ⟨he,_⟩|⟨x,c,_,hc,_⟩
    ·exact absurd he (by decide)
    ·exact ⟨x,c,hc⟩
   obtain ⟨x,c,hrow⟩:=hrow
   have hby:((⟨#[62]⟩:ByteArray)[0]'(by decide)).toNat=62:=rfl
   have HCN:=A_ (count_one s 62 wr)
   clear hall k256 hcJ
   generalize Lib.countByte s.data.toList 62=C at *
   by_cases hC:C=0
   ·subst hC
    go_wp2_with (go_at_call 79;(with_reducible refine HCN.out.mono ?_);rintro e w2 ⟨rfl,rfl⟩)
    go_roundg 2
    case measure=>omega
    case rel=>exact ⟨1,N,by omega,rfl,rfl,rfl,rfl,⟨by rw [HCJ.out,Nat.zero_mul,Nat.add_zero];exact HN.out⟩,HW⟩
   ·have hC0:((C:Nat):Int)≠0:=by omega
    have hC1:(((C:Nat):Int) == 0)=false:=beq_eq_false_iff_ne.2 hC0
    go_wp2_with (go_at_call 79;(with_reducible refine HCN.out.mono ?_);rintro e w2 ⟨rfl,rfl⟩)
    go_quiet (fail)
    go_wp2_with fail
    go_roundg 2
    case measure=>omega
    case rel=>exact ⟨1,N+C * 3,by omega,rfl,rfl,by go_num,by rw [dt_ (by omega)],⟨by rw [HCJ.out];have:=HN.out;omega⟩,⟨pd_ HW.out.1 _,HW.out.2⟩⟩
  ·have hgk:gk=2:=by omega
   subst hgk
   have hcJ:cntJ s 2=cntJ s 1+Lib.countByte s.data.toList 60 * 3:=cntJ_step1 s
   have HCJ:=A_ hcJ
   have hcB:=count_le s 60
   obtain ⟨hall,k256,r0,r1,r2,_,_⟩:=tabR_below HT.out HW.out.1 (Nat.le_refl _)
   have hrow:∃ x c,wr.cell? ⟨H,60,none⟩=some (.slice (some ⟨x,0,none⟩) 4 c):=by
    rcases hall 60 with ⟨he,_⟩|⟨x,c,_,hc,_⟩
    ·exact absurd he (by decide)
    ·exact ⟨x,c,hc⟩
   obtain ⟨x,c,hrow⟩:=hrow
   have hby:((⟨#[60]⟩:ByteArray)[0]'(by decide)).toNat=60:=rfl
   have HCN:=A_ (count_one s 60 wr)
   clear hall k256 hcJ
   generalize Lib.countByte s.data.toList 60=C at *
   by_cases hC:C=0
   ·subst hC
    go_wp2_with (go_at_call 79;(with_reducible refine HCN.out.mono ?_);rintro e w2 ⟨rfl,rfl⟩)
    go_roundg 1
    case measure=>omega
    case rel=>exact ⟨2,N,by omega,rfl,rfl,rfl,rfl,⟨by rw [HCJ.out,Nat.zero_mul,Nat.add_zero];exact HN.out⟩,HW⟩
   ·have hC0:((C:Nat):Int)≠0:=by omega
    have hC1:(((C:Nat):Int) == 0)=false:=beq_eq_false_iff_ne.2 hC0
    go_wp2_with (go_at_call 79;(with_reducible refine HCN.out.mono ?_);rintro e w2 ⟨rfl,rfl⟩)
    go_quiet (fail)
    go_wp2_with fail
    go_roundg 1
    case measure=>omega
    case rel=>exact ⟨2,N+C * 3,by omega,rfl,rfl,by go_num,by rw [dt_ (by omega)],⟨by rw [HCJ.out];have:=HN.out;omega⟩,⟨pd_ HW.out.1 _,HW.out.2⟩⟩
  ·have hgk:gk=1:=by omega
   subst hgk
   have hcJ:cntJ s 3=cntJ s 2+Lib.countByte s.data.toList 38 * 4:=cntJ_step2 s
   have HCJ:=A_ hcJ
   have hcB:=count_le s 38
   obtain ⟨hall,k256,r0,r1,r2,_,_⟩:=tabR_below HT.out HW.out.1 (Nat.le_refl _)
   have hrow:∃ x c,wr.cell? ⟨H,38,none⟩=some (.slice (some ⟨x,0,none⟩) 5 c):=by
    rcases hall 38 with ⟨he,_⟩|⟨x,c,_,hc,_⟩
    ·exact absurd he (by decide)
    ·exact ⟨x,c,hc⟩
   obtain ⟨x,c,hrow⟩:=hrow
   have hby:((⟨#[38]⟩:ByteArray)[0]'(by decide)).toNat=38:=rfl
   have HCN:=A_ (count_one s 38 wr)
   clear hall k256 hcJ
   generalize Lib.countByte s.data.toList 38=C at *
   by_cases hC:C=0
   ·subst hC
    go_wp2_with (go_at_call 79;(with_reducible refine HCN.out.mono ?_);rintro e w2 ⟨rfl,rfl⟩)
    go_roundg 0
    case measure=>omega
    case rel=>exact ⟨3,N,by omega,rfl,rfl,rfl,rfl,⟨by rw [HCJ.out,Nat.zero_mul,Nat.add_zero];exact HN.out⟩,HW⟩
   ·have hC0:((C:Nat):Int)≠0:=by omega
    have hC1:(((C:Nat):Int) == 0)=false:=beq_eq_false_iff_ne.2 hC0
    go_wp2_with (go_at_call 79;(with_reducible refine HCN.out.mono ?_);rintro e w2 ⟨rfl,rfl⟩)
    go_quiet (fail)
    go_wp2_with fail
    go_roundg 0
    case measure=>omega
    case rel=>exact ⟨3,N+C * 4,by omega,rfl,rfl,by go_num,by rw [dt_ (by omega)],⟨by rw [HCJ.out];have:=HN.out;omega⟩,⟨pd_ HW.out.1 _,HW.out.2⟩⟩
  ·obtain ⟨V,hV⟩:∃ V,V=wr:=⟨_,rfl⟩
   subst hV
   have HWB:=A_ HW.out.1
   have HTV:=A_ (tabR_below HT.out HW.out.1 (Nat.le_refl _))
   have HLV:=A_ (HTV.out.2.2.2.2.2.1)
   clear HT HLT
   have HT:=HTV
   have HLT:=HLV
   clear HTV HLV
   have hN3:N=s.size+escG s.data.toList:=HN.out
   have HN:=A_ hN3
   clear hN3
   by_cases hgr:s.size<N
   ·have hd:decide (s.size<N)=true:=dt_ hgr
    rw [hd]
    have hmk:=fun W:World=>run_make_bytes W N (by omega)
    clear hd
    go_wp2_with fail
    have B0:=buf_start V N
    have HB0:=A_ B0
    clear B0
    have HTR:=A_ (tabR_all HT.out)
    go_loopg [13,14,15] s.size (fun gg v13 v14 v15 wr=>∃ (k:Nat) (acc:List UInt8),k≤s.size∧s.size - k≤gg∧v14=.int .i64 k∧v13=.int .i64 acc.length∧Aside0 (acc=(s.data.toList.take k).flatMap escF)∧Aside0 (Lib.Buf V wr V.heap.size N acc))
    case atStart=>exact ⟨0,[],Nat.zero_le _,by omega,rfl,rfl,⟨by simp⟩,HB0⟩
    case round =>
     obtain ⟨k,acc,hk,hgg,rfl,rfl,HA,HBF⟩:=hrel
     by_cases hlt:k<s.size
     ·have hltz:(k:Int)<(s.size:Int):=by omega
      obtain ⟨b,hb,hbt⟩:=byte_at s k hlt
      have hstep:=flat_step hb
      have hfit:acc.length+(escF b).length≤N:=by
       rw [HA.out,HN.out]
       exact flat_fit hb
      have hb255:b.toNat<256:=b.toNat_lt
      have hbz:(b.toNat:Int)<256:=by omega
      rcases HTR.out b with ⟨he,hc⟩|⟨x,c,he,hc,hcells⟩
      ·have hcw:wr.cell? ⟨H,b.toNat,none⟩=some (.slice none 0 0):=(HBF.out.below.cell (HLT.out)).trans hc
       have hef:escF b=[b]:=by unfold escF;rw [if_pos he]
       rw [hef] at hfit hstep
       rw [List.length_singleton] at hfit
       have hjz:(acc.length:Int)<(N:Int):=by omega
       obtain ⟨wo,hwo⟩:=Option.isSome_iff_exists.1 (HBF.out.there acc.length (by omega))
       have hwf:=HBF.out.free acc.length (by omega)
       have HB2:=A_ (buf_put b HBF.out (by omega))
       go_wp2
       go_roundg (s.size - (k+1))
       case measure=>omega
       case rel =>
        exact ⟨k+1,acc++[b],by omega,Nat.le_refl _,by go_num,by rw [List.length_append];go_num,⟨by rw [hstep,HA.out]⟩,HB2⟩
      ·have hpos:=escL_pos he
       have hef:escF b=escL b:=by unfold escF;rw [if_neg he]
       rw [hef] at hfit hstep
       have hcw:wr.cell? ⟨H,b.toNat,none⟩=some (.slice (some ⟨x,0,none⟩) (escL b).length c):=(HBF.out.below.cell (HLT.out)).trans hc
       have hsl:=fun W:World=>Lib.run_slice_tailV (P:=Tryz.prog) W 48 5 Tryz.underlying48 (fun _=>by kernel_rfl) V.heap.size N acc.length (by omega)
       have BD:=buf_drew HBF.out
       have hs5:(Tryz.prog.info? 5).map (·.size)=some 1:=by kernel_rfl
       have hhold:Lib.HoldsBytes V (.slice (some ⟨x,0,none⟩) (escL b).length c) (escL b):=⟨some ⟨x,0,none⟩,c,rfl,(fun h=>by cases h),(fun a ha i y hi=>by cases ha;rw [add_plain];exact hcells i y hi)⟩
       obtain ⟨w2,hr2,B2⟩:=Lib.copy_part (P:=Tryz.prog) V wr.drew V.heap.size N acc (escL b) _ 48 3 5 Tryz.underlying48 hs5 (Nat.le_refl _) BD hhold hfit
       have HB2:=A_ B2
       have HH:=A_ hhold
       clear B2 BD hcells hhold
       generalize hLe:escL b=E at *
       go_wp2_with fail
       have hmix:Tryz.prog.follows .mixedOrders=true:=by kernel_rfl
       go_region_law_o (refine step_copy_run rfl (.tmp 105) (.tmp 111) 48 48 rfl (Lib.tailV V.heap.size N acc.length) (.slice (some ⟨x,0,none⟩) E.length c) (by simp [Act.eval,Act.put]) (by simp [Act.eval,Act.put]) hr2 ?_)
       go_wp2_with fail
       go_roundg (s.size - (k+1))
       case measure=>omega
       case rel =>
        exact ⟨k+1,acc++E,by omega,Nat.le_refl _,by go_num,by rw [List.length_append];go_num,⟨by rw [hstep,HA.out]⟩,HB2⟩
     ·obtain rfl:k=s.size:=by omega
      rw [List.take_of_length_le (by rw [data_length];exact Nat.le_refl _)] at HA
      have hlen:acc.length=N:=by rw [HA.out,flat_len,data_length,HN.out]
      have hcv:=buf_string HBF.out hlen
      go_wp2_with fail
      go_ret
      exact ⟨by rw [HA.out];rfl,HWB.out.trans (HBF.out.below.mono HWB.out.size)⟩
   ·have hd:decide (s.size<N)=false:=df_ hgr
    rw [hd]
    go_wp2_with fail
    go_ret
    have h0:escG s.data.toList=0:=by have:=HN.out;omega
    exact ⟨congrArg (fun x=>Ending.returned (.string x)) (escT_none s h0),HWB.out⟩
 ·have HWB:=A_ (Below.refl w.heap.size w)
  have hway2:¬ ((24:Int)≤(s.size:Int)):=by omega
  go_enter Tryz.func147,Tryz.ntmps147
  go_wp2_with fail
  have HTR:=A_ (tabR_all HT.out)
  go_loopg [5,6,10,11] s.size (fun gg v5 v6 v10 v11 wr=>wr=w∧∃ k N:Nat,k≤s.size∧s.size - k≤gg∧v10=.int .i64 k∧v5=.int .i64 N∧v6=.bool (decide (s.size<N))∧Aside0 (N=s.size+escG (s.data.toList.take k)))
  case atStart=>exact ⟨rfl,0,s.size,Nat.zero_le _,by omega,rfl,rfl,by rw [df_ (Nat.lt_irrefl _)],⟨by simp [escG]⟩⟩
  case round =>
   obtain ⟨hw,k,N,hk,hgg,rfl,rfl,rfl,HN⟩:=hrel
   have hw2:=hw.symm
   subst hw2
   clear hw
   have hNb:N≤s.size+4 * s.size:=by
    have h1:=escG_le (s.data.toList.take k)
    have h2:(s.data.toList.take k).length≤s.size:=by rw [lt_,data_length];omega
    rw [HN.out]
    omega
   have hNa:s.size≤N:=by rw [HN.out];omega
   by_cases hlt:k<s.size
   ·have hltz:(k:Int)<(s.size:Int):=by omega
    obtain ⟨b,hb,hbt⟩:=byte_at s k hlt
    have hstep:escG (s.data.toList.take (k+1))=escG (s.data.toList.take k)+((escL b).length - 1):=by
     rw [take_at hb,escG_append]
     simp [escG]
    have hb255:(b.toNat:Int)<256:=by have:=b.toNat_lt;omega
    have hle:=escL_le b
    rcases HTR.out b with ⟨he,hc⟩|⟨x,c,he,hc,_⟩
    ·rw [he,List.length_nil,Nat.zero_sub,Nat.add_zero] at hstep
     go_wp2_with fail
     go_roundg (s.size - (k+1))
     case measure=>omega
     case rel=>exact ⟨rfl,k+1,N,by omega,Nat.le_refl _,by go_num,rfl,rfl,⟨by rw [hstep];exact HN.out⟩⟩
    ·have hpos:=escL_pos he
     generalize (escL b).length=L at *
     go_wp2_with fail
     go_roundg (s.size - (k+1))
     case measure=>omega
     case rel=>exact ⟨rfl,k+1,N+(L - 1),by omega,Nat.le_refl _,by go_num,by go_num,by rw [dt_ (by omega)],⟨by rw [hstep];have:=HN.out;omega⟩⟩
   ·obtain rfl:k=s.size:=by omega
    rw [List.take_of_length_le (by rw [data_length];exact Nat.le_refl _)] at HN
    by_cases hgr:s.size<N
    ·have hd:decide (s.size<N)=true:=dt_ hgr
     rw [hd]
     have hmk:=fun W:World=>run_make_bytes W N (by omega)
     clear hd
     go_wp2_with fail
     have B0:=buf_start w N
     have HB0:=A_ B0
     clear B0
     have HTR:=A_ (tabR_all HT.out)
     go_loopg [13,14,15] s.size (fun gg v13 v14 v15 wr=>∃ (k:Nat) (acc:List UInt8),k≤s.size∧s.size - k≤gg∧v14=.int .i64 k∧v13=.int .i64 acc.length∧Aside0 (acc=(s.data.toList.take k).flatMap escF)∧Aside0 (Lib.Buf w wr w.heap.size N acc))
     case atStart=>exact ⟨0,[],Nat.zero_le _,by omega,rfl,rfl,⟨by simp⟩,HB0⟩
     case round =>
      obtain ⟨k,acc,hk,hgg,rfl,rfl,HA,HBF⟩:=hrel
      by_cases hlt:k<s.size
      ·have hltz:(k:Int)<(s.size:Int):=by omega
       obtain ⟨b,hb,hbt⟩:=byte_at s k hlt
       have hstep:=flat_step hb
       have hfit:acc.length+(escF b).length≤N:=by
        rw [HA.out,HN.out]
        exact flat_fit hb
       have hb255:b.toNat<256:=b.toNat_lt
       have hbz:(b.toNat:Int)<256:=by omega
       rcases HTR.out b with ⟨he,hc⟩|⟨x,c,he,hc,hcells⟩
       ·have hcw:wr.cell? ⟨H,b.toNat,none⟩=some (.slice none 0 0):=(HBF.out.below.cell (HLT.out)).trans hc
        have hef:escF b=[b]:=by unfold escF;rw [if_pos he]
        rw [hef] at hfit hstep
        rw [List.length_singleton] at hfit
        have hjz:(acc.length:Int)<(N:Int):=by omega
        obtain ⟨wo,hwo⟩:=Option.isSome_iff_exists.1 (HBF.out.there acc.length (by omega))
        have hwf:=HBF.out.free acc.length (by omega)
        have HB2:=A_ (buf_put b HBF.out (by omega))
        go_wp2
        go_roundg (s.size - (k+1))
        case measure=>omega
        case rel =>
         exact ⟨k+1,acc++[b],by omega,Nat.le_refl _,by go_num,by rw [List.length_append];go_num,⟨by rw [hstep,HA.out]⟩,HB2⟩
       ·have hpos:=escL_pos he
        have hef:escF b=escL b:=by unfold escF;rw [if_neg he]
        rw [hef] at hfit hstep
        have hcw:wr.cell? ⟨H,b.toNat,none⟩=some (.slice (some ⟨x,0,none⟩) (escL b).length c):=(HBF.out.below.cell (HLT.out)).trans hc
        have hsl:=fun W:World=>Lib.run_slice_tailV (P:=Tryz.prog) W 48 5 Tryz.underlying48 (fun _=>by kernel_rfl) w.heap.size N acc.length (by omega)
        have BD:=buf_drew HBF.out
        have hs5:(Tryz.prog.info? 5).map (·.size)=some 1:=by kernel_rfl
        have hhold:Lib.HoldsBytes w (.slice (some ⟨x,0,none⟩) (escL b).length c) (escL b):=⟨some ⟨x,0,none⟩,c,rfl,(fun h=>by cases h),(fun a ha i y hi=>by cases ha;rw [add_plain];exact hcells i y hi)⟩
        obtain ⟨w2,hr2,B2⟩:=Lib.copy_part (P:=Tryz.prog) w wr.drew w.heap.size N acc (escL b) _ 48 3 5 Tryz.underlying48 hs5 (Nat.le_refl _) BD hhold hfit
        have HB2:=A_ B2
        have HH:=A_ hhold
        clear B2 BD hcells hhold
        generalize hLe:escL b=E at *
        go_wp2_with fail
        have hmix:Tryz.prog.follows .mixedOrders=true:=by kernel_rfl
        go_region_law_o (refine step_copy_run rfl (.tmp 105) (.tmp 111) 48 48 rfl (Lib.tailV w.heap.size N acc.length) (.slice (some ⟨x,0,none⟩) E.length c) (by simp [Act.eval,Act.put]) (by simp [Act.eval,Act.put]) hr2 ?_)
        go_wp2_with fail
        go_roundg (s.size - (k+1))
        case measure=>omega
        case rel =>
         exact ⟨k+1,acc++E,by omega,Nat.le_refl _,by go_num,by rw [List.length_append];go_num,⟨by rw [hstep,HA.out]⟩,HB2⟩
      ·obtain rfl:k=s.size:=by omega
       rw [List.take_of_length_le (by rw [data_length];exact Nat.le_refl _)] at HA
       have hlen:acc.length=N:=by rw [HA.out,flat_len,data_length,HN.out]
       have hcv:=buf_string HBF.out hlen
       go_wp2_with fail
       go_ret
       exact ⟨by rw [HA.out];rfl,HWB.out.trans (HBF.out.below.mono HWB.out.size)⟩
    ·have hd:decide (s.size<N)=false:=df_ hgr
     rw [hd]
     go_wp2_with fail
     go_ret
     have h0:escG s.data.toList=0:=by have:=HN.out;omega
     exact ⟨congrArg (fun x=>Ending.returned (.string x)) (escT_none s h0),HWB.out⟩
/-- What holds behind build: the table, above the Replacer. -/
def tabQ (g B:Nat) (w0 W:World) (y3:Value):Prop:=∃ H H0,y3=.iface 119 (.pointer (some ⟨H,0,none⟩))∧tabR W H H0∧g<H0∧Below B w0 W
theorem once_cells (g a c:Nat) (w w2:World) (H H0:Nat) (hg:w.heap[g]? = some (.cells #[.int .u32 0,.int .i32 1,.int .u32 0,.nilIface,.slice (some ⟨a,0,none⟩) 6 c] 91 (0,0))) (h:tabJ w H H0 3 w2) :
 w2.cell? ⟨g,3,none⟩=some .nilIface∧w2.frozen? ⟨g,3,none⟩=false∧(w2.setCell ⟨g,3,none⟩ (.iface 119 (.pointer (some ⟨H,0,none⟩)))).cell? ⟨g,4,none⟩=some (.slice (some ⟨a,0,none⟩) 6 c)∧(w2.setCell ⟨g,3,none⟩ (.iface 119 (.pointer (some ⟨H,0,none⟩)))).frozen? ⟨g,4,none⟩=false:=by
 obtain ⟨arr,tr,_,_,_,_,_,_,_,_,_,hBW⟩:=h
 have h2:=(hBW.block g (blk_lt hg)).trans hg
 have h3:=blk_put h2 3 (.iface 119 (.pointer (some ⟨H,0,none⟩))) rfl
 exact ⟨(bc_ h2 3).trans rfl,bf_ h2 3,(bc_ h3 4).trans rfl,bf_ h3 4⟩
set_option maxHeartbeats 16000000 in
set_option maxRecDepth 1000000 in
theorem buildOnce_calls (g a c B:Nat) (w w0:World) (hg:w.heap[g]? = some (.cells #[.int .u32 0,.int .i32 1,.int .u32 0,.nilIface,.slice (some ⟨a,0,none⟩) 6 c] 91 (0,0))) (hs:∀ i,i<6→w.cell? ⟨a,i,none⟩=some (.string (escN.getD i ByteArray.empty))) (hB:B≤g) (hb:Below B w0 w) :
 Calls Tryz.prog 50 #[.pointer (some ⟨g,0,none⟩)] w fun e w'=>e=.returned (.tuple #[])∧∃ y3 y4,w'.heap[g]? = some (.cells #[.int .u32 0,.int .i32 1,.int .u32 0,y3,y4] 91 (0,0))∧tabQ g B w0 w' y3:=by
 have HF:=A_ (build_calls g a c w hg hs)
 have HG:=A_ hg
 have HB:=A_ hb
 clear hs hg hb
 go_enter Tryz.func50,Tryz.ntmps50
 go_wp2_with (go_at_call 63;(with_reducible refine HF.out.mono ?_);rintro e w2 ⟨H,H0,rfl,hJ⟩;(have HJ:=A_ hJ);(have hx:=once_cells g a c w w2 H H0 HG.out hJ);(obtain ⟨c3,f3,c4,f4⟩:=hx);clear hJ)
 go_end0
 have hJ:=HJ.out
 obtain ⟨arr,tr,_,_,_,_,_,_,_,_,⟨_,hH0,_⟩,hBW⟩:=hJ
 have hlt:g<w.heap.size:=blk_lt HG.out
 have hgW:=(hBW.block g hlt).trans HG.out
 refine ⟨rfl,_,_,blk_put (blk_put hgW 3 _ rfl) 4 _ rfl,H,H0,rfl,tabR_set (tabR_set (tabR_of HJ.out) (by omega) _) (by omega) _,by omega,?_⟩
 exact (((HB.out.trans (hBW.mono (by omega))).setCell (p:=⟨g,3,none⟩) hB _).setCell (p:=⟨g,4,none⟩) hB _)
theorem once_after (g B:Nat) (w0 W:World) (y3 y4:Value) (hQ:tabQ g B w0 W y3) (hB:B≤g) (hW:W.heap[g]? = some (.cells #[.int .u32 0,.int .i32 1,.int .u32 0,y3,y4] 91 (0,0))) :
 ∃ H H0,((W.drew.setCell ⟨g,0,none⟩ (.int .u32 1)).setCell ⟨g,1,none⟩ (.int .i32 0)).cell? ⟨g,3,none⟩=some (.iface 119 (.pointer (some ⟨H,0,none⟩)))∧tabR ((W.drew.setCell ⟨g,0,none⟩ (.int .u32 1)).setCell ⟨g,1,none⟩ (.int .i32 0)) H H0∧Below B w0 ((W.drew.setCell ⟨g,0,none⟩ (.int .u32 1)).setCell ⟨g,1,none⟩ (.int .i32 0))∧B≤((W.drew.setCell ⟨g,0,none⟩ (.int .u32 1)).setCell ⟨g,1,none⟩ (.int .i32 0)).heap.size:=by
 obtain ⟨H,H0,rfl,hT,hgt,hb⟩:=hQ
 have h2:=blk_put (blk_put (kd_ hW) 0 (.int .u32 1) rfl) 1 (.int .i32 0) rfl
 exact ⟨H,H0,(bc_ h2 3).trans rfl,tabR_set (tabR_set (tabR_drew hT) hgt _) hgt _,(hb.drew.setCell (p:=⟨g,0,none⟩) hB _).setCell (p:=⟨g,1,none⟩) hB _,by
  have h6:=hT.2.2.2.2.2.1
  have h7:=hT.2.2.2.2.2.2
  simp only [World.setCell,World.drew,Array.size_modify]
  omega⟩
set_option maxHeartbeats 16000000 in
set_option maxRecDepth 1000000 in
theorem replace_calls (g a c B:Nat) (w w0:World) (s:ByteArray) (hss:s.size≤1099511627776) (hg:w.heap[g]? = some (.cells #[.int .u32 0,.int .i32 0,.int .u32 0,.nilIface,.slice (some ⟨a,0,none⟩) 6 c] 91 (0,0))) (hs:∀ i,i<6→w.cell? ⟨a,i,none⟩=some (.string (escN.getD i ByteArray.empty))) (hag:a≠g) (hB:B≤g) (hb:Below B w0 w) :
 Calls Tryz.prog 39 #[.pointer (some ⟨g,0,none⟩),.string s] w fun e w'=>e=.returned (.string (escT s))∧Below B w0 w':=by
 have hF:=buildOnce_calls g a c B (w.setCell ⟨g,1,none⟩ (.int .i32 1)) w0 (blk_put hg 1 (.int .i32 1) rfl) (fun i hi=>(World.cell?_of_block (w:=w) (Below.heap_setCell w ⟨g,1,none⟩ _ a hag)).trans (hs i hi)) hB (hb.setCell (p:=⟨g,1,none⟩) hB _)
 have HD:=A_ (once_do g .nilIface (.slice (some ⟨a,0,none⟩) 6 c) w (tabQ g B w0) hg hF)
 clear hF hs hg hb
 have hm:∀ (H:Nat) (W:World),(method (Tryz.prog.types.size+100) 119 (.pointer (some ⟨H,0,none⟩)) "Replace").run Tryz.prog W = .ok (147, .pointer (some ⟨H, 0, none⟩)) W := fun _ _ => by kernel_rfl
 simp only [Tryz.types_size,Nat.reduceAdd] at hm
 go_enter Tryz.func39,Tryz.ntmps39
 go_wp2_with (first|(go_at_call 147;(with_reducible refine (br_calls _ _ w2 s hss HT.out).mono ?_);rintro e w3 ⟨rfl,hb3⟩;(have HB3:=A_ (HBL.out.1.trans (hb3.mono HBL.out.2)));clear hb3)|(go_at_call 49;(with_reducible refine HD.out.mono ?_);rintro e w2 ⟨rfl,W,y3,y4,hQ,hW,hw2⟩;(have hx:=once_after g B w0 W y3 y4 hQ hB hW);rw [←hw2] at hx;(obtain ⟨H,H0,hl,hT,hbl⟩:=hx);(have HT:=A_ hT);(have HBL:=A_ hbl);clear hQ hW hw2 hT hbl))
 go_ret
 exact ⟨rfl,HB3.out⟩
end Go.Proofs.YtlpncjeahdfolaaGreatDoor.PFnExactSerialize
