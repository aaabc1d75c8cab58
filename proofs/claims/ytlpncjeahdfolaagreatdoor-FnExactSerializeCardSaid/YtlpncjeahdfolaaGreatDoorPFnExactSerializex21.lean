/- By a program of this session, out of the kit's print and contracts made by hand: the machine side of a law; Lean checks it. No conditions. -/
import Derived.Test.YtlpncjeahdfolaaGreatDoorPFnExactSerializex0
namespace Go.Proofs.YtlpncjeahdfolaaGreatDoor.PFnExactSerialize
open Go.RowKit Go.Proofs.YtlpncjeahdfolaaGreatDoorW.PrintWords Go.Proofs.YtlpncjeahdfolaaGreatDoorW.PrintLast Go.Proofs.YtlpncjeahdfolaaGreatDoorW.PrintMore
attribute [local go_sem] max2_int min2_int max_two min_two max_three min_three max_four min_four
set_option linter.unusedVariables false
set_option linter.unusedSimpArgs false
/-! ### strings_build: function 63, by hand -/
def escN:List ByteArray:=[(⟨#[38]⟩:ByteArray),⟨#[38,97,109,112,59]⟩,⟨#[60]⟩,⟨#[38,108,116,59]⟩,⟨#[62]⟩,⟨#[38,103,116,59]⟩]
theorem info_118:(Tryz.prog.info? 118).map (·.size)=some 257:=by kernel_rfl
def escTab (v:Value):Array Value:=(Array.replicate 256 (.slice none 0 0)).push v
theorem escTab_size (v:Value):(escTab v).size=257:=by simp [escTab]
theorem escTab_at (v:Value) (b:Nat) (h:b<256):(escTab v)[b]? = some (.slice none 0 0):=by
 unfold escTab
 rw [Array.getElem?_push,if_neg (by simp;omega)]
 simp [h]
theorem escTab_last (v:Value):(escTab v)[256]? = some v:=by
 unfold escTab
 rw [Array.getElem?_push,if_pos (by simp)]
theorem run_build_tab (A:Option Addr) (n c:Nat) (w:World):(Instr.build 118 #[(1,.slice A n c)]).run Tryz.prog w=.ok (.agg (escTab (.slice A n c))) w:=by kernel_rfl
theorem run_alloc_tab (w:World):(Instr.alloc 118 true (.tuple #[])).run Tryz.prog w=.ok (.pointer (some ⟨w.heap.size,0,none⟩)) (w.alloc (.cells (escTab (.slice none 0 0)) 118 (0,0))):=by
 have hz:∀ w,(zeroValue 118).run Tryz.prog w=.ok (.agg (escTab (.slice none 0 0))) w:=fun _=>by kernel_rfl
 simp [Instr.alloc,hz,newVar,newRow]
 first|done|rfl
theorem tabs_list {α : Type} (l:List α) (o:Nat) (v : α) (vs:List α) (h:o<l.length):(l.set o v).take (o+1)++vs++(l.set o v).drop (o+1+vs.length)=l.take o++(v :: vs)++l.drop (o+(v :: vs).length):=by
 have h1:(l.set o v).take (o+1)=l.take o++[v]:=by
  apply List.ext_getElem?
  intro j
  rw [List.getElem?_take,List.getElem?_set]
  by_cases h1:j<o
  ·rw [if_pos (by omega),if_neg (by omega),List.getElem?_append_left (by rw [lt_];omega),List.getElem?_take,if_pos h1]
  ·by_cases h2:j=o
   ·subst h2
    rw [if_pos (by omega),if_pos rfl,if_pos h,List.getElem?_append_right (by rw [lt_];omega),lt_,Nat.min_eq_left (by omega),Nat.sub_self]
    rfl
   ·rw [if_neg (by omega),List.getElem?_eq_none]
    rw [List.length_append,lt_,List.length_singleton]
    omega
 have h2:(l.set o v).drop (o+1+vs.length)=l.drop (o+(v :: vs).length):=by
  apply List.ext_getElem?
  intro j
  rw [List.getElem?_drop,List.getElem?_drop,List.getElem?_set,if_neg (by omega),List.length_cons,show o+1+vs.length+j=o+(vs.length+1)+j by omega]
 rw [h1,h2,List.append_assoc (l.take o) [v] vs]
 rfl
/-- A run of cells stored into one block: what the block holds behind it; all other blocks stay. -/
theorem tab_puts {b:Nat} {t:TypeId} : ∀ (vs:List Value) (o:Nat) (w:World) (cs:Array Value),w.heap[b]? = some (.cells cs t (0,0))→o+vs.length≤cs.size→∃ cs':Array Value,(w.setCells b o vs).heap[b]? = some (.cells cs' t (0,0))∧cs'.toList=cs.toList.take o++vs++cs.toList.drop (o+vs.length)∧(∀ k,k≠b→(w.setCells b o vs).heap[k]? = w.heap[k]?)
 | [],o,w,cs,h,_=>⟨cs,h,by rw [List.append_nil,List.length_nil,Nat.add_zero,List.take_append_drop],fun _ _=>rfl⟩
 | v :: vs,o,w,cs,h,hl=>by
  rw [List.length_cons] at hl
  obtain ⟨cs',h1,h2,h3⟩:=tab_puts vs (o+1) (w.setCell ⟨b,o,none⟩ v) (cs.setIfInBounds o v) (blk_put h o v rfl) (by rw [Array.size_setIfInBounds];omega)
  refine ⟨cs',h1,?_,fun k hk=>(h3 k hk).trans (Below.heap_setCell w ⟨b,o,none⟩ v k hk)⟩
  rw [h2,Array.toList_setIfInBounds]
  exact tabs_list cs.toList o v vs (by rw [Array.length_toList];omega)
theorem tab_below {B b:Nat} {W0:World} (hg:B≤b):∀ (vs:List Value) (o:Nat) (w:World),Below B W0 w→Below B W0 (w.setCells b o vs)
 | [],_,_,h=>h
 | v :: vs,o,w,h=>tab_below hg vs (o+1) (w.setCell ⟨b,o,none⟩ v) (h.setCell hg _)
theorem escTab_one (A:Option Addr) (n c:Nat):∀ q∈(escTab (.slice A n c)).toList,q.oneCell'=true:=by
 intro q hq
 unfold escTab at hq
 rw [Array.toList_push,List.mem_append,Array.toList_replicate] at hq
 rcases hq with hq|hq
 ·rw [List.eq_of_mem_replicate hq];rfl
 ·rw [List.mem_singleton.1 hq];rfl
theorem zero_tab:Tryz.zeroCells118=escTab (.slice none 0 0):=by kernel_rfl
theorem zero_set (v:Value):Tryz.zeroCells118.toList.set 256 v=(escTab v).toList:=by kernel_rfl
/-- The table's cells stored over a fresh block: what the block then holds. -/
theorem tab_store (w:World) (R:Obj) (A:Option Addr) (n c:Nat):∃ W3,(storeCells ⟨w.heap.size+1,0,none⟩ (Tryz.zeroCells118.toList.set 256 (.slice A n c))).run Tryz.prog ((w.alloc R).alloc (.cells Tryz.zeroCells118 118 (0,0)))=.ok () W3∧W3.heap[w.heap.size+1]? = some (.cells (escTab (.slice A n c)) 118 (0,0))∧(∀ k,k≠w.heap.size+1→W3.heap[k]? = ((w.alloc R).alloc (.cells Tryz.zeroCells118 118 (0,0))).heap[k]?)∧Below w.heap.size w W3:=by
 have hh:((w.alloc R).alloc (.cells Tryz.zeroCells118 118 (0,0))).heap[w.heap.size+1]? = some (.cells Tryz.zeroCells118 118 (0,0)):=by
  have h:=blk_new (w.alloc R) (.cells Tryz.zeroCells118 118 (0,0))
  rwa [World.size_alloc] at h
 have hz:Tryz.zeroCells118.size=257:=by rw [zero_tab,escTab_size]
 have hl:(escTab (.slice A n c)).toList.length=257:=by rw [Array.length_toList];exact escTab_size _
 have hst:=run_storeCells_cells (P:=Tryz.prog) (w.heap.size+1) 0 (escTab (.slice A n c)).toList 0 ((w.alloc R).alloc (.cells Tryz.zeroCells118 118 (0,0))) (fun j hj=>by rw [bc_ hh,Array.getElem?_eq_getElem (by rw [hz];omega)];rfl) (fun j hj=>bf_ hh _) (escTab_one A n c)
 rw [zero_set]
 refine ⟨_,hst,?_,?_,?_⟩
 ·obtain ⟨cs',h1,h2,_⟩:=tab_puts (escTab (.slice A n c)).toList (0+0) _ _ hh (by rw [hl,hz];exact Nat.le_refl _)
  rw [h1]
  have h3:cs'.toList=(escTab (.slice A n c)).toList:=by
   rw [h2,Nat.add_zero,List.take_zero,List.nil_append,List.drop_of_length_le (by rw [Array.length_toList,hz,hl];exact Nat.le_refl _),List.append_nil]
  have h4:cs'=escTab (.slice A n c):=by rw [←Array.toArray_toList (xs:=cs'),h3,Array.toArray_toList]
  rw [h4]
 ·exact (tab_puts (escTab (.slice A n c)).toList (0+0) _ _ hh (by rw [hl,hz];exact Nat.le_refl _)).choose_spec.2.2
 ·exact tab_below (by omega) _ _ _ (ba_ (ba_ (Below.refl _ _) _) _)
/-- A value is the bytes of a text, in memory of its own. -/
def escBytes (W:World) (lo:Nat) (u:Value) (v:ByteArray):Prop:=∃ x c,u=.slice (some ⟨x,0,none⟩) v.size c∧lo≤x∧x<W.heap.size∧∀ i,i<v.size→W.cell? ⟨x,i,none⟩=some (.int .u8 (bt v (i:Int)))
set_option maxHeartbeats 4000000 in
/-- One round of build's last loop: the key's text laid behind the keys, the value's bytes laid at the key's place. -/
theorem build_round (w':World) (H H0 j:Nat) (key:UInt8) (arr tr:Array Value) (v:ByteArray) (hH:w'.heap[H]? = some (.cells arr 118 (0,0))) (hH0:w'.heap[H0]? = some (.cells tr 9 (0,0))) (hne:H≠H0) (hsz:arr.size=257) (htr:tr.size=3) (hj:j<3) :
 ∃ V3 V5 u,(∀ ty,(Builtin.append_ #[65,65] ty #[.slice (some ⟨H0,0,none⟩) j 3,.slice (some ⟨w'.heap.size+1,0,none⟩) 1 1]).run Tryz.prog ((w'.alloc (.cells #[.int .u8 (key.toNat:Int)] 5 (0,0))).alloc (.cells #[.string ⟨#[key]⟩] 9 (0,0)))=.ok (.slice (some ⟨H0,0,none⟩) (j+1) 3) V3) ∧
  V3.cell? ⟨H,256,none⟩=arr[256]? ∧ V3.frozen? ⟨H,256,none⟩=false ∧
  (convert 9 48 (.string v)).run Tryz.prog (V3.setCell ⟨H,256,none⟩ (.slice (some ⟨H0,0,none⟩) (j+1) 3))=.ok u V5 ∧
  (∀ b:Nat,b<256→V5.cell? ⟨H,b,none⟩=arr[b]?)∧(∀ b:Nat,V5.frozen? ⟨H,b,none⟩=false) ∧
  (V5.setCell ⟨H,key.toNat,none⟩ u).heap[H]? = some (.cells ((arr.setIfInBounds 256 (.slice (some ⟨H0,0,none⟩) (j+1) 3)).setIfInBounds key.toNat u) 118 (0,0)) ∧
  (V5.setCell ⟨H,key.toNat,none⟩ u).heap[H0]? = some (.cells (tr.setIfInBounds j (.string ⟨#[key]⟩)) 9 (0,0)) ∧
  escBytes (V5.setCell ⟨H,key.toNat,none⟩ u) w'.heap.size u v∧(∀ k,k<w'.heap.size→k≠H→k≠H0→(V5.setCell ⟨H,key.toNat,none⟩ u).heap[k]? = w'.heap[k]?) ∧
  (∀ (B:Nat) (W0:World),B≤H→B≤H0→Below B W0 w'→Below B W0 (V5.setCell ⟨H,key.toNat,none⟩ u)):=by
 obtain ⟨i0,hi0,hz0⟩:=Option.map_eq_some_iff.1 (show (Tryz.prog.info? 9).map (·.size)=some 1 by kernel_rfl)
 have hs1:(w'.alloc (.cells #[.int .u8 (key.toNat:Int)] 5 (0,0))).heap.size=w'.heap.size+1:=World.size_alloc _ _
 have hn:((w'.alloc (.cells #[.int .u8 (key.toNat:Int)] 5 (0,0))).alloc (.cells #[.string ⟨#[key]⟩] 9 (0,0))).heap[w'.heap.size+1]? = some (.cells #[.string ⟨#[key]⟩] 9 (0,0)):=by
  have h:=blk_new (w'.alloc (.cells #[.int .u8 (key.toNat:Int)] 5 (0,0))) (.cells #[.string ⟨#[key]⟩] 9 (0,0))
  rwa [hs1] at h
 have hH2:=ka_ (ka_ hH (.cells #[.int .u8 (key.toNat:Int)] 5 (0,0))) (.cells #[.string ⟨#[key]⟩] 9 (0,0))
 have hH02:=ka_ (ka_ hH0 (.cells #[.int .u8 (key.toNat:Int)] 5 (0,0))) (.cells #[.string ⟨#[key]⟩] 9 (0,0))
 have hB2:∀ (B:Nat) (W0:World),B≤w'.heap.size→Below B W0 w'→Below B W0 ((w'.alloc (.cells #[.int .u8 (key.toNat:Int)] 5 (0,0))).alloc (.cells #[.string ⟨#[key]⟩] 9 (0,0))):=fun B W0 hb h=>(h.alloc hb _).alloc (by rw [hs1];omega) _
 have hsm:∀ k,k<w'.heap.size→((w'.alloc (.cells #[.int .u8 (key.toNat:Int)] 5 (0,0))).alloc (.cells #[.string ⟨#[key]⟩] 9 (0,0))).heap[k]? = w'.heap[k]?:=fun k hk=>(hB2 w'.heap.size w' (Nat.le_refl _) (Below.refl _ _)).block k hk
 have hz2:((w'.alloc (.cells #[.int .u8 (key.toNat:Int)] 5 (0,0))).alloc (.cells #[.string ⟨#[key]⟩] 9 (0,0))).heap.size=w'.heap.size+2:=by rw [World.size_alloc,hs1]
 generalize ((w'.alloc (.cells #[.int .u8 (key.toNat:Int)] 5 (0,0))).alloc (.cells #[.string ⟨#[key]⟩] 9 (0,0)))=V2 at *
 have hap:=fun ty=>run_append_room_cells (P:=Tryz.prog) (w:=V2) 65 ty 9 i0 Tryz.underlying65 hi0 H0 0 j 3 ⟨w'.heap.size+1,0,none⟩ 1 1 [.string ⟨#[key]⟩] (by rw [hz0];rfl) (fun i u hi=>by
  cases i with
  | succ i=>simp at hi
  | zero =>
   simp at hi
   rw [add_plain,bc_ hn,←hi]
   rfl) (by intro u hu;rw [List.mem_singleton.1 hu];rfl) (by omega) (fun i hi=>by rw [bc_ hH02,Array.getElem?_eq_getElem (by rw [hz0];simp at hi;omega)];rfl) (fun i hi=>bf_ hH02 _)
 rw [hz0,Nat.mul_one,Nat.zero_add] at hap
 have hp0:(V2.setCells H0 j [.string ⟨#[key]⟩])=V2.setCell ⟨H0,j,none⟩ (.string ⟨#[key]⟩):=rfl
 rw [hp0] at hap
 have hH03:=blk_put hH02 j (.string ⟨#[key]⟩) rfl
 have hH3:(V2.setCell ⟨H0,j,none⟩ (.string ⟨#[key]⟩)).heap[H]? = some (.cells arr 118 (0,0)):=(Below.heap_setCell V2 ⟨H0,j,none⟩ _ H hne).trans hH2
 have hH4:=blk_put hH3 256 (.slice (some ⟨H0,0,none⟩) (j+1) 3) rfl
 have hH04:((V2.setCell ⟨H0,j,none⟩ (.string ⟨#[key]⟩)).setCell ⟨H,256,none⟩ (.slice (some ⟨H0,0,none⟩) (j+1) 3)).heap[H0]? = _:=(Below.heap_setCell _ ⟨H,256,none⟩ _ H0 (fun e=>hne e.symm)).trans hH03
 have hB4:∀ (B:Nat) (W0:World),B≤H→B≤H0→Below B W0 w'→Below B W0 ((V2.setCell ⟨H0,j,none⟩ (.string ⟨#[key]⟩)).setCell ⟨H,256,none⟩ (.slice (some ⟨H0,0,none⟩) (j+1) 3)):=fun B W0 h1 h2 h=>((hB2 B W0 (Nat.le_trans h1 (Nat.le_of_lt (blk_lt hH))) h).setCell h2 _).setCell h1 _
 have hk4:∀ k,k<w'.heap.size→k≠H→k≠H0→((V2.setCell ⟨H0,j,none⟩ (.string ⟨#[key]⟩)).setCell ⟨H,256,none⟩ (.slice (some ⟨H0,0,none⟩) (j+1) 3)).heap[k]? = w'.heap[k]?:=fun k hk h1 h2=>(Below.heap_setCell _ ⟨H,256,none⟩ _ k h1).trans ((Below.heap_setCell _ ⟨H0,j,none⟩ _ k h2).trans (hsm k hk))
 have hs4:w'.heap.size≤((V2.setCell ⟨H0,j,none⟩ (.string ⟨#[key]⟩)).setCell ⟨H,256,none⟩ (.slice (some ⟨H0,0,none⟩) (j+1) 3)).heap.size:=(hB4 0 w' (Nat.zero_le _) (Nat.zero_le _) (Below.refl _ _)).size
 generalize hV4:((V2.setCell ⟨H0,j,none⟩ (.string ⟨#[key]⟩)).setCell ⟨H,256,none⟩ (.slice (some ⟨H0,0,none⟩) (j+1) 3))=V4 at *
 have hcv:=run_bytes_of_string (P:=Tryz.prog) V4 9 48 5 v Tryz.underlying9 Tryz.underlying48 Tryz.underlying5
 refine ⟨V2.setCell ⟨H0,j,none⟩ (.string ⟨#[key]⟩),_,_,hap,bc_ hH3 256,bf_ hH3 256,by rw [hV4];exact hcv,?_⟩
 generalize hC:(Obj.cells (bytesRow v (grownCap V4 v.size 0 5)) 5 ((bytesRow v (grownCap V4 v.size 0 5)).size,(bytesRow v (grownCap V4 v.size 0 5)).size+1))=C
 have hH5:(V4.drew.alloc C).heap[H]? = _:=ka_ (kd_ hH4) C
 have hH05:(V4.drew.alloc C).heap[H0]? = _:=ka_ (kd_ hH04) C
 have hx:(V4.drew.alloc C).heap[V4.heap.size]? = some C:=blk_new V4.drew C
 have hlt:H<V4.heap.size:=blk_lt hH4
 refine ⟨fun b hb=>?_,fun b=>bf_ hH5 b,blk_put hH5 key.toNat _ rfl,(Below.heap_setCell _ ⟨H,key.toNat,none⟩ _ H0 (fun e=>hne e.symm)).trans hH05,⟨V4.heap.size,_,rfl,hs4,?_,fun i hi=>?_⟩,fun k hk h1 h2=>?_,fun B W0 h1 h2 h=>((Below.drew (hB4 B W0 h1 h2 h)).alloc (Nat.le_trans h1 (Nat.le_of_lt hlt)) C).setCell h1 _⟩
 ·rw [bc_ hH5,Array.getElem?_setIfInBounds,if_neg (by omega)]
 ·have h2:=blk_lt ((Below.heap_setCell (V4.drew.alloc C) ⟨H,key.toNat,none⟩ (.slice (some ⟨V4.heap.size,0,none⟩) v.size (grownCap V4 v.size 0 5)) V4.heap.size (fun (e:V4.heap.size=H)=>by omega)).trans hx)
  exact h2
 ·have h2:=(Below.heap_setCell (V4.drew.alloc C) ⟨H,key.toNat,none⟩ (.slice (some ⟨V4.heap.size,0,none⟩) v.size (grownCap V4 v.size 0 5)) V4.heap.size (fun (e:V4.heap.size=H)=>by omega)).trans hx
  rw [←hC] at h2
  have h3:=cell_of_row _ V4.heap.size i _ 5 _ h2
  rw [hC] at h3
  rw [h3,bytesRow_at v _ i hi]
  exact congrArg (fun n:Int=>some (Value.int .u8 n)) (bt_at v (i:Int) hi)
 ·exact (Below.heap_setCell _ ⟨H,key.toNat,none⟩ _ k h1).trans ((((Below.refl V4.heap.size V4).drew.alloc (Nat.le_refl _) C).block k (by omega)).trans (hk4 k hk h1 h2))
/-- An append whose run is told. -/
theorem append_event {P:Program} {ops:Array Oper} {rest:List Oper} {o:Oper} {a:Act} {Q:Exit→Act→World→Prop} {W W1:World} {u v r:Value} (hgd:o.guard=none) (s x:Operand) (ts:Array TypeId) (ho:o.op=.call { callee:=.builtin .append,args:=#[s,x],argTypes:=ts }) (hs:a.eval s=u) (hx:a.eval x=v) (hrun:∀ ty,(Builtin.append_ ts ty #[u,v]).run P W=.ok r W1) (h:wpList P ops Q rest (a.put o.dst r) W1):wpList P ops Q (o :: rest) a W:=by
 refine Kd.event_run hgd ?_ h
 unfold execOp
 simp only [ho,resolve,invoke,builtin,Sem.run_bind,Sem.run_pure,Result.andThen_ok,List.map_toArray,List.map_cons,List.map_nil,hs,hx,hrun]
theorem one_byte (key:UInt8) (ki:Int) (hki:ki=(key.toNat:Int)) (w:World):(convert 48 9 (.slice (some ⟨w.heap.size,0,none⟩) 1 1)).run Tryz.prog (w.alloc (.cells #[.int .u8 ki] 5 (0,0)))=.ok (.string ⟨#[key]⟩) (w.alloc (.cells #[.int .u8 ki] 5 (0,0))):=by
 have h:=run_convert_bytes_arg (P:=Tryz.prog) (w.alloc (.cells #[.int .u8 ki] 5 (0,0))) 48 5 Tryz.underlying48 Tryz.underlying5 w.heap.size 0 1 1 [ki] rfl (fun i hi=>by
  obtain rfl:i=0:=by simp at hi;omega
  exact (bc_ (blk_new w _) 0).trans rfl) 9 Tryz.underlying9
 rw [h,hki]
 simp [strOfNums]
def keyN (j:Nat):Nat:=if j=0 then 62 else if j=1 then 60 else 38
def keyT (j:Nat):ByteArray:=if j=0 then ⟨#[62]⟩ else if j=1 then ⟨#[60]⟩ else ⟨#[38]⟩
def valT (j:Nat):ByteArray:=if j=0 then ⟨#[38,103,116,59]⟩ else if j=1 then ⟨#[38,108,116,59]⟩ else ⟨#[38,97,109,112,59]⟩
/-- The table behind j rounds. -/
def tabJ (w:World) (H H0 j:Nat) (W:World):Prop:=∃ arr tr:Array Value,W.heap[H]? = some (.cells arr 118 (0,0))∧arr.size=257∧arr[256]? = some (.slice (some ⟨H0,0,none⟩) j 3)∧W.heap[H0]? = some (.cells tr 9 (0,0))∧tr.size=3∧(∀ t,t<j→tr[t]? = some (.string (keyT t)))∧(∀ b,b<256→(∀ t,t<j→b≠keyN t)→arr[b]? = some (.slice none 0 0))∧(∀ t,t<j→∃ u,arr[keyN t]? = some u∧escBytes W (H+1) u (valT t))∧(w.heap.size≤H∧w.heap.size≤H0∧H0<H)∧Below w.heap.size w W
theorem keyN_ne {s t:Nat} (hs:s<3) (ht:t<3) (h:s≠t):keyN s≠keyN t:=by
 unfold keyN
 rcases (show s=0∨s=1∨s=2 by omega) with rfl|rfl|rfl <;> rcases (show t=0∨t=1∨t=2 by omega) with rfl|rfl|rfl <;> simp at h ⊢
set_option maxHeartbeats 4000000 in
theorem tabJ_next (w W:World) (H H0 j:Nat) (key:UInt8) (ki:Int) (kn:Nat) (hj:j<3) (h:tabJ w H H0 j W) (hkn:kn=keyN j) (hk:key.toNat=kn) (hki:ki=(kn:Int)) (hkt:(⟨#[key]⟩:ByteArray)=keyT j) :
 W.cell? ⟨H,kn,none⟩=some (.slice none 0 0)∧W.cell? ⟨H,256,none⟩=some (.slice (some ⟨H0,0,none⟩) j 3) ∧
 ∃ V3 V5 u,(∀ ty,(Builtin.append_ #[65,65] ty #[.slice (some ⟨H0,0,none⟩) j 3,.slice (some ⟨W.heap.size+1,0,none⟩) 1 1]).run Tryz.prog ((W.alloc (.cells #[.int .u8 ki] 5 (0,0))).alloc (.cells #[.string ⟨#[key]⟩] 9 (0,0)))=.ok (.slice (some ⟨H0,0,none⟩) (j+1) 3) V3) ∧
  V3.cell? ⟨H,256,none⟩=some (.slice (some ⟨H0,0,none⟩) j 3)∧V3.frozen? ⟨H,256,none⟩=false ∧
  (convert 9 48 (.string (valT j))).run Tryz.prog (V3.setCell ⟨H,256,none⟩ (.slice (some ⟨H0,0,none⟩) (j+1) 3))=.ok u V5 ∧
  V5.cell? ⟨H,kn,none⟩=some (.slice none 0 0)∧V5.frozen? ⟨H,kn,none⟩=false∧tabJ w H H0 (j+1) (V5.setCell ⟨H,kn,none⟩ u)∧(∃ x n c,u=.slice (some ⟨x,0,none⟩) n c):=by
 obtain ⟨arr,tr,a1,a2,a3,a4,a5,a6,a7,a8,⟨a9,a10,a11⟩,a12⟩:=h
 have hk256:keyN j<256:=by unfold keyN;split <;> (try split) <;> omega
 obtain ⟨V3,V5,u,b1,b2,b3,b4,b5,b6,b7,b8,b9,b10,b11⟩:=build_round W H H0 j key arr tr (valT j) a1 a4 (by omega) a2 a5 hj
 subst hkn
 rw [hk] at b1 b7 b8 b9 b10 b11
 subst hki
 have hnil:=a7 (keyN j) hk256 (fun t ht=>keyN_ne hj (by omega) (by omega))
 have hun:=b9
 obtain ⟨ux,uc,hu1,_,_,_⟩:=hun
 refine ⟨(bc_ a1 _).trans hnil,(bc_ a1 _).trans a3,V3,V5,u,b1,b2.trans a3,b3,b4,(b5 _ hk256).trans hnil,b6 _,?_,ux,_,uc,hu1⟩
 refine ⟨_,_,b7,by rw [Array.size_setIfInBounds,Array.size_setIfInBounds];exact a2,?_,b8,by rw [Array.size_setIfInBounds];exact a5,fun t ht=>?_,fun b hb hne=>?_,fun t ht=>?_,⟨a9,a10,a11⟩,b11 _ _ a9 a10 a12⟩
 ·rw [Array.getElem?_setIfInBounds,if_neg (by omega),Array.getElem?_setIfInBounds,if_pos rfl,if_pos (by omega)]
 ·rw [Array.getElem?_setIfInBounds]
  by_cases e:j=t
  ·subst e
   rw [if_pos rfl,if_pos (by omega),hkt]
  ·rw [if_neg e]
   exact a6 t (by omega)
 ·rw [Array.getElem?_setIfInBounds,if_neg (fun e=>hne j (by omega) e.symm),Array.getElem?_setIfInBounds,if_neg (by omega)]
  exact a7 b hb (fun t ht=>hne t (by omega))
 ·by_cases e:t=j
  ·subst e
   obtain ⟨x,c,e1,e2,e3,e4⟩:=b9
   refine ⟨u,by rw [Array.getElem?_setIfInBounds,if_pos rfl,if_pos (by rw [Array.size_setIfInBounds];omega)],x,c,e1,?_,e3,e4⟩
   have:=blk_lt a1
   omega
  ·obtain ⟨u',f1,x,c,f2,f3,f4,f5⟩:=a8 t (by omega)
   have hsame:=b10 x f4 (by omega) (by omega)
   refine ⟨u',?_,x,c,f2,f3,?_,fun i hi=>?_⟩
   ·rw [Array.getElem?_setIfInBounds,if_neg (keyN_ne hj (by omega) (fun h=>e h.symm)),Array.getElem?_setIfInBounds,if_neg ?_]
    ·exact f1
    ·have:keyN t<256:=by unfold keyN;split <;> (try split) <;> omega
     omega
   ·exact Nat.lt_of_lt_of_le f4 (b11 0 W (Nat.zero_le _) (Nat.zero_le _) (Below.refl _ _)).size
   ·rw [←f5 i hi]
    simp [World.cell?,hsame]
set_option maxHeartbeats 16000000 in
set_option maxRecDepth 1000000 in
theorem build_calls (g a c:Nat) (w:World) (hg:w.heap[g]? = some (.cells #[.int .u32 0,.int .i32 1,.int .u32 0,.nilIface,.slice (some ⟨a,0,none⟩) 6 c] 91 (0,0))) (hs:∀ i,i<6→w.cell? ⟨a,i,none⟩=some (.string (escN.getD i ByteArray.empty))) :
 Calls Tryz.prog 63 #[.pointer (some ⟨g,0,none⟩)] w fun e w'=>∃ H H0,e=.returned (.iface 119 (.pointer (some ⟨H,0,none⟩)))∧tabJ w H H0 3 w':=by
 have hl4:w.cell? ⟨g,4,none⟩=some (.slice (some ⟨a,0,none⟩) 6 c):=(bc_ hg 4).trans rfl
 have s0:w.cell? ⟨a,0,none⟩=some (.string ⟨#[38]⟩):=hs 0 (by omega)
 have s1:w.cell? ⟨a,1,none⟩=some (.string ⟨#[38,97,109,112,59]⟩):=hs 1 (by omega)
 have s2:w.cell? ⟨a,2,none⟩=some (.string ⟨#[60]⟩):=hs 2 (by omega)
 have s3:w.cell? ⟨a,3,none⟩=some (.string ⟨#[38,108,116,59]⟩):=hs 3 (by omega)
 have s4:w.cell? ⟨a,4,none⟩=some (.string ⟨#[62]⟩):=hs 4 (by omega)
 have s5:w.cell? ⟨a,5,none⟩=some (.string ⟨#[38,103,116,59]⟩):=hs 5 (by omega)
 have hmk:∀ W:World,(Instr.makeSlice 65 (.int .i64 0) (.int .i64 3)).run Tryz.prog W=.ok (.slice (some ⟨W.heap.size,0,none⟩) 0 3) (W.alloc (.cells #[.string ⟨#[]⟩,.string ⟨#[]⟩,.string ⟨#[]⟩] 9 (0,0))):=fun _=>by kernel_rfl
 have hbd:=run_build_tab
 have hal:=run_alloc_tab
 obtain ⟨W3,hst,hW1,hW2,hW3⟩:=tab_store w (.cells #[.string ⟨#[]⟩,.string ⟨#[]⟩,.string ⟨#[]⟩] 9 (0,0)) (some ⟨w.heap.size,0,none⟩) 0 3
 have HW1:=A_ hW1
 have HW2:=A_ hW2
 have HW3:=A_ hW3
 have HS:=A_ hs
 have HG:=A_ hg
 clear hW1 hW2 hW3
 clear hs hg
 go_enter Tryz.func63,Tryz.ntmps63
 go_wp2_with fail
 go_loopg [4,5] 4 (fun kq v4 v5 w'=>∃ j:Nat,j≤3∧kq+j=4∧v5=.int .i64 (2 * (j:Int))∧v4=.bool (decide (j=0))∧w'=w)
 case atStart=>exact ⟨0,by omega,rfl,rfl,rfl,rfl⟩
 case round =>
  obtain ⟨j,hj,hk,rfl,rfl,hw⟩:=hrel
  have hw2:=hw.symm
  subst hw2
  clear hw
  rcases (show j=0∨j=1∨j=2∨j=3 by omega) with rfl|rfl|rfl|rfl
  ·obtain rfl:gk=4:=by omega
   go_wp2
   go_roundg 3
   case measure=>omega
   case rel=>exact ⟨1,by omega,rfl,rfl,rfl,rfl⟩
  ·obtain rfl:gk=3:=by omega
   go_wp2
   go_roundg 2
   case measure=>omega
   case rel=>exact ⟨2,by omega,rfl,rfl,rfl,rfl⟩
  ·obtain rfl:gk=2:=by omega
   go_wp2
   go_roundg 1
   case measure=>omega
   case rel=>exact ⟨3,by omega,rfl,rfl,rfl,rfl⟩
  ·go_wp2_with fail
   have HJ:Aside0 (tabJ w (w.heap.size+1) w.heap.size 0 W3):=⟨by
    have hr3:W3.heap[w.heap.size]? = some (.cells #[.string ⟨#[]⟩,.string ⟨#[]⟩,.string ⟨#[]⟩] 9 (0,0)):=by
     rw [HW2.out _ (by omega)]
     exact ka_ (blk_new w _) _
    exact ⟨_,_,HW1.out,escTab_size _,escTab_last _,hr3,rfl,fun t ht=>absurd ht (by omega),fun b hb _=>escTab_at _ b hb,fun t ht=>absurd ht (by omega),⟨by omega,Nat.le_refl _,by omega⟩,HW3.out⟩⟩
   generalize w.heap.size+1=H at *
   have H0eq:∃ H0,H0=w.heap.size:=⟨_,rfl⟩
   go_loopg [12,13,14] 4 (fun kq v12 v13 v14 w'=>∃ j:Nat,j≤3∧kq+j=4∧v12=.int .i64 (4 - 2 * (j:Int))∧Aside0 (tabJ w H w.heap.size j w'))
   case atStart=>exact ⟨0,by omega,rfl,rfl,HJ⟩
   case round =>
    obtain ⟨j,hj,hk2,rfl,HT⟩:=hrel
    rcases (show j=0∨j=1∨j=2∨j=3 by omega) with rfl|rfl|rfl|rfl
    ·obtain rfl:gk=4:=by omega
     have hB:=HT.out
     obtain ⟨arr_,tr_,_,_,_,_,_,_,_,_,_,hBW⟩:=hB
     have q4:=pc_ hBW s4
     have q5:=pc_ hBW s5
     obtain ⟨k1,k2,V3,V5,u,hap,k3,k4,hcv,k5,k6,hT,ux,un,uc,hux⟩:=tabJ_next w wr H w.heap.size 0 62 62 62 (by omega) HT.out rfl rfl rfl rfl
     subst hux
     have HT2:Aside0 (tabJ w H w.heap.size 1 (V5.setCell ⟨H,62,none⟩ (.slice (some ⟨ux,0,none⟩) un uc))):=A_ hT
     have hap2:∀ ty,(Builtin.append_ #[65,65] ty #[.slice (some ⟨w.heap.size,0,none⟩) 0 3,.slice (some ⟨wr.heap.size+1,0,none⟩) 1 1]).run Tryz.prog ((wr.alloc (.cells #[.int .u8 62] 5 (0,0))).alloc (.cells #[.string ⟨#[62]⟩] 9 (0,0)))=.ok (.slice (some ⟨w.heap.size,0,none⟩) 1 3) V3:=hap
     have hcv2:(convert 9 48 (.string ⟨#[38,103,116,59]⟩)).run Tryz.prog (V3.setCell ⟨H,256,none⟩ (.slice (some ⟨w.heap.size,0,none⟩) 1 3))=.ok (.slice (some ⟨ux,0,none⟩) un uc) V5:=hcv
     clear hap hcv
     have hbs:=one_byte 62 62 rfl wr
     have hby:((⟨#[62]⟩:ByteArray)[0]'(by decide)).toNat=62:=rfl
     have hnil:=fun W:World=>Lib.run_eql_slice_nil (P:=Tryz.prog) W 48 5 none 0 0 0 0 Tryz.underlying48
     clear hBW hT
     go_wp2_with ((with_reducible refine gate_builtin (b:=.append) (xs:=#[.tmp 119,.tmp 123]) rfl ?_);refine append_event rfl (.tmp 119) (.tmp 123) #[65,65] rfl rfl rfl hap2 ?_)
     go_roundg 3
     case measure=>omega
     case rel=>exact ⟨1,by omega,rfl,rfl,HT2⟩
    ·obtain rfl:gk=3:=by omega
     have hB:=HT.out
     obtain ⟨arr_,tr_,_,_,_,_,_,_,_,_,_,hBW⟩:=hB
     have q2:=pc_ hBW s2
     have q3:=pc_ hBW s3
     obtain ⟨k1,k2,V3,V5,u,hap,k3,k4,hcv,k5,k6,hT,ux,un,uc,hux⟩:=tabJ_next w wr H w.heap.size 1 60 60 60 (by omega) HT.out rfl rfl rfl rfl
     subst hux
     have HT2:Aside0 (tabJ w H w.heap.size 2 (V5.setCell ⟨H,60,none⟩ (.slice (some ⟨ux,0,none⟩) un uc))):=A_ hT
     have hap2:∀ ty,(Builtin.append_ #[65,65] ty #[.slice (some ⟨w.heap.size,0,none⟩) 1 3,.slice (some ⟨wr.heap.size+1,0,none⟩) 1 1]).run Tryz.prog ((wr.alloc (.cells #[.int .u8 60] 5 (0,0))).alloc (.cells #[.string ⟨#[60]⟩] 9 (0,0)))=.ok (.slice (some ⟨w.heap.size,0,none⟩) 2 3) V3:=hap
     have hcv2:(convert 9 48 (.string ⟨#[38,108,116,59]⟩)).run Tryz.prog (V3.setCell ⟨H,256,none⟩ (.slice (some ⟨w.heap.size,0,none⟩) 2 3))=.ok (.slice (some ⟨ux,0,none⟩) un uc) V5:=hcv
     clear hap hcv
     have hbs:=one_byte 60 60 rfl wr
     have hby:((⟨#[60]⟩:ByteArray)[0]'(by decide)).toNat=60:=rfl
     have hnil:=fun W:World=>Lib.run_eql_slice_nil (P:=Tryz.prog) W 48 5 none 0 0 0 0 Tryz.underlying48
     clear hBW hT
     go_wp2_with ((with_reducible refine gate_builtin (b:=.append) (xs:=#[.tmp 119,.tmp 123]) rfl ?_);refine append_event rfl (.tmp 119) (.tmp 123) #[65,65] rfl rfl rfl hap2 ?_)
     go_roundg 2
     case measure=>omega
     case rel=>exact ⟨2,by omega,rfl,rfl,HT2⟩
    ·obtain rfl:gk=2:=by omega
     have hB:=HT.out
     obtain ⟨arr_,tr_,_,_,_,_,_,_,_,_,_,hBW⟩:=hB
     have q0:=pc_ hBW s0
     have q1:=pc_ hBW s1
     obtain ⟨k1,k2,V3,V5,u,hap,k3,k4,hcv,k5,k6,hT,ux,un,uc,hux⟩:=tabJ_next w wr H w.heap.size 2 38 38 38 (by omega) HT.out rfl rfl rfl rfl
     subst hux
     have HT2:Aside0 (tabJ w H w.heap.size 3 (V5.setCell ⟨H,38,none⟩ (.slice (some ⟨ux,0,none⟩) un uc))):=A_ hT
     have hap2:∀ ty,(Builtin.append_ #[65,65] ty #[.slice (some ⟨w.heap.size,0,none⟩) 2 3,.slice (some ⟨wr.heap.size+1,0,none⟩) 1 1]).run Tryz.prog ((wr.alloc (.cells #[.int .u8 38] 5 (0,0))).alloc (.cells #[.string ⟨#[38]⟩] 9 (0,0)))=.ok (.slice (some ⟨w.heap.size,0,none⟩) 3 3) V3:=hap
     have hcv2:(convert 9 48 (.string ⟨#[38,97,109,112,59]⟩)).run Tryz.prog (V3.setCell ⟨H,256,none⟩ (.slice (some ⟨w.heap.size,0,none⟩) 3 3))=.ok (.slice (some ⟨ux,0,none⟩) un uc) V5:=hcv
     clear hap hcv
     have hbs:=one_byte 38 38 rfl wr
     have hby:((⟨#[38]⟩:ByteArray)[0]'(by decide)).toNat=38:=rfl
     have hnil:=fun W:World=>Lib.run_eql_slice_nil (P:=Tryz.prog) W 48 5 none 0 0 0 0 Tryz.underlying48
     clear hBW hT
     go_wp2_with ((with_reducible refine gate_builtin (b:=.append) (xs:=#[.tmp 119,.tmp 123]) rfl ?_);refine append_event rfl (.tmp 119) (.tmp 123) #[65,65] rfl rfl rfl hap2 ?_)
     go_roundg 1
     case measure=>omega
     case rel=>exact ⟨3,by omega,rfl,rfl,HT2⟩
    ·go_wp2
     go_ret
     exact ⟨H,w.heap.size,rfl,HT.out⟩
end Go.Proofs.YtlpncjeahdfolaaGreatDoor.PFnExactSerialize
