/- slices.Backward at open elements, and the loop over it that looks for a name: the innermost place at which it stands. No conditions. -/
import Derived.RangeFuncNested
import Derived.RangeFuncLeaves
import Derived.Shelf.Abstract
import Derived.WalkKit
import Derived.OwnWalkIn
import Derived.TacticsInMore
import Derived.LoopNIn
import Derived.LoopIn
import Derived.Test.YtophaihdibplkaaProg
import Derived.Test.YtophaihdibplkaaMach
import Derived.Test.YtophaihdibplkaaKit
namespace Go.Proofs.Ytophaihdibplkaa.Back
open Go.RowKit Go.Shelf Go.Proofs.YtophaihdibplkaaW.PrintWords
attribute [local go_sem] Oper.semAt_some
/-- What has come when k rounds are over. -/
def upto (f:Nat→Nat) (k:Nat):List Nat:=(List.range k).map f
theorem upto_succ (f:Nat→Nat) (k:Nat):upto f (k+1)=upto f k++[f k]:=by simp [upto,List.range_succ]
theorem upto_length (f:Nat→Nat) (k:Nat):(upto f k).length=k:=by simp [upto]
theorem upto_step {m q:Nat} (h:q+1≤m):upto (fun j=>m - 1 - j) (m - (q+1))++[q]=upto (fun j=>m - 1 - j) (m - q):=by
 have e:m - q=(m - (q+1))+1:=by omega
 rw [e,upto_succ]
 congr 2
 omega
/-- The last place below n at which v's name is t; -1 for none. -/
def lastI (v:Nat→ByteArray × Int) (t:ByteArray):Nat→Int
 | 0=>-1
 | n+1=>if (v n).1=t then (n:Int) else lastI v t n
theorem lastI_miss (v:Nat→ByteArray × Int) (t:ByteArray):∀ n,(∀ j,j<n→(v j).1≠t)→lastI v t n = -1
 | 0,_=>rfl
 | n+1,h=>by rw [lastI,if_neg (h n (Nat.lt_succ_self _))];exact lastI_miss v t n (fun j hj=>h j (by omega))
theorem lastI_hit (v:Nat→ByteArray × Int) (t:ByteArray) (k:Nat) (hk:(v k).1=t):∀ n,k<n→(∀ j,k<j→j<n→(v j).1≠t)→lastI v t n=k
 | 0,h,_=>absurd h (Nat.not_lt_zero _)
 | n+1,h,hb=>by
  rw [lastI]
  by_cases e:k=n
  ·subst e;rw [if_pos hk]
  ·rw [if_neg (hb n (by omega) (Nat.lt_succ_self _))];exact lastI_hit v t k hk n (by omega) (fun j h1 h2=>hb j h1 (by omega))
set_option maxRecDepth 100000 in
set_option maxHeartbeats 2000000 in
/-- slices.Backward's closure, for every loop body that keeps what lay. -/
theorem all1_in (F:Fence) (n:Nat) (h8:F.fn 187) (hro:F.round=none) (hn:1≤n) (l Bs:Nat) (A:Option Addr) (m cap:Nat) (v:Nat→ByteArray × Int) (hm:m≤9223372036854775807) (J Jx:List Nat→World→Prop) (w0:World)
 (hY:∀ (pre:List Nat) (x:Nat) (W:World),J pre W→pre.length<m→YieldAt F (n - 1) Try.prog l #[.int .i64 (x:Int),.agg #[.string (v x).1,.int .i64 (v x).2]] W fun e W' =>
  (e=.returned (.bool true)∧J (pre++[x]) W'∧Below w0.heap.size W W')∨(e=.returned (.bool false)∧Jx (pre++[x]) W'))
 (W:World) (hW:Below w0.heap.size w0 W) (hBs:w0.cell? ⟨Bs,0,none⟩=some (.slice A m cap))
 (hc:∀ j,j<m→∃ ad,A=some ad∧w0.cell? (ad.add (j * 2))=some (.string (v j).1)∧w0.cell? (ad.add (j * 2+1))=some (.int .i64 (v j).2)) (h0:J [] W) :
 CallsIn F n Try.prog 187 #[.func (.yield l) #[] #[],.pointer (some ⟨Bs,0,none⟩)] W fun e W'=>(∃ v,e=.returned v) ∧
  ((∃ ys,ys=upto (fun j=>m - 1 - j) m∧J ys W')∨(∃ pre,(∃ k,k≤m∧pre=upto (fun j=>m - 1 - j) k)∧Jx pre W')):=by
 refine callsIn_of_wp Try.func187 rfl h8 ?_ hro
 simp only [Try.ntmps187,List.size_toArray,List.length_cons,List.length_nil,Nat.reduceAdd,Nat.reduceSub,Array.replicate_succ,Array.replicate_zero,List.push_toArray,List.append_toArray,List.nil_append,List.cons_append]
 have hb:=pw_cell_below hW hBs
 gi_wp2
 gi_loopw [3] (fun i wr=>∃ r:Nat,r≤m∧i=.int .i64 ((r:Int) - 1)∧J (upto (fun j=>m - 1 - j) (m - r)) wr∧Below w0.heap.size w0 wr)
  (fun i _=>(intOf i+1).toNat)
 case atStart=>exact ⟨m,Nat.le_refl _,by go_num,by rw [Nat.sub_self];exact h0,hW⟩
 case round =>
  obtain ⟨r,hr,rfl,hJs,hnx⟩:=hrel
  have hbx:=pw_cell_below hnx hBs
  clear hb
  cases r with
  | zero =>
   have e:(((0:Nat):Int) - 1) = -1:=rfl
   rw [e]
   gi_wp2
   go_end0
   exact ⟨⟨_,rfl⟩,.inl ⟨_,rfl,hJs⟩⟩
  | succ q =>
   have e:(((q+1:Nat):Int) - 1)=(q:Int):=by omega
   rw [e]
   obtain ⟨ad,rfl,c0,c1⟩:=hc q (by omega)
   have m0:=pw_cell_below hnx c0
   have m1:=pw_cell_below hnx c1
   rw [add_field _ _ 1 (by omega)] at m1
   have hq:(q:Int)<(m:Int):=by omega
   clear c0 c1
   obtain ⟨fn,tmps,assign,body,hy,hR⟩:=hY _ q wr hJs (by rw [upto_length];omega)
   gi_wp2
   refine hR.mono ?_
   rintro e W3 (⟨rfl,hJ3,hk3⟩|⟨rfl,hJx3⟩)
   ·gi_wp2
    go_roundw
    case rel=>exact ⟨q,by omega,by go_num,by rw [←upto_step hr];exact hJ3,hnx.trans hk3⟩
    case measure=>simp [intOf]
   ·gi_wp2
    refine bodyPost_ret (results_none rfl _ _ _) rfl ?_
    exact ⟨⟨_,rfl⟩,.inr ⟨_,⟨m - q,by omega,upto_step hr⟩,hJx3⟩⟩
set_option maxHeartbeats 1000000 in
/-- slices.Backward(s): the slice value is boxed; the function value captures the box. -/
theorem backward_in (F:Fence) (n:Nat) (h6:F.fn 148) (hro:F.round=none) (a:Option Addr) (len cap:Nat) (w:World) :
 CallsIn F n Try.prog 148 #[.slice a len cap] w fun e w'=>e=.returned (.func (.func 187) #[] #[.pointer (some ⟨w.heap.size,0,none⟩)])∧w'=w.alloc (.cells #[.slice a len cap] 35):=by
 refine callsIn_of_wp Try.func148 rfl h6 ?_ hro
 simp only [Try.ntmps148,List.size_toArray,List.length_cons,List.length_nil,Nat.reduceAdd,Nat.reduceSub,Array.replicate_succ,Array.replicate_zero,List.push_toArray,List.append_toArray,List.nil_append,List.cons_append]
 gi_wp2
 go_ret
 exact ⟨rfl,rfl⟩
set_option maxRecDepth 100000 in
set_option maxHeartbeats 4000000 in
/-- The loop of impl.closeAt: the innermost place of the name. -/
theorem closeAt_in (F:Fence) (n:Nat) (h3:F.fn 87) (h4:F.fn 148) (h5:F.fn 187) (hro:F.round=none) (hn:3≤n) (A:Option Addr) (m cap:Nat) (v:Nat→ByteArray × Int) (t:ByteArray) (hm:m≤9223372036854775807) (w:World)
 (hc:∀ j,j<m→∃ ad,A=some ad∧w.cell? (ad.add (j * 2))=some (.string (v j).1)∧w.cell? (ad.add (j * 2+1))=some (.int .i64 (v j).2)) :
 CallsIn F n Try.prog 87 #[.slice A m cap,.string t] w fun e W'=>e=.returned (.int .i64 (lastI v t m))∧Below w.heap.size w W':=by
 have h1:1≤n:=by omega
 refine callsIn_of_wp_marks Try.func87 rfl h3 ?_ hro
 simp only [Try.ntmps87,List.size_toArray,List.length_cons,List.length_nil,Nat.reduceAdd,Nat.reduceSub,Array.replicate_succ,Array.replicate_zero,List.push_toArray,List.append_toArray,List.nil_append,List.cons_append]
 gi_wp2_with (gi_at_call 148;refine (backward_in F (n - 1) h4 hro _ _ _ _).mono ?_;rintro e w' ⟨rfl,rfl⟩)
 have bN:=((Boxed.new w 9 (.string t)).alloc (.cells #[.int .i64 0] 3)).alloc (.cells #[.slice A m cap] 35)
 have bR:=(Boxed.new (w.alloc (.cells #[.string t] 9)) 3 (.int .i64 0)).alloc (.cells #[.slice A m cap] 35)
 have bS:=Boxed.new ((w.alloc (.cells #[.string t] 9)).alloc (.cells #[.int .i64 0] 3)) 35 (.slice A m cap)
 simp only [World.size_alloc] at bR bS
 have hB0:Below w.heap.size w (((w.alloc (.cells #[.string t] 9)).alloc (.cells #[.int .i64 0] 3)).alloc (.cells #[.slice A m cap] 35)):=(((Below.refl _ w).alloc (Nat.le_refl _) _).alloc (by simp) _).alloc (by simp;omega) _
 have hsz:(((w.alloc (.cells #[.string t] 9)).alloc (.cells #[.int .i64 0] 3)).alloc (.cells #[.slice A m cap] 35)).heap.size=w.heap.size+3:=by simp
 obtain ⟨W0,hW0⟩:∃ W0,((w.alloc (.cells #[.string t] 9)).alloc (.cells #[.int .i64 0] 3)).alloc (.cells #[.slice A m cap] 35)=W0:=⟨_,rfl⟩
 rw [hW0] at bN bR bS hB0 hsz ⊢
 clear hW0
 have hc':∀ j,j<m→∃ ad,A=some ad∧W0.cell? (ad.add (j * 2))=some (.string (v j).1)∧W0.cell? (ad.add (j * 2+1))=some (.int .i64 (v j).2):=fun j hj=>by
  obtain ⟨ad,e,c0,c1⟩:=hc j hj
  exact ⟨ad,e,pw_cell_below hB0 c0,pw_cell_below hB0 c1⟩
 refine wpIn_rangeFunc_ownH hro h1 (gf:=187) (lb:=#[.pointer (some ⟨w.heap.size+1+1,0,none⟩)]) rfl h5 (enters_of Try.func187 (by kernel_rfl) rfl)
  (encs:=fun x:Nat=>#[Value.int .i64 (x:Int),Value.agg #[.string (v x).1,.int .i64 (v x).2]]) (Kp:=Below W0.heap.size) (S:=fun ys=>ys=upto (fun j=>m - 1 - j) m) (Sp:=fun pre=>∃ k,k≤m∧pre=upto (fun j=>m - 1 - j) k) (N:=m) (w0:=W0)
  (fun l J Jx W hW _ _ hY h0=>all1_in F (n - 1) h5 hro (by omega) l (w.heap.size+1+1) A m cap v hm J Jx W0 hY W hW bS.cell hc' h0) belowK_t (belowK_b (Nat.le_refl _)) (Below.refl _ _) (fun _=>rfl)
  (fun pre W=>((∀ p∈pre,(v p).1≠t)∧Boxed W w.heap.size 9 (.string t)∧Boxed W (w.heap.size+1) 3 (.int .i64 0)∧Boxed W (w.heap.size+1+1) 35 (.slice A m cap))∧Below w.heap.size w W)
  (fun c pre W=>(c=.ret∧∃ ini last,pre=ini++[last]∧(∀ p∈ini,(v p).1≠t)∧(v last).1=t∧Boxed W (w.heap.size+1) 3 (.int .i64 (last:Int)))∧Below w.heap.size w W)
  (OwnFrom.and (Own.from (fun s X Y row hs hg hr=>⟨hs.1,boxed_own _ 9 (fun (_:Unit)=>Value.string t) () X Y row hs.2.1 hg hr,boxed_own _ 3 (fun (_:Unit)=>Value.int .i64 0) () X Y row hs.2.2.1 hg hr,boxed_own _ 35 (fun (_:Unit)=>Value.slice A m cap) () X Y row hs.2.2.2 hg hr⟩) _) (ownFrom_below (Nat.le_refl _) (by omega)))
  (fun c=>OwnFrom.and (Own.from (fun s A B row hs hg hr=>by obtain ⟨hc,ini,last,e1,e2,e3,e4⟩:=hs;exact ⟨hc,ini,last,e1,e2,e3,boxed_own _ 3 (fun (_:Unit)=>Value.int .i64 (last:Int)) () A B row e4 hg hr⟩) _) (ownFrom_below (Nat.le_refl _) (by omega)))
  ⟨⟨by simp,bN,bR,bS⟩,hB0⟩
  (fun x a' W=>∃ Bx,w.heap.size+1<Bx∧W.cell? ⟨Bx,0,none⟩=some (.string (v x).1)∧a' = { tmps:=#[.slice A m cap,.string t,undef,.pointer (some ⟨w.heap.size,0,none⟩),.pointer (some ⟨w.heap.size+1,0,none⟩),.int .i64 (x:Int),.pointer (some ⟨Bx,0,none⟩),.slice A m cap,.func (.func 187) #[] #[.pointer (some ⟨w.heap.size+1+1,0,none⟩)],.int .i64 (x:Int),.agg #[.string (v x).1,.int .i64 (v x).2],undef,undef,undef,undef,undef],defers:=[] })
  (fun x a' _ X Y row hs hg hr=>by obtain ⟨Bx,h1,h2,h3⟩:=hs;exact ⟨Bx,h1,cell_kept h2 hg (fun r e=>(hr r e).2),h3⟩)
  ?assign ?body ?done ?stop
 case assign =>
  rintro l pre x W K ⟨⟨hp,b1,b2,b3⟩,hB1⟩ hK
  have hsW:=hB1.size
  gi_wp2
  exact hK _ _ ((KeepsOthers.alloc _ _).from _) (below_alloc (Below.refl _ W) _ |>.mono (by have:=b3.lt;omega)) ⟨⟨hp,b1.alloc _,b2.alloc _,b3.alloc _⟩,hB1.alloc hsW _⟩ ⟨W.heap.size,b2.lt,Mach.new_cell W _ _ 0 _ rfl,rfl⟩
 case body =>
  rintro l pre x a' W hl ⟨r,hr⟩ ⟨⟨hp,b1,b2,b3⟩,hB1⟩ ⟨Bx,hBx,bX,rfl⟩ hlt
  have c1:=b1.cell
  have c2:=b2.cell
  have f2:=b2.frozen
  gi_wp2
  ·have hx:((v x).1.toList == t.toList)=true:=by assumption
   exact ⟨(KeepsOthers.setCell _ _ _).from _,⟨rfl,pre,x,rfl,hp,Kit.toList_inj (eq_of_beq hx),b2.set _⟩,hB1.setCell (p:=⟨w.heap.size+1,0,none⟩) (by simp) _⟩
  ·have hx:((v x).1.toList == t.toList)=false:=by assumption
   exact ⟨KeepsFrom.refl _ _,Below.refl _ _,⟨fun p hp'=>(List.mem_append.1 hp').elim (hp p) (fun e=>by simp at e;subst e;exact fun e=>by rw [e] at hx;simp at hx),b1,b2,b3⟩,hB1⟩
 case done =>
  rintro D ys W hD rfl ⟨⟨hne,b1,b2,_⟩,hB⟩ hK
  have c2:=b2.cell
  have f2:=b2.frozen
  gi_wp2
  have hK':=(KeepsOthers.setCell W ⟨w.heap.size+1,0,none⟩ (.int .i64 (-1))).same D _ hK rfl
  refine ⟨by simp,.inl ⟨_,_,rfl,run_takeDeferred hK',?_⟩⟩
  have hc5:=cell_kept (World.cell?_setCell_same' W ⟨w.heap.size+1,0,none⟩ (.int .i64 (-1)) (by rw [c2];rfl)) (grownBy_putObj' _ D (.deferred none)) (fun r e=>by cases e;exact ⟨_,hK',rfl⟩)
  refine ⟨.int .i64 (-1),?_,by rw [lastI_miss v t m (fun j hj=>hne j (by simp only [upto,List.mem_map,List.mem_range];exact ⟨m - 1 - j,by omega,by omega⟩))],(hB.setCell (p:=⟨w.heap.size+1,0,none⟩) (by simp) _).trans (belowK_b (w:=w) (Nat.le_refl _) _ D _ _ (by omega) hK' rfl rfl)⟩
  simp [results,Try.f87,go_sem,hc5]
 case stop =>
  rintro D c pre W hD ⟨k,hk,rfl⟩ ⟨⟨rfl,ini,last,e1,e2,e3,b2⟩,hB⟩ hK
  have c2:=b2.cell
  gi_wp2
  refine ⟨by simp,.inl ⟨_,_,rfl,run_takeDeferred hK,?_⟩⟩
  have hc5:=cell_kept c2 (grownBy_putObj' _ D (.deferred none)) (fun r e=>by cases e;exact ⟨_,hK,rfl⟩)
  obtain ⟨k',rfl⟩:∃ k',k=k'+1:=by
   cases k with
   | zero=>simp [upto] at e1
   | succ k'=>exact ⟨k',rfl⟩
  rw [upto_succ] at e1
  obtain ⟨rfl,e5⟩:=List.append_inj' e1 rfl
  obtain rfl:m - 1 - k'=last:=by simpa using e5
  refine ⟨.int .i64 ((m - 1 - k':Nat):Int),?_,by rw [lastI_hit v t _ e3 m (by omega) (fun j h1 h2=>e2 j (by simp only [upto,List.mem_map,List.mem_range];exact ⟨m - 1 - j,by omega,by omega⟩))],hB.trans (belowK_b (w:=w) (Nat.le_refl _) W D _ _ (by omega) hK rfl rfl)⟩
  simp [results,Try.f87,go_sem,hc5]
end Go.Proofs.Ytophaihdibplkaa.Back
