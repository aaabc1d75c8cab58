/- Short names for what the printed texts name most. No conditions. -/
import Derived.Test.YtfkanlbmgbkniaaGreatDoorWWords
import Derived.Test.YtfkanlbmgbkniaaGreatDoorWLast
import Derived.Test.YtfkanlbmgbkniaaGreatDoorWTab
import Derived.Test.YtfkanlbmgbkniaaGreatDoorWApart
import Derived.Test.YtfkanlbmgbkniaaGreatDoorWFoot
import Derived.Test.YtfkanlbmgbkniaaGreatDoorWKept
import Derived.Test.YtfkanlbmgbkniaaGreatDoorWShare
import Derived.Test.YtfkanlbmgbkniaaGreatDoorWN
import Derived.Laws.StructEq
import Derived.Test.YtfkanlbmgbkniaaGreatDoorWRepsOne
import Derived.Test.YtfkanlbmgbkniaaGreatDoorWInv
import Derived.Test.YtfkanlbmgbkniaaGreatDoorWGuard
import Derived.Test.YtfkanlbmgbkniaaGreatDoorWMore
namespace Go.Proofs.YtfkanlbmgbkniaaGreatDoorW.PrintWords
open Go.RowKit Go.Proofs.YtfkanlbmgbkniaaGreatDoorW.PrintWords Go.Proofs.YtfkanlbmgbkniaaGreatDoorW.PrintLast Go.Proofs.YtfkanlbmgbkniaaGreatDoorW.PrintMore
abbrev T_:Bool:=true
abbrev F_:Bool:=false
theorem A_ {p:Prop} (h:p):Aside0 p:=Aside0.mk h
abbrev ls_:=@List.setIfInBounds_toArray
abbrev lz_:=@List.set_cons_zero
abbrev lc_:=@List.set_cons_succ
abbrev bl_:=@World.block_lt_of_cell?
abbrev pd_:=@pw_below_drewN
abbrev bf_:=@blk_frozen
abbrev bc_:=@blk_cell
abbrev ba_:=@below_alloc
abbrev b1_:=@below_drew1
abbrev bs_:=@below_set
abbrev od_:=@of_decide_eq_true
theorem ob_ {a b:Type} {o:Option a} {f:a→Option b} {r:b} (h:o.bind f=some r):∃ x,o=some x∧f x=some r:=Option.bind_eq_some_iff.mp h
abbrev oi_:=@Option.some.inj
abbrev kn_:=@blk_drewN
abbrev ka_:=@blk_alloc
abbrev kd_:=@blk_drew
abbrev kb_:=@blk_below
abbrev cb_:=@Kd.C_below
abbrev cn_:=@Kd.C_drewN
abbrev ca_:=@Kd.C_alloc
abbrev cd_:=@Kd.C_drew
abbrev dt_:=@decide_eq_true
abbrev df_:=@decide_eq_false
abbrev bz_:=@below_size
abbrev bp_:=@below_step
abbrev lt_:=@List.length_take
abbrev ld_:=@List.length_drop
abbrev dr_:=@Drawn0.refl
abbrev dp_:=@Drawn0.step
theorem bm_ {a:Bool} (h:a≠true):a=false:=Bool.eq_false_iff.mpr h
abbrev ww_:=@World.drewN_drewN
/- Shorter forms. -/
theorem g2_ {w:World} {g:Nat} {t:TypeId} {va vb:Value} (x:w.heap[g]? = some (.cells #[va,vb] t (0,0))):w.cell? ⟨g,0,none⟩=some va∧w.cell? ⟨g,1,none⟩=some vb∧w.frozen? ⟨g,0,none⟩=false∧w.frozen? ⟨g,1,none⟩=false:=⟨(bc_ x 0).trans rfl,(bc_ x 1).trans rfl,bf_ x 0,bf_ x 1⟩
theorem p2_ {w:World} {g:Nat} {t:TypeId} {va vb ua ub:Value} (x:w.heap[g]? = some (.cells #[va,vb] t (0,0))):((w.setCell ⟨g,0,none⟩ ua).setCell ⟨g,1,none⟩ ub).heap[g]? = some (.cells #[ua,ub] t (0,0)):=blk_put (cs':=#[ua,ub]) (blk_put (cs':=#[ua,vb]) (x) 0 _ rfl) 1 _ rfl
theorem g7_ {w:World} {g:Nat} {t:TypeId} {va vb vc vd ve vf vg:Value} (x:w.heap[g]? = some (.cells #[va,vb,vc,vd,ve,vf,vg] t (0,0))):w.cell? ⟨g,0,none⟩=some va∧w.cell? ⟨g,1,none⟩=some vb∧w.cell? ⟨g,2,none⟩=some vc∧w.cell? ⟨g,3,none⟩=some vd∧w.cell? ⟨g,4,none⟩=some ve∧w.cell? ⟨g,5,none⟩=some vf∧w.cell? ⟨g,6,none⟩=some vg∧w.frozen? ⟨g,0,none⟩=false∧w.frozen? ⟨g,1,none⟩=false∧w.frozen? ⟨g,2,none⟩=false∧w.frozen? ⟨g,3,none⟩=false∧w.frozen? ⟨g,4,none⟩=false∧w.frozen? ⟨g,5,none⟩=false∧w.frozen? ⟨g,6,none⟩=false:=⟨(bc_ x 0).trans rfl,(bc_ x 1).trans rfl,(bc_ x 2).trans rfl,(bc_ x 3).trans rfl,(bc_ x 4).trans rfl,(bc_ x 5).trans rfl,(bc_ x 6).trans rfl,bf_ x 0,bf_ x 1,bf_ x 2,bf_ x 3,bf_ x 4,bf_ x 5,bf_ x 6⟩
theorem p7_ {w:World} {g:Nat} {t:TypeId} {va vb vc vd ve vf vg ua ub uc ud ue uf ug:Value} (x:w.heap[g]? = some (.cells #[va,vb,vc,vd,ve,vf,vg] t (0,0))):(((((((w.setCell ⟨g,0,none⟩ ua).setCell ⟨g,1,none⟩ ub).setCell ⟨g,2,none⟩ uc).setCell ⟨g,3,none⟩ ud).setCell ⟨g,4,none⟩ ue).setCell ⟨g,5,none⟩ uf).setCell ⟨g,6,none⟩ ug).heap[g]? = some (.cells #[ua,ub,uc,ud,ue,uf,ug] t (0,0)):=blk_put (cs':=#[ua,ub,uc,ud,ue,uf,ug]) (blk_put (cs':=#[ua,ub,uc,ud,ue,uf,vg]) (blk_put (cs':=#[ua,ub,uc,ud,ue,vf,vg]) (blk_put (cs':=#[ua,ub,uc,ud,ve,vf,vg]) (blk_put (cs':=#[ua,ub,uc,vd,ve,vf,vg]) (blk_put (cs':=#[ua,ub,vc,vd,ve,vf,vg]) (blk_put (cs':=#[ua,vb,vc,vd,ve,vf,vg]) (x) 0 _ rfl) 1 _ rfl) 2 _ rfl) 3 _ rfl) 4 _ rfl) 5 _ rfl) 6 _ rfl
theorem f7_ {α : Type} {d:Kd α} {e:Nat} {w:World} {base:Nat} {ok:Nat→Prop} {v:Value} {xs:List α} {g:Nat} (x:d.R e w base ok v xs) (k:∀ k,ok k→k≠g) (ua ub uc ud ue uf ug:Value):d.R e (((((((w.setCell ⟨g,0,none⟩ ua).setCell ⟨g,1,none⟩ ub).setCell ⟨g,2,none⟩ uc).setCell ⟨g,3,none⟩ ud).setCell ⟨g,4,none⟩ ue).setCell ⟨g,5,none⟩ uf).setCell ⟨g,6,none⟩ ug) base ok v xs:=Kd.R_far (Kd.R_far (Kd.R_far (Kd.R_far (Kd.R_far (Kd.R_far (Kd.R_far (x) (p:=⟨g,0,none⟩) k ua) (p:=⟨g,1,none⟩) k ub) (p:=⟨g,2,none⟩) k uc) (p:=⟨g,3,none⟩) k ud) (p:=⟨g,4,none⟩) k ue) (p:=⟨g,5,none⟩) k uf) (p:=⟨g,6,none⟩) k ug
theorem rs_ {p:Prop} (h:p := by first|rfl|(simp;done)|(simp [*];done)):p:=h
abbrev ra_:=@Kd.R_alloc
abbrev rn_:=@Kd.R_drewN
abbrev rd_:=@Kd.R_drew
theorem ph_ {w W:World} (h:Below w.heap.size w W) {a:Addr} {v:Value} (x:w.cell? a=some v):W.cell? a=some v:=(h.cell (World.block_lt_of_cell? w _ x)).trans x
theorem kq_ {w W:World} {g:Nat} {o:Obj} (h:w.heap[g]? = some o) (k:w.heap[g]? = some o→W.heap[g]? = some o := by intro h;(with_reducible repeat first|apply kn_|apply kd_|apply ka_);exact h):W.heap[g]? = some o:=k h
theorem rq_ {p q:Prop} (h:p) (k:p→q := by intro h;(with_reducible repeat first|apply Kd.R_alloc|apply Kd.R_drewN|apply Kd.R_drew);exact h):q:=k h
theorem oa_ {p:Prop} [Decidable p] (h:decide p=true := by first|(with_reducible assumption)|assumption):p:=of_decide_eq_true h
theorem bq0_ {w W V:World} (h:Below w.heap.size w W) (k:Below w.heap.size w W→Below w.heap.size w V := by intro h ;repeat (first|(with_reducible first|exact h|apply ba_|apply pd_|apply b1_)|exact h)):Below w.heap.size w V:=k h 
theorem bq1_ {w W V:World} {n0:Nat} (h:Below w.heap.size w W) (g0:w.heap.size≤n0) (k:Below w.heap.size w W→w.heap.size≤n0→Below w.heap.size w V := by intro h g0;repeat (first|(with_reducible first|exact h|apply ba_|apply pd_|apply b1_|refine bs_ ?_ g0)|exact h)):Below w.heap.size w V:=k h g0
theorem bq2_ {w W V:World} {n0 n1:Nat} (h:Below w.heap.size w W) (g0:w.heap.size≤n0) (g1:w.heap.size≤n1) (k:Below w.heap.size w W→w.heap.size≤n0→w.heap.size≤n1→Below w.heap.size w V := by intro h g0 g1;repeat (first|(with_reducible first|exact h|apply ba_|apply pd_|apply b1_|refine bs_ ?_ g0|refine bs_ ?_ g1)|exact h)):Below w.heap.size w V:=k h g0 g1
theorem bq3_ {w W V:World} {n0 n1 n2:Nat} (h:Below w.heap.size w W) (g0:w.heap.size≤n0) (g1:w.heap.size≤n1) (g2:w.heap.size≤n2) (k:Below w.heap.size w W→w.heap.size≤n0→w.heap.size≤n1→w.heap.size≤n2→Below w.heap.size w V := by intro h g0 g1 g2;repeat (first|(with_reducible first|exact h|apply ba_|apply pd_|apply b1_|refine bs_ ?_ g0|refine bs_ ?_ g1|refine bs_ ?_ g2)|exact h)):Below w.heap.size w V:=k h g0 g1 g2
section
variable {P:Program} {ops:Array Oper} {a:Act} {Q:Exit→Act→World→Prop}
theorem gl_ {rest:List Oper} {oi:Oper} {w:World} (N:Option Tmp) (hd:oi.dst=N) (hg:oi.guard=none) {f:FuncId} {fn:Func} {as:Array Operand} {ts:Array TypeId} (hf:P.funcs[f]? = some fn) (hname:(fn.name == "runtime.NumGoroutine") = false) (hb : fn.body.isSome = true) (args : Array Value) (hop:oi.op=.call { callee:=.value (.func f),args:=as,argTypes:=ts }) (h:Calls P f args w fun e w'=>∃ v,e=.returned v∧wpList P ops Q rest (a.put N v) w') (hargs:as.map a.eval=args := by (try simp only [List.map_toArray,List.map_cons,List.map_nil]);first|done|rfl|(simp only [ld_,lt_];rfl)):wpList P ops Q (oi :: rest) a w:=goesL_ N hd hg hf hname hb args hop hargs h
end
end Go.Proofs.YtfkanlbmgbkniaaGreatDoorW.PrintWords
