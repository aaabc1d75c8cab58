/- Short names for what the printed texts name most. No conditions. -/
import Derived.Test.YtlpncjeahdfolaaGreatDoorWWords
import Derived.Test.YtlpncjeahdfolaaGreatDoorWLast
import Derived.Test.YtlpncjeahdfolaaGreatDoorWTab
import Derived.Test.YtlpncjeahdfolaaGreatDoorWQPut
import Derived.Test.YtlpncjeahdfolaaGreatDoorWApart
import Derived.Test.YtlpncjeahdfolaaGreatDoorWArr
import Derived.Test.YtlpncjeahdfolaaGreatDoorWZeros
import Derived.Test.YtlpncjeahdfolaaGreatDoorWFoot
import Derived.Test.YtlpncjeahdfolaaGreatDoorWKept
import Derived.Test.YtlpncjeahdfolaaGreatDoorWShare
import Derived.Test.YtlpncjeahdfolaaGreatDoorWN
import Derived.Test.YtlpncjeahdfolaaGreatDoorWRepsOne
import Derived.Test.YtlpncjeahdfolaaGreatDoorWGuard
import Derived.Test.YtlpncjeahdfolaaGreatDoorWNEv
import Derived.Test.YtlpncjeahdfolaaGreatDoorWMore
namespace Go.Proofs.YtlpncjeahdfolaaGreatDoorW.PrintWords
open Go.RowKit Go.Proofs.YtlpncjeahdfolaaGreatDoorW.PrintWords Go.Proofs.YtlpncjeahdfolaaGreatDoorW.PrintLast Go.Proofs.YtlpncjeahdfolaaGreatDoorW.PrintMore
abbrev T_:Bool:=true
abbrev F_:Bool:=false
theorem A_ {p:Prop} (h:p):Aside0 p:=Aside0.mk h
abbrev ls_:=@List.setIfInBounds_toArray
abbrev lz_:=@List.set_cons_zero
abbrev lc_:=@List.set_cons_succ
abbrev bl_:=@World.block_lt_of_cell?
abbrev pd_:=@pw_below_drewN
abbrev pc_:=@pw_cell_below
abbrev bf_:=@blk_frozen
abbrev bc_:=@blk_cell
abbrev ba_:=@below_alloc
abbrev b1_:=@below_drew1
abbrev bs_:=@below_set
abbrev od_:=@of_decide_eq_true
theorem ob_ {a b:Type} {o:Option a} {f:a→Option b} {r:b} (h:o.bind f=some r):∃ x,o=some x∧f x=some r:=Option.bind_eq_some_iff.mp h
abbrev oi_:=@Option.some.inj
abbrev kn_:=@blk_drewN
abbrev ka_:=@blk_alloc
abbrev kd_:=@blk_drew
abbrev kb_:=@blk_below
abbrev cb_:=@Kd.C_below
abbrev cn_:=@Kd.C_drewN
abbrev ca_:=@Kd.C_alloc
abbrev cd_:=@Kd.C_drew
abbrev dt_:=@decide_eq_true
abbrev df_:=@decide_eq_false
abbrev bz_:=@below_size
abbrev bp_:=@below_step
abbrev lt_:=@List.length_take
abbrev ld_:=@List.length_drop
abbrev dr_:=@Drawn0.refl
abbrev dp_:=@Drawn0.step
theorem bm_ {a:Bool} (h:a≠true):a=false:=Bool.eq_false_iff.mpr h
abbrev ww_:=@World.drewN_drewN
end Go.Proofs.YtlpncjeahdfolaaGreatDoorW.PrintWords
