/- Short names for what the printed texts name most. No conditions. -/
import Derived.Test.YtpoaaomcpleebaaGreatDoorWWords
import Derived.Test.YtpoaaomcpleebaaGreatDoorWLast
import Derived.Test.YtpoaaomcpleebaaGreatDoorWTab
import Derived.Test.YtpoaaomcpleebaaGreatDoorWQPut
import Derived.Test.YtpoaaomcpleebaaGreatDoorWApart
import Derived.Test.YtpoaaomcpleebaaGreatDoorWArr
import Derived.Test.YtpoaaomcpleebaaGreatDoorWZeros
import Derived.Test.YtpoaaomcpleebaaGreatDoorWFoot
import Derived.Test.YtpoaaomcpleebaaGreatDoorWKept
import Derived.Test.YtpoaaomcpleebaaGreatDoorWShare
import Derived.Test.YtpoaaomcpleebaaGreatDoorWN
import Derived.Test.YtpoaaomcpleebaaGreatDoorWGuard
import Derived.Test.YtpoaaomcpleebaaGreatDoorWNEv
import Derived.Test.YtpoaaomcpleebaaGreatDoorWMore
namespace Go.Proofs.YtpoaaomcpleebaaGreatDoorW.PrintWords
open Go.RowKit Go.Proofs.YtpoaaomcpleebaaGreatDoorW.PrintWords Go.Proofs.YtpoaaomcpleebaaGreatDoorW.PrintLast Go.Proofs.YtpoaaomcpleebaaGreatDoorW.PrintMore
abbrev T_:Bool:=true
abbrev F_:Bool:=false
theorem A_ {p:Prop} (h:p):Aside0 p:=Aside0.mk h
abbrev ls_:=@List.setIfInBounds_toArray
abbrev lz_:=@List.set_cons_zero
abbrev lc_:=@List.set_cons_succ
abbrev bl_:=@World.block_lt_of_cell?
abbrev pd_:=@pw_below_drewN
abbrev bf_:=@blk_frozen
abbrev bc_:=@blk_cell
abbrev ba_:=@below_alloc
abbrev b1_:=@below_drew1
abbrev bs_:=@below_set
abbrev od_:=@of_decide_eq_true
theorem ob_ {a b:Type} {o:Option a} {f:a→Option b} {r:b} (h:o.bind f=some r):∃ x,o=some x∧f x=some r:=Option.bind_eq_some_iff.mp h
abbrev oi_:=@Option.some.inj
abbrev kn_:=@blk_drewN
abbrev ka_:=@blk_alloc
abbrev kd_:=@blk_drew
abbrev kb_:=@blk_below
abbrev cb_:=@Kd.C_below
abbrev cn_:=@Kd.C_drewN
abbrev ca_:=@Kd.C_alloc
abbrev cd_:=@Kd.C_drew
abbrev dt_:=@decide_eq_true
abbrev df_:=@decide_eq_false
abbrev bz_:=@below_size
abbrev bp_:=@below_step
abbrev lt_:=@List.length_take
abbrev ld_:=@List.length_drop
abbrev dr_:=@Drawn0.refl
abbrev dp_:=@Drawn0.step
theorem bm_ {a:Bool} (h:a≠true):a=false:=Bool.eq_false_iff.mpr h
abbrev ww_:=@World.drewN_drewN
end Go.Proofs.YtpoaaomcpleebaaGreatDoorW.PrintWords
