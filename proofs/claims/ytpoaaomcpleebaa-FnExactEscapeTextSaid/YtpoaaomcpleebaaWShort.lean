/- Short names for what the printed texts name most. No conditions. -/
import Derived.Test.YtpoaaomcpleebaaWWords
import Derived.Test.YtpoaaomcpleebaaWLast
import Derived.Test.YtpoaaomcpleebaaWTab
import Derived.Test.YtpoaaomcpleebaaWQPut
import Derived.Test.YtpoaaomcpleebaaWApart
import Derived.Test.YtpoaaomcpleebaaWArr
import Derived.Test.YtpoaaomcpleebaaWZeros
import Derived.Test.YtpoaaomcpleebaaWFoot
import Derived.Test.YtpoaaomcpleebaaWKept
import Derived.Test.YtpoaaomcpleebaaWShare
import Derived.Test.YtpoaaomcpleebaaWN
import Derived.Test.YtpoaaomcpleebaaWRepsOne
import Derived.Test.YtpoaaomcpleebaaWNEv
import Derived.Test.YtpoaaomcpleebaaWMore
namespace Go.Proofs.YtpoaaomcpleebaaW.PrintWords
open Go.RowKit Go.Proofs.YtpoaaomcpleebaaW.PrintWords Go.Proofs.YtpoaaomcpleebaaW.PrintLast Go.Proofs.YtpoaaomcpleebaaW.PrintMore
abbrev T_:Bool:=true
abbrev F_:Bool:=false
theorem A_ {p:Prop} (h:p):Aside0 p:=Aside0.mk h
abbrev pd_:=@pw_below_drewN
abbrev bc_:=@blk_cell
abbrev ba_:=@below_alloc
abbrev od_:=@of_decide_eq_true
abbrev oi_:=@Option.some.inj
abbrev dt_:=@decide_eq_true
abbrev dr_:=@Drawn0.refl
abbrev dp_:=@Drawn0.step
end Go.Proofs.YtpoaaomcpleebaaW.PrintWords
