/- Short names for what the printed texts name most. No conditions. -/
import Derived.Test.YtpoaaomcpleebaaDoorWWords
import Derived.Test.YtpoaaomcpleebaaDoorWLast
import Derived.Test.YtpoaaomcpleebaaDoorWTab
import Derived.Test.YtpoaaomcpleebaaDoorWQPut
import Derived.Test.YtpoaaomcpleebaaDoorWApart
import Derived.Test.YtpoaaomcpleebaaDoorWArr
import Derived.Test.YtpoaaomcpleebaaDoorWZeros
import Derived.Test.YtpoaaomcpleebaaDoorWFoot
import Derived.Test.YtpoaaomcpleebaaDoorWKept
import Derived.Test.YtpoaaomcpleebaaDoorWShare
import Derived.Test.YtpoaaomcpleebaaDoorWN
import Derived.Test.YtpoaaomcpleebaaDoorWRepsOne
import Derived.Test.YtpoaaomcpleebaaDoorWNEv
import Derived.Test.YtpoaaomcpleebaaDoorWMore
namespace Go.Proofs.YtpoaaomcpleebaaDoorW.PrintWords
open Go.RowKit Go.Proofs.YtpoaaomcpleebaaDoorW.PrintWords Go.Proofs.YtpoaaomcpleebaaDoorW.PrintLast Go.Proofs.YtpoaaomcpleebaaDoorW.PrintMore
abbrev T_:Bool:=true
abbrev F_:Bool:=false
theorem A_ {p:Prop} (h:p):Aside0 p:=Aside0.mk h
abbrev pd_:=@pw_below_drewN
abbrev bc_:=@blk_cell
abbrev ba_:=@below_alloc
abbrev b1_:=@below_drew1
abbrev od_:=@of_decide_eq_true
abbrev oi_:=@Option.some.inj
abbrev dt_:=@decide_eq_true
abbrev df_:=@decide_eq_false
abbrev lt_:=@List.length_take
abbrev dr_:=@Drawn0.refl
abbrev dp_:=@Drawn0.step
end Go.Proofs.YtpoaaomcpleebaaDoorW.PrintWords
