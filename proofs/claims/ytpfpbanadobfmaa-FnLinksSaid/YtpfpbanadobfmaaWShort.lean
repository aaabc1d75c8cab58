/- Short names for what the printed texts name most. No conditions. -/
import Derived.Test.YtpfpbanadobfmaaWWords
import Derived.Test.YtpfpbanadobfmaaWLast
import Derived.Test.YtpfpbanadobfmaaWTab
import Derived.Test.YtpfpbanadobfmaaWQPut
import Derived.Test.YtpfpbanadobfmaaWApart
import Derived.Test.YtpfpbanadobfmaaWArr
import Derived.Test.YtpfpbanadobfmaaWZeros
import Derived.Test.YtpfpbanadobfmaaWFoot
import Derived.Test.YtpfpbanadobfmaaWKept
import Derived.Test.YtpfpbanadobfmaaWShare
import Derived.Test.YtpfpbanadobfmaaWN
import Derived.Test.YtpfpbanadobfmaaWRepsOne
import Derived.Test.YtpfpbanadobfmaaWGuard
import Derived.Test.YtpfpbanadobfmaaWNEv
import Derived.Test.YtpfpbanadobfmaaWMore
namespace Go.Proofs.YtpfpbanadobfmaaW.PrintWords
open Go.RowKit Go.Proofs.YtpfpbanadobfmaaW.PrintWords Go.Proofs.YtpfpbanadobfmaaW.PrintLast Go.Proofs.YtpfpbanadobfmaaW.PrintMore
abbrev T_:Bool:=true
abbrev F_:Bool:=false
theorem A_ {p:Prop} (h:p):Aside0 p:=Aside0.mk h
abbrev ls_:=@List.setIfInBounds_toArray
abbrev lz_:=@List.set_cons_zero
abbrev lc_:=@List.set_cons_succ
abbrev pd_:=@pw_below_drewN
abbrev ba_:=@below_alloc
abbrev b1_:=@below_drew1
abbrev bs_:=@below_set
abbrev od_:=@of_decide_eq_true
theorem ob_ {a b:Type} {o:Option a} {f:a→Option b} {r:b} (h:o.bind f=some r):∃ x,o=some x∧f x=some r:=Option.bind_eq_some_iff.mp h
abbrev oi_:=@Option.some.inj
abbrev cn_:=@Kd.C_drewN
abbrev ca_:=@Kd.C_alloc
abbrev cd_:=@Kd.C_drew
abbrev dt_:=@decide_eq_true
abbrev df_:=@decide_eq_false
abbrev bz_:=@below_size
abbrev bp_:=@below_step
abbrev lt_:=@List.length_take
abbrev ld_:=@List.length_drop
abbrev dr_:=@Drawn0.refl
abbrev dp_:=@Drawn0.step
end Go.Proofs.YtpfpbanadobfmaaW.PrintWords
