/- By a program of this session, out of the kit's print and contracts made by hand: the machine side of a law; Lean checks it. No conditions. -/
import Derived.Test.YtpfpbanadobfmaaPFnLinksx0
import Derived.Test.YtpfpbanadobfmaaPFnLinksx4
namespace Go.Proofs.Ytpfpbanadobfmaa.PFnLinks
open Go.RowKit Go.Proofs.YtpfpbanadobfmaaW.PrintWords Go.Proofs.YtpfpbanadobfmaaW.PrintLast Go.Proofs.YtpfpbanadobfmaaW.PrintMore
attribute [local go_sem] max2_int min2_int max_two min_two max_three min_three max_four min_four
set_option linter.unusedVariables false
set_option linter.unusedSimpArgs false
/-! ### spec_BadLink: function 7 -/
def spec_BadLink.f (k:Nat) (a0:ByteArray):Option (Bool):=if (a0.size:Int)>65536 then (some false) else ((spec_l01Bad.f k a0).bind fun t146=>(some t146))
theorem spec_BadLink.mono:∀ a0 k,LeO (spec_BadLink.f k a0) (spec_BadLink.f (k+1) a0):=by
 intro a0 k
 unfold spec_BadLink.f
 repeat' first
  | (with_reducible exact spec_l01Bad.mono _ _)
  | (with_reducible exact LeO.refl _)
  | (with_reducible exact LeO.none _)
  | (with_reducible refine LeO.ite ?_ ?_)
  | (with_reducible refine LeO.bind ?_ (fun _=>?_))
  | exact spec_l01Bad.mono _ _
  | exact LeO.none _
  | refine LeO.ite ?_ ?_
  | refine LeO.bind ?_ (fun _=>?_)
set_option maxHeartbeats 8000000 in
set_option maxRecDepth 100000 in
theorem spec_BadLink.calls (k:Nat) (a0:ByteArray) (r:Bool) (w:World) (h:spec_BadLink.f k a0=some r) :
 Calls Try.prog 7 #[.string a0] w fun e w'=>e=.returned (.bool r)∧Drawn0 w w':=by
 have H:(if (a0.size:Int)>65536 then (some false) else ((spec_l01Bad.f k a0).bind fun t146=>(some t146)))=some r:=h
 clear h
 by_cases c2:(a0.size:Int)>65536
 ·rw [if_pos c2] at H
  have c2b0:decide (65536<(a0.size:Int))=true:=dt_ c2
  have c2b1:decide (65536<a0.size)=true:=dt_ (by omega)
  clear c2
  obtain rfl:=oi_ H
  go_enter Try.func7,Try.ntmps7
  go_wp2
  go_ret
  exact ⟨by first|rfl|(simp;done)|(simp [*];done),by repeat (first|exact dr_ _|apply dp_)⟩
 ·rw [if_neg c2] at H
  have c2b0:decide (65536<(a0.size:Int))=false:=df_ c2
  have c2b1:decide (65536<a0.size)=false:=df_ (by omega)
  clear c2
  replace H:=ob_ H
  obtain ⟨t146,A30,H⟩:=H
  replace H:(some t146)=some r:=H
  have A3:=A_ A30
  clear A30
  obtain rfl:=oi_ H
  go_enter Try.func7,Try.ntmps7
  go_wp2_with (first|((with_reducible refine gate_callee (f:=13) rfl ?_);refine goesL_ (some 7) rfl rfl Try.func13 (by kernel_rfl) rfl #[.string a0] rfl (by (try simp only [List.map_toArray,List.map_cons,List.map_nil]);first|done|rfl|(simp only [ld_,lt_];rfl)) ?_;(with_reducible refine (spec_l01Bad.calls k a0 t146 _ A3.out).mono ?_);rintro e w' ⟨rfl,⟨nd,rfl⟩⟩;refine ⟨_,rfl,?_⟩))
  go_ret
  exact ⟨by first|rfl|(simp;done)|(simp [*];done),by repeat (first|exact dr_ _|apply dp_)⟩
end Go.Proofs.Ytpfpbanadobfmaa.PFnLinks
