/- By a program of this session, out of the kit's print and contracts made by hand: the machine side of a law; Lean checks it. No conditions. -/
import Derived.Test.YtpfpbanadobfmaaProg
import Derived.Test.YtpfpbanadobfmaaMach
import Derived.Test.YtpfpbanadobfmaaKit
import Derived.StillTailTactics
import Derived.Below
import Derived.Deep.Draws
import Derived.Deep.AppendLies
import Derived.Maps.AppendAt
import Derived.OwnWalk
import Derived.Laws.BytesArg
import Derived.Laws.MakeOwn
import Derived.Laws.OwnMore
import Derived.Deep.OwnRows
import Derived.Tactics
import Derived.Lib.ConvBytes
import Derived.Laws.Slices
import Derived.WalkKit
import Derived.KernelRfl
import Derived.RowKit3
import Derived.Deep.LoopGhost
import Derived.Deep.QuietTactic
import Derived.BigQuiet
import Derived.WideLaws
import Derived.Deep.DeepCutAuto
import Derived.Deep.CutBlock
import Derived.Deep.RegionHeld3
import Derived.Laws.Rows
import Derived.Lib.AppendStr
import Derived.ArgAppend
import Derived.Laws.IdiomCopy
import Derived.OrdersHeld
import Derived.Laws.BitsLemmas
import Derived.RowKit
import Derived.Test.YtpfpbanadobfmaaWWords
import Derived.Test.YtpfpbanadobfmaaWShort
import Derived.Test.YtpfpbanadobfmaaWLast
import Derived.Test.YtpfpbanadobfmaaWTab
import Derived.Test.YtpfpbanadobfmaaWQPut
import Derived.Test.YtpfpbanadobfmaaWApart
import Derived.Test.YtpfpbanadobfmaaWArr
import Derived.Test.YtpfpbanadobfmaaWZeros
import Derived.Test.YtpfpbanadobfmaaWFoot
import Derived.Test.YtpfpbanadobfmaaWKept
import Derived.Test.YtpfpbanadobfmaaWShare
import Derived.Test.YtpfpbanadobfmaaWN
import Derived.Test.YtpfpbanadobfmaaWRepsOne
import Derived.Test.YtpfpbanadobfmaaWGuard
import Derived.Test.YtpfpbanadobfmaaWNEv
import Derived.Test.YtpfpbanadobfmaaWMore
namespace Go.Proofs.Ytpfpbanadobfmaa.PFnLinks
open Go.RowKit Go.Proofs.YtpfpbanadobfmaaW.PrintWords Go.Proofs.YtpfpbanadobfmaaW.PrintLast Go.Proofs.YtpfpbanadobfmaaW.PrintMore
attribute [local go_sem] max2_int min2_int max_two min_two max_three min_three max_four min_four
set_option linter.unusedVariables false
set_option linter.unusedSimpArgs false
def errW:Option Int→Value
 | none=>.nilIface
 | some c=>.iface 0 (.int .i64 c)
theorem errW_none:errW none=.nilIface:=rfl
theorem errW_some (c:Int):errW (some c)=.iface 0 (.int .i64 c):=rfl
theorem info5:(Try.prog.info? 5).map (fun i=>(i.zero,i.size,i.bytes))=some (some (.int .u8 0),1,1):=by kernel_rfl
theorem info9:(Try.prog.info? 9).map (fun i=>(i.zero,i.size,i.bytes))=some (some (.string ⟨#[]⟩),1,16):=by kernel_rfl
def rd_L1 (xs:List (List Int)) (i:Int):(List Int):=xs.getD i.toNat ([]:List Int)
theorem at_L1 {w:World} {A:Option Addr} {n:Nat} {xs:List (List Int)} (h:Kd.C (Kd.slice 5 (Kd.int .u8)) w A n xs) (i:Int) (h0:0≤i) (h1:i<n):∃ ad A0 c0,A=some ad∧w.cell? (ad.add i.toNat)=some (.slice A0 (rd_L1 xs i).length c0)∧(rd_L1 xs i).length≤c0∧(Kd.int .u8).C w A0 (rd_L1 xs i).length (rd_L1 xs i):=by
 obtain ⟨ad,c,e,_,hK,hc0⟩:=Kd.C_get h ([]:List Int) i h0 h1
 have hc:∀ j u,c[j]? = some u→w.cell? (ad.add (i.toNat * 1+j))=some u:=hc0
 obtain ⟨A0,c0,rfl,l0,g0⟩:=hK
 exact ⟨ad,A0,c0,e,by have hq:=hc 0 _ rfl;rwa [Nat.mul_one,Nat.add_zero] at hq,l0,g0⟩
/-! #### struct type 35 -/
structure S35 where
 f0:(List Int)
 f1:Int
 f2:Int
def z35:S35:=⟨([]:List Int),(0:Int),(0:Int)⟩
def k35:Kd S35:=Kd.iso (Kd.pair (Kd.slice 5 (Kd.int .u8)) (Kd.pair (Kd.int .i64) (Kd.int .i64))) (fun x:S35=>(x.f0,x.f1,x.f2))
theorem k35_open {w:World} {x:S35} {cs:List Value} (h:k35.K w x cs):∃ A0 c0,cs=[.slice A0 x.f0.length c0,.int .i64 x.f1,.int .i64 x.f2]∧x.f0.length≤c0∧(Kd.int .u8).C w A0 x.f0.length x.f0:=by
 obtain ⟨_,_,rfl,⟨A0,c0,rfl,l0,g0⟩,⟨_,_,rfl,rfl,rfl⟩⟩:=h
 exact ⟨A0,c0,rfl,l0,g0⟩
theorem k35_openM {w:World} {base:Nat} {ok:Nat→Prop} {x:S35} {cs:List Value} (h:k35.M w base ok x cs):∃ v0,cs=[v0,.int .i64 x.f1,.int .i64 x.f2]∧(Kd.int .u8).R 5 w base ok v0 x.f0:=by
 obtain ⟨_,_,rfl,⟨v0,rfl,g0⟩,⟨_,_,rfl,rfl,rfl⟩⟩:=h
 exact ⟨v0,rfl,g0⟩
theorem k35_mk (w:World) (x:S35) {A0:Option Addr} {c0:Nat} (l0:x.f0.length≤c0) (g0:(Kd.int .u8).C w A0 x.f0.length x.f0):k35.K w x [.slice A0 x.f0.length c0,.int .i64 x.f1,.int .i64 x.f2]:=⟨[.slice A0 x.f0.length c0],[.int .i64 x.f1,.int .i64 x.f2],rfl,⟨A0,c0,rfl,l0,g0⟩,⟨[.int .i64 x.f1],[.int .i64 x.f2],rfl,rfl,rfl⟩⟩
theorem k35_mkM (w:World) (base:Nat) (ok:Nat→Prop) (x:S35) {v0:Value} (g0:(Kd.int .u8).R 5 w base ok v0 x.f0):k35.M w base ok x [v0,.int .i64 x.f1,.int .i64 x.f2]:=⟨[v0],[.int .i64 x.f1,.int .i64 x.f2],rfl,⟨v0,rfl,g0⟩,⟨[.int .i64 x.f1],[.int .i64 x.f2],rfl,rfl,rfl⟩⟩
def rd_T35 (xs:List S35) (i:Int):S35:=xs.getD i.toNat z35
theorem at_T35 {w:World} {A:Option Addr} {n:Nat} {xs:List S35} (h:Kd.C k35 w A n xs) (i:Int) (h0:0≤i) (h1:i<n):∃ ad A0 c0,A=some ad∧w.cell? (ad.add (i.toNat * 3))=some (.slice A0 (rd_T35 xs i).f0.length c0)∧w.cell? ⟨(ad.add (i.toNat * 3)).block,(ad.add (i.toNat * 3)).off+1,none⟩=some (.int .i64 (rd_T35 xs i).f1)∧w.cell? ⟨(ad.add (i.toNat * 3)).block,(ad.add (i.toNat * 3)).off+2,none⟩=some (.int .i64 (rd_T35 xs i).f2)∧(rd_T35 xs i).f0.length≤c0∧(Kd.int .u8).C w A0 (rd_T35 xs i).f0.length (rd_T35 xs i).f0:=by
 obtain ⟨ad,c,e,_,hK,hc0⟩:=Kd.C_get h z35 i h0 h1
 have hc:∀ j u,c[j]? = some u→w.cell? (ad.add (i.toNat * 3+j))=some u:=hc0
 obtain ⟨A0,c0,rfl,l0,g0⟩:=k35_open hK
 exact ⟨ad,A0,c0,e,hc 0 _ rfl,by rw [←add_field _ _ 1 (by omega)];exact hc 1 _ rfl,by rw [←add_field _ _ 2 (by omega)];exact hc 2 _ rfl,l0,g0⟩
def rd_L5 (xs:List (List ByteArray)) (i:Int):(List ByteArray):=xs.getD i.toNat ([]:List ByteArray)
theorem at_L5 {w:World} {A:Option Addr} {n:Nat} {xs:List (List ByteArray)} (h:Kd.C (Kd.slice 9 Kd.string) w A n xs) (i:Int) (h0:0≤i) (h1:i<n):∃ ad A0 c0,A=some ad∧w.cell? (ad.add i.toNat)=some (.slice A0 (rd_L5 xs i).length c0)∧(rd_L5 xs i).length≤c0∧Kd.string.C w A0 (rd_L5 xs i).length (rd_L5 xs i):=by
 obtain ⟨ad,c,e,_,hK,hc0⟩:=Kd.C_get h ([]:List ByteArray) i h0 h1
 have hc:∀ j u,c[j]? = some u→w.cell? (ad.add (i.toNat * 1+j))=some u:=hc0
 obtain ⟨A0,c0,rfl,l0,g0⟩:=hK
 exact ⟨ad,A0,c0,e,by have hq:=hc 0 _ rfl;rwa [Nat.mul_one,Nat.add_zero] at hq,l0,g0⟩
end Go.Proofs.Ytpfpbanadobfmaa.PFnLinks
