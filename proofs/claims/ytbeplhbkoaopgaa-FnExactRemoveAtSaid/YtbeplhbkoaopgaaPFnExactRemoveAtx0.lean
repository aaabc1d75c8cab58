/- By a program of this session, out of the kit's print and contracts made by hand: the machine side of a law; Lean checks it. No conditions. -/
import Derived.Test.YtbeplhbkoaopgaaProg
import Derived.Test.YtbeplhbkoaopgaaMach
import Derived.Test.YtbeplhbkoaopgaaKit
import Derived.Outline
import Derived.Deep.RegionHeld3
import Derived.Test.YtbeplhbkoaopgaaSep
import Derived.Lib.SliceRun
import Derived.Deep.RegionLaw
import Derived.Shelf.RegionOpenPlain
import Derived.Below
import Derived.Deep.Draws
import Derived.Deep.AppendLies
import Derived.Maps.AppendAt
import Derived.OwnWalk
import Derived.Laws.BytesArg
import Derived.Laws.MakeOwn
import Derived.Laws.OwnMore
import Derived.Deep.OwnRows
import Derived.Tactics
import Derived.Lib.ConvBytes
import Derived.Laws.Slices
import Derived.WalkKit
import Derived.KernelRfl
import Derived.RowKit3
import Derived.Deep.LoopGhost
import Derived.Deep.QuietTactic
import Derived.BigQuiet
import Derived.WideLaws
import Derived.Deep.DeepCutAuto
import Derived.Deep.CutBlock
import Derived.Deep.RegionHeld3
import Derived.Laws.Rows
import Derived.Lib.AppendStr
import Derived.ArgAppend
import Derived.Laws.IdiomCopy
import Derived.OrdersHeld
import Derived.Laws.BitsLemmas
import Derived.RowKit
import Derived.Test.YtbeplhbkoaopgaaWWords
import Derived.Test.YtbeplhbkoaopgaaWShort
import Derived.Test.YtbeplhbkoaopgaaWLast
import Derived.Test.YtbeplhbkoaopgaaWTab
import Derived.Test.YtbeplhbkoaopgaaWQPut
import Derived.Test.YtbeplhbkoaopgaaWApart
import Derived.Test.YtbeplhbkoaopgaaWArr
import Derived.Test.YtbeplhbkoaopgaaWZeros
import Derived.Test.YtbeplhbkoaopgaaWFoot
import Derived.Test.YtbeplhbkoaopgaaWKept
import Derived.Test.YtbeplhbkoaopgaaWShare
import Derived.Test.YtbeplhbkoaopgaaWN
import Derived.Test.YtbeplhbkoaopgaaWRepsOne
import Derived.Test.YtbeplhbkoaopgaaWGuard
import Derived.Test.YtbeplhbkoaopgaaWNEv
import Derived.Test.YtbeplhbkoaopgaaWMore
namespace Go.Proofs.Ytbeplhbkoaopgaa.PFnExactRemoveAt
open Go.RowKit Go.Proofs.YtbeplhbkoaopgaaW.PrintWords Go.Proofs.YtbeplhbkoaopgaaW.PrintLast Go.Proofs.YtbeplhbkoaopgaaW.PrintMore
attribute [local go_sem] max2_int min2_int max_two min_two max_three min_three max_four min_four
set_option linter.unusedVariables false
set_option linter.unusedSimpArgs false
def errW:Option Int→Value
 | none=>.nilIface
 | some c=>.iface 0 (.int .i64 c)
theorem errW_none:errW none=.nilIface:=rfl
theorem errW_some (c:Int):errW (some c)=.iface 0 (.int .i64 c):=rfl
theorem info3:(Try.prog.info? 3).map (fun i=>(i.zero,i.size,i.bytes))=some (some (.int .i64 0),1,8):=by kernel_rfl
theorem info5:(Try.prog.info? 5).map (fun i=>(i.zero,i.size,i.bytes))=some (some (.int .u8 0),1,1):=by kernel_rfl
theorem info9:(Try.prog.info? 9).map (fun i=>(i.zero,i.size,i.bytes))=some (some (.string ⟨#[]⟩),1,16):=by kernel_rfl
theorem info28:(Try.prog.info? 28).map (fun i=>(i.zero,i.size,i.bytes))=some (some (.agg #[(.int .i64 0),(.int .i64 0),(.string ⟨#[]⟩),(.string ⟨#[]⟩),(.slice none 0 0),(.slice none 0 0)]),6,96):=by kernel_rfl
theorem info71:(Try.prog.info? 71).map (fun i=>(i.zero,i.size,i.bytes))=some (some (.agg #[(.string ⟨#[]⟩),(.string ⟨#[]⟩)]),2,32):=by kernel_rfl
/-! #### struct type 81 -/
structure S81 where
 f0:ByteArray
 f1:ByteArray
def z81:S81:=⟨(⟨#[]⟩:ByteArray),(⟨#[]⟩:ByteArray)⟩
def k81:Kd S81:=Kd.iso (Kd.pair Kd.string Kd.string) (fun x:S81=>(x.f0,x.f1))
theorem k81_open {w:World} {x:S81} {cs:List Value} (h:k81.K w x cs):cs=[.string x.f0,.string x.f1]:=by
 obtain ⟨_,_,rfl,rfl,rfl⟩:=h
 exact rfl
theorem k81_openM {w:World} {base:Nat} {ok:Nat→Prop} {x:S81} {cs:List Value} (h:k81.M w base ok x cs):cs=[.string x.f0,.string x.f1]:=by
 obtain ⟨_,_,rfl,rfl,rfl⟩:=h
 exact rfl
theorem k81_mk (w:World) (x:S81)  : k81.K w x [.string x.f0,.string x.f1]:=⟨[.string x.f0],[.string x.f1],rfl,rfl,rfl⟩
theorem k81_mkM (w:World) (base:Nat) (ok:Nat→Prop) (x:S81)  : k81.M w base ok x [.string x.f0,.string x.f1]:=⟨[.string x.f0],[.string x.f1],rfl,rfl,rfl⟩
theorem k81_mkF (W:World) (ok:Nat→Prop) (x:S81):Kd.FK k81 W ok x [.string x.f0,.string x.f1]:=fun W2 _=>k81_mk W2 x
def rd_T81 (xs:List S81) (i:Int):S81:=xs.getD i.toNat z81
theorem at_T81 {w:World} {A:Option Addr} {n:Nat} {xs:List S81} (h:Kd.C k81 w A n xs) (i:Int) (h0:0≤i) (h1:i<n):∃ ad,A=some ad∧w.cell? (ad.add (i.toNat * 2))=some (.string (rd_T81 xs i).f0)∧w.cell? ⟨(ad.add (i.toNat * 2)).block,(ad.add (i.toNat * 2)).off+1,none⟩=some (.string (rd_T81 xs i).f1):=by
 obtain ⟨ad,c,e,_,hK,hc0⟩:=Kd.C_get h z81 i h0 h1
 have hc:∀ j u,c[j]? = some u→w.cell? (ad.add (i.toNat * 2+j))=some u:=hc0
 obtain rfl:=k81_open hK
 exact ⟨ad,e,hc 0 _ rfl,by rw [←add_field _ _ 1 (by omega)];exact hc 1 _ rfl⟩
def rd_L3 (xs:List (List S81)) (i:Int):(List S81):=xs.getD i.toNat ([]:List S81)
theorem at_L3 {w:World} {A:Option Addr} {n:Nat} {xs:List (List S81)} (h:Kd.C (Kd.slice 81 k81) w A n xs) (i:Int) (h0:0≤i) (h1:i<n):∃ ad A0 c0,A=some ad∧w.cell? (ad.add i.toNat)=some (.slice A0 (rd_L3 xs i).length c0)∧(rd_L3 xs i).length≤c0∧k81.C w A0 (rd_L3 xs i).length (rd_L3 xs i):=by
 obtain ⟨ad,c,e,_,hK,hc0⟩:=Kd.C_get h ([]:List S81) i h0 h1
 have hc:∀ j u,c[j]? = some u→w.cell? (ad.add (i.toNat * 1+j))=some u:=hc0
 obtain ⟨A0,c0,rfl,l0,g0⟩:=hK
 exact ⟨ad,A0,c0,e,by have hq:=hc 0 _ rfl;rwa [Nat.mul_one,Nat.add_zero] at hq,l0,g0⟩
/-! #### struct type 47, nested in itself -/
structure S47 where
 f0:Int
 f1:Int
 f2:ByteArray
 f3:ByteArray
 f4:(List S81)
 f5:(List S47)
def z47:S47:=⟨(0:Int),(0:Int),(⟨#[]⟩:ByteArray),(⟨#[]⟩:ByteArray),([]:List S81),([]:List S47)⟩
def F47 (d:Kd S47):Kd S47:=Kd.iso (Kd.pair (Kd.int .i64) (Kd.pair (Kd.int .i64) (Kd.pair Kd.string (Kd.pair Kd.string (Kd.pair (Kd.slice 81 k81) (Kd.slice 47 d)))))) (fun x:S47=>(x.f0,x.f1,x.f2,x.f3,x.f4,x.f5))
theorem mono47:Kd.Mono F47:=Kd.mono_iso _ (Kd.mono_pair (Kd.mono_const _) (Kd.mono_pair (Kd.mono_const _) (Kd.mono_pair (Kd.mono_const _) (Kd.mono_pair (Kd.mono_const _) (Kd.mono_pair (Kd.mono_const _) (Kd.mono_slice 47 Kd.mono_id))))))
theorem sub47:Kd.Sub F47 [47,81]:=Kd.sub_iso _ (Kd.sub_pair (Kd.sub_const _ (by decide)) (Kd.sub_pair (Kd.sub_const _ (by decide)) (Kd.sub_pair (Kd.sub_const _ (by decide)) (Kd.sub_pair (Kd.sub_const _ (by decide)) (Kd.sub_pair (Kd.sub_const _ (by decide)) (Kd.sub_slice 47 (by decide) Kd.sub_id))))))
theorem sz47:∀ n,(Kd.upto F47 6 [47,81] n).sz=6:=Kd.upto_sz (fun _=>rfl)
def k47:Kd S47:=Kd.fix F47 6 [47,81] sz47 (Kd.upto_E sub47)
theorem k47_open {w:World} {x:S47} {cs:List Value} (h:k47.K w x cs):∃ A4 c4 A5 c5,cs=[.int .i64 x.f0,.int .i64 x.f1,.string x.f2,.string x.f3,.slice A4 x.f4.length c4,.slice A5 x.f5.length c5]∧x.f4.length≤c4∧k81.C w A4 x.f4.length x.f4∧x.f5.length≤c5∧k47.C w A5 x.f5.length x.f5:=by
 obtain ⟨n,h⟩:=h
 cases n with
 | zero=>exact h.elim
 | succ n =>
  obtain ⟨_,_,rfl,rfl,⟨_,_,rfl,rfl,⟨_,_,rfl,rfl,⟨_,_,rfl,rfl,⟨_,_,rfl,⟨A4,c4,rfl,l4,g4⟩,⟨A5,c5,rfl,l5,g5⟩⟩⟩⟩⟩⟩:=h
  exact ⟨A4,c4,A5,c5,rfl,l4,g4,l5,Kd.fix_C g5⟩
theorem k47_openM {w:World} {base:Nat} {ok:Nat→Prop} {x:S47} {cs:List Value} (h:k47.M w base ok x cs):∃ v4 v5,cs=[.int .i64 x.f0,.int .i64 x.f1,.string x.f2,.string x.f3,v4,v5]∧k81.R 81 w base ok v4 x.f4∧k47.R 47 w base ok v5 x.f5:=by
 obtain ⟨n,h⟩:=h
 cases n with
 | zero=>exact h.elim
 | succ n =>
  obtain ⟨_,_,rfl,rfl,⟨_,_,rfl,rfl,⟨_,_,rfl,rfl,⟨_,_,rfl,rfl,⟨_,_,rfl,⟨v4,rfl,g4⟩,⟨v5,rfl,g5⟩⟩⟩⟩⟩⟩:=h
  exact ⟨v4,v5,rfl,g4,Kd.fix_R g5⟩
theorem k47_mk (w:World) (x:S47) {A4:Option Addr} {c4:Nat} (l4:x.f4.length≤c4) (g4:k81.C w A4 x.f4.length x.f4) {A5:Option Addr} {c5:Nat} (l5:x.f5.length≤c5) (g5:k47.C w A5 x.f5.length x.f5):k47.K w x [.int .i64 x.f0,.int .i64 x.f1,.string x.f2,.string x.f3,.slice A4 x.f4.length c4,.slice A5 x.f5.length c5]:=by
 obtain ⟨n5,q5⟩:=Kd.fix_C_back mono47 g5
 have r5:=Kd.upto_C_le mono47 sz47 (show n5≤n5 by omega) q5
 exact ⟨n5+1,⟨[.int .i64 x.f0],[.int .i64 x.f1,.string x.f2,.string x.f3,.slice A4 x.f4.length c4,.slice A5 x.f5.length c5],rfl,rfl,⟨[.int .i64 x.f1],[.string x.f2,.string x.f3,.slice A4 x.f4.length c4,.slice A5 x.f5.length c5],rfl,rfl,⟨[.string x.f2],[.string x.f3,.slice A4 x.f4.length c4,.slice A5 x.f5.length c5],rfl,rfl,⟨[.string x.f3],[.slice A4 x.f4.length c4,.slice A5 x.f5.length c5],rfl,rfl,⟨[.slice A4 x.f4.length c4],[.slice A5 x.f5.length c5],rfl,⟨A4,c4,rfl,l4,g4⟩,⟨A5,c5,rfl,l5,r5⟩⟩⟩⟩⟩⟩⟩
theorem k47_mkM (w:World) (base:Nat) (ok:Nat→Prop) (x:S47) {v4:Value} (g4:k81.R 81 w base ok v4 x.f4) {v5:Value} (g5:k47.R 47 w base ok v5 x.f5):k47.M w base ok x [.int .i64 x.f0,.int .i64 x.f1,.string x.f2,.string x.f3,v4,v5]:=by
 obtain ⟨n5,q5⟩:=Kd.fix_R_back mono47 g5
 have r5:=Kd.upto_R_le mono47 sz47 (show n5≤n5 by omega) q5
 exact ⟨n5+1,⟨[.int .i64 x.f0],[.int .i64 x.f1,.string x.f2,.string x.f3,v4,v5],rfl,rfl,⟨[.int .i64 x.f1],[.string x.f2,.string x.f3,v4,v5],rfl,rfl,⟨[.string x.f2],[.string x.f3,v4,v5],rfl,rfl,⟨[.string x.f3],[v4,v5],rfl,rfl,⟨[v4],[v5],rfl,⟨v4,rfl,g4⟩,⟨v5,rfl,r5⟩⟩⟩⟩⟩⟩⟩
theorem k47_openF {W:World} {ok:Nat→Prop} {x:S47} {cs:List Value} (h:Kd.FK k47 W ok x cs):∃ A4 c4 A5 c5,cs=[.int .i64 x.f0,.int .i64 x.f1,.string x.f2,.string x.f3,.slice A4 x.f4.length c4,.slice A5 x.f5.length c5]∧x.f4.length≤c4∧Kd.F k81 W ok A4 x.f4.length x.f4∧x.f5.length≤c5∧Kd.F k47 W ok A5 x.f5.length x.f5:=by
 obtain ⟨A4,c4,A5,c5,rfl,l4,_,l5,_⟩:=k47_open (Kd.FK_now h)
 exact ⟨A4,c4,A5,c5,rfl,l4,(fun W' hW=>by obtain ⟨A4_,c4_,A5_,c5_,he,l4_,g4_,l5_,g5_⟩:=k47_open (h W' hW);injection (oi_ (show some (Value.slice A4 x.f4.length c4)=some (Value.slice A4_ x.f4.length c4_) from congrArg (fun l=>l[4]?) he)) with ha_ _ _;rw [ha_];exact g4_),l5,(fun W' hW=>by obtain ⟨A4_,c4_,A5_,c5_,he,l4_,g4_,l5_,g5_⟩:=k47_open (h W' hW);injection (oi_ (show some (Value.slice A5 x.f5.length c5)=some (Value.slice A5_ x.f5.length c5_) from congrArg (fun l=>l[5]?) he)) with ha_ _ _;rw [ha_];exact g5_)⟩
theorem k47_mkF (W:World) (ok:Nat→Prop) (x:S47) {A4:Option Addr} {c4:Nat} (l4:x.f4.length≤c4) (g4:Kd.F k81 W ok A4 x.f4.length x.f4) {A5:Option Addr} {c5:Nat} (l5:x.f5.length≤c5) (g5:Kd.F k47 W ok A5 x.f5.length x.f5):Kd.FK k47 W ok x [.int .i64 x.f0,.int .i64 x.f1,.string x.f2,.string x.f3,.slice A4 x.f4.length c4,.slice A5 x.f5.length c5]:=fun W2 hW=>k47_mk W2 x l4 (g4 W2 hW) l5 (g5 W2 hW)
def rd_T47 (xs:List S47) (i:Int):S47:=xs.getD i.toNat z47
theorem at_T47 {w:World} {A:Option Addr} {n:Nat} {xs:List S47} (h:Kd.C k47 w A n xs) (i:Int) (h0:0≤i) (h1:i<n):∃ ad A4 c4 A5 c5,A=some ad∧w.cell? (ad.add (i.toNat * 6))=some (.int .i64 (rd_T47 xs i).f0)∧w.cell? ⟨(ad.add (i.toNat * 6)).block,(ad.add (i.toNat * 6)).off+1,none⟩=some (.int .i64 (rd_T47 xs i).f1)∧w.cell? ⟨(ad.add (i.toNat * 6)).block,(ad.add (i.toNat * 6)).off+2,none⟩=some (.string (rd_T47 xs i).f2)∧w.cell? ⟨(ad.add (i.toNat * 6)).block,(ad.add (i.toNat * 6)).off+3,none⟩=some (.string (rd_T47 xs i).f3)∧w.cell? ⟨(ad.add (i.toNat * 6)).block,(ad.add (i.toNat * 6)).off+4,none⟩=some (.slice A4 (rd_T47 xs i).f4.length c4)∧w.cell? ⟨(ad.add (i.toNat * 6)).block,(ad.add (i.toNat * 6)).off+5,none⟩=some (.slice A5 (rd_T47 xs i).f5.length c5)∧(rd_T47 xs i).f4.length≤c4∧k81.C w A4 (rd_T47 xs i).f4.length (rd_T47 xs i).f4∧(rd_T47 xs i).f5.length≤c5∧k47.C w A5 (rd_T47 xs i).f5.length (rd_T47 xs i).f5:=by
 obtain ⟨ad,c,e,_,hK,hc0⟩:=Kd.C_get h z47 i h0 h1
 have hc:∀ j u,c[j]? = some u→w.cell? (ad.add (i.toNat * 6+j))=some u:=hc0
 obtain ⟨A4,c4,A5,c5,rfl,l4,g4,l5,g5⟩:=k47_open hK
 exact ⟨ad,A4,c4,A5,c5,e,hc 0 _ rfl,by rw [←add_field _ _ 1 (by omega)];exact hc 1 _ rfl,by rw [←add_field _ _ 2 (by omega)];exact hc 2 _ rfl,by rw [←add_field _ _ 3 (by omega)];exact hc 3 _ rfl,by rw [←add_field _ _ 4 (by omega)];exact hc 4 _ rfl,by rw [←add_field _ _ 5 (by omega)];exact hc 5 _ rfl,l4,g4,l5,g5⟩
/-! #### struct type 71 -/
structure S71 where
 f0:ByteArray
 f1:ByteArray
def z71:S71:=⟨(⟨#[]⟩:ByteArray),(⟨#[]⟩:ByteArray)⟩
def k71:Kd S71:=Kd.iso (Kd.pair Kd.string Kd.string) (fun x:S71=>(x.f0,x.f1))
theorem k71_open {w:World} {x:S71} {cs:List Value} (h:k71.K w x cs):cs=[.string x.f0,.string x.f1]:=by
 obtain ⟨_,_,rfl,rfl,rfl⟩:=h
 exact rfl
theorem k71_openM {w:World} {base:Nat} {ok:Nat→Prop} {x:S71} {cs:List Value} (h:k71.M w base ok x cs):cs=[.string x.f0,.string x.f1]:=by
 obtain ⟨_,_,rfl,rfl,rfl⟩:=h
 exact rfl
theorem k71_mk (w:World) (x:S71)  : k71.K w x [.string x.f0,.string x.f1]:=⟨[.string x.f0],[.string x.f1],rfl,rfl,rfl⟩
theorem k71_mkM (w:World) (base:Nat) (ok:Nat→Prop) (x:S71)  : k71.M w base ok x [.string x.f0,.string x.f1]:=⟨[.string x.f0],[.string x.f1],rfl,rfl,rfl⟩
theorem k71_mkF (W:World) (ok:Nat→Prop) (x:S71):Kd.FK k71 W ok x [.string x.f0,.string x.f1]:=fun W2 _=>k71_mk W2 x
def rd_T71 (xs:List S71) (i:Int):S71:=xs.getD i.toNat z71
theorem at_T71 {w:World} {A:Option Addr} {n:Nat} {xs:List S71} (h:Kd.C k71 w A n xs) (i:Int) (h0:0≤i) (h1:i<n):∃ ad,A=some ad∧w.cell? (ad.add (i.toNat * 2))=some (.string (rd_T71 xs i).f0)∧w.cell? ⟨(ad.add (i.toNat * 2)).block,(ad.add (i.toNat * 2)).off+1,none⟩=some (.string (rd_T71 xs i).f1):=by
 obtain ⟨ad,c,e,_,hK,hc0⟩:=Kd.C_get h z71 i h0 h1
 have hc:∀ j u,c[j]? = some u→w.cell? (ad.add (i.toNat * 2+j))=some u:=hc0
 obtain rfl:=k71_open hK
 exact ⟨ad,e,hc 0 _ rfl,by rw [←add_field _ _ 1 (by omega)];exact hc 1 _ rfl⟩
def rd_L6 (xs:List (List S71)) (i:Int):(List S71):=xs.getD i.toNat ([]:List S71)
theorem at_L6 {w:World} {A:Option Addr} {n:Nat} {xs:List (List S71)} (h:Kd.C (Kd.slice 71 k71) w A n xs) (i:Int) (h0:0≤i) (h1:i<n):∃ ad A0 c0,A=some ad∧w.cell? (ad.add i.toNat)=some (.slice A0 (rd_L6 xs i).length c0)∧(rd_L6 xs i).length≤c0∧k71.C w A0 (rd_L6 xs i).length (rd_L6 xs i):=by
 obtain ⟨ad,c,e,_,hK,hc0⟩:=Kd.C_get h ([]:List S71) i h0 h1
 have hc:∀ j u,c[j]? = some u→w.cell? (ad.add (i.toNat * 1+j))=some u:=hc0
 obtain ⟨A0,c0,rfl,l0,g0⟩:=hK
 exact ⟨ad,A0,c0,e,by have hq:=hc 0 _ rfl;rwa [Nat.mul_one,Nat.add_zero] at hq,l0,g0⟩
/-! #### struct type 28, nested in itself -/
structure S28 where
 f0:Int
 f1:Int
 f2:ByteArray
 f3:ByteArray
 f4:(List S71)
 f5:(List S28)
def z28:S28:=⟨(0:Int),(0:Int),(⟨#[]⟩:ByteArray),(⟨#[]⟩:ByteArray),([]:List S71),([]:List S28)⟩
def F28 (d:Kd S28):Kd S28:=Kd.iso (Kd.pair (Kd.int .i64) (Kd.pair (Kd.int .i64) (Kd.pair Kd.string (Kd.pair Kd.string (Kd.pair (Kd.slice 71 k71) (Kd.slice 28 d)))))) (fun x:S28=>(x.f0,x.f1,x.f2,x.f3,x.f4,x.f5))
theorem mono28:Kd.Mono F28:=Kd.mono_iso _ (Kd.mono_pair (Kd.mono_const _) (Kd.mono_pair (Kd.mono_const _) (Kd.mono_pair (Kd.mono_const _) (Kd.mono_pair (Kd.mono_const _) (Kd.mono_pair (Kd.mono_const _) (Kd.mono_slice 28 Kd.mono_id))))))
theorem sub28:Kd.Sub F28 [28,71]:=Kd.sub_iso _ (Kd.sub_pair (Kd.sub_const _ (by decide)) (Kd.sub_pair (Kd.sub_const _ (by decide)) (Kd.sub_pair (Kd.sub_const _ (by decide)) (Kd.sub_pair (Kd.sub_const _ (by decide)) (Kd.sub_pair (Kd.sub_const _ (by decide)) (Kd.sub_slice 28 (by decide) Kd.sub_id))))))
theorem sz28:∀ n,(Kd.upto F28 6 [28,71] n).sz=6:=Kd.upto_sz (fun _=>rfl)
def k28:Kd S28:=Kd.fix F28 6 [28,71] sz28 (Kd.upto_E sub28)
theorem k28_open {w:World} {x:S28} {cs:List Value} (h:k28.K w x cs):∃ A4 c4 A5 c5,cs=[.int .i64 x.f0,.int .i64 x.f1,.string x.f2,.string x.f3,.slice A4 x.f4.length c4,.slice A5 x.f5.length c5]∧x.f4.length≤c4∧k71.C w A4 x.f4.length x.f4∧x.f5.length≤c5∧k28.C w A5 x.f5.length x.f5:=by
 obtain ⟨n,h⟩:=h
 cases n with
 | zero=>exact h.elim
 | succ n =>
  obtain ⟨_,_,rfl,rfl,⟨_,_,rfl,rfl,⟨_,_,rfl,rfl,⟨_,_,rfl,rfl,⟨_,_,rfl,⟨A4,c4,rfl,l4,g4⟩,⟨A5,c5,rfl,l5,g5⟩⟩⟩⟩⟩⟩:=h
  exact ⟨A4,c4,A5,c5,rfl,l4,g4,l5,Kd.fix_C g5⟩
theorem k28_openM {w:World} {base:Nat} {ok:Nat→Prop} {x:S28} {cs:List Value} (h:k28.M w base ok x cs):∃ v4 v5,cs=[.int .i64 x.f0,.int .i64 x.f1,.string x.f2,.string x.f3,v4,v5]∧k71.R 71 w base ok v4 x.f4∧k28.R 28 w base ok v5 x.f5:=by
 obtain ⟨n,h⟩:=h
 cases n with
 | zero=>exact h.elim
 | succ n =>
  obtain ⟨_,_,rfl,rfl,⟨_,_,rfl,rfl,⟨_,_,rfl,rfl,⟨_,_,rfl,rfl,⟨_,_,rfl,⟨v4,rfl,g4⟩,⟨v5,rfl,g5⟩⟩⟩⟩⟩⟩:=h
  exact ⟨v4,v5,rfl,g4,Kd.fix_R g5⟩
theorem k28_mk (w:World) (x:S28) {A4:Option Addr} {c4:Nat} (l4:x.f4.length≤c4) (g4:k71.C w A4 x.f4.length x.f4) {A5:Option Addr} {c5:Nat} (l5:x.f5.length≤c5) (g5:k28.C w A5 x.f5.length x.f5):k28.K w x [.int .i64 x.f0,.int .i64 x.f1,.string x.f2,.string x.f3,.slice A4 x.f4.length c4,.slice A5 x.f5.length c5]:=by
 obtain ⟨n5,q5⟩:=Kd.fix_C_back mono28 g5
 have r5:=Kd.upto_C_le mono28 sz28 (show n5≤n5 by omega) q5
 exact ⟨n5+1,⟨[.int .i64 x.f0],[.int .i64 x.f1,.string x.f2,.string x.f3,.slice A4 x.f4.length c4,.slice A5 x.f5.length c5],rfl,rfl,⟨[.int .i64 x.f1],[.string x.f2,.string x.f3,.slice A4 x.f4.length c4,.slice A5 x.f5.length c5],rfl,rfl,⟨[.string x.f2],[.string x.f3,.slice A4 x.f4.length c4,.slice A5 x.f5.length c5],rfl,rfl,⟨[.string x.f3],[.slice A4 x.f4.length c4,.slice A5 x.f5.length c5],rfl,rfl,⟨[.slice A4 x.f4.length c4],[.slice A5 x.f5.length c5],rfl,⟨A4,c4,rfl,l4,g4⟩,⟨A5,c5,rfl,l5,r5⟩⟩⟩⟩⟩⟩⟩
theorem k28_mkM (w:World) (base:Nat) (ok:Nat→Prop) (x:S28) {v4:Value} (g4:k71.R 71 w base ok v4 x.f4) {v5:Value} (g5:k28.R 28 w base ok v5 x.f5):k28.M w base ok x [.int .i64 x.f0,.int .i64 x.f1,.string x.f2,.string x.f3,v4,v5]:=by
 obtain ⟨n5,q5⟩:=Kd.fix_R_back mono28 g5
 have r5:=Kd.upto_R_le mono28 sz28 (show n5≤n5 by omega) q5
 exact ⟨n5+1,⟨[.int .i64 x.f0],[.int .i64 x.f1,.string x.f2,.string x.f3,v4,v5],rfl,rfl,⟨[.int .i64 x.f1],[.string x.f2,.string x.f3,v4,v5],rfl,rfl,⟨[.string x.f2],[.string x.f3,v4,v5],rfl,rfl,⟨[.string x.f3],[v4,v5],rfl,rfl,⟨[v4],[v5],rfl,⟨v4,rfl,g4⟩,⟨v5,rfl,r5⟩⟩⟩⟩⟩⟩⟩
theorem k28_openF {W:World} {ok:Nat→Prop} {x:S28} {cs:List Value} (h:Kd.FK k28 W ok x cs):∃ A4 c4 A5 c5,cs=[.int .i64 x.f0,.int .i64 x.f1,.string x.f2,.string x.f3,.slice A4 x.f4.length c4,.slice A5 x.f5.length c5]∧x.f4.length≤c4∧Kd.F k71 W ok A4 x.f4.length x.f4∧x.f5.length≤c5∧Kd.F k28 W ok A5 x.f5.length x.f5:=by
 obtain ⟨A4,c4,A5,c5,rfl,l4,_,l5,_⟩:=k28_open (Kd.FK_now h)
 exact ⟨A4,c4,A5,c5,rfl,l4,(fun W' hW=>by obtain ⟨A4_,c4_,A5_,c5_,he,l4_,g4_,l5_,g5_⟩:=k28_open (h W' hW);injection (oi_ (show some (Value.slice A4 x.f4.length c4)=some (Value.slice A4_ x.f4.length c4_) from congrArg (fun l=>l[4]?) he)) with ha_ _ _;rw [ha_];exact g4_),l5,(fun W' hW=>by obtain ⟨A4_,c4_,A5_,c5_,he,l4_,g4_,l5_,g5_⟩:=k28_open (h W' hW);injection (oi_ (show some (Value.slice A5 x.f5.length c5)=some (Value.slice A5_ x.f5.length c5_) from congrArg (fun l=>l[5]?) he)) with ha_ _ _;rw [ha_];exact g5_)⟩
theorem k28_mkF (W:World) (ok:Nat→Prop) (x:S28) {A4:Option Addr} {c4:Nat} (l4:x.f4.length≤c4) (g4:Kd.F k71 W ok A4 x.f4.length x.f4) {A5:Option Addr} {c5:Nat} (l5:x.f5.length≤c5) (g5:Kd.F k28 W ok A5 x.f5.length x.f5):Kd.FK k28 W ok x [.int .i64 x.f0,.int .i64 x.f1,.string x.f2,.string x.f3,.slice A4 x.f4.length c4,.slice A5 x.f5.length c5]:=fun W2 hW=>k28_mk W2 x l4 (g4 W2 hW) l5 (g5 W2 hW)
def rd_T28 (xs:List S28) (i:Int):S28:=xs.getD i.toNat z28
theorem at_T28 {w:World} {A:Option Addr} {n:Nat} {xs:List S28} (h:Kd.C k28 w A n xs) (i:Int) (h0:0≤i) (h1:i<n):∃ ad A4 c4 A5 c5,A=some ad∧w.cell? (ad.add (i.toNat * 6))=some (.int .i64 (rd_T28 xs i).f0)∧w.cell? ⟨(ad.add (i.toNat * 6)).block,(ad.add (i.toNat * 6)).off+1,none⟩=some (.int .i64 (rd_T28 xs i).f1)∧w.cell? ⟨(ad.add (i.toNat * 6)).block,(ad.add (i.toNat * 6)).off+2,none⟩=some (.string (rd_T28 xs i).f2)∧w.cell? ⟨(ad.add (i.toNat * 6)).block,(ad.add (i.toNat * 6)).off+3,none⟩=some (.string (rd_T28 xs i).f3)∧w.cell? ⟨(ad.add (i.toNat * 6)).block,(ad.add (i.toNat * 6)).off+4,none⟩=some (.slice A4 (rd_T28 xs i).f4.length c4)∧w.cell? ⟨(ad.add (i.toNat * 6)).block,(ad.add (i.toNat * 6)).off+5,none⟩=some (.slice A5 (rd_T28 xs i).f5.length c5)∧(rd_T28 xs i).f4.length≤c4∧k71.C w A4 (rd_T28 xs i).f4.length (rd_T28 xs i).f4∧(rd_T28 xs i).f5.length≤c5∧k28.C w A5 (rd_T28 xs i).f5.length (rd_T28 xs i).f5:=by
 obtain ⟨ad,c,e,_,hK,hc0⟩:=Kd.C_get h z28 i h0 h1
 have hc:∀ j u,c[j]? = some u→w.cell? (ad.add (i.toNat * 6+j))=some u:=hc0
 obtain ⟨A4,c4,A5,c5,rfl,l4,g4,l5,g5⟩:=k28_open hK
 exact ⟨ad,A4,c4,A5,c5,e,hc 0 _ rfl,by rw [←add_field _ _ 1 (by omega)];exact hc 1 _ rfl,by rw [←add_field _ _ 2 (by omega)];exact hc 2 _ rfl,by rw [←add_field _ _ 3 (by omega)];exact hc 3 _ rfl,by rw [←add_field _ _ 4 (by omega)];exact hc 4 _ rfl,by rw [←add_field _ _ 5 (by omega)];exact hc 5 _ rfl,l4,g4,l5,g5⟩
def rd_L10 (xs:List (List S28)) (i:Int):(List S28):=xs.getD i.toNat ([]:List S28)
theorem at_L10 {w:World} {A:Option Addr} {n:Nat} {xs:List (List S28)} (h:Kd.C (Kd.slice 28 k28) w A n xs) (i:Int) (h0:0≤i) (h1:i<n):∃ ad A0 c0,A=some ad∧w.cell? (ad.add i.toNat)=some (.slice A0 (rd_L10 xs i).length c0)∧(rd_L10 xs i).length≤c0∧k28.C w A0 (rd_L10 xs i).length (rd_L10 xs i):=by
 obtain ⟨ad,c,e,_,hK,hc0⟩:=Kd.C_get h ([]:List S28) i h0 h1
 have hc:∀ j u,c[j]? = some u→w.cell? (ad.add (i.toNat * 1+j))=some u:=hc0
 obtain ⟨A0,c0,rfl,l0,g0⟩:=hK
 exact ⟨ad,A0,c0,e,by have hq:=hc 0 _ rfl;rwa [Nat.mul_one,Nat.add_zero] at hq,l0,g0⟩
def rd_L11 (xs:List (List S47)) (i:Int):(List S47):=xs.getD i.toNat ([]:List S47)
theorem at_L11 {w:World} {A:Option Addr} {n:Nat} {xs:List (List S47)} (h:Kd.C (Kd.slice 47 k47) w A n xs) (i:Int) (h0:0≤i) (h1:i<n):∃ ad A0 c0,A=some ad∧w.cell? (ad.add i.toNat)=some (.slice A0 (rd_L11 xs i).length c0)∧(rd_L11 xs i).length≤c0∧k47.C w A0 (rd_L11 xs i).length (rd_L11 xs i):=by
 obtain ⟨ad,c,e,_,hK,hc0⟩:=Kd.C_get h ([]:List S47) i h0 h1
 have hc:∀ j u,c[j]? = some u→w.cell? (ad.add (i.toNat * 1+j))=some u:=hc0
 obtain ⟨A0,c0,rfl,l0,g0⟩:=hK
 exact ⟨ad,A0,c0,e,by have hq:=hc 0 _ rfl;rwa [Nat.mul_one,Nat.add_zero] at hq,l0,g0⟩
def rd_L12 (xs:List (List Int)) (i:Int):(List Int):=xs.getD i.toNat ([]:List Int)
theorem at_L12 {w:World} {A:Option Addr} {n:Nat} {xs:List (List Int)} (h:Kd.C (Kd.slice 3 (Kd.int .i64)) w A n xs) (i:Int) (h0:0≤i) (h1:i<n):∃ ad A0 c0,A=some ad∧w.cell? (ad.add i.toNat)=some (.slice A0 (rd_L12 xs i).length c0)∧(rd_L12 xs i).length≤c0∧(Kd.int .i64).C w A0 (rd_L12 xs i).length (rd_L12 xs i):=by
 obtain ⟨ad,c,e,_,hK,hc0⟩:=Kd.C_get h ([]:List Int) i h0 h1
 have hc:∀ j u,c[j]? = some u→w.cell? (ad.add (i.toNat * 1+j))=some u:=hc0
 obtain ⟨A0,c0,rfl,l0,g0⟩:=hK
 exact ⟨ad,A0,c0,e,by have hq:=hc 0 _ rfl;rwa [Nat.mul_one,Nat.add_zero] at hq,l0,g0⟩
/-! #### trees of one's own, all of whose rows lie apart -/
def FT (d:Kd S28):Kd S28:=Kd.iso (Kd.pair (Kd.int .i64) (Kd.pair (Kd.int .i64) (Kd.pair Kd.string (Kd.pair Kd.string (Sep.apart (Kd.slice 71 k71) (Sep.sliceS 28 d)))))) (fun x:S28=>(x.f0,x.f1,x.f2,x.f3,x.f4,x.f5))
theorem monoT:Kd.Mono FT:=Kd.mono_iso _ (Kd.mono_pair (Kd.mono_const _) (Kd.mono_pair (Kd.mono_const _) (Kd.mono_pair (Kd.mono_const _) (Kd.mono_pair (Kd.mono_const _) (Sep.mono_apart (Kd.mono_const _) (Sep.mono_sliceS 28 Kd.mono_id))))))
theorem subT:Kd.Sub FT [28,71]:=Kd.sub_iso _ (Kd.sub_pair (Kd.sub_const _ (by decide)) (Kd.sub_pair (Kd.sub_const _ (by decide)) (Kd.sub_pair (Kd.sub_const _ (by decide)) (Kd.sub_pair (Kd.sub_const _ (by decide)) (Sep.sub_apart (Kd.sub_const _ (by decide)) (Sep.sub_sliceS 28 (by decide) Kd.sub_id))))))
theorem szT:∀ n,(Kd.upto FT 6 [28,71] n).sz=6:=Kd.upto_sz (fun _=>rfl)
def kTN:Kd S28:=Kd.fix FT 6 [28,71] szT (Kd.upto_E subT)
theorem uptoT_K:∀ (n:Nat) (w:World) (x:S28) (cs:List Value),(Kd.upto FT 6 [28,71] n).K w x cs→k28.K w x cs
 | 0,_,_,_,h=>h.elim
 | n+1,w,x,cs,h=>by
  obtain ⟨_,_,rfl,rfl,⟨_,_,rfl,rfl,⟨_,_,rfl,rfl,⟨_,_,rfl,rfl,⟨_,_,rfl,⟨A4,c4,rfl,l4,g4⟩,⟨A5,c5,rfl,l5,g5⟩⟩⟩⟩⟩⟩:=h
  exact k28_mk w x l4 g4 l5 (Kd.C_imp (d':=k28) (szT n) (uptoT_K n) g5)
theorem kTN_C {w:World} {A:Option Addr} {n:Nat} {xs:List S28} (h:Kd.C kTN w A n xs):Kd.C k28 w A n xs :=
 Kd.C_imp (d:=kTN) (d':=k28) rfl (fun w x cs hk=>by obtain ⟨n,hk⟩:=hk;exact uptoT_K n w x cs hk) h
theorem kTN_openM {w:World} {base:Nat} {ok:Nat→Prop} {x:S28} {cs:List Value} (h:kTN.M w base ok x cs):∃ v4 v5,∃ p:Nat→Prop,cs=[.int .i64 x.f0,.int .i64 x.f1,.string x.f2,.string x.f3,v4,v5]∧Kd.R k71 71 w base (fun k=>ok k∧p k) v4 x.f4∧Kd.S kTN 28 w base (fun k=>ok k∧¬ p k) v5 x.f5:=by
 obtain ⟨n,h⟩:=h
 cases n with
 | zero=>exact h.elim
 | succ n =>
  obtain ⟨_,_,rfl,rfl,⟨_,_,rfl,rfl,⟨_,_,rfl,rfl,⟨_,_,rfl,rfl,⟨_,_,p,rfl,⟨v4,rfl,g4⟩,⟨v5,rfl,g5⟩⟩⟩⟩⟩⟩:=h
  exact ⟨v4,v5,p,rfl,g4,Sep.fix_S g5⟩
theorem kTN_mkM (w:World) (base:Nat) (ok p:Nat→Prop) (x:S28) {v4:Value} (g4:Kd.R k71 71 w base (fun k=>ok k∧p k) v4 x.f4) {v5:Value} (g5:Kd.S kTN 28 w base (fun k=>ok k∧¬ p k) v5 x.f5):kTN.M w base ok x [.int .i64 x.f0,.int .i64 x.f1,.string x.f2,.string x.f3,v4,v5]:=by
 obtain ⟨n,q⟩:=Sep.fix_S_back monoT g5
 exact ⟨n+1,⟨[.int .i64 x.f0],[.int .i64 x.f1,.string x.f2,.string x.f3,v4,v5],rfl,rfl,⟨[.int .i64 x.f1],[.string x.f2,.string x.f3,v4,v5],rfl,rfl,⟨[.string x.f2],[.string x.f3,v4,v5],rfl,rfl,⟨[.string x.f3],[v4,v5],rfl,rfl,⟨[v4],[v5],p,rfl,⟨v4,rfl,g4⟩,⟨v5,rfl,q⟩⟩⟩⟩⟩⟩⟩
/-- A tree of one's own is one that is read. -/
theorem S_readsT {w:World} {base n c:Nat} {ok:Nat→Prop} {A:Option Addr} {xs:List S28} (h:Kd.S kTN 28 w base ok (.slice A n c) xs):n=xs.length∧n≤c∧Kd.C k28 w A xs.length xs :=
 ⟨(Kd.S_reads' h).1,(Kd.S_reads' h).2.1,kTN_C (Kd.S_reads' h).2.2⟩
end Go.Proofs.Ytbeplhbkoaopgaa.PFnExactRemoveAt
