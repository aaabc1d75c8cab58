/- By a program of this session, out of the kit's print and contracts made by hand: the machine side of a law; Lean checks it. No conditions. -/
import Derived.Test.YtlhhcbhmnmndiaaProg
import Derived.Test.YtlhhcbhmnmndiaaMach
import Derived.Test.YtlhhcbhmnmndiaaKit
import Derived.Lib.SliceRun
import Derived.Lib.OthersKept
import Derived.Outline
import Derived.Deep.RegionHeld3
import Derived.StillTailTactics
import Derived.Test.YtlhhcbhmnmndiaaSep
import Derived.Below
import Derived.Deep.Draws
import Derived.Deep.AppendLies
import Derived.Maps.AppendAt
import Derived.OwnWalk
import Derived.Laws.BytesArg
import Derived.Laws.MakeOwn
import Derived.Laws.OwnMore
import Derived.Deep.OwnRows
import Derived.Tactics
import Derived.Lib.ConvBytes
import Derived.Laws.Slices
import Derived.WalkKit
import Derived.KernelRfl
import Derived.RowKit3
import Derived.Deep.LoopGhost
import Derived.Deep.QuietTactic
import Derived.BigQuiet
import Derived.WideLaws
import Derived.Deep.DeepCutAuto
import Derived.Deep.CutBlock
import Derived.Deep.RegionHeld3
import Derived.Laws.Rows
import Derived.Lib.AppendStr
import Derived.ArgAppend
import Derived.Laws.IdiomCopy
import Derived.OrdersHeld
import Derived.Laws.BitsLemmas
import Derived.RowKit
import Derived.Test.YtlhhcbhmnmndiaaWWords
import Derived.Test.YtlhhcbhmnmndiaaWShort
import Derived.Test.YtlhhcbhmnmndiaaWLast
import Derived.Test.YtlhhcbhmnmndiaaWTab
import Derived.Test.YtlhhcbhmnmndiaaWQPut
import Derived.Test.YtlhhcbhmnmndiaaWApart
import Derived.Test.YtlhhcbhmnmndiaaWArr
import Derived.Test.YtlhhcbhmnmndiaaWZeros
import Derived.Test.YtlhhcbhmnmndiaaWFoot
import Derived.Test.YtlhhcbhmnmndiaaWKept
import Derived.Test.YtlhhcbhmnmndiaaWShare
import Derived.Test.YtlhhcbhmnmndiaaWN
import Derived.Test.YtlhhcbhmnmndiaaWRepsOne
import Derived.Test.YtlhhcbhmnmndiaaWGuard
import Derived.Test.YtlhhcbhmnmndiaaWNEv
import Derived.Test.YtlhhcbhmnmndiaaWMore
namespace Go.Proofs.Ytlhhcbhmnmndiaa.PFnExactMergeText
open Go.RowKit Go.Proofs.YtlhhcbhmnmndiaaW.PrintWords Go.Proofs.YtlhhcbhmnmndiaaW.PrintLast Go.Proofs.YtlhhcbhmnmndiaaW.PrintMore
attribute [local go_sem] max2_int min2_int max_two min_two max_three min_three max_four min_four
set_option linter.unusedVariables false
set_option linter.unusedSimpArgs false
def errW:Option Int→Value
 | none=>.nilIface
 | some c=>.iface 0 (.int .i64 c)
theorem errW_none:errW none=.nilIface:=rfl
theorem errW_some (c:Int):errW (some c)=.iface 0 (.int .i64 c):=rfl
theorem info5:(Try.prog.info? 5).map (fun i=>(i.zero,i.size,i.bytes))=some (some (.int .u8 0),1,1):=by kernel_rfl
theorem info9:(Try.prog.info? 9).map (fun i=>(i.zero,i.size,i.bytes))=some (some (.string ⟨#[]⟩),1,16):=by kernel_rfl
theorem info49:(Try.prog.info? 49).map (fun i=>(i.zero,i.size,i.bytes))=some (some (.agg #[(.int .i64 0),(.int .i64 0),(.string ⟨#[]⟩),(.string ⟨#[]⟩),(.slice none 0 0),(.slice none 0 0)]),6,96):=by kernel_rfl
theorem info68:(Try.prog.info? 68).map (fun i=>(i.zero,i.size,i.bytes))=some (some (.agg #[(.string ⟨#[]⟩),(.string ⟨#[]⟩)]),2,32):=by kernel_rfl
/-! #### struct type 73 -/
structure S73 where
 f0:ByteArray
 f1:ByteArray
def z73:S73:=⟨(⟨#[]⟩:ByteArray),(⟨#[]⟩:ByteArray)⟩
def k73:Kd S73:=Kd.iso (Kd.pair Kd.string Kd.string) (fun x:S73=>(x.f0,x.f1))
theorem k73_open {w:World} {x:S73} {cs:List Value} (h:k73.K w x cs):cs=[.string x.f0,.string x.f1]:=by
 obtain ⟨_,_,rfl,rfl,rfl⟩:=h
 exact rfl
theorem k73_openM {w:World} {base:Nat} {ok:Nat→Prop} {x:S73} {cs:List Value} (h:k73.M w base ok x cs):cs=[.string x.f0,.string x.f1]:=by
 obtain ⟨_,_,rfl,rfl,rfl⟩:=h
 exact rfl
theorem k73_mk (w:World) (x:S73)  : k73.K w x [.string x.f0,.string x.f1]:=⟨[.string x.f0],[.string x.f1],rfl,rfl,rfl⟩
theorem k73_mkM (w:World) (base:Nat) (ok:Nat→Prop) (x:S73)  : k73.M w base ok x [.string x.f0,.string x.f1]:=⟨[.string x.f0],[.string x.f1],rfl,rfl,rfl⟩
def rd_T73 (xs:List S73) (i:Int):S73:=xs.getD i.toNat z73
theorem at_T73 {w:World} {A:Option Addr} {n:Nat} {xs:List S73} (h:Kd.C k73 w A n xs) (i:Int) (h0:0≤i) (h1:i<n):∃ ad,A=some ad∧w.cell? (ad.add (i.toNat * 2))=some (.string (rd_T73 xs i).f0)∧w.cell? ⟨(ad.add (i.toNat * 2)).block,(ad.add (i.toNat * 2)).off+1,none⟩=some (.string (rd_T73 xs i).f1):=by
 obtain ⟨ad,c,e,_,hK,hc0⟩:=Kd.C_get h z73 i h0 h1
 have hc:∀ j u,c[j]? = some u→w.cell? (ad.add (i.toNat * 2+j))=some u:=hc0
 obtain rfl:=k73_open hK
 exact ⟨ad,e,hc 0 _ rfl,by rw [←add_field _ _ 1 (by omega)];exact hc 1 _ rfl⟩
def rd_L3 (xs:List (List S73)) (i:Int):(List S73):=xs.getD i.toNat ([]:List S73)
theorem at_L3 {w:World} {A:Option Addr} {n:Nat} {xs:List (List S73)} (h:Kd.C (Kd.slice 73 k73) w A n xs) (i:Int) (h0:0≤i) (h1:i<n):∃ ad A0 c0,A=some ad∧w.cell? (ad.add i.toNat)=some (.slice A0 (rd_L3 xs i).length c0)∧(rd_L3 xs i).length≤c0∧k73.C w A0 (rd_L3 xs i).length (rd_L3 xs i):=by
 obtain ⟨ad,c,e,_,hK,hc0⟩:=Kd.C_get h ([]:List S73) i h0 h1
 have hc:∀ j u,c[j]? = some u→w.cell? (ad.add (i.toNat * 1+j))=some u:=hc0
 obtain ⟨A0,c0,rfl,l0,g0⟩:=hK
 exact ⟨ad,A0,c0,e,by have hq:=hc 0 _ rfl;rwa [Nat.mul_one,Nat.add_zero] at hq,l0,g0⟩
/-! #### struct type 44, nested in itself -/
structure S44 where
 f0:Int
 f1:Int
 f2:ByteArray
 f3:ByteArray
 f4:(List S73)
 f5:(List S44)
def z44:S44:=⟨(0:Int),(0:Int),(⟨#[]⟩:ByteArray),(⟨#[]⟩:ByteArray),([]:List S73),([]:List S44)⟩
def F44 (d:Kd S44):Kd S44:=Kd.iso (Kd.pair (Kd.int .i64) (Kd.pair (Kd.int .i64) (Kd.pair Kd.string (Kd.pair Kd.string (Kd.pair (Kd.slice 73 k73) (Kd.slice 44 d)))))) (fun x:S44=>(x.f0,x.f1,x.f2,x.f3,x.f4,x.f5))
theorem mono44:Kd.Mono F44:=Kd.mono_iso _ (Kd.mono_pair (Kd.mono_const _) (Kd.mono_pair (Kd.mono_const _) (Kd.mono_pair (Kd.mono_const _) (Kd.mono_pair (Kd.mono_const _) (Kd.mono_pair (Kd.mono_const _) (Kd.mono_slice 44 Kd.mono_id))))))
theorem sub44:Kd.Sub F44 [44,73]:=Kd.sub_iso _ (Kd.sub_pair (Kd.sub_const _ (by decide)) (Kd.sub_pair (Kd.sub_const _ (by decide)) (Kd.sub_pair (Kd.sub_const _ (by decide)) (Kd.sub_pair (Kd.sub_const _ (by decide)) (Kd.sub_pair (Kd.sub_const _ (by decide)) (Kd.sub_slice 44 (by decide) Kd.sub_id))))))
theorem sz44:∀ n,(Kd.upto F44 6 [44,73] n).sz=6:=Kd.upto_sz (fun _=>rfl)
def k44:Kd S44:=Kd.fix F44 6 [44,73] sz44 (Kd.upto_E sub44)
theorem k44_open {w:World} {x:S44} {cs:List Value} (h:k44.K w x cs):∃ A4 c4 A5 c5,cs=[.int .i64 x.f0,.int .i64 x.f1,.string x.f2,.string x.f3,.slice A4 x.f4.length c4,.slice A5 x.f5.length c5]∧x.f4.length≤c4∧k73.C w A4 x.f4.length x.f4∧x.f5.length≤c5∧k44.C w A5 x.f5.length x.f5:=by
 obtain ⟨n,h⟩:=h
 cases n with
 | zero=>exact h.elim
 | succ n =>
  obtain ⟨_,_,rfl,rfl,⟨_,_,rfl,rfl,⟨_,_,rfl,rfl,⟨_,_,rfl,rfl,⟨_,_,rfl,⟨A4,c4,rfl,l4,g4⟩,⟨A5,c5,rfl,l5,g5⟩⟩⟩⟩⟩⟩:=h
  exact ⟨A4,c4,A5,c5,rfl,l4,g4,l5,Kd.fix_C g5⟩
theorem k44_openM {w:World} {base:Nat} {ok:Nat→Prop} {x:S44} {cs:List Value} (h:k44.M w base ok x cs):∃ v4 v5,cs=[.int .i64 x.f0,.int .i64 x.f1,.string x.f2,.string x.f3,v4,v5]∧k73.R 73 w base ok v4 x.f4∧k44.R 44 w base ok v5 x.f5:=by
 obtain ⟨n,h⟩:=h
 cases n with
 | zero=>exact h.elim
 | succ n =>
  obtain ⟨_,_,rfl,rfl,⟨_,_,rfl,rfl,⟨_,_,rfl,rfl,⟨_,_,rfl,rfl,⟨_,_,rfl,⟨v4,rfl,g4⟩,⟨v5,rfl,g5⟩⟩⟩⟩⟩⟩:=h
  exact ⟨v4,v5,rfl,g4,Kd.fix_R g5⟩
theorem k44_mk (w:World) (x:S44) {A4:Option Addr} {c4:Nat} (l4:x.f4.length≤c4) (g4:k73.C w A4 x.f4.length x.f4) {A5:Option Addr} {c5:Nat} (l5:x.f5.length≤c5) (g5:k44.C w A5 x.f5.length x.f5):k44.K w x [.int .i64 x.f0,.int .i64 x.f1,.string x.f2,.string x.f3,.slice A4 x.f4.length c4,.slice A5 x.f5.length c5]:=by
 obtain ⟨n5,q5⟩:=Kd.fix_C_back mono44 g5
 have r5:=Kd.upto_C_le mono44 sz44 (show n5≤n5 by omega) q5
 exact ⟨n5+1,⟨[.int .i64 x.f0],[.int .i64 x.f1,.string x.f2,.string x.f3,.slice A4 x.f4.length c4,.slice A5 x.f5.length c5],rfl,rfl,⟨[.int .i64 x.f1],[.string x.f2,.string x.f3,.slice A4 x.f4.length c4,.slice A5 x.f5.length c5],rfl,rfl,⟨[.string x.f2],[.string x.f3,.slice A4 x.f4.length c4,.slice A5 x.f5.length c5],rfl,rfl,⟨[.string x.f3],[.slice A4 x.f4.length c4,.slice A5 x.f5.length c5],rfl,rfl,⟨[.slice A4 x.f4.length c4],[.slice A5 x.f5.length c5],rfl,⟨A4,c4,rfl,l4,g4⟩,⟨A5,c5,rfl,l5,r5⟩⟩⟩⟩⟩⟩⟩
theorem k44_mkM (w:World) (base:Nat) (ok:Nat→Prop) (x:S44) {v4:Value} (g4:k73.R 73 w base ok v4 x.f4) {v5:Value} (g5:k44.R 44 w base ok v5 x.f5):k44.M w base ok x [.int .i64 x.f0,.int .i64 x.f1,.string x.f2,.string x.f3,v4,v5]:=by
 obtain ⟨n5,q5⟩:=Kd.fix_R_back mono44 g5
 have r5:=Kd.upto_R_le mono44 sz44 (show n5≤n5 by omega) q5
 exact ⟨n5+1,⟨[.int .i64 x.f0],[.int .i64 x.f1,.string x.f2,.string x.f3,v4,v5],rfl,rfl,⟨[.int .i64 x.f1],[.string x.f2,.string x.f3,v4,v5],rfl,rfl,⟨[.string x.f2],[.string x.f3,v4,v5],rfl,rfl,⟨[.string x.f3],[v4,v5],rfl,rfl,⟨[v4],[v5],rfl,⟨v4,rfl,g4⟩,⟨v5,rfl,r5⟩⟩⟩⟩⟩⟩⟩
def rd_T44 (xs:List S44) (i:Int):S44:=xs.getD i.toNat z44
theorem at_T44 {w:World} {A:Option Addr} {n:Nat} {xs:List S44} (h:Kd.C k44 w A n xs) (i:Int) (h0:0≤i) (h1:i<n):∃ ad A4 c4 A5 c5,A=some ad∧w.cell? (ad.add (i.toNat * 6))=some (.int .i64 (rd_T44 xs i).f0)∧w.cell? ⟨(ad.add (i.toNat * 6)).block,(ad.add (i.toNat * 6)).off+1,none⟩=some (.int .i64 (rd_T44 xs i).f1)∧w.cell? ⟨(ad.add (i.toNat * 6)).block,(ad.add (i.toNat * 6)).off+2,none⟩=some (.string (rd_T44 xs i).f2)∧w.cell? ⟨(ad.add (i.toNat * 6)).block,(ad.add (i.toNat * 6)).off+3,none⟩=some (.string (rd_T44 xs i).f3)∧w.cell? ⟨(ad.add (i.toNat * 6)).block,(ad.add (i.toNat * 6)).off+4,none⟩=some (.slice A4 (rd_T44 xs i).f4.length c4)∧w.cell? ⟨(ad.add (i.toNat * 6)).block,(ad.add (i.toNat * 6)).off+5,none⟩=some (.slice A5 (rd_T44 xs i).f5.length c5)∧(rd_T44 xs i).f4.length≤c4∧k73.C w A4 (rd_T44 xs i).f4.length (rd_T44 xs i).f4∧(rd_T44 xs i).f5.length≤c5∧k44.C w A5 (rd_T44 xs i).f5.length (rd_T44 xs i).f5:=by
 obtain ⟨ad,c,e,_,hK,hc0⟩:=Kd.C_get h z44 i h0 h1
 have hc:∀ j u,c[j]? = some u→w.cell? (ad.add (i.toNat * 6+j))=some u:=hc0
 obtain ⟨A4,c4,A5,c5,rfl,l4,g4,l5,g5⟩:=k44_open hK
 exact ⟨ad,A4,c4,A5,c5,e,hc 0 _ rfl,by rw [←add_field _ _ 1 (by omega)];exact hc 1 _ rfl,by rw [←add_field _ _ 2 (by omega)];exact hc 2 _ rfl,by rw [←add_field _ _ 3 (by omega)];exact hc 3 _ rfl,by rw [←add_field _ _ 4 (by omega)];exact hc 4 _ rfl,by rw [←add_field _ _ 5 (by omega)];exact hc 5 _ rfl,l4,g4,l5,g5⟩
/-! #### struct type 68 -/
structure S68 where
 f0:ByteArray
 f1:ByteArray
def z68:S68:=⟨(⟨#[]⟩:ByteArray),(⟨#[]⟩:ByteArray)⟩
def k68:Kd S68:=Kd.iso (Kd.pair Kd.string Kd.string) (fun x:S68=>(x.f0,x.f1))
theorem k68_open {w:World} {x:S68} {cs:List Value} (h:k68.K w x cs):cs=[.string x.f0,.string x.f1]:=by
 obtain ⟨_,_,rfl,rfl,rfl⟩:=h
 exact rfl
theorem k68_openM {w:World} {base:Nat} {ok:Nat→Prop} {x:S68} {cs:List Value} (h:k68.M w base ok x cs):cs=[.string x.f0,.string x.f1]:=by
 obtain ⟨_,_,rfl,rfl,rfl⟩:=h
 exact rfl
theorem k68_mk (w:World) (x:S68)  : k68.K w x [.string x.f0,.string x.f1]:=⟨[.string x.f0],[.string x.f1],rfl,rfl,rfl⟩
theorem k68_mkM (w:World) (base:Nat) (ok:Nat→Prop) (x:S68)  : k68.M w base ok x [.string x.f0,.string x.f1]:=⟨[.string x.f0],[.string x.f1],rfl,rfl,rfl⟩
def rd_T68 (xs:List S68) (i:Int):S68:=xs.getD i.toNat z68
theorem at_T68 {w:World} {A:Option Addr} {n:Nat} {xs:List S68} (h:Kd.C k68 w A n xs) (i:Int) (h0:0≤i) (h1:i<n):∃ ad,A=some ad∧w.cell? (ad.add (i.toNat * 2))=some (.string (rd_T68 xs i).f0)∧w.cell? ⟨(ad.add (i.toNat * 2)).block,(ad.add (i.toNat * 2)).off+1,none⟩=some (.string (rd_T68 xs i).f1):=by
 obtain ⟨ad,c,e,_,hK,hc0⟩:=Kd.C_get h z68 i h0 h1
 have hc:∀ j u,c[j]? = some u→w.cell? (ad.add (i.toNat * 2+j))=some u:=hc0
 obtain rfl:=k68_open hK
 exact ⟨ad,e,hc 0 _ rfl,by rw [←add_field _ _ 1 (by omega)];exact hc 1 _ rfl⟩
def rd_L6 (xs:List (List S68)) (i:Int):(List S68):=xs.getD i.toNat ([]:List S68)
theorem at_L6 {w:World} {A:Option Addr} {n:Nat} {xs:List (List S68)} (h:Kd.C (Kd.slice 68 k68) w A n xs) (i:Int) (h0:0≤i) (h1:i<n):∃ ad A0 c0,A=some ad∧w.cell? (ad.add i.toNat)=some (.slice A0 (rd_L6 xs i).length c0)∧(rd_L6 xs i).length≤c0∧k68.C w A0 (rd_L6 xs i).length (rd_L6 xs i):=by
 obtain ⟨ad,c,e,_,hK,hc0⟩:=Kd.C_get h ([]:List S68) i h0 h1
 have hc:∀ j u,c[j]? = some u→w.cell? (ad.add (i.toNat * 1+j))=some u:=hc0
 obtain ⟨A0,c0,rfl,l0,g0⟩:=hK
 exact ⟨ad,A0,c0,e,by have hq:=hc 0 _ rfl;rwa [Nat.mul_one,Nat.add_zero] at hq,l0,g0⟩
/-! #### struct type 49, nested in itself -/
structure S49 where
 f0:Int
 f1:Int
 f2:ByteArray
 f3:ByteArray
 f4:(List S68)
 f5:(List S49)
def z49:S49:=⟨(0:Int),(0:Int),(⟨#[]⟩:ByteArray),(⟨#[]⟩:ByteArray),([]:List S68),([]:List S49)⟩
def F49 (d:Kd S49):Kd S49:=Kd.iso (Kd.pair (Kd.int .i64) (Kd.pair (Kd.int .i64) (Kd.pair Kd.string (Kd.pair Kd.string (Kd.pair (Kd.slice 68 k68) (Kd.slice 49 d)))))) (fun x:S49=>(x.f0,x.f1,x.f2,x.f3,x.f4,x.f5))
theorem mono49:Kd.Mono F49:=Kd.mono_iso _ (Kd.mono_pair (Kd.mono_const _) (Kd.mono_pair (Kd.mono_const _) (Kd.mono_pair (Kd.mono_const _) (Kd.mono_pair (Kd.mono_const _) (Kd.mono_pair (Kd.mono_const _) (Kd.mono_slice 49 Kd.mono_id))))))
theorem sub49:Kd.Sub F49 [49,68]:=Kd.sub_iso _ (Kd.sub_pair (Kd.sub_const _ (by decide)) (Kd.sub_pair (Kd.sub_const _ (by decide)) (Kd.sub_pair (Kd.sub_const _ (by decide)) (Kd.sub_pair (Kd.sub_const _ (by decide)) (Kd.sub_pair (Kd.sub_const _ (by decide)) (Kd.sub_slice 49 (by decide) Kd.sub_id))))))
theorem sz49:∀ n,(Kd.upto F49 6 [49,68] n).sz=6:=Kd.upto_sz (fun _=>rfl)
def k49:Kd S49:=Kd.fix F49 6 [49,68] sz49 (Kd.upto_E sub49)
theorem k49_open {w:World} {x:S49} {cs:List Value} (h:k49.K w x cs):∃ A4 c4 A5 c5,cs=[.int .i64 x.f0,.int .i64 x.f1,.string x.f2,.string x.f3,.slice A4 x.f4.length c4,.slice A5 x.f5.length c5]∧x.f4.length≤c4∧k68.C w A4 x.f4.length x.f4∧x.f5.length≤c5∧k49.C w A5 x.f5.length x.f5:=by
 obtain ⟨n,h⟩:=h
 cases n with
 | zero=>exact h.elim
 | succ n =>
  obtain ⟨_,_,rfl,rfl,⟨_,_,rfl,rfl,⟨_,_,rfl,rfl,⟨_,_,rfl,rfl,⟨_,_,rfl,⟨A4,c4,rfl,l4,g4⟩,⟨A5,c5,rfl,l5,g5⟩⟩⟩⟩⟩⟩:=h
  exact ⟨A4,c4,A5,c5,rfl,l4,g4,l5,Kd.fix_C g5⟩
theorem k49_openM {w:World} {base:Nat} {ok:Nat→Prop} {x:S49} {cs:List Value} (h:k49.M w base ok x cs):∃ v4 v5,cs=[.int .i64 x.f0,.int .i64 x.f1,.string x.f2,.string x.f3,v4,v5]∧k68.R 68 w base ok v4 x.f4∧k49.R 49 w base ok v5 x.f5:=by
 obtain ⟨n,h⟩:=h
 cases n with
 | zero=>exact h.elim
 | succ n =>
  obtain ⟨_,_,rfl,rfl,⟨_,_,rfl,rfl,⟨_,_,rfl,rfl,⟨_,_,rfl,rfl,⟨_,_,rfl,⟨v4,rfl,g4⟩,⟨v5,rfl,g5⟩⟩⟩⟩⟩⟩:=h
  exact ⟨v4,v5,rfl,g4,Kd.fix_R g5⟩
theorem k49_mk (w:World) (x:S49) {A4:Option Addr} {c4:Nat} (l4:x.f4.length≤c4) (g4:k68.C w A4 x.f4.length x.f4) {A5:Option Addr} {c5:Nat} (l5:x.f5.length≤c5) (g5:k49.C w A5 x.f5.length x.f5):k49.K w x [.int .i64 x.f0,.int .i64 x.f1,.string x.f2,.string x.f3,.slice A4 x.f4.length c4,.slice A5 x.f5.length c5]:=by
 obtain ⟨n5,q5⟩:=Kd.fix_C_back mono49 g5
 have r5:=Kd.upto_C_le mono49 sz49 (show n5≤n5 by omega) q5
 exact ⟨n5+1,⟨[.int .i64 x.f0],[.int .i64 x.f1,.string x.f2,.string x.f3,.slice A4 x.f4.length c4,.slice A5 x.f5.length c5],rfl,rfl,⟨[.int .i64 x.f1],[.string x.f2,.string x.f3,.slice A4 x.f4.length c4,.slice A5 x.f5.length c5],rfl,rfl,⟨[.string x.f2],[.string x.f3,.slice A4 x.f4.length c4,.slice A5 x.f5.length c5],rfl,rfl,⟨[.string x.f3],[.slice A4 x.f4.length c4,.slice A5 x.f5.length c5],rfl,rfl,⟨[.slice A4 x.f4.length c4],[.slice A5 x.f5.length c5],rfl,⟨A4,c4,rfl,l4,g4⟩,⟨A5,c5,rfl,l5,r5⟩⟩⟩⟩⟩⟩⟩
theorem k49_mkM (w:World) (base:Nat) (ok:Nat→Prop) (x:S49) {v4:Value} (g4:k68.R 68 w base ok v4 x.f4) {v5:Value} (g5:k49.R 49 w base ok v5 x.f5):k49.M w base ok x [.int .i64 x.f0,.int .i64 x.f1,.string x.f2,.string x.f3,v4,v5]:=by
 obtain ⟨n5,q5⟩:=Kd.fix_R_back mono49 g5
 have r5:=Kd.upto_R_le mono49 sz49 (show n5≤n5 by omega) q5
 exact ⟨n5+1,⟨[.int .i64 x.f0],[.int .i64 x.f1,.string x.f2,.string x.f3,v4,v5],rfl,rfl,⟨[.int .i64 x.f1],[.string x.f2,.string x.f3,v4,v5],rfl,rfl,⟨[.string x.f2],[.string x.f3,v4,v5],rfl,rfl,⟨[.string x.f3],[v4,v5],rfl,rfl,⟨[v4],[v5],rfl,⟨v4,rfl,g4⟩,⟨v5,rfl,r5⟩⟩⟩⟩⟩⟩⟩
def rd_T49 (xs:List S49) (i:Int):S49:=xs.getD i.toNat z49
theorem at_T49 {w:World} {A:Option Addr} {n:Nat} {xs:List S49} (h:Kd.C k49 w A n xs) (i:Int) (h0:0≤i) (h1:i<n):∃ ad A4 c4 A5 c5,A=some ad∧w.cell? (ad.add (i.toNat * 6))=some (.int .i64 (rd_T49 xs i).f0)∧w.cell? ⟨(ad.add (i.toNat * 6)).block,(ad.add (i.toNat * 6)).off+1,none⟩=some (.int .i64 (rd_T49 xs i).f1)∧w.cell? ⟨(ad.add (i.toNat * 6)).block,(ad.add (i.toNat * 6)).off+2,none⟩=some (.string (rd_T49 xs i).f2)∧w.cell? ⟨(ad.add (i.toNat * 6)).block,(ad.add (i.toNat * 6)).off+3,none⟩=some (.string (rd_T49 xs i).f3)∧w.cell? ⟨(ad.add (i.toNat * 6)).block,(ad.add (i.toNat * 6)).off+4,none⟩=some (.slice A4 (rd_T49 xs i).f4.length c4)∧w.cell? ⟨(ad.add (i.toNat * 6)).block,(ad.add (i.toNat * 6)).off+5,none⟩=some (.slice A5 (rd_T49 xs i).f5.length c5)∧(rd_T49 xs i).f4.length≤c4∧k68.C w A4 (rd_T49 xs i).f4.length (rd_T49 xs i).f4∧(rd_T49 xs i).f5.length≤c5∧k49.C w A5 (rd_T49 xs i).f5.length (rd_T49 xs i).f5:=by
 obtain ⟨ad,c,e,_,hK,hc0⟩:=Kd.C_get h z49 i h0 h1
 have hc:∀ j u,c[j]? = some u→w.cell? (ad.add (i.toNat * 6+j))=some u:=hc0
 obtain ⟨A4,c4,A5,c5,rfl,l4,g4,l5,g5⟩:=k49_open hK
 exact ⟨ad,A4,c4,A5,c5,e,hc 0 _ rfl,by rw [←add_field _ _ 1 (by omega)];exact hc 1 _ rfl,by rw [←add_field _ _ 2 (by omega)];exact hc 2 _ rfl,by rw [←add_field _ _ 3 (by omega)];exact hc 3 _ rfl,by rw [←add_field _ _ 4 (by omega)];exact hc 4 _ rfl,by rw [←add_field _ _ 5 (by omega)];exact hc 5 _ rfl,l4,g4,l5,g5⟩
def rd_L10 (xs:List (List S49)) (i:Int):(List S49):=xs.getD i.toNat ([]:List S49)
theorem at_L10 {w:World} {A:Option Addr} {n:Nat} {xs:List (List S49)} (h:Kd.C (Kd.slice 49 k49) w A n xs) (i:Int) (h0:0≤i) (h1:i<n):∃ ad A0 c0,A=some ad∧w.cell? (ad.add i.toNat)=some (.slice A0 (rd_L10 xs i).length c0)∧(rd_L10 xs i).length≤c0∧k49.C w A0 (rd_L10 xs i).length (rd_L10 xs i):=by
 obtain ⟨ad,c,e,_,hK,hc0⟩:=Kd.C_get h ([]:List S49) i h0 h1
 have hc:∀ j u,c[j]? = some u→w.cell? (ad.add (i.toNat * 1+j))=some u:=hc0
 obtain ⟨A0,c0,rfl,l0,g0⟩:=hK
 exact ⟨ad,A0,c0,e,by have hq:=hc 0 _ rfl;rwa [Nat.mul_one,Nat.add_zero] at hq,l0,g0⟩
def rd_L11 (xs:List (List S44)) (i:Int):(List S44):=xs.getD i.toNat ([]:List S44)
theorem at_L11 {w:World} {A:Option Addr} {n:Nat} {xs:List (List S44)} (h:Kd.C (Kd.slice 44 k44) w A n xs) (i:Int) (h0:0≤i) (h1:i<n):∃ ad A0 c0,A=some ad∧w.cell? (ad.add i.toNat)=some (.slice A0 (rd_L11 xs i).length c0)∧(rd_L11 xs i).length≤c0∧k44.C w A0 (rd_L11 xs i).length (rd_L11 xs i):=by
 obtain ⟨ad,c,e,_,hK,hc0⟩:=Kd.C_get h ([]:List S44) i h0 h1
 have hc:∀ j u,c[j]? = some u→w.cell? (ad.add (i.toNat * 1+j))=some u:=hc0
 obtain ⟨A0,c0,rfl,l0,g0⟩:=hK
 exact ⟨ad,A0,c0,e,by have hq:=hc 0 _ rfl;rwa [Nat.mul_one,Nat.add_zero] at hq,l0,g0⟩
/-! #### trees of one's own, all of whose rows lie apart -/
def FT (d:Kd S49):Kd S49:=Kd.iso (Kd.pair (Kd.int .i64) (Kd.pair (Kd.int .i64) (Kd.pair Kd.string (Kd.pair Kd.string (Sep.apart (Kd.slice 68 k68) (Sep.sliceS 49 d)))))) (fun x:S49=>(x.f0,x.f1,x.f2,x.f3,x.f4,x.f5))
theorem monoT:Kd.Mono FT:=Kd.mono_iso _ (Kd.mono_pair (Kd.mono_const _) (Kd.mono_pair (Kd.mono_const _) (Kd.mono_pair (Kd.mono_const _) (Kd.mono_pair (Kd.mono_const _) (Sep.mono_apart (Kd.mono_const _) (Sep.mono_sliceS 49 Kd.mono_id))))))
theorem subT:Kd.Sub FT [49,68]:=Kd.sub_iso _ (Kd.sub_pair (Kd.sub_const _ (by decide)) (Kd.sub_pair (Kd.sub_const _ (by decide)) (Kd.sub_pair (Kd.sub_const _ (by decide)) (Kd.sub_pair (Kd.sub_const _ (by decide)) (Sep.sub_apart (Kd.sub_const _ (by decide)) (Sep.sub_sliceS 49 (by decide) Kd.sub_id))))))
theorem szT:∀ n,(Kd.upto FT 6 [49,68] n).sz=6:=Kd.upto_sz (fun _=>rfl)
def kTN:Kd S49:=Kd.fix FT 6 [49,68] szT (Kd.upto_E subT)
theorem uptoT_K:∀ (n:Nat) (w:World) (x:S49) (cs:List Value),(Kd.upto FT 6 [49,68] n).K w x cs→k49.K w x cs
 | 0,_,_,_,h=>h.elim
 | n+1,w,x,cs,h=>by
  obtain ⟨_,_,rfl,rfl,⟨_,_,rfl,rfl,⟨_,_,rfl,rfl,⟨_,_,rfl,rfl,⟨_,_,rfl,⟨A4,c4,rfl,l4,g4⟩,⟨A5,c5,rfl,l5,g5⟩⟩⟩⟩⟩⟩:=h
  exact k49_mk w x l4 g4 l5 (Kd.C_imp (d':=k49) (szT n) (uptoT_K n) g5)
theorem kTN_C {w:World} {A:Option Addr} {n:Nat} {xs:List S49} (h:Kd.C kTN w A n xs):Kd.C k49 w A n xs :=
 Kd.C_imp (d:=kTN) (d':=k49) rfl (fun w x cs hk=>by obtain ⟨n,hk⟩:=hk;exact uptoT_K n w x cs hk) h
theorem kTN_openM {w:World} {base:Nat} {ok:Nat→Prop} {x:S49} {cs:List Value} (h:kTN.M w base ok x cs):∃ v4 v5,∃ p:Nat→Prop,cs=[.int .i64 x.f0,.int .i64 x.f1,.string x.f2,.string x.f3,v4,v5]∧Kd.R k68 68 w base (fun k=>ok k∧p k) v4 x.f4∧Kd.S kTN 49 w base (fun k=>ok k∧¬ p k) v5 x.f5:=by
 obtain ⟨n,h⟩:=h
 cases n with
 | zero=>exact h.elim
 | succ n =>
  obtain ⟨_,_,rfl,rfl,⟨_,_,rfl,rfl,⟨_,_,rfl,rfl,⟨_,_,rfl,rfl,⟨_,_,p,rfl,⟨v4,rfl,g4⟩,⟨v5,rfl,g5⟩⟩⟩⟩⟩⟩:=h
  exact ⟨v4,v5,p,rfl,g4,Sep.fix_S g5⟩
theorem kTN_mkM (w:World) (base:Nat) (ok p:Nat→Prop) (x:S49) {v4:Value} (g4:Kd.R k68 68 w base (fun k=>ok k∧p k) v4 x.f4) {v5:Value} (g5:Kd.S kTN 49 w base (fun k=>ok k∧¬ p k) v5 x.f5):kTN.M w base ok x [.int .i64 x.f0,.int .i64 x.f1,.string x.f2,.string x.f3,v4,v5]:=by
 obtain ⟨n,q⟩:=Sep.fix_S_back monoT g5
 exact ⟨n+1,⟨[.int .i64 x.f0],[.int .i64 x.f1,.string x.f2,.string x.f3,v4,v5],rfl,rfl,⟨[.int .i64 x.f1],[.string x.f2,.string x.f3,v4,v5],rfl,rfl,⟨[.string x.f2],[.string x.f3,v4,v5],rfl,rfl,⟨[.string x.f3],[v4,v5],rfl,rfl,⟨[v4],[v5],p,rfl,⟨v4,rfl,g4⟩,⟨v5,rfl,q⟩⟩⟩⟩⟩⟩⟩
/-- A tree of one's own is one that is read. -/
theorem S_readsT {w:World} {base n c:Nat} {ok:Nat→Prop} {A:Option Addr} {xs:List S49} (h:Kd.S kTN 49 w base ok (.slice A n c) xs):n=xs.length∧n≤c∧Kd.C k49 w A xs.length xs :=
 ⟨(Kd.S_reads' h).1,(Kd.S_reads' h).2.1,kTN_C (Kd.S_reads' h).2.2⟩
end Go.Proofs.Ytlhhcbhmnmndiaa.PFnExactMergeText
