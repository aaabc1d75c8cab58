/- By a program of this session, out of the kit's print and contracts made by hand: the machine side of a law; Lean checks it. No conditions. -/
import Derived.Test.YtophaihdibplkaaProg
import Derived.Test.YtophaihdibplkaaMach
import Derived.Test.YtophaihdibplkaaKit
import Derived.Outline
import Derived.Test.YtophaihdibplkaaBack
import Derived.StillTailTactics
import Derived.Below
import Derived.Deep.Draws
import Derived.Deep.AppendLies
import Derived.Maps.AppendAt
import Derived.OwnWalk
import Derived.Laws.BytesArg
import Derived.Laws.MakeOwn
import Derived.Laws.OwnMore
import Derived.Deep.OwnRows
import Derived.Tactics
import Derived.Lib.ConvBytes
import Derived.Laws.Slices
import Derived.WalkKit
import Derived.KernelRfl
import Derived.RowKit3
import Derived.Deep.LoopGhost
import Derived.Deep.QuietTactic
import Derived.BigQuiet
import Derived.WideLaws
import Derived.Deep.DeepCutAuto
import Derived.Deep.CutBlock
import Derived.Deep.RegionHeld3
import Derived.Laws.Rows
import Derived.Lib.AppendStr
import Derived.ArgAppend
import Derived.Laws.IdiomCopy
import Derived.OrdersHeld
import Derived.Laws.BitsLemmas
import Derived.RowKit
import Derived.Test.YtophaihdibplkaaWWords
import Derived.Test.YtophaihdibplkaaWLast
import Derived.Test.YtophaihdibplkaaWTab
import Derived.Test.YtophaihdibplkaaWQPut
import Derived.Test.YtophaihdibplkaaWApart
import Derived.Test.YtophaihdibplkaaWArr
import Derived.Test.YtophaihdibplkaaWZeros
import Derived.Test.YtophaihdibplkaaWFoot
import Derived.Test.YtophaihdibplkaaWKept
import Derived.Test.YtophaihdibplkaaWShare
import Derived.Test.YtophaihdibplkaaWN
import Derived.Test.YtophaihdibplkaaWNEv
import Derived.Test.YtophaihdibplkaaWMore
namespace Go.Proofs.Ytophaihdibplkaa.PFnExactSameConfig
open Go.RowKit Go.Proofs.YtophaihdibplkaaW.PrintWords Go.Proofs.YtophaihdibplkaaW.PrintLast Go.Proofs.YtophaihdibplkaaW.PrintMore
attribute [local go_sem] max2_int min2_int max_two min_two max_three min_three max_four min_four
set_option linter.unusedVariables false
set_option linter.unusedSimpArgs false
def errW:Option Int→Value
 | none=>.nilIface
 | some c=>.iface 0 (.int .i64 c)
theorem errW_none:errW none=.nilIface:=rfl
theorem errW_some (c:Int):errW (some c)=.iface 0 (.int .i64 c):=rfl
theorem info9:(Try.prog.info? 9).map (fun i=>(i.zero,i.size,i.bytes))=some (some (.string ⟨#[]⟩),1,16):=by kernel_rfl
theorem info155:(Try.prog.info? 155).map (fun i=>(i.zero,i.size,i.bytes))=some (some (.agg #[(.int .i64 0),(.string ⟨#[]⟩),(.slice none 0 0)]),3,48):=by kernel_rfl
def rd_L2 (xs:List (List ByteArray)) (i:Int):(List ByteArray):=xs.getD i.toNat ([]:List ByteArray)
theorem at_L2 {w:World} {A:Option Addr} {n:Nat} {xs:List (List ByteArray)} (h:Kd.C (Kd.slice 9 Kd.string) w A n xs) (i:Int) (h0:0≤i) (h1:i<n):∃ ad A0 c0,A=some ad∧w.cell? (ad.add i.toNat)=some (.slice A0 (rd_L2 xs i).length c0)∧(rd_L2 xs i).length≤c0∧Kd.string.C w A0 (rd_L2 xs i).length (rd_L2 xs i):=by
 obtain ⟨ad,c,e,_,hK,hc0⟩:=Kd.C_get h ([]:List ByteArray) i h0 h1
 have hc:∀ j u,c[j]? = some u→w.cell? (ad.add (i.toNat * 1+j))=some u:=hc0
 obtain ⟨A0,c0,rfl,l0,g0⟩:=hK
 exact ⟨ad,A0,c0,e,by have hq:=hc 0 _ rfl;rwa [Nat.mul_one,Nat.add_zero] at hq,l0,g0⟩
/-! #### struct type 153 -/
structure S153 where
 f0:Int
 f1:ByteArray
 f2:(List ByteArray)
def z153:S153:=⟨(0:Int),(⟨#[]⟩:ByteArray),([]:List ByteArray)⟩
def k153:Kd S153:=Kd.iso (Kd.pair (Kd.int .i64) (Kd.pair Kd.string (Kd.slice 9 Kd.string))) (fun x:S153=>(x.f0,x.f1,x.f2))
theorem k153_open {w:World} {x:S153} {cs:List Value} (h:k153.K w x cs):∃ A2 c2,cs=[.int .i64 x.f0,.string x.f1,.slice A2 x.f2.length c2]∧x.f2.length≤c2∧Kd.string.C w A2 x.f2.length x.f2:=by
 obtain ⟨_,_,rfl,rfl,⟨_,_,rfl,rfl,⟨A2,c2,rfl,l2,g2⟩⟩⟩:=h
 exact ⟨A2,c2,rfl,l2,g2⟩
theorem k153_openM {w:World} {base:Nat} {ok:Nat→Prop} {x:S153} {cs:List Value} (h:k153.M w base ok x cs):∃ v2,cs=[.int .i64 x.f0,.string x.f1,v2]∧Kd.string.R 9 w base ok v2 x.f2:=by
 obtain ⟨_,_,rfl,rfl,⟨_,_,rfl,rfl,⟨v2,rfl,g2⟩⟩⟩:=h
 exact ⟨v2,rfl,g2⟩
theorem k153_mk (w:World) (x:S153) {A2:Option Addr} {c2:Nat} (l2:x.f2.length≤c2) (g2:Kd.string.C w A2 x.f2.length x.f2):k153.K w x [.int .i64 x.f0,.string x.f1,.slice A2 x.f2.length c2]:=⟨[.int .i64 x.f0],[.string x.f1,.slice A2 x.f2.length c2],rfl,rfl,⟨[.string x.f1],[.slice A2 x.f2.length c2],rfl,rfl,⟨A2,c2,rfl,l2,g2⟩⟩⟩
theorem k153_mkM (w:World) (base:Nat) (ok:Nat→Prop) (x:S153) {v2:Value} (g2:Kd.string.R 9 w base ok v2 x.f2):k153.M w base ok x [.int .i64 x.f0,.string x.f1,v2]:=⟨[.int .i64 x.f0],[.string x.f1,v2],rfl,rfl,⟨[.string x.f1],[v2],rfl,rfl,⟨v2,rfl,g2⟩⟩⟩
def rd_T153 (xs:List S153) (i:Int):S153:=xs.getD i.toNat z153
theorem at_T153 {w:World} {A:Option Addr} {n:Nat} {xs:List S153} (h:Kd.C k153 w A n xs) (i:Int) (h0:0≤i) (h1:i<n):∃ ad A2 c2,A=some ad∧w.cell? (ad.add (i.toNat * 3))=some (.int .i64 (rd_T153 xs i).f0)∧w.cell? ⟨(ad.add (i.toNat * 3)).block,(ad.add (i.toNat * 3)).off+1,none⟩=some (.string (rd_T153 xs i).f1)∧w.cell? ⟨(ad.add (i.toNat * 3)).block,(ad.add (i.toNat * 3)).off+2,none⟩=some (.slice A2 (rd_T153 xs i).f2.length c2)∧(rd_T153 xs i).f2.length≤c2∧Kd.string.C w A2 (rd_T153 xs i).f2.length (rd_T153 xs i).f2:=by
 obtain ⟨ad,c,e,_,hK,hc0⟩:=Kd.C_get h z153 i h0 h1
 have hc:∀ j u,c[j]? = some u→w.cell? (ad.add (i.toNat * 3+j))=some u:=hc0
 obtain ⟨A2,c2,rfl,l2,g2⟩:=k153_open hK
 exact ⟨ad,A2,c2,e,hc 0 _ rfl,by rw [←add_field _ _ 1 (by omega)];exact hc 1 _ rfl,by rw [←add_field _ _ 2 (by omega)];exact hc 2 _ rfl,l2,g2⟩
def rd_L5 (xs:List (List S153)) (i:Int):(List S153):=xs.getD i.toNat ([]:List S153)
theorem at_L5 {w:World} {A:Option Addr} {n:Nat} {xs:List (List S153)} (h:Kd.C (Kd.slice 153 k153) w A n xs) (i:Int) (h0:0≤i) (h1:i<n):∃ ad A0 c0,A=some ad∧w.cell? (ad.add i.toNat)=some (.slice A0 (rd_L5 xs i).length c0)∧(rd_L5 xs i).length≤c0∧k153.C w A0 (rd_L5 xs i).length (rd_L5 xs i):=by
 obtain ⟨ad,c,e,_,hK,hc0⟩:=Kd.C_get h ([]:List S153) i h0 h1
 have hc:∀ j u,c[j]? = some u→w.cell? (ad.add (i.toNat * 1+j))=some u:=hc0
 obtain ⟨A0,c0,rfl,l0,g0⟩:=hK
 exact ⟨ad,A0,c0,e,by have hq:=hc 0 _ rfl;rwa [Nat.mul_one,Nat.add_zero] at hq,l0,g0⟩
/-! #### struct type 73 -/
structure S73 where
 f0:Bool
 f1:Bool
 f2:(List S153)
 f3:(List S153)
 f4:(List S153)
 f5:(List ByteArray)
 f6:(List ByteArray)
 f7:Bool
 f8:Bool
def z73:S73:=⟨false,false,([]:List S153),([]:List S153),([]:List S153),([]:List ByteArray),([]:List ByteArray),false,false⟩
def k73:Kd S73:=Kd.iso (Kd.pair Kd.bool (Kd.pair Kd.bool (Kd.pair (Kd.slice 153 k153) (Kd.pair (Kd.slice 153 k153) (Kd.pair (Kd.slice 153 k153) (Kd.pair (Kd.slice 9 Kd.string) (Kd.pair (Kd.slice 9 Kd.string) (Kd.pair Kd.bool Kd.bool)))))))) (fun x:S73=>(x.f0,x.f1,x.f2,x.f3,x.f4,x.f5,x.f6,x.f7,x.f8))
theorem k73_open {w:World} {x:S73} {cs:List Value} (h:k73.K w x cs):∃ A2 c2 A3 c3 A4 c4 A5 c5 A6 c6,cs=[.bool x.f0,.bool x.f1,.slice A2 x.f2.length c2,.slice A3 x.f3.length c3,.slice A4 x.f4.length c4,.slice A5 x.f5.length c5,.slice A6 x.f6.length c6,.bool x.f7,.bool x.f8]∧x.f2.length≤c2∧k153.C w A2 x.f2.length x.f2∧x.f3.length≤c3∧k153.C w A3 x.f3.length x.f3∧x.f4.length≤c4∧k153.C w A4 x.f4.length x.f4∧x.f5.length≤c5∧Kd.string.C w A5 x.f5.length x.f5∧x.f6.length≤c6∧Kd.string.C w A6 x.f6.length x.f6:=by
 obtain ⟨_,_,rfl,rfl,⟨_,_,rfl,rfl,⟨_,_,rfl,⟨A2,c2,rfl,l2,g2⟩,⟨_,_,rfl,⟨A3,c3,rfl,l3,g3⟩,⟨_,_,rfl,⟨A4,c4,rfl,l4,g4⟩,⟨_,_,rfl,⟨A5,c5,rfl,l5,g5⟩,⟨_,_,rfl,⟨A6,c6,rfl,l6,g6⟩,⟨_,_,rfl,rfl,rfl⟩⟩⟩⟩⟩⟩⟩⟩:=h
 exact ⟨A2,c2,A3,c3,A4,c4,A5,c5,A6,c6,rfl,l2,g2,l3,g3,l4,g4,l5,g5,l6,g6⟩
theorem k73_openM {w:World} {base:Nat} {ok:Nat→Prop} {x:S73} {cs:List Value} (h:k73.M w base ok x cs):∃ v2 v3 v4 v5 v6,cs=[.bool x.f0,.bool x.f1,v2,v3,v4,v5,v6,.bool x.f7,.bool x.f8]∧k153.R 153 w base ok v2 x.f2∧k153.R 153 w base ok v3 x.f3∧k153.R 153 w base ok v4 x.f4∧Kd.string.R 9 w base ok v5 x.f5∧Kd.string.R 9 w base ok v6 x.f6:=by
 obtain ⟨_,_,rfl,rfl,⟨_,_,rfl,rfl,⟨_,_,rfl,⟨v2,rfl,g2⟩,⟨_,_,rfl,⟨v3,rfl,g3⟩,⟨_,_,rfl,⟨v4,rfl,g4⟩,⟨_,_,rfl,⟨v5,rfl,g5⟩,⟨_,_,rfl,⟨v6,rfl,g6⟩,⟨_,_,rfl,rfl,rfl⟩⟩⟩⟩⟩⟩⟩⟩:=h
 exact ⟨v2,v3,v4,v5,v6,rfl,g2,g3,g4,g5,g6⟩
theorem k73_mk (w:World) (x:S73) {A2:Option Addr} {c2:Nat} (l2:x.f2.length≤c2) (g2:k153.C w A2 x.f2.length x.f2) {A3:Option Addr} {c3:Nat} (l3:x.f3.length≤c3) (g3:k153.C w A3 x.f3.length x.f3) {A4:Option Addr} {c4:Nat} (l4:x.f4.length≤c4) (g4:k153.C w A4 x.f4.length x.f4) {A5:Option Addr} {c5:Nat} (l5:x.f5.length≤c5) (g5:Kd.string.C w A5 x.f5.length x.f5) {A6:Option Addr} {c6:Nat} (l6:x.f6.length≤c6) (g6:Kd.string.C w A6 x.f6.length x.f6):k73.K w x [.bool x.f0,.bool x.f1,.slice A2 x.f2.length c2,.slice A3 x.f3.length c3,.slice A4 x.f4.length c4,.slice A5 x.f5.length c5,.slice A6 x.f6.length c6,.bool x.f7,.bool x.f8]:=⟨[.bool x.f0],[.bool x.f1,.slice A2 x.f2.length c2,.slice A3 x.f3.length c3,.slice A4 x.f4.length c4,.slice A5 x.f5.length c5,.slice A6 x.f6.length c6,.bool x.f7,.bool x.f8],rfl,rfl,⟨[.bool x.f1],[.slice A2 x.f2.length c2,.slice A3 x.f3.length c3,.slice A4 x.f4.length c4,.slice A5 x.f5.length c5,.slice A6 x.f6.length c6,.bool x.f7,.bool x.f8],rfl,rfl,⟨[.slice A2 x.f2.length c2],[.slice A3 x.f3.length c3,.slice A4 x.f4.length c4,.slice A5 x.f5.length c5,.slice A6 x.f6.length c6,.bool x.f7,.bool x.f8],rfl,⟨A2,c2,rfl,l2,g2⟩,⟨[.slice A3 x.f3.length c3],[.slice A4 x.f4.length c4,.slice A5 x.f5.length c5,.slice A6 x.f6.length c6,.bool x.f7,.bool x.f8],rfl,⟨A3,c3,rfl,l3,g3⟩,⟨[.slice A4 x.f4.length c4],[.slice A5 x.f5.length c5,.slice A6 x.f6.length c6,.bool x.f7,.bool x.f8],rfl,⟨A4,c4,rfl,l4,g4⟩,⟨[.slice A5 x.f5.length c5],[.slice A6 x.f6.length c6,.bool x.f7,.bool x.f8],rfl,⟨A5,c5,rfl,l5,g5⟩,⟨[.slice A6 x.f6.length c6],[.bool x.f7,.bool x.f8],rfl,⟨A6,c6,rfl,l6,g6⟩,⟨[.bool x.f7],[.bool x.f8],rfl,rfl,rfl⟩⟩⟩⟩⟩⟩⟩⟩
theorem k73_mkM (w:World) (base:Nat) (ok:Nat→Prop) (x:S73) {v2:Value} (g2:k153.R 153 w base ok v2 x.f2) {v3:Value} (g3:k153.R 153 w base ok v3 x.f3) {v4:Value} (g4:k153.R 153 w base ok v4 x.f4) {v5:Value} (g5:Kd.string.R 9 w base ok v5 x.f5) {v6:Value} (g6:Kd.string.R 9 w base ok v6 x.f6):k73.M w base ok x [.bool x.f0,.bool x.f1,v2,v3,v4,v5,v6,.bool x.f7,.bool x.f8]:=⟨[.bool x.f0],[.bool x.f1,v2,v3,v4,v5,v6,.bool x.f7,.bool x.f8],rfl,rfl,⟨[.bool x.f1],[v2,v3,v4,v5,v6,.bool x.f7,.bool x.f8],rfl,rfl,⟨[v2],[v3,v4,v5,v6,.bool x.f7,.bool x.f8],rfl,⟨v2,rfl,g2⟩,⟨[v3],[v4,v5,v6,.bool x.f7,.bool x.f8],rfl,⟨v3,rfl,g3⟩,⟨[v4],[v5,v6,.bool x.f7,.bool x.f8],rfl,⟨v4,rfl,g4⟩,⟨[v5],[v6,.bool x.f7,.bool x.f8],rfl,⟨v5,rfl,g5⟩,⟨[v6],[.bool x.f7,.bool x.f8],rfl,⟨v6,rfl,g6⟩,⟨[.bool x.f7],[.bool x.f8],rfl,rfl,rfl⟩⟩⟩⟩⟩⟩⟩⟩
def rd_T73 (xs:List S73) (i:Int):S73:=xs.getD i.toNat z73
theorem at_T73 {w:World} {A:Option Addr} {n:Nat} {xs:List S73} (h:Kd.C k73 w A n xs) (i:Int) (h0:0≤i) (h1:i<n):∃ ad A2 c2 A3 c3 A4 c4 A5 c5 A6 c6,A=some ad∧w.cell? (ad.add (i.toNat * 9))=some (.bool (rd_T73 xs i).f0)∧w.cell? ⟨(ad.add (i.toNat * 9)).block,(ad.add (i.toNat * 9)).off+1,none⟩=some (.bool (rd_T73 xs i).f1)∧w.cell? ⟨(ad.add (i.toNat * 9)).block,(ad.add (i.toNat * 9)).off+2,none⟩=some (.slice A2 (rd_T73 xs i).f2.length c2)∧w.cell? ⟨(ad.add (i.toNat * 9)).block,(ad.add (i.toNat * 9)).off+3,none⟩=some (.slice A3 (rd_T73 xs i).f3.length c3)∧w.cell? ⟨(ad.add (i.toNat * 9)).block,(ad.add (i.toNat * 9)).off+4,none⟩=some (.slice A4 (rd_T73 xs i).f4.length c4)∧w.cell? ⟨(ad.add (i.toNat * 9)).block,(ad.add (i.toNat * 9)).off+5,none⟩=some (.slice A5 (rd_T73 xs i).f5.length c5)∧w.cell? ⟨(ad.add (i.toNat * 9)).block,(ad.add (i.toNat * 9)).off+6,none⟩=some (.slice A6 (rd_T73 xs i).f6.length c6)∧w.cell? ⟨(ad.add (i.toNat * 9)).block,(ad.add (i.toNat * 9)).off+7,none⟩=some (.bool (rd_T73 xs i).f7)∧w.cell? ⟨(ad.add (i.toNat * 9)).block,(ad.add (i.toNat * 9)).off+8,none⟩=some (.bool (rd_T73 xs i).f8)∧(rd_T73 xs i).f2.length≤c2∧k153.C w A2 (rd_T73 xs i).f2.length (rd_T73 xs i).f2∧(rd_T73 xs i).f3.length≤c3∧k153.C w A3 (rd_T73 xs i).f3.length (rd_T73 xs i).f3∧(rd_T73 xs i).f4.length≤c4∧k153.C w A4 (rd_T73 xs i).f4.length (rd_T73 xs i).f4∧(rd_T73 xs i).f5.length≤c5∧Kd.string.C w A5 (rd_T73 xs i).f5.length (rd_T73 xs i).f5∧(rd_T73 xs i).f6.length≤c6∧Kd.string.C w A6 (rd_T73 xs i).f6.length (rd_T73 xs i).f6:=by
 obtain ⟨ad,c,e,_,hK,hc0⟩:=Kd.C_get h z73 i h0 h1
 have hc:∀ j u,c[j]? = some u→w.cell? (ad.add (i.toNat * 9+j))=some u:=hc0
 obtain ⟨A2,c2,A3,c3,A4,c4,A5,c5,A6,c6,rfl,l2,g2,l3,g3,l4,g4,l5,g5,l6,g6⟩:=k73_open hK
 exact ⟨ad,A2,c2,A3,c3,A4,c4,A5,c5,A6,c6,e,hc 0 _ rfl,by rw [←add_field _ _ 1 (by omega)];exact hc 1 _ rfl,by rw [←add_field _ _ 2 (by omega)];exact hc 2 _ rfl,by rw [←add_field _ _ 3 (by omega)];exact hc 3 _ rfl,by rw [←add_field _ _ 4 (by omega)];exact hc 4 _ rfl,by rw [←add_field _ _ 5 (by omega)];exact hc 5 _ rfl,by rw [←add_field _ _ 6 (by omega)];exact hc 6 _ rfl,by rw [←add_field _ _ 7 (by omega)];exact hc 7 _ rfl,by rw [←add_field _ _ 8 (by omega)];exact hc 8 _ rfl,l2,g2,l3,g3,l4,g4,l5,g5,l6,g6⟩
/-! #### struct type 155 -/
structure S155 where
 f0:Int
 f1:ByteArray
 f2:(List ByteArray)
def z155:S155:=⟨(0:Int),(⟨#[]⟩:ByteArray),([]:List ByteArray)⟩
def k155:Kd S155:=Kd.iso (Kd.pair (Kd.int .i64) (Kd.pair Kd.string (Kd.slice 9 Kd.string))) (fun x:S155=>(x.f0,x.f1,x.f2))
theorem k155_open {w:World} {x:S155} {cs:List Value} (h:k155.K w x cs):∃ A2 c2,cs=[.int .i64 x.f0,.string x.f1,.slice A2 x.f2.length c2]∧x.f2.length≤c2∧Kd.string.C w A2 x.f2.length x.f2:=by
 obtain ⟨_,_,rfl,rfl,⟨_,_,rfl,rfl,⟨A2,c2,rfl,l2,g2⟩⟩⟩:=h
 exact ⟨A2,c2,rfl,l2,g2⟩
theorem k155_openM {w:World} {base:Nat} {ok:Nat→Prop} {x:S155} {cs:List Value} (h:k155.M w base ok x cs):∃ v2,cs=[.int .i64 x.f0,.string x.f1,v2]∧Kd.string.R 9 w base ok v2 x.f2:=by
 obtain ⟨_,_,rfl,rfl,⟨_,_,rfl,rfl,⟨v2,rfl,g2⟩⟩⟩:=h
 exact ⟨v2,rfl,g2⟩
theorem k155_mk (w:World) (x:S155) {A2:Option Addr} {c2:Nat} (l2:x.f2.length≤c2) (g2:Kd.string.C w A2 x.f2.length x.f2):k155.K w x [.int .i64 x.f0,.string x.f1,.slice A2 x.f2.length c2]:=⟨[.int .i64 x.f0],[.string x.f1,.slice A2 x.f2.length c2],rfl,rfl,⟨[.string x.f1],[.slice A2 x.f2.length c2],rfl,rfl,⟨A2,c2,rfl,l2,g2⟩⟩⟩
theorem k155_mkM (w:World) (base:Nat) (ok:Nat→Prop) (x:S155) {v2:Value} (g2:Kd.string.R 9 w base ok v2 x.f2):k155.M w base ok x [.int .i64 x.f0,.string x.f1,v2]:=⟨[.int .i64 x.f0],[.string x.f1,v2],rfl,rfl,⟨[.string x.f1],[v2],rfl,rfl,⟨v2,rfl,g2⟩⟩⟩
def rd_T155 (xs:List S155) (i:Int):S155:=xs.getD i.toNat z155
theorem at_T155 {w:World} {A:Option Addr} {n:Nat} {xs:List S155} (h:Kd.C k155 w A n xs) (i:Int) (h0:0≤i) (h1:i<n):∃ ad A2 c2,A=some ad∧w.cell? (ad.add (i.toNat * 3))=some (.int .i64 (rd_T155 xs i).f0)∧w.cell? ⟨(ad.add (i.toNat * 3)).block,(ad.add (i.toNat * 3)).off+1,none⟩=some (.string (rd_T155 xs i).f1)∧w.cell? ⟨(ad.add (i.toNat * 3)).block,(ad.add (i.toNat * 3)).off+2,none⟩=some (.slice A2 (rd_T155 xs i).f2.length c2)∧(rd_T155 xs i).f2.length≤c2∧Kd.string.C w A2 (rd_T155 xs i).f2.length (rd_T155 xs i).f2:=by
 obtain ⟨ad,c,e,_,hK,hc0⟩:=Kd.C_get h z155 i h0 h1
 have hc:∀ j u,c[j]? = some u→w.cell? (ad.add (i.toNat * 3+j))=some u:=hc0
 obtain ⟨A2,c2,rfl,l2,g2⟩:=k155_open hK
 exact ⟨ad,A2,c2,e,hc 0 _ rfl,by rw [←add_field _ _ 1 (by omega)];exact hc 1 _ rfl,by rw [←add_field _ _ 2 (by omega)];exact hc 2 _ rfl,l2,g2⟩
def rd_L8 (xs:List (List S155)) (i:Int):(List S155):=xs.getD i.toNat ([]:List S155)
theorem at_L8 {w:World} {A:Option Addr} {n:Nat} {xs:List (List S155)} (h:Kd.C (Kd.slice 155 k155) w A n xs) (i:Int) (h0:0≤i) (h1:i<n):∃ ad A0 c0,A=some ad∧w.cell? (ad.add i.toNat)=some (.slice A0 (rd_L8 xs i).length c0)∧(rd_L8 xs i).length≤c0∧k155.C w A0 (rd_L8 xs i).length (rd_L8 xs i):=by
 obtain ⟨ad,c,e,_,hK,hc0⟩:=Kd.C_get h ([]:List S155) i h0 h1
 have hc:∀ j u,c[j]? = some u→w.cell? (ad.add (i.toNat * 1+j))=some u:=hc0
 obtain ⟨A0,c0,rfl,l0,g0⟩:=hK
 exact ⟨ad,A0,c0,e,by have hq:=hc 0 _ rfl;rwa [Nat.mul_one,Nat.add_zero] at hq,l0,g0⟩
/-! #### struct type 78 -/
structure S78 where
 f0:Bool
 f1:Bool
 f2:(List S155)
 f3:(List S155)
 f4:(List S155)
 f5:(List ByteArray)
 f6:(List ByteArray)
 f7:Bool
 f8:Bool
def z78:S78:=⟨false,false,([]:List S155),([]:List S155),([]:List S155),([]:List ByteArray),([]:List ByteArray),false,false⟩
def k78:Kd S78:=Kd.iso (Kd.pair Kd.bool (Kd.pair Kd.bool (Kd.pair (Kd.slice 155 k155) (Kd.pair (Kd.slice 155 k155) (Kd.pair (Kd.slice 155 k155) (Kd.pair (Kd.slice 9 Kd.string) (Kd.pair (Kd.slice 9 Kd.string) (Kd.pair Kd.bool Kd.bool)))))))) (fun x:S78=>(x.f0,x.f1,x.f2,x.f3,x.f4,x.f5,x.f6,x.f7,x.f8))
theorem k78_open {w:World} {x:S78} {cs:List Value} (h:k78.K w x cs):∃ A2 c2 A3 c3 A4 c4 A5 c5 A6 c6,cs=[.bool x.f0,.bool x.f1,.slice A2 x.f2.length c2,.slice A3 x.f3.length c3,.slice A4 x.f4.length c4,.slice A5 x.f5.length c5,.slice A6 x.f6.length c6,.bool x.f7,.bool x.f8]∧x.f2.length≤c2∧k155.C w A2 x.f2.length x.f2∧x.f3.length≤c3∧k155.C w A3 x.f3.length x.f3∧x.f4.length≤c4∧k155.C w A4 x.f4.length x.f4∧x.f5.length≤c5∧Kd.string.C w A5 x.f5.length x.f5∧x.f6.length≤c6∧Kd.string.C w A6 x.f6.length x.f6:=by
 obtain ⟨_,_,rfl,rfl,⟨_,_,rfl,rfl,⟨_,_,rfl,⟨A2,c2,rfl,l2,g2⟩,⟨_,_,rfl,⟨A3,c3,rfl,l3,g3⟩,⟨_,_,rfl,⟨A4,c4,rfl,l4,g4⟩,⟨_,_,rfl,⟨A5,c5,rfl,l5,g5⟩,⟨_,_,rfl,⟨A6,c6,rfl,l6,g6⟩,⟨_,_,rfl,rfl,rfl⟩⟩⟩⟩⟩⟩⟩⟩:=h
 exact ⟨A2,c2,A3,c3,A4,c4,A5,c5,A6,c6,rfl,l2,g2,l3,g3,l4,g4,l5,g5,l6,g6⟩
theorem k78_openM {w:World} {base:Nat} {ok:Nat→Prop} {x:S78} {cs:List Value} (h:k78.M w base ok x cs):∃ v2 v3 v4 v5 v6,cs=[.bool x.f0,.bool x.f1,v2,v3,v4,v5,v6,.bool x.f7,.bool x.f8]∧k155.R 155 w base ok v2 x.f2∧k155.R 155 w base ok v3 x.f3∧k155.R 155 w base ok v4 x.f4∧Kd.string.R 9 w base ok v5 x.f5∧Kd.string.R 9 w base ok v6 x.f6:=by
 obtain ⟨_,_,rfl,rfl,⟨_,_,rfl,rfl,⟨_,_,rfl,⟨v2,rfl,g2⟩,⟨_,_,rfl,⟨v3,rfl,g3⟩,⟨_,_,rfl,⟨v4,rfl,g4⟩,⟨_,_,rfl,⟨v5,rfl,g5⟩,⟨_,_,rfl,⟨v6,rfl,g6⟩,⟨_,_,rfl,rfl,rfl⟩⟩⟩⟩⟩⟩⟩⟩:=h
 exact ⟨v2,v3,v4,v5,v6,rfl,g2,g3,g4,g5,g6⟩
theorem k78_mk (w:World) (x:S78) {A2:Option Addr} {c2:Nat} (l2:x.f2.length≤c2) (g2:k155.C w A2 x.f2.length x.f2) {A3:Option Addr} {c3:Nat} (l3:x.f3.length≤c3) (g3:k155.C w A3 x.f3.length x.f3) {A4:Option Addr} {c4:Nat} (l4:x.f4.length≤c4) (g4:k155.C w A4 x.f4.length x.f4) {A5:Option Addr} {c5:Nat} (l5:x.f5.length≤c5) (g5:Kd.string.C w A5 x.f5.length x.f5) {A6:Option Addr} {c6:Nat} (l6:x.f6.length≤c6) (g6:Kd.string.C w A6 x.f6.length x.f6):k78.K w x [.bool x.f0,.bool x.f1,.slice A2 x.f2.length c2,.slice A3 x.f3.length c3,.slice A4 x.f4.length c4,.slice A5 x.f5.length c5,.slice A6 x.f6.length c6,.bool x.f7,.bool x.f8]:=⟨[.bool x.f0],[.bool x.f1,.slice A2 x.f2.length c2,.slice A3 x.f3.length c3,.slice A4 x.f4.length c4,.slice A5 x.f5.length c5,.slice A6 x.f6.length c6,.bool x.f7,.bool x.f8],rfl,rfl,⟨[.bool x.f1],[.slice A2 x.f2.length c2,.slice A3 x.f3.length c3,.slice A4 x.f4.length c4,.slice A5 x.f5.length c5,.slice A6 x.f6.length c6,.bool x.f7,.bool x.f8],rfl,rfl,⟨[.slice A2 x.f2.length c2],[.slice A3 x.f3.length c3,.slice A4 x.f4.length c4,.slice A5 x.f5.length c5,.slice A6 x.f6.length c6,.bool x.f7,.bool x.f8],rfl,⟨A2,c2,rfl,l2,g2⟩,⟨[.slice A3 x.f3.length c3],[.slice A4 x.f4.length c4,.slice A5 x.f5.length c5,.slice A6 x.f6.length c6,.bool x.f7,.bool x.f8],rfl,⟨A3,c3,rfl,l3,g3⟩,⟨[.slice A4 x.f4.length c4],[.slice A5 x.f5.length c5,.slice A6 x.f6.length c6,.bool x.f7,.bool x.f8],rfl,⟨A4,c4,rfl,l4,g4⟩,⟨[.slice A5 x.f5.length c5],[.slice A6 x.f6.length c6,.bool x.f7,.bool x.f8],rfl,⟨A5,c5,rfl,l5,g5⟩,⟨[.slice A6 x.f6.length c6],[.bool x.f7,.bool x.f8],rfl,⟨A6,c6,rfl,l6,g6⟩,⟨[.bool x.f7],[.bool x.f8],rfl,rfl,rfl⟩⟩⟩⟩⟩⟩⟩⟩
theorem k78_mkM (w:World) (base:Nat) (ok:Nat→Prop) (x:S78) {v2:Value} (g2:k155.R 155 w base ok v2 x.f2) {v3:Value} (g3:k155.R 155 w base ok v3 x.f3) {v4:Value} (g4:k155.R 155 w base ok v4 x.f4) {v5:Value} (g5:Kd.string.R 9 w base ok v5 x.f5) {v6:Value} (g6:Kd.string.R 9 w base ok v6 x.f6):k78.M w base ok x [.bool x.f0,.bool x.f1,v2,v3,v4,v5,v6,.bool x.f7,.bool x.f8]:=⟨[.bool x.f0],[.bool x.f1,v2,v3,v4,v5,v6,.bool x.f7,.bool x.f8],rfl,rfl,⟨[.bool x.f1],[v2,v3,v4,v5,v6,.bool x.f7,.bool x.f8],rfl,rfl,⟨[v2],[v3,v4,v5,v6,.bool x.f7,.bool x.f8],rfl,⟨v2,rfl,g2⟩,⟨[v3],[v4,v5,v6,.bool x.f7,.bool x.f8],rfl,⟨v3,rfl,g3⟩,⟨[v4],[v5,v6,.bool x.f7,.bool x.f8],rfl,⟨v4,rfl,g4⟩,⟨[v5],[v6,.bool x.f7,.bool x.f8],rfl,⟨v5,rfl,g5⟩,⟨[v6],[.bool x.f7,.bool x.f8],rfl,⟨v6,rfl,g6⟩,⟨[.bool x.f7],[.bool x.f8],rfl,rfl,rfl⟩⟩⟩⟩⟩⟩⟩⟩
def rd_T78 (xs:List S78) (i:Int):S78:=xs.getD i.toNat z78
theorem at_T78 {w:World} {A:Option Addr} {n:Nat} {xs:List S78} (h:Kd.C k78 w A n xs) (i:Int) (h0:0≤i) (h1:i<n):∃ ad A2 c2 A3 c3 A4 c4 A5 c5 A6 c6,A=some ad∧w.cell? (ad.add (i.toNat * 9))=some (.bool (rd_T78 xs i).f0)∧w.cell? ⟨(ad.add (i.toNat * 9)).block,(ad.add (i.toNat * 9)).off+1,none⟩=some (.bool (rd_T78 xs i).f1)∧w.cell? ⟨(ad.add (i.toNat * 9)).block,(ad.add (i.toNat * 9)).off+2,none⟩=some (.slice A2 (rd_T78 xs i).f2.length c2)∧w.cell? ⟨(ad.add (i.toNat * 9)).block,(ad.add (i.toNat * 9)).off+3,none⟩=some (.slice A3 (rd_T78 xs i).f3.length c3)∧w.cell? ⟨(ad.add (i.toNat * 9)).block,(ad.add (i.toNat * 9)).off+4,none⟩=some (.slice A4 (rd_T78 xs i).f4.length c4)∧w.cell? ⟨(ad.add (i.toNat * 9)).block,(ad.add (i.toNat * 9)).off+5,none⟩=some (.slice A5 (rd_T78 xs i).f5.length c5)∧w.cell? ⟨(ad.add (i.toNat * 9)).block,(ad.add (i.toNat * 9)).off+6,none⟩=some (.slice A6 (rd_T78 xs i).f6.length c6)∧w.cell? ⟨(ad.add (i.toNat * 9)).block,(ad.add (i.toNat * 9)).off+7,none⟩=some (.bool (rd_T78 xs i).f7)∧w.cell? ⟨(ad.add (i.toNat * 9)).block,(ad.add (i.toNat * 9)).off+8,none⟩=some (.bool (rd_T78 xs i).f8)∧(rd_T78 xs i).f2.length≤c2∧k155.C w A2 (rd_T78 xs i).f2.length (rd_T78 xs i).f2∧(rd_T78 xs i).f3.length≤c3∧k155.C w A3 (rd_T78 xs i).f3.length (rd_T78 xs i).f3∧(rd_T78 xs i).f4.length≤c4∧k155.C w A4 (rd_T78 xs i).f4.length (rd_T78 xs i).f4∧(rd_T78 xs i).f5.length≤c5∧Kd.string.C w A5 (rd_T78 xs i).f5.length (rd_T78 xs i).f5∧(rd_T78 xs i).f6.length≤c6∧Kd.string.C w A6 (rd_T78 xs i).f6.length (rd_T78 xs i).f6:=by
 obtain ⟨ad,c,e,_,hK,hc0⟩:=Kd.C_get h z78 i h0 h1
 have hc:∀ j u,c[j]? = some u→w.cell? (ad.add (i.toNat * 9+j))=some u:=hc0
 obtain ⟨A2,c2,A3,c3,A4,c4,A5,c5,A6,c6,rfl,l2,g2,l3,g3,l4,g4,l5,g5,l6,g6⟩:=k78_open hK
 exact ⟨ad,A2,c2,A3,c3,A4,c4,A5,c5,A6,c6,e,hc 0 _ rfl,by rw [←add_field _ _ 1 (by omega)];exact hc 1 _ rfl,by rw [←add_field _ _ 2 (by omega)];exact hc 2 _ rfl,by rw [←add_field _ _ 3 (by omega)];exact hc 3 _ rfl,by rw [←add_field _ _ 4 (by omega)];exact hc 4 _ rfl,by rw [←add_field _ _ 5 (by omega)];exact hc 5 _ rfl,by rw [←add_field _ _ 6 (by omega)];exact hc 6 _ rfl,by rw [←add_field _ _ 7 (by omega)];exact hc 7 _ rfl,by rw [←add_field _ _ 8 (by omega)];exact hc 8 _ rfl,l2,g2,l3,g3,l4,g4,l5,g5,l6,g6⟩
end Go.Proofs.Ytophaihdibplkaa.PFnExactSameConfig
