/- By a program of this session, out of the kit's print and contracts made by hand: the machine side of a law; Lean checks it. No conditions. -/
import Derived.Test.YtjlikemmhjclpaaProg
import Derived.Test.YtjlikemmhjclpaaMach
import Derived.Test.YtjlikemmhjclpaaKit
import Derived.Lib.OthersKept
import Derived.Outline
import Derived.Deep.RegionHeld3
import Derived.Lib.SliceRun
import Derived.Test.YtjlikemmhjclpaaSep
import Derived.Laws.Runes
import Derived.Laws.RangeAny
import Derived.WalkMore
import Derived.Below
import Derived.Deep.Draws
import Derived.Deep.AppendLies
import Derived.Maps.AppendAt
import Derived.OwnWalk
import Derived.Laws.BytesArg
import Derived.Laws.MakeOwn
import Derived.Laws.OwnMore
import Derived.Deep.OwnRows
import Derived.Tactics
import Derived.Lib.ConvBytes
import Derived.Laws.Slices
import Derived.WalkKit
import Derived.KernelRfl
import Derived.RowKit3
import Derived.Deep.LoopGhost
import Derived.Deep.QuietTactic
import Derived.BigQuiet
import Derived.WideLaws
import Derived.Deep.DeepCutAuto
import Derived.Deep.CutBlock
import Derived.Deep.RegionHeld3
import Derived.Laws.Rows
import Derived.Lib.AppendStr
import Derived.ArgAppend
import Derived.Laws.IdiomCopy
import Derived.OrdersHeld
import Derived.Laws.BitsLemmas
import Derived.RowKit
import Derived.Test.YtjlikemmhjclpaaWWords
import Derived.Test.YtjlikemmhjclpaaWShort
import Derived.Test.YtjlikemmhjclpaaWLast
import Derived.Test.YtjlikemmhjclpaaWTab
import Derived.Test.YtjlikemmhjclpaaWQPut
import Derived.Test.YtjlikemmhjclpaaWApart
import Derived.Test.YtjlikemmhjclpaaWArr
import Derived.Test.YtjlikemmhjclpaaWZeros
import Derived.Test.YtjlikemmhjclpaaWFoot
import Derived.Test.YtjlikemmhjclpaaWKept
import Derived.Test.YtjlikemmhjclpaaWShare
import Derived.Test.YtjlikemmhjclpaaWN
import Derived.Test.YtjlikemmhjclpaaWRepsOne
import Derived.Test.YtjlikemmhjclpaaWGuard
import Derived.Test.YtjlikemmhjclpaaWNEv
import Derived.Test.YtjlikemmhjclpaaWMore
namespace Go.Proofs.Ytjlikemmhjclpaa.PFnExactSetKids
open Go.RowKit Go.Proofs.YtjlikemmhjclpaaW.PrintWords Go.Proofs.YtjlikemmhjclpaaW.PrintLast Go.Proofs.YtjlikemmhjclpaaW.PrintMore
attribute [local go_sem] max2_int min2_int max_two min_two max_three min_three max_four min_four
set_option linter.unusedVariables false
set_option linter.unusedSimpArgs false
def errW:Option Int→Value
 | none=>.nilIface
 | some c=>.iface 0 (.int .i64 c)
theorem errW_none:errW none=.nilIface:=rfl
theorem errW_some (c:Int):errW (some c)=.iface 0 (.int .i64 c):=rfl
theorem info3:(Try.prog.info? 3).map (fun i=>(i.zero,i.size,i.bytes))=some (some (.int .i64 0),1,8):=by kernel_rfl
theorem info5:(Try.prog.info? 5).map (fun i=>(i.zero,i.size,i.bytes))=some (some (.int .u8 0),1,1):=by kernel_rfl
theorem info9:(Try.prog.info? 9).map (fun i=>(i.zero,i.size,i.bytes))=some (some (.string ⟨#[]⟩),1,16):=by kernel_rfl
theorem info44:(Try.prog.info? 44).map (fun i=>(i.zero,i.size,i.bytes))=some (some (.agg #[(.int .i64 0),(.int .i64 0),(.string ⟨#[]⟩),(.string ⟨#[]⟩),(.slice none 0 0),(.slice none 0 0)]),6,96):=by kernel_rfl
theorem info75:(Try.prog.info? 75).map (fun i=>(i.zero,i.size,i.bytes))=some (some (.agg #[(.string ⟨#[]⟩),(.string ⟨#[]⟩)]),2,32):=by kernel_rfl
/-! #### struct type 82 -/
structure S82 where
 f0:ByteArray
 f1:ByteArray
def z82:S82:=⟨(⟨#[]⟩:ByteArray),(⟨#[]⟩:ByteArray)⟩
def k82:Kd S82:=Kd.iso (Kd.pair Kd.string Kd.string) (fun x:S82=>(x.f0,x.f1))
theorem k82_heap:Kd.Heap k82:=Kd.heap_iso _ (Kd.heap_pair Kd.heap_string Kd.heap_string)
theorem k82_open {w:World} {x:S82} {cs:List Value} (h:k82.K w x cs):cs=[.string x.f0,.string x.f1]:=by
 obtain ⟨_,_,rfl,rfl,rfl⟩:=h
 exact rfl
theorem k82_openM {w:World} {base:Nat} {ok:Nat→Prop} {x:S82} {cs:List Value} (h:k82.M w base ok x cs):cs=[.string x.f0,.string x.f1]:=by
 obtain ⟨_,_,rfl,rfl,rfl⟩:=h
 exact rfl
theorem k82_mk (w:World) (x:S82)  : k82.K w x [.string x.f0,.string x.f1]:=⟨[.string x.f0],[.string x.f1],rfl,rfl,rfl⟩
theorem k82_mkM (w:World) (base:Nat) (ok:Nat→Prop) (x:S82)  : k82.M w base ok x [.string x.f0,.string x.f1]:=⟨[.string x.f0],[.string x.f1],rfl,rfl,rfl⟩
theorem k82_mkF (W:World) (ok:Nat→Prop) (x:S82):Kd.FK k82 W ok x [.string x.f0,.string x.f1]:=fun W2 _=>k82_mk W2 x
def rd_T82 (xs:List S82) (i:Int):S82:=xs.getD i.toNat z82
theorem at_T82 {w:World} {A:Option Addr} {n:Nat} {xs:List S82} (h:Kd.C k82 w A n xs) (i:Int) (h0:0≤i) (h1:i<n):∃ ad,A=some ad∧w.cell? (ad.add (i.toNat * 2))=some (.string (rd_T82 xs i).f0)∧w.cell? ⟨(ad.add (i.toNat * 2)).block,(ad.add (i.toNat * 2)).off+1,none⟩=some (.string (rd_T82 xs i).f1):=by
 obtain ⟨ad,c,e,_,hK,hc0⟩:=Kd.C_get h z82 i h0 h1
 have hc:∀ j u,c[j]? = some u→w.cell? (ad.add (i.toNat * 2+j))=some u:=hc0
 obtain rfl:=k82_open hK
 exact ⟨ad,e,hc 0 _ rfl,by rw [←add_field _ _ 1 (by omega)];exact hc 1 _ rfl⟩
def rd_L3 (xs:List (List S82)) (i:Int):(List S82):=xs.getD i.toNat ([]:List S82)
theorem at_L3 {w:World} {A:Option Addr} {n:Nat} {xs:List (List S82)} (h:Kd.C (Kd.slice 82 k82) w A n xs) (i:Int) (h0:0≤i) (h1:i<n):∃ ad A0 c0,A=some ad∧w.cell? (ad.add i.toNat)=some (.slice A0 (rd_L3 xs i).length c0)∧(rd_L3 xs i).length≤c0∧k82.C w A0 (rd_L3 xs i).length (rd_L3 xs i):=by
 obtain ⟨ad,c,e,_,hK,hc0⟩:=Kd.C_get h ([]:List S82) i h0 h1
 have hc:∀ j u,c[j]? = some u→w.cell? (ad.add (i.toNat * 1+j))=some u:=hc0
 obtain ⟨A0,c0,rfl,l0,g0⟩:=hK
 exact ⟨ad,A0,c0,e,by have hq:=hc 0 _ rfl;rwa [Nat.mul_one,Nat.add_zero] at hq,l0,g0⟩
/-! #### struct type 40, nested in itself -/
structure S40 where
 f0:Int
 f1:Int
 f2:ByteArray
 f3:ByteArray
 f4:(List S82)
 f5:(List S40)
def z40:S40:=⟨(0:Int),(0:Int),(⟨#[]⟩:ByteArray),(⟨#[]⟩:ByteArray),([]:List S82),([]:List S40)⟩
def F40 (d:Kd S40):Kd S40:=Kd.iso (Kd.pair (Kd.int .i64) (Kd.pair (Kd.int .i64) (Kd.pair Kd.string (Kd.pair Kd.string (Kd.pair (Kd.slice 82 k82) (Kd.slice 40 d)))))) (fun x:S40=>(x.f0,x.f1,x.f2,x.f3,x.f4,x.f5))
theorem mono40:Kd.Mono F40:=Kd.mono_iso _ (Kd.mono_pair (Kd.mono_const _) (Kd.mono_pair (Kd.mono_const _) (Kd.mono_pair (Kd.mono_const _) (Kd.mono_pair (Kd.mono_const _) (Kd.mono_pair (Kd.mono_const _) (Kd.mono_slice 40 Kd.mono_id))))))
theorem sub40:Kd.Sub F40 [40,82]:=Kd.sub_iso _ (Kd.sub_pair (Kd.sub_const _ (by decide)) (Kd.sub_pair (Kd.sub_const _ (by decide)) (Kd.sub_pair (Kd.sub_const _ (by decide)) (Kd.sub_pair (Kd.sub_const _ (by decide)) (Kd.sub_pair (Kd.sub_const _ (by decide)) (Kd.sub_slice 40 (by decide) Kd.sub_id))))))
theorem sz40:∀ n,(Kd.upto F40 6 [40,82] n).sz=6:=Kd.upto_sz (fun _=>rfl)
def k40:Kd S40:=Kd.fix F40 6 [40,82] sz40 (Kd.upto_E sub40)
theorem k40_heap:Kd.Heap k40:=Kd.heap_fix (fun _ h_=>Kd.heap_iso _ (Kd.heap_pair (Kd.heap_int .i64) (Kd.heap_pair (Kd.heap_int .i64) (Kd.heap_pair Kd.heap_string (Kd.heap_pair Kd.heap_string (Kd.heap_pair (Kd.heap_slice 82 k82_heap) (Kd.heap_slice 40 h_)))))))
theorem k40_open {w:World} {x:S40} {cs:List Value} (h:k40.K w x cs):∃ A4 c4 A5 c5,cs=[.int .i64 x.f0,.int .i64 x.f1,.string x.f2,.string x.f3,.slice A4 x.f4.length c4,.slice A5 x.f5.length c5]∧x.f4.length≤c4∧k82.C w A4 x.f4.length x.f4∧x.f5.length≤c5∧k40.C w A5 x.f5.length x.f5:=by
 obtain ⟨n,h⟩:=h
 cases n with
 | zero=>exact h.elim
 | succ n =>
  obtain ⟨_,_,rfl,rfl,⟨_,_,rfl,rfl,⟨_,_,rfl,rfl,⟨_,_,rfl,rfl,⟨_,_,rfl,⟨A4,c4,rfl,l4,g4⟩,⟨A5,c5,rfl,l5,g5⟩⟩⟩⟩⟩⟩:=h
  exact ⟨A4,c4,A5,c5,rfl,l4,g4,l5,Kd.fix_C g5⟩
theorem k40_openM {w:World} {base:Nat} {ok:Nat→Prop} {x:S40} {cs:List Value} (h:k40.M w base ok x cs):∃ v4 v5,cs=[.int .i64 x.f0,.int .i64 x.f1,.string x.f2,.string x.f3,v4,v5]∧k82.R 82 w base ok v4 x.f4∧k40.R 40 w base ok v5 x.f5:=by
 obtain ⟨n,h⟩:=h
 cases n with
 | zero=>exact h.elim
 | succ n =>
  obtain ⟨_,_,rfl,rfl,⟨_,_,rfl,rfl,⟨_,_,rfl,rfl,⟨_,_,rfl,rfl,⟨_,_,rfl,⟨v4,rfl,g4⟩,⟨v5,rfl,g5⟩⟩⟩⟩⟩⟩:=h
  exact ⟨v4,v5,rfl,g4,Kd.fix_R g5⟩
theorem k40_mk (w:World) (x:S40) {A4:Option Addr} {c4:Nat} (l4:x.f4.length≤c4) (g4:k82.C w A4 x.f4.length x.f4) {A5:Option Addr} {c5:Nat} (l5:x.f5.length≤c5) (g5:k40.C w A5 x.f5.length x.f5):k40.K w x [.int .i64 x.f0,.int .i64 x.f1,.string x.f2,.string x.f3,.slice A4 x.f4.length c4,.slice A5 x.f5.length c5]:=by
 obtain ⟨n5,q5⟩:=Kd.fix_C_back mono40 g5
 have r5:=Kd.upto_C_le mono40 sz40 (show n5≤n5 by omega) q5
 exact ⟨n5+1,⟨[.int .i64 x.f0],[.int .i64 x.f1,.string x.f2,.string x.f3,.slice A4 x.f4.length c4,.slice A5 x.f5.length c5],rfl,rfl,⟨[.int .i64 x.f1],[.string x.f2,.string x.f3,.slice A4 x.f4.length c4,.slice A5 x.f5.length c5],rfl,rfl,⟨[.string x.f2],[.string x.f3,.slice A4 x.f4.length c4,.slice A5 x.f5.length c5],rfl,rfl,⟨[.string x.f3],[.slice A4 x.f4.length c4,.slice A5 x.f5.length c5],rfl,rfl,⟨[.slice A4 x.f4.length c4],[.slice A5 x.f5.length c5],rfl,⟨A4,c4,rfl,l4,g4⟩,⟨A5,c5,rfl,l5,r5⟩⟩⟩⟩⟩⟩⟩
theorem k40_mkM (w:World) (base:Nat) (ok:Nat→Prop) (x:S40) {v4:Value} (g4:k82.R 82 w base ok v4 x.f4) {v5:Value} (g5:k40.R 40 w base ok v5 x.f5):k40.M w base ok x [.int .i64 x.f0,.int .i64 x.f1,.string x.f2,.string x.f3,v4,v5]:=by
 obtain ⟨n5,q5⟩:=Kd.fix_R_back mono40 g5
 have r5:=Kd.upto_R_le mono40 sz40 (show n5≤n5 by omega) q5
 exact ⟨n5+1,⟨[.int .i64 x.f0],[.int .i64 x.f1,.string x.f2,.string x.f3,v4,v5],rfl,rfl,⟨[.int .i64 x.f1],[.string x.f2,.string x.f3,v4,v5],rfl,rfl,⟨[.string x.f2],[.string x.f3,v4,v5],rfl,rfl,⟨[.string x.f3],[v4,v5],rfl,rfl,⟨[v4],[v5],rfl,⟨v4,rfl,g4⟩,⟨v5,rfl,r5⟩⟩⟩⟩⟩⟩⟩
theorem k40_openF {W:World} {ok:Nat→Prop} {x:S40} {cs:List Value} (h:Kd.FK k40 W ok x cs):∃ A4 c4 A5 c5,cs=[.int .i64 x.f0,.int .i64 x.f1,.string x.f2,.string x.f3,.slice A4 x.f4.length c4,.slice A5 x.f5.length c5]∧x.f4.length≤c4∧Kd.F k82 W ok A4 x.f4.length x.f4∧x.f5.length≤c5∧Kd.F k40 W ok A5 x.f5.length x.f5:=by
 obtain ⟨A4,c4,A5,c5,rfl,l4,_,l5,_⟩:=k40_open (Kd.FK_now h)
 exact ⟨A4,c4,A5,c5,rfl,l4,(fun W' hW=>by obtain ⟨A4_,c4_,A5_,c5_,he,l4_,g4_,l5_,g5_⟩:=k40_open (h W' hW);injection (oi_ (show some (Value.slice A4 x.f4.length c4)=some (Value.slice A4_ x.f4.length c4_) from congrArg (fun l=>l[4]?) he)) with ha_ _ _;rw [ha_];exact g4_),l5,(fun W' hW=>by obtain ⟨A4_,c4_,A5_,c5_,he,l4_,g4_,l5_,g5_⟩:=k40_open (h W' hW);injection (oi_ (show some (Value.slice A5 x.f5.length c5)=some (Value.slice A5_ x.f5.length c5_) from congrArg (fun l=>l[5]?) he)) with ha_ _ _;rw [ha_];exact g5_)⟩
theorem k40_mkF (W:World) (ok:Nat→Prop) (x:S40) {A4:Option Addr} {c4:Nat} (l4:x.f4.length≤c4) (g4:Kd.F k82 W ok A4 x.f4.length x.f4) {A5:Option Addr} {c5:Nat} (l5:x.f5.length≤c5) (g5:Kd.F k40 W ok A5 x.f5.length x.f5):Kd.FK k40 W ok x [.int .i64 x.f0,.int .i64 x.f1,.string x.f2,.string x.f3,.slice A4 x.f4.length c4,.slice A5 x.f5.length c5]:=fun W2 hW=>k40_mk W2 x l4 (g4 W2 hW) l5 (g5 W2 hW)
def rd_T40 (xs:List S40) (i:Int):S40:=xs.getD i.toNat z40
theorem at_T40 {w:World} {A:Option Addr} {n:Nat} {xs:List S40} (h:Kd.C k40 w A n xs) (i:Int) (h0:0≤i) (h1:i<n):∃ ad A4 c4 A5 c5,A=some ad∧w.cell? (ad.add (i.toNat * 6))=some (.int .i64 (rd_T40 xs i).f0)∧w.cell? ⟨(ad.add (i.toNat * 6)).block,(ad.add (i.toNat * 6)).off+1,none⟩=some (.int .i64 (rd_T40 xs i).f1)∧w.cell? ⟨(ad.add (i.toNat * 6)).block,(ad.add (i.toNat * 6)).off+2,none⟩=some (.string (rd_T40 xs i).f2)∧w.cell? ⟨(ad.add (i.toNat * 6)).block,(ad.add (i.toNat * 6)).off+3,none⟩=some (.string (rd_T40 xs i).f3)∧w.cell? ⟨(ad.add (i.toNat * 6)).block,(ad.add (i.toNat * 6)).off+4,none⟩=some (.slice A4 (rd_T40 xs i).f4.length c4)∧w.cell? ⟨(ad.add (i.toNat * 6)).block,(ad.add (i.toNat * 6)).off+5,none⟩=some (.slice A5 (rd_T40 xs i).f5.length c5)∧(rd_T40 xs i).f4.length≤c4∧k82.C w A4 (rd_T40 xs i).f4.length (rd_T40 xs i).f4∧(rd_T40 xs i).f5.length≤c5∧k40.C w A5 (rd_T40 xs i).f5.length (rd_T40 xs i).f5:=by
 obtain ⟨ad,c,e,_,hK,hc0⟩:=Kd.C_get h z40 i h0 h1
 have hc:∀ j u,c[j]? = some u→w.cell? (ad.add (i.toNat * 6+j))=some u:=hc0
 obtain ⟨A4,c4,A5,c5,rfl,l4,g4,l5,g5⟩:=k40_open hK
 exact ⟨ad,A4,c4,A5,c5,e,hc 0 _ rfl,by rw [←add_field _ _ 1 (by omega)];exact hc 1 _ rfl,by rw [←add_field _ _ 2 (by omega)];exact hc 2 _ rfl,by rw [←add_field _ _ 3 (by omega)];exact hc 3 _ rfl,by rw [←add_field _ _ 4 (by omega)];exact hc 4 _ rfl,by rw [←add_field _ _ 5 (by omega)];exact hc 5 _ rfl,l4,g4,l5,g5⟩
/-! #### struct type 75 -/
structure S75 where
 f0:ByteArray
 f1:ByteArray
def z75:S75:=⟨(⟨#[]⟩:ByteArray),(⟨#[]⟩:ByteArray)⟩
def k75:Kd S75:=Kd.iso (Kd.pair Kd.string Kd.string) (fun x:S75=>(x.f0,x.f1))
theorem k75_heap:Kd.Heap k75:=Kd.heap_iso _ (Kd.heap_pair Kd.heap_string Kd.heap_string)
theorem k75_open {w:World} {x:S75} {cs:List Value} (h:k75.K w x cs):cs=[.string x.f0,.string x.f1]:=by
 obtain ⟨_,_,rfl,rfl,rfl⟩:=h
 exact rfl
theorem k75_openM {w:World} {base:Nat} {ok:Nat→Prop} {x:S75} {cs:List Value} (h:k75.M w base ok x cs):cs=[.string x.f0,.string x.f1]:=by
 obtain ⟨_,_,rfl,rfl,rfl⟩:=h
 exact rfl
theorem k75_mk (w:World) (x:S75)  : k75.K w x [.string x.f0,.string x.f1]:=⟨[.string x.f0],[.string x.f1],rfl,rfl,rfl⟩
theorem k75_mkM (w:World) (base:Nat) (ok:Nat→Prop) (x:S75)  : k75.M w base ok x [.string x.f0,.string x.f1]:=⟨[.string x.f0],[.string x.f1],rfl,rfl,rfl⟩
theorem k75_mkF (W:World) (ok:Nat→Prop) (x:S75):Kd.FK k75 W ok x [.string x.f0,.string x.f1]:=fun W2 _=>k75_mk W2 x
def rd_T75 (xs:List S75) (i:Int):S75:=xs.getD i.toNat z75
theorem at_T75 {w:World} {A:Option Addr} {n:Nat} {xs:List S75} (h:Kd.C k75 w A n xs) (i:Int) (h0:0≤i) (h1:i<n):∃ ad,A=some ad∧w.cell? (ad.add (i.toNat * 2))=some (.string (rd_T75 xs i).f0)∧w.cell? ⟨(ad.add (i.toNat * 2)).block,(ad.add (i.toNat * 2)).off+1,none⟩=some (.string (rd_T75 xs i).f1):=by
 obtain ⟨ad,c,e,_,hK,hc0⟩:=Kd.C_get h z75 i h0 h1
 have hc:∀ j u,c[j]? = some u→w.cell? (ad.add (i.toNat * 2+j))=some u:=hc0
 obtain rfl:=k75_open hK
 exact ⟨ad,e,hc 0 _ rfl,by rw [←add_field _ _ 1 (by omega)];exact hc 1 _ rfl⟩
def rd_L6 (xs:List (List S75)) (i:Int):(List S75):=xs.getD i.toNat ([]:List S75)
theorem at_L6 {w:World} {A:Option Addr} {n:Nat} {xs:List (List S75)} (h:Kd.C (Kd.slice 75 k75) w A n xs) (i:Int) (h0:0≤i) (h1:i<n):∃ ad A0 c0,A=some ad∧w.cell? (ad.add i.toNat)=some (.slice A0 (rd_L6 xs i).length c0)∧(rd_L6 xs i).length≤c0∧k75.C w A0 (rd_L6 xs i).length (rd_L6 xs i):=by
 obtain ⟨ad,c,e,_,hK,hc0⟩:=Kd.C_get h ([]:List S75) i h0 h1
 have hc:∀ j u,c[j]? = some u→w.cell? (ad.add (i.toNat * 1+j))=some u:=hc0
 obtain ⟨A0,c0,rfl,l0,g0⟩:=hK
 exact ⟨ad,A0,c0,e,by have hq:=hc 0 _ rfl;rwa [Nat.mul_one,Nat.add_zero] at hq,l0,g0⟩
/-! #### struct type 44, nested in itself -/
structure S44 where
 f0:Int
 f1:Int
 f2:ByteArray
 f3:ByteArray
 f4:(List S75)
 f5:(List S44)
def z44:S44:=⟨(0:Int),(0:Int),(⟨#[]⟩:ByteArray),(⟨#[]⟩:ByteArray),([]:List S75),([]:List S44)⟩
def F44 (d:Kd S44):Kd S44:=Kd.iso (Kd.pair (Kd.int .i64) (Kd.pair (Kd.int .i64) (Kd.pair Kd.string (Kd.pair Kd.string (Kd.pair (Kd.slice 75 k75) (Kd.slice 44 d)))))) (fun x:S44=>(x.f0,x.f1,x.f2,x.f3,x.f4,x.f5))
theorem mono44:Kd.Mono F44:=Kd.mono_iso _ (Kd.mono_pair (Kd.mono_const _) (Kd.mono_pair (Kd.mono_const _) (Kd.mono_pair (Kd.mono_const _) (Kd.mono_pair (Kd.mono_const _) (Kd.mono_pair (Kd.mono_const _) (Kd.mono_slice 44 Kd.mono_id))))))
theorem sub44:Kd.Sub F44 [44,75]:=Kd.sub_iso _ (Kd.sub_pair (Kd.sub_const _ (by decide)) (Kd.sub_pair (Kd.sub_const _ (by decide)) (Kd.sub_pair (Kd.sub_const _ (by decide)) (Kd.sub_pair (Kd.sub_const _ (by decide)) (Kd.sub_pair (Kd.sub_const _ (by decide)) (Kd.sub_slice 44 (by decide) Kd.sub_id))))))
theorem sz44:∀ n,(Kd.upto F44 6 [44,75] n).sz=6:=Kd.upto_sz (fun _=>rfl)
def k44:Kd S44:=Kd.fix F44 6 [44,75] sz44 (Kd.upto_E sub44)
theorem k44_heap:Kd.Heap k44:=Kd.heap_fix (fun _ h_=>Kd.heap_iso _ (Kd.heap_pair (Kd.heap_int .i64) (Kd.heap_pair (Kd.heap_int .i64) (Kd.heap_pair Kd.heap_string (Kd.heap_pair Kd.heap_string (Kd.heap_pair (Kd.heap_slice 75 k75_heap) (Kd.heap_slice 44 h_)))))))
theorem k44_open {w:World} {x:S44} {cs:List Value} (h:k44.K w x cs):∃ A4 c4 A5 c5,cs=[.int .i64 x.f0,.int .i64 x.f1,.string x.f2,.string x.f3,.slice A4 x.f4.length c4,.slice A5 x.f5.length c5]∧x.f4.length≤c4∧k75.C w A4 x.f4.length x.f4∧x.f5.length≤c5∧k44.C w A5 x.f5.length x.f5:=by
 obtain ⟨n,h⟩:=h
 cases n with
 | zero=>exact h.elim
 | succ n =>
  obtain ⟨_,_,rfl,rfl,⟨_,_,rfl,rfl,⟨_,_,rfl,rfl,⟨_,_,rfl,rfl,⟨_,_,rfl,⟨A4,c4,rfl,l4,g4⟩,⟨A5,c5,rfl,l5,g5⟩⟩⟩⟩⟩⟩:=h
  exact ⟨A4,c4,A5,c5,rfl,l4,g4,l5,Kd.fix_C g5⟩
theorem k44_openM {w:World} {base:Nat} {ok:Nat→Prop} {x:S44} {cs:List Value} (h:k44.M w base ok x cs):∃ v4 v5,cs=[.int .i64 x.f0,.int .i64 x.f1,.string x.f2,.string x.f3,v4,v5]∧k75.R 75 w base ok v4 x.f4∧k44.R 44 w base ok v5 x.f5:=by
 obtain ⟨n,h⟩:=h
 cases n with
 | zero=>exact h.elim
 | succ n =>
  obtain ⟨_,_,rfl,rfl,⟨_,_,rfl,rfl,⟨_,_,rfl,rfl,⟨_,_,rfl,rfl,⟨_,_,rfl,⟨v4,rfl,g4⟩,⟨v5,rfl,g5⟩⟩⟩⟩⟩⟩:=h
  exact ⟨v4,v5,rfl,g4,Kd.fix_R g5⟩
theorem k44_mk (w:World) (x:S44) {A4:Option Addr} {c4:Nat} (l4:x.f4.length≤c4) (g4:k75.C w A4 x.f4.length x.f4) {A5:Option Addr} {c5:Nat} (l5:x.f5.length≤c5) (g5:k44.C w A5 x.f5.length x.f5):k44.K w x [.int .i64 x.f0,.int .i64 x.f1,.string x.f2,.string x.f3,.slice A4 x.f4.length c4,.slice A5 x.f5.length c5]:=by
 obtain ⟨n5,q5⟩:=Kd.fix_C_back mono44 g5
 have r5:=Kd.upto_C_le mono44 sz44 (show n5≤n5 by omega) q5
 exact ⟨n5+1,⟨[.int .i64 x.f0],[.int .i64 x.f1,.string x.f2,.string x.f3,.slice A4 x.f4.length c4,.slice A5 x.f5.length c5],rfl,rfl,⟨[.int .i64 x.f1],[.string x.f2,.string x.f3,.slice A4 x.f4.length c4,.slice A5 x.f5.length c5],rfl,rfl,⟨[.string x.f2],[.string x.f3,.slice A4 x.f4.length c4,.slice A5 x.f5.length c5],rfl,rfl,⟨[.string x.f3],[.slice A4 x.f4.length c4,.slice A5 x.f5.length c5],rfl,rfl,⟨[.slice A4 x.f4.length c4],[.slice A5 x.f5.length c5],rfl,⟨A4,c4,rfl,l4,g4⟩,⟨A5,c5,rfl,l5,r5⟩⟩⟩⟩⟩⟩⟩
theorem k44_mkM (w:World) (base:Nat) (ok:Nat→Prop) (x:S44) {v4:Value} (g4:k75.R 75 w base ok v4 x.f4) {v5:Value} (g5:k44.R 44 w base ok v5 x.f5):k44.M w base ok x [.int .i64 x.f0,.int .i64 x.f1,.string x.f2,.string x.f3,v4,v5]:=by
 obtain ⟨n5,q5⟩:=Kd.fix_R_back mono44 g5
 have r5:=Kd.upto_R_le mono44 sz44 (show n5≤n5 by omega) q5
 exact ⟨n5+1,⟨[.int .i64 x.f0],[.int .i64 x.f1,.string x.f2,.string x.f3,v4,v5],rfl,rfl,⟨[.int .i64 x.f1],[.string x.f2,.string x.f3,v4,v5],rfl,rfl,⟨[.string x.f2],[.string x.f3,v4,v5],rfl,rfl,⟨[.string x.f3],[v4,v5],rfl,rfl,⟨[v4],[v5],rfl,⟨v4,rfl,g4⟩,⟨v5,rfl,r5⟩⟩⟩⟩⟩⟩⟩
theorem k44_openF {W:World} {ok:Nat→Prop} {x:S44} {cs:List Value} (h:Kd.FK k44 W ok x cs):∃ A4 c4 A5 c5,cs=[.int .i64 x.f0,.int .i64 x.f1,.string x.f2,.string x.f3,.slice A4 x.f4.length c4,.slice A5 x.f5.length c5]∧x.f4.length≤c4∧Kd.F k75 W ok A4 x.f4.length x.f4∧x.f5.length≤c5∧Kd.F k44 W ok A5 x.f5.length x.f5:=by
 obtain ⟨A4,c4,A5,c5,rfl,l4,_,l5,_⟩:=k44_open (Kd.FK_now h)
 exact ⟨A4,c4,A5,c5,rfl,l4,(fun W' hW=>by obtain ⟨A4_,c4_,A5_,c5_,he,l4_,g4_,l5_,g5_⟩:=k44_open (h W' hW);injection (oi_ (show some (Value.slice A4 x.f4.length c4)=some (Value.slice A4_ x.f4.length c4_) from congrArg (fun l=>l[4]?) he)) with ha_ _ _;rw [ha_];exact g4_),l5,(fun W' hW=>by obtain ⟨A4_,c4_,A5_,c5_,he,l4_,g4_,l5_,g5_⟩:=k44_open (h W' hW);injection (oi_ (show some (Value.slice A5 x.f5.length c5)=some (Value.slice A5_ x.f5.length c5_) from congrArg (fun l=>l[5]?) he)) with ha_ _ _;rw [ha_];exact g5_)⟩
theorem k44_mkF (W:World) (ok:Nat→Prop) (x:S44) {A4:Option Addr} {c4:Nat} (l4:x.f4.length≤c4) (g4:Kd.F k75 W ok A4 x.f4.length x.f4) {A5:Option Addr} {c5:Nat} (l5:x.f5.length≤c5) (g5:Kd.F k44 W ok A5 x.f5.length x.f5):Kd.FK k44 W ok x [.int .i64 x.f0,.int .i64 x.f1,.string x.f2,.string x.f3,.slice A4 x.f4.length c4,.slice A5 x.f5.length c5]:=fun W2 hW=>k44_mk W2 x l4 (g4 W2 hW) l5 (g5 W2 hW)
def rd_T44 (xs:List S44) (i:Int):S44:=xs.getD i.toNat z44
theorem at_T44 {w:World} {A:Option Addr} {n:Nat} {xs:List S44} (h:Kd.C k44 w A n xs) (i:Int) (h0:0≤i) (h1:i<n):∃ ad A4 c4 A5 c5,A=some ad∧w.cell? (ad.add (i.toNat * 6))=some (.int .i64 (rd_T44 xs i).f0)∧w.cell? ⟨(ad.add (i.toNat * 6)).block,(ad.add (i.toNat * 6)).off+1,none⟩=some (.int .i64 (rd_T44 xs i).f1)∧w.cell? ⟨(ad.add (i.toNat * 6)).block,(ad.add (i.toNat * 6)).off+2,none⟩=some (.string (rd_T44 xs i).f2)∧w.cell? ⟨(ad.add (i.toNat * 6)).block,(ad.add (i.toNat * 6)).off+3,none⟩=some (.string (rd_T44 xs i).f3)∧w.cell? ⟨(ad.add (i.toNat * 6)).block,(ad.add (i.toNat * 6)).off+4,none⟩=some (.slice A4 (rd_T44 xs i).f4.length c4)∧w.cell? ⟨(ad.add (i.toNat * 6)).block,(ad.add (i.toNat * 6)).off+5,none⟩=some (.slice A5 (rd_T44 xs i).f5.length c5)∧(rd_T44 xs i).f4.length≤c4∧k75.C w A4 (rd_T44 xs i).f4.length (rd_T44 xs i).f4∧(rd_T44 xs i).f5.length≤c5∧k44.C w A5 (rd_T44 xs i).f5.length (rd_T44 xs i).f5:=by
 obtain ⟨ad,c,e,_,hK,hc0⟩:=Kd.C_get h z44 i h0 h1
 have hc:∀ j u,c[j]? = some u→w.cell? (ad.add (i.toNat * 6+j))=some u:=hc0
 obtain ⟨A4,c4,A5,c5,rfl,l4,g4,l5,g5⟩:=k44_open hK
 exact ⟨ad,A4,c4,A5,c5,e,hc 0 _ rfl,by rw [←add_field _ _ 1 (by omega)];exact hc 1 _ rfl,by rw [←add_field _ _ 2 (by omega)];exact hc 2 _ rfl,by rw [←add_field _ _ 3 (by omega)];exact hc 3 _ rfl,by rw [←add_field _ _ 4 (by omega)];exact hc 4 _ rfl,by rw [←add_field _ _ 5 (by omega)];exact hc 5 _ rfl,l4,g4,l5,g5⟩
def rd_L10 (xs:List (List S44)) (i:Int):(List S44):=xs.getD i.toNat ([]:List S44)
theorem at_L10 {w:World} {A:Option Addr} {n:Nat} {xs:List (List S44)} (h:Kd.C (Kd.slice 44 k44) w A n xs) (i:Int) (h0:0≤i) (h1:i<n):∃ ad A0 c0,A=some ad∧w.cell? (ad.add i.toNat)=some (.slice A0 (rd_L10 xs i).length c0)∧(rd_L10 xs i).length≤c0∧k44.C w A0 (rd_L10 xs i).length (rd_L10 xs i):=by
 obtain ⟨ad,c,e,_,hK,hc0⟩:=Kd.C_get h ([]:List S44) i h0 h1
 have hc:∀ j u,c[j]? = some u→w.cell? (ad.add (i.toNat * 1+j))=some u:=hc0
 obtain ⟨A0,c0,rfl,l0,g0⟩:=hK
 exact ⟨ad,A0,c0,e,by have hq:=hc 0 _ rfl;rwa [Nat.mul_one,Nat.add_zero] at hq,l0,g0⟩
def rd_L11 (xs:List (List S40)) (i:Int):(List S40):=xs.getD i.toNat ([]:List S40)
theorem at_L11 {w:World} {A:Option Addr} {n:Nat} {xs:List (List S40)} (h:Kd.C (Kd.slice 40 k40) w A n xs) (i:Int) (h0:0≤i) (h1:i<n):∃ ad A0 c0,A=some ad∧w.cell? (ad.add i.toNat)=some (.slice A0 (rd_L11 xs i).length c0)∧(rd_L11 xs i).length≤c0∧k40.C w A0 (rd_L11 xs i).length (rd_L11 xs i):=by
 obtain ⟨ad,c,e,_,hK,hc0⟩:=Kd.C_get h ([]:List S40) i h0 h1
 have hc:∀ j u,c[j]? = some u→w.cell? (ad.add (i.toNat * 1+j))=some u:=hc0
 obtain ⟨A0,c0,rfl,l0,g0⟩:=hK
 exact ⟨ad,A0,c0,e,by have hq:=hc 0 _ rfl;rwa [Nat.mul_one,Nat.add_zero] at hq,l0,g0⟩
def rd_L12 (xs:List (List Int)) (i:Int):(List Int):=xs.getD i.toNat ([]:List Int)
theorem at_L12 {w:World} {A:Option Addr} {n:Nat} {xs:List (List Int)} (h:Kd.C (Kd.slice 3 (Kd.int .i64)) w A n xs) (i:Int) (h0:0≤i) (h1:i<n):∃ ad A0 c0,A=some ad∧w.cell? (ad.add i.toNat)=some (.slice A0 (rd_L12 xs i).length c0)∧(rd_L12 xs i).length≤c0∧(Kd.int .i64).C w A0 (rd_L12 xs i).length (rd_L12 xs i):=by
 obtain ⟨ad,c,e,_,hK,hc0⟩:=Kd.C_get h ([]:List Int) i h0 h1
 have hc:∀ j u,c[j]? = some u→w.cell? (ad.add (i.toNat * 1+j))=some u:=hc0
 obtain ⟨A0,c0,rfl,l0,g0⟩:=hK
 exact ⟨ad,A0,c0,e,by have hq:=hc 0 _ rfl;rwa [Nat.mul_one,Nat.add_zero] at hq,l0,g0⟩
/-! #### trees of one's own, all of whose rows lie apart -/
def FT (d:Kd S44):Kd S44:=Kd.iso (Kd.pair (Kd.int .i64) (Kd.pair (Kd.int .i64) (Kd.pair Kd.string (Kd.pair Kd.string (Sep.apart (Kd.slice 75 k75) (Sep.sliceS 44 d)))))) (fun x:S44=>(x.f0,x.f1,x.f2,x.f3,x.f4,x.f5))
theorem monoT:Kd.Mono FT:=Kd.mono_iso _ (Kd.mono_pair (Kd.mono_const _) (Kd.mono_pair (Kd.mono_const _) (Kd.mono_pair (Kd.mono_const _) (Kd.mono_pair (Kd.mono_const _) (Sep.mono_apart (Kd.mono_const _) (Sep.mono_sliceS 44 Kd.mono_id))))))
theorem subT:Kd.Sub FT [44,75]:=Kd.sub_iso _ (Kd.sub_pair (Kd.sub_const _ (by decide)) (Kd.sub_pair (Kd.sub_const _ (by decide)) (Kd.sub_pair (Kd.sub_const _ (by decide)) (Kd.sub_pair (Kd.sub_const _ (by decide)) (Sep.sub_apart (Kd.sub_const _ (by decide)) (Sep.sub_sliceS 44 (by decide) Kd.sub_id))))))
theorem szT:∀ n,(Kd.upto FT 6 [44,75] n).sz=6:=Kd.upto_sz (fun _=>rfl)
def kTN:Kd S44:=Kd.fix FT 6 [44,75] szT (Kd.upto_E subT)
theorem uptoT_K:∀ (n:Nat) (w:World) (x:S44) (cs:List Value),(Kd.upto FT 6 [44,75] n).K w x cs→k44.K w x cs
 | 0,_,_,_,h=>h.elim
 | n+1,w,x,cs,h=>by
  obtain ⟨_,_,rfl,rfl,⟨_,_,rfl,rfl,⟨_,_,rfl,rfl,⟨_,_,rfl,rfl,⟨_,_,rfl,⟨A4,c4,rfl,l4,g4⟩,⟨A5,c5,rfl,l5,g5⟩⟩⟩⟩⟩⟩:=h
  exact k44_mk w x l4 g4 l5 (Kd.C_imp (d':=k44) (szT n) (uptoT_K n) g5)
theorem kTN_C {w:World} {A:Option Addr} {n:Nat} {xs:List S44} (h:Kd.C kTN w A n xs):Kd.C k44 w A n xs :=
 Kd.C_imp (d:=kTN) (d':=k44) rfl (fun w x cs hk=>by obtain ⟨n,hk⟩:=hk;exact uptoT_K n w x cs hk) h
theorem kTN_openM {w:World} {base:Nat} {ok:Nat→Prop} {x:S44} {cs:List Value} (h:kTN.M w base ok x cs):∃ v4 v5,∃ p:Nat→Prop,cs=[.int .i64 x.f0,.int .i64 x.f1,.string x.f2,.string x.f3,v4,v5]∧Kd.R k75 75 w base (fun k=>ok k∧p k) v4 x.f4∧Kd.S kTN 44 w base (fun k=>ok k∧¬ p k) v5 x.f5:=by
 obtain ⟨n,h⟩:=h
 cases n with
 | zero=>exact h.elim
 | succ n =>
  obtain ⟨_,_,rfl,rfl,⟨_,_,rfl,rfl,⟨_,_,rfl,rfl,⟨_,_,rfl,rfl,⟨_,_,p,rfl,⟨v4,rfl,g4⟩,⟨v5,rfl,g5⟩⟩⟩⟩⟩⟩:=h
  exact ⟨v4,v5,p,rfl,g4,Sep.fix_S g5⟩
theorem kTN_mkM (w:World) (base:Nat) (ok p:Nat→Prop) (x:S44) {v4:Value} (g4:Kd.R k75 75 w base (fun k=>ok k∧p k) v4 x.f4) {v5:Value} (g5:Kd.S kTN 44 w base (fun k=>ok k∧¬ p k) v5 x.f5):kTN.M w base ok x [.int .i64 x.f0,.int .i64 x.f1,.string x.f2,.string x.f3,v4,v5]:=by
 obtain ⟨n,q⟩:=Sep.fix_S_back monoT g5
 exact ⟨n+1,⟨[.int .i64 x.f0],[.int .i64 x.f1,.string x.f2,.string x.f3,v4,v5],rfl,rfl,⟨[.int .i64 x.f1],[.string x.f2,.string x.f3,v4,v5],rfl,rfl,⟨[.string x.f2],[.string x.f3,v4,v5],rfl,rfl,⟨[.string x.f3],[v4,v5],rfl,rfl,⟨[v4],[v5],p,rfl,⟨v4,rfl,g4⟩,⟨v5,rfl,q⟩⟩⟩⟩⟩⟩⟩
/-- A tree of one's own is one that is read. -/
theorem S_readsT {w:World} {base n c:Nat} {ok:Nat→Prop} {A:Option Addr} {xs:List S44} (h:Kd.S kTN 44 w base ok (.slice A n c) xs):n=xs.length∧n≤c∧Kd.C k44 w A xs.length xs :=
 ⟨(Kd.S_reads' h).1,(Kd.S_reads' h).2.1,kTN_C (Kd.S_reads' h).2.2⟩
end Go.Proofs.Ytjlikemmhjclpaa.PFnExactSetKids
