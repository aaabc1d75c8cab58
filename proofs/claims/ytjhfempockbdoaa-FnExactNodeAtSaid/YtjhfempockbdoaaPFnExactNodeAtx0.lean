/- By a program of this session, out of the kit's print and contracts made by hand: the machine side of a law; Lean checks it. No conditions. -/
import Derived.Test.YtjhfempockbdoaaProg
import Derived.Test.YtjhfempockbdoaaMach
import Derived.Test.YtjhfempockbdoaaKit
import Derived.Outline
import Derived.Deep.RegionHeld3
import Derived.Test.YtjhfempockbdoaaSep
import Derived.Lib.SliceRun
import Derived.Below
import Derived.Deep.Draws
import Derived.Deep.AppendLies
import Derived.Maps.AppendAt
import Derived.OwnWalk
import Derived.Laws.BytesArg
import Derived.Laws.MakeOwn
import Derived.Laws.OwnMore
import Derived.Deep.OwnRows
import Derived.Tactics
import Derived.Lib.ConvBytes
import Derived.Laws.Slices
import Derived.WalkKit
import Derived.KernelRfl
import Derived.RowKit3
import Derived.Deep.LoopGhost
import Derived.Deep.QuietTactic
import Derived.BigQuiet
import Derived.WideLaws
import Derived.Deep.DeepCutAuto
import Derived.Deep.CutBlock
import Derived.Deep.RegionHeld3
import Derived.Laws.Rows
import Derived.Lib.AppendStr
import Derived.ArgAppend
import Derived.Laws.IdiomCopy
import Derived.OrdersHeld
import Derived.Laws.BitsLemmas
import Derived.RowKit
import Derived.Test.YtjhfempockbdoaaWWords
import Derived.Test.YtjhfempockbdoaaWShort
import Derived.Test.YtjhfempockbdoaaWLast
import Derived.Test.YtjhfempockbdoaaWTab
import Derived.Test.YtjhfempockbdoaaWQPut
import Derived.Test.YtjhfempockbdoaaWApart
import Derived.Test.YtjhfempockbdoaaWArr
import Derived.Test.YtjhfempockbdoaaWZeros
import Derived.Test.YtjhfempockbdoaaWFoot
import Derived.Test.YtjhfempockbdoaaWKept
import Derived.Test.YtjhfempockbdoaaWShare
import Derived.Test.YtjhfempockbdoaaWN
import Derived.Test.YtjhfempockbdoaaWRepsOne
import Derived.Test.YtjhfempockbdoaaWGuard
import Derived.Test.YtjhfempockbdoaaWNEv
import Derived.Test.YtjhfempockbdoaaWMore
namespace Go.Proofs.Ytjhfempockbdoaa.PFnExactNodeAt
open Go.RowKit Go.Proofs.YtjhfempockbdoaaW.PrintWords Go.Proofs.YtjhfempockbdoaaW.PrintLast Go.Proofs.YtjhfempockbdoaaW.PrintMore
attribute [local go_sem] max2_int min2_int max_two min_two max_three min_three max_four min_four
set_option linter.unusedVariables false
set_option linter.unusedSimpArgs false
def errW:Option Int→Value
 | none=>.nilIface
 | some c=>.iface 0 (.int .i64 c)
theorem errW_none:errW none=.nilIface:=rfl
theorem errW_some (c:Int):errW (some c)=.iface 0 (.int .i64 c):=rfl
theorem info3:(Try.prog.info? 3).map (fun i=>(i.zero,i.size,i.bytes))=some (some (.int .i64 0),1,8):=by kernel_rfl
theorem info5:(Try.prog.info? 5).map (fun i=>(i.zero,i.size,i.bytes))=some (some (.int .u8 0),1,1):=by kernel_rfl
theorem info9:(Try.prog.info? 9).map (fun i=>(i.zero,i.size,i.bytes))=some (some (.string ⟨#[]⟩),1,16):=by kernel_rfl
theorem info28:(Try.prog.info? 28).map (fun i=>(i.zero,i.size,i.bytes))=some (some (.agg #[(.int .i64 0),(.int .i64 0),(.string ⟨#[]⟩),(.string ⟨#[]⟩),(.slice none 0 0),(.slice none 0 0)]),6,96):=by kernel_rfl
theorem info63:(Try.prog.info? 63).map (fun i=>(i.zero,i.size,i.bytes))=some (some (.agg #[(.string ⟨#[]⟩),(.string ⟨#[]⟩)]),2,32):=by kernel_rfl
/-! #### struct type 67 -/
structure S67 where
 f0:ByteArray
 f1:ByteArray
def z67:S67:=⟨(⟨#[]⟩:ByteArray),(⟨#[]⟩:ByteArray)⟩
def k67:Kd S67:=Kd.iso (Kd.pair Kd.string Kd.string) (fun x:S67=>(x.f0,x.f1))
theorem k67_open {w:World} {x:S67} {cs:List Value} (h:k67.K w x cs):cs=[.string x.f0,.string x.f1]:=by
 obtain ⟨_,_,rfl,rfl,rfl⟩:=h
 exact rfl
theorem k67_openM {w:World} {base:Nat} {ok:Nat→Prop} {x:S67} {cs:List Value} (h:k67.M w base ok x cs):cs=[.string x.f0,.string x.f1]:=by
 obtain ⟨_,_,rfl,rfl,rfl⟩:=h
 exact rfl
theorem k67_mk (w:World) (x:S67)  : k67.K w x [.string x.f0,.string x.f1]:=⟨[.string x.f0],[.string x.f1],rfl,rfl,rfl⟩
theorem k67_mkM (w:World) (base:Nat) (ok:Nat→Prop) (x:S67)  : k67.M w base ok x [.string x.f0,.string x.f1]:=⟨[.string x.f0],[.string x.f1],rfl,rfl,rfl⟩
theorem k67_mkF (W:World) (ok:Nat→Prop) (x:S67):Kd.FK k67 W ok x [.string x.f0,.string x.f1]:=fun W2 _=>k67_mk W2 x
def rd_T67 (xs:List S67) (i:Int):S67:=xs.getD i.toNat z67
theorem at_T67 {w:World} {A:Option Addr} {n:Nat} {xs:List S67} (h:Kd.C k67 w A n xs) (i:Int) (h0:0≤i) (h1:i<n):∃ ad,A=some ad∧w.cell? (ad.add (i.toNat * 2))=some (.string (rd_T67 xs i).f0)∧w.cell? ⟨(ad.add (i.toNat * 2)).block,(ad.add (i.toNat * 2)).off+1,none⟩=some (.string (rd_T67 xs i).f1):=by
 obtain ⟨ad,c,e,_,hK,hc0⟩:=Kd.C_get h z67 i h0 h1
 have hc:∀ j u,c[j]? = some u→w.cell? (ad.add (i.toNat * 2+j))=some u:=hc0
 obtain rfl:=k67_open hK
 exact ⟨ad,e,hc 0 _ rfl,by rw [←add_field _ _ 1 (by omega)];exact hc 1 _ rfl⟩
def rd_L3 (xs:List (List S67)) (i:Int):(List S67):=xs.getD i.toNat ([]:List S67)
theorem at_L3 {w:World} {A:Option Addr} {n:Nat} {xs:List (List S67)} (h:Kd.C (Kd.slice 67 k67) w A n xs) (i:Int) (h0:0≤i) (h1:i<n):∃ ad A0 c0,A=some ad∧w.cell? (ad.add i.toNat)=some (.slice A0 (rd_L3 xs i).length c0)∧(rd_L3 xs i).length≤c0∧k67.C w A0 (rd_L3 xs i).length (rd_L3 xs i):=by
 obtain ⟨ad,c,e,_,hK,hc0⟩:=Kd.C_get h ([]:List S67) i h0 h1
 have hc:∀ j u,c[j]? = some u→w.cell? (ad.add (i.toNat * 1+j))=some u:=hc0
 obtain ⟨A0,c0,rfl,l0,g0⟩:=hK
 exact ⟨ad,A0,c0,e,by have hq:=hc 0 _ rfl;rwa [Nat.mul_one,Nat.add_zero] at hq,l0,g0⟩
/-! #### struct type 43, nested in itself -/
structure S43 where
 f0:Int
 f1:Int
 f2:ByteArray
 f3:ByteArray
 f4:(List S67)
 f5:(List S43)
def z43:S43:=⟨(0:Int),(0:Int),(⟨#[]⟩:ByteArray),(⟨#[]⟩:ByteArray),([]:List S67),([]:List S43)⟩
def F43 (d:Kd S43):Kd S43:=Kd.iso (Kd.pair (Kd.int .i64) (Kd.pair (Kd.int .i64) (Kd.pair Kd.string (Kd.pair Kd.string (Kd.pair (Kd.slice 67 k67) (Kd.slice 43 d)))))) (fun x:S43=>(x.f0,x.f1,x.f2,x.f3,x.f4,x.f5))
theorem mono43:Kd.Mono F43:=Kd.mono_iso _ (Kd.mono_pair (Kd.mono_const _) (Kd.mono_pair (Kd.mono_const _) (Kd.mono_pair (Kd.mono_const _) (Kd.mono_pair (Kd.mono_const _) (Kd.mono_pair (Kd.mono_const _) (Kd.mono_slice 43 Kd.mono_id))))))
theorem sub43:Kd.Sub F43 [43,67]:=Kd.sub_iso _ (Kd.sub_pair (Kd.sub_const _ (by decide)) (Kd.sub_pair (Kd.sub_const _ (by decide)) (Kd.sub_pair (Kd.sub_const _ (by decide)) (Kd.sub_pair (Kd.sub_const _ (by decide)) (Kd.sub_pair (Kd.sub_const _ (by decide)) (Kd.sub_slice 43 (by decide) Kd.sub_id))))))
theorem sz43:∀ n,(Kd.upto F43 6 [43,67] n).sz=6:=Kd.upto_sz (fun _=>rfl)
def k43:Kd S43:=Kd.fix F43 6 [43,67] sz43 (Kd.upto_E sub43)
theorem k43_open {w:World} {x:S43} {cs:List Value} (h:k43.K w x cs):∃ A4 c4 A5 c5,cs=[.int .i64 x.f0,.int .i64 x.f1,.string x.f2,.string x.f3,.slice A4 x.f4.length c4,.slice A5 x.f5.length c5]∧x.f4.length≤c4∧k67.C w A4 x.f4.length x.f4∧x.f5.length≤c5∧k43.C w A5 x.f5.length x.f5:=by
 obtain ⟨n,h⟩:=h
 cases n with
 | zero=>exact h.elim
 | succ n =>
  obtain ⟨_,_,rfl,rfl,⟨_,_,rfl,rfl,⟨_,_,rfl,rfl,⟨_,_,rfl,rfl,⟨_,_,rfl,⟨A4,c4,rfl,l4,g4⟩,⟨A5,c5,rfl,l5,g5⟩⟩⟩⟩⟩⟩:=h
  exact ⟨A4,c4,A5,c5,rfl,l4,g4,l5,Kd.fix_C g5⟩
theorem k43_openM {w:World} {base:Nat} {ok:Nat→Prop} {x:S43} {cs:List Value} (h:k43.M w base ok x cs):∃ v4 v5,cs=[.int .i64 x.f0,.int .i64 x.f1,.string x.f2,.string x.f3,v4,v5]∧k67.R 67 w base ok v4 x.f4∧k43.R 43 w base ok v5 x.f5:=by
 obtain ⟨n,h⟩:=h
 cases n with
 | zero=>exact h.elim
 | succ n =>
  obtain ⟨_,_,rfl,rfl,⟨_,_,rfl,rfl,⟨_,_,rfl,rfl,⟨_,_,rfl,rfl,⟨_,_,rfl,⟨v4,rfl,g4⟩,⟨v5,rfl,g5⟩⟩⟩⟩⟩⟩:=h
  exact ⟨v4,v5,rfl,g4,Kd.fix_R g5⟩
theorem k43_mk (w:World) (x:S43) {A4:Option Addr} {c4:Nat} (l4:x.f4.length≤c4) (g4:k67.C w A4 x.f4.length x.f4) {A5:Option Addr} {c5:Nat} (l5:x.f5.length≤c5) (g5:k43.C w A5 x.f5.length x.f5):k43.K w x [.int .i64 x.f0,.int .i64 x.f1,.string x.f2,.string x.f3,.slice A4 x.f4.length c4,.slice A5 x.f5.length c5]:=by
 obtain ⟨n5,q5⟩:=Kd.fix_C_back mono43 g5
 have r5:=Kd.upto_C_le mono43 sz43 (show n5≤n5 by omega) q5
 exact ⟨n5+1,⟨[.int .i64 x.f0],[.int .i64 x.f1,.string x.f2,.string x.f3,.slice A4 x.f4.length c4,.slice A5 x.f5.length c5],rfl,rfl,⟨[.int .i64 x.f1],[.string x.f2,.string x.f3,.slice A4 x.f4.length c4,.slice A5 x.f5.length c5],rfl,rfl,⟨[.string x.f2],[.string x.f3,.slice A4 x.f4.length c4,.slice A5 x.f5.length c5],rfl,rfl,⟨[.string x.f3],[.slice A4 x.f4.length c4,.slice A5 x.f5.length c5],rfl,rfl,⟨[.slice A4 x.f4.length c4],[.slice A5 x.f5.length c5],rfl,⟨A4,c4,rfl,l4,g4⟩,⟨A5,c5,rfl,l5,r5⟩⟩⟩⟩⟩⟩⟩
theorem k43_mkM (w:World) (base:Nat) (ok:Nat→Prop) (x:S43) {v4:Value} (g4:k67.R 67 w base ok v4 x.f4) {v5:Value} (g5:k43.R 43 w base ok v5 x.f5):k43.M w base ok x [.int .i64 x.f0,.int .i64 x.f1,.string x.f2,.string x.f3,v4,v5]:=by
 obtain ⟨n5,q5⟩:=Kd.fix_R_back mono43 g5
 have r5:=Kd.upto_R_le mono43 sz43 (show n5≤n5 by omega) q5
 exact ⟨n5+1,⟨[.int .i64 x.f0],[.int .i64 x.f1,.string x.f2,.string x.f3,v4,v5],rfl,rfl,⟨[.int .i64 x.f1],[.string x.f2,.string x.f3,v4,v5],rfl,rfl,⟨[.string x.f2],[.string x.f3,v4,v5],rfl,rfl,⟨[.string x.f3],[v4,v5],rfl,rfl,⟨[v4],[v5],rfl,⟨v4,rfl,g4⟩,⟨v5,rfl,r5⟩⟩⟩⟩⟩⟩⟩
theorem k43_openF {W:World} {ok:Nat→Prop} {x:S43} {cs:List Value} (h:Kd.FK k43 W ok x cs):∃ A4 c4 A5 c5,cs=[.int .i64 x.f0,.int .i64 x.f1,.string x.f2,.string x.f3,.slice A4 x.f4.length c4,.slice A5 x.f5.length c5]∧x.f4.length≤c4∧Kd.F k67 W ok A4 x.f4.length x.f4∧x.f5.length≤c5∧Kd.F k43 W ok A5 x.f5.length x.f5:=by
 obtain ⟨A4,c4,A5,c5,rfl,l4,_,l5,_⟩:=k43_open (Kd.FK_now h)
 exact ⟨A4,c4,A5,c5,rfl,l4,(fun W' hW=>by obtain ⟨A4_,c4_,A5_,c5_,he,l4_,g4_,l5_,g5_⟩:=k43_open (h W' hW);injection (oi_ (show some (Value.slice A4 x.f4.length c4)=some (Value.slice A4_ x.f4.length c4_) from congrArg (fun l=>l[4]?) he)) with ha_ _ _;rw [ha_];exact g4_),l5,(fun W' hW=>by obtain ⟨A4_,c4_,A5_,c5_,he,l4_,g4_,l5_,g5_⟩:=k43_open (h W' hW);injection (oi_ (show some (Value.slice A5 x.f5.length c5)=some (Value.slice A5_ x.f5.length c5_) from congrArg (fun l=>l[5]?) he)) with ha_ _ _;rw [ha_];exact g5_)⟩
theorem k43_mkF (W:World) (ok:Nat→Prop) (x:S43) {A4:Option Addr} {c4:Nat} (l4:x.f4.length≤c4) (g4:Kd.F k67 W ok A4 x.f4.length x.f4) {A5:Option Addr} {c5:Nat} (l5:x.f5.length≤c5) (g5:Kd.F k43 W ok A5 x.f5.length x.f5):Kd.FK k43 W ok x [.int .i64 x.f0,.int .i64 x.f1,.string x.f2,.string x.f3,.slice A4 x.f4.length c4,.slice A5 x.f5.length c5]:=fun W2 hW=>k43_mk W2 x l4 (g4 W2 hW) l5 (g5 W2 hW)
def rd_T43 (xs:List S43) (i:Int):S43:=xs.getD i.toNat z43
theorem at_T43 {w:World} {A:Option Addr} {n:Nat} {xs:List S43} (h:Kd.C k43 w A n xs) (i:Int) (h0:0≤i) (h1:i<n):∃ ad A4 c4 A5 c5,A=some ad∧w.cell? (ad.add (i.toNat * 6))=some (.int .i64 (rd_T43 xs i).f0)∧w.cell? ⟨(ad.add (i.toNat * 6)).block,(ad.add (i.toNat * 6)).off+1,none⟩=some (.int .i64 (rd_T43 xs i).f1)∧w.cell? ⟨(ad.add (i.toNat * 6)).block,(ad.add (i.toNat * 6)).off+2,none⟩=some (.string (rd_T43 xs i).f2)∧w.cell? ⟨(ad.add (i.toNat * 6)).block,(ad.add (i.toNat * 6)).off+3,none⟩=some (.string (rd_T43 xs i).f3)∧w.cell? ⟨(ad.add (i.toNat * 6)).block,(ad.add (i.toNat * 6)).off+4,none⟩=some (.slice A4 (rd_T43 xs i).f4.length c4)∧w.cell? ⟨(ad.add (i.toNat * 6)).block,(ad.add (i.toNat * 6)).off+5,none⟩=some (.slice A5 (rd_T43 xs i).f5.length c5)∧(rd_T43 xs i).f4.length≤c4∧k67.C w A4 (rd_T43 xs i).f4.length (rd_T43 xs i).f4∧(rd_T43 xs i).f5.length≤c5∧k43.C w A5 (rd_T43 xs i).f5.length (rd_T43 xs i).f5:=by
 obtain ⟨ad,c,e,_,hK,hc0⟩:=Kd.C_get h z43 i h0 h1
 have hc:∀ j u,c[j]? = some u→w.cell? (ad.add (i.toNat * 6+j))=some u:=hc0
 obtain ⟨A4,c4,A5,c5,rfl,l4,g4,l5,g5⟩:=k43_open hK
 exact ⟨ad,A4,c4,A5,c5,e,hc 0 _ rfl,by rw [←add_field _ _ 1 (by omega)];exact hc 1 _ rfl,by rw [←add_field _ _ 2 (by omega)];exact hc 2 _ rfl,by rw [←add_field _ _ 3 (by omega)];exact hc 3 _ rfl,by rw [←add_field _ _ 4 (by omega)];exact hc 4 _ rfl,by rw [←add_field _ _ 5 (by omega)];exact hc 5 _ rfl,l4,g4,l5,g5⟩
/-! #### struct type 63 -/
structure S63 where
 f0:ByteArray
 f1:ByteArray
def z63:S63:=⟨(⟨#[]⟩:ByteArray),(⟨#[]⟩:ByteArray)⟩
def k63:Kd S63:=Kd.iso (Kd.pair Kd.string Kd.string) (fun x:S63=>(x.f0,x.f1))
theorem k63_open {w:World} {x:S63} {cs:List Value} (h:k63.K w x cs):cs=[.string x.f0,.string x.f1]:=by
 obtain ⟨_,_,rfl,rfl,rfl⟩:=h
 exact rfl
theorem k63_openM {w:World} {base:Nat} {ok:Nat→Prop} {x:S63} {cs:List Value} (h:k63.M w base ok x cs):cs=[.string x.f0,.string x.f1]:=by
 obtain ⟨_,_,rfl,rfl,rfl⟩:=h
 exact rfl
theorem k63_mk (w:World) (x:S63)  : k63.K w x [.string x.f0,.string x.f1]:=⟨[.string x.f0],[.string x.f1],rfl,rfl,rfl⟩
theorem k63_mkM (w:World) (base:Nat) (ok:Nat→Prop) (x:S63)  : k63.M w base ok x [.string x.f0,.string x.f1]:=⟨[.string x.f0],[.string x.f1],rfl,rfl,rfl⟩
theorem k63_mkF (W:World) (ok:Nat→Prop) (x:S63):Kd.FK k63 W ok x [.string x.f0,.string x.f1]:=fun W2 _=>k63_mk W2 x
def rd_T63 (xs:List S63) (i:Int):S63:=xs.getD i.toNat z63
theorem at_T63 {w:World} {A:Option Addr} {n:Nat} {xs:List S63} (h:Kd.C k63 w A n xs) (i:Int) (h0:0≤i) (h1:i<n):∃ ad,A=some ad∧w.cell? (ad.add (i.toNat * 2))=some (.string (rd_T63 xs i).f0)∧w.cell? ⟨(ad.add (i.toNat * 2)).block,(ad.add (i.toNat * 2)).off+1,none⟩=some (.string (rd_T63 xs i).f1):=by
 obtain ⟨ad,c,e,_,hK,hc0⟩:=Kd.C_get h z63 i h0 h1
 have hc:∀ j u,c[j]? = some u→w.cell? (ad.add (i.toNat * 2+j))=some u:=hc0
 obtain rfl:=k63_open hK
 exact ⟨ad,e,hc 0 _ rfl,by rw [←add_field _ _ 1 (by omega)];exact hc 1 _ rfl⟩
def rd_L6 (xs:List (List S63)) (i:Int):(List S63):=xs.getD i.toNat ([]:List S63)
theorem at_L6 {w:World} {A:Option Addr} {n:Nat} {xs:List (List S63)} (h:Kd.C (Kd.slice 63 k63) w A n xs) (i:Int) (h0:0≤i) (h1:i<n):∃ ad A0 c0,A=some ad∧w.cell? (ad.add i.toNat)=some (.slice A0 (rd_L6 xs i).length c0)∧(rd_L6 xs i).length≤c0∧k63.C w A0 (rd_L6 xs i).length (rd_L6 xs i):=by
 obtain ⟨ad,c,e,_,hK,hc0⟩:=Kd.C_get h ([]:List S63) i h0 h1
 have hc:∀ j u,c[j]? = some u→w.cell? (ad.add (i.toNat * 1+j))=some u:=hc0
 obtain ⟨A0,c0,rfl,l0,g0⟩:=hK
 exact ⟨ad,A0,c0,e,by have hq:=hc 0 _ rfl;rwa [Nat.mul_one,Nat.add_zero] at hq,l0,g0⟩
/-! #### struct type 28, nested in itself -/
structure S28 where
 f0:Int
 f1:Int
 f2:ByteArray
 f3:ByteArray
 f4:(List S63)
 f5:(List S28)
def z28:S28:=⟨(0:Int),(0:Int),(⟨#[]⟩:ByteArray),(⟨#[]⟩:ByteArray),([]:List S63),([]:List S28)⟩
def F28 (d:Kd S28):Kd S28:=Kd.iso (Kd.pair (Kd.int .i64) (Kd.pair (Kd.int .i64) (Kd.pair Kd.string (Kd.pair Kd.string (Kd.pair (Kd.slice 63 k63) (Kd.slice 28 d)))))) (fun x:S28=>(x.f0,x.f1,x.f2,x.f3,x.f4,x.f5))
theorem mono28:Kd.Mono F28:=Kd.mono_iso _ (Kd.mono_pair (Kd.mono_const _) (Kd.mono_pair (Kd.mono_const _) (Kd.mono_pair (Kd.mono_const _) (Kd.mono_pair (Kd.mono_const _) (Kd.mono_pair (Kd.mono_const _) (Kd.mono_slice 28 Kd.mono_id))))))
theorem sub28:Kd.Sub F28 [28,63]:=Kd.sub_iso _ (Kd.sub_pair (Kd.sub_const _ (by decide)) (Kd.sub_pair (Kd.sub_const _ (by decide)) (Kd.sub_pair (Kd.sub_const _ (by decide)) (Kd.sub_pair (Kd.sub_const _ (by decide)) (Kd.sub_pair (Kd.sub_const _ (by decide)) (Kd.sub_slice 28 (by decide) Kd.sub_id))))))
theorem sz28:∀ n,(Kd.upto F28 6 [28,63] n).sz=6:=Kd.upto_sz (fun _=>rfl)
def k28:Kd S28:=Kd.fix F28 6 [28,63] sz28 (Kd.upto_E sub28)
theorem k28_open {w:World} {x:S28} {cs:List Value} (h:k28.K w x cs):∃ A4 c4 A5 c5,cs=[.int .i64 x.f0,.int .i64 x.f1,.string x.f2,.string x.f3,.slice A4 x.f4.length c4,.slice A5 x.f5.length c5]∧x.f4.length≤c4∧k63.C w A4 x.f4.length x.f4∧x.f5.length≤c5∧k28.C w A5 x.f5.length x.f5:=by
 obtain ⟨n,h⟩:=h
 cases n with
 | zero=>exact h.elim
 | succ n =>
  obtain ⟨_,_,rfl,rfl,⟨_,_,rfl,rfl,⟨_,_,rfl,rfl,⟨_,_,rfl,rfl,⟨_,_,rfl,⟨A4,c4,rfl,l4,g4⟩,⟨A5,c5,rfl,l5,g5⟩⟩⟩⟩⟩⟩:=h
  exact ⟨A4,c4,A5,c5,rfl,l4,g4,l5,Kd.fix_C g5⟩
theorem k28_openM {w:World} {base:Nat} {ok:Nat→Prop} {x:S28} {cs:List Value} (h:k28.M w base ok x cs):∃ v4 v5,cs=[.int .i64 x.f0,.int .i64 x.f1,.string x.f2,.string x.f3,v4,v5]∧k63.R 63 w base ok v4 x.f4∧k28.R 28 w base ok v5 x.f5:=by
 obtain ⟨n,h⟩:=h
 cases n with
 | zero=>exact h.elim
 | succ n =>
  obtain ⟨_,_,rfl,rfl,⟨_,_,rfl,rfl,⟨_,_,rfl,rfl,⟨_,_,rfl,rfl,⟨_,_,rfl,⟨v4,rfl,g4⟩,⟨v5,rfl,g5⟩⟩⟩⟩⟩⟩:=h
  exact ⟨v4,v5,rfl,g4,Kd.fix_R g5⟩
theorem k28_mk (w:World) (x:S28) {A4:Option Addr} {c4:Nat} (l4:x.f4.length≤c4) (g4:k63.C w A4 x.f4.length x.f4) {A5:Option Addr} {c5:Nat} (l5:x.f5.length≤c5) (g5:k28.C w A5 x.f5.length x.f5):k28.K w x [.int .i64 x.f0,.int .i64 x.f1,.string x.f2,.string x.f3,.slice A4 x.f4.length c4,.slice A5 x.f5.length c5]:=by
 obtain ⟨n5,q5⟩:=Kd.fix_C_back mono28 g5
 have r5:=Kd.upto_C_le mono28 sz28 (show n5≤n5 by omega) q5
 exact ⟨n5+1,⟨[.int .i64 x.f0],[.int .i64 x.f1,.string x.f2,.string x.f3,.slice A4 x.f4.length c4,.slice A5 x.f5.length c5],rfl,rfl,⟨[.int .i64 x.f1],[.string x.f2,.string x.f3,.slice A4 x.f4.length c4,.slice A5 x.f5.length c5],rfl,rfl,⟨[.string x.f2],[.string x.f3,.slice A4 x.f4.length c4,.slice A5 x.f5.length c5],rfl,rfl,⟨[.string x.f3],[.slice A4 x.f4.length c4,.slice A5 x.f5.length c5],rfl,rfl,⟨[.slice A4 x.f4.length c4],[.slice A5 x.f5.length c5],rfl,⟨A4,c4,rfl,l4,g4⟩,⟨A5,c5,rfl,l5,r5⟩⟩⟩⟩⟩⟩⟩
theorem k28_mkM (w:World) (base:Nat) (ok:Nat→Prop) (x:S28) {v4:Value} (g4:k63.R 63 w base ok v4 x.f4) {v5:Value} (g5:k28.R 28 w base ok v5 x.f5):k28.M w base ok x [.int .i64 x.f0,.int .i64 x.f1,.string x.f2,.string x.f3,v4,v5]:=by
 obtain ⟨n5,q5⟩:=Kd.fix_R_back mono28 g5
 have r5:=Kd.upto_R_le mono28 sz28 (show n5≤n5 by omega) q5
 exact ⟨n5+1,⟨[.int .i64 x.f0],[.int .i64 x.f1,.string x.f2,.string x.f3,v4,v5],rfl,rfl,⟨[.int .i64 x.f1],[.string x.f2,.string x.f3,v4,v5],rfl,rfl,⟨[.string x.f2],[.string x.f3,v4,v5],rfl,rfl,⟨[.string x.f3],[v4,v5],rfl,rfl,⟨[v4],[v5],rfl,⟨v4,rfl,g4⟩,⟨v5,rfl,r5⟩⟩⟩⟩⟩⟩⟩
theorem k28_openF {W:World} {ok:Nat→Prop} {x:S28} {cs:List Value} (h:Kd.FK k28 W ok x cs):∃ A4 c4 A5 c5,cs=[.int .i64 x.f0,.int .i64 x.f1,.string x.f2,.string x.f3,.slice A4 x.f4.length c4,.slice A5 x.f5.length c5]∧x.f4.length≤c4∧Kd.F k63 W ok A4 x.f4.length x.f4∧x.f5.length≤c5∧Kd.F k28 W ok A5 x.f5.length x.f5:=by
 obtain ⟨A4,c4,A5,c5,rfl,l4,_,l5,_⟩:=k28_open (Kd.FK_now h)
 exact ⟨A4,c4,A5,c5,rfl,l4,(fun W' hW=>by obtain ⟨A4_,c4_,A5_,c5_,he,l4_,g4_,l5_,g5_⟩:=k28_open (h W' hW);injection (oi_ (show some (Value.slice A4 x.f4.length c4)=some (Value.slice A4_ x.f4.length c4_) from congrArg (fun l=>l[4]?) he)) with ha_ _ _;rw [ha_];exact g4_),l5,(fun W' hW=>by obtain ⟨A4_,c4_,A5_,c5_,he,l4_,g4_,l5_,g5_⟩:=k28_open (h W' hW);injection (oi_ (show some (Value.slice A5 x.f5.length c5)=some (Value.slice A5_ x.f5.length c5_) from congrArg (fun l=>l[5]?) he)) with ha_ _ _;rw [ha_];exact g5_)⟩
theorem k28_mkF (W:World) (ok:Nat→Prop) (x:S28) {A4:Option Addr} {c4:Nat} (l4:x.f4.length≤c4) (g4:Kd.F k63 W ok A4 x.f4.length x.f4) {A5:Option Addr} {c5:Nat} (l5:x.f5.length≤c5) (g5:Kd.F k28 W ok A5 x.f5.length x.f5):Kd.FK k28 W ok x [.int .i64 x.f0,.int .i64 x.f1,.string x.f2,.string x.f3,.slice A4 x.f4.length c4,.slice A5 x.f5.length c5]:=fun W2 hW=>k28_mk W2 x l4 (g4 W2 hW) l5 (g5 W2 hW)
def rd_T28 (xs:List S28) (i:Int):S28:=xs.getD i.toNat z28
theorem at_T28 {w:World} {A:Option Addr} {n:Nat} {xs:List S28} (h:Kd.C k28 w A n xs) (i:Int) (h0:0≤i) (h1:i<n):∃ ad A4 c4 A5 c5,A=some ad∧w.cell? (ad.add (i.toNat * 6))=some (.int .i64 (rd_T28 xs i).f0)∧w.cell? ⟨(ad.add (i.toNat * 6)).block,(ad.add (i.toNat * 6)).off+1,none⟩=some (.int .i64 (rd_T28 xs i).f1)∧w.cell? ⟨(ad.add (i.toNat * 6)).block,(ad.add (i.toNat * 6)).off+2,none⟩=some (.string (rd_T28 xs i).f2)∧w.cell? ⟨(ad.add (i.toNat * 6)).block,(ad.add (i.toNat * 6)).off+3,none⟩=some (.string (rd_T28 xs i).f3)∧w.cell? ⟨(ad.add (i.toNat * 6)).block,(ad.add (i.toNat * 6)).off+4,none⟩=some (.slice A4 (rd_T28 xs i).f4.length c4)∧w.cell? ⟨(ad.add (i.toNat * 6)).block,(ad.add (i.toNat * 6)).off+5,none⟩=some (.slice A5 (rd_T28 xs i).f5.length c5)∧(rd_T28 xs i).f4.length≤c4∧k63.C w A4 (rd_T28 xs i).f4.length (rd_T28 xs i).f4∧(rd_T28 xs i).f5.length≤c5∧k28.C w A5 (rd_T28 xs i).f5.length (rd_T28 xs i).f5:=by
 obtain ⟨ad,c,e,_,hK,hc0⟩:=Kd.C_get h z28 i h0 h1
 have hc:∀ j u,c[j]? = some u→w.cell? (ad.add (i.toNat * 6+j))=some u:=hc0
 obtain ⟨A4,c4,A5,c5,rfl,l4,g4,l5,g5⟩:=k28_open hK
 exact ⟨ad,A4,c4,A5,c5,e,hc 0 _ rfl,by rw [←add_field _ _ 1 (by omega)];exact hc 1 _ rfl,by rw [←add_field _ _ 2 (by omega)];exact hc 2 _ rfl,by rw [←add_field _ _ 3 (by omega)];exact hc 3 _ rfl,by rw [←add_field _ _ 4 (by omega)];exact hc 4 _ rfl,by rw [←add_field _ _ 5 (by omega)];exact hc 5 _ rfl,l4,g4,l5,g5⟩
def rd_L9 (xs:List (List S28)) (i:Int):(List S28):=xs.getD i.toNat ([]:List S28)
theorem at_L9 {w:World} {A:Option Addr} {n:Nat} {xs:List (List S28)} (h:Kd.C (Kd.slice 28 k28) w A n xs) (i:Int) (h0:0≤i) (h1:i<n):∃ ad A0 c0,A=some ad∧w.cell? (ad.add i.toNat)=some (.slice A0 (rd_L9 xs i).length c0)∧(rd_L9 xs i).length≤c0∧k28.C w A0 (rd_L9 xs i).length (rd_L9 xs i):=by
 obtain ⟨ad,c,e,_,hK,hc0⟩:=Kd.C_get h ([]:List S28) i h0 h1
 have hc:∀ j u,c[j]? = some u→w.cell? (ad.add (i.toNat * 1+j))=some u:=hc0
 obtain ⟨A0,c0,rfl,l0,g0⟩:=hK
 exact ⟨ad,A0,c0,e,by have hq:=hc 0 _ rfl;rwa [Nat.mul_one,Nat.add_zero] at hq,l0,g0⟩
def rd_L11 (xs:List (List S43)) (i:Int):(List S43):=xs.getD i.toNat ([]:List S43)
theorem at_L11 {w:World} {A:Option Addr} {n:Nat} {xs:List (List S43)} (h:Kd.C (Kd.slice 43 k43) w A n xs) (i:Int) (h0:0≤i) (h1:i<n):∃ ad A0 c0,A=some ad∧w.cell? (ad.add i.toNat)=some (.slice A0 (rd_L11 xs i).length c0)∧(rd_L11 xs i).length≤c0∧k43.C w A0 (rd_L11 xs i).length (rd_L11 xs i):=by
 obtain ⟨ad,c,e,_,hK,hc0⟩:=Kd.C_get h ([]:List S43) i h0 h1
 have hc:∀ j u,c[j]? = some u→w.cell? (ad.add (i.toNat * 1+j))=some u:=hc0
 obtain ⟨A0,c0,rfl,l0,g0⟩:=hK
 exact ⟨ad,A0,c0,e,by have hq:=hc 0 _ rfl;rwa [Nat.mul_one,Nat.add_zero] at hq,l0,g0⟩
def rd_L12 (xs:List (List Int)) (i:Int):(List Int):=xs.getD i.toNat ([]:List Int)
theorem at_L12 {w:World} {A:Option Addr} {n:Nat} {xs:List (List Int)} (h:Kd.C (Kd.slice 3 (Kd.int .i64)) w A n xs) (i:Int) (h0:0≤i) (h1:i<n):∃ ad A0 c0,A=some ad∧w.cell? (ad.add i.toNat)=some (.slice A0 (rd_L12 xs i).length c0)∧(rd_L12 xs i).length≤c0∧(Kd.int .i64).C w A0 (rd_L12 xs i).length (rd_L12 xs i):=by
 obtain ⟨ad,c,e,_,hK,hc0⟩:=Kd.C_get h ([]:List Int) i h0 h1
 have hc:∀ j u,c[j]? = some u→w.cell? (ad.add (i.toNat * 1+j))=some u:=hc0
 obtain ⟨A0,c0,rfl,l0,g0⟩:=hK
 exact ⟨ad,A0,c0,e,by have hq:=hc 0 _ rfl;rwa [Nat.mul_one,Nat.add_zero] at hq,l0,g0⟩
/-! #### trees of one's own, all of whose rows lie apart -/
def FT (d:Kd S28):Kd S28:=Kd.iso (Kd.pair (Kd.int .i64) (Kd.pair (Kd.int .i64) (Kd.pair Kd.string (Kd.pair Kd.string (Sep.apart (Kd.slice 63 k63) (Sep.sliceS 28 d)))))) (fun x:S28=>(x.f0,x.f1,x.f2,x.f3,x.f4,x.f5))
theorem monoT:Kd.Mono FT:=Kd.mono_iso _ (Kd.mono_pair (Kd.mono_const _) (Kd.mono_pair (Kd.mono_const _) (Kd.mono_pair (Kd.mono_const _) (Kd.mono_pair (Kd.mono_const _) (Sep.mono_apart (Kd.mono_const _) (Sep.mono_sliceS 28 Kd.mono_id))))))
theorem subT:Kd.Sub FT [28,63]:=Kd.sub_iso _ (Kd.sub_pair (Kd.sub_const _ (by decide)) (Kd.sub_pair (Kd.sub_const _ (by decide)) (Kd.sub_pair (Kd.sub_const _ (by decide)) (Kd.sub_pair (Kd.sub_const _ (by decide)) (Sep.sub_apart (Kd.sub_const _ (by decide)) (Sep.sub_sliceS 28 (by decide) Kd.sub_id))))))
theorem szT:∀ n,(Kd.upto FT 6 [28,63] n).sz=6:=Kd.upto_sz (fun _=>rfl)
def kTN:Kd S28:=Kd.fix FT 6 [28,63] szT (Kd.upto_E subT)
theorem uptoT_K:∀ (n:Nat) (w:World) (x:S28) (cs:List Value),(Kd.upto FT 6 [28,63] n).K w x cs→k28.K w x cs
 | 0,_,_,_,h=>h.elim
 | n+1,w,x,cs,h=>by
  obtain ⟨_,_,rfl,rfl,⟨_,_,rfl,rfl,⟨_,_,rfl,rfl,⟨_,_,rfl,rfl,⟨_,_,rfl,⟨A4,c4,rfl,l4,g4⟩,⟨A5,c5,rfl,l5,g5⟩⟩⟩⟩⟩⟩:=h
  exact k28_mk w x l4 g4 l5 (Kd.C_imp (d':=k28) (szT n) (uptoT_K n) g5)
theorem kTN_C {w:World} {A:Option Addr} {n:Nat} {xs:List S28} (h:Kd.C kTN w A n xs):Kd.C k28 w A n xs :=
 Kd.C_imp (d:=kTN) (d':=k28) rfl (fun w x cs hk=>by obtain ⟨n,hk⟩:=hk;exact uptoT_K n w x cs hk) h
theorem kTN_openM {w:World} {base:Nat} {ok:Nat→Prop} {x:S28} {cs:List Value} (h:kTN.M w base ok x cs):∃ v4 v5,∃ p:Nat→Prop,cs=[.int .i64 x.f0,.int .i64 x.f1,.string x.f2,.string x.f3,v4,v5]∧Kd.R k63 63 w base (fun k=>ok k∧p k) v4 x.f4∧Kd.S kTN 28 w base (fun k=>ok k∧¬ p k) v5 x.f5:=by
 obtain ⟨n,h⟩:=h
 cases n with
 | zero=>exact h.elim
 | succ n =>
  obtain ⟨_,_,rfl,rfl,⟨_,_,rfl,rfl,⟨_,_,rfl,rfl,⟨_,_,rfl,rfl,⟨_,_,p,rfl,⟨v4,rfl,g4⟩,⟨v5,rfl,g5⟩⟩⟩⟩⟩⟩:=h
  exact ⟨v4,v5,p,rfl,g4,Sep.fix_S g5⟩
theorem kTN_mkM (w:World) (base:Nat) (ok p:Nat→Prop) (x:S28) {v4:Value} (g4:Kd.R k63 63 w base (fun k=>ok k∧p k) v4 x.f4) {v5:Value} (g5:Kd.S kTN 28 w base (fun k=>ok k∧¬ p k) v5 x.f5):kTN.M w base ok x [.int .i64 x.f0,.int .i64 x.f1,.string x.f2,.string x.f3,v4,v5]:=by
 obtain ⟨n,q⟩:=Sep.fix_S_back monoT g5
 exact ⟨n+1,⟨[.int .i64 x.f0],[.int .i64 x.f1,.string x.f2,.string x.f3,v4,v5],rfl,rfl,⟨[.int .i64 x.f1],[.string x.f2,.string x.f3,v4,v5],rfl,rfl,⟨[.string x.f2],[.string x.f3,v4,v5],rfl,rfl,⟨[.string x.f3],[v4,v5],rfl,rfl,⟨[v4],[v5],p,rfl,⟨v4,rfl,g4⟩,⟨v5,rfl,q⟩⟩⟩⟩⟩⟩⟩
/-- A tree of one's own is one that is read. -/
theorem S_readsT {w:World} {base n c:Nat} {ok:Nat→Prop} {A:Option Addr} {xs:List S28} (h:Kd.S kTN 28 w base ok (.slice A n c) xs):n=xs.length∧n≤c∧Kd.C k28 w A xs.length xs :=
 ⟨(Kd.S_reads' h).1,(Kd.S_reads' h).2.1,kTN_C (Kd.S_reads' h).2.2⟩
end Go.Proofs.Ytjhfempockbdoaa.PFnExactNodeAt
