/- strings.Builder at this dump: a builder's first and later writes of a text. No conditions. -/
import Derived.Shelf.Strings.BuilderK
import Derived.Test.YtlpncjeahdfolaaGreatDoorProg
import Derived.Test.YtlpncjeahdfolaaGreatDoorMach
import Derived.Test.YtlpncjeahdfolaaGreatDoorShelf
namespace Go.Proofs.YtlpncjeahdfolaaGreatDoor.Bld
open Go.RowKit Go.Shelf Go.Proofs.YtlpncjeahdfolaaGreatDoorW.PrintWords
attribute [local go_sem] Oper.upon_value
theorem heap_cell {w:World} {b:Nat} {cs:Array Value} {t:TypeId} {fz:Nat × Nat} (h:w.heap[b]? = some (.cells cs t fz)) (i:Nat):w.cell? ⟨b,i,none⟩=cs[i]?:=by simp [World.cell?,h]
set_option maxHeartbeats 1000000 in
set_option maxRecDepth 100000 in
theorem check_new (b:Nat) (v:Value) (w:World) (h:w.heap[b]? = some (.cells #[.pointer none,v] 50 (0,0))) :
 Calls Tryz.prog 37 #[.pointer (some ⟨b,0,none⟩)] w fun e w'=>e=.returned (.tuple #[])∧w'=w.setCell ⟨b,0,none⟩ (.pointer (some ⟨b,0,none⟩)):=by
 obtain ⟨j,hj,hjs⟩:=Option.map_eq_some_iff.1 Tryz.Builder_Extra_169.sizeBuilder
 have hj:Tryz.prog.info? 50=some j:=hj
 have c0:w.cell? ⟨b,0,none⟩=some (.pointer none):=(heap_cell h 0).trans rfl
 have f0:w.frozen? ⟨b,0,none⟩=false:=Lib.frozen_of_heap h 0
 have hsh:w.shape? b=some (50,2):=by simp [World.shape?,h]
 have hu:=Tryz.underlying50
 have hu2:=Tryz.underlying47
 have k1:(convert 47 74 (.pointer (some ⟨b,0,none⟩))).run Tryz.prog w=.ok (.pointer (some ⟨b,0,none⟩)) w:=Lib.run_to_unsafe w ⟨b,0,none⟩ Tryz.underlying47 Tryz.underlying74 hj (by rw [hjs];decide) hsh (Nat.zero_lt_succ 1)
 have k2:(convert 74 47 (.pointer (some ⟨b,0,none⟩))).run Tryz.prog w=.ok (.pointer (some ⟨b,0,none⟩)) w:=Lib.run_from_unsafe w ⟨b,0,none⟩ Tryz.underlying74 Tryz.underlying47 hj hsh Tryz.Builder_Extra_169.liesBuilder
 have k3:(callFunc 48 #[.pointer (some ⟨b,0,none⟩)]).run Tryz.prog w=.ok (.value (.pointer (some ⟨b,0,none⟩))) w:=by
  rw [run_callFunc_extern Tryz.func48 (by kernel_rfl) (by kernel_rfl) (by kernel_rfl) (e:=Extern.AbiNoEscape.same) (by kernel_rfl),Lib.run_noEscape]
  rfl
 clear h
 go_enter Tryz.func37,Tryz.ntmps37
 go_wp2
 go_end0
 exact ⟨rfl,rfl⟩
set_option maxHeartbeats 1000000 in
set_option maxRecDepth 100000 in
theorem check_old (b:Nat) (v:Value) (w:World) (h:w.heap[b]? = some (.cells #[.pointer (some ⟨b,0,none⟩),v] 50 (0,0))) :
 Calls Tryz.prog 37 #[.pointer (some ⟨b,0,none⟩)] w fun e w'=>e=.returned (.tuple #[])∧w'=w:=by
 obtain ⟨j,hj,hjs⟩:=Option.map_eq_some_iff.1 Tryz.Builder_Extra_169.sizeBuilder
 have hj:Tryz.prog.info? 50=some j:=hj
 have c0:w.cell? ⟨b,0,none⟩=some (.pointer (some ⟨b,0,none⟩)):=(heap_cell h 0).trans rfl
 have hu:=Tryz.underlying50
 have hu2:=Tryz.underlying47
 have k1:(binOp .neq 47 (.pointer (some ⟨b,0,none⟩)) (.pointer (some ⟨b,0,none⟩))).run Tryz.prog w=.ok (.bool false) w:=Lib.run_neq_ptr_same w _ Tryz.underlying47 hj
 clear h
 go_enter Tryz.func37,Tryz.ntmps37
 go_wp2
 go_end0
 exact ⟨rfl,rfl⟩
/-- copyCheck, of a builder in whatever state: it is used behind it. -/
theorem check_any (B b:Nat) (bs:List Value) (w:World) (h:Lib.IsBuilderF 50 5 B b bs w) :
 Calls Tryz.prog 37 #[.pointer (some ⟨b,0,none⟩)] w fun e w'=>e=.returned (.tuple #[])∧Lib.BuilderAtF 50 5 B b (.pointer (some ⟨b,0,none⟩)) bs w'∧Below B w w'∧Lib.OthersKept 5 (some b) w w':=by
 rcases h with h|h
 ·have hb:=h.1
  obtain ⟨_,v,hk,_⟩:=id h
  exact (check_new b v w hk).mono fun e w' ⟨he,hw⟩=>by subst hw;exact ⟨he,h.used _,(Below.refl B w).setCell (p:=⟨b,0,none⟩) hb _,(Lib.OthersKept.refl _ _ w).setCell ⟨b,0,none⟩ rfl _⟩
 ·obtain ⟨_,v,hk,_⟩:=id h
  exact (check_old b v w hk).mono fun e w' ⟨he,hw⟩=>by subst hw;exact ⟨he,h,Below.refl B _,Lib.OthersKept.refl _ _ _⟩
theorem at_parts {B b:Nat} {p:Value} {bs:List Value} {w:World} (h:Lib.BuilderAtF 50 5 B b p bs w):∃ v,(w.heap[b]? = some (.cells #[p,v] 50 (0,0))∧w.ownsRowF B 5 1 v bs.length bs∧v.ownBlock≠some b)∧w.cell? ⟨b,1,none⟩=some v:=by
 obtain ⟨_,v,hk,ho,hne⟩:=h
 exact ⟨v,⟨hk,ho,hne⟩,(heap_cell hk 1).trans rfl⟩
theorem own_form {w:World} {B:Nat} {e:TypeId} {v:Value} {n:Nat} {xs:List Value} (h:w.ownsRowF B e 1 v n xs):∃ a m c,v=.slice a m c :=
 h.2.elim (fun h=>⟨_,_,_,h.1⟩) (fun ⟨_,_,_,_,h,_⟩=>⟨_,_,_,h⟩)
set_option maxHeartbeats 2000000 in
set_option maxRecDepth 100000 in
/-- WriteString: the text's bytes are put behind what there is. -/
theorem write_text (B b:Nat) (bs:List Value) (s:ByteArray) (w:World) (h:Lib.IsBuilderF 50 5 B b bs w) (hlen:bs.length+s.size≤140737488355328) (hBw:B≤w.heap.size) :
 Calls Tryz.prog 24 #[.pointer (some ⟨b,0,none⟩),.string s] w fun e w'=>e=.returned (.tuple #[.int .i64 s.size,.nilIface])∧Lib.IsBuilderF 50 5 B b (bs++Lib.strCells s) w'∧Below B w w'∧Lib.OthersKept 5 (some b) w w':=by
 obtain ⟨i0,hi,hz0,hz1,hz2⟩:=info_parts Tryz.Builder_Extra_169.infoByte
 have HI:Aside0 (Tryz.prog.info? 5=some i0):=⟨hi⟩
 have hu:=Tryz.underlying50
 have Q:=Aside0.mk (check_any B b bs w h)
 clear h hi
 go_enter Tryz.func24,Tryz.ntmps24
 go_wp2_with (first|(go_at_call 37;(with_reducible refine Q.out.mono ?_);rintro e w1 ⟨rfl,hat,hb1,hk1⟩;obtain ⟨v,hv,c1⟩:=at_parts hat;have HB0:=Aside0.mk hat.1;have HV:=Aside0.mk hv;have HB1:=Aside0.mk hb1;have HK1:=Aside0.mk hk1;clear hv hat hb1 hk1)|(at_builtin;refine Lib.wpList_append_own_stringF _ rfl _ _ 48 9 rfl B 5 i0 Tryz.underlying48 Tryz.underlying9 HI.out hz0 hz1 hz2 _ _ _ rfl HV.out.2.1 s rfl ?c3 ?c4 ?c5 ?_;(case c3=>unfold maxLen;omega);(case c4=>omega);(case c5=>have:=HB1.out.size;omega);intro v' w2 hown' hgrow _;have hb2:=(hgrow.block b (blk_lt HV.out.1) (fun e=>HV.out.2.2 e.symm)).trans HV.out.1;have HB2:=Aside0.mk hb2;have f1:=Lib.frozen_of_heap hb2 1;have d1:w2.cell? ⟨b,1,none⟩=some v:=(heap_cell hb2 1).trans rfl;have HO2:=Aside0.mk hown';have HG2:=Aside0.mk hgrow;obtain ⟨ao,m9,c9,rfl⟩:=own_form hown';clear hown' hgrow hb2))
 go_ret2
 refine ⟨rfl,.inr ?_,?_,(HK1.out.grown HG2.out (Lib.ownsRowF_kind HV.out.2.1)).setCell ⟨b,1,none⟩ rfl _⟩
 ·exact Lib.BuilderAtF.put HB0.out HB2.out (by simpa [Lib.strCells_length] using HO2.out) (by decide)
 ·exact (HB1.out.grown HG2.out (by have:=HB1.out.size;omega) (fun k hk=>(HV.out.2.1.lt k hk).1)).setCell (p:=⟨b,1,none⟩) HB0.out _
end Go.Proofs.YtlpncjeahdfolaaGreatDoor.Bld
