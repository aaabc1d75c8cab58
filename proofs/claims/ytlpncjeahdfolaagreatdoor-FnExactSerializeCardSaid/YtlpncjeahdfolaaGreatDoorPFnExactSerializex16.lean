/- By a program of this session, out of the kit's print and contracts made by hand: the machine side of a law; Lean checks it. No conditions. -/
import Derived.Test.YtlpncjeahdfolaaGreatDoorPFnExactSerializex0
import Derived.Test.YtlpncjeahdfolaaGreatDoorPFnExactSerializex15
namespace Go.Proofs.YtlpncjeahdfolaaGreatDoor.PFnExactSerialize
open Go.RowKit Go.Proofs.YtlpncjeahdfolaaGreatDoorW.PrintWords Go.Proofs.YtlpncjeahdfolaaGreatDoorW.PrintLast Go.Proofs.YtlpncjeahdfolaaGreatDoorW.PrintMore
attribute [local go_sem] max2_int min2_int max_two min_two max_three min_three max_four min_four
set_option linter.unusedVariables false
set_option linter.unusedSimpArgs false
/-! ### impl_areAttrs: function 58, by hand -/
/-- The attribute at place i may be an element's, and none ahead of it has its name. -/
def nameAs (xs:List S63) (i:Nat):Nat→Bool:=fun j=>(xs.getD j z63).f0.toList == (xs.getD i z63).f0.toList
def attrAt (xs:List S63) (i:Nat):Bool:=isAttrB (xs.getD i z63) && !Mach.anyP (nameAs xs i) i
def attrsOK (xs:List S63):Bool:=Kit.allB (attrAt xs) 0 xs.length && decide (xs.length≤6)
def impl_areAttrs.f (l0:List S63):Option Bool:=if ∀ a∈l0,a.f0.size≤9223372036854775807 then some (attrsOK l0) else none
theorem impl_areAttrs.lit (b a:S63) (B:Nat) (w:World) (h0:w.cell? ⟨B,0,none⟩=some (.string a.f0)) (hB:B<w.heap.size):Calls Tryz.prog 71 #[.agg #[.string b.f0,.string b.f1],.pointer (some ⟨B,0,none⟩)] w fun e w'=>e=.returned (.bool (b.f0.toList == a.f0.toList))∧Below w.heap.size w w':=by
 have hne:B≠w.heap.size:=by omega
 go_enter Tryz.func71,Tryz.ntmps71
 go_wp2
 go_ret
 exact ⟨rfl,ba_ (Below.refl _ _) _⟩
theorem impl_areAttrs.any (A0:Option Addr) (c0:Nat) (l0:List S63) (kk:Nat) (hk:kk<l0.length) (B:Nat) (w:World) (hr0:Kd.C k63 w A0 l0.length l0) (h0:w.cell? ⟨B,0,none⟩=some (.string (l0.getD kk z63).f0)) (hB:B<w.heap.size) :
 Calls Tryz.prog 70 #[.slice A0 kk c0,.func (.func 71) #[] #[.pointer (some ⟨B,0,none⟩)]] w fun e w'=>e=.returned (.bool (Mach.anyP (nameAs l0 kk) kk))∧Below w.heap.size w w' :=
 ContainsFunc_Attr.holds A0 kk c0 (fun j=>[.string (l0.getD j z63).f0,.string (l0.getD j z63).f1]) (nameAs l0 kk) 71 #[.pointer (some ⟨B,0,none⟩)] (Mach.enters_of Tryz.func71 (by kernel_rfl) rfl) w
  (fun j hj W hb=>(impl_areAttrs.lit (l0.getD j z63) (l0.getD kk z63) B W (pc_ hb h0) (Nat.lt_of_lt_of_le hB hb.size)).mono fun e w' ⟨he,hb'⟩=>⟨he,hb.trans (hb'.mono hb.size)⟩) (by have:=hr0.2.1;omega)
  (fun j hj=>by
   obtain ⟨ad,c,e,hcl,hK,hc⟩:=Kd.C_get hr0 z63 (j:Int) (by omega) (by omega)
   rw [Int.toNat_natCast] at hK hc
   obtain rfl:=k63_open hK
   exact ⟨ad,e,rfl,hc⟩)
theorem attr_cut (A:Option Addr) (n c kk:Nat) (h:kk≤c) (W:World):(Instr.slice 36 (.slice A n c) none (some (.int .i64 kk)) none).run Tryz.prog W=.ok (.slice A kk c) W:=by
 obtain ⟨i0,hi,_,hz1,_⟩:=info_parts info63
 have hu:=Tryz.underlying36
 have hel:Tryz.prog.elem 36=63:=by simp [Program.elem,hu]
 have hu2:Tryz.prog.underlying 36=some (.slice (Tryz.prog.elem 36)):=by rw [hel];exact hu
 have ha:(A.map fun x=>x.add 0)=A:=by cases A <;> simp [Addr.add]
 rw [run_slice_h W 36 A n c hu2 .i64 (kk:Int) (by omega) (by omega),hel]
 simp [sizeOf,typeInfo,hi,hz1,sliced,Result.andThen,ha]
theorem impl_areAttrs.calls (A0:Option Addr) (c0:Nat) (l0:List S63) (r:Bool) (w:World) (hr0:Kd.C k63 w A0 l0.length l0) (hc0:l0.length≤c0) (h:impl_areAttrs.f l0=some r) :
 Calls Tryz.prog 58 #[.slice A0 l0.length c0] w fun e w'=>e=.returned (.bool r)∧Below w.heap.size w w':=by
 unfold impl_areAttrs.f at h
 obtain ⟨hsz,h⟩:=Option.ite_none_right_eq_some.mp h
 obtain rfl:=oi_ h
 have HS:=A_ hsz
 have hn:l0.length≤9223372036854775807:=hr0.2.1
 have HR:=A_ hr0
 have HC:=A_ hc0
 clear hr0 hc0 hsz
 go_enter Tryz.func58,Tryz.ntmps58
 go_wp2
 go_loopg [3,4,7] l0.length (fun gg _ _ s7 wr=>∃ kk:Nat,kk≤l0.length∧l0.length - kk≤gg∧s7=.int .i64 kk∧Aside0 (∀ j,j<kk→attrAt l0 j=true)∧Aside0 (Below w.heap.size w wr))
 case atStart=>exact ⟨0,Nat.zero_le _,by omega,rfl,⟨fun j hj=>absurd hj (Nat.not_lt_zero _)⟩,⟨Below.refl _ _⟩⟩
 case round =>
  obtain ⟨kk,hkk,hg,rfl,AA,BW⟩:=hrel
  by_cases hlt:kk<l0.length
  case pos =>
   have hltz:(kk:Int)<(l0.length:Int):=by omega
   have HRB:=A_ (cb_ HR.out BW.out)
   obtain ⟨ad,c,e,hcl,hK,hc⟩:=Kd.C_get HRB.out z63 (kk:Int) (by omega) (by omega)
   rw [Int.toNat_natCast] at hK hc
   obtain rfl:=k63_open hK
   subst e
   have hs:=HS.out (l0.getD kk z63) (by rw [List.getD_eq_getElem?_getD,List.getElem?_eq_getElem hlt];exact List.getElem_mem hlt)
   have hat:attrAt l0 kk=(isAttrB (l0.getD kk z63) && !Mach.anyP (nameAs l0 kk) kk):=rfl
   have m0:wr.cell? (ad.add (kk * 2))=some (.string (l0.getD kk z63).f0):=hc 0 _ rfl
   have m1:wr.cell? ⟨(ad.add (kk * 2)).block,(ad.add (kk * 2)).off+1,none⟩=some (.string (l0.getD kk z63).f1):=by rw [←add_field _ _ 1 (by omega)];exact hc 1 _ rfl
   have hcut:=attr_cut (some ad) l0.length c0 kk (by have:=HC.out;omega)
   have Q1:=A_ (impl_isAttr.pure (l0.getD kk z63) hs)
   have BW1:=A_ (ba_ BW.out (.cells #[.string (l0.getD kk z63).f0,.string (l0.getD kk z63).f1] 63))
   have Q2:Aside0 (∀ V,Below (wr.alloc (.cells #[.string (l0.getD kk z63).f0,.string (l0.getD kk z63).f1] 63)).heap.size (wr.alloc (.cells #[.string (l0.getD kk z63).f0,.string (l0.getD kk z63).f1] 63)) V→Calls Tryz.prog 70 #[.slice (some ad) kk c0,.func (.func 71) #[] #[.pointer (some ⟨wr.heap.size,0,none⟩)]] V fun e w'=>e=.returned (.bool (Mach.anyP (nameAs l0 kk) kk))∧Below V.heap.size V w'):=⟨fun V hV=>impl_areAttrs.any (some ad) c0 l0 kk hlt wr.heap.size V (cb_ (cb_ HRB.out (ba_ (Below.refl _ _) _)) hV) (pc_ hV (Mach.new_cell wr _ _ 0 _ rfl)) (Nat.lt_of_lt_of_le (by rw [World.size_alloc];omega) hV.size)⟩
   clear hc hK hcl hs
   generalize Mach.anyP (nameAs l0 kk) kk=b2 at *
   generalize l0.getD kk z63=a at *
   generalize isAttrB a=b1 at *
   cases b1 with
   | false =>
    rw [Bool.false_and] at hat
    have hall:attrsOK l0=false:=by
     unfold attrsOK
     rw [Bool.and_eq_false_iff]
     refine .inl (Bool.eq_false_iff.2 fun h=>?_)
     have:=(Kit.allB_iff _ _ _).1 h kk (Nat.zero_le _) hlt
     rw [hat] at this
     cases this
    have HALL:=A_ hall
    clear hall hat
    clear Q2
    go_wp2_with (go_at_call 69;(with_reducible refine (Q1.out _).mono ?_);rintro e w1 ⟨rfl,hb1⟩;have HB1:=A_ hb1;clear hb1)
    go_ret
    exact ⟨by rw [HALL.out];rfl,BW1.out.trans (HB1.out.mono BW1.out.size)⟩
   | true =>
    rw [Bool.true_and] at hat
    cases b2 with
    | true =>
     rw [Bool.not_true] at hat
     have hall:attrsOK l0=false:=by
      unfold attrsOK
      rw [Bool.and_eq_false_iff]
      refine .inl (Bool.eq_false_iff.2 fun h=>?_)
      have:=(Kit.allB_iff _ _ _).1 h kk (Nat.zero_le _) hlt
      rw [hat] at this
      cases this
     have HALL:=A_ hall
     clear hall hat
     go_wp2_with (first|(go_at_call 69;(with_reducible refine (Q1.out _).mono ?_);rintro e w1 ⟨rfl,hb1⟩;have HB1:=A_ hb1;clear hb1)|(go_at_call 70;(with_reducible refine (Q2.out _ HB1.out).mono ?_);rintro e w2 ⟨rfl,hb2⟩;have HB2:=A_ hb2;clear hb2))
     go_ret
     exact ⟨by rw [HALL.out];rfl,(BW1.out.trans (HB1.out.mono BW1.out.size)).trans (HB2.out.mono (BW1.out.trans (HB1.out.mono BW1.out.size)).size)⟩
    | false =>
     rw [Bool.not_false] at hat
     have HAT:=A_ hat
     clear hat
     go_wp2_with (first|(go_at_call 69;(with_reducible refine (Q1.out _).mono ?_);rintro e w1 ⟨rfl,hb1⟩;have HB1:=A_ hb1;clear hb1)|(go_at_call 70;(with_reducible refine (Q2.out _ HB1.out).mono ?_);rintro e w2 ⟨rfl,hb2⟩;have HB2:=A_ hb2;clear hb2))
     go_roundg (l0.length - (kk+1))
     case measure=>omega
     case rel =>
      refine ⟨kk+1,by omega,by omega,by go_num,⟨fun j hj=>?_⟩,⟨(BW1.out.trans (HB1.out.mono BW1.out.size)).trans (HB2.out.mono (BW1.out.trans (HB1.out.mono BW1.out.size)).size)⟩⟩
      by_cases e:j=kk
      ·subst e;exact HAT.out
      ·exact AA.out j (by omega)
  case neg =>
   have hltz:¬ (kk:Int)<(l0.length:Int):=by omega
   have hke:kk=l0.length:=by omega
   have hall:attrsOK l0=decide ((l0.length:Int)≤6):=by
    unfold attrsOK
    rw [(Kit.allB_iff _ _ _).2 fun j _ hj=>AA.out j (by omega),Bool.true_and,decide_eq_decide]
    omega
   have HALL:=A_ hall
   clear hall hke
   go_wp2
   go_ret
   exact ⟨by rw [HALL.out];rfl,BW.out⟩
end Go.Proofs.YtlpncjeahdfolaaGreatDoor.PFnExactSerialize
