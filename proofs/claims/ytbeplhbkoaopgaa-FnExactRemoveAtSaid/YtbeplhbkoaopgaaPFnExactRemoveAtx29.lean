/- By a program of this session, out of the kit's print and contracts made by hand: the machine side of a law; Lean checks it. No conditions. -/
import Derived.Test.YtbeplhbkoaopgaaPFnExactRemoveAtx0
import Derived.Test.YtbeplhbkoaopgaaPFnExactRemoveAtx2
import Derived.Test.YtbeplhbkoaopgaaPFnExactRemoveAtx3
import Derived.Test.YtbeplhbkoaopgaaPFnExactRemoveAtx4
import Derived.Test.YtbeplhbkoaopgaaPFnExactRemoveAtx6
import Derived.Test.YtbeplhbkoaopgaaPFnExactRemoveAtx7
import Derived.Test.YtbeplhbkoaopgaaPFnExactRemoveAtx8
import Derived.Test.YtbeplhbkoaopgaaPFnExactRemoveAtx10
import Derived.Test.YtbeplhbkoaopgaaPFnExactRemoveAtx21
import Derived.Test.YtbeplhbkoaopgaaPFnExactRemoveAtx27
import Derived.Test.YtbeplhbkoaopgaaPFnExactRemoveAtx28
namespace Go.Proofs.Ytbeplhbkoaopgaa.PFnExactRemoveAt
open Go.RowKit Go.Proofs.YtbeplhbkoaopgaaW.PrintWords Go.Proofs.YtbeplhbkoaopgaaW.PrintLast Go.Proofs.YtbeplhbkoaopgaaW.PrintMore
attribute [local go_sem] max2_int min2_int max_two min_two max_three min_three max_four min_four
set_option linter.unusedVariables false
set_option linter.unusedSimpArgs false
/-! ### impl_removeAt: function 42, by hand -/
/-- The tree without the node at a path. -/
def delAt:List S28→List Int→List S28
 | xs,[]=>xs
 | xs,[i]=>xs.eraseIdx i.toNat
 | xs,i :: j :: ps=>xs.set i.toNat ⟨(xs.getD i.toNat z28).f0,(xs.getD i.toNat z28).f1,(xs.getD i.toNat z28).f2,(xs.getD i.toNat z28).f3,(xs.getD i.toNat z28).f4,delAt (xs.getD i.toNat z28).f5 (j :: ps)⟩
def rmRes (x0:List S28) (path:List Int) (r1:List S28) (r2:Int):Prop :=
 match atPath x0 path with
 | none=>r1=[]∧r2=16
 | some _=>r1=delAt x0 path∧r2=0
theorem put_two (xs:List S28) (i j:Int) (ps:List Int) (y:S28):putAt xs (i :: j :: ps) y=xs.set i.toNat ⟨(xs.getD i.toNat z28).f0,(xs.getD i.toNat z28).f1,(xs.getD i.toNat z28).f2,(xs.getD i.toNat z28).f3,(xs.getD i.toNat z28).f4,putAt (xs.getD i.toNat z28).f5 (j :: ps) y⟩:=by
 simp [putAt,updAt,List.getLast?_cons_cons]
 rfl
theorem del_put (ps:List Int):∀ (xs:List S28) (i j:Int) (x:S28),atPath xs (i :: j :: ps)=some x→∃ (xp:S28) (li:Nat),(i :: j :: ps).getLast? = some (li:Int)∧li<xp.f5.length∧atPath xs ((i :: j :: ps).take ((i :: j :: ps).length - 1))=some xp∧putAt xs ((i :: j :: ps).take ((i :: j :: ps).length - 1)) (⟨xp.f0,xp.f1,xp.f2,xp.f3,xp.f4,xp.f5.eraseIdx li⟩:S28)=delAt xs (i :: j :: ps):=by
 induction ps with
 | nil =>
  intro xs i j x h
  rw [atPath] at h
  obtain ⟨hb,h⟩:=Option.ite_none_right_eq_some.mp h
  rw [atPath] at h
  obtain ⟨hb2,h⟩:=Option.ite_none_right_eq_some.mp h
  refine ⟨xs.getD i.toNat z28,j.toNat,?_,by omega,?_,?_⟩
  ·show some j=some ((j.toNat:Nat):Int)
   rw [Int.toNat_of_nonneg hb2.1]
  ·show atPath xs [i]=_
   rw [atPath,if_pos hb]
  ·show putAt xs [i] _=_
   rw [delAt,delAt]
   simp [putAt,updAt]
   rfl
 | cons k qs ih =>
  intro xs i j x h
  rw [atPath] at h
  obtain ⟨hb,h⟩:=Option.ite_none_right_eq_some.mp h
  obtain ⟨xp,li,h1,h2,h3,h4⟩:=ih _ j k x h
  have et:(i :: j :: k :: qs).take ((i :: j :: k :: qs).length - 1)=i :: j :: (k :: qs).take ((k :: qs).length - 1):=by
   simp
  have et2:(j :: k :: qs).take ((j :: k :: qs).length - 1)=j :: (k :: qs).take ((k :: qs).length - 1):=by
   simp
  rw [et2] at h3 h4
  refine ⟨xp,li,by rw [List.getLast?_cons_cons];exact h1,h2,?_,?_⟩
  ·rw [et,atPath,if_pos hb]
   exact h3
  ·rw [et,put_two,h4,delAt.eq_def xs]
theorem Kd.cell_int_at {w w':World} {n:Nat} {xs:List Int} {ad:Addr} {j:Nat} {v:Int} (h:xs[j]? = some v∧Kd.C (Kd.int .i64) w (some ad) n xs) (hb:Below w.heap.size w w'):w'.cell? (ad.add j)=some (.int .i64 v):=by
 obtain ⟨hv,hC⟩:=h
 have hC2:=cb_ hC hb
 have hj:=(List.getElem?_eq_some_iff.1 hv).1
 have hl:=hC2.1
 obtain ⟨ad',e,hc⟩:=hC2.2.2 (by omega)
 obtain rfl:=oi_ e
 obtain ⟨c,h1,h2,h3⟩:=hc j v hv
 obtain rfl:c=[.int .i64 v]:=h2
 have:=h3 0 (.int .i64 v) rfl
 rwa [show j * (Kd.int .i64).sz+0=j from Nat.mul_one j] at this
theorem cell_same {w w':World} {g j:Nat} (h:w'.heap[g]? = w.heap[g]?):w'.cell? ⟨g,j,none⟩=w.cell? ⟨g,j,none⟩:=by simp [World.cell?,h]
theorem frozen_same {w w':World} {g j:Nat} (h:w'.heap[g]? = w.heap[g]?):w'.frozen? ⟨g,j,none⟩=w.frozen? ⟨g,j,none⟩:=by simp [World.frozen?,h]
/-- The kids of element i lent; put back changed, under another header. -/
theorem nodeCut {base g n cap:Nat} {ok:Nat→Prop} {W:World} {xs:List S28} (h:Kd.S kTN 28 W base ok (.slice (some ⟨g,0,none⟩) n cap) xs) (i:Int) (h0:0≤i) (h1:i<n) (x:S28) (hx:xs.getD i.toNat z28=x) :
 ∃ (A5:Option Addr) (c5:Nat) (q:Nat→Prop),W.cell? ⟨g,i.toNat * 6+5,none⟩=some (.slice A5 x.f5.length c5)∧W.frozen? ⟨g,i.toNat * 6+5,none⟩=false∧Kd.S kTN 28 W base q (.slice A5 x.f5.length c5) x.f5∧(∀ k,q k→ok k∧k≠g) ∧
  ∀ (W1:World) (A:Option Addr) (m c:Nat) (ys:List S28),Kept W W1 q→Kd.S kTN 28 W1 base q (.slice A m c) ys→Kd.S kTN 28 (W1.setCell ⟨g,i.toNat * 6+5,none⟩ (.slice A m c)) base ok (.slice (some ⟨g,0,none⟩) n cap) (xs.set i.toNat (⟨x.f0,x.f1,x.f2,x.f3,x.f4,ys⟩:S28)):=by
 obtain ⟨oki,c,hcl,hM,hcc,hfr,hoki,hH⟩:=Kd.S_elem h z28 i h0 h1
 rw [hx] at hM
 obtain ⟨v4,v5,pp,rfl,g4,g5⟩:=kTN_openM hM
 obtain ⟨A4,c4,rfl⟩:=Kd.R_slice g4
 obtain ⟨A5,c5,rfl⟩:=Kd.S_slice g5
 refine ⟨A5,c5,_,hcc 5 _ rfl,hfr 5,g5,fun k hk=>hoki k hk.1,fun W1 A m c ys hk hr=>?_⟩
 have hM2:kTN.M W1 base oki (⟨x.f0,x.f1,x.f2,x.f3,x.f4,ys⟩:S28) [.int .i64 x.f0,.int .i64 x.f1,.string x.f2,.string x.f3,.slice A4 x.f4.length c4,.slice A m c] :=
  kTN_mkM _ _ _ pp (⟨x.f0,x.f1,x.f2,x.f3,x.f4,ys⟩:S28) (Kd.R_kept g4 hk (fun k h2 h3=>h3.2 h2.2)) hr
 have hH2:=Kd.H_step hH (w1:=W1) (fun k _ hn hlt=>hk.2 k hlt (fun h2=>hn h2.1))
 exact (Kd.S_seg (okg:=fun _=>False) (okp:=oki) (Kd.H_mono hH2 (fun k hk=>⟨hk,fun h=>h⟩)) h0 h1 (seg:=[.slice A m c]) (j:=5) (show 5+1≤6 from Nat.le_refl 6) (x':=(⟨x.f0,x.f1,x.f2,x.f3,x.f4,ys⟩:S28)) hM2 (fun k hk=>.inl hk) (fun k hk=>hk.elim)).1
/-- The kids of the node at a path lent; put back changed, under another header. -/
theorem focCut {W W1:World} {base:Nat} {ok:Nat→Prop} {v:Value} {xs:List S28} {path:List Int} {g i:Nat} {x:S28} (h:Foc W base ok v xs path ⟨g,i * 6,none⟩ x) (hb:Below W.heap.size W W1) :
 ∃ (A5:Option Addr) (c5:Nat) (q:Nat→Prop),W1.cell? ⟨g,i * 6+5,none⟩=some (.slice A5 x.f5.length c5)∧W1.frozen? ⟨g,i * 6+5,none⟩=false∧Kd.S kTN 28 W1 base q (.slice A5 x.f5.length c5) x.f5∧(∀ k,q k→ok k∧k≠g)∧(base≤g∧ok g) ∧
  ∀ (W2:World) (A:Option Addr) (m c:Nat) (ys:List S28),Kept W1 W2 q→Kd.S kTN 28 W2 base q (.slice A m c) ys→Kd.S kTN 28 (W2.setCell ⟨g,i * 6+5,none⟩ (.slice A m c)) base ok v (putAt xs path (⟨x.f0,x.f1,x.f2,x.f3,x.f4,ys⟩:S28)):=by
 obtain ⟨g',n,cap,okq,i',ep,hin,hgq,hokq,hS,hlast,hx,hwand⟩:=h
 injection ep with e1 e2
 obtain rfl:i=i':=by omega
 subst e1
 have hS1:=Kd.S_below hS hb
 have hgl:base≤g:=by
  obtain ⟨g',c',ev,h2,h3,_⟩:=Kd.S_form hS (by have:=(Kd.S_reads' hS).1;omega)
  injection ev with ev _ _
  injection ev with ev
  injection ev with ev _ _
  rw [ev];exact h2
 have hput:∀ x',putAt xs path x'=updAt xs path ((rowAt xs path).set i x'):=fun x'=>by unfold putAt;rw [hlast];simp
 obtain ⟨A5,c5,q,u5,f5,hK,hq,hw⟩:=nodeCut hS1 (i:Int) (by omega) (by omega) x (by rw [Int.toNat_natCast];exact hx)
 rw [Int.toNat_natCast] at u5 f5 hw
 refine ⟨A5,c5,q,u5,f5,hK,fun k hk=>⟨hokq k (hq k hk).1,(hq k hk).2⟩,⟨hgl,hokq g hgq⟩,fun W2 A m c ys hk hs=>?_⟩
 rw [hput]
 have hkk:Kept W (W2.setCell ⟨g,i * 6+5,none⟩ (.slice A m c)) okq:=((Kept.of_below hb okq).then_ hk (fun k h2=>.inl (hq k h2).1)).setCell (.inl hgq) _
 exact Kd.S_mono (hwand _ _ (fun _=>False) (fun _ hf=>hf.elim) hkk (Kd.S_mono (hw W2 A m c ys hk hs) (fun _ hk=>.inl hk))) (fun _ hk=>hk.elim (fun h=>h) (fun h=>h.elim))
set_option maxHeartbeats 32000000 in
set_option maxRecDepth 1000000 in
theorem removeAt_calls (A0:Option Addr) (c0:Nat) (x0:List S28) (A1:Option Addr) (c1:Nat) (path:List Int) (w:World) (hd:x0.all (fewB 10)=true) (hl:x0.length≤1048576) (hr0:Kd.C k28 w A0 x0.length x0) (hr1:Kd.C (Kd.int .i64) w A1 path.length path) (hc1:path.length≤c1) :
 Calls Try.prog 42 #[.slice A0 x0.length c0,.slice A1 path.length c1] w fun e w'=>∃ A c r1 r2,e=.returned (.tuple #[.slice A (r1:List S28).length c,.int .i64 r2])∧Kd.S kTN 28 w' w.heap.size (fun _=>True) (.slice A r1.length c) r1∧Below w.heap.size w w'∧rmRes x0 path r1 r2:=by
 have QC:Aside0 (Calls Try.prog 40 #[.slice A0 x0.length c0] w fun e w'=>∃ A c,e=.returned (.slice A x0.length c)∧Kd.S kTN 28 w' w.heap.size (fun k=>w.heap.size≤k) (.slice A x0.length c) x0∧Below w.heap.size w w'):=⟨((cloned_both 10).2 A0 c0 x0 w hd hl hr0).mono fun e w' ⟨v,he,hs,hb⟩=>by
  obtain ⟨A,c,rfl⟩:=Kd.S_slice hs
  exact ⟨A,c,he,hs,hb⟩⟩
 have QE:Aside0 (∀ V A c base ok,Below w.heap.size w V→Kd.S kTN 28 V base ok (.slice A x0.length c) x0→Calls Try.prog 29 #[.slice A x0.length c,.slice A1 path.length c1] V fun e w'=>∃ r,e=.returned r∧findRes V base ok (.slice A x0.length c) x0 path r (atPath x0 path)∧Below V.heap.size V w'):=⟨fun V A c base ok hV hs=>find_calls A c x0 A1 c1 path base ok V hs (cb_ hr1 hV)⟩
 have HR1:=A_ hr1
 have HC1:=A_ hc1
 have HL:=A_ hl
 clear hd hl hr0 hr1 hc1
 unfold rmRes
 generalize hR:atPath x0 path=R at *
 cases R with
 | none =>
  clear hR
  generalize path.length=n1 at *
  go_enter Try.func42,Try.ntmps42
  go_wp2_with (first|(go_at_call 40;(with_reducible refine QC.out.mono ?_);rintro e w3 ⟨A3,c3,rfl,hs,hb⟩;(have HS3:=A_ (Kd.S_mono (Kd.S_bound hs) (ok':=fun k=>k<w3.heap.size) (fun k hk=>hk.2.2.1)));(have HB3:=A_ hb);clear hs hb)|(go_at_call 29;(with_reducible refine (QE.out _ _ _ _ _ (ba_ HB3.out (.cells #[.slice A3 x0.length c3] 26 (0,0))) (Kd.S_below HS3.out (ba_ (Below.refl _ w3) (.cells #[.slice A3 x0.length c3] 26 (0,0))))).mono ?_);rintro e w4 ⟨r,rfl,rfl,hb⟩;(have HB4:=A_ (bp_ (ba_ HB3.out (.cells #[.slice A3 x0.length c3] 26 (0,0))) hb));(have HX4:=A_ (kb_ (blk_new w3 (.cells #[.slice A3 x0.length c3] 26 (0,0))) hb));(have dc:w4.cell? ⟨w3.heap.size,0,none⟩=some (.slice A3 x0.length c3):=(bc_ HX4.out 0).trans rfl);(have df:w4.frozen? ⟨w3.heap.size,0,none⟩=false:=bf_ HX4.out 0);(have HS4:=A_ (Kd.S_below (Kd.S_below HS3.out (ba_ (Below.refl _ w3) (.cells #[.slice A3 x0.length c3] 26 (0,0)))) hb));clear hb))
  go_ret2
  exact ⟨none,0,[],16,rfl,Kd.S_nil _ _ _ _ _,HB4.out,rfl,rfl⟩
 | some x =>
 by_cases hsh:path.length<2
 case pos =>
  obtain ⟨li,hlast,hpl,hlt,hdel⟩:∃ li:Nat,path[0]? = some (li:Int)∧path.length=1∧li<x0.length∧delAt x0 path=x0.eraseIdx li:=by
   cases path with
   | nil=>rw [atPath] at hR;cases hR
   | cons i ps=>cases ps with
    | nil =>
     rw [atPath] at hR
     obtain ⟨hb,hR⟩:=Option.ite_none_right_eq_some.mp hR
     exact ⟨i.toNat,by rw [Int.toNat_of_nonneg hb.1];rfl,rfl,by omega,by rw [delAt]⟩
    | cons j ps=>simp at hsh;omega
  have hdl:(delAt x0 path).length=x0.length - 1:=by rw [hdel,List.length_eraseIdx,if_pos hlt]
  obtain ⟨ad,hA1⟩:∃ ad,A1=some ad:=by
   obtain ⟨ad,e,_⟩:=HR1.out.2.2 (by omega)
   exact ⟨ad,e⟩
  obtain ⟨kk,hkk⟩:∃ kk,kk=path.length - 1:=⟨_,rfl⟩
  have HP:=A_ (show path[kk]? = some (li:Int)∧Kd.C (Kd.int .i64) w (some ad) path.length path from ⟨by rw [hkk,hpl];exact hlast,by rw [←hA1];exact HR1.out⟩)
  have QH:=A_ (fun b3 V=>holder_short A1 c1 path b3 V hsh)
  obtain ⟨lj,hlj⟩:∃ lj,lj=li+1:=⟨_,rfl⟩
  have QX:Aside0 (∀ V A c b3,Kd.S kTN 28 V w.heap.size (fun k=>k<b3) (.slice A x0.length c) x0→Below w.heap.size w V→Calls Try.prog 54 #[.slice A x0.length c,.int .i64 (li:Int),.int .i64 (lj:Int)] V fun e w'=>∃ g,e=.returned (.slice (some ⟨g,0,none⟩) (x0.length - 1) c)∧Kd.S kTN 28 w' w.heap.size (fun k=>k<b3) (.slice (some ⟨g,0,none⟩) (x0.length - 1) c) (delAt x0 path)∧Below w.heap.size w w'∧b3≠g∧∀ k,k≠g→w'.heap[k]? = V.heap[k]?):=⟨fun V A c b3 hs hB=>by
   obtain ⟨g,cap,ev,hge,_,_⟩:=Kd.S_form hs (by omega)
   injection ev with ev _ ev2
   subst ev ev2
   have hgb:g<b3:=(Kd.S_R hs).1 g rfl
   subst hlj
   rw [hdel]
   exact (delete_tree hs hlt).mono fun e w' ⟨he,h1,h2,h3⟩=>⟨g,he,h1,h3 _ _ hge hB,by omega,h2⟩⟩
  have hkk1:(kk:Int)<(path.length:Int):=by omega
  have hkk2:kk<path.length:=by omega
  have hr1:IntKind.i64.wrap ((path.length:Int) - 1)=(kk:Int):=by rw [IntKind.wrap_i64];omega
  have hli:IntKind.i64.wrap ((li:Int)+1)=(lj:Int):=by have:=HL.out;rw [IntKind.wrap_i64];omega
  have HDL:=A_ hdl
  subst hA1
  clear hR hlast hpl hdel hlt hlj hdl hsh hkk
  generalize path.length=n1 at *
  go_enter Try.func42,Try.ntmps42
  go_wp2_with (first|(go_at_call 40;(with_reducible refine QC.out.mono ?_);rintro e w3 ⟨A3,c3,rfl,hs,hb⟩;(have HS3:=A_ (Kd.S_mono (Kd.S_bound hs) (ok':=fun k=>k<w3.heap.size) (fun k hk=>hk.2.2.1)));(have HB3:=A_ hb);clear hs hb)|(go_at_call 29;(with_reducible refine (QE.out _ _ _ _ _ (ba_ HB3.out (.cells #[.slice A3 x0.length c3] 26 (0,0))) (Kd.S_below HS3.out (ba_ (Below.refl _ w3) (.cells #[.slice A3 x0.length c3] 26 (0,0))))).mono ?_);rintro e w4 ⟨r,rfl,hel,hb⟩;obtain ⟨p,rfl,_⟩:=hel;(have pc:=Kd.cell_int_at HP.out (bp_ (ba_ HB3.out (.cells #[.slice A3 x0.length c3] 26 (0,0))) hb));(have HB4:=A_ (bp_ (ba_ HB3.out (.cells #[.slice A3 x0.length c3] 26 (0,0))) hb));(have HX4:=A_ (kb_ (blk_new w3 (.cells #[.slice A3 x0.length c3] 26 (0,0))) hb));(have dc:w4.cell? ⟨w3.heap.size,0,none⟩=some (.slice A3 x0.length c3):=(bc_ HX4.out 0).trans rfl);(have df:w4.frozen? ⟨w3.heap.size,0,none⟩=false:=bf_ HX4.out 0);(have HS4:=A_ (Kd.S_below (Kd.S_below HS3.out (ba_ (Below.refl _ w3) (.cells #[.slice A3 x0.length c3] 26 (0,0)))) hb));clear hb))
  go_region_held3 (fun w'=>w'.cell? (ad.add kk)=some (.int .i64 (li:Int))) (go_keep) (first|(go_at_call 53;(with_reducible refine (QH.out _ _).mono ?_);rintro e w5 ⟨rfl,hb0⟩;(have hb:Below w4.heap.size w4 w5:=(b1_ (Below.refl w4.heap.size w4)).trans hb0);(have HB5:=A_ (bp_ HB4.out hb));(have pc5:=Kd.cell_int_at HP.out HB5.out);(have HX5:=A_ (kb_ HX4.out hb));(have ec:w5.cell? ⟨w3.heap.size,0,none⟩=some (.slice A3 x0.length c3):=(bc_ HX5.out 0).trans rfl);(have ef:w5.frozen? ⟨w3.heap.size,0,none⟩=false:=bf_ HX5.out 0);(have HS5:=A_ (Kd.S_below HS4.out hb));clear hb hb0 dc df pc))
  go_wp2_with (first|(go_at_call 54;(with_reducible refine (QX.out _ _ _ _ HS5.out HB5.out).mono ?_);rintro e w7 ⟨g,rfl,hs,hB,hne,hk⟩;(have HB7:=A_ hB);(have HX7:=A_ ((hk _ hne).trans HX5.out));(have fc:w7.cell? ⟨w3.heap.size,0,none⟩=some (.slice A3 x0.length c3):=(bc_ HX7.out 0).trans rfl);(have ff:w7.frozen? ⟨w3.heap.size,0,none⟩=false:=bf_ HX7.out 0);(have HS7:=A_ hs);clear hs hB hne hk ec ef))
  go_ret2
  refine ⟨some ⟨g,0,none⟩,c3,delAt x0 path,0,by rw [HDL.out];rfl,?_,bs_ HB7.out HB3.out.size,rfl,rfl⟩
  rw [HDL.out]
  exact Kd.S_mono (Kd.S_kept (S:=fun k=>k=w3.heap.size) HS7.out (Kept.setCell (Kept.refl w7 (fun k=>k=w3.heap.size)) (p:=⟨w3.heap.size,0,none⟩) (.inl rfl) _) (fun k hk (h:k=w3.heap.size)=>by omega)) (fun _ _=>trivial)
 case neg =>
  obtain ⟨i0,j0,ps,hpe⟩:∃ i0 j0 ps,path=i0 :: j0 :: ps:=by
   cases path with
   | nil=>rw [atPath] at hR;cases hR
   | cons i ps=>cases ps with
    | nil=>simp at hsh
    | cons j ps=>exact ⟨i,j,ps,rfl⟩
  have hdp:=del_put ps x0 i0 j0 x (by rw [←hpe];exact hR)
  rw [←hpe] at hdp
  clear hpe
  obtain ⟨xp,li,hlast,hlt,hpre,hput⟩:=hdp
  have hln:path[path.length - 1]? = some (li:Int):=by rw [←List.getLast?_eq_getElem?];exact hlast
  obtain ⟨ad,hA1⟩:∃ ad,A1=some ad:=by
   obtain ⟨ad,e,_⟩:=HR1.out.2.2 (by omega)
   exact ⟨ad,e⟩
  obtain ⟨kk,hkk⟩:∃ kk,kk=path.length - 1:=⟨_,rfl⟩
  rw [←hkk] at hln
  have HP:=A_ (show path[kk]? = some (li:Int)∧Kd.C (Kd.int .i64) w (some ad) path.length path from ⟨hln,by rw [←hA1];exact HR1.out⟩)
  have QH:Aside0 (∀ V A c b3,V.cell? ⟨b3,0,none⟩=some (.slice A x0.length c)→Kd.S kTN 28 V w.heap.size (fun k=>k<b3) (.slice A x0.length c) x0→Below w.heap.size w V→Calls Try.prog 53 #[.pointer (some ⟨b3,0,none⟩),.slice A1 path.length c1] V fun e w'=>∃ (V':World) (g i:Nat),e=.returned (.pointer (some ⟨g,i * 6+5,none⟩))∧Foc V' w.heap.size (fun k=>k<b3) (.slice A x0.length c) x0 (path.take (path.length - 1)) ⟨g,i * 6,none⟩ xp∧Below V.heap.size V V'∧Below V'.heap.size V' w'):=⟨fun V A c b3 hcell hs hB=>holder_long A c x0 A1 c1 path b3 w.heap.size _ V hcell hs (cb_ HR1.out hB) HC1.out (by omega) xp hpre⟩
  obtain ⟨lj,hlj⟩:∃ lj,lj=li+1:=⟨_,rfl⟩
  have hm5:∀ (V:World) A c q,Kd.S kTN 28 V w.heap.size q (.slice A xp.f5.length c) xp.f5→li≤9223372036854775806:=fun V A c q hs=>by
   have:=(S_readsT hs).2.2.2.1
   omega
  have QX:Aside0 (∀ V A c q,Kd.S kTN 28 V w.heap.size q (.slice A xp.f5.length c) xp.f5→Below w.heap.size w V→Calls Try.prog 54 #[.slice A xp.f5.length c,.int .i64 (li:Int),.int .i64 (lj:Int)] V fun e w'=>∃ g,e=.returned (.slice (some ⟨g,0,none⟩) (xp.f5.length - 1) c)∧Kd.S kTN 28 w' w.heap.size q (.slice (some ⟨g,0,none⟩) (xp.f5.length - 1) c) (xp.f5.eraseIdx li)∧Below w.heap.size w w'∧q g∧Kept V w' q∧∀ k,k≠g→w'.heap[k]? = V.heap[k]?):=⟨fun V A c q hs hB=>by
   obtain ⟨g,cap,ev,hge,_,_⟩:=Kd.S_form hs (by omega)
   injection ev with ev _ ev2
   subst ev ev2
   have hgq:q g:=(Kd.S_R hs).1 g rfl
   subst hlj
   exact (delete_tree hs hlt).mono fun e w' ⟨he,h1,h2,h3⟩=>⟨g,he,h1,h3 _ _ hge hB,hgq,⟨(h3 g V (Nat.le_refl _) (Below.refl _ _)).size,fun k _ hk=>h2 k (fun e=>hk (by rw [e];exact hgq))⟩,h2⟩⟩
  have HW:=A_ hput
  have hkk1:(kk:Int)<(path.length:Int):=by omega
  have hkk2:kk<path.length:=by omega
  have hr1:IntKind.i64.wrap ((path.length:Int) - 1)=(kk:Int):=by have:=HR1.out.2.1;rw [IntKind.wrap_i64];omega
  have HLI:=A_ (show ∀ z:Nat,z≤9223372036854775806→z=li→IntKind.i64.wrap ((li:Int)+1)=(lj:Int) from fun z hz e=>by subst e;rw [IntKind.wrap_i64];omega)
  have HM5:=A_ hm5
  subst hA1
  clear hR hlast hlt hlj hsh hm5 hln hkk hpre hput
  generalize path.length=n1 at *
  generalize path.take (n1 - 1)=pre at *
  go_enter Try.func42,Try.ntmps42
  go_wp2_with (first|(go_at_call 40;(with_reducible refine QC.out.mono ?_);rintro e w3 ⟨A3,c3,rfl,hs,hb⟩;(have HS3:=A_ (Kd.S_mono (Kd.S_bound hs) (ok':=fun k=>k<w3.heap.size) (fun k hk=>hk.2.2.1)));(have HB3:=A_ hb);clear hs hb)|(go_at_call 29;(with_reducible refine (QE.out _ _ _ _ _ (ba_ HB3.out (.cells #[.slice A3 x0.length c3] 26 (0,0))) (Kd.S_below HS3.out (ba_ (Below.refl _ w3) (.cells #[.slice A3 x0.length c3] 26 (0,0))))).mono ?_);rintro e w4 ⟨r,rfl,hel,hb⟩;obtain ⟨p,rfl,_⟩:=hel;(have pc:=Kd.cell_int_at HP.out (bp_ (ba_ HB3.out (.cells #[.slice A3 x0.length c3] 26 (0,0))) hb));(have HB4:=A_ (bp_ (ba_ HB3.out (.cells #[.slice A3 x0.length c3] 26 (0,0))) hb));(have HX4:=A_ (kb_ (blk_new w3 (.cells #[.slice A3 x0.length c3] 26 (0,0))) hb));(have dc:w4.cell? ⟨w3.heap.size,0,none⟩=some (.slice A3 x0.length c3):=(bc_ HX4.out 0).trans rfl);(have df:w4.frozen? ⟨w3.heap.size,0,none⟩=false:=bf_ HX4.out 0);(have HS4:=A_ (Kd.S_below (Kd.S_below HS3.out (ba_ (Below.refl _ w3) (.cells #[.slice A3 x0.length c3] 26 (0,0)))) hb));clear hb))
  go_region_held3 (fun w'=>w'.cell? (ad.add kk)=some (.int .i64 (li:Int))) (go_keep) (first|(go_at_call 53;(have dc0:w4.drew.cell? ⟨w3.heap.size,0,none⟩=some (.slice A3 x0.length c3):=dc);(with_reducible refine (QH.out _ _ _ _ dc0 (Kd.S_below HS4.out (b1_ (Below.refl w4.heap.size w4))) (b1_ HB4.out)).mono ?_);rintro e w5 ⟨V5,g,i,rfl,hf,hb1,hb2⟩;(have hb:Below w4.heap.size w4 w5:=(b1_ (Below.refl w4.heap.size w4)).trans (hb1.trans (hb2.mono hb1.size)));(have HB5:=A_ (bp_ HB4.out hb));(have pc5:=Kd.cell_int_at HP.out HB5.out);(have HX5:=A_ (kb_ HX4.out hb));(have ec:w5.cell? ⟨w3.heap.size,0,none⟩=some (.slice A3 x0.length c3):=(bc_ HX5.out 0).trans rfl);(have ef:w5.frozen? ⟨w3.heap.size,0,none⟩=false:=bf_ HX5.out 0);obtain ⟨A5,c5,q,u5,f5,hK,hq,hg,hw⟩:=focCut hf hb2;(have hli:=HLI.out li (HM5.out _ _ _ _ hK) rfl);(have HK5:=A_ hK);(have HQ5:=A_ hq);(have HG5:=A_ hg);(have HW5:=A_ hw);(have hgl:g<w3.heap.size:=hg.2);(have hne1:(g=w3.heap.size)=False:=eq_false (Nat.ne_of_lt hgl));(have hne2:(w3.heap.size=g)=False:=eq_false (Nat.ne_of_gt hgl));clear dc0 hb hb1 hb2 hf hK hq hg hgl hw dc df pc))
  go_wp2_with (first|(go_at_call 54;(with_reducible refine (QX.out _ _ _ _ HK5.out HB5.out).mono ?_);rintro e w7 ⟨g5,rfl,hs,hB,hq5,hKe,hk⟩;(have n1:=HQ5.out g5 hq5);(have n1l:g5<w3.heap.size:=n1.1);(have HX7:=A_ ((hk w3.heap.size (Nat.ne_of_gt n1l)).trans HX5.out));(have fc:w7.cell? ⟨w3.heap.size,0,none⟩=some (.slice A3 x0.length c3):=(bc_ HX7.out 0).trans rfl);(have ff:w7.frozen? ⟨w3.heap.size,0,none⟩=false:=bf_ HX7.out 0);(have v5:=(cell_same (j:=i * 6+5) (hk g (fun e=>n1.2 e.symm))).trans u5);(have v6:=(frozen_same (j:=i * 6+5) (hk g (fun e=>n1.2 e.symm))).trans f5);(have HS8:=A_ (HW5.out _ _ _ _ _ hKe hs));(have HB8:=A_ (bs_ (j:=i * 6+5) (v:=.slice (some ⟨g5,0,none⟩) (xp.f5.length - 1) c5) hB HG5.out.1));clear hs hB hq5 hKe hk n1 n1l ec ef u5 f5))
  go_ret2
  refine ⟨A3,c3,delAt x0 path,0,?_,?_,HB8.out,rfl,rfl⟩
  ·have hlen:=(Kd.S_reads' HS8.out).1
   rw [HW.out] at hlen
   rw [←hlen]
   rfl
  ·have hs:=HS8.out
   have hlen:=(Kd.S_reads' hs).1
   rw [HW.out] at hs hlen
   rw [←hlen]
   exact Kd.S_mono hs (fun _ _=>trivial)
/-! ### impl_RemoveAt: function 22, by hand -/
def impl_RemoveAt.f (x0:List S28) (path:List Int):Option (List S28 × Int) :=
 (impl_faultEdit.f x0 path).bind fun c=>if c=0 then (if x0.all (fewB 10)=true∧x0.length≤1048576 then (match atPath x0 path with
  | none=>some ([],16)
  | some _=>some (delAt x0 path,0)) else none) else some ([],c)
set_option maxHeartbeats 16000000 in
set_option maxRecDepth 1000000 in
theorem impl_RemoveAt.calls (A0:Option Addr) (c0:Nat) (x0:List S28) (A1:Option Addr) (c1:Nat) (path:List Int) (r1:List S28) (r2:Int) (w:World) (hr0:Kd.C k28 w A0 x0.length x0) (hc0:x0.length≤c0) (hr1:Kd.C (Kd.int .i64) w A1 path.length path) (hc1:path.length≤c1) (h:impl_RemoveAt.f x0 path=some (r1,r2)) :
 Calls Try.prog 22 #[.slice A0 x0.length c0,.slice A1 path.length c1] w fun e w'=>∃ A c,e=.returned (.tuple #[.slice A r1.length c,.int .i64 r2])∧Kd.S kTN 28 w' w.heap.size (fun _=>True) (.slice A r1.length c) r1∧Below w.heap.size w w':=by
 unfold impl_RemoveAt.f at h
 obtain ⟨cd,hcd,h⟩:=ob_ h
 have QF:=A_ (impl_faultEdit.calls A0 c0 x0 A1 c1 path cd w hr0 hc0 hr1 hc1 hcd)
 by_cases hz:cd=0
 case neg =>
  rw [if_neg hz] at h
  obtain ⟨rfl,rfl⟩:=Prod.mk.inj (oi_ h)
  have hz1:(cd == 0)=false:=by simpa using hz
  have hz2:(cd != 0)=true:=by simpa using hz
  clear h hcd hr0 hc0 hr1 hc1
  generalize x0.length=n0 at *
  generalize path.length=n1 at *
  go_enter Try.func22,Try.ntmps22
  go_wp2_with (first|(go_at_call 39;(with_reducible refine QF.out.mono ?_);rintro e w1 ⟨rfl,hb⟩;(have HB1:=A_ hb);clear hb))
  go_ret2
  exact ⟨none,0,rfl,Kd.S_nil _ _ _ _ _,HB1.out⟩
 subst hz
 rw [if_pos rfl] at h
 obtain ⟨⟨hd,hl⟩,h⟩:=Option.ite_none_right_eq_some.mp h
 have QR:Aside0 (∀ V,Below w.heap.size w V→Calls Try.prog 42 #[.slice A0 x0.length c0,.slice A1 path.length c1] V fun e w'=>∃ A c,e=.returned (.tuple #[.slice A r1.length c,.int .i64 r2])∧Kd.S kTN 28 w' V.heap.size (fun _=>True) (.slice A r1.length c) r1∧Below V.heap.size V w'):=⟨fun V hV=>(removeAt_calls A0 c0 x0 A1 c1 path V hd hl (cb_ hr0 hV) (cb_ hr1 hV) hc1).mono fun e w' ⟨A,c,s1,s2,he,hs,hb,hres⟩=>by
  unfold rmRes at hres
  cases hx:atPath x0 path with
  | none =>
   rw [hx] at h hres
   obtain ⟨rfl,rfl⟩:=Prod.mk.inj (oi_ h)
   obtain ⟨rfl,rfl⟩:=hres
   exact ⟨A,c,he,hs,hb⟩
  | some x =>
   rw [hx] at h hres
   obtain ⟨rfl,rfl⟩:=Prod.mk.inj (oi_ h)
   obtain ⟨rfl,rfl⟩:=hres
   exact ⟨A,c,he,hs,hb⟩⟩
 clear h hcd hr0 hc0 hr1 hc1 hd hl
 generalize x0.length=n0 at *
 generalize path.length=n1 at *
 go_enter Try.func22,Try.ntmps22
 go_wp2_with (first|(go_at_call 39;(with_reducible refine QF.out.mono ?_);rintro e w1 ⟨rfl,hb⟩;(have HB1:=A_ hb);clear hb)|(go_at_call 42;(with_reducible refine (QR.out _ HB1.out).mono ?_);rintro e w2 ⟨A2,c2,rfl,hs,hb⟩;(have HB2:=A_ (bp_ HB1.out hb));(have HS2:=A_ (Kd.S_lower hs HB1.out.size));clear hs hb))
 go_ret2
 exact ⟨A2,c2,rfl,HS2.out,HB2.out⟩
/-! ### laws_FnExactRemoveAt: function 5, by hand -/
def laws_FnExactRemoveAt.f (k:Nat) (x0:List S47) (x1:List Int):Option Bool :=
 if 1048576<x1.length then some true else (laws_szNodeS.f k x0 1048576).bind fun q0=>if q0<0 then some true else (laws_toNodeS.f k x0).bind fun y0=>(laws_toIntS.f k x1).bind fun y1=>(spec_RemoveAt.f k y0 y1).bind fun b=>(impl_RemoveAt.f y0 y1).bind fun g =>
  if ((g.2 == b.2) && (laws_eqNodeS.f k g.1 b.1 == some true) && (laws_eqNodeS.f k y0 y0 == some true) && (laws_eqIntS.f k y1 y1 == some true))=true then
   (laws_markNodeS.f k y0 1).bind fun m0=>(laws_markIntS.f k y1 m0.1).bind fun m1=>if 0≤m1.1 then (laws_markNodeS.f k g.1 1).bind fun n=>if (decide (0≤n.1) && (laws_heldNodeS.f k n.2 1 == some n.1))=true then some true else none else none
  else none
set_option maxHeartbeats 32000000 in
set_option maxRecDepth 1000000 in
theorem laws_FnExactRemoveAt.calls (k:Nat) (A0:Option Addr) (c0:Nat) (x0:List S47) (A1:Option Addr) (c1:Nat) (x1:List Int) (r:Bool) (w:World) (hr0:Kd.C k47 w A0 x0.length x0) (hc0:x0.length≤c0) (hr1:Kd.C (Kd.int .i64) w A1 x1.length x1) (hc1:x1.length≤c1) (h:laws_FnExactRemoveAt.f k x0 x1=some r) (hr:Aside0 (r=true)) :
 Calls Try.prog 5 #[.slice A0 x0.length c0,.slice A1 x1.length c1] w fun e w'=>e=.returned (.bool r)∧Below w.heap.size w w':=by
 obtain rfl:=hr.out
 clear hr
 unfold laws_FnExactRemoveAt.f at h
 have HB0:=A_ (Below.refl w.heap.size w)
 by_cases cl1:1048576<x1.length
 ·have zl1:decide ((1048576:Int)<(x1.length:Int))=true:=dt_ (by omega)
  clear h
  go_enter Try.func5,Try.ntmps5
  go_wp2
  go_ret
  exact ⟨rfl,HB0.out⟩
 rw [if_neg cl1] at h
 have zl1:decide ((1048576:Int)<(x1.length:Int))=false:=df_ (by omega)
 obtain ⟨q0,hq0,h⟩:=ob_ h
 have QS0:Aside0 (∀ V,Below w.heap.size w V→Calls Try.prog 6 #[.slice A0 x0.length c0,.int .i64 1048576] V fun e w'=>e=.returned (.int .i64 q0)∧Below V.heap.size V w'):=⟨fun V hV=>laws_szNodeS.calls k A0 c0 x0 1048576 q0 V (cb_ hr0 hV) hc0 hq0⟩
 by_cases c0n:q0<0
 ·have z0n:decide (q0<0)=true:=dt_ c0n
  clear h hq0 hr0 hc0 hr1 hc1
  generalize x0.length=nx0 at *
  generalize x1.length=nx1 at *
  go_enter Try.func5,Try.ntmps5
  go_wp2_with (first|(go_at_call 6;(with_reducible refine (QS0.out _ HB0.out).mono ?_);rintro e ws0 ⟨rfl,hb⟩;(have HBs0:=A_ (bp_ HB0.out hb));clear hb QS0))
  go_ret
  exact ⟨rfl,HBs0.out⟩
 rw [if_neg c0n] at h
 have z0n:decide (q0<0)=false:=df_ c0n
 obtain ⟨y0,hy0,h⟩:=ob_ h
 obtain ⟨y1,hy1,h⟩:=ob_ h
 obtain ⟨⟨b1,b2⟩,hb,h⟩:=ob_ h
 obtain ⟨⟨g,g2⟩,hi,h⟩:=ob_ h
 split at h
 case isFalse=>cases h
 rename_i hc
 simp only [Bool.and_eq_true,beq_iff_eq] at hc
 obtain ⟨⟨⟨he2,heq⟩,hec0⟩,hec1⟩:=hc
 obtain ⟨⟨m0,u0⟩,hmk0,h⟩:=ob_ h
 obtain ⟨⟨m1,u1⟩,hmk1,h⟩:=ob_ h
 split at h
 case isFalse=>cases h
 rename_i hpos
 obtain ⟨⟨mm,g'⟩,hg,h⟩:=ob_ h
 split at h
 case isFalse=>cases h
 rename_i hh
 clear h
 simp only [Bool.and_eq_true,decide_eq_true_eq,beq_iff_eq] at hh
 obtain ⟨hmm0,hheld⟩:=hh
 have he3:b2=g2:=he2.symm
 subst he3
 clear he2
 have QT0:Aside0 (∀ V,Below w.heap.size w V→Calls Try.prog 8 #[.slice A0 x0.length c0] V fun e w'=>∃ A c,e=.returned (.slice A y0.length c)∧Kd.S kTN 28 w' V.heap.size (fun k=>V.heap.size≤k∧k<w'.heap.size) (.slice A y0.length c) y0∧Below V.heap.size V w'):=⟨fun V hV=>(laws_toNodeS.callsT k A0 c0 x0 y0 V (cb_ hr0 hV) hc0 hy0).mono fun e w' ⟨A,c,he,hs,hb⟩=>⟨A,c,he,Kd.S_mono (Kd.S_bound hs) (fun k hk=>⟨hk.2.1,hk.2.2.1⟩),hb⟩⟩
 have QT1:Aside0 (∀ V,Below w.heap.size w V→Calls Try.prog 9 #[.slice A1 x1.length c1] V fun e w'=>∃ A c,e=.returned (.slice A y1.length c)∧Kd.R (Kd.int .i64) 3 w' V.heap.size (fun k=>V.heap.size≤k∧k<w'.heap.size) (.slice A y1.length c) y1∧Below V.heap.size V w'):=⟨fun V hV=>(laws_toIntS.calls k A1 c1 x1 y1 V (cb_ hr1 hV) hc1 hy1).mono fun e w' ⟨v,he,hs,hb⟩=>by
  obtain ⟨A,c,rfl⟩:=Kd.R_slice hs
  exact ⟨A,c,he,Kd.R_mono (Kd.R_bound hs) (fun k hk=>⟨hk.2.1,hk.2.2.1⟩),hb⟩⟩
 have QP:Aside0 (∀ V A0 c0 A1 c1 B0 P0 B1 P1,Kd.S kTN 28 V B0 P0 (.slice A0 y0.length c0) y0→Kd.R (Kd.int .i64) 3 V B1 P1 (.slice A1 y1.length c1) y1→Calls Try.prog 21 #[.slice A0 y0.length c0,.slice A1 y1.length c1] V fun e w'=>∃ A c,e=.returned (.tuple #[.slice A b1.length c,.int .i64 b2])∧(Kd.C k28 w' A b1.length b1∧b1.length≤c)∧Below V.heap.size V w'):=⟨fun V A0 c0 A1 c1 B0 P0 B1 P1 h0 h1=>(spec_RemoveAt.calls k A0 c0 y0 A1 c1 y1 b1 b2 V ((S_readsT h0).2.2) ((S_readsT h0).2.1) ((Kd.R_reads' h1).2.2) ((Kd.R_reads' h1).2.1) hb).mono fun e w' ⟨A,c,he,hs,hl,hb⟩=>⟨A,c,he,⟨hs,hl⟩,hb⟩⟩
 have QI:Aside0 (∀ V A0 c0 A1 c1 B0 P0 B1 P1,Kd.S kTN 28 V B0 P0 (.slice A0 y0.length c0) y0→Kd.R (Kd.int .i64) 3 V B1 P1 (.slice A1 y1.length c1) y1→Calls Try.prog 22 #[.slice A0 y0.length c0,.slice A1 y1.length c1] V fun e w'=>∃ A c,e=.returned (.tuple #[.slice A g.length c,.int .i64 b2])∧Kd.S kTN 28 w' V.heap.size (fun k=>V.heap.size≤k∧k<w'.heap.size) (.slice A g.length c) g∧Below V.heap.size V w'):=⟨fun V A0 c0 A1 c1 B0 P0 B1 P1 h0 h1=>(impl_RemoveAt.calls A0 c0 y0 A1 c1 y1 g b2 V ((S_readsT h0).2.2) ((S_readsT h0).2.1) ((Kd.R_reads' h1).2.2) ((Kd.R_reads' h1).2.1) hi).mono fun e w' ⟨A,c,he,hs,hb⟩=>⟨A,c,he,Kd.S_mono (Kd.S_bound hs) (fun k hk=>⟨hk.2.1,hk.2.2.1⟩),hb⟩⟩
 have QE:Aside0 (∀ V A c A' c' B P,Kd.S kTN 28 V B P (.slice A g.length c) g→(Kd.C k28 V A' b1.length b1∧b1.length≤c')→Calls Try.prog 12 #[.slice A g.length c,.slice A' b1.length c'] V fun e w'=>e=.returned (.bool true)∧Below V.heap.size V w'):=⟨fun V A c A' c' B P h1 h2=>(laws_eqNodeS.calls k A c g A' c' b1 true V ((S_readsT h1).2.2) ((S_readsT h1).2.1) h2.1 h2.2 heq).mono fun e w' ⟨he,hd⟩=>⟨he,hd⟩⟩
 have QC0:Aside0 (∀ V A c A' c' B P B' P',Kd.S kTN 28 V B P (.slice A y0.length c) y0→Kd.S kTN 28 V B' P' (.slice A' y0.length c') y0→Calls Try.prog 12 #[.slice A y0.length c,.slice A' y0.length c'] V fun e w'=>e=.returned (.bool true)∧Below V.heap.size V w'):=⟨fun V A c A' c' B P B' P' h1 h2=>(laws_eqNodeS.calls k A c y0 A' c' y0 true V ((S_readsT h1).2.2) ((S_readsT h1).2.1) ((S_readsT h2).2.2) ((S_readsT h2).2.1) hec0).mono fun e w' ⟨he,hd⟩=>⟨he,hd⟩⟩
 have QC1:Aside0 (∀ V A c A' c' B P B' P',Kd.R (Kd.int .i64) 3 V B P (.slice A y1.length c) y1→Kd.R (Kd.int .i64) 3 V B' P' (.slice A' y1.length c') y1→Calls Try.prog 13 #[.slice A y1.length c,.slice A' y1.length c'] V fun e w'=>e=.returned (.bool true)∧Below V.heap.size V w'):=⟨fun V A c A' c' B P B' P' h1 h2=>(laws_eqIntS.calls k A c y1 A' c' y1 true V ((Kd.R_reads' h1).2.2) ((Kd.R_reads' h1).2.1) ((Kd.R_reads' h2).2.2) ((Kd.R_reads' h2).2.1) hec1).mono fun e w' ⟨he,hd⟩=>⟨he,hd.below⟩⟩
 have QH:Aside0 (∀ V A c B P,Kd.S kTN 28 V B P (.slice A g.length c) g'→Calls Try.prog 20 #[.slice A g.length c,.int .i64 1] V fun e w'=>e=.returned (.int .i64 mm)∧Below V.heap.size V w'):=⟨fun V A c B P h1=>by
  have hl:=(S_readsT h1).1
  rw [hl]
  exact (laws_heldNodeS.calls k A c g' 1 mm V (S_readsT h1).2.2 (hl ▸ (S_readsT h1).2.1) hheld).mono fun e w' ⟨he,hd⟩=>⟨he,hd⟩⟩
 have QM0:=A_ hmk0
 have QM1:=A_ hmk1
 have QB:=A_ hg
 have zm:decide (m1<0)=false:=df_ (by omega)
 have zn:decide (mm<0)=false:=df_ (by omega)
 clear hg hheld hmm0 hpos heq hb hi hmk0 hec0 hy0 hmk1 hec1 hy1 hq0 c0n hr0 hc0 hr1 hc1
 generalize x0.length=nx0 at *
 generalize hny0:y0.length=ny0 at *
 generalize x1.length=nx1 at *
 generalize hny1:y1.length=ny1 at *
 generalize hnb:b1.length=nb at *
 generalize hng:g.length=ng at *
 have HT0:=A_ True.intro
 go_enter Try.func5,Try.ntmps5
 go_wp2_with (first|(go_at_call 6;(have HT_:=HT0.out);clear HT0 HT_;(with_reducible refine (QS0.out _ HB0.out).mono ?_);rintro e w1 ⟨rfl,hb⟩;(have HBs0:=A_ (bp_ HB0.out hb));clear hb QS0 HB0;(have HT1:=A_ True.intro))|(go_at_call 8;(have HT_:=HT1.out);clear HT1 HT_;(with_reducible refine (QT0.out _ HBs0.out).mono ?_);rintro e w2 ⟨Y0A,Y0c,rfl,hs,hb⟩;(have HY0_w2:=A_ hs);(have HB_w2:=A_ (bp_ HBs0.out hb));clear hs hb HBs0;(have HT2:=A_ True.intro))|(go_at_call 9;(have HT_:=HT2.out);clear HT2 HT_;(with_reducible refine (QT1.out _ HB_w2.out).mono ?_);rintro e w3 ⟨Y1A,Y1c,rfl,hs,hb⟩;(have HY1_w3:=A_ hs);(have HB_w3:=A_ (bp_ HB_w2.out hb));(have HY0_w3:=A_ (Kd.S_below HY0_w2.out hb));clear HY0_w2;clear hs hb HB_w2;(have HT3:=A_ True.intro))|(go_at_call 21;(have HT_:=HT3.out);clear HT3 HT_;(with_reducible refine (QP.out _ _ _ _ _ _ _ _ _ HY0_w3.out HY1_w3.out).mono ?_);rintro e w4 ⟨VA,Vc,rfl,hs,hb⟩;(have HV:=A_ hs);(have HB3:=A_ (bp_ HB_w3.out hb));(have HD_w4:=A_ (Below.refl w4.heap.size w4));clear hs hb HB_w3 HY0_w3 HY1_w3;(have HT4:=A_ True.intro))|(go_at_call 8;(have HT_:=HT4.out);clear HT4 HT_;(with_reducible refine (QT0.out _ (HB3.out.trans (HD_w4.out.mono HB3.out.size))).mono ?_);rintro e w5 ⟨X0A,X0c,rfl,hs,hb⟩;(have HX0_w5:=A_ (Kd.S_lower hs HD_w4.out.size));(have HD_w5:=A_ (bp_ HD_w4.out hb));clear HD_w4;(have SZ_w5:=A_ hb.size);clear hs hb;(have HT5:=A_ True.intro))|(go_at_call 9;(have HT_:=HT5.out);clear HT5 HT_;(with_reducible refine (QT1.out _ (HB3.out.trans (HD_w5.out.mono HB3.out.size))).mono ?_);rintro e w6 ⟨X1A,X1c,rfl,hs,hb⟩;(have HX1_w6:=A_ (Kd.R_lower hs HD_w5.out.size));(have HX0_w6:=A_ (Kd.S_below HX0_w5.out hb));clear HX0_w5;(have HD_w6:=A_ (bp_ HD_w5.out hb));clear HD_w5;(have SZ_w6:=A_ hb.size);clear hs hb;(have HT6:=A_ True.intro))|(go_at_call 22;(have HT_:=HT6.out);clear HT6 HT_;(with_reducible refine (QI.out _ _ _ _ _ _ _ _ _ HX0_w6.out HX1_w6.out).mono ?_);rintro e w7 ⟨GA,Gc,rfl,hs,hb⟩;(have HG_w7:=A_ (Kd.S_lower hs HD_w6.out.size));(have HX0_w7:=A_ (Kd.S_below HX0_w6.out hb));clear HX0_w6;(have HX1_w7:=A_ (Kd.R_below HX1_w6.out hb));clear HX1_w6;(have HD_w7:=A_ (bp_ HD_w6.out hb));clear HD_w6;(have SZ_w7:=A_ hb.size);clear hs hb;(have HT7:=A_ True.intro))|(go_at_call 12;(have HT_:=HT7.out);clear HT7 HT_;(with_reducible refine (QE.out _ _ _ _ _ _ _ HG_w7.out (show Kd.C k28 _ _ _ _∧_ from ⟨cb_ HV.out.1 HD_w7.out,HV.out.2⟩)).mono ?_);rintro e w8 ⟨rfl,hb⟩;(have HX0_w8:=A_ (Kd.S_below HX0_w7.out hb));clear HX0_w7;(have HX1_w8:=A_ (Kd.R_below HX1_w7.out hb));clear HX1_w7;(have HG_w8:=A_ (Kd.S_below HG_w7.out hb));clear HG_w7;(have HD_w8:=A_ (bp_ HD_w7.out hb));clear HD_w7;(have SZ_w8:=A_ hb.size);clear hb;(have HT8:=A_ True.intro))|(go_at_call 8;(have HT_:=HT8.out);clear HT8 HT_;(with_reducible refine (QT0.out _ (HB3.out.trans (HD_w8.out.mono HB3.out.size))).mono ?_);rintro e w9 ⟨TA,Tc,rfl,hs,hb⟩;(have HTmp:=A_ hs);(have HX0_w9:=A_ (Kd.S_below HX0_w8.out hb));clear HX0_w8;(have HX1_w9:=A_ (Kd.R_below HX1_w8.out hb));clear HX1_w8;(have HG_w9:=A_ (Kd.S_below HG_w8.out hb));clear HG_w8;(have HD_w9:=A_ (bp_ HD_w8.out hb));clear HD_w8;(have SZ_w9:=A_ hb.size);clear hs hb;(have HT9:=A_ True.intro))|(go_at_call 12;(have HT_:=HT9.out);clear HT9 HT_;(with_reducible refine (QC0.out _ _ _ _ _ _ _ _ _ HX0_w9.out HTmp.out).mono ?_);rintro e w10 ⟨rfl,hb⟩;(have HX0_w10:=A_ (Kd.S_below HX0_w9.out hb));clear HX0_w9;(have HX1_w10:=A_ (Kd.R_below HX1_w9.out hb));clear HX1_w9;(have HG_w10:=A_ (Kd.S_below HG_w9.out hb));clear HG_w9;(have HD_w10:=A_ (bp_ HD_w9.out hb));clear HD_w9;(have SZ_w10:=A_ hb.size);clear hb HTmp;(have HT10:=A_ True.intro))|(go_at_call 9;(have HT_:=HT10.out);clear HT10 HT_;(with_reducible refine (QT1.out _ (HB3.out.trans (HD_w10.out.mono HB3.out.size))).mono ?_);rintro e w11 ⟨TA,Tc,rfl,hs,hb⟩;(have HTmp:=A_ hs);(have HX0_w11:=A_ (Kd.S_below HX0_w10.out hb));clear HX0_w10;(have HX1_w11:=A_ (Kd.R_below HX1_w10.out hb));clear HX1_w10;(have HG_w11:=A_ (Kd.S_below HG_w10.out hb));clear HG_w10;(have HD_w11:=A_ (bp_ HD_w10.out hb));clear HD_w10;(have SZ_w11:=A_ hb.size);clear hs hb;(have HT11:=A_ True.intro))|(go_at_call 13;(have HT_:=HT11.out);clear HT11 HT_;(with_reducible refine (QC1.out _ _ _ _ _ _ _ _ _ HX1_w11.out HTmp.out).mono ?_);rintro e w12 ⟨rfl,hb⟩;(have HX0_w12:=A_ (Kd.S_below HX0_w11.out hb));clear HX0_w11;(have HX1_w12:=A_ (Kd.R_below HX1_w11.out hb));clear HX1_w11;(have HG_w12:=A_ (Kd.S_below HG_w11.out hb));clear HG_w11;(have HD_w12:=A_ (bp_ HD_w11.out hb));clear HD_w11;(have SZ_w12:=A_ hb.size);clear hb HTmp;(have HT12:=A_ True.intro))|(go_at_call 14;(have HT_:=HT12.out);clear HT12 HT_;(with_reducible refine (laws_markNodeS.callsT k _ _ _ _ y0 u0 1 m0 w4 _ HD_w12.out HX0_w12.out QM0.out).mono ?_);rintro e w13 ⟨rfl,hs,hb,hk⟩;(have HD_w13:=A_ hb);(have SZ_w13:=A_ hk.1);(have HX1_w13:=A_ (Kd.R_kept HX1_w12.out hk (fun k_ h1_ h2_=>by ((have:=SZ_w5.out);(have:=SZ_w6.out);(have:=SZ_w7.out);(have:=SZ_w8.out);(have:=SZ_w9.out);(have:=SZ_w10.out);(have:=SZ_w11.out);(have:=SZ_w12.out);(have h1a:=h1_.1);(have h1b:=h1_.2);(have h2a:=h2_.1);(have h2b:=h2_.2);omega))));clear HX1_w12;(have HG_w13:=A_ (Kd.S_kept HG_w12.out hk (fun k_ h1_ h2_=>by ((have:=SZ_w5.out);(have:=SZ_w6.out);(have:=SZ_w7.out);(have:=SZ_w8.out);(have:=SZ_w9.out);(have:=SZ_w10.out);(have:=SZ_w11.out);(have:=SZ_w12.out);(have h1a:=h1_.1);(have h1b:=h1_.2);(have h2a:=h2_.1);(have h2b:=h2_.2);omega))));clear HG_w12;clear hs hb hk HX0_w12 HD_w12;(have HT13:=A_ True.intro))|(go_at_call 15;(have HT_:=HT13.out);clear HT13 HT_;(with_reducible refine (laws_markIntS.calls k _ _ y1 m0 m1 u1 w4 _ HD_w13.out HX1_w13.out QM1.out).mono ?_);rintro e w14 ⟨rfl,hs,hb,hk⟩;(have HD_w14:=A_ hb);(have SZ_w14:=A_ hk.1);(have HG_w14:=A_ (Kd.S_kept HG_w13.out hk (fun k_ h1_ h2_=>by ((have:=SZ_w5.out);(have:=SZ_w6.out);(have:=SZ_w7.out);(have:=SZ_w8.out);(have:=SZ_w9.out);(have:=SZ_w10.out);(have:=SZ_w11.out);(have:=SZ_w12.out);(have:=SZ_w13.out);(have h1a:=h1_.1);(have h1b:=h1_.2);(have h2a:=h2_.1);(have h2b:=h2_.2);omega))));clear HG_w13;clear hs hb hk HX1_w13 HD_w13;(have HT14:=A_ True.intro))|(go_at_call 12;(have HT_:=HT14.out);clear HT14 HT_;(with_reducible refine (QE.out _ _ _ _ _ _ _ HG_w14.out (show Kd.C k28 _ _ _ _∧_ from ⟨cb_ HV.out.1 HD_w14.out,HV.out.2⟩)).mono ?_);rintro e w15 ⟨rfl,hb⟩;(have HG_w15:=A_ (Kd.S_below HG_w14.out hb));clear HG_w14;(have HD_w15:=A_ (bp_ HD_w14.out hb));clear HD_w14;(have SZ_w15:=A_ hb.size);clear hb;(have HT15:=A_ True.intro))|(go_at_call 14;(have HT_:=HT15.out);clear HT15 HT_;(with_reducible refine (laws_markNodeS.callsT k _ _ _ _ g g' 1 mm w4 _ HD_w15.out HG_w15.out QB.out).mono ?_);rintro e w16 ⟨rfl,hs,hb,hk⟩;(have HG_w16:=A_ hs);(have HD_w16:=A_ hb);(have SZ_w16:=A_ hk.1);clear hs hb hk HG_w15 HD_w15;(have HT16:=A_ True.intro))|(go_at_call 20;(have HT_:=HT16.out);clear HT16 HT_;(with_reducible refine (QH.out _ _ _ _ _ HG_w16.out).mono ?_);rintro e w17 ⟨rfl,hb⟩;(have HG_w17:=A_ (Kd.S_below HG_w16.out hb));clear HG_w16;(have HD_w17:=A_ (bp_ HD_w16.out hb));clear HD_w16;(have SZ_w17:=A_ hb.size);clear hb;(have HT17:=A_ True.intro))|(go_at_call 8;(have HT_:=HT17.out);clear HT17 HT_;(with_reducible refine (QT0.out _ (HB3.out.trans (HD_w17.out.mono HB3.out.size))).mono ?_);rintro e w18 ⟨Z0A,Z0c,rfl,hs,hb⟩;(have HZ0_w18:=A_ hs);(have HG_w18:=A_ (Kd.S_below HG_w17.out hb));clear HG_w17;(have HD_w18:=A_ (bp_ HD_w17.out hb));clear HD_w17;(have SZ_w18:=A_ hb.size);clear hs hb;(have HT18:=A_ True.intro))|(go_at_call 9;(have HT_:=HT18.out);clear HT18 HT_;(with_reducible refine (QT1.out _ (HB3.out.trans (HD_w18.out.mono HB3.out.size))).mono ?_);rintro e w19 ⟨Z1A,Z1c,rfl,hs,hb⟩;(have HZ1_w19:=A_ hs);(have HZ0_w19:=A_ (Kd.S_below HZ0_w18.out hb));clear HZ0_w18;(have HG_w19:=A_ (Kd.S_below HG_w18.out hb));clear HG_w18;(have HD_w19:=A_ (bp_ HD_w18.out hb));clear HD_w18;(have SZ_w19:=A_ hb.size);clear hs hb;(have HT19:=A_ True.intro))|(go_at_call 22;(have HT_:=HT19.out);clear HT19 HT_;(with_reducible refine (QI.out _ _ _ _ _ _ _ _ _ HZ0_w19.out HZ1_w19.out).mono ?_);rintro e w20 ⟨HA_,Hc_,rfl,hs,hb⟩;(have HH:=A_ hs);(have HG_w20:=A_ (Kd.S_below HG_w19.out hb));clear HG_w19;(have HD_w20:=A_ (bp_ HD_w19.out hb));clear HD_w19;(have SZ_w20:=A_ hb.size);clear hs hb HZ0_w19 HZ1_w19;(have HT20:=A_ True.intro))|(go_at_call 12;(have HT_:=HT20.out);clear HT20 HT_;(with_reducible refine (QE.out _ _ _ _ _ _ _ HH.out (show Kd.C k28 _ _ _ _∧_ from ⟨cb_ HV.out.1 HD_w20.out,HV.out.2⟩)).mono ?_);rintro e w21 ⟨rfl,hb⟩;(have HG_w21:=A_ (Kd.S_below HG_w20.out hb));clear HG_w20;(have HD_w21:=A_ (bp_ HD_w20.out hb));clear HD_w20;(have SZ_w21:=A_ hb.size);clear hb HH;(have HT21:=A_ True.intro))|(go_at_call 20;(have HT_:=HT21.out);clear HT21 HT_;(with_reducible refine (QH.out _ _ _ _ _ HG_w21.out).mono ?_);rintro e w22 ⟨rfl,hb⟩;(have HG_w22:=A_ (Kd.S_below HG_w21.out hb));clear HG_w21;(have HD_w22:=A_ (bp_ HD_w21.out hb));clear HD_w21;(have SZ_w22:=A_ hb.size);clear hb;(have HT22:=A_ True.intro)))
 go_ret
 exact ⟨rfl,HB3.out.trans (HD_w22.out.mono HB3.out.size)⟩
end Go.Proofs.Ytbeplhbkoaopgaa.PFnExactRemoveAt
