/- By a program of this session, out of the kit's print and contracts made by hand: the machine side of a law; Lean checks it. No conditions. -/
import Derived.Test.YtbeplhbkoaopgaaPFnExactSetWordsx0
import Derived.Test.YtbeplhbkoaopgaaPFnExactSetWordsx8
import Derived.Test.YtbeplhbkoaopgaaPFnExactSetWordsx18
import Derived.Test.YtbeplhbkoaopgaaPFnExactSetWordsx21
namespace Go.Proofs.Ytbeplhbkoaopgaa.PFnExactSetWords
open Go.RowKit Go.Proofs.YtbeplhbkoaopgaaW.PrintWords Go.Proofs.YtbeplhbkoaopgaaW.PrintLast Go.Proofs.YtbeplhbkoaopgaaW.PrintMore
attribute [local go_sem] max2_int min2_int max_two min_two max_three min_three max_four min_four
set_option linter.unusedVariables false
set_option linter.unusedSimpArgs false
/-! ### impl_find: function 29, by hand -/
/-- The node at a path; the row in which it lies; the tree with that row changed. -/
def atPath:List S28→List Int→Option S28
 | _,[]=>none
 | xs,[i]=>if 0≤i∧i<(xs.length:Int) then some (xs.getD i.toNat z28) else none
 | xs,i :: j :: ps=>if 0≤i∧i<(xs.length:Int) then atPath (xs.getD i.toNat z28).f5 (j :: ps) else none
def rowAt:List S28→List Int→List S28
 | xs,[]=>xs
 | xs,[_]=>xs
 | xs,i :: j :: ps=>rowAt (xs.getD i.toNat z28).f5 (j :: ps)
def updAt:List S28→List Int→List S28→List S28
 | _,[],ys=>ys
 | _,[_],ys=>ys
 | xs,i :: j :: ps,ys=>xs.set i.toNat ⟨(xs.getD i.toNat z28).f0,(xs.getD i.toNat z28).f1,(xs.getD i.toNat z28).f2,(xs.getD i.toNat z28).f3,(xs.getD i.toNat z28).f4,updAt (xs.getD i.toNat z28).f5 (j :: ps) ys⟩
/-- The kids of element i lent, and put back changed, with new blocks (fr) of their own. -/
theorem nodeKids {base g n cap:Nat} {ok:Nat→Prop} {W:World} {xs:List S28} (h:Kd.S kTN 28 W base ok (.slice (some ⟨g,0,none⟩) n cap) xs) (i:Int) (h0:0≤i) (h1:i<n) (x:S28) (hx:rd_T28 xs i=x) :
 ∃ (A5:Option Addr) (c5:Nat) (q:Nat→Prop),W.cell? ⟨g,i.toNat * 6+5,none⟩=some (.slice A5 x.f5.length c5)∧Kd.S kTN 28 W base q (.slice A5 x.f5.length c5) x.f5∧(∀ k,q k→ok k∧k≠g) ∧
  ∀ (W1:World) (ys:List S28) (fr:Nat→Prop),(∀ k,fr k→W.heap.size≤k)→Kept W W1 q→Kd.S kTN 28 W1 base (fun k=>q k∨fr k) (.slice A5 x.f5.length c5) ys→Kd.S kTN 28 W1 base (fun k=>ok k∨fr k) (.slice (some ⟨g,0,none⟩) n cap) (xs.set i.toNat ⟨x.f0,x.f1,x.f2,x.f3,x.f4,ys⟩):=by
 have hB:=Kd.S_mono (Kd.S_bound h) (ok':=fun k=>ok k∧k<W.heap.size) (fun k hk=>⟨hk.1,hk.2.2.1⟩)
 obtain ⟨oki,c,hcl,hM,hcc,hfr,hoki,hH⟩:=Kd.S_elem hB z28 i h0 h1
 have hx':xs.getD i.toNat z28=x:=hx
 rw [hx'] at hM
 obtain ⟨v4,v5,pp,rfl,g4,g5⟩:=kTN_openM hM
 obtain ⟨A4,c4,rfl⟩:=Kd.R_slice g4
 obtain ⟨A5,c5,rfl⟩:=Kd.S_slice g5
 refine ⟨A5,c5,_,hcc 5 _ rfl,g5,fun k hk=>⟨(hoki k hk.1).1.1,(hoki k hk.1).2⟩,fun W1 ys fr hf hk hr=>?_⟩
 have nf:∀ k,oki k→¬ fr k:=fun k hk h2=>by have h3:=(hoki k hk).1.2;have h4:=hf k h2;omega
 have hH2:Kd.H kTN 28 W base (fun k=>ok k∨fr k) (.slice (some ⟨g,0,none⟩) n cap) xs i (fun k=>oki k∨fr k) [.int .i64 x.f0,.int .i64 x.f1,.string x.f2,.string x.f3,.slice A4 x.f4.length c4,.slice A5 x.f5.length c5] :=
  Kd.H_more (okg:=fr) (Kd.H_mono hH (fun k hk=>⟨.inl hk.1,fun h2=>by have h3:=hk.2;have h4:=hf k h2;omega⟩)) (fun k hk=>.inr hk)
 refine Kd.H_back (Kd.H_step hH2 (fun k _ hn hlt=>hk.2 k hlt (fun h2=>hn (.inl h2.1)))) (x':=(⟨x.f0,x.f1,x.f2,x.f3,x.f4,ys⟩:S28)) (okp:=fun k=>oki k∨fr k) (kTN_mkM _ _ _ (fun k=>pp k∧¬ fr k) (⟨x.f0,x.f1,x.f2,x.f3,x.f4,ys⟩:S28) ?_ ?_) (fun k hk=>hk)
 ·exact Kd.R_mono (Kd.R_kept g4 hk (fun k h2 h3=>h3.2 h2.2)) (fun k h2=>⟨.inl h2.1,h2.2,nf k h2.1⟩)
 ·exact Kd.S_mono hr (fun k h2=>h2.elim (fun h3=>⟨.inl h3.1,fun h4=>h3.2 h4.1⟩) (fun h3=>⟨.inr h3,fun h4=>h4.2 h3⟩))
theorem atPath_none (xs:List S28) (i:Int) (ps:List Int) (h:¬ (0≤i∧i<(xs.length:Int))):atPath xs (i :: ps)=none:=by
 cases ps with
 | nil=>rw [atPath,if_neg h]
 | cons j ps=>rw [atPath,if_neg h]
/-- The node's row is one of the tree's own; the node's place in it; a changed row put back. -/
def Foc (W:World) (base:Nat) (ok:Nat→Prop) (v:Value) (xs:List S28) (path:List Int) (p:Addr) (x:S28):Prop :=
 ∃ (g n cap:Nat) (okq:Nat→Prop) (i:Nat),p=⟨g,i * 6,none⟩∧i<n∧okq g∧(∀ k,okq k→ok k)∧Kd.S kTN 28 W base okq (.slice (some ⟨g,0,none⟩) n cap) (rowAt xs path)∧path.getLast? = some (i:Int)∧(rowAt xs path).getD i z28=x∧∀ (W1:World) (ys:List S28) (fr:Nat→Prop),(∀ k,fr k→W.heap.size≤k)→Kept W W1 okq→Kd.S kTN 28 W1 base (fun k=>okq k∨fr k) (.slice (some ⟨g,0,none⟩) n cap) ys→Kd.S kTN 28 W1 base (fun k=>ok k∨fr k) v (updAt xs path ys)
def findRes (W:World) (base:Nat) (ok:Nat→Prop) (v:Value) (xs:List S28) (path:List Int) (r:Value):Option S28→Prop
 | none=>r=.pointer none
 | some x=>∃ p,r=.pointer (some p)∧Foc W base ok v xs path p x
/-- Where the walk stands: the row at hand, what puts it back, what is left of the path. -/
def findInv (w:World) (base:Nat) (ok:Nat→Prop) (v:Value) (xs:List S28) (path:List Int) (cur:List S28) (A:Option Addr) (c:Nat) (rest:List Int) (pv:Value):Prop :=
 ∃ (okq:Nat→Prop) (plug:List S28→List S28),Kd.S kTN 28 w base okq (.slice A cur.length c) cur∧(∀ k,okq k→ok k)∧(∀ (W1:World) (ys:List S28) (fr:Nat→Prop),(∀ k,fr k→w.heap.size≤k)→Kept w W1 okq→Kd.S kTN 28 W1 base (fun k=>okq k∨fr k) (.slice A cur.length c) ys→Kd.S kTN 28 W1 base (fun k=>ok k∨fr k) v (plug ys)) ∧
  (rest≠[]→atPath xs path=atPath cur rest∧rowAt xs path=rowAt cur rest∧path.getLast? = rest.getLast? ∧ ∀ ys,updAt xs path ys=plug (updAt cur rest ys)) ∧
  (rest=[]→findRes w base ok v xs path pv (atPath xs path))
theorem findInv_end {w:World} {base:Nat} {ok:Nat→Prop} {v:Value} {xs:List S28} {path:List Int} {cur:List S28} {A:Option Addr} {c:Nat} {rest:List Int} {pv:Value} (h:findInv w base ok v xs path cur A c rest pv) (hr:rest=[]):findRes w base ok v xs path pv (atPath xs path):=by
 obtain ⟨_,_,_,_,_,_,h⟩:=h
 exact h hr
set_option maxHeartbeats 4000000 in
theorem find_step (w:World) (base:Nat) (ok:Nat→Prop) (v:Value) (xs:List S28) (path:List Int) (cur:List S28) (A:Option Addr) (c:Nat) (i:Int) (ps:List Int) (pv:Value) (h:findInv w base ok v xs path cur A c (i :: ps) pv) (h0:0≤i) (h1:i<(cur.length:Int)) :
 ∃ (g:Nat) (A5:Option Addr) (c5:Nat),A=some ⟨g,0,none⟩∧w.cell? ⟨g,i.toNat * 6+5,none⟩=some (.slice A5 (rd_T28 cur i).f5.length c5)∧findInv w base ok v xs path (rd_T28 cur i).f5 A5 c5 ps (.pointer (some ⟨g,i.toNat * 6,none⟩)):=by
 obtain ⟨okq,plug,hS,hok,hwand,hrest,_⟩:=h
 obtain ⟨e1,e2,e3,e4⟩:=hrest (by simp)
 obtain ⟨g,cap,ev,_,_,_⟩:=Kd.S_form hS (by omega)
 injection ev with ev1 _ ev2
 subst ev1
 have hgq:okq g:=(Kd.S_R hS).1 g (by simp [Value.ownBlock])
 obtain ⟨x,hx⟩:∃ x,rd_T28 cur i=x:=⟨_,rfl⟩
 obtain ⟨A5,c5,q,u5,hq,hqk,hqw⟩:=nodeKids hS i h0 h1 x hx
 have hxd:cur.getD i.toNat z28=x:=hx
 rw [hx]
 refine ⟨g,A5,c5,rfl,u5,q,fun ys=>plug (cur.set i.toNat ⟨x.f0,x.f1,x.f2,x.f3,x.f4,ys⟩),hq,fun k hk=>hok k (hqk k hk).1,fun W1 ys fr hf hk hs=>hwand W1 _ fr hf (hk.mono (fun k hk2=>(hqk k hk2).1)) (hqw W1 ys fr hf hk hs),?_,?_⟩
 ·intro hne
  cases ps with
  | nil=>exact absurd rfl hne
  | cons j ps =>
   rw [e1,e2,e3,atPath,if_pos ⟨h0,h1⟩,rowAt,hxd]
   refine ⟨rfl,rfl,List.getLast?_cons_cons,fun ys=>?_⟩
   rw [e4,updAt,hxd]
 ·intro hps
  subst hps
  rw [e1,atPath,if_pos ⟨h0,h1⟩,hxd]
  refine ⟨_,rfl,g,cur.length,c,okq,i.toNat,rfl,by omega,hgq,hok,?_,?_,?_,?_⟩
  ·rw [e2];exact hS
  ·rw [e3];simp;omega
  ·rw [e2];exact hxd
  ·intro W1 ys fr hf hk hs
   rw [e4]
   exact hwand W1 ys fr hf hk hs
set_option maxHeartbeats 8000000 in
set_option maxRecDepth 100000 in
theorem find_calls (A0:Option Addr) (c0:Nat) (xs:List S28) (A1:Option Addr) (c1:Nat) (path:List Int) (base:Nat) (ok:Nat→Prop) (w:World) (hS:Kd.S kTN 28 w base ok (.slice A0 xs.length c0) xs) (hp:Kd.C (Kd.int .i64) w A1 path.length path) :
 Calls Try.prog 29 #[.slice A0 xs.length c0,.slice A1 path.length c1] w fun e w'=>∃ r,e=.returned r∧findRes w base ok (.slice A0 xs.length c0) xs path r (atPath xs path)∧Below w.heap.size w w':=by
 obtain ⟨R,hR⟩:∃ R,atPath xs path=R:=⟨_,rfl⟩
 have HI:Aside0 (findInv w base ok (.slice A0 xs.length c0) xs path xs A0 c0 path (.pointer none)):=⟨ok,fun ys=>ys,hS,fun _ h=>h,fun W1 ys _ _ _ hs=>hs,fun _=>⟨rfl,rfl,rfl,fun _=>rfl⟩,fun he=>by rw [he,atPath];rfl⟩
 have HP:=A_ hp
 have HB0:=A_ (Below.refl w.heap.size w)
 have hL:path.length≤9223372036854775807:=hp.2.1
 have HLX:Aside0 (xs.length≤9223372036854775807):=⟨(S_readsT hS).2.2.2.1⟩
 clear hS hp hR
 go_enter Try.func29,Try.ntmps29
 go_wp2
 go_loopg [0,5,7,10] path.length (fun gg s0 s5 _ s10 wr=>∃ (kk:Nat) (cur:List S28) (A:Option Addr) (c:Nat) (pv:Value),kk≤path.length∧path.length - kk≤gg∧s0=.slice A cur.length c∧s5=pv∧s10=.int .i64 kk∧Aside0 (findInv w base ok (.slice A0 xs.length c0) xs path cur A c (path.drop kk) pv)∧Aside0 (Below w.heap.size w wr))
 case atStart=>exact ⟨0,xs,A0,c0,_,Nat.zero_le _,by omega,rfl,rfl,rfl,⟨by rw [List.drop_zero];exact HI.out⟩,HB0⟩
 case round =>
  obtain ⟨kk,cur,A,c,pv,hkk,hgg,rfl,rfl,rfl,HJ,BW⟩:=hrel
  by_cases hlt:kk<path.length
  case neg =>
   have hltz:¬ (kk:Int)<(path.length:Int):=by omega
   have HR:=A_ (findInv_end HJ.out (List.drop_eq_nil_of_le (by omega)))
   go_wp2
   go_ret
   exact ⟨_,rfl,HR.out,BW.out⟩
  case pos =>
   have hltz:(kk:Int)<(path.length:Int):=by omega
   obtain ⟨ad,e,hx⟩:=Kd.at_int HP.out (kk:Int) (by omega) (by omega)
   rw [Int.toNat_natCast] at hx
   subst e
   have r0:=pc_ BW.out hx
   obtain ⟨i,hi⟩:∃ i,rd path (kk:Int)=i:=⟨_,rfl⟩
   rw [hi] at r0 hx
   have hdr:path.drop kk=i :: path.drop (kk+1):=by
    rw [Kit.drop_getD 0 path kk hlt,←hi]
    simp [rd]
   have HJ2:=HJ.out
   rw [hdr] at HJ2
   have HLT:=A_ hlt
   have hcl:cur.length≤9223372036854775807:=by obtain ⟨_,_,h,_⟩:=HJ2;exact (S_readsT h).2.2.2.1
   have hw:wrap64 ((cur.length:Int) - 1)=(cur.length:Int) - 1:=Kit.wrap_of (by omega) (by omega)
   have QW:=A_ (fun W=>impl_within.calls i 0 ((cur.length:Int) - 1) _ W (within_now i 0 ((cur.length:Int) - 1)))
   by_cases hin:0≤i∧i<(cur.length:Int)
   case neg =>
    have hd:decide (0≤i∧i≤(cur.length:Int) - 1)=false:=df_ (by omega)
    rw [hd] at QW
    have HN:Aside0 (atPath xs path=none):=⟨by obtain ⟨_,_,_,_,_,h,_⟩:=HJ2;rw [(h (by simp)).1];exact atPath_none _ _ _ hin⟩
    clear HJ HJ2 hdr hx hd hlt hcl hin
    go_wp2_with (first|(go_at_call 48;(with_reducible refine (QW.out _).mono ?_);rintro e w2 ⟨rfl,⟨nd,rfl⟩⟩))
    go_ret
    exact ⟨_,rfl,by rw [HN.out];rfl,by first|exact BW.out|exact pd_ BW.out _⟩
   case pos =>
    have hd:decide (0≤i∧i≤(cur.length:Int) - 1)=true:=dt_ (by omega)
    rw [hd] at QW
    obtain ⟨g,A5,c5,rfl,hc5,hinv⟩:=find_step w base ok _ xs path cur A c i _ _ HJ2 hin.1 hin.2
    have HINV:=A_ hinv
    have h5:=pc_ BW.out hc5
    have p0:=eq_true hin.1
    have p1:=eq_true hin.2
    have p2:decide (0≤i)=true:=dt_ hin.1
    have p3:decide (i<(cur.length:Int))=true:=dt_ hin.2
    clear HJ HJ2 hdr hx hd hinv hc5 hlt hcl hin
    go_wp2_with (first|(go_at_call 48;(with_reducible refine (QW.out _).mono ?_);rintro e w2 ⟨rfl,⟨nd,rfl⟩⟩))
    go_roundg (path.length - (kk+1))
    case measure=>have:=HLT.out;omega
    case rel=>exact ⟨kk+1,(rd_T28 cur i).f5,A5,c5,_,by have:=HLT.out;omega,by omega,rfl,rfl,by go_num,HINV,by first|exact BW|exact ⟨pd_ BW.out _⟩⟩
/-- The tree with another node at a path. -/
def putAt (xs:List S28) (path:List Int) (x':S28):List S28:=updAt xs path ((rowAt xs path).set (path.getLast?.getD 0).toNat x')
theorem focCells {W W1:World} {base:Nat} {ok:Nat→Prop} {v:Value} {xs:List S28} {path:List Int} {p:Addr} {x:S28} (h:Foc W base ok v xs path p x) (hb:Below W.heap.size W W1) :
 ∃ (g i:Nat) (A4:Option Addr) (c4:Nat) (A5:Option Addr) (c5:Nat),p=⟨g,i * 6,none⟩∧W1.cell? ⟨g,i * 6,none⟩=some (.int .i64 x.f0)∧W1.cell? ⟨g,i * 6+1,none⟩=some (.int .i64 x.f1)∧W1.cell? ⟨g,i * 6+2,none⟩=some (.string x.f2)∧W1.cell? ⟨g,i * 6+3,none⟩=some (.string x.f3)∧W1.cell? ⟨g,i * 6+4,none⟩=some (.slice A4 x.f4.length c4)∧W1.cell? ⟨g,i * 6+5,none⟩=some (.slice A5 x.f5.length c5)∧W1.frozen? ⟨g,i * 6+3,none⟩=false∧W1.frozen? ⟨g,i * 6+5,none⟩=false∧(g<W.heap.size∧ok g) ∧
  Kd.C k71 W1 A4 x.f4.length x.f4∧x.f4.length≤c4∧Kd.C k28 W1 A5 x.f5.length x.f5∧x.f5.length≤c5 ∧
  (∀ m:ByteArray,Kd.S kTN 28 (W1.setCell ⟨g,i * 6+3,none⟩ (.string m)) base ok v (putAt xs path ⟨x.f0,x.f1,x.f2,m,x.f4,x.f5⟩)) ∧
  (∀ (A:Option Addr) (n c:Nat) (ks:List S28) (fr:Nat→Prop),(∀ k,fr k→W.heap.size≤k)→Kd.S kTN 28 W1 base fr (.slice A n c) ks→Kd.S kTN 28 (W1.setCell ⟨g,i * 6+5,none⟩ (.slice A n c)) base (fun k=>ok k∨fr k) v (putAt xs path ⟨x.f0,x.f1,x.f2,x.f3,x.f4,ks⟩)):=by
 obtain ⟨g,n,cap,okq,i,rfl,hin,hgq,hokq,hS,hlast,hx,hwand⟩:=h
 have hS1:=Kd.S_below hS hb
 have hgl:g<W.heap.size:=by
  obtain ⟨g',c',ev,_,h3,_⟩:=Kd.S_form hS (by have:=(Kd.S_reads' hS).1;omega)
  injection ev with ev _ _
  injection ev with ev
  injection ev with ev _ _
  rw [ev];exact h3
 have hrd:rd_T28 (rowAt xs path) (i:Int)=x:=by rw [←hx];simp [rd_T28]
 have hput:∀ x',putAt xs path x'=updAt xs path ((rowAt xs path).set i x'):=fun x'=>by unfold putAt;rw [hlast];simp
 obtain ⟨A4,c4,A5,c5,⟨u0,u1,u2,u3,u4,u5⟩,⟨f0,f1,f2,f3,f4,f5⟩,⟨_,_,_,hw3⟩,⟨pA,hA,_⟩,⟨qA,hK,_⟩⟩:=nodeCells (xs0:=rowAt xs path) hS1 (i:Int) (by omega) (by omega) (fun _=>rfl) x hrd
 rw [Int.toNat_natCast] at u0 u1 u2 u3 u4 u5 f3 f5
 refine ⟨g,i,A4,c4,A5,c5,rfl,u0,u1,u2,u3,u4,u5,f3,f5,⟨hgl,hokq g hgq⟩,(Kd.R_reads' hA).2.2,(Kd.R_reads' hA).2.1,(S_readsT hK).2.2,(S_readsT hK).2.1,fun m=>?_,fun A m c ks fr hfr hs=>?_⟩
 ·have h1:=(hw3 m).1
  rw [Int.toNat_natCast] at h1
  rw [hput]
  exact Kd.S_mono (hwand _ _ (fun _=>False) (fun _ hf=>hf.elim) ((Kept.of_below hb okq).setCell (p:=⟨g,i * 6+3,none⟩) (.inl hgq) _) (Kd.S_mono h1 (fun _ hk=>.inl hk))) (fun _ hk=>hk.elim (fun h=>h) (fun h=>h.elim))
 ·have hS2:=Kd.S_mono (Kd.S_bound (Kd.S_below (Kd.S_bound hS) hb)) (ok':=fun k=>(okq k∨fr k)∧¬ fr k) (fun k hk=>⟨.inl hk.1.1,fun hf=>by have h1:=hk.1.2.2.1;have h2:=hfr k hf;omega⟩)
  obtain ⟨oki,c',hcl,hM,hcc,hfz,hoki,hH⟩:=Kd.S_elem hS2 z28 (i:Int) (by omega) (by omega)
  have hx':(rowAt xs path).getD (i:Int).toNat z28=x:=by rw [Int.toNat_natCast];exact hx
  rw [hx'] at hM
  obtain ⟨v4,v5,pp,rfl,g4,_⟩:=kTN_openM hM
  have hM2:kTN.M W1 base (fun k=>oki k∨fr k) (⟨x.f0,x.f1,x.f2,x.f3,x.f4,ks⟩:S28) [.int .i64 x.f0,.int .i64 x.f1,.string x.f2,.string x.f3,v4,.slice A m c] :=
   kTN_mkM _ _ _ (fun k=>pp k∧¬ fr k) (⟨x.f0,x.f1,x.f2,x.f3,x.f4,ks⟩:S28) (Kd.R_mono g4 (fun k hk=>⟨.inl hk.1,hk.2,(hoki k hk.1).1.2⟩)) (Kd.S_mono hs (fun k hk=>⟨.inr hk,fun h=>h.2 hk⟩))
  have hseg:=(Kd.S_seg (okg:=fr) (okp:=fun k=>oki k∨fr k) hH (by omega) (by omega) (seg:=[.slice A m c]) (j:=5) (show 5+1≤6 from Nat.le_refl 6) (x':=(⟨x.f0,x.f1,x.f2,x.f3,x.f4,ks⟩:S28)) hM2 (fun k hk=>hk) (fun k hk=>⟨.inr hk,fun e=>by have h2:=hfr k hk;omega⟩)).1
  rw [hput]
  rw [Int.toNat_natCast] at hseg
  exact hwand _ _ fr hfr ((Kept.of_below hb okq).setCell (p:=⟨g,i * 6+5,none⟩) (.inl hgq) _) hseg
/-! ### IndexFunc_string: function 60, by hand -/
set_option maxHeartbeats 1000000 in
/-- slices.IndexFunc at this type, whatever the predicate: the first place at which it holds. -/
theorem IndexFunc_string.holds (A:Option Addr) (n c:Nat) (v:Nat→Value) (p:Nat→Bool) (g:Nat) (lb:Array Value) (eg:∀ args w,(callFunc g args).run Try.prog w=.ok (.enter g args) w) (w:World)
 (hp:∀ j,j<n→∀ W,Below w.heap.size w W→Calls Try.prog g (#[v j]++lb) W fun e w'=>e=.returned (.bool (p j))∧Below w.heap.size w w')
 (hbig:n≤9223372036854775807) (hc:∀ j,j<n→∃ ad,A=some ad∧w.cell? (ad.add j)=some (v j)) :
 Calls Try.prog 60 #[.slice A n c,.func (.func g) #[] lb] w fun e w'=>e=.returned (.int .i64 (Mach.idxP p n))∧Below w.heap.size w w':=by
 have HC:=A_ hc
 have HP:=A_ hp
 clear hc hp
 go_enter Try.func60,Try.ntmps60
 go_wp2
 go_loopg [5,8] n (fun gg _ s8 wr=>∃ kk:Nat,kk≤n∧n - kk≤gg∧s8=.int .i64 kk∧Aside0 (Below w.heap.size w wr)∧Aside0 (∀ j,j<kk→p j=false))
 case atStart=>exact ⟨0,Nat.zero_le _,by omega,rfl,⟨Below.refl _ w⟩,⟨fun j hj=>absurd hj (Nat.not_lt_zero _)⟩⟩
 case round =>
  obtain ⟨kk,hkk,hg,rfl,BW,AA⟩:=hrel
  by_cases hlt:kk<n
  ·have hltz:(kk:Int)<(n:Int):=by omega
   obtain ⟨ad,e,l1⟩:=HC.out kk hlt
   cases e
   have l2:wr.cell? (ad.add kk)=some (v kk):=pc_ BW.out l1
   clear l1
   have hcall:=HP.out kk hlt wr BW.out
   cases hq:p kk with
   | true =>
    rw [hq] at hcall
    go_wp2_with ((with_reducible refine hcall.mono ?_);rintro e w' ⟨rfl,hb'⟩)
    go_ret
    refine ⟨?_,hb'⟩
    rw [Mach.idxP_hit p n kk hlt hq AA.out]
    rfl
   | false =>
    rw [hq] at hcall
    go_wp2_with ((with_reducible refine hcall.mono ?_);rintro e w' ⟨rfl,hb'⟩)
    go_roundg (n - (kk+1))
    case measure=>omega
    case rel =>
     refine ⟨kk+1,by omega,by omega,by go_num,⟨hb'⟩,⟨fun j hj=>?_⟩⟩
     by_cases e:j=kk
     ·subst e;exact hq
     ·exact AA.out j (by omega)
  ·have hltz:¬ (kk:Int)<(n:Int):=by omega
   have:kk=n:=by omega
   subst this
   go_wp2
   go_ret
   refine ⟨?_,BW.out⟩
   rw [Mach.idxP_miss p kk AA.out]
   rfl
/-! ### ContainsFunc_string: function 51, by hand -/
/-- slices.ContainsFunc at this type, whatever the predicate. -/
theorem ContainsFunc_string.holds (A:Option Addr) (n c:Nat) (v:Nat→Value) (p:Nat→Bool) (g:Nat) (lb:Array Value) (eg:∀ args w,(callFunc g args).run Try.prog w=.ok (.enter g args) w) (w:World)
 (hp:∀ j,j<n→∀ W,Below w.heap.size w W→Calls Try.prog g (#[v j]++lb) W fun e w'=>e=.returned (.bool (p j))∧Below w.heap.size w w')
 (hbig:n≤9223372036854775807) (hc:∀ j,j<n→∃ ad,A=some ad∧w.cell? (ad.add j)=some (v j)) :
 Calls Try.prog 51 #[.slice A n c,.func (.func g) #[] lb] w fun e w'=>e=.returned (.bool (Mach.anyP p n))∧Below w.heap.size w w':=by
 rw [←Mach.idxP_any]
 have hcall:=IndexFunc_string.holds A n c v p g lb eg w hp hbig hc
 clear hc hp
 go_enter Try.func51,Try.ntmps51
 go_wp2_with (go_at_call 60;refine hcall.mono ?_;rintro e w' ⟨rfl,hb'⟩)
 go_ret
 exact ⟨rfl,hb'⟩
/-! ### impl_isLong: function 38, by hand -/
def impl_isLong.f (l0:List ByteArray):Option Bool:=if l0.length≤9223372036854775807 then some (l0.any fun t=>decide (65536<(t.size:Int))) else none
theorem impl_isLong.lit (t:ByteArray) (w:World):Calls Try.prog 52 #[.string t] w fun e w'=>e=.returned (.bool (decide (65536<(t.size:Int))))∧Below w.heap.size w w':=by
 go_enter Try.func52,Try.ntmps52
 go_wp2
 go_ret
 exact ⟨rfl,Below.refl _ _⟩
theorem impl_isLong.calls (A0:Option Addr) (c0:Nat) (l0:List ByteArray) (r:Bool) (w:World) (hr0:Kd.C Kd.string w A0 l0.length l0) (hc0:l0.length≤c0) (h:impl_isLong.f l0=some r) :
 Calls Try.prog 38 #[.slice A0 l0.length c0] w fun e w'=>e=.returned (.bool r)∧Below w.heap.size w w':=by
 unfold impl_isLong.f at h
 obtain ⟨hn,h⟩:=Option.ite_none_right_eq_some.mp h
 obtain rfl:=oi_ h
 have hcall:=ContainsFunc_string.holds A0 l0.length c0 (fun j=>.string (l0.getD j ByteArray.empty)) (fun j=>decide (65536<((l0.getD j ByteArray.empty).size:Int))) 52 #[] (Mach.enters_of Try.func52 (by kernel_rfl) rfl) w
  (fun j _ W hb=>(impl_isLong.lit _ W).mono fun e w' ⟨he,hb'⟩=>⟨he,hb.trans (hb'.mono hb.size)⟩) hn
  (fun j hj=>by
   obtain ⟨ad,e,hx⟩:=Kd.at_string hr0 (j:Int) (by omega) (by omega)
   exact ⟨ad,e,by simpa [rdOf] using hx⟩)
 rw [Mach.anyP_list (fun t:ByteArray=>decide (65536<(t.size:Int)))] at hcall
 clear hr0
 go_enter Try.func38,Try.ntmps38
 go_wp2_with (go_at_call 51;refine hcall.mono ?_;rintro e w' ⟨rfl,hb'⟩)
 go_ret
 exact ⟨rfl,hb'⟩
/-- One text, in the slice that its caller has just built. -/
theorem impl_isLong.one (a1:ByteArray) (W:World):Calls Try.prog 38 #[.slice (some ⟨W.heap.size,0,none⟩) 1 1] (W.alloc (.cells #[.string a1] 9)) fun e w'=>e=.returned (.bool (decide (65536<(a1.size:Int))))∧Below (W.alloc (.cells #[.string a1] 9)).heap.size (W.alloc (.cells #[.string a1] 9)) w' :=
 impl_isLong.calls (some ⟨W.heap.size,0,none⟩) 1 [a1] (decide (65536<(a1.size:Int))) (W.alloc (.cells #[.string a1] 9)) ⟨rfl,by simp,fun _=>⟨_,rfl,fun j p hj=>by
  cases j with
  | succ j=>simp at hj
  | zero =>
   obtain rfl:a1=p:=by simpa using hj
   exact ⟨[.string a1],rfl,rfl,fun i u hi=>by
    cases i with
    | succ i=>simp at hi
    | zero =>
     simp at hi
     rw [←hi,add_plain]
     simp⟩⟩⟩ (Nat.le_refl _) (by unfold impl_isLong.f;rw [if_pos (by simp)];simp)
/-! ### slices_Index_string_string: function 85 -/
def slices_Index_string_string.l0:Nat→List ByteArray→ByteArray→Int→Int→Option (Int)
 | 0,_,_,_,_=>none
 | k+1,x0,x1,x7,x8=>if x8<x7 then (if 0≤x8 then (if x8<(x0.length:Int) then (if x1.toList=(rdOf ByteArray.empty x0 x8).toList then (some x8) else (slices_Index_string_string.l0 k x0 x1 x7 (wrap64 (x8+1)))) else (none)) else (none)) else (some (-1))
def slices_Index_string_string.f (k:Nat) (l0:List ByteArray) (a1:ByteArray):Option (Int):=slices_Index_string_string.l0 k l0 a1 (l0.length:Int) 0
theorem slices_Index_string_string.mono_l:∀ k,(∀ y0 y1 y2 y3,LeO (slices_Index_string_string.l0 k y0 y1 y2 y3) (slices_Index_string_string.l0 (k+1) y0 y1 y2 y3))
 | 0=>fun _ _ _ _ r h=>by simp [slices_Index_string_string.l0] at h
 | k+1=>by
  have ih0:=slices_Index_string_string.mono_l k
  ·intro y0 y1 y2 y3
   unfold slices_Index_string_string.l0
   repeat' first
   | (with_reducible exact ih0 _ _ _ _)
   | (with_reducible exact LeO.refl _)
   | (with_reducible exact LeO.none _)
   | (with_reducible refine LeO.ite ?_ ?_)
   | (with_reducible refine LeO.bind ?_ (fun _=>?_))
   | exact ih0 _ _ _ _
   | exact LeO.none _
   | refine LeO.ite ?_ ?_
   | refine LeO.bind ?_ (fun _=>?_)
theorem slices_Index_string_string.mono:∀ a0 a1 k,LeO (slices_Index_string_string.f k a0 a1) (slices_Index_string_string.f (k+1) a0 a1):=by
 intro a0 a1 k
 have ih0:=slices_Index_string_string.mono_l k
 unfold slices_Index_string_string.f
 repeat' first
  | (with_reducible exact ih0 _ _ _ _)
  | (with_reducible exact LeO.refl _)
  | (with_reducible exact LeO.none _)
  | (with_reducible refine LeO.ite ?_ ?_)
  | (with_reducible refine LeO.bind ?_ (fun _=>?_))
  | exact ih0 _ _ _ _
  | exact LeO.none _
  | refine LeO.ite ?_ ?_
  | refine LeO.bind ?_ (fun _=>?_)
set_option maxHeartbeats 8000000 in
set_option maxRecDepth 100000 in
theorem slices_Index_string_string.calls (k:Nat) (A0:Option Addr) (c0:Nat) (l0:List ByteArray) (a1:ByteArray) (r:Int) (w:World) (hr0:Kd.C Kd.string w A0 l0.length l0) (hc0:l0.length≤c0) (h:slices_Index_string_string.f k l0 a1=some r) :
 Calls Try.prog 85 #[.slice A0 l0.length c0,.string a1] w fun e w'=>e=.returned (.int .i64 r)∧Drawn0 w w':=by
 have HR0:=A_ hr0
 have HC0:=A_ hc0
 clear hr0 hc0
 have H:(slices_Index_string_string.l0 k l0 a1 (l0.length:Int) 0)=some r:=h
 clear h
 have H':=A_ H
 clear H
 go_enter Try.func85,Try.ntmps85
 go_wp2
 go_loopg [8] k (fun kq v8 w'=>∃ (x8_1:Int),v8=.int .i64 x8_1∧Aside0 (slices_Index_string_string.l0 kq l0 a1 (l0.length:Int) x8_1=some r)∧Aside0 (kq≤k)∧Drawn0 w w')
 case atStart=>exact ⟨(0),(by first|rfl|(simp;done)|(simp [*];done)),H',⟨Nat.le_refl _⟩,by repeat (first|exact dr_ _|apply dp_)⟩
 case round =>
  clear H'
  try clear p2
  obtain ⟨x8_1,rfl,HA,HK1,⟨m1,rfl⟩⟩:=hrel
  cases gk with
  | zero=>exact absurd HA.out (by simp [slices_Index_string_string.l0])
  | succ k1 =>
   have H:=HA.out
   clear HA
   simp only [slices_Index_string_string.l0] at H
   by_cases c3:x8_1<(l0.length:Int)
   ·rw [if_pos c3] at H
    have c3b0:decide (x8_1<(l0.length:Int))=true:=dt_ c3
    clear c3
    by_cases c4:0≤x8_1
    ·rw [if_pos c4] at H
     have c4b0:decide (0≤x8_1)=true:=dt_ c4
     clear c4
     by_cases c5:x8_1<(l0.length:Int)
     ·rw [if_pos c5] at H
      have c5b0:decide (x8_1<(l0.length:Int))=true:=dt_ c5
      clear c5
      by_cases c6:a1.toList=(rdOf ByteArray.empty l0 x8_1).toList
      ·rw [if_pos c6] at H
       have c6b0:(a1.toList == (rdOf ByteArray.empty l0 x8_1).toList)=true:=beq_iff_eq.mpr c6
       have c6b1:(a1.toList != (rdOf ByteArray.empty l0 x8_1).toList)=false:=bne_eq_false_iff_eq.mpr c6
       clear c6
       obtain rfl:=oi_ H
       have p269:0≤(x8_1:Int):=od_ (by first|(with_reducible assumption)|assumption)
       have q269:x8_1<(l0.length:Int):=od_ (by first|(with_reducible assumption)|assumption)
       obtain ⟨ad269,e269,hx269_0⟩:=Kd.at_string HR0.out x8_1 p269 q269
       cases e269
       replace p269:=eq_true p269
       replace q269:=eq_true q269
       go_wp2
       go_ret
       exact ⟨by first|rfl|(simp;done)|(simp [*];done),by repeat (first|exact dr_ _|apply dp_)⟩
      ·rw [if_neg c6] at H
       have c6b0:(a1.toList == (rdOf ByteArray.empty l0 x8_1).toList)=false:=beq_eq_false_iff_ne.mpr c6
       have c6b1:(a1.toList != (rdOf ByteArray.empty l0 x8_1).toList)=true:=bne_iff_ne.mpr c6
       have H':=A_ H
       clear H
       have p269:0≤(x8_1:Int):=od_ (by first|(with_reducible assumption)|assumption)
       have q269:x8_1<(l0.length:Int):=od_ (by first|(with_reducible assumption)|assumption)
       obtain ⟨ad269,e269,hx269_0⟩:=Kd.at_string HR0.out x8_1 p269 q269
       cases e269
       replace p269:=eq_true p269
       replace q269:=eq_true q269
       go_wp2
       go_roundg k1
       case measure=>have:=HK1.out;omega
       case rel=>exact ⟨(wrap64 (x8_1+1)),(by first|rfl|(simp;done)|(simp [*];done)),H',⟨by have:=HK1.out;omega⟩,by repeat (first|exact dr_ _|apply dp_)⟩
     ·rw [if_neg c5] at H
      exact absurd H (by simp)
    ·rw [if_neg c4] at H
     exact absurd H (by simp)
   ·rw [if_neg c3] at H
    have c3b0:decide (x8_1<(l0.length:Int))=false:=df_ c3
    clear c3
    obtain rfl:=oi_ H
    go_wp2
    go_ret
    exact ⟨by first|rfl|(simp;done)|(simp [*];done),by repeat (first|exact dr_ _|apply dp_)⟩
end Go.Proofs.Ytbeplhbkoaopgaa.PFnExactSetWords
