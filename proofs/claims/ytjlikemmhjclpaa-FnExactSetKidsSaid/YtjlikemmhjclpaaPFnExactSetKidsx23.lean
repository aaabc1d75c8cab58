/- By a program of this session, out of the kit's print and contracts made by hand: the machine side of a law; Lean checks it. No conditions. -/
import Derived.Test.YtjlikemmhjclpaaPFnExactSetKidsx0
import Derived.Test.YtjlikemmhjclpaaPFnExactSetKidsx13
import Derived.Test.YtjlikemmhjclpaaPFnExactSetKidsx16
import Derived.Test.YtjlikemmhjclpaaPFnExactSetKidsx19
import Derived.Test.YtjlikemmhjclpaaPFnExactSetKidsx22
namespace Go.Proofs.Ytjlikemmhjclpaa.PFnExactSetKids
open Go.RowKit Go.Proofs.YtjlikemmhjclpaaW.PrintWords Go.Proofs.YtjlikemmhjclpaaW.PrintLast Go.Proofs.YtjlikemmhjclpaaW.PrintMore
attribute [local go_sem] max2_int min2_int max_two min_two max_three min_three max_four min_four
set_option linter.unusedVariables false
set_option linter.unusedSimpArgs false
/-! ### impl_find: function 48, by hand -/
/-- The node at a path; the row in which it lies; the tree with that row changed. -/
def atPath:List S44→List Int→Option S44
 | _,[]=>none
 | xs,[i]=>if 0≤i∧i<(xs.length:Int) then some (xs.getD i.toNat z44) else none
 | xs,i :: j :: ps=>if 0≤i∧i<(xs.length:Int) then atPath (xs.getD i.toNat z44).f5 (j :: ps) else none
def rowAt:List S44→List Int→List S44
 | xs,[]=>xs
 | xs,[_]=>xs
 | xs,i :: j :: ps=>rowAt (xs.getD i.toNat z44).f5 (j :: ps)
def updAt:List S44→List Int→List S44→List S44
 | _,[],ys=>ys
 | _,[_],ys=>ys
 | xs,i :: j :: ps,ys=>xs.set i.toNat ⟨(xs.getD i.toNat z44).f0,(xs.getD i.toNat z44).f1,(xs.getD i.toNat z44).f2,(xs.getD i.toNat z44).f3,(xs.getD i.toNat z44).f4,updAt (xs.getD i.toNat z44).f5 (j :: ps) ys⟩
/-- The kids of element i lent, and put back changed, with new blocks (fr) of their own. -/
theorem nodeKids {base g n cap:Nat} {ok:Nat→Prop} {W:World} {xs:List S44} (h:Kd.S kTN 44 W base ok (.slice (some ⟨g,0,none⟩) n cap) xs) (i:Int) (h0:0≤i) (h1:i<n) (x:S44) (hx:rd_T44 xs i=x) :
 ∃ (A5:Option Addr) (c5:Nat) (q:Nat→Prop),W.cell? ⟨g,i.toNat * 6+5,none⟩=some (.slice A5 x.f5.length c5)∧Kd.S kTN 44 W base q (.slice A5 x.f5.length c5) x.f5∧(∀ k,q k→ok k∧k≠g) ∧
  ∀ (W1:World) (ys:List S44) (fr:Nat→Prop),(∀ k,fr k→W.heap.size≤k)→Kept W W1 q→Kd.S kTN 44 W1 base (fun k=>q k∨fr k) (.slice A5 x.f5.length c5) ys→Kd.S kTN 44 W1 base (fun k=>ok k∨fr k) (.slice (some ⟨g,0,none⟩) n cap) (xs.set i.toNat ⟨x.f0,x.f1,x.f2,x.f3,x.f4,ys⟩):=by
 have hB:=Kd.S_mono (Kd.S_bound h) (ok':=fun k=>ok k∧k<W.heap.size) (fun k hk=>⟨hk.1,hk.2.2.1⟩)
 obtain ⟨oki,c,hcl,hM,hcc,hfr,hoki,hH⟩:=Kd.S_elem hB z44 i h0 h1
 have hx':xs.getD i.toNat z44=x:=hx
 rw [hx'] at hM
 obtain ⟨v4,v5,pp,rfl,g4,g5⟩:=kTN_openM hM
 obtain ⟨A4,c4,rfl⟩:=Kd.R_slice g4
 obtain ⟨A5,c5,rfl⟩:=Kd.S_slice g5
 refine ⟨A5,c5,_,hcc 5 _ rfl,g5,fun k hk=>⟨(hoki k hk.1).1.1,(hoki k hk.1).2⟩,fun W1 ys fr hf hk hr=>?_⟩
 have nf:∀ k,oki k→¬ fr k:=fun k hk h2=>by have h3:=(hoki k hk).1.2;have h4:=hf k h2;omega
 have hH2:Kd.H kTN 44 W base (fun k=>ok k∨fr k) (.slice (some ⟨g,0,none⟩) n cap) xs i (fun k=>oki k∨fr k) [.int .i64 x.f0,.int .i64 x.f1,.string x.f2,.string x.f3,.slice A4 x.f4.length c4,.slice A5 x.f5.length c5] :=
  Kd.H_more (okg:=fr) (Kd.H_mono hH (fun k hk=>⟨.inl hk.1,fun h2=>by have h3:=hk.2;have h4:=hf k h2;omega⟩)) (fun k hk=>.inr hk)
 refine Kd.H_back (Kd.H_step hH2 (fun k _ hn hlt=>hk.2 k hlt (fun h2=>hn (.inl h2.1)))) (x':=(⟨x.f0,x.f1,x.f2,x.f3,x.f4,ys⟩:S44)) (okp:=fun k=>oki k∨fr k) (kTN_mkM _ _ _ (fun k=>pp k∧¬ fr k) (⟨x.f0,x.f1,x.f2,x.f3,x.f4,ys⟩:S44) ?_ ?_) (fun k hk=>hk)
 ·exact Kd.R_mono (Kd.R_kept g4 hk (fun k h2 h3=>h3.2 h2.2)) (fun k h2=>⟨.inl h2.1,h2.2,nf k h2.1⟩)
 ·exact Kd.S_mono hr (fun k h2=>h2.elim (fun h3=>⟨.inl h3.1,fun h4=>h3.2 h4.1⟩) (fun h3=>⟨.inr h3,fun h4=>h4.2 h3⟩))
theorem atPath_none (xs:List S44) (i:Int) (ps:List Int) (h:¬ (0≤i∧i<(xs.length:Int))):atPath xs (i :: ps)=none:=by
 cases ps with
 | nil=>rw [atPath,if_neg h]
 | cons j ps=>rw [atPath,if_neg h]
/-- The node's row is one of the tree's own; the node's place in it; a changed row put back. -/
def Foc (W:World) (base:Nat) (ok:Nat→Prop) (v:Value) (xs:List S44) (path:List Int) (p:Addr) (x:S44):Prop :=
 ∃ (g n cap:Nat) (okq:Nat→Prop) (i:Nat),p=⟨g,i * 6,none⟩∧i<n∧okq g∧(∀ k,okq k→ok k)∧Kd.S kTN 44 W base okq (.slice (some ⟨g,0,none⟩) n cap) (rowAt xs path)∧path.getLast? = some (i:Int)∧(rowAt xs path).getD i z44=x∧∀ (W1:World) (ys:List S44) (fr:Nat→Prop),(∀ k,fr k→W.heap.size≤k)→Kept W W1 okq→Kd.S kTN 44 W1 base (fun k=>okq k∨fr k) (.slice (some ⟨g,0,none⟩) n cap) ys→Kd.S kTN 44 W1 base (fun k=>ok k∨fr k) v (updAt xs path ys)
def findRes (W:World) (base:Nat) (ok:Nat→Prop) (v:Value) (xs:List S44) (path:List Int) (r:Value):Option S44→Prop
 | none=>r=.pointer none
 | some x=>∃ p,r=.pointer (some p)∧Foc W base ok v xs path p x
/-- Where the walk stands: the row at hand, what puts it back, what is left of the path. -/
def findInv (w:World) (base:Nat) (ok:Nat→Prop) (v:Value) (xs:List S44) (path:List Int) (cur:List S44) (A:Option Addr) (c:Nat) (rest:List Int) (pv:Value):Prop :=
 ∃ (okq:Nat→Prop) (plug:List S44→List S44),Kd.S kTN 44 w base okq (.slice A cur.length c) cur∧(∀ k,okq k→ok k)∧(∀ (W1:World) (ys:List S44) (fr:Nat→Prop),(∀ k,fr k→w.heap.size≤k)→Kept w W1 okq→Kd.S kTN 44 W1 base (fun k=>okq k∨fr k) (.slice A cur.length c) ys→Kd.S kTN 44 W1 base (fun k=>ok k∨fr k) v (plug ys)) ∧
  (rest≠[]→atPath xs path=atPath cur rest∧rowAt xs path=rowAt cur rest∧path.getLast? = rest.getLast? ∧ ∀ ys,updAt xs path ys=plug (updAt cur rest ys)) ∧
  (rest=[]→findRes w base ok v xs path pv (atPath xs path))
theorem findInv_end {w:World} {base:Nat} {ok:Nat→Prop} {v:Value} {xs:List S44} {path:List Int} {cur:List S44} {A:Option Addr} {c:Nat} {rest:List Int} {pv:Value} (h:findInv w base ok v xs path cur A c rest pv) (hr:rest=[]):findRes w base ok v xs path pv (atPath xs path):=by
 obtain ⟨_,_,_,_,_,_,h⟩:=h
 exact h hr
set_option maxHeartbeats 4000000 in
theorem find_step (w:World) (base:Nat) (ok:Nat→Prop) (v:Value) (xs:List S44) (path:List Int) (cur:List S44) (A:Option Addr) (c:Nat) (i:Int) (ps:List Int) (pv:Value) (h:findInv w base ok v xs path cur A c (i :: ps) pv) (h0:0≤i) (h1:i<(cur.length:Int)) :
 ∃ (g:Nat) (A5:Option Addr) (c5:Nat),A=some ⟨g,0,none⟩∧w.cell? ⟨g,i.toNat * 6+5,none⟩=some (.slice A5 (rd_T44 cur i).f5.length c5)∧findInv w base ok v xs path (rd_T44 cur i).f5 A5 c5 ps (.pointer (some ⟨g,i.toNat * 6,none⟩)):=by
 obtain ⟨okq,plug,hS,hok,hwand,hrest,_⟩:=h
 obtain ⟨e1,e2,e3,e4⟩:=hrest (by simp)
 obtain ⟨g,cap,ev,_,_,_⟩:=Kd.S_form hS (by omega)
 injection ev with ev1 _ ev2
 subst ev1
 have hgq:okq g:=(Kd.S_R hS).1 g (by simp [Value.ownBlock])
 obtain ⟨x,hx⟩:∃ x,rd_T44 cur i=x:=⟨_,rfl⟩
 obtain ⟨A5,c5,q,u5,hq,hqk,hqw⟩:=nodeKids hS i h0 h1 x hx
 have hxd:cur.getD i.toNat z44=x:=hx
 rw [hx]
 refine ⟨g,A5,c5,rfl,u5,q,fun ys=>plug (cur.set i.toNat ⟨x.f0,x.f1,x.f2,x.f3,x.f4,ys⟩),hq,fun k hk=>hok k (hqk k hk).1,fun W1 ys fr hf hk hs=>hwand W1 _ fr hf (hk.mono (fun k hk2=>(hqk k hk2).1)) (hqw W1 ys fr hf hk hs),?_,?_⟩
 ·intro hne
  cases ps with
  | nil=>exact absurd rfl hne
  | cons j ps =>
   rw [e1,e2,e3,atPath,if_pos ⟨h0,h1⟩,rowAt,hxd]
   refine ⟨rfl,rfl,List.getLast?_cons_cons,fun ys=>?_⟩
   rw [e4,updAt,hxd]
 ·intro hps
  subst hps
  rw [e1,atPath,if_pos ⟨h0,h1⟩,hxd]
  refine ⟨_,rfl,g,cur.length,c,okq,i.toNat,rfl,by omega,hgq,hok,?_,?_,?_,?_⟩
  ·rw [e2];exact hS
  ·rw [e3];simp;omega
  ·rw [e2];exact hxd
  ·intro W1 ys fr hf hk hs
   rw [e4]
   exact hwand W1 ys fr hf hk hs
set_option maxHeartbeats 8000000 in
set_option maxRecDepth 100000 in
theorem find_calls (A0:Option Addr) (c0:Nat) (xs:List S44) (A1:Option Addr) (c1:Nat) (path:List Int) (base:Nat) (ok:Nat→Prop) (w:World) (hS:Kd.S kTN 44 w base ok (.slice A0 xs.length c0) xs) (hp:Kd.C (Kd.int .i64) w A1 path.length path) :
 Calls Try.prog 48 #[.slice A0 xs.length c0,.slice A1 path.length c1] w fun e w'=>∃ r,e=.returned r∧findRes w base ok (.slice A0 xs.length c0) xs path r (atPath xs path)∧Below w.heap.size w w':=by
 obtain ⟨R,hR⟩:∃ R,atPath xs path=R:=⟨_,rfl⟩
 have HI:Aside0 (findInv w base ok (.slice A0 xs.length c0) xs path xs A0 c0 path (.pointer none)):=⟨ok,fun ys=>ys,hS,fun _ h=>h,fun W1 ys _ _ _ hs=>hs,fun _=>⟨rfl,rfl,rfl,fun _=>rfl⟩,fun he=>by rw [he,atPath];rfl⟩
 have HP:=A_ hp
 have HB0:=A_ (Below.refl w.heap.size w)
 have hL:path.length≤9223372036854775807:=hp.2.1
 have HLX:Aside0 (xs.length≤9223372036854775807):=⟨(S_readsT hS).2.2.2.1⟩
 clear hS hp hR
 go_enter Try.func48,Try.ntmps48
 go_wp2
 go_loopg [0,5,7,10] path.length (fun gg s0 s5 _ s10 wr=>∃ (kk:Nat) (cur:List S44) (A:Option Addr) (c:Nat) (pv:Value),kk≤path.length∧path.length - kk≤gg∧s0=.slice A cur.length c∧s5=pv∧s10=.int .i64 kk∧Aside0 (findInv w base ok (.slice A0 xs.length c0) xs path cur A c (path.drop kk) pv)∧Aside0 (Below w.heap.size w wr))
 case atStart=>exact ⟨0,xs,A0,c0,_,Nat.zero_le _,by omega,rfl,rfl,rfl,⟨by rw [List.drop_zero];exact HI.out⟩,HB0⟩
 case round =>
  obtain ⟨kk,cur,A,c,pv,hkk,hgg,rfl,rfl,rfl,HJ,BW⟩:=hrel
  by_cases hlt:kk<path.length
  case neg =>
   have hltz:¬ (kk:Int)<(path.length:Int):=by omega
   have HR:=A_ (findInv_end HJ.out (List.drop_eq_nil_of_le (by omega)))
   go_wp2
   go_ret
   exact ⟨_,rfl,HR.out,BW.out⟩
  case pos =>
   have hltz:(kk:Int)<(path.length:Int):=by omega
   obtain ⟨ad,e,hx⟩:=Kd.at_int HP.out (kk:Int) (by omega) (by omega)
   rw [Int.toNat_natCast] at hx
   subst e
   have r0:=pc_ BW.out hx
   obtain ⟨i,hi⟩:∃ i,rd path (kk:Int)=i:=⟨_,rfl⟩
   rw [hi] at r0 hx
   have hdr:path.drop kk=i :: path.drop (kk+1):=by
    rw [Kit.drop_getD 0 path kk hlt,←hi]
    simp [rd]
   have HJ2:=HJ.out
   rw [hdr] at HJ2
   have HLT:=A_ hlt
   have hcl:cur.length≤9223372036854775807:=by obtain ⟨_,_,h,_⟩:=HJ2;exact (S_readsT h).2.2.2.1
   have hw:wrap64 ((cur.length:Int) - 1)=(cur.length:Int) - 1:=Kit.wrap_of (by omega) (by omega)
   have QW:=A_ (fun W=>impl_within.calls i 0 ((cur.length:Int) - 1) _ W (within_now i 0 ((cur.length:Int) - 1)))
   by_cases hin:0≤i∧i<(cur.length:Int)
   case neg =>
    have hd:decide (0≤i∧i≤(cur.length:Int) - 1)=false:=df_ (by omega)
    rw [hd] at QW
    have HN:Aside0 (atPath xs path=none):=⟨by obtain ⟨_,_,_,_,_,h,_⟩:=HJ2;rw [(h (by simp)).1];exact atPath_none _ _ _ hin⟩
    clear HJ HJ2 hdr hx hd hlt hcl hin
    go_wp2_with (first|(go_at_call 73;(with_reducible refine (QW.out _).mono ?_);rintro e w2 ⟨rfl,⟨nd,rfl⟩⟩))
    go_ret
    exact ⟨_,rfl,by rw [HN.out];rfl,by first|exact BW.out|exact pd_ BW.out _⟩
   case pos =>
    have hd:decide (0≤i∧i≤(cur.length:Int) - 1)=true:=dt_ (by omega)
    rw [hd] at QW
    obtain ⟨g,A5,c5,rfl,hc5,hinv⟩:=find_step w base ok _ xs path cur A c i _ _ HJ2 hin.1 hin.2
    have HINV:=A_ hinv
    have h5:=pc_ BW.out hc5
    have p0:=eq_true hin.1
    have p1:=eq_true hin.2
    have p2:decide (0≤i)=true:=dt_ hin.1
    have p3:decide (i<(cur.length:Int))=true:=dt_ hin.2
    clear HJ HJ2 hdr hx hd hinv hc5 hlt hcl hin
    go_wp2_with (first|(go_at_call 73;(with_reducible refine (QW.out _).mono ?_);rintro e w2 ⟨rfl,⟨nd,rfl⟩⟩))
    go_roundg (path.length - (kk+1))
    case measure=>have:=HLT.out;omega
    case rel=>exact ⟨kk+1,(rd_T44 cur i).f5,A5,c5,_,by have:=HLT.out;omega,by omega,rfl,rfl,by go_num,HINV,by first|exact BW|exact ⟨pd_ BW.out _⟩⟩
/-- The tree with another node at a path. -/
def putAt (xs:List S44) (path:List Int) (x':S44):List S44:=updAt xs path ((rowAt xs path).set (path.getLast?.getD 0).toNat x')
theorem focCells {W W1:World} {base:Nat} {ok:Nat→Prop} {v:Value} {xs:List S44} {path:List Int} {p:Addr} {x:S44} (h:Foc W base ok v xs path p x) (hb:Below W.heap.size W W1) :
 ∃ (g i:Nat) (A4:Option Addr) (c4:Nat) (A5:Option Addr) (c5:Nat),p=⟨g,i * 6,none⟩∧W1.cell? ⟨g,i * 6,none⟩=some (.int .i64 x.f0)∧W1.cell? ⟨g,i * 6+1,none⟩=some (.int .i64 x.f1)∧W1.cell? ⟨g,i * 6+2,none⟩=some (.string x.f2)∧W1.cell? ⟨g,i * 6+3,none⟩=some (.string x.f3)∧W1.cell? ⟨g,i * 6+4,none⟩=some (.slice A4 x.f4.length c4)∧W1.cell? ⟨g,i * 6+5,none⟩=some (.slice A5 x.f5.length c5)∧W1.frozen? ⟨g,i * 6+3,none⟩=false∧W1.frozen? ⟨g,i * 6+5,none⟩=false∧(g<W.heap.size∧ok g) ∧
  Kd.C k75 W1 A4 x.f4.length x.f4∧x.f4.length≤c4∧Kd.C k44 W1 A5 x.f5.length x.f5∧x.f5.length≤c5 ∧
  (∀ m:ByteArray,Kd.S kTN 44 (W1.setCell ⟨g,i * 6+3,none⟩ (.string m)) base ok v (putAt xs path ⟨x.f0,x.f1,x.f2,m,x.f4,x.f5⟩)) ∧
  (∀ (A:Option Addr) (n c:Nat) (ks:List S44) (fr:Nat→Prop),(∀ k,fr k→W.heap.size≤k)→Kd.S kTN 44 W1 base fr (.slice A n c) ks→Kd.S kTN 44 (W1.setCell ⟨g,i * 6+5,none⟩ (.slice A n c)) base (fun k=>ok k∨fr k) v (putAt xs path ⟨x.f0,x.f1,x.f2,x.f3,x.f4,ks⟩)):=by
 obtain ⟨g,n,cap,okq,i,rfl,hin,hgq,hokq,hS,hlast,hx,hwand⟩:=h
 have hS1:=Kd.S_below hS hb
 have hgl:g<W.heap.size:=by
  obtain ⟨g',c',ev,_,h3,_⟩:=Kd.S_form hS (by have:=(Kd.S_reads' hS).1;omega)
  injection ev with ev _ _
  injection ev with ev
  injection ev with ev _ _
  rw [ev];exact h3
 have hrd:rd_T44 (rowAt xs path) (i:Int)=x:=by rw [←hx];simp [rd_T44]
 have hput:∀ x',putAt xs path x'=updAt xs path ((rowAt xs path).set i x'):=fun x'=>by unfold putAt;rw [hlast];simp
 obtain ⟨A4,c4,A5,c5,⟨u0,u1,u2,u3,u4,u5⟩,⟨f0,f1,f2,f3,f4,f5⟩,⟨_,_,_,hw3⟩,⟨pA,hA,_⟩,⟨qA,hK,_⟩⟩:=nodeCells (xs0:=rowAt xs path) hS1 (i:Int) (by omega) (by omega) (fun _=>rfl) x hrd
 rw [Int.toNat_natCast] at u0 u1 u2 u3 u4 u5 f3 f5
 refine ⟨g,i,A4,c4,A5,c5,rfl,u0,u1,u2,u3,u4,u5,f3,f5,⟨hgl,hokq g hgq⟩,(Kd.R_reads' hA).2.2,(Kd.R_reads' hA).2.1,(S_readsT hK).2.2,(S_readsT hK).2.1,fun m=>?_,fun A m c ks fr hfr hs=>?_⟩
 ·have h1:=(hw3 m).1
  rw [Int.toNat_natCast] at h1
  rw [hput]
  exact Kd.S_mono (hwand _ _ (fun _=>False) (fun _ hf=>hf.elim) ((Kept.of_below hb okq).setCell (p:=⟨g,i * 6+3,none⟩) (.inl hgq) _) (Kd.S_mono h1 (fun _ hk=>.inl hk))) (fun _ hk=>hk.elim (fun h=>h) (fun h=>h.elim))
 ·have hS2:=Kd.S_mono (Kd.S_bound (Kd.S_below (Kd.S_bound hS) hb)) (ok':=fun k=>(okq k∨fr k)∧¬ fr k) (fun k hk=>⟨.inl hk.1.1,fun hf=>by have h1:=hk.1.2.2.1;have h2:=hfr k hf;omega⟩)
  obtain ⟨oki,c',hcl,hM,hcc,hfz,hoki,hH⟩:=Kd.S_elem hS2 z44 (i:Int) (by omega) (by omega)
  have hx':(rowAt xs path).getD (i:Int).toNat z44=x:=by rw [Int.toNat_natCast];exact hx
  rw [hx'] at hM
  obtain ⟨v4,v5,pp,rfl,g4,_⟩:=kTN_openM hM
  have hM2:kTN.M W1 base (fun k=>oki k∨fr k) (⟨x.f0,x.f1,x.f2,x.f3,x.f4,ks⟩:S44) [.int .i64 x.f0,.int .i64 x.f1,.string x.f2,.string x.f3,v4,.slice A m c] :=
   kTN_mkM _ _ _ (fun k=>pp k∧¬ fr k) (⟨x.f0,x.f1,x.f2,x.f3,x.f4,ks⟩:S44) (Kd.R_mono g4 (fun k hk=>⟨.inl hk.1,hk.2,(hoki k hk.1).1.2⟩)) (Kd.S_mono hs (fun k hk=>⟨.inr hk,fun h=>h.2 hk⟩))
  have hseg:=(Kd.S_seg (okg:=fr) (okp:=fun k=>oki k∨fr k) hH (by omega) (by omega) (seg:=[.slice A m c]) (j:=5) (show 5+1≤6 from Nat.le_refl 6) (x':=(⟨x.f0,x.f1,x.f2,x.f3,x.f4,ks⟩:S44)) hM2 (fun k hk=>hk) (fun k hk=>⟨.inr hk,fun e=>by have h2:=hfr k hk;omega⟩)).1
  rw [hput]
  rw [Int.toNat_natCast] at hseg
  exact hwand _ _ fr hfr ((Kept.of_below hb okq).setCell (p:=⟨g,i * 6+5,none⟩) (.inl hgq) _) hseg
/-! ### impl_element: function 27, by hand -/
def elemRes (W:World) (base:Nat) (ok:Nat→Prop) (v:Value) (xs:List S44) (path:List Int) (r:Value) (cd:Int):Option S44→Prop
 | none=>r=.pointer none∧cd=16
 | some x=>if x.f0=1 then cd=0∧∃ p,r=.pointer (some p)∧Foc W base ok v xs path p x else r=.pointer none∧cd=9
theorem elem_pos {W:World} {base:Nat} {ok:Nat→Prop} {v:Value} {xs:List S44} {path:List Int} {x:S44} {p:Addr} (h:x.f0=1) (hf:Foc W base ok v xs path p x):elemRes W base ok v xs path (.pointer (some p)) 0 (some x):=by
 show if x.f0=1 then _ else _
 rw [if_pos h]
 exact ⟨rfl,p,rfl,hf⟩
theorem elem_neg {W:World} {base:Nat} {ok:Nat→Prop} {v:Value} {xs:List S44} {path:List Int} {x:S44} (h:¬ x.f0=1):elemRes W base ok v xs path (.pointer none) 9 (some x):=by
 show if x.f0=1 then _ else _
 rw [if_neg h]
 exact ⟨rfl,rfl⟩
set_option maxHeartbeats 8000000 in
theorem element_calls (A0:Option Addr) (c0:Nat) (xs:List S44) (A1:Option Addr) (c1:Nat) (path:List Int) (base:Nat) (ok:Nat→Prop) (w:World) (hS:Kd.S kTN 44 w base ok (.slice A0 xs.length c0) xs) (hp:Kd.C (Kd.int .i64) w A1 path.length path) :
 Calls Try.prog 27 #[.slice A0 xs.length c0,.slice A1 path.length c1] w fun e w'=>∃ r cd,e=.returned (.tuple #[r,.int .i64 cd])∧elemRes w base ok (.slice A0 xs.length c0) xs path r cd (atPath xs path)∧Below w.heap.size w w':=by
 have QF:=A_ (find_calls A0 c0 xs A1 c1 path base ok w hS hp)
 clear hS hp
 generalize atPath xs path=R at *
 cases R with
 | none =>
  generalize xs.length=n0 at *
  generalize path.length=n1 at *
  go_enter Try.func27,Try.ntmps27
  go_wp2_with (go_at_call 48;(with_reducible refine QF.out.mono ?_);rintro e w1 ⟨r,rfl,hr,hb⟩;obtain rfl:=hr;(have HB:=A_ hb);clear hb)
  go_ret2
  exact ⟨_,_,rfl,⟨rfl,rfl⟩,HB.out⟩
 | some x =>
  by_cases h1:x.f0=1
  ·have z1:(x.f0 != 1)=false:=by simpa using h1
   have H1:=A_ h1
   clear h1
   go_enter Try.func27,Try.ntmps27
   go_wp2_with (go_at_call 48;(with_reducible refine QF.out.mono ?_);rintro e w1 ⟨r,rfl,⟨p,rfl,hf⟩,hb⟩;obtain ⟨g,i,A4,c4,A5,c5,rfl,u0,_⟩:=focCells hf hb;(have HF:=A_ hf);(have HB:=A_ hb);clear hf hb)
   go_ret2
   exact ⟨_,_,rfl,elem_pos H1.out HF.out,HB.out⟩
  ·have z1:(x.f0 != 1)=true:=by simpa using h1
   have H1:=A_ h1
   clear h1
   go_enter Try.func27,Try.ntmps27
   go_wp2_with (go_at_call 48;(with_reducible refine QF.out.mono ?_);rintro e w1 ⟨r,rfl,⟨p,rfl,hf⟩,hb⟩;obtain ⟨g,i,A4,c4,A5,c5,rfl,u0,_⟩:=focCells hf hb;(have HB:=A_ hb);clear hf hb)
   go_ret2
   exact ⟨_,_,rfl,elem_neg H1.out,HB.out⟩
/-! ### impl_edited: function 28, by hand -/
/-- What edited hands back: the tree that came in, or nil. -/
def edRes (b:Bool) (v:Value):Value:=if b then v else .slice none 0 0
theorem edited_calls (A0:Option Addr) (c0:Nat) (l0:List S44) (b:Bool) (w:World) (hr0:Kd.C k44 w A0 l0.length l0) (hc0:l0.length≤c0) (h:impl_TreeOK.f l0=some b) :
 Calls Try.prog 28 #[.slice A0 l0.length c0] w fun e w'=>e=.returned (.tuple #[edRes b (.slice A0 l0.length c0),.int .i64 (if b then 0 else 7)])∧Below w.heap.size w w':=by
 have QT:=A_ (impl_TreeOK.calls A0 c0 l0 b w hr0 hc0 h)
 clear hr0 hc0 h
 generalize l0.length=n0 at *
 cases b
 all_goals
  go_enter Try.func28,Try.ntmps28
  go_wp2_with (go_at_call 25;(with_reducible refine QT.out.mono ?_);rintro e w1 ⟨rfl,hb⟩;(have HB:=A_ hb);clear hb)
  go_ret2
  exact ⟨rfl,HB.out⟩
/-! ### impl_SetKids: function 9, by hand -/
theorem elem_neg' {W:World} {base:Nat} {ok:Nat→Prop} {v:Value} {xs:List S44} {path:List Int} {x:S44} {r:Value} {cd:Int} (h:¬ x.f0=1) (he:elemRes W base ok v xs path r cd (some x)):r=.pointer none∧cd=9:=by
 have h2:(if x.f0=1 then _ else _):=he
 rw [if_neg h] at h2
 exact h2
theorem elem_pos' {W:World} {base:Nat} {ok:Nat→Prop} {v:Value} {xs:List S44} {path:List Int} {x:S44} {r:Value} {cd:Int} (h:x.f0=1) (he:elemRes W base ok v xs path r cd (some x)):cd=0∧∃ p,r=.pointer (some p)∧Foc W base ok v xs path p x:=by
 have h2:(if x.f0=1 then _ else _):=he
 rw [if_pos h] at h2
 exact h2
def impl_SetKids.f (x0:List S44) (path:List Int) (kids:List S44):Option (List S44 × Int) :=
 if 4096<kids.length then some ([],2) else (impl_faultEdit.f x0 path).bind fun c=>if c=0 then (impl_TreeOK.f kids).bind fun b=>if b=true then (if x0.all (fewB 10)=true∧x0.length≤1048576∧kids.all (fewB 10)=true then (match atPath x0 path with
  | none=>some ([],16)
  | some x=>if x.f0=1 then (impl_TreeOK.f (putAt x0 path ⟨x.f0,x.f1,x.f2,x.f3,x.f4,kids⟩)).bind fun b2=>if b2=true then some ((putAt x0 path ⟨x.f0,x.f1,x.f2,x.f3,x.f4,kids⟩),0) else some ([],7) else some ([],9)) else none) else some ([],1) else some ([],c)
set_option maxHeartbeats 16000000 in
set_option maxRecDepth 1000000 in
theorem impl_SetKids.calls (A0:Option Addr) (c0:Nat) (x0:List S44) (A1:Option Addr) (c1:Nat) (path:List Int) (A2:Option Addr) (c2:Nat) (kids:List S44) (r1:List S44) (r2:Int) (w:World) (hr0:Kd.C k44 w A0 x0.length x0) (hc0:x0.length≤c0) (hr1:Kd.C (Kd.int .i64) w A1 path.length path) (hc1:path.length≤c1) (hr2:Kd.C k44 w A2 kids.length kids) (hc2:kids.length≤c2) (h:impl_SetKids.f x0 path kids=some (r1,r2)) :
 Calls Try.prog 9 #[.slice A0 x0.length c0,.slice A1 path.length c1,.slice A2 kids.length c2] w fun e w'=>∃ A c,e=.returned (.tuple #[.slice A r1.length c,.int .i64 r2])∧Kd.S kTN 44 w' w.heap.size (fun _=>True) (.slice A r1.length c) r1∧Below w.heap.size w w':=by
 unfold impl_SetKids.f at h
 have HB0:=A_ (Below.refl w.heap.size w)
 by_cases h4:4096<kids.length
 ·rw [if_pos h4] at h
  obtain ⟨rfl,rfl⟩:=Prod.mk.inj (oi_ h)
  have z1:decide ((kids.length:Int)>4096)=true:=dt_ (by omega)
  clear h h4 hr0 hc0 hr1 hc1 hr2 hc2
  generalize x0.length=n0 at *
  generalize path.length=n1 at *
  generalize kids.length=n2 at *
  go_enter Try.func9,Try.ntmps9
  go_wp2
  go_ret2
  exact ⟨none,0,rfl,Kd.S_nil _ _ _ _ _,HB0.out⟩
 rw [if_neg h4] at h
 have z1:decide ((kids.length:Int)>4096)=false:=df_ (by omega)
 obtain ⟨cd,hcd,h⟩:=ob_ h
 have QF:=A_ (impl_faultEdit.calls A0 c0 x0 A1 c1 path cd w hr0 hc0 hr1 hc1 hcd)
 by_cases hz:cd=0
 case neg =>
  rw [if_neg hz] at h
  obtain ⟨rfl,rfl⟩:=Prod.mk.inj (oi_ h)
  have hz1:(cd == 0)=false:=by simpa using hz
  have hz2:(cd != 0)=true:=by simpa using hz
  clear h hcd hr0 hc0 hr1 hc1 hr2 hc2 h4
  generalize x0.length=n0 at *
  generalize path.length=n1 at *
  generalize kids.length=n2 at *
  go_enter Try.func9,Try.ntmps9
  go_wp2_with (first|(go_at_call 24;(with_reducible refine QF.out.mono ?_);rintro e w1 ⟨rfl,hb⟩;(have HB1:=A_ hb);clear hb))
  go_ret2
  exact ⟨none,0,rfl,Kd.S_nil _ _ _ _ _,HB1.out⟩
 subst hz
 rw [if_pos rfl] at h
 obtain ⟨b,hb0,h⟩:=ob_ h
 have QT:Aside0 (∀ V,Below w.heap.size w V→Calls Try.prog 25 #[.slice A2 kids.length c2] V fun e w'=>e=.returned (.bool b)∧Below V.heap.size V w'):=⟨fun V hV=>impl_TreeOK.calls A2 c2 kids b V (cb_ hr2 hV) hc2 hb0⟩
 cases b with
 | false =>
  rw [if_neg Bool.false_ne_true] at h
  obtain ⟨rfl,rfl⟩:=Prod.mk.inj (oi_ h)
  clear h hcd hb0 hr0 hc0 hr1 hc1 hr2 hc2 h4
  generalize x0.length=n0 at *
  generalize path.length=n1 at *
  generalize kids.length=n2 at *
  go_enter Try.func9,Try.ntmps9
  go_wp2_with (first|(go_at_call 24;(with_reducible refine QF.out.mono ?_);rintro e w1 ⟨rfl,hb⟩;(have HB1:=A_ hb);clear hb)|(go_at_call 25;(with_reducible refine (QT.out _ HB1.out).mono ?_);rintro e w2 ⟨rfl,hb⟩;(have HB2:=A_ (bp_ HB1.out hb));clear hb))
  go_ret2
  exact ⟨none,0,rfl,Kd.S_nil _ _ _ _ _,HB2.out⟩
 | true =>
 rw [if_pos rfl] at h
 obtain ⟨⟨hd,hl,hk⟩,h⟩:=Option.ite_none_right_eq_some.mp h
 have QC:Aside0 (∀ V,Below w.heap.size w V→Calls Try.prog 26 #[.slice A0 x0.length c0] V fun e w'=>∃ A c,e=.returned (.slice A x0.length c)∧Kd.S kTN 44 w' V.heap.size (fun k=>V.heap.size≤k) (.slice A x0.length c) x0∧Below V.heap.size V w'):=⟨fun V hV=>((cloned_both 10).2 A0 c0 x0 V hd hl (cb_ hr0 hV)).mono fun e w' ⟨v,he,hs,hb⟩=>by
  obtain ⟨A,c,rfl⟩:=Kd.S_slice hs
  exact ⟨A,c,he,hs,hb⟩⟩
 have QK:Aside0 (∀ V,Below w.heap.size w V→Calls Try.prog 26 #[.slice A2 kids.length c2] V fun e w'=>∃ A c,e=.returned (.slice A kids.length c)∧Kd.S kTN 44 w' V.heap.size (fun k=>V.heap.size≤k) (.slice A kids.length c) kids∧Below V.heap.size V w'):=⟨fun V hV=>((cloned_both 10).2 A2 c2 kids V hk (by omega) (cb_ hr2 hV)).mono fun e w' ⟨v,he,hs,hb⟩=>by
  obtain ⟨A,c,rfl⟩:=Kd.S_slice hs
  exact ⟨A,c,he,hs,hb⟩⟩
 have QE:Aside0 (∀ V A c base ok,Below w.heap.size w V→Kd.S kTN 44 V base ok (.slice A x0.length c) x0→Calls Try.prog 27 #[.slice A x0.length c,.slice A1 path.length c1] V fun e w'=>∃ r cd,e=.returned (.tuple #[r,.int .i64 cd])∧elemRes V base ok (.slice A x0.length c) x0 path r cd (atPath x0 path)∧Below V.heap.size V w'):=⟨fun V A c base ok hV hs=>element_calls A c x0 A1 c1 path base ok V hs (cb_ hr1 hV)⟩
 clear hcd hb0 hr0 hc0 hr1 hc1 hr2 hc2 h4 hd hl hk
 generalize hR:atPath x0 path=R at *
 cases R with
 | none =>
  obtain ⟨rfl,rfl⟩:=Prod.mk.inj (oi_ h)
  clear h
  go_enter Try.func9,Try.ntmps9
  go_wp2_with (first|(go_at_call 24;(with_reducible refine QF.out.mono ?_);rintro e w1 ⟨rfl,hb⟩;(have HB1:=A_ hb);clear hb)|(go_at_call 25;(with_reducible refine (QT.out _ HB1.out).mono ?_);rintro e w2 ⟨rfl,hb⟩;(have HB2:=A_ (bp_ HB1.out hb));clear hb)|(go_at_call 26;(with_reducible refine (QC.out _ HB2.out).mono ?_);rintro e w3 ⟨A3,c3,rfl,hs,hb⟩;(have HS3:=A_ hs);(have HB3:=A_ (bp_ HB2.out hb));(have HZ3:=A_ HB2.out.size);(have HZ23:=A_ hb.size);clear hs hb)|(go_at_call 27;(with_reducible refine (QE.out _ _ _ _ _ HB3.out HS3.out).mono ?_);rintro e w4 ⟨r,cd,rfl,⟨rfl,rfl⟩,hb⟩;(have HB4:=A_ (bp_ HB3.out hb));(have HB34:=A_ hb);clear hb))
  go_ret2
  exact ⟨none,0,rfl,Kd.S_nil _ _ _ _ _,HB4.out⟩
 | some x =>
 by_cases h1:x.f0=1
 case neg =>
  replace h:=(if_neg h1).symm.trans h
  obtain ⟨rfl,rfl⟩:=Prod.mk.inj (oi_ h)
  clear h
  go_enter Try.func9,Try.ntmps9
  go_wp2_with (first|(go_at_call 24;(with_reducible refine QF.out.mono ?_);rintro e w1 ⟨rfl,hb⟩;(have HB1:=A_ hb);clear hb)|(go_at_call 25;(with_reducible refine (QT.out _ HB1.out).mono ?_);rintro e w2 ⟨rfl,hb⟩;(have HB2:=A_ (bp_ HB1.out hb));clear hb)|(go_at_call 26;(with_reducible refine (QC.out _ HB2.out).mono ?_);rintro e w3 ⟨A3,c3,rfl,hs,hb⟩;(have HS3:=A_ hs);(have HB3:=A_ (bp_ HB2.out hb));(have HZ3:=A_ HB2.out.size);(have HZ23:=A_ hb.size);clear hs hb)|(go_at_call 27;(with_reducible refine (QE.out _ _ _ _ _ HB3.out HS3.out).mono ?_);rintro e w4 ⟨r,cd,rfl,hel,hb⟩;obtain ⟨rfl,rfl⟩:=elem_neg' h1 hel;(have HB4:=A_ (bp_ HB3.out hb));(have HB34:=A_ hb);clear hb))
  go_ret2
  exact ⟨none,0,rfl,Kd.S_nil _ _ _ _ _,HB4.out⟩
 case pos =>
  replace h:=(if_pos h1).symm.trans h
  obtain ⟨b2,hb2,h⟩:=ob_ h
  have QD:Aside0 (∀ V A n c base ok,Kd.S kTN 44 V base ok (.slice A n c) (putAt x0 path ⟨x.f0,x.f1,x.f2,x.f3,x.f4,kids⟩)→Calls Try.prog 28 #[.slice A n c] V fun e w'=>e=.returned (.tuple #[edRes b2 (.slice A n c),.int .i64 (if b2 then 0 else 7)])∧Below V.heap.size V w'):=⟨fun V A n c base ok hs=>by
   obtain ⟨rfl,hle,hC⟩:=S_readsT hs
   exact edited_calls A c (putAt x0 path ⟨x.f0,x.f1,x.f2,x.f3,x.f4,kids⟩) b2 V hC hle hb2⟩
  clear hb2
  cases b2 with
  | false =>
   replace h:=(if_neg Bool.false_ne_true).symm.trans h
   obtain ⟨rfl,rfl⟩:=Prod.mk.inj (oi_ h)
   clear h
   go_enter Try.func9,Try.ntmps9
   go_wp2_with (first|(go_at_call 24;(with_reducible refine QF.out.mono ?_);rintro e w1 ⟨rfl,hb⟩;(have HB1:=A_ hb);clear hb)|(go_at_call 25;(with_reducible refine (QT.out _ HB1.out).mono ?_);rintro e w2 ⟨rfl,hb⟩;(have HB2:=A_ (bp_ HB1.out hb));clear hb)|(go_at_call 27;(with_reducible refine (QE.out _ _ _ _ _ HB3.out HS3.out).mono ?_);rintro e w4 ⟨r,cd,rfl,hel,hb⟩;obtain ⟨rfl,p,rfl,hf⟩:=elem_pos' h1 hel;(have HF:=A_ hf);obtain ⟨g,i,_,_,_,_,rfl,_⟩:=focCells hf hb;(have HB4:=A_ (bp_ HB3.out hb));(have HB34:=A_ hb);clear hb)|(go_at_call 28;(with_reducible refine (QD.out _ _ _ _ _ _ HS5.out).mono ?_);rintro e w6 ⟨rfl,hb⟩;(have HB6:=A_ (bp_ (bs_ HB5.out HGE.out) hb));(have HS6:=A_ (Kd.S_below HS5.out hb));clear hb)|(go_at_call 26;(with_reducible refine (QK.out _ HB4.out).mono ?_);rintro e w5 ⟨A5,c5,rfl,hs,hb⟩;obtain ⟨g',i',B4,d4,B5,d5,ep,u0,u1,u2,u3,u4,u5,f3,f5,hgl,_,_,_,_,_,wk⟩:=focCells HF.out (bp_ HB34.out hb);injection ep with e1 e2;(have e3:i=i':=by omega);subst e1;subst e3;(have HS5:=A_ (wk A5 kids.length c5 kids (fun k=>w4.heap.size≤k) (fun k hk=>Nat.le_trans HB34.out.size hk) (Kd.S_lower hs (Nat.le_trans HZ23.out HB34.out.size))));(have HGE:=A_ (Nat.le_trans HZ3.out hgl.2));(have HB5:=A_ (bp_ HB4.out hb));clear hs hb wk hgl u0 u1 u2 u3 u4 f3 e2)|(go_at_call 26;(with_reducible refine (QC.out _ HB2.out).mono ?_);rintro e w3 ⟨A3,c3,rfl,hs,hb⟩;(have HS3:=A_ hs);(have HB3:=A_ (bp_ HB2.out hb));(have HZ3:=A_ HB2.out.size);(have HZ23:=A_ hb.size);clear hs hb))
   go_ret2
   exact ⟨none,0,rfl,Kd.S_nil _ _ _ _ _,HB6.out⟩
  | true =>
   replace h:=(if_pos rfl).symm.trans h
   obtain ⟨rfl,rfl⟩:=Prod.mk.inj (oi_ h)
   clear h
   go_enter Try.func9,Try.ntmps9
   go_wp2_with (first|(go_at_call 24;(with_reducible refine QF.out.mono ?_);rintro e w1 ⟨rfl,hb⟩;(have HB1:=A_ hb);clear hb)|(go_at_call 25;(with_reducible refine (QT.out _ HB1.out).mono ?_);rintro e w2 ⟨rfl,hb⟩;(have HB2:=A_ (bp_ HB1.out hb));clear hb)|(go_at_call 27;(with_reducible refine (QE.out _ _ _ _ _ HB3.out HS3.out).mono ?_);rintro e w4 ⟨r,cd,rfl,hel,hb⟩;obtain ⟨rfl,p,rfl,hf⟩:=elem_pos' h1 hel;(have HF:=A_ hf);obtain ⟨g,i,_,_,_,_,rfl,_⟩:=focCells hf hb;(have HB4:=A_ (bp_ HB3.out hb));(have HB34:=A_ hb);clear hb)|(go_at_call 28;(with_reducible refine (QD.out _ _ _ _ _ _ HS5.out).mono ?_);rintro e w6 ⟨rfl,hb⟩;(have HB6:=A_ (bp_ (bs_ HB5.out HGE.out) hb));(have HS6:=A_ (Kd.S_below HS5.out hb));clear hb)|(go_at_call 26;(with_reducible refine (QK.out _ HB4.out).mono ?_);rintro e w5 ⟨A5,c5,rfl,hs,hb⟩;obtain ⟨g',i',B4,d4,B5,d5,ep,u0,u1,u2,u3,u4,u5,f3,f5,hgl,_,_,_,_,_,wk⟩:=focCells HF.out (bp_ HB34.out hb);injection ep with e1 e2;(have e3:i=i':=by omega);subst e1;subst e3;(have HS5:=A_ (wk A5 kids.length c5 kids (fun k=>w4.heap.size≤k) (fun k hk=>Nat.le_trans HB34.out.size hk) (Kd.S_lower hs (Nat.le_trans HZ23.out HB34.out.size))));(have HGE:=A_ (Nat.le_trans HZ3.out hgl.2));(have HB5:=A_ (bp_ HB4.out hb));clear hs hb wk hgl u0 u1 u2 u3 u4 f3 e2)|(go_at_call 26;(with_reducible refine (QC.out _ HB2.out).mono ?_);rintro e w3 ⟨A3,c3,rfl,hs,hb⟩;(have HS3:=A_ hs);(have HB3:=A_ (bp_ HB2.out hb));(have HZ3:=A_ HB2.out.size);(have HZ23:=A_ hb.size);clear hs hb))
   go_ret2
   have hlen:=(Kd.S_reads' HS6.out).1
   refine ⟨A3,c3,by rw [←hlen];rfl,?_,HB6.out⟩
   rw [←hlen]
   exact Kd.S_mono (Kd.S_lower HS6.out HZ3.out) (fun _ _=>trivial)
/-! ### laws_eqAttr: function 74 -/
def laws_eqAttr.f (a0_0:ByteArray) (a0_1:ByteArray) (a1_0:ByteArray) (a1_1:ByteArray):Option (Bool):=if a0_0.toList=a1_0.toList then (if a0_1.toList=a1_1.toList then (some true) else (some false)) else (some false)
set_option maxHeartbeats 8000000 in
set_option maxRecDepth 100000 in
theorem laws_eqAttr.calls (a0_0:ByteArray) (a0_1:ByteArray) (a1_0:ByteArray) (a1_1:ByteArray) (r:Bool) (w:World) (h:laws_eqAttr.f a0_0 a0_1 a1_0 a1_1=some r) :
 Calls Try.prog 74 #[.agg #[.string a0_0,.string a0_1],.agg #[.string a1_0,.string a1_1]] w fun e w'=>e=.returned (.bool r)∧Below w.heap.size w w':=by
 have hu75:=Try.underlying75
 have HB:=A_ (Below.refl w.heap.size w)
 have H:(if a0_0.toList=a1_0.toList then (if a0_1.toList=a1_1.toList then (some true) else (some false)) else (some false))=some r:=h
 clear h
 by_cases c3:a0_0.toList=a1_0.toList
 ·rw [if_pos c3] at H
  have c3b0:(a0_0.toList == a1_0.toList)=true:=beq_iff_eq.mpr c3
  have c3b1:(a0_0.toList != a1_0.toList)=false:=bne_eq_false_iff_eq.mpr c3
  clear c3
  by_cases c4:a0_1.toList=a1_1.toList
  ·rw [if_pos c4] at H
   have c4b0:(a0_1.toList == a1_1.toList)=true:=beq_iff_eq.mpr c4
   have c4b1:(a0_1.toList != a1_1.toList)=false:=bne_eq_false_iff_eq.mpr c4
   clear c4
   obtain rfl:=oi_ H
   go_enter Try.func74,Try.ntmps74
   go_wp2_with (first|((with_reducible refine gate_dst (N:=2) rfl ?_);refine box_event ?hg (N:=2) ?hd (cs:=#[.string a0_0,.string a0_1]) (t:=75) ?hr ?_;(case hd=>rfl);(case hg=>rfl);(case hr=>first|(go_simp;done)|(go_simp;rfl));intro gb285 hg w5 hbox hb;have n0_:=A_ (bp_ (by repeat (first|(with_reducible first|exact HB.out|apply ba_|apply pd_|apply b1_)|exact HB.out)) hb);have n1_:=A_ (hbox);have n2_:=A_ ((by rw [hg];exact (bz_ (by repeat (first|(with_reducible first|exact HB.out|apply ba_|apply pd_|apply b1_)|exact HB.out))):w.heap.size≤gb285));have n3_:=A_ ((by rw [hg];exact (bz_ (by repeat (first|(with_reducible first|exact HB.out|apply ba_|apply pd_|apply b1_)|exact HB.out))):w.heap.size≤gb285));clear HB;have HB:=n0_;have BK285:=n1_;have GW285:=n2_;have GE285:=n3_;clear n0_ n1_ n2_ n3_;clear hb hbox hg)|((with_reducible refine gate_dst (N:=3) rfl ?_);refine box_event ?hg (N:=3) ?hd (cs:=#[.string a1_0,.string a1_1]) (t:=75) ?hr ?_;(case hd=>rfl);(case hg=>rfl);(case hr=>first|(go_simp;done)|(go_simp;rfl));intro gb286 hg w6 hbox hb;have n0_:=A_ (kb_ (g:=gb285) (o:=.cells #[.string a0_0,.string a0_1] 75 (0,0)) (by (with_reducible repeat (first|refine kn_ ?_ _|refine kd_ ?_|refine ka_ ?_ _));exact BK285.out) hb);have n1_:=A_ (bp_ (by repeat (first|(with_reducible first|exact HB.out|apply ba_|apply pd_|apply b1_|refine bs_ ?_ GE285.out)|exact HB.out)) hb);have n2_:=A_ (hbox);have n3_:=A_ ((by rw [hg];exact (bz_ (by repeat (first|(with_reducible first|exact HB.out|apply ba_|apply pd_|apply b1_|refine bs_ ?_ GE285.out)|exact HB.out))):w.heap.size≤gb286));have n4_:=A_ ((by rw [hg];exact (bz_ (by repeat (first|(with_reducible first|exact HB.out|apply ba_|apply pd_|apply b1_|refine bs_ ?_ GE285.out)|exact HB.out))):w.heap.size≤gb286));have n5_:=A_ ((by rw [hg];exact Nat.ne_of_lt (blk_lt (g:=gb285) (o:=.cells #[.string a0_0,.string a0_1] 75 (0,0)) (by (with_reducible repeat (first|refine kn_ ?_ _|refine kd_ ?_|refine ka_ ?_ _));exact BK285.out)):gb285≠gb286));have n6_:=A_ ((by rw [hg];exact Nat.ne_of_gt (blk_lt (g:=gb285) (o:=.cells #[.string a0_0,.string a0_1] 75 (0,0)) (by (with_reducible repeat (first|refine kn_ ?_ _|refine kd_ ?_|refine ka_ ?_ _));exact BK285.out)):gb286≠gb285));clear BK285;clear HB;have BK285:=n0_;have HB:=n1_;have BK286:=n2_;have GW286:=n3_;have GE286:=n4_;have NB285_286:=n5_;have NB286_285:=n6_;clear n0_ n1_ n2_ n3_ n4_ n5_ n6_;clear hb hbox hg;have hnb7:=NB285_286.out;have hnc7:=NB286_285.out;have hcz8_0:w6.cell? ⟨gb285,0,none⟩=some (.string a0_0):=(bc_ BK285.out 0).trans rfl;have hcz8_1:w6.cell? ⟨gb285,1,none⟩=some (.string a0_1):=(bc_ BK285.out 1).trans rfl;have hfz8_0:=bf_ BK285.out 0;have hfz8_1:=bf_ BK285.out 1;have hcz9_0:w6.cell? ⟨gb286,0,none⟩=some (.string a1_0):=(bc_ BK286.out 0).trans rfl;have hcz9_1:w6.cell? ⟨gb286,1,none⟩=some (.string a1_1):=(bc_ BK286.out 1).trans rfl;have hfz9_0:=bf_ BK286.out 0;have hfz9_1:=bf_ BK286.out 1))
   go_ret
   exact ⟨by first|rfl|(simp [errW_none,errW_some] <;> rfl)|(simp [*,errW_none,errW_some] <;> rfl),by repeat (first|(with_reducible first|exact HB.out|apply ba_|apply pd_|apply b1_|refine bs_ ?_ GE285.out|refine bs_ ?_ GE286.out)|exact HB.out)⟩
  ·rw [if_neg c4] at H
   have c4b0:(a0_1.toList == a1_1.toList)=false:=beq_eq_false_iff_ne.mpr c4
   have c4b1:(a0_1.toList != a1_1.toList)=true:=bne_iff_ne.mpr c4
   obtain rfl:=oi_ H
   go_enter Try.func74,Try.ntmps74
   go_wp2_with (first|((with_reducible refine gate_dst (N:=2) rfl ?_);refine box_event ?hg (N:=2) ?hd (cs:=#[.string a0_0,.string a0_1]) (t:=75) ?hr ?_;(case hd=>rfl);(case hg=>rfl);(case hr=>first|(go_simp;done)|(go_simp;rfl));intro gb285 hg w10 hbox hb;have n0_:=A_ (bp_ (by repeat (first|(with_reducible first|exact HB.out|apply ba_|apply pd_|apply b1_)|exact HB.out)) hb);have n1_:=A_ (hbox);have n2_:=A_ ((by rw [hg];exact (bz_ (by repeat (first|(with_reducible first|exact HB.out|apply ba_|apply pd_|apply b1_)|exact HB.out))):w.heap.size≤gb285));have n3_:=A_ ((by rw [hg];exact (bz_ (by repeat (first|(with_reducible first|exact HB.out|apply ba_|apply pd_|apply b1_)|exact HB.out))):w.heap.size≤gb285));clear HB;have HB:=n0_;have BK285:=n1_;have GW285:=n2_;have GE285:=n3_;clear n0_ n1_ n2_ n3_;clear hb hbox hg)|((with_reducible refine gate_dst (N:=3) rfl ?_);refine box_event ?hg (N:=3) ?hd (cs:=#[.string a1_0,.string a1_1]) (t:=75) ?hr ?_;(case hd=>rfl);(case hg=>rfl);(case hr=>first|(go_simp;done)|(go_simp;rfl));intro gb286 hg w11 hbox hb;have n0_:=A_ (kb_ (g:=gb285) (o:=.cells #[.string a0_0,.string a0_1] 75 (0,0)) (by (with_reducible repeat (first|refine kn_ ?_ _|refine kd_ ?_|refine ka_ ?_ _));exact BK285.out) hb);have n1_:=A_ (bp_ (by repeat (first|(with_reducible first|exact HB.out|apply ba_|apply pd_|apply b1_|refine bs_ ?_ GE285.out)|exact HB.out)) hb);have n2_:=A_ (hbox);have n3_:=A_ ((by rw [hg];exact (bz_ (by repeat (first|(with_reducible first|exact HB.out|apply ba_|apply pd_|apply b1_|refine bs_ ?_ GE285.out)|exact HB.out))):w.heap.size≤gb286));have n4_:=A_ ((by rw [hg];exact (bz_ (by repeat (first|(with_reducible first|exact HB.out|apply ba_|apply pd_|apply b1_|refine bs_ ?_ GE285.out)|exact HB.out))):w.heap.size≤gb286));have n5_:=A_ ((by rw [hg];exact Nat.ne_of_lt (blk_lt (g:=gb285) (o:=.cells #[.string a0_0,.string a0_1] 75 (0,0)) (by (with_reducible repeat (first|refine kn_ ?_ _|refine kd_ ?_|refine ka_ ?_ _));exact BK285.out)):gb285≠gb286));have n6_:=A_ ((by rw [hg];exact Nat.ne_of_gt (blk_lt (g:=gb285) (o:=.cells #[.string a0_0,.string a0_1] 75 (0,0)) (by (with_reducible repeat (first|refine kn_ ?_ _|refine kd_ ?_|refine ka_ ?_ _));exact BK285.out)):gb286≠gb285));clear BK285;clear HB;have BK285:=n0_;have HB:=n1_;have BK286:=n2_;have GW286:=n3_;have GE286:=n4_;have NB285_286:=n5_;have NB286_285:=n6_;clear n0_ n1_ n2_ n3_ n4_ n5_ n6_;clear hb hbox hg;have hnb12:=NB285_286.out;have hnc12:=NB286_285.out;have hcz13_0:w11.cell? ⟨gb285,0,none⟩=some (.string a0_0):=(bc_ BK285.out 0).trans rfl;have hcz13_1:w11.cell? ⟨gb285,1,none⟩=some (.string a0_1):=(bc_ BK285.out 1).trans rfl;have hfz13_0:=bf_ BK285.out 0;have hfz13_1:=bf_ BK285.out 1;have hcz14_0:w11.cell? ⟨gb286,0,none⟩=some (.string a1_0):=(bc_ BK286.out 0).trans rfl;have hcz14_1:w11.cell? ⟨gb286,1,none⟩=some (.string a1_1):=(bc_ BK286.out 1).trans rfl;have hfz14_0:=bf_ BK286.out 0;have hfz14_1:=bf_ BK286.out 1))
   go_ret
   exact ⟨by first|rfl|(simp [errW_none,errW_some] <;> rfl)|(simp [*,errW_none,errW_some] <;> rfl),by repeat (first|(with_reducible first|exact HB.out|apply ba_|apply pd_|apply b1_|refine bs_ ?_ GE285.out|refine bs_ ?_ GE286.out)|exact HB.out)⟩
 ·rw [if_neg c3] at H
  have c3b0:(a0_0.toList == a1_0.toList)=false:=beq_eq_false_iff_ne.mpr c3
  have c3b1:(a0_0.toList != a1_0.toList)=true:=bne_iff_ne.mpr c3
  obtain rfl:=oi_ H
  go_enter Try.func74,Try.ntmps74
  go_wp2_with (first|((with_reducible refine gate_dst (N:=2) rfl ?_);refine box_event ?hg (N:=2) ?hd (cs:=#[.string a0_0,.string a0_1]) (t:=75) ?hr ?_;(case hd=>rfl);(case hg=>rfl);(case hr=>first|(go_simp;done)|(go_simp;rfl));intro gb285 hg w15 hbox hb;have n0_:=A_ (bp_ (by repeat (first|(with_reducible first|exact HB.out|apply ba_|apply pd_|apply b1_)|exact HB.out)) hb);have n1_:=A_ (hbox);have n2_:=A_ ((by rw [hg];exact (bz_ (by repeat (first|(with_reducible first|exact HB.out|apply ba_|apply pd_|apply b1_)|exact HB.out))):w.heap.size≤gb285));have n3_:=A_ ((by rw [hg];exact (bz_ (by repeat (first|(with_reducible first|exact HB.out|apply ba_|apply pd_|apply b1_)|exact HB.out))):w.heap.size≤gb285));clear HB;have HB:=n0_;have BK285:=n1_;have GW285:=n2_;have GE285:=n3_;clear n0_ n1_ n2_ n3_;clear hb hbox hg)|((with_reducible refine gate_dst (N:=3) rfl ?_);refine box_event ?hg (N:=3) ?hd (cs:=#[.string a1_0,.string a1_1]) (t:=75) ?hr ?_;(case hd=>rfl);(case hg=>rfl);(case hr=>first|(go_simp;done)|(go_simp;rfl));intro gb286 hg w16 hbox hb;have n0_:=A_ (kb_ (g:=gb285) (o:=.cells #[.string a0_0,.string a0_1] 75 (0,0)) (by (with_reducible repeat (first|refine kn_ ?_ _|refine kd_ ?_|refine ka_ ?_ _));exact BK285.out) hb);have n1_:=A_ (bp_ (by repeat (first|(with_reducible first|exact HB.out|apply ba_|apply pd_|apply b1_|refine bs_ ?_ GE285.out)|exact HB.out)) hb);have n2_:=A_ (hbox);have n3_:=A_ ((by rw [hg];exact (bz_ (by repeat (first|(with_reducible first|exact HB.out|apply ba_|apply pd_|apply b1_|refine bs_ ?_ GE285.out)|exact HB.out))):w.heap.size≤gb286));have n4_:=A_ ((by rw [hg];exact (bz_ (by repeat (first|(with_reducible first|exact HB.out|apply ba_|apply pd_|apply b1_|refine bs_ ?_ GE285.out)|exact HB.out))):w.heap.size≤gb286));have n5_:=A_ ((by rw [hg];exact Nat.ne_of_lt (blk_lt (g:=gb285) (o:=.cells #[.string a0_0,.string a0_1] 75 (0,0)) (by (with_reducible repeat (first|refine kn_ ?_ _|refine kd_ ?_|refine ka_ ?_ _));exact BK285.out)):gb285≠gb286));have n6_:=A_ ((by rw [hg];exact Nat.ne_of_gt (blk_lt (g:=gb285) (o:=.cells #[.string a0_0,.string a0_1] 75 (0,0)) (by (with_reducible repeat (first|refine kn_ ?_ _|refine kd_ ?_|refine ka_ ?_ _));exact BK285.out)):gb286≠gb285));clear BK285;clear HB;have BK285:=n0_;have HB:=n1_;have BK286:=n2_;have GW286:=n3_;have GE286:=n4_;have NB285_286:=n5_;have NB286_285:=n6_;clear n0_ n1_ n2_ n3_ n4_ n5_ n6_;clear hb hbox hg;have hnb17:=NB285_286.out;have hnc17:=NB286_285.out;have hcz18_0:w16.cell? ⟨gb285,0,none⟩=some (.string a0_0):=(bc_ BK285.out 0).trans rfl;have hcz18_1:w16.cell? ⟨gb285,1,none⟩=some (.string a0_1):=(bc_ BK285.out 1).trans rfl;have hfz18_0:=bf_ BK285.out 0;have hfz18_1:=bf_ BK285.out 1;have hcz19_0:w16.cell? ⟨gb286,0,none⟩=some (.string a1_0):=(bc_ BK286.out 0).trans rfl;have hcz19_1:w16.cell? ⟨gb286,1,none⟩=some (.string a1_1):=(bc_ BK286.out 1).trans rfl;have hfz19_0:=bf_ BK286.out 0;have hfz19_1:=bf_ BK286.out 1))
  go_ret
  exact ⟨by first|rfl|(simp [errW_none,errW_some] <;> rfl)|(simp [*,errW_none,errW_some] <;> rfl),by repeat (first|(with_reducible first|exact HB.out|apply ba_|apply pd_|apply b1_|refine bs_ ?_ GE285.out|refine bs_ ?_ GE286.out)|exact HB.out)⟩
end Go.Proofs.Ytjlikemmhjclpaa.PFnExactSetKids
