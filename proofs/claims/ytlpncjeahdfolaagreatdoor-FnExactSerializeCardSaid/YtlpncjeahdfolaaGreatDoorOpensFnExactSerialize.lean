/- The arguments of FnExactSerialize opened: what reads as data is of the printed kinds; its pure statement. No conditions. -/
import Derived.Test.YtlpncjeahdfolaaGreatDoorOpen
import Derived.Test.YtlpncjeahdfolaaGreatDoorPFnExactSerializex28
import Derived.KernelRfl
namespace Go.Proofs.YtlpncjeahdfolaaGreatDoor.PFnExactSerialize
open Go.RowKit Go.ChangeShapes Go.WideShapes Go.Proofs.YtlpncjeahdfolaaGreatDoorW.PrintWords
def G60 (x:S60):Prop:=Open.Short x.f0∧Open.Short x.f1
theorem opens60:∀ n,Open.Opens Tryz.prog 60 k60 G60 n:=by
 intro n0
 intro H enc w cs x h
 obtain ⟨xs,n,hn,_,hl,hlen,hf⟩:=DataW.trod_struct Tryz.underlying60 h
 have hl2:cs.length=2:=hl.trans (by kernel_rfl)
 clear hl
 obtain ⟨c0,c1,rfl⟩:=Open.list2 hl2
 obtain ⟨y0,e0⟩:=Open.field_of hlen hf 0 _ rfl
 replace e0:DataW.trod enc Tryz.prog w 0 (fun _=>true) true n 9 [c0]=some y0:=by
  rw [←e0]
  show _=DataW.trod enc Tryz.prog w 0 (fun _=>true) true n 9 (([c0,c1].drop 0).take (Tryz.prog.cellsOf 9))
  rw [(show Tryz.prog.cellsOf 9=1 by kernel_rfl)]
  rfl
 obtain ⟨y1,e1⟩:=Open.field_of hlen hf 1 _ rfl
 replace e1:DataW.trod enc Tryz.prog w 0 (fun _=>true) true n 9 [c1]=some y1:=by
  rw [←e1]
  show _=DataW.trod enc Tryz.prog w 0 (fun _=>true) true n 9 (([c0,c1].drop 1).take (Tryz.prog.cellsOf 9))
  rw [(show Tryz.prog.cellsOf 9=1 by kernel_rfl)]
  rfl
 obtain ⟨z0,K0,g0⟩:=(fun n=>Open.opens_string Tryz.underlying9 n) n H enc w _ _ e0
 injection (show [c0]=[.string z0] from K0) with q0 _
 subst q0
 obtain ⟨z1,K1,g1⟩:=(fun n=>Open.opens_string Tryz.underlying9 n) n H enc w _ _ e1
 injection (show [c1]=[.string z1] from K1) with q1 _
 subst q1
 exact ⟨⟨z0,z1⟩,k60_mk w ⟨z0,z1⟩,⟨g0,g1⟩⟩
inductive G33:S33→Prop
 | mk (x:S33):(Lit.int .i64 x.f0).wf=true→(Lit.int .i64 x.f1).wf=true→Open.Short x.f2→Open.Short x.f3→Open.Few (G60) x.f4→x.f5.length≤9223372036854775807→(∀ y∈x.f5,G33 y)→G33 x
theorem opens33:∀ n,Open.Opens Tryz.prog 33 k33 G33 n:=by
 intro n0
 induction n0 using Nat.strongRecOn with
 | _ n0 ih =>
 intro H enc w cs x h
 obtain ⟨xs,n,hn,_,hl,hlen,hf⟩:=DataW.trod_struct Tryz.underlying33 h
 have hl2:cs.length=6:=hl.trans (by kernel_rfl)
 clear hl
 obtain ⟨c0,c1,c2,c3,c4,c5,rfl⟩:=Open.list6 hl2
 obtain ⟨y0,e0⟩:=Open.field_of hlen hf 0 _ rfl
 replace e0:DataW.trod enc Tryz.prog w 0 (fun _=>true) true n 3 [c0]=some y0:=by
  rw [←e0]
  show _=DataW.trod enc Tryz.prog w 0 (fun _=>true) true n 3 (([c0,c1,c2,c3,c4,c5].drop 0).take (Tryz.prog.cellsOf 3))
  rw [(show Tryz.prog.cellsOf 3=1 by kernel_rfl)]
  rfl
 obtain ⟨y1,e1⟩:=Open.field_of hlen hf 1 _ rfl
 replace e1:DataW.trod enc Tryz.prog w 0 (fun _=>true) true n 3 [c1]=some y1:=by
  rw [←e1]
  show _=DataW.trod enc Tryz.prog w 0 (fun _=>true) true n 3 (([c0,c1,c2,c3,c4,c5].drop 1).take (Tryz.prog.cellsOf 3))
  rw [(show Tryz.prog.cellsOf 3=1 by kernel_rfl)]
  rfl
 obtain ⟨y2,e2⟩:=Open.field_of hlen hf 2 _ rfl
 replace e2:DataW.trod enc Tryz.prog w 0 (fun _=>true) true n 9 [c2]=some y2:=by
  rw [←e2]
  show _=DataW.trod enc Tryz.prog w 0 (fun _=>true) true n 9 (([c0,c1,c2,c3,c4,c5].drop 2).take (Tryz.prog.cellsOf 9))
  rw [(show Tryz.prog.cellsOf 9=1 by kernel_rfl)]
  rfl
 obtain ⟨y3,e3⟩:=Open.field_of hlen hf 3 _ rfl
 replace e3:DataW.trod enc Tryz.prog w 0 (fun _=>true) true n 9 [c3]=some y3:=by
  rw [←e3]
  show _=DataW.trod enc Tryz.prog w 0 (fun _=>true) true n 9 (([c0,c1,c2,c3,c4,c5].drop 3).take (Tryz.prog.cellsOf 9))
  rw [(show Tryz.prog.cellsOf 9=1 by kernel_rfl)]
  rfl
 obtain ⟨y4,e4⟩:=Open.field_of hlen hf 4 _ rfl
 replace e4:DataW.trod enc Tryz.prog w 0 (fun _=>true) true n 31 [c4]=some y4:=by
  rw [←e4]
  show _=DataW.trod enc Tryz.prog w 0 (fun _=>true) true n 31 (([c0,c1,c2,c3,c4,c5].drop 4).take (Tryz.prog.cellsOf 31))
  rw [(show Tryz.prog.cellsOf 31=1 by kernel_rfl)]
  rfl
 obtain ⟨y5,e5⟩:=Open.field_of hlen hf 5 _ rfl
 replace e5:DataW.trod enc Tryz.prog w 0 (fun _=>true) true n 22 [c5]=some y5:=by
  rw [←e5]
  show _=DataW.trod enc Tryz.prog w 0 (fun _=>true) true n 22 (([c0,c1,c2,c3,c4,c5].drop 5).take (Tryz.prog.cellsOf 22))
  rw [(show Tryz.prog.cellsOf 22=1 by kernel_rfl)]
  rfl
 obtain ⟨z0,K0,g0⟩:=(fun n=>Open.opens_int Tryz.underlying3 n) n H enc w _ _ e0
 injection (show [c0]=[.int .i64 z0] from K0) with q0 _
 subst q0
 obtain ⟨z1,K1,g1⟩:=(fun n=>Open.opens_int Tryz.underlying3 n) n H enc w _ _ e1
 injection (show [c1]=[.int .i64 z1] from K1) with q1 _
 subst q1
 obtain ⟨z2,K2,g2⟩:=(fun n=>Open.opens_string Tryz.underlying9 n) n H enc w _ _ e2
 injection (show [c2]=[.string z2] from K2) with q2 _
 subst q2
 obtain ⟨z3,K3,g3⟩:=(fun n=>Open.opens_string Tryz.underlying9 n) n H enc w _ _ e3
 injection (show [c3]=[.string z3] from K3) with q3 _
 subst q3
 obtain ⟨z4,K4,g4⟩:=(fun n=>Open.opens_slice Tryz.underlying31 (by kernel_rfl) (fun m _=>opens60 m)) n H enc w _ _ e4
 obtain ⟨A4,d4,q4,m4,r4⟩:=K4
 injection q4 with q4 _
 subst q4
 obtain ⟨z5,K5,g5⟩:=Open.opens_slice (d:=k33) (g:=G33) Tryz.underlying22 (by kernel_rfl) (fun m hm=>ih m (by omega)) H enc w _ _ e5
 obtain ⟨A5,d5,q5,m5,r5⟩:=K5
 injection q5 with q5 _
 subst q5
 exact ⟨⟨z0,z1,z2,z3,z4,z5⟩,k33_mk w ⟨z0,z1,z2,z3,z4,z5⟩ m4 r4 m5 r5,G33.mk ⟨z0,z1,z2,z3,z4,z5⟩ g0 g1 g2 g3 g4 g5.1 g5.2⟩
def laws_FnExactSerialize.PureS:Prop:=∀ (x0:(List S33)),Open.Few (G33) x0→∃ k,laws_FnExactSerialize.f k x0=some true
end Go.Proofs.YtlpncjeahdfolaaGreatDoor.PFnExactSerialize
