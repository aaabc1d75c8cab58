/- The arguments of FnExactAllowsAttr opened: what reads as data is of the printed kinds; its pure statement. No conditions. -/
import Derived.Test.YtmeafbneklphnaaOpen
import Derived.Test.YtmeafbneklphnaaPFnExactAllowsAttrx19
import Derived.KernelRfl
namespace Go.Proofs.Ytmeafbneklphnaa.PFnExactAllowsAttr
open Go.RowKit Go.ChangeShapes Go.WideShapes Go.Proofs.YtmeafbneklphnaaW.PrintWords
def G94 (x:S94):Prop:=(Lit.int .i64 x.f0).wf=true∧Open.Short x.f1∧Open.Few (Open.Short) x.f2
theorem opens94:∀ n,Open.Opens Try.prog 94 k94 G94 n:=by
 intro n0
 intro H enc w cs x h
 obtain ⟨xs,n,hn,_,hl,hlen,hf⟩:=DataW.trod_struct Try.underlying94 h
 have hl2:cs.length=3:=hl.trans (by kernel_rfl)
 clear hl
 obtain ⟨c0,c1,c2,rfl⟩:=Open.list3 hl2
 obtain ⟨y0,e0⟩:=Open.field_of hlen hf 0 _ rfl
 replace e0:DataW.trod enc Try.prog w 0 (fun _=>true) true n 3 [c0]=some y0:=by
  rw [←e0]
  show _=DataW.trod enc Try.prog w 0 (fun _=>true) true n 3 (([c0,c1,c2].drop 0).take (Try.prog.cellsOf 3))
  rw [(show Try.prog.cellsOf 3=1 by kernel_rfl)]
  rfl
 obtain ⟨y1,e1⟩:=Open.field_of hlen hf 1 _ rfl
 replace e1:DataW.trod enc Try.prog w 0 (fun _=>true) true n 9 [c1]=some y1:=by
  rw [←e1]
  show _=DataW.trod enc Try.prog w 0 (fun _=>true) true n 9 (([c0,c1,c2].drop 1).take (Try.prog.cellsOf 9))
  rw [(show Try.prog.cellsOf 9=1 by kernel_rfl)]
  rfl
 obtain ⟨y2,e2⟩:=Open.field_of hlen hf 2 _ rfl
 replace e2:DataW.trod enc Try.prog w 0 (fun _=>true) true n 23 [c2]=some y2:=by
  rw [←e2]
  show _=DataW.trod enc Try.prog w 0 (fun _=>true) true n 23 (([c0,c1,c2].drop 2).take (Try.prog.cellsOf 23))
  rw [(show Try.prog.cellsOf 23=1 by kernel_rfl)]
  rfl
 obtain ⟨z0,K0,g0⟩:=(fun n=>Open.opens_int Try.underlying3 n) n H enc w _ _ e0
 injection (show [c0]=[.int .i64 z0] from K0) with q0 _
 subst q0
 obtain ⟨z1,K1,g1⟩:=(fun n=>Open.opens_string Try.underlying9 n) n H enc w _ _ e1
 injection (show [c1]=[.string z1] from K1) with q1 _
 subst q1
 obtain ⟨z2,K2,g2⟩:=(fun n=>Open.opens_slice Try.underlying23 (by kernel_rfl) (fun m _=>(fun n=>Open.opens_string Try.underlying9 n) m)) n H enc w _ _ e2
 obtain ⟨A2,d2,q2,m2,r2⟩:=K2
 injection q2 with q2 _
 subst q2
 exact ⟨⟨z0,z1,z2⟩,k94_mk w ⟨z0,z1,z2⟩ m2 r2,⟨g0,g1,g2⟩⟩
def G43 (x:S43):Prop:=True∧True∧Open.Few (G94) x.f2∧Open.Few (G94) x.f3∧Open.Few (G94) x.f4∧Open.Few (Open.Short) x.f5∧Open.Few (Open.Short) x.f6∧True∧True
theorem opens43:∀ n,Open.Opens Try.prog 43 k43 G43 n:=by
 intro n0
 intro H enc w cs x h
 obtain ⟨xs,n,hn,_,hl,hlen,hf⟩:=DataW.trod_struct Try.underlying43 h
 have hl2:cs.length=9:=hl.trans (by kernel_rfl)
 clear hl
 obtain ⟨c0,c1,c2,c3,c4,c5,c6,c7,c8,rfl⟩:=Open.list9 hl2
 obtain ⟨y0,e0⟩:=Open.field_of hlen hf 0 _ rfl
 replace e0:DataW.trod enc Try.prog w 0 (fun _=>true) true n 4 [c0]=some y0:=by
  rw [←e0]
  show _=DataW.trod enc Try.prog w 0 (fun _=>true) true n 4 (([c0,c1,c2,c3,c4,c5,c6,c7,c8].drop 0).take (Try.prog.cellsOf 4))
  rw [(show Try.prog.cellsOf 4=1 by kernel_rfl)]
  rfl
 obtain ⟨y1,e1⟩:=Open.field_of hlen hf 1 _ rfl
 replace e1:DataW.trod enc Try.prog w 0 (fun _=>true) true n 4 [c1]=some y1:=by
  rw [←e1]
  show _=DataW.trod enc Try.prog w 0 (fun _=>true) true n 4 (([c0,c1,c2,c3,c4,c5,c6,c7,c8].drop 1).take (Try.prog.cellsOf 4))
  rw [(show Try.prog.cellsOf 4=1 by kernel_rfl)]
  rfl
 obtain ⟨y2,e2⟩:=Open.field_of hlen hf 2 _ rfl
 replace e2:DataW.trod enc Try.prog w 0 (fun _=>true) true n 41 [c2]=some y2:=by
  rw [←e2]
  show _=DataW.trod enc Try.prog w 0 (fun _=>true) true n 41 (([c0,c1,c2,c3,c4,c5,c6,c7,c8].drop 2).take (Try.prog.cellsOf 41))
  rw [(show Try.prog.cellsOf 41=1 by kernel_rfl)]
  rfl
 obtain ⟨y3,e3⟩:=Open.field_of hlen hf 3 _ rfl
 replace e3:DataW.trod enc Try.prog w 0 (fun _=>true) true n 41 [c3]=some y3:=by
  rw [←e3]
  show _=DataW.trod enc Try.prog w 0 (fun _=>true) true n 41 (([c0,c1,c2,c3,c4,c5,c6,c7,c8].drop 3).take (Try.prog.cellsOf 41))
  rw [(show Try.prog.cellsOf 41=1 by kernel_rfl)]
  rfl
 obtain ⟨y4,e4⟩:=Open.field_of hlen hf 4 _ rfl
 replace e4:DataW.trod enc Try.prog w 0 (fun _=>true) true n 41 [c4]=some y4:=by
  rw [←e4]
  show _=DataW.trod enc Try.prog w 0 (fun _=>true) true n 41 (([c0,c1,c2,c3,c4,c5,c6,c7,c8].drop 4).take (Try.prog.cellsOf 41))
  rw [(show Try.prog.cellsOf 41=1 by kernel_rfl)]
  rfl
 obtain ⟨y5,e5⟩:=Open.field_of hlen hf 5 _ rfl
 replace e5:DataW.trod enc Try.prog w 0 (fun _=>true) true n 23 [c5]=some y5:=by
  rw [←e5]
  show _=DataW.trod enc Try.prog w 0 (fun _=>true) true n 23 (([c0,c1,c2,c3,c4,c5,c6,c7,c8].drop 5).take (Try.prog.cellsOf 23))
  rw [(show Try.prog.cellsOf 23=1 by kernel_rfl)]
  rfl
 obtain ⟨y6,e6⟩:=Open.field_of hlen hf 6 _ rfl
 replace e6:DataW.trod enc Try.prog w 0 (fun _=>true) true n 23 [c6]=some y6:=by
  rw [←e6]
  show _=DataW.trod enc Try.prog w 0 (fun _=>true) true n 23 (([c0,c1,c2,c3,c4,c5,c6,c7,c8].drop 6).take (Try.prog.cellsOf 23))
  rw [(show Try.prog.cellsOf 23=1 by kernel_rfl)]
  rfl
 obtain ⟨y7,e7⟩:=Open.field_of hlen hf 7 _ rfl
 replace e7:DataW.trod enc Try.prog w 0 (fun _=>true) true n 4 [c7]=some y7:=by
  rw [←e7]
  show _=DataW.trod enc Try.prog w 0 (fun _=>true) true n 4 (([c0,c1,c2,c3,c4,c5,c6,c7,c8].drop 7).take (Try.prog.cellsOf 4))
  rw [(show Try.prog.cellsOf 4=1 by kernel_rfl)]
  rfl
 obtain ⟨y8,e8⟩:=Open.field_of hlen hf 8 _ rfl
 replace e8:DataW.trod enc Try.prog w 0 (fun _=>true) true n 4 [c8]=some y8:=by
  rw [←e8]
  show _=DataW.trod enc Try.prog w 0 (fun _=>true) true n 4 (([c0,c1,c2,c3,c4,c5,c6,c7,c8].drop 8).take (Try.prog.cellsOf 4))
  rw [(show Try.prog.cellsOf 4=1 by kernel_rfl)]
  rfl
 obtain ⟨z0,K0,g0⟩:=(fun n=>Open.opens_bool Try.underlying4 n) n H enc w _ _ e0
 injection (show [c0]=[.bool z0] from K0) with q0 _
 subst q0
 obtain ⟨z1,K1,g1⟩:=(fun n=>Open.opens_bool Try.underlying4 n) n H enc w _ _ e1
 injection (show [c1]=[.bool z1] from K1) with q1 _
 subst q1
 obtain ⟨z2,K2,g2⟩:=(fun n=>Open.opens_slice Try.underlying41 (by kernel_rfl) (fun m _=>opens94 m)) n H enc w _ _ e2
 obtain ⟨A2,d2,q2,m2,r2⟩:=K2
 injection q2 with q2 _
 subst q2
 obtain ⟨z3,K3,g3⟩:=(fun n=>Open.opens_slice Try.underlying41 (by kernel_rfl) (fun m _=>opens94 m)) n H enc w _ _ e3
 obtain ⟨A3,d3,q3,m3,r3⟩:=K3
 injection q3 with q3 _
 subst q3
 obtain ⟨z4,K4,g4⟩:=(fun n=>Open.opens_slice Try.underlying41 (by kernel_rfl) (fun m _=>opens94 m)) n H enc w _ _ e4
 obtain ⟨A4,d4,q4,m4,r4⟩:=K4
 injection q4 with q4 _
 subst q4
 obtain ⟨z5,K5,g5⟩:=(fun n=>Open.opens_slice Try.underlying23 (by kernel_rfl) (fun m _=>(fun n=>Open.opens_string Try.underlying9 n) m)) n H enc w _ _ e5
 obtain ⟨A5,d5,q5,m5,r5⟩:=K5
 injection q5 with q5 _
 subst q5
 obtain ⟨z6,K6,g6⟩:=(fun n=>Open.opens_slice Try.underlying23 (by kernel_rfl) (fun m _=>(fun n=>Open.opens_string Try.underlying9 n) m)) n H enc w _ _ e6
 obtain ⟨A6,d6,q6,m6,r6⟩:=K6
 injection q6 with q6 _
 subst q6
 obtain ⟨z7,K7,g7⟩:=(fun n=>Open.opens_bool Try.underlying4 n) n H enc w _ _ e7
 injection (show [c7]=[.bool z7] from K7) with q7 _
 subst q7
 obtain ⟨z8,K8,g8⟩:=(fun n=>Open.opens_bool Try.underlying4 n) n H enc w _ _ e8
 injection (show [c8]=[.bool z8] from K8) with q8 _
 subst q8
 exact ⟨⟨z0,z1,z2,z3,z4,z5,z6,z7,z8⟩,k43_mk w ⟨z0,z1,z2,z3,z4,z5,z6,z7,z8⟩ m2 r2 m3 r3 m4 r4 m5 r5 m6 r6,⟨g0,g1,g2,g3,g4,g5,g6,g7,g8⟩⟩
def G45 (x:S45):Prop:=Open.Short x.f0∧Open.Short x.f1
theorem opens45:∀ n,Open.Opens Try.prog 45 k45 G45 n:=by
 intro n0
 intro H enc w cs x h
 obtain ⟨xs,n,hn,_,hl,hlen,hf⟩:=DataW.trod_struct Try.underlying45 h
 have hl2:cs.length=2:=hl.trans (by kernel_rfl)
 clear hl
 obtain ⟨c0,c1,rfl⟩:=Open.list2 hl2
 obtain ⟨y0,e0⟩:=Open.field_of hlen hf 0 _ rfl
 replace e0:DataW.trod enc Try.prog w 0 (fun _=>true) true n 9 [c0]=some y0:=by
  rw [←e0]
  show _=DataW.trod enc Try.prog w 0 (fun _=>true) true n 9 (([c0,c1].drop 0).take (Try.prog.cellsOf 9))
  rw [(show Try.prog.cellsOf 9=1 by kernel_rfl)]
  rfl
 obtain ⟨y1,e1⟩:=Open.field_of hlen hf 1 _ rfl
 replace e1:DataW.trod enc Try.prog w 0 (fun _=>true) true n 9 [c1]=some y1:=by
  rw [←e1]
  show _=DataW.trod enc Try.prog w 0 (fun _=>true) true n 9 (([c0,c1].drop 1).take (Try.prog.cellsOf 9))
  rw [(show Try.prog.cellsOf 9=1 by kernel_rfl)]
  rfl
 obtain ⟨z0,K0,g0⟩:=(fun n=>Open.opens_string Try.underlying9 n) n H enc w _ _ e0
 injection (show [c0]=[.string z0] from K0) with q0 _
 subst q0
 obtain ⟨z1,K1,g1⟩:=(fun n=>Open.opens_string Try.underlying9 n) n H enc w _ _ e1
 injection (show [c1]=[.string z1] from K1) with q1 _
 subst q1
 exact ⟨⟨z0,z1⟩,k45_mk w ⟨z0,z1⟩,⟨g0,g1⟩⟩
def laws_FnExactAllowsAttr.PureS:Prop:=∀ (x0:S43) (x1:Int) (x2:ByteArray) (x3:S45),G43 x0→(Lit.int .i64 x1).wf=true→Open.Short x2→G45 x3→∃ k,laws_FnExactAllowsAttr.f k x0.f0 x0.f1 x0.f2 x0.f3 x0.f4 x0.f5 x0.f6 x0.f7 x0.f8 x1 x2 x3.f0 x3.f1=some true
end Go.Proofs.Ytmeafbneklphnaa.PFnExactAllowsAttr
