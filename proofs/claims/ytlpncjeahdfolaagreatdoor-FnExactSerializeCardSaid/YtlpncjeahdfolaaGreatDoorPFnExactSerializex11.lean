/- By a program of this session, out of the kit's print and contracts made by hand: the machine side of a law; Lean checks it. No conditions. -/
import Derived.Test.YtlpncjeahdfolaaGreatDoorPFnExactSerializex0
import Derived.Test.YtlpncjeahdfolaaGreatDoorPFnExactSerializex5
import Derived.Test.YtlpncjeahdfolaaGreatDoorPFnExactSerializex6
import Derived.Test.YtlpncjeahdfolaaGreatDoorPFnExactSerializex9
import Derived.Test.YtlpncjeahdfolaaGreatDoorPFnExactSerializex10
namespace Go.Proofs.YtlpncjeahdfolaaGreatDoor.PFnExactSerialize
open Go.RowKit Go.Proofs.YtlpncjeahdfolaaGreatDoorW.PrintWords Go.Proofs.YtlpncjeahdfolaaGreatDoorW.PrintLast Go.Proofs.YtlpncjeahdfolaaGreatDoorW.PrintMore
attribute [local go_sem] max2_int min2_int max_two min_two max_three min_three max_four min_four
set_option linter.unusedVariables false
set_option linter.unusedSimpArgs false
/-! ### spec_l06Tree: function 11 -/
mutual
def spec_l06Tree.l0:Nat→List (S38)→Bool→ByteArray→Int→Option (ByteArray)
 | 0,_,_,_,_=>none
 | k+1,x0,x1,x5,x6=>if x6<(x0.length:Int) then (if 0≤x6 then (if ((rd_T38 x0 x6).f0)=2 then (spec_l06Tree.j1 k x0 x1 x5 x6 x1 ((rd_T38 x0 x6).f0) ((rd_T38 x0 x6).f1) ((rd_T38 x0 x6).f2) ((rd_T38 x0 x6).f3) ((rd_T38 x0 x6).f4) ((rd_T38 x0 x6).f5)) else (spec_l06Tree.j1 k x0 x1 x5 x6 false ((rd_T38 x0 x6).f0) ((rd_T38 x0 x6).f1) ((rd_T38 x0 x6).f2) ((rd_T38 x0 x6).f3) ((rd_T38 x0 x6).f4) ((rd_T38 x0 x6).f5))) else (none)) else (some x5)
def spec_l06Tree.j1:Nat→List (S38)→Bool→ByteArray→Int→Bool→Int→Int→ByteArray→ByteArray→List (S63)→List (S38)→Option (ByteArray)
 | 0,_,_,_,_,_,_,_,_,_,_,_=>none
 | k+1,x0,x1,x5,x6,x48,x152000,x152001,x152002,x152003,x152004,x152005=>if x48=true then (if x5.size+x152003.size≤9223372036854775807 then (spec_l06Tree.l0 k x0 x1 (x5++x152003) (wrap64 (x6+1))) else (none)) else (if x152000=2 then ((spec_l02Text.f k x152003).bind fun t152=>(if x5.size+t152.size≤9223372036854775807 then (spec_l06Tree.l0 k x0 x1 (x5++t152) (wrap64 (x6+1))) else (none))) else (if x152000=3 then (if 4+x152003.size≤9223372036854775807 then (if ((⟨#[60,33,45,45]⟩:ByteArray)++x152003).size+3≤9223372036854775807 then (if x5.size+(((⟨#[60,33,45,45]⟩:ByteArray)++x152003)++(⟨#[45,45,62]⟩:ByteArray)).size≤9223372036854775807 then (spec_l06Tree.l0 k x0 x1 (x5++(((⟨#[60,33,45,45]⟩:ByteArray)++x152003)++(⟨#[45,45,62]⟩:ByteArray))) (wrap64 (x6+1))) else (none)) else (none)) else (none)) else ((spec_l06Start.f k x152000 x152001 x152002 x152003 x152004 x152005).bind fun t153=>(if x5.size+t153.size≤9223372036854775807 then (if x152001=0 then ((spec_l01Void.f k x152002).bind fun t154=>(spec_l06Tree.j2 k x0 x1 (x5++t153) x6 t154 x152000 x152001 x152002 x152003 x152004 x152005)) else (spec_l06Tree.j2 k x0 x1 (x5++t153) x6 false x152000 x152001 x152002 x152003 x152004 x152005)) else (none)))))
def spec_l06Tree.j2:Nat→List (S38)→Bool→ByteArray→Int→Bool→Int→Int→ByteArray→ByteArray→List (S63)→List (S38)→Option (ByteArray)
 | 0,_,_,_,_,_,_,_,_,_,_,_=>none
 | k+1,x0,x1,x5,x6,x29,x152000,x152001,x152002,x152003,x152004,x152005=>if x29=true then (spec_l06Tree.l0 k x0 x1 x5 (wrap64 (x6+1))) else (if x152001=0 then ((spec_l01Raw.f k x152002).bind fun t155=>((spec_l06Tree.f k x152005 t155).bind fun t156=>(if t156.size+2≤9223372036854775807 then (if (t156++(⟨#[60,47]⟩:ByteArray)).size+x152002.size≤9223372036854775807 then (if ((t156++(⟨#[60,47]⟩:ByteArray))++x152002).size+1≤9223372036854775807 then (if x5.size+(((t156++(⟨#[60,47]⟩:ByteArray))++x152002)++(⟨#[62]⟩:ByteArray)).size≤9223372036854775807 then (spec_l06Tree.l0 k x0 x1 (x5++(((t156++(⟨#[60,47]⟩:ByteArray))++x152002)++(⟨#[62]⟩:ByteArray))) (wrap64 (x6+1))) else (none)) else (none)) else (none)) else (none)))) else ((spec_l06Tree.f k x152005 false).bind fun t157=>(if t157.size+2≤9223372036854775807 then (if (t157++(⟨#[60,47]⟩:ByteArray)).size+x152002.size≤9223372036854775807 then (if ((t157++(⟨#[60,47]⟩:ByteArray))++x152002).size+1≤9223372036854775807 then (if x5.size+(((t157++(⟨#[60,47]⟩:ByteArray))++x152002)++(⟨#[62]⟩:ByteArray)).size≤9223372036854775807 then (spec_l06Tree.l0 k x0 x1 (x5++(((t157++(⟨#[60,47]⟩:ByteArray))++x152002)++(⟨#[62]⟩:ByteArray))) (wrap64 (x6+1))) else (none)) else (none)) else (none)) else (none))))
def spec_l06Tree.f:Nat→List (S38)→Bool→Option (ByteArray)
 | 0,_,_=>none
 | k+1,l0,a1=>spec_l06Tree.l0 k l0 a1 (⟨#[]⟩:ByteArray) 0
end
theorem spec_l06Tree.mono_l:∀ k,(∀ y0 y1,LeO (spec_l06Tree.f k y0 y1) (spec_l06Tree.f (k+1) y0 y1))∧(∀ y0 y1 y2 y3,LeO (spec_l06Tree.l0 k y0 y1 y2 y3) (spec_l06Tree.l0 (k+1) y0 y1 y2 y3))∧(∀ y0 y1 y2 y3 y4 y5 y6 y7 y8 y9 y10,LeO (spec_l06Tree.j1 k y0 y1 y2 y3 y4 y5 y6 y7 y8 y9 y10) (spec_l06Tree.j1 (k+1) y0 y1 y2 y3 y4 y5 y6 y7 y8 y9 y10))∧(∀ y0 y1 y2 y3 y4 y5 y6 y7 y8 y9 y10,LeO (spec_l06Tree.j2 k y0 y1 y2 y3 y4 y5 y6 y7 y8 y9 y10) (spec_l06Tree.j2 (k+1) y0 y1 y2 y3 y4 y5 y6 y7 y8 y9 y10))
 | 0=>⟨fun _ _ r h=>by simp [spec_l06Tree.f] at h,fun _ _ _ _ r h=>by simp [spec_l06Tree.l0] at h,fun _ _ _ _ _ _ _ _ _ _ _ r h=>by simp [spec_l06Tree.j1] at h,fun _ _ _ _ _ _ _ _ _ _ _ r h=>by simp [spec_l06Tree.j2] at h⟩
 | k+1=>by
  obtain ⟨ih0,ih1,ih2,ih3⟩:=spec_l06Tree.mono_l k
  refine ⟨?_,?_,?_,?_⟩
  ·intro y0 y1
   unfold spec_l06Tree.f
   repeat' first
   | (with_reducible exact ih0 _ _)
   | (with_reducible exact ih1 _ _ _ _)
   | (with_reducible exact ih2 _ _ _ _ _ _ _ _ _ _ _)
   | (with_reducible exact ih3 _ _ _ _ _ _ _ _ _ _ _)
   | (with_reducible exact spec_l01Raw.mono _ _)
   | (with_reducible exact spec_l01Void.mono _ _)
   | (with_reducible exact spec_l02Text.mono _ _)
   | (with_reducible exact spec_l06Start.mono _ _ _ _ _ _ _)
   | (with_reducible exact LeO.refl _)
   | (with_reducible exact LeO.none _)
   | (with_reducible refine LeO.ite ?_ ?_)
   | (with_reducible refine LeO.bind ?_ (fun _=>?_))
   | exact ih0 _ _
   | exact ih1 _ _ _ _
   | exact ih2 _ _ _ _ _ _ _ _ _ _ _
   | exact ih3 _ _ _ _ _ _ _ _ _ _ _
   | exact spec_l01Raw.mono _ _
   | exact spec_l01Void.mono _ _
   | exact spec_l02Text.mono _ _
   | exact spec_l06Start.mono _ _ _ _ _ _ _
   | exact LeO.none _
   | refine LeO.ite ?_ ?_
   | refine LeO.bind ?_ (fun _=>?_)
  ·intro y0 y1 y2 y3
   unfold spec_l06Tree.l0
   repeat' first
   | (with_reducible exact ih0 _ _)
   | (with_reducible exact ih1 _ _ _ _)
   | (with_reducible exact ih2 _ _ _ _ _ _ _ _ _ _ _)
   | (with_reducible exact ih3 _ _ _ _ _ _ _ _ _ _ _)
   | (with_reducible exact spec_l01Raw.mono _ _)
   | (with_reducible exact spec_l01Void.mono _ _)
   | (with_reducible exact spec_l02Text.mono _ _)
   | (with_reducible exact spec_l06Start.mono _ _ _ _ _ _ _)
   | (with_reducible exact LeO.refl _)
   | (with_reducible exact LeO.none _)
   | (with_reducible refine LeO.ite ?_ ?_)
   | (with_reducible refine LeO.bind ?_ (fun _=>?_))
   | exact ih0 _ _
   | exact ih1 _ _ _ _
   | exact ih2 _ _ _ _ _ _ _ _ _ _ _
   | exact ih3 _ _ _ _ _ _ _ _ _ _ _
   | exact spec_l01Raw.mono _ _
   | exact spec_l01Void.mono _ _
   | exact spec_l02Text.mono _ _
   | exact spec_l06Start.mono _ _ _ _ _ _ _
   | exact LeO.none _
   | refine LeO.ite ?_ ?_
   | refine LeO.bind ?_ (fun _=>?_)
  ·intro y0 y1 y2 y3 y4 y5 y6 y7 y8 y9 y10
   unfold spec_l06Tree.j1
   repeat' first
   | (with_reducible exact ih0 _ _)
   | (with_reducible exact ih1 _ _ _ _)
   | (with_reducible exact ih2 _ _ _ _ _ _ _ _ _ _ _)
   | (with_reducible exact ih3 _ _ _ _ _ _ _ _ _ _ _)
   | (with_reducible exact spec_l01Raw.mono _ _)
   | (with_reducible exact spec_l01Void.mono _ _)
   | (with_reducible exact spec_l02Text.mono _ _)
   | (with_reducible exact spec_l06Start.mono _ _ _ _ _ _ _)
   | (with_reducible exact LeO.refl _)
   | (with_reducible exact LeO.none _)
   | (with_reducible refine LeO.ite ?_ ?_)
   | (with_reducible refine LeO.bind ?_ (fun _=>?_))
   | exact ih0 _ _
   | exact ih1 _ _ _ _
   | exact ih2 _ _ _ _ _ _ _ _ _ _ _
   | exact ih3 _ _ _ _ _ _ _ _ _ _ _
   | exact spec_l01Raw.mono _ _
   | exact spec_l01Void.mono _ _
   | exact spec_l02Text.mono _ _
   | exact spec_l06Start.mono _ _ _ _ _ _ _
   | exact LeO.none _
   | refine LeO.ite ?_ ?_
   | refine LeO.bind ?_ (fun _=>?_)
  ·intro y0 y1 y2 y3 y4 y5 y6 y7 y8 y9 y10
   unfold spec_l06Tree.j2
   repeat' first
   | (with_reducible exact ih0 _ _)
   | (with_reducible exact ih1 _ _ _ _)
   | (with_reducible exact ih2 _ _ _ _ _ _ _ _ _ _ _)
   | (with_reducible exact ih3 _ _ _ _ _ _ _ _ _ _ _)
   | (with_reducible exact spec_l01Raw.mono _ _)
   | (with_reducible exact spec_l01Void.mono _ _)
   | (with_reducible exact spec_l02Text.mono _ _)
   | (with_reducible exact spec_l06Start.mono _ _ _ _ _ _ _)
   | (with_reducible exact LeO.refl _)
   | (with_reducible exact LeO.none _)
   | (with_reducible refine LeO.ite ?_ ?_)
   | (with_reducible refine LeO.bind ?_ (fun _=>?_))
   | exact ih0 _ _
   | exact ih1 _ _ _ _
   | exact ih2 _ _ _ _ _ _ _ _ _ _ _
   | exact ih3 _ _ _ _ _ _ _ _ _ _ _
   | exact spec_l01Raw.mono _ _
   | exact spec_l01Void.mono _ _
   | exact spec_l02Text.mono _ _
   | exact spec_l06Start.mono _ _ _ _ _ _ _
   | exact LeO.none _
   | refine LeO.ite ?_ ?_
   | refine LeO.bind ?_ (fun _=>?_)
theorem spec_l06Tree.mono:∀ a0 a1 k,LeO (spec_l06Tree.f k a0 a1) (spec_l06Tree.f (k+1) a0 a1):=by
 intro a0 a1 k
 obtain ⟨ih0,ih1,ih2,ih3⟩:=spec_l06Tree.mono_l k
 exact ih0 a0 a1
def spec_l06Tree.T8:Bool × List (List Nat × List Nat):=(true,[([],[]),([],[]),([1],[1]),([],[]),([3],[3]),([4],[4]),([5],[5]),([6],[6]),([7,6],[6,7]),([8,6,6],[6,8]),([6,9],[6,9]),([2,10,9],[2,10]),([11],[11]),([],[]),([13],[13]),([12,14],[12,14]),([15],[15]),([0,16],[0,16]),([17,11,0,1,2,3,4,5,6,7,8,9,10,11,12,13,14,15,16,17],[0,17])])
def spec_l06Tree.B8:List Nat:=[0,0,2,0,8,24,56,120,248,504,1016,2046,4094,0,8192,32766,65534,131071,262143]
theorem spec_l06Tree.tab8:rtab .any (opsOf Tryz.f11 8)=spec_l06Tree.T8:=by kernel_rfl
theorem spec_l06Tree.bits8:waitsOk spec_l06Tree.T8.2 spec_l06Tree.B8=true:=by kernel_rfl
set_option maxHeartbeats 8000000 in
set_option maxRecDepth 100000 in
theorem spec_l06Tree.calls (k:Nat):∀ (A0:Option Addr) (c0:Nat) (l0:List (S38)) (a1:Bool) (r:ByteArray) (w:World) (hr0:Kd.C k38 w A0 l0.length l0) (hc0:l0.length≤c0) (h:spec_l06Tree.f k l0 a1=some r),
 Calls Tryz.prog 11 #[.slice A0 l0.length c0,.bool a1] w fun e w'=>e=.returned (.string r)∧Below w.heap.size w w':=by
 induction k using Nat.strongRecOn with
 | _ k ih =>
 intro A0 c0 l0 a1 r w hr0 hc0 h
 cases k with
 | zero=>exact absurd h (by simp [spec_l06Tree.f])
 | succ k =>
 simp only [spec_l06Tree.f] at h
 have hu38:=Tryz.underlying38
 have HR0:=A_ hr0
 have HC0:=A_ hc0
 clear hr0 hc0
 have HB:=A_ (Below.refl w.heap.size w)
 have H:(spec_l06Tree.l0 k l0 a1 (⟨#[]⟩:ByteArray) 0)=some r:=h
 clear h
 have H':=A_ H
 clear H
 go_enter Tryz.func11,Tryz.ntmps11
 go_wp2
 go_loopg [5,6] k (fun kq v5 v6 w'=>∃ (x5_1:ByteArray) (x6_1:Int),v5=.string x5_1∧v6=.int .i64 x6_1∧Aside0 (spec_l06Tree.l0 kq l0 a1 x5_1 x6_1=some r)∧Aside0 (kq≤k)∧Aside0 (Below w.heap.size w w'))
 case atStart=>exact ⟨((⟨#[]⟩:ByteArray)),(0),(by first|rfl|(simp;done)|(simp [*];done)),(by first|rfl|(simp;done)|(simp [*];done)),H',⟨Nat.le_refl _⟩,⟨by repeat (first|(with_reducible first|exact HB.out|apply ba_|apply pd_|apply b1_)|exact HB.out)⟩⟩
 case round =>
  clear H'
  try clear c1
  try clear p2
  obtain ⟨x5_1,x6_1,rfl,rfl,HA,HK1,HB⟩:=hrel
  cases gk with
  | zero=>exact absurd HA.out (by simp [spec_l06Tree.l0])
  | succ k1 =>
   have H:=HA.out
   clear HA
   simp only [spec_l06Tree.l0] at H
   by_cases c3:x6_1<(l0.length:Int)
   ·rw [if_pos c3] at H
    have c3b0:decide (x6_1<(l0.length:Int))=true:=dt_ c3
    clear c3
    by_cases c4:0≤x6_1
    ·rw [if_pos c4] at H
     have c4b0:decide (0≤x6_1)=true:=dt_ c4
     clear c4
     have HC5:=A_ H
     clear H
     have p150:0≤(x6_1:Int):=od_ (by first|(with_reducible assumption)|assumption)
     have q150:x6_1<(l0.length:Int):=od_ (by first|(with_reducible assumption)|assumption)
     obtain ⟨ad150,A150_4,c150_4,A150_5,c150_5,e150,hx150_0,hx150_1,hx150_2,hx150_3,hx150_4,hx150_5,hl150_4,hi150_4,hl150_5,hi150_5⟩:=at_T38 HR0.out x6_1 p150 q150
     cases e150
     replace hx150_0:=(HB.out.cell (bl_ w _ hx150_0)).trans hx150_0
     replace hx150_1:=(HB.out.cell (bl_ w _ hx150_1)).trans hx150_1
     replace hx150_2:=(HB.out.cell (bl_ w _ hx150_2)).trans hx150_2
     replace hx150_3:=(HB.out.cell (bl_ w _ hx150_3)).trans hx150_3
     replace hx150_4:=(HB.out.cell (bl_ w _ hx150_4)).trans hx150_4
     replace hx150_5:=(HB.out.cell (bl_ w _ hx150_5)).trans hx150_5
     have HR150_4:=A_ hi150_4
     have HC150_4:=A_ hl150_4
     clear hi150_4 hl150_4
     have HR150_5:=A_ hi150_5
     have HC150_5:=A_ hl150_5
     clear hi150_5 hl150_5
     replace p150:=eq_true p150
     replace q150:=eq_true q150
     go_upto_region 9 with (first|((with_reducible refine gate_dst (N:=7) rfl ?_);refine box_event ?hg (N:=7) ?hd (cs:=#[.int .i64 0,.int .i64 0,.string (⟨#[]⟩:ByteArray),.string (⟨#[]⟩:ByteArray),.slice none 0 0,.slice none 0 0]) (t:=38) ?hr ?_;(case hd=>rfl);(case hg=>rfl);(case hr=>first|(go_simp;done)|(go_simp;rfl));intro gb151 hg w6 hbox hb;have n0_:=A_ (bp_ (by repeat (first|(with_reducible first|exact HB.out|apply ba_|apply pd_|apply b1_)|exact HB.out)) hb);have n1_:=A_ (hbox);have n2_:=A_ ((by rw [hg];exact (bz_ (by repeat (first|(with_reducible first|exact HB.out|apply ba_|apply pd_|apply b1_)|exact HB.out))):w.heap.size≤gb151));have n3_:=A_ ((by rw [hg];exact (bz_ (by repeat (first|(with_reducible first|exact HB.out|apply ba_|apply pd_|apply b1_)|exact HB.out))):w.heap.size≤gb151));clear HB;have HB:=n0_;have BK151:=n1_;have GW151:=n2_;have GE151:=n3_;clear n0_ n1_ n2_ n3_;clear hb hbox hg;have hcz7_0:w6.cell? ⟨gb151,0,none⟩=some (.int .i64 0):=(bc_ BK151.out 0).trans rfl;have hcz7_1:w6.cell? ⟨gb151,1,none⟩=some (.int .i64 0):=(bc_ BK151.out 1).trans rfl;have hcz7_2:w6.cell? ⟨gb151,2,none⟩=some (.string (⟨#[]⟩:ByteArray)):=(bc_ BK151.out 2).trans rfl;have hcz7_3:w6.cell? ⟨gb151,3,none⟩=some (.string (⟨#[]⟩:ByteArray)):=(bc_ BK151.out 3).trans rfl;have hcz7_4:w6.cell? ⟨gb151,4,none⟩=some (.slice none 0 0):=(bc_ BK151.out 4).trans rfl;have hcz7_5:w6.cell? ⟨gb151,5,none⟩=some (.slice none 0 0):=(bc_ BK151.out 5).trans rfl;have hfz7_0:=bf_ BK151.out 0;have hfz7_1:=bf_ BK151.out 1;have hfz7_2:=bf_ BK151.out 2;have hfz7_3:=bf_ BK151.out 3;have hfz7_4:=bf_ BK151.out 4;have hfz7_5:=bf_ BK151.out 5))
     (try simp only [Act.put,ls_,lz_,lc_])
     go_cut [48] (fun v48 wc=>∃ (kq:Nat) (x48_4:Bool),v48=.bool x48_4∧Aside0 (spec_l06Tree.j1 kq l0 a1 x5_1 x6_1 x48_4 ((rd_T38 l0 x6_1).f0) ((rd_T38 l0 x6_1).f1) ((rd_T38 l0 x6_1).f2) ((rd_T38 l0 x6_1).f3) ((rd_T38 l0 x6_1).f4) ((rd_T38 l0 x6_1).f5)=some r)∧Aside0 (kq≤k1)∧Aside0 (wc.heap[gb151]? = some (.cells #[.int .i64 ((rd_T38 l0 x6_1).f0),.int .i64 ((rd_T38 l0 x6_1).f1),.string ((rd_T38 l0 x6_1).f2),.string ((rd_T38 l0 x6_1).f3),(.slice A150_4 ((rd_T38 l0 x6_1).f4).length c150_4),(.slice A150_5 ((rd_T38 l0 x6_1).f5).length c150_5)] 38 (0,0)))∧Aside0 (Below w.heap.size w wc))
     case first =>
      have H:=HC5.out
      clear HC5
      by_cases c8:((rd_T38 l0 x6_1).f0)=2
      ·rw [if_pos c8] at H
       have c8b0:(((rd_T38 l0 x6_1).f0) == 2)=true:=beq_iff_eq.mpr c8
       have c8b1:(((rd_T38 l0 x6_1).f0) != 2)=false:=bne_eq_false_iff_eq.mpr c8
       clear c8
       (first|rw [c8b0]|(simp only [i64_w,i32_w];rw [c8b0])|skip)
       have H':=A_ H
       clear H
       have hcz9_0:w6.cell? ⟨gb151,0,none⟩=some (.int .i64 0):=(bc_ BK151.out 0).trans rfl
       have hcz9_1:w6.cell? ⟨gb151,1,none⟩=some (.int .i64 0):=(bc_ BK151.out 1).trans rfl
       have hcz9_2:w6.cell? ⟨gb151,2,none⟩=some (.string (⟨#[]⟩:ByteArray)):=(bc_ BK151.out 2).trans rfl
       have hcz9_3:w6.cell? ⟨gb151,3,none⟩=some (.string (⟨#[]⟩:ByteArray)):=(bc_ BK151.out 3).trans rfl
       have hcz9_4:w6.cell? ⟨gb151,4,none⟩=some (.slice none 0 0):=(bc_ BK151.out 4).trans rfl
       have hcz9_5:w6.cell? ⟨gb151,5,none⟩=some (.slice none 0 0):=(bc_ BK151.out 5).trans rfl
       have hfz9_0:=bf_ BK151.out 0
       have hfz9_1:=bf_ BK151.out 1
       have hfz9_2:=bf_ BK151.out 2
       have hfz9_3:=bf_ BK151.out 3
       have hfz9_4:=bf_ BK151.out 4
       have hfz9_5:=bf_ BK151.out 5
       go_wp2
       go_meet
       case rel=>exact ⟨_,(a1),(by first|rfl|(simp;done)|(simp [*];done)),H',⟨by have:=HK1.out;first|omega|exact Nat.le_refl _⟩,⟨by (with_reducible repeat (first|refine kn_ ?_ _|refine kd_ ?_|refine ka_ ?_ _));refine blk_put (cs:=#[.int .i64 ((rd_T38 l0 x6_1).f0),.int .i64 ((rd_T38 l0 x6_1).f1),.string ((rd_T38 l0 x6_1).f2),.string ((rd_T38 l0 x6_1).f3),.slice A150_4 ((rd_T38 l0 x6_1).f4).length c150_4,.slice none 0 0]) ?_ 5 _ rfl;(with_reducible repeat (first|refine kn_ ?_ _|refine kd_ ?_|refine ka_ ?_ _));refine blk_put (cs:=#[.int .i64 ((rd_T38 l0 x6_1).f0),.int .i64 ((rd_T38 l0 x6_1).f1),.string ((rd_T38 l0 x6_1).f2),.string ((rd_T38 l0 x6_1).f3),.slice none 0 0,.slice none 0 0]) ?_ 4 _ rfl;(with_reducible repeat (first|refine kn_ ?_ _|refine kd_ ?_|refine ka_ ?_ _));refine blk_put (cs:=#[.int .i64 ((rd_T38 l0 x6_1).f0),.int .i64 ((rd_T38 l0 x6_1).f1),.string ((rd_T38 l0 x6_1).f2),.string (⟨#[]⟩:ByteArray),.slice none 0 0,.slice none 0 0]) ?_ 3 _ rfl;(with_reducible repeat (first|refine kn_ ?_ _|refine kd_ ?_|refine ka_ ?_ _));refine blk_put (cs:=#[.int .i64 ((rd_T38 l0 x6_1).f0),.int .i64 ((rd_T38 l0 x6_1).f1),.string (⟨#[]⟩:ByteArray),.string (⟨#[]⟩:ByteArray),.slice none 0 0,.slice none 0 0]) ?_ 2 _ rfl;(with_reducible repeat (first|refine kn_ ?_ _|refine kd_ ?_|refine ka_ ?_ _));refine blk_put (cs:=#[.int .i64 ((rd_T38 l0 x6_1).f0),.int .i64 0,.string (⟨#[]⟩:ByteArray),.string (⟨#[]⟩:ByteArray),.slice none 0 0,.slice none 0 0]) ?_ 1 _ rfl;(with_reducible repeat (first|refine kn_ ?_ _|refine kd_ ?_|refine ka_ ?_ _));refine blk_put (cs:=#[.int .i64 0,.int .i64 0,.string (⟨#[]⟩:ByteArray),.string (⟨#[]⟩:ByteArray),.slice none 0 0,.slice none 0 0]) ?_ 0 _ rfl;(with_reducible repeat (first|refine kn_ ?_ _|refine kd_ ?_|refine ka_ ?_ _));exact BK151.out⟩,⟨by repeat (first|(with_reducible first|exact HB.out|apply ba_|apply pd_|apply b1_|refine bs_ ?_ GE151.out)|exact HB.out)⟩⟩
      ·rw [if_neg c8] at H
       have c8b0:(((rd_T38 l0 x6_1).f0) == 2)=false:=beq_eq_false_iff_ne.mpr c8
       have c8b1:(((rd_T38 l0 x6_1).f0) != 2)=true:=bne_iff_ne.mpr c8
       (first|rw [c8b0]|(simp only [i64_w,i32_w];rw [c8b0])|skip)
       have H':=A_ H
       clear H
       have hcz10_0:w6.cell? ⟨gb151,0,none⟩=some (.int .i64 0):=(bc_ BK151.out 0).trans rfl
       have hcz10_1:w6.cell? ⟨gb151,1,none⟩=some (.int .i64 0):=(bc_ BK151.out 1).trans rfl
       have hcz10_2:w6.cell? ⟨gb151,2,none⟩=some (.string (⟨#[]⟩:ByteArray)):=(bc_ BK151.out 2).trans rfl
       have hcz10_3:w6.cell? ⟨gb151,3,none⟩=some (.string (⟨#[]⟩:ByteArray)):=(bc_ BK151.out 3).trans rfl
       have hcz10_4:w6.cell? ⟨gb151,4,none⟩=some (.slice none 0 0):=(bc_ BK151.out 4).trans rfl
       have hcz10_5:w6.cell? ⟨gb151,5,none⟩=some (.slice none 0 0):=(bc_ BK151.out 5).trans rfl
       have hfz10_0:=bf_ BK151.out 0
       have hfz10_1:=bf_ BK151.out 1
       have hfz10_2:=bf_ BK151.out 2
       have hfz10_3:=bf_ BK151.out 3
       have hfz10_4:=bf_ BK151.out 4
       have hfz10_5:=bf_ BK151.out 5
       go_wp2
       go_meet
       case rel=>exact ⟨_,(false),(by first|rfl|(simp;done)|(simp [*];done)),H',⟨by have:=HK1.out;first|omega|exact Nat.le_refl _⟩,⟨by (with_reducible repeat (first|refine kn_ ?_ _|refine kd_ ?_|refine ka_ ?_ _));refine blk_put (cs:=#[.int .i64 ((rd_T38 l0 x6_1).f0),.int .i64 ((rd_T38 l0 x6_1).f1),.string ((rd_T38 l0 x6_1).f2),.string ((rd_T38 l0 x6_1).f3),.slice A150_4 ((rd_T38 l0 x6_1).f4).length c150_4,.slice none 0 0]) ?_ 5 _ rfl;(with_reducible repeat (first|refine kn_ ?_ _|refine kd_ ?_|refine ka_ ?_ _));refine blk_put (cs:=#[.int .i64 ((rd_T38 l0 x6_1).f0),.int .i64 ((rd_T38 l0 x6_1).f1),.string ((rd_T38 l0 x6_1).f2),.string ((rd_T38 l0 x6_1).f3),.slice none 0 0,.slice none 0 0]) ?_ 4 _ rfl;(with_reducible repeat (first|refine kn_ ?_ _|refine kd_ ?_|refine ka_ ?_ _));refine blk_put (cs:=#[.int .i64 ((rd_T38 l0 x6_1).f0),.int .i64 ((rd_T38 l0 x6_1).f1),.string ((rd_T38 l0 x6_1).f2),.string (⟨#[]⟩:ByteArray),.slice none 0 0,.slice none 0 0]) ?_ 3 _ rfl;(with_reducible repeat (first|refine kn_ ?_ _|refine kd_ ?_|refine ka_ ?_ _));refine blk_put (cs:=#[.int .i64 ((rd_T38 l0 x6_1).f0),.int .i64 ((rd_T38 l0 x6_1).f1),.string (⟨#[]⟩:ByteArray),.string (⟨#[]⟩:ByteArray),.slice none 0 0,.slice none 0 0]) ?_ 2 _ rfl;(with_reducible repeat (first|refine kn_ ?_ _|refine kd_ ?_|refine ka_ ?_ _));refine blk_put (cs:=#[.int .i64 ((rd_T38 l0 x6_1).f0),.int .i64 0,.string (⟨#[]⟩:ByteArray),.string (⟨#[]⟩:ByteArray),.slice none 0 0,.slice none 0 0]) ?_ 1 _ rfl;(with_reducible repeat (first|refine kn_ ?_ _|refine kd_ ?_|refine ka_ ?_ _));refine blk_put (cs:=#[.int .i64 0,.int .i64 0,.string (⟨#[]⟩:ByteArray),.string (⟨#[]⟩:ByteArray),.slice none 0 0,.slice none 0 0]) ?_ 0 _ rfl;(with_reducible repeat (first|refine kn_ ?_ _|refine kd_ ?_|refine ka_ ?_ _));exact BK151.out⟩,⟨by repeat (first|(with_reducible first|exact HB.out|apply ba_|apply pd_|apply b1_|refine bs_ ?_ GE151.out)|exact HB.out)⟩⟩
     case rest =>
      clear HC5
      try clear c1
      try clear p1
      try clear q1
      try clear hx1
      try clear p2
      try clear c3
      try clear c3b0
      try clear c4
      try clear c4b0
      try clear c8
      try clear c8b0
      try clear c8b1
      try clear hcz10_0
      try clear hcz10_1
      try clear hcz10_2
      try clear hcz10_3
      try clear hcz10_4
      try clear hcz10_5
      try clear hcz7_0
      try clear hcz7_1
      try clear hcz7_2
      try clear hcz7_3
      try clear hcz7_4
      try clear hcz7_5
      try clear hcz9_0
      try clear hcz9_1
      try clear hcz9_2
      try clear hcz9_3
      try clear hcz9_4
      try clear hcz9_5
      try clear hfz10_0
      try clear hfz10_1
      try clear hfz10_2
      try clear hfz10_3
      try clear hfz10_4
      try clear hfz10_5
      try clear hfz7_0
      try clear hfz7_1
      try clear hfz7_2
      try clear hfz7_3
      try clear hfz7_4
      try clear hfz7_5
      try clear hfz9_0
      try clear hfz9_1
      try clear hfz9_2
      try clear hfz9_3
      try clear hfz9_4
      try clear hfz9_5
      try clear hx150_0
      try clear hx150_1
      try clear hx150_2
      try clear hx150_3
      try clear hx150_4
      try clear hx150_5
      try clear p150
      try clear p2
      try clear q150
      obtain ⟨kq,x48_4,rfl,HA,HJ4,BK151,HB⟩:=hcut
      cases kq with
      | zero=>exact absurd HA.out (by simp [spec_l06Tree.j1])
      | succ kj4 =>
       have H:=HA.out
       clear HA
       simp only [spec_l06Tree.j1] at H
       by_cases c11:x48_4=true
       ·subst c11
        have H1:(if x5_1.size+((rd_T38 l0 x6_1).f3).size≤9223372036854775807 then (spec_l06Tree.l0 kj4 l0 a1 (x5_1++((rd_T38 l0 x6_1).f3)) (wrap64 (x6_1+1))) else (none))=some r:=by rw [if_pos rfl] at H;exact H
        clear H
        have H:=H1
        clear H1
        by_cases c12:x5_1.size+((rd_T38 l0 x6_1).f3).size≤9223372036854775807
        ·rw [if_pos c12] at H
         have c12b0:=eq_true c12
         have c12b1:decide (x5_1.size+((rd_T38 l0 x6_1).f3).size≤9223372036854775807)=true:=dt_ c12
         try have c12b2:(9223372036854775807<x5_1.size+((rd_T38 l0 x6_1).f3).size)=False:=eq_false (Nat.not_lt.2 c12)
         have H':=A_ H
         clear H
         have hcz13_0:wc.cell? ⟨gb151,0,none⟩=some (.int .i64 ((rd_T38 l0 x6_1).f0)):=(bc_ BK151.out 0).trans rfl
         have hcz13_1:wc.cell? ⟨gb151,1,none⟩=some (.int .i64 ((rd_T38 l0 x6_1).f1)):=(bc_ BK151.out 1).trans rfl
         have hcz13_2:wc.cell? ⟨gb151,2,none⟩=some (.string ((rd_T38 l0 x6_1).f2)):=(bc_ BK151.out 2).trans rfl
         have hcz13_3:wc.cell? ⟨gb151,3,none⟩=some (.string ((rd_T38 l0 x6_1).f3)):=(bc_ BK151.out 3).trans rfl
         have hcz13_4:wc.cell? ⟨gb151,4,none⟩=some (.slice A150_4 ((rd_T38 l0 x6_1).f4).length c150_4):=(bc_ BK151.out 4).trans rfl
         have hcz13_5:wc.cell? ⟨gb151,5,none⟩=some (.slice A150_5 ((rd_T38 l0 x6_1).f5).length c150_5):=(bc_ BK151.out 5).trans rfl
         have hfz13_0:=bf_ BK151.out 0
         have hfz13_1:=bf_ BK151.out 1
         have hfz13_2:=bf_ BK151.out 2
         have hfz13_3:=bf_ BK151.out 3
         have hfz13_4:=bf_ BK151.out 4
         have hfz13_5:=bf_ BK151.out 5
         go_wp2
         go_roundg kj4
         case measure=>have:=HK1.out;have:=HJ4.out;omega
         case rel=>exact ⟨(x5_1++((rd_T38 l0 x6_1).f3)),(wrap64 (x6_1+1)),(by first|rfl|(simp;done)|(simp [*];done)),(by first|rfl|(simp;done)|(simp [*];done)),H',⟨by have:=HK1.out;have:=HJ4.out;omega⟩,⟨by repeat (first|(with_reducible first|exact HB.out|apply ba_|apply pd_|apply b1_|refine bs_ ?_ GE151.out)|exact HB.out)⟩⟩
        ·rw [if_neg c12] at H
         exact absurd H (by simp)
       ·replace c11:=bm_ c11
        subst c11
        have H1:(if ((rd_T38 l0 x6_1).f0)=2 then ((spec_l02Text.f kj4 ((rd_T38 l0 x6_1).f3)).bind fun t152=>(if x5_1.size+t152.size≤9223372036854775807 then (spec_l06Tree.l0 kj4 l0 a1 (x5_1++t152) (wrap64 (x6_1+1))) else (none))) else (if ((rd_T38 l0 x6_1).f0)=3 then (if 4+((rd_T38 l0 x6_1).f3).size≤9223372036854775807 then (if ((⟨#[60,33,45,45]⟩:ByteArray)++((rd_T38 l0 x6_1).f3)).size+3≤9223372036854775807 then (if x5_1.size+(((⟨#[60,33,45,45]⟩:ByteArray)++((rd_T38 l0 x6_1).f3))++(⟨#[45,45,62]⟩:ByteArray)).size≤9223372036854775807 then (spec_l06Tree.l0 kj4 l0 a1 (x5_1++(((⟨#[60,33,45,45]⟩:ByteArray)++((rd_T38 l0 x6_1).f3))++(⟨#[45,45,62]⟩:ByteArray))) (wrap64 (x6_1+1))) else (none)) else (none)) else (none)) else ((spec_l06Start.f kj4 ((rd_T38 l0 x6_1).f0) ((rd_T38 l0 x6_1).f1) ((rd_T38 l0 x6_1).f2) ((rd_T38 l0 x6_1).f3) ((rd_T38 l0 x6_1).f4) ((rd_T38 l0 x6_1).f5)).bind fun t153=>(if x5_1.size+t153.size≤9223372036854775807 then (if ((rd_T38 l0 x6_1).f1)=0 then ((spec_l01Void.f kj4 ((rd_T38 l0 x6_1).f2)).bind fun t154=>(spec_l06Tree.j2 kj4 l0 a1 (x5_1++t153) x6_1 t154 ((rd_T38 l0 x6_1).f0) ((rd_T38 l0 x6_1).f1) ((rd_T38 l0 x6_1).f2) ((rd_T38 l0 x6_1).f3) ((rd_T38 l0 x6_1).f4) ((rd_T38 l0 x6_1).f5))) else (spec_l06Tree.j2 kj4 l0 a1 (x5_1++t153) x6_1 false ((rd_T38 l0 x6_1).f0) ((rd_T38 l0 x6_1).f1) ((rd_T38 l0 x6_1).f2) ((rd_T38 l0 x6_1).f3) ((rd_T38 l0 x6_1).f4) ((rd_T38 l0 x6_1).f5))) else (none)))))=some r:=by rw [if_neg (show ¬ (false=true) by decide)] at H;exact H
        clear H
        have H:=H1
        clear H1
        by_cases c14:((rd_T38 l0 x6_1).f0)=2
        ·rw [if_pos c14] at H
         have c14b0:(((rd_T38 l0 x6_1).f0) == 2)=true:=beq_iff_eq.mpr c14
         have c14b1:(((rd_T38 l0 x6_1).f0) != 2)=false:=bne_eq_false_iff_eq.mpr c14
         clear c14
         replace H:=ob_ H
         obtain ⟨t152,A150,H⟩:=H
         replace H:(if x5_1.size+t152.size≤9223372036854775807 then (spec_l06Tree.l0 kj4 l0 a1 (x5_1++t152) (wrap64 (x6_1+1))) else (none))=some r:=H
         have A15:=A_ A150
         clear A150
         by_cases c16:x5_1.size+t152.size≤9223372036854775807
         ·rw [if_pos c16] at H
          have c16b0:=eq_true c16
          have c16b1:decide (x5_1.size+t152.size≤9223372036854775807)=true:=dt_ c16
          try have c16b2:(9223372036854775807<x5_1.size+t152.size)=False:=eq_false (Nat.not_lt.2 c16)
          have H':=A_ H
          clear H
          have hcz17_0:wc.cell? ⟨gb151,0,none⟩=some (.int .i64 ((rd_T38 l0 x6_1).f0)):=(bc_ BK151.out 0).trans rfl
          have hcz17_1:wc.cell? ⟨gb151,1,none⟩=some (.int .i64 ((rd_T38 l0 x6_1).f1)):=(bc_ BK151.out 1).trans rfl
          have hcz17_2:wc.cell? ⟨gb151,2,none⟩=some (.string ((rd_T38 l0 x6_1).f2)):=(bc_ BK151.out 2).trans rfl
          have hcz17_3:wc.cell? ⟨gb151,3,none⟩=some (.string ((rd_T38 l0 x6_1).f3)):=(bc_ BK151.out 3).trans rfl
          have hcz17_4:wc.cell? ⟨gb151,4,none⟩=some (.slice A150_4 ((rd_T38 l0 x6_1).f4).length c150_4):=(bc_ BK151.out 4).trans rfl
          have hcz17_5:wc.cell? ⟨gb151,5,none⟩=some (.slice A150_5 ((rd_T38 l0 x6_1).f5).length c150_5):=(bc_ BK151.out 5).trans rfl
          have hfz17_0:=bf_ BK151.out 0
          have hfz17_1:=bf_ BK151.out 1
          have hfz17_2:=bf_ BK151.out 2
          have hfz17_3:=bf_ BK151.out 3
          have hfz17_4:=bf_ BK151.out 4
          have hfz17_5:=bf_ BK151.out 5
          go_wp2_with (first|((with_reducible refine gate_callee (f:=18) rfl ?_);refine goesL_ (some 66) rfl rfl Tryz.func18 (by kernel_rfl) rfl #[.string ((rd_T38 l0 x6_1).f3)] rfl (by (try simp only [List.map_toArray,List.map_cons,List.map_nil]);first|done|rfl|(simp only [ld_,lt_];rfl)) ?_;(with_reducible refine (spec_l02Text.calls kj4 ((rd_T38 l0 x6_1).f3) t152 _ A15.out).mono ?_);rintro e w' ⟨rfl,⟨nd,rfl⟩⟩;refine ⟨_,rfl,?_⟩))
          go_roundg kj4
          case measure=>have:=HK1.out;have:=HJ4.out;omega
          case rel=>exact ⟨(x5_1++t152),(wrap64 (x6_1+1)),(by first|rfl|(simp;done)|(simp [*];done)),(by first|rfl|(simp;done)|(simp [*];done)),H',⟨by have:=HK1.out;have:=HJ4.out;omega⟩,⟨by repeat (first|(with_reducible first|exact HB.out|apply ba_|apply pd_|apply b1_|refine bs_ ?_ GE151.out)|exact HB.out)⟩⟩
         ·rw [if_neg c16] at H
          exact absurd H (by simp)
        ·rw [if_neg c14] at H
         have c14b0:(((rd_T38 l0 x6_1).f0) == 2)=false:=beq_eq_false_iff_ne.mpr c14
         have c14b1:(((rd_T38 l0 x6_1).f0) != 2)=true:=bne_iff_ne.mpr c14
         by_cases c18:((rd_T38 l0 x6_1).f0)=3
         ·rw [if_pos c18] at H
          have c18b0:(((rd_T38 l0 x6_1).f0) == 3)=true:=beq_iff_eq.mpr c18
          have c18b1:(((rd_T38 l0 x6_1).f0) != 3)=false:=bne_eq_false_iff_eq.mpr c18
          clear c18
          by_cases c19:4+((rd_T38 l0 x6_1).f3).size≤9223372036854775807
          ·rw [if_pos c19] at H
           have c19b0:=eq_true c19
           have c19b1:decide (4+((rd_T38 l0 x6_1).f3).size≤9223372036854775807)=true:=dt_ c19
           try have c19b2:(9223372036854775807<4+((rd_T38 l0 x6_1).f3).size)=False:=eq_false (Nat.not_lt.2 c19)
           by_cases c20:((⟨#[60,33,45,45]⟩:ByteArray)++((rd_T38 l0 x6_1).f3)).size+3≤9223372036854775807
           ·rw [if_pos c20] at H
            have c20b0:=eq_true c20
            have c20b1:decide (((⟨#[60,33,45,45]⟩:ByteArray)++((rd_T38 l0 x6_1).f3)).size+3≤9223372036854775807)=true:=dt_ c20
            try have c20b2:(9223372036854775807<((⟨#[60,33,45,45]⟩:ByteArray)++((rd_T38 l0 x6_1).f3)).size+3)=False:=eq_false (Nat.not_lt.2 c20)
            have c20b8:=c20b1
            have c20b9:=c20b2
            have l0_:(⟨#[60,33,45,45]⟩:ByteArray).size=4:=rfl
            try simp only [ByteArray.size_append,l0_] at c20b8 c20b9
            clear l0_
            by_cases c21:x5_1.size+(((⟨#[60,33,45,45]⟩:ByteArray)++((rd_T38 l0 x6_1).f3))++(⟨#[45,45,62]⟩:ByteArray)).size≤9223372036854775807
            ·rw [if_pos c21] at H
             have c21b0:=eq_true c21
             have c21b1:decide (x5_1.size+(((⟨#[60,33,45,45]⟩:ByteArray)++((rd_T38 l0 x6_1).f3))++(⟨#[45,45,62]⟩:ByteArray)).size≤9223372036854775807)=true:=dt_ c21
             try have c21b2:(9223372036854775807<x5_1.size+(((⟨#[60,33,45,45]⟩:ByteArray)++((rd_T38 l0 x6_1).f3))++(⟨#[45,45,62]⟩:ByteArray)).size)=False:=eq_false (Nat.not_lt.2 c21)
             have c21b8:=c21b1
             have c21b9:=c21b2
             have l0_:(⟨#[45,45,62]⟩:ByteArray).size=3:=rfl
             have l1_:(⟨#[60,33,45,45]⟩:ByteArray).size=4:=rfl
             try simp only [ByteArray.size_append,l0_,l1_] at c21b8 c21b9
             clear l0_ l1_
             have H':=A_ H
             clear H
             have hcz22_0:wc.cell? ⟨gb151,0,none⟩=some (.int .i64 ((rd_T38 l0 x6_1).f0)):=(bc_ BK151.out 0).trans rfl
             have hcz22_1:wc.cell? ⟨gb151,1,none⟩=some (.int .i64 ((rd_T38 l0 x6_1).f1)):=(bc_ BK151.out 1).trans rfl
             have hcz22_2:wc.cell? ⟨gb151,2,none⟩=some (.string ((rd_T38 l0 x6_1).f2)):=(bc_ BK151.out 2).trans rfl
             have hcz22_3:wc.cell? ⟨gb151,3,none⟩=some (.string ((rd_T38 l0 x6_1).f3)):=(bc_ BK151.out 3).trans rfl
             have hcz22_4:wc.cell? ⟨gb151,4,none⟩=some (.slice A150_4 ((rd_T38 l0 x6_1).f4).length c150_4):=(bc_ BK151.out 4).trans rfl
             have hcz22_5:wc.cell? ⟨gb151,5,none⟩=some (.slice A150_5 ((rd_T38 l0 x6_1).f5).length c150_5):=(bc_ BK151.out 5).trans rfl
             have hfz22_0:=bf_ BK151.out 0
             have hfz22_1:=bf_ BK151.out 1
             have hfz22_2:=bf_ BK151.out 2
             have hfz22_3:=bf_ BK151.out 3
             have hfz22_4:=bf_ BK151.out 4
             have hfz22_5:=bf_ BK151.out 5
             go_wp2
             go_roundg kj4
             case measure=>have:=HK1.out;have:=HJ4.out;omega
             case rel=>exact ⟨(x5_1++(((⟨#[60,33,45,45]⟩:ByteArray)++((rd_T38 l0 x6_1).f3))++(⟨#[45,45,62]⟩:ByteArray))),(wrap64 (x6_1+1)),(by first|rfl|(simp;done)|(simp [*];done)),(by first|rfl|(simp;done)|(simp [*];done)),H',⟨by have:=HK1.out;have:=HJ4.out;omega⟩,⟨by repeat (first|(with_reducible first|exact HB.out|apply ba_|apply pd_|apply b1_|refine bs_ ?_ GE151.out)|exact HB.out)⟩⟩
            ·rw [if_neg c21] at H
             exact absurd H (by simp)
           ·rw [if_neg c20] at H
            exact absurd H (by simp)
          ·rw [if_neg c19] at H
           exact absurd H (by simp)
         ·rw [if_neg c18] at H
          have c18b0:(((rd_T38 l0 x6_1).f0) == 3)=false:=beq_eq_false_iff_ne.mpr c18
          have c18b1:(((rd_T38 l0 x6_1).f0) != 3)=true:=bne_iff_ne.mpr c18
          replace H:=ob_ H
          obtain ⟨t153,A230,H⟩:=H
          replace H:(if x5_1.size+t153.size≤9223372036854775807 then (if ((rd_T38 l0 x6_1).f1)=0 then ((spec_l01Void.f kj4 ((rd_T38 l0 x6_1).f2)).bind fun t154=>(spec_l06Tree.j2 kj4 l0 a1 (x5_1++t153) x6_1 t154 ((rd_T38 l0 x6_1).f0) ((rd_T38 l0 x6_1).f1) ((rd_T38 l0 x6_1).f2) ((rd_T38 l0 x6_1).f3) ((rd_T38 l0 x6_1).f4) ((rd_T38 l0 x6_1).f5))) else (spec_l06Tree.j2 kj4 l0 a1 (x5_1++t153) x6_1 false ((rd_T38 l0 x6_1).f0) ((rd_T38 l0 x6_1).f1) ((rd_T38 l0 x6_1).f2) ((rd_T38 l0 x6_1).f3) ((rd_T38 l0 x6_1).f4) ((rd_T38 l0 x6_1).f5))) else (none))=some r:=H
          have A23:=A_ A230
          clear A230
          by_cases c24:x5_1.size+t153.size≤9223372036854775807
          ·rw [if_pos c24] at H
           have c24b0:=eq_true c24
           have c24b1:decide (x5_1.size+t153.size≤9223372036854775807)=true:=dt_ c24
           try have c24b2:(9223372036854775807<x5_1.size+t153.size)=False:=eq_false (Nat.not_lt.2 c24)
           have HC25:=A_ H
           clear H
           have hcz26_0:wc.cell? ⟨gb151,0,none⟩=some (.int .i64 ((rd_T38 l0 x6_1).f0)):=(bc_ BK151.out 0).trans rfl
           have hcz26_1:wc.cell? ⟨gb151,1,none⟩=some (.int .i64 ((rd_T38 l0 x6_1).f1)):=(bc_ BK151.out 1).trans rfl
           have hcz26_2:wc.cell? ⟨gb151,2,none⟩=some (.string ((rd_T38 l0 x6_1).f2)):=(bc_ BK151.out 2).trans rfl
           have hcz26_3:wc.cell? ⟨gb151,3,none⟩=some (.string ((rd_T38 l0 x6_1).f3)):=(bc_ BK151.out 3).trans rfl
           have hcz26_4:wc.cell? ⟨gb151,4,none⟩=some (.slice A150_4 ((rd_T38 l0 x6_1).f4).length c150_4):=(bc_ BK151.out 4).trans rfl
           have hcz26_5:wc.cell? ⟨gb151,5,none⟩=some (.slice A150_5 ((rd_T38 l0 x6_1).f5).length c150_5):=(bc_ BK151.out 5).trans rfl
           have hfz26_0:=bf_ BK151.out 0
           have hfz26_1:=bf_ BK151.out 1
           have hfz26_2:=bf_ BK151.out 2
           have hfz26_3:=bf_ BK151.out 3
           have hfz26_4:=bf_ BK151.out 4
           have hfz26_5:=bf_ BK151.out 5
           go_upto_region 7 with (first|((with_reducible refine gate_callee (f:=19) rfl ?_);refine goesL_ (some 20) rfl rfl Tryz.func19 (by kernel_rfl) rfl #[.agg #[.int .i64 ((rd_T38 l0 x6_1).f0),.int .i64 ((rd_T38 l0 x6_1).f1),.string ((rd_T38 l0 x6_1).f2),.string ((rd_T38 l0 x6_1).f3),.slice A150_4 ((rd_T38 l0 x6_1).f4).length c150_4,.slice A150_5 ((rd_T38 l0 x6_1).f5).length c150_5]] rfl (by (try simp only [List.map_toArray,List.map_cons,List.map_nil]);first|done|rfl|(simp only [ld_,lt_];rfl)) ?_;(with_reducible refine (spec_l06Start.calls kj4 ((rd_T38 l0 x6_1).f0) ((rd_T38 l0 x6_1).f1) ((rd_T38 l0 x6_1).f2) ((rd_T38 l0 x6_1).f3) _ _ ((rd_T38 l0 x6_1).f4) _ _ ((rd_T38 l0 x6_1).f5) t153 _ ?side1 ?side2 ?side3 ?side4 A23.out).mono ?_);(case side1=>repeat (first|exact (cb_ HR150_4.out HB.out)|(with_reducible refine ca_ ?_ _)|(with_reducible refine cn_ ?_ _)|(with_reducible refine cd_ ?_)));(case side2=>exact HC150_4.out);(case side3=>repeat (first|exact (cb_ HR150_5.out HB.out)|(with_reducible refine ca_ ?_ _)|(with_reducible refine cn_ ?_ _)|(with_reducible refine cd_ ?_)));(case side4=>exact HC150_5.out);rintro e w27 ⟨rfl,hb⟩;refine ⟨_,rfl,?_⟩;have n0_:=A_ (kb_ (g:=gb151) (o:=.cells #[.int .i64 ((rd_T38 l0 x6_1).f0),.int .i64 ((rd_T38 l0 x6_1).f1),.string ((rd_T38 l0 x6_1).f2),.string ((rd_T38 l0 x6_1).f3),.slice A150_4 ((rd_T38 l0 x6_1).f4).length c150_4,.slice A150_5 ((rd_T38 l0 x6_1).f5).length c150_5] 38 (0,0)) (by (with_reducible repeat (first|refine kn_ ?_ _|refine kd_ ?_|refine ka_ ?_ _));exact BK151.out) hb);have n1_:=A_ (bp_ (by repeat (first|(with_reducible first|exact HB.out|apply ba_|apply pd_|apply b1_|refine bs_ ?_ GE151.out)|exact HB.out)) hb);clear BK151;clear HB;have BK151:=n0_;have HB:=n1_;clear n0_ n1_;(try clear hb);(try clear hb2);(try clear hk);(try clear hi)))
           (try simp only [Act.put,ls_,lz_,lc_])
           go_cut [29] (fun v29 wc=>∃ (kq:Nat) (x29_24:Bool),v29=.bool x29_24∧Aside0 (spec_l06Tree.j2 kq l0 a1 (x5_1++t153) x6_1 x29_24 ((rd_T38 l0 x6_1).f0) ((rd_T38 l0 x6_1).f1) ((rd_T38 l0 x6_1).f2) ((rd_T38 l0 x6_1).f3) ((rd_T38 l0 x6_1).f4) ((rd_T38 l0 x6_1).f5)=some r)∧Aside0 (kq≤kj4)∧Aside0 (wc.heap[gb151]? = some (.cells #[.int .i64 ((rd_T38 l0 x6_1).f0),.int .i64 ((rd_T38 l0 x6_1).f1),.string ((rd_T38 l0 x6_1).f2),.string ((rd_T38 l0 x6_1).f3),(.slice A150_4 ((rd_T38 l0 x6_1).f4).length c150_4),(.slice A150_5 ((rd_T38 l0 x6_1).f5).length c150_5)] 38 (0,0)))∧Aside0 (Below w.heap.size w wc))
           case first =>
            have H:=HC25.out
            clear HC25
            by_cases c28:((rd_T38 l0 x6_1).f1)=0
            ·rw [if_pos c28] at H
             have c28b0:(((rd_T38 l0 x6_1).f1) == 0)=true:=beq_iff_eq.mpr c28
             have c28b1:(((rd_T38 l0 x6_1).f1) != 0)=false:=bne_eq_false_iff_eq.mpr c28
             clear c28
             (first|rw [c28b0]|(simp only [i64_w,i32_w];rw [c28b0])|skip)
             replace H:=ob_ H
             obtain ⟨t154,A290,H⟩:=H
             replace H:(spec_l06Tree.j2 kj4 l0 a1 (x5_1++t153) x6_1 t154 ((rd_T38 l0 x6_1).f0) ((rd_T38 l0 x6_1).f1) ((rd_T38 l0 x6_1).f2) ((rd_T38 l0 x6_1).f3) ((rd_T38 l0 x6_1).f4) ((rd_T38 l0 x6_1).f5))=some r:=H
             have A29:=A_ A290
             clear A290
             have H':=A_ H
             clear H
             have hcz30_0:w27.cell? ⟨gb151,0,none⟩=some (.int .i64 ((rd_T38 l0 x6_1).f0)):=(bc_ BK151.out 0).trans rfl
             have hcz30_1:w27.cell? ⟨gb151,1,none⟩=some (.int .i64 ((rd_T38 l0 x6_1).f1)):=(bc_ BK151.out 1).trans rfl
             have hcz30_2:w27.cell? ⟨gb151,2,none⟩=some (.string ((rd_T38 l0 x6_1).f2)):=(bc_ BK151.out 2).trans rfl
             have hcz30_3:w27.cell? ⟨gb151,3,none⟩=some (.string ((rd_T38 l0 x6_1).f3)):=(bc_ BK151.out 3).trans rfl
             have hcz30_4:w27.cell? ⟨gb151,4,none⟩=some (.slice A150_4 ((rd_T38 l0 x6_1).f4).length c150_4):=(bc_ BK151.out 4).trans rfl
             have hcz30_5:w27.cell? ⟨gb151,5,none⟩=some (.slice A150_5 ((rd_T38 l0 x6_1).f5).length c150_5):=(bc_ BK151.out 5).trans rfl
             have hfz30_0:=bf_ BK151.out 0
             have hfz30_1:=bf_ BK151.out 1
             have hfz30_2:=bf_ BK151.out 2
             have hfz30_3:=bf_ BK151.out 3
             have hfz30_4:=bf_ BK151.out 4
             have hfz30_5:=bf_ BK151.out 5
             go_wp2_with (first|(go_at_call 20;(with_reducible refine (spec_l01Void.calls kj4 ((rd_T38 l0 x6_1).f2) t154 _ A29.out).mono ?_);rintro e w31 ⟨rfl,hb⟩;have n0_:=A_ (kb_ (g:=gb151) (o:=.cells #[.int .i64 ((rd_T38 l0 x6_1).f0),.int .i64 ((rd_T38 l0 x6_1).f1),.string ((rd_T38 l0 x6_1).f2),.string ((rd_T38 l0 x6_1).f3),.slice A150_4 ((rd_T38 l0 x6_1).f4).length c150_4,.slice A150_5 ((rd_T38 l0 x6_1).f5).length c150_5] 38 (0,0)) (by (with_reducible repeat (first|refine kn_ ?_ _|refine kd_ ?_|refine ka_ ?_ _));exact BK151.out) hb);have n1_:=A_ (bp_ (by repeat (first|(with_reducible first|exact HB.out|apply ba_|apply pd_|apply b1_|refine bs_ ?_ GE151.out)|exact HB.out)) hb);clear BK151;clear HB;have BK151:=n0_;have HB:=n1_;clear n0_ n1_;(try clear hb);(try clear hb2);(try clear hk);(try clear hi)))
             go_meet
             case rel=>exact ⟨_,(t154),(by first|rfl|(simp;done)|(simp [*];done)),H',⟨by have:=HK1.out;have:=HJ4.out;first|omega|exact Nat.le_refl _⟩,⟨by (with_reducible repeat (first|refine kn_ ?_ _|refine kd_ ?_|refine ka_ ?_ _));exact BK151.out⟩,⟨by repeat (first|(with_reducible first|exact HB.out|apply ba_|apply pd_|apply b1_|refine bs_ ?_ GE151.out)|exact HB.out)⟩⟩
            ·rw [if_neg c28] at H
             have c28b0:(((rd_T38 l0 x6_1).f1) == 0)=false:=beq_eq_false_iff_ne.mpr c28
             have c28b1:(((rd_T38 l0 x6_1).f1) != 0)=true:=bne_iff_ne.mpr c28
             (first|rw [c28b0]|(simp only [i64_w,i32_w];rw [c28b0])|skip)
             have H':=A_ H
             clear H
             have hcz32_0:w27.cell? ⟨gb151,0,none⟩=some (.int .i64 ((rd_T38 l0 x6_1).f0)):=(bc_ BK151.out 0).trans rfl
             have hcz32_1:w27.cell? ⟨gb151,1,none⟩=some (.int .i64 ((rd_T38 l0 x6_1).f1)):=(bc_ BK151.out 1).trans rfl
             have hcz32_2:w27.cell? ⟨gb151,2,none⟩=some (.string ((rd_T38 l0 x6_1).f2)):=(bc_ BK151.out 2).trans rfl
             have hcz32_3:w27.cell? ⟨gb151,3,none⟩=some (.string ((rd_T38 l0 x6_1).f3)):=(bc_ BK151.out 3).trans rfl
             have hcz32_4:w27.cell? ⟨gb151,4,none⟩=some (.slice A150_4 ((rd_T38 l0 x6_1).f4).length c150_4):=(bc_ BK151.out 4).trans rfl
             have hcz32_5:w27.cell? ⟨gb151,5,none⟩=some (.slice A150_5 ((rd_T38 l0 x6_1).f5).length c150_5):=(bc_ BK151.out 5).trans rfl
             have hfz32_0:=bf_ BK151.out 0
             have hfz32_1:=bf_ BK151.out 1
             have hfz32_2:=bf_ BK151.out 2
             have hfz32_3:=bf_ BK151.out 3
             have hfz32_4:=bf_ BK151.out 4
             have hfz32_5:=bf_ BK151.out 5
             go_wp2
             go_meet
             case rel=>exact ⟨_,(false),(by first|rfl|(simp;done)|(simp [*];done)),H',⟨by have:=HK1.out;have:=HJ4.out;first|omega|exact Nat.le_refl _⟩,⟨by (with_reducible repeat (first|refine kn_ ?_ _|refine kd_ ?_|refine ka_ ?_ _));exact BK151.out⟩,⟨by repeat (first|(with_reducible first|exact HB.out|apply ba_|apply pd_|apply b1_|refine bs_ ?_ GE151.out)|exact HB.out)⟩⟩
           case rest =>
            clear HC25
            try clear c1
            try clear p1
            try clear q1
            try clear hx1
            try clear c2
            try clear p2
            try clear c3
            try clear c3b0
            try clear c4
            try clear c4b0
            try clear p6
            try clear c8
            try clear c8b0
            try clear c8b1
            try clear c11
            try clear c12
            try clear c12b0
            try clear c12b1
            try clear c12b2
            try clear c14
            try clear c14b0
            try clear c14b1
            try clear c15
            try clear p15
            try clear q15
            try clear hx15
            try clear c16
            try clear c16b0
            try clear c16b1
            try clear c16b2
            try clear c18
            try clear c18b0
            try clear c18b1
            try clear c19
            try clear c19b0
            try clear c19b1
            try clear c19b2
            try clear c20
            try clear c20b0
            try clear c20b1
            try clear c20b2
            try clear c21
            try clear c21b0
            try clear c21b1
            try clear c21b2
            try clear c24
            try clear c24b0
            try clear c24b1
            try clear c24b2
            try clear c28
            try clear c28b0
            try clear c28b1
            try clear hcz10_0
            try clear hcz10_1
            try clear hcz10_2
            try clear hcz10_3
            try clear hcz10_4
            try clear hcz10_5
            try clear hcz13_0
            try clear hcz13_1
            try clear hcz13_2
            try clear hcz13_3
            try clear hcz13_4
            try clear hcz13_5
            try clear hcz17_0
            try clear hcz17_1
            try clear hcz17_2
            try clear hcz17_3
            try clear hcz17_4
            try clear hcz17_5
            try clear hcz22_0
            try clear hcz22_1
            try clear hcz22_2
            try clear hcz22_3
            try clear hcz22_4
            try clear hcz22_5
            try clear hcz26_0
            try clear hcz26_1
            try clear hcz26_2
            try clear hcz26_3
            try clear hcz26_4
            try clear hcz26_5
            try clear hcz30_0
            try clear hcz30_1
            try clear hcz30_2
            try clear hcz30_3
            try clear hcz30_4
            try clear hcz30_5
            try clear hcz32_0
            try clear hcz32_1
            try clear hcz32_2
            try clear hcz32_3
            try clear hcz32_4
            try clear hcz32_5
            try clear hcz7_0
            try clear hcz7_1
            try clear hcz7_2
            try clear hcz7_3
            try clear hcz7_4
            try clear hcz7_5
            try clear hcz9_0
            try clear hcz9_1
            try clear hcz9_2
            try clear hcz9_3
            try clear hcz9_4
            try clear hcz9_5
            try clear hfz10_0
            try clear hfz10_1
            try clear hfz10_2
            try clear hfz10_3
            try clear hfz10_4
            try clear hfz10_5
            try clear hfz13_0
            try clear hfz13_1
            try clear hfz13_2
            try clear hfz13_3
            try clear hfz13_4
            try clear hfz13_5
            try clear hfz17_0
            try clear hfz17_1
            try clear hfz17_2
            try clear hfz17_3
            try clear hfz17_4
            try clear hfz17_5
            try clear hfz22_0
            try clear hfz22_1
            try clear hfz22_2
            try clear hfz22_3
            try clear hfz22_4
            try clear hfz22_5
            try clear hfz26_0
            try clear hfz26_1
            try clear hfz26_2
            try clear hfz26_3
            try clear hfz26_4
            try clear hfz26_5
            try clear hfz30_0
            try clear hfz30_1
            try clear hfz30_2
            try clear hfz30_3
            try clear hfz30_4
            try clear hfz30_5
            try clear hfz32_0
            try clear hfz32_1
            try clear hfz32_2
            try clear hfz32_3
            try clear hfz32_4
            try clear hfz32_5
            try clear hfz7_0
            try clear hfz7_1
            try clear hfz7_2
            try clear hfz7_3
            try clear hfz7_4
            try clear hfz7_5
            try clear hfz9_0
            try clear hfz9_1
            try clear hfz9_2
            try clear hfz9_3
            try clear hfz9_4
            try clear hfz9_5
            try clear hx150_0
            try clear hx150_1
            try clear hx150_2
            try clear hx150_3
            try clear hx150_4
            try clear hx150_5
            try clear p1
            try clear p150
            try clear p2
            try clear q1
            try clear q150
            obtain ⟨kq,x29_24,rfl,HA,HJ24,BK151,HB⟩:=hcut
            cases kq with
            | zero=>exact absurd HA.out (by simp [spec_l06Tree.j2])
            | succ kj24 =>
             have H:=HA.out
             clear HA
             simp only [spec_l06Tree.j2] at H
             by_cases c33:x29_24=true
             ·subst c33
              have H1:(spec_l06Tree.l0 kj24 l0 a1 (x5_1++t153) (wrap64 (x6_1+1)))=some r:=by rw [if_pos rfl] at H;exact H
              clear H
              have H:=H1
              clear H1
              have H':=A_ H
              clear H
              go_wp2
              go_roundg kj24
              case measure=>have:=HK1.out;have:=HJ4.out;have:=HJ24.out;omega
              case rel=>exact ⟨((x5_1++t153)),(wrap64 (x6_1+1)),(by first|rfl|(simp;done)|(simp [*];done)),(by first|rfl|(simp;done)|(simp [*];done)),H',⟨by have:=HK1.out;have:=HJ4.out;have:=HJ24.out;omega⟩,⟨by repeat (first|(with_reducible first|exact HB.out|apply ba_|apply pd_|apply b1_|refine bs_ ?_ GE151.out)|exact HB.out)⟩⟩
             ·replace c33:=bm_ c33
              subst c33
              have H1:(if ((rd_T38 l0 x6_1).f1)=0 then ((spec_l01Raw.f kj24 ((rd_T38 l0 x6_1).f2)).bind fun t155=>((spec_l06Tree.f kj24 ((rd_T38 l0 x6_1).f5) t155).bind fun t156=>(if t156.size+2≤9223372036854775807 then (if (t156++(⟨#[60,47]⟩:ByteArray)).size+((rd_T38 l0 x6_1).f2).size≤9223372036854775807 then (if ((t156++(⟨#[60,47]⟩:ByteArray))++((rd_T38 l0 x6_1).f2)).size+1≤9223372036854775807 then (if (x5_1++t153).size+(((t156++(⟨#[60,47]⟩:ByteArray))++((rd_T38 l0 x6_1).f2))++(⟨#[62]⟩:ByteArray)).size≤9223372036854775807 then (spec_l06Tree.l0 kj24 l0 a1 ((x5_1++t153)++(((t156++(⟨#[60,47]⟩:ByteArray))++((rd_T38 l0 x6_1).f2))++(⟨#[62]⟩:ByteArray))) (wrap64 (x6_1+1))) else (none)) else (none)) else (none)) else (none)))) else ((spec_l06Tree.f kj24 ((rd_T38 l0 x6_1).f5) false).bind fun t157=>(if t157.size+2≤9223372036854775807 then (if (t157++(⟨#[60,47]⟩:ByteArray)).size+((rd_T38 l0 x6_1).f2).size≤9223372036854775807 then (if ((t157++(⟨#[60,47]⟩:ByteArray))++((rd_T38 l0 x6_1).f2)).size+1≤9223372036854775807 then (if (x5_1++t153).size+(((t157++(⟨#[60,47]⟩:ByteArray))++((rd_T38 l0 x6_1).f2))++(⟨#[62]⟩:ByteArray)).size≤9223372036854775807 then (spec_l06Tree.l0 kj24 l0 a1 ((x5_1++t153)++(((t157++(⟨#[60,47]⟩:ByteArray))++((rd_T38 l0 x6_1).f2))++(⟨#[62]⟩:ByteArray))) (wrap64 (x6_1+1))) else (none)) else (none)) else (none)) else (none))))=some r:=by rw [if_neg (show ¬ (false=true) by decide)] at H;exact H
              clear H
              have H:=H1
              clear H1
              by_cases c34:((rd_T38 l0 x6_1).f1)=0
              ·rw [if_pos c34] at H
               have c34b0:(((rd_T38 l0 x6_1).f1) == 0)=true:=beq_iff_eq.mpr c34
               have c34b1:(((rd_T38 l0 x6_1).f1) != 0)=false:=bne_eq_false_iff_eq.mpr c34
               clear c34
               replace H:=ob_ H
               obtain ⟨t155,A350,H⟩:=H
               replace H:((spec_l06Tree.f kj24 ((rd_T38 l0 x6_1).f5) t155).bind fun t156=>(if t156.size+2≤9223372036854775807 then (if (t156++(⟨#[60,47]⟩:ByteArray)).size+((rd_T38 l0 x6_1).f2).size≤9223372036854775807 then (if ((t156++(⟨#[60,47]⟩:ByteArray))++((rd_T38 l0 x6_1).f2)).size+1≤9223372036854775807 then (if (x5_1++t153).size+(((t156++(⟨#[60,47]⟩:ByteArray))++((rd_T38 l0 x6_1).f2))++(⟨#[62]⟩:ByteArray)).size≤9223372036854775807 then (spec_l06Tree.l0 kj24 l0 a1 ((x5_1++t153)++(((t156++(⟨#[60,47]⟩:ByteArray))++((rd_T38 l0 x6_1).f2))++(⟨#[62]⟩:ByteArray))) (wrap64 (x6_1+1))) else (none)) else (none)) else (none)) else (none)))=some r:=H
               have A35:=A_ A350
               clear A350
               replace H:=ob_ H
               obtain ⟨t156,A360,H⟩:=H
               replace H:(if t156.size+2≤9223372036854775807 then (if (t156++(⟨#[60,47]⟩:ByteArray)).size+((rd_T38 l0 x6_1).f2).size≤9223372036854775807 then (if ((t156++(⟨#[60,47]⟩:ByteArray))++((rd_T38 l0 x6_1).f2)).size+1≤9223372036854775807 then (if (x5_1++t153).size+(((t156++(⟨#[60,47]⟩:ByteArray))++((rd_T38 l0 x6_1).f2))++(⟨#[62]⟩:ByteArray)).size≤9223372036854775807 then (spec_l06Tree.l0 kj24 l0 a1 ((x5_1++t153)++(((t156++(⟨#[60,47]⟩:ByteArray))++((rd_T38 l0 x6_1).f2))++(⟨#[62]⟩:ByteArray))) (wrap64 (x6_1+1))) else (none)) else (none)) else (none)) else (none))=some r:=H
               have A36:=A_ A360
               clear A360
               by_cases c37:t156.size+2≤9223372036854775807
               ·rw [if_pos c37] at H
                have c37b0:=eq_true c37
                have c37b1:decide (t156.size+2≤9223372036854775807)=true:=dt_ c37
                try have c37b2:(9223372036854775807<t156.size+2)=False:=eq_false (Nat.not_lt.2 c37)
                by_cases c38:(t156++(⟨#[60,47]⟩:ByteArray)).size+((rd_T38 l0 x6_1).f2).size≤9223372036854775807
                ·rw [if_pos c38] at H
                 have c38b0:=eq_true c38
                 have c38b1:decide ((t156++(⟨#[60,47]⟩:ByteArray)).size+((rd_T38 l0 x6_1).f2).size≤9223372036854775807)=true:=dt_ c38
                 try have c38b2:(9223372036854775807<(t156++(⟨#[60,47]⟩:ByteArray)).size+((rd_T38 l0 x6_1).f2).size)=False:=eq_false (Nat.not_lt.2 c38)
                 have c38b8:=c38b1
                 have c38b9:=c38b2
                 have l0_:(⟨#[60,47]⟩:ByteArray).size=2:=rfl
                 try simp only [ByteArray.size_append,l0_] at c38b8 c38b9
                 clear l0_
                 by_cases c39:((t156++(⟨#[60,47]⟩:ByteArray))++((rd_T38 l0 x6_1).f2)).size+1≤9223372036854775807
                 ·rw [if_pos c39] at H
                  have c39b0:=eq_true c39
                  have c39b1:decide (((t156++(⟨#[60,47]⟩:ByteArray))++((rd_T38 l0 x6_1).f2)).size+1≤9223372036854775807)=true:=dt_ c39
                  try have c39b2:(9223372036854775807<((t156++(⟨#[60,47]⟩:ByteArray))++((rd_T38 l0 x6_1).f2)).size+1)=False:=eq_false (Nat.not_lt.2 c39)
                  have c39b8:=c39b1
                  have c39b9:=c39b2
                  have l0_:(⟨#[60,47]⟩:ByteArray).size=2:=rfl
                  try simp only [ByteArray.size_append,l0_] at c39b8 c39b9
                  clear l0_
                  by_cases c40:(x5_1++t153).size+(((t156++(⟨#[60,47]⟩:ByteArray))++((rd_T38 l0 x6_1).f2))++(⟨#[62]⟩:ByteArray)).size≤9223372036854775807
                  ·rw [if_pos c40] at H
                   have c40b0:=eq_true c40
                   have c40b1:decide ((x5_1++t153).size+(((t156++(⟨#[60,47]⟩:ByteArray))++((rd_T38 l0 x6_1).f2))++(⟨#[62]⟩:ByteArray)).size≤9223372036854775807)=true:=dt_ c40
                   try have c40b2:(9223372036854775807<(x5_1++t153).size+(((t156++(⟨#[60,47]⟩:ByteArray))++((rd_T38 l0 x6_1).f2))++(⟨#[62]⟩:ByteArray)).size)=False:=eq_false (Nat.not_lt.2 c40)
                   have c40b8:=c40b1
                   have c40b9:=c40b2
                   have l0_:(⟨#[60,47]⟩:ByteArray).size=2:=rfl
                   have l1_:(⟨#[62]⟩:ByteArray).size=1:=rfl
                   try simp only [ByteArray.size_append,l0_,l1_] at c40b8 c40b9
                   clear l0_ l1_
                   have H':=A_ H
                   clear H
                   try go_wp2
                   have n0_:=A_ (kd_ BK151.out)
                   have n1_:=A_ (b1_ HB.out)
                   clear BK151
                   clear HB
                   have BK151:=n0_
                   have HB:=n1_
                   clear n0_ n1_
                   refine start_ (n:=19) (S:=fun w'=>w'.cell? ⟨gb151,0,none⟩=some (.int .i64 ((rd_T38 l0 x6_1).f0))∧w'.cell? ⟨gb151,1,none⟩=some (.int .i64 ((rd_T38 l0 x6_1).f1))∧w'.cell? ⟨gb151,2,none⟩=some (.string ((rd_T38 l0 x6_1).f2))∧w'.cell? ⟨gb151,3,none⟩=some (.string ((rd_T38 l0 x6_1).f3))∧w'.cell? ⟨gb151,4,none⟩=some (.slice A150_4 ((rd_T38 l0 x6_1).f4).length c150_4)∧w'.cell? ⟨gb151,5,none⟩=some (.slice A150_5 ((rd_T38 l0 x6_1).f5).length c150_5)) (ds:=[]) #[F_,F_,F_,F_,F_,F_,F_,F_,F_,F_,F_,F_,F_,F_,F_,F_,F_,F_,F_] (by kernel_rfl) rfl rfl ⟨(bc_ BK151.out 0).trans rfl,(bc_ BK151.out 1).trans rfl,(bc_ BK151.out 2).trans rfl,(bc_ BK151.out 3).trans rfl,(bc_ BK151.out 4).trans rfl,(bc_ BK151.out 5).trans rfl⟩ (fun hHeld=>?_);refine with_tabW spec_l06Tree.tab8 spec_l06Tree.bits8 (fun HT_ HW_=>?_)
                   generalize wc.drew=w41 at BK151 HB hHeld ⊢
                   refine pure_ (i:=0) (N:=some 30) (v:=?_) (a':=?_) #[T_,F_,F_,F_,F_,F_,F_,F_,F_,F_,F_,F_,F_,F_,F_,F_,F_,F_,F_] rfl rfl (any_of HT_.out (by kernel_rfl)) (fun _ _ _ h=>h) (Or.inl ⟨by rfl,?_⟩) ?_ ?_
                   rotate_left
                   ·intro w'
                    go_simp
                    with_reducible rfl
                   rotate_left
                   ·simp only [Act.put,ls_,lz_,lc_,i64_w,i32_w]
                    rfl
                   refine pure_ (i:=1) (N:=some 31) (v:=?_) (a':=?_) #[T_,T_,F_,F_,F_,F_,F_,F_,F_,F_,F_,F_,F_,F_,F_,F_,F_,F_,F_] rfl rfl (any_of HT_.out (by kernel_rfl)) (fun _ _ _ h=>h) (Or.inl ⟨by rfl,?_⟩) ?_ ?_
                   rotate_left
                   ·intro w'
                    go_simp
                    with_reducible rfl
                   rotate_left
                   ·simp only [Act.put,ls_,lz_,lc_,i64_w,i32_w]
                    rfl
                   refine pure_ (i:=3) (N:=some 33) (v:=?_) (a':=?_) #[T_,T_,F_,T_,F_,F_,F_,F_,F_,F_,F_,F_,F_,F_,F_,F_,F_,F_,F_] rfl rfl (any_of HT_.out (by kernel_rfl)) (fun _ _ _ h=>h) (Or.inl ⟨by rfl,?_⟩) ?_ ?_
                   rotate_left
                   ·intro w'
                    go_simp
                    with_reducible rfl
                   rotate_left
                   ·simp only [Act.put,ls_,lz_,lc_,i64_w,i32_w]
                    rfl
                   refine pure_ (i:=13) (N:=some 43) (v:=?_) (a':=?_) #[T_,T_,F_,T_,F_,F_,F_,F_,F_,F_,F_,F_,F_,T_,F_,F_,F_,F_,F_] rfl rfl (any_of HT_.out (by kernel_rfl)) (fun _ _ _ h=>h) (Or.inl ⟨by rfl,?_⟩) ?_ ?_
                   rotate_left
                   ·intro w'
                    go_simp
                    with_reducible rfl
                   rotate_left
                   ·simp only [Act.put,ls_,lz_,lc_,i64_w,i32_w]
                    rfl
                   refine take_ (i:=2) (N:=some 32) (v:=?_) (a':=?_) #[T_,T_,T_,T_,F_,F_,F_,F_,F_,F_,F_,F_,F_,T_,F_,F_,F_,F_,F_] rfl rfl (take_ofW HT_.out HW_.out (by kernel_rfl)) (fun _ _ _ h=>h) (Or.inl ⟨by rfl,?_⟩) hHeld ?_ ?_
                   rotate_left
                   ·rintro w' ⟨s0,s1,s2,s3,s4,s5⟩
                    go_simp
                    with_reducible rfl
                   rotate_left
                   ·simp only [Act.put,ls_,lz_,lc_,i64_w,i32_w]
                    rfl
                   refine take_ (i:=4) (N:=some 34) (v:=?_) (a':=?_) #[T_,T_,T_,T_,T_,F_,F_,F_,F_,F_,F_,F_,F_,T_,F_,F_,F_,F_,F_] rfl rfl (take_ofW HT_.out HW_.out (by kernel_rfl)) (fun _ _ _ h=>h) (Or.inl ⟨by rfl,?_⟩) hHeld ?_ ?_
                   rotate_left
                   ·rintro w' ⟨s0,s1,s2,s3,s4,s5⟩
                    go_simp
                    with_reducible rfl
                   rotate_left
                   ·simp only [Act.put,ls_,lz_,lc_,i64_w,i32_w]
                    rfl
                   refine pure_ (i:=5) (N:=some 35) (v:=?_) (a':=?_) #[T_,T_,T_,T_,T_,T_,F_,F_,F_,F_,F_,F_,F_,T_,F_,F_,F_,F_,F_] rfl rfl (any_of HT_.out (by kernel_rfl)) (fun _ _ _ h=>h) (Or.inl ⟨by rfl,?_⟩) ?_ ?_
                   rotate_left
                   ·intro w'
                    go_simp
                    with_reducible rfl
                   rotate_left
                   ·simp only [Act.put,ls_,lz_,lc_,i64_w,i32_w]
                    rfl
                   refine pure_ (i:=6) (N:=some 36) (v:=?_) (a':=?_) #[T_,T_,T_,T_,T_,T_,T_,F_,F_,F_,F_,F_,F_,T_,F_,F_,F_,F_,F_] rfl rfl (any_of HT_.out (by kernel_rfl)) (fun _ _ _ h=>h) (Or.inl ⟨by rfl,?_⟩) ?_ ?_
                   rotate_left
                   ·intro w'
                    go_simp
                    with_reducible rfl
                   rotate_left
                   ·simp only [Act.put,ls_,lz_,lc_,i64_w,i32_w]
                    rfl
                   refine pure_ (i:=7) (N:=some 37) (v:=?_) (a':=?_) #[T_,T_,T_,T_,T_,T_,T_,T_,F_,F_,F_,F_,F_,T_,F_,F_,F_,F_,F_] rfl rfl (any_of HT_.out (by kernel_rfl)) (fun _ _ _ h=>h) (Or.inl ⟨by rfl,?_⟩) ?_ ?_
                   rotate_left
                   ·intro w'
                    go_simp
                    with_reducible rfl
                   rotate_left
                   ·simp only [Act.put,ls_,lz_,lc_,i64_w,i32_w]
                    rfl
                   refine take_ (i:=8) (N:=some 38) (v:=?_) (a':=?_) #[T_,T_,T_,T_,T_,T_,T_,T_,T_,F_,F_,F_,F_,T_,F_,F_,F_,F_,F_] rfl rfl (take_ofW HT_.out HW_.out (by kernel_rfl)) (fun _ _ _ h=>h) (Or.inl ⟨by rfl,?_⟩) hHeld ?_ ?_
                   rotate_left
                   ·rintro w' ⟨s0,s1,s2,s3,s4,s5⟩
                    go_simp
                    with_reducible rfl
                   rotate_left
                   ·simp only [Act.put,ls_,lz_,lc_,i64_w,i32_w]
                    rfl
                   refine take_ (i:=14) (N:=some 44) (v:=?_) (a':=?_) #[T_,T_,T_,T_,T_,T_,T_,T_,T_,F_,F_,F_,F_,T_,T_,F_,F_,F_,F_] rfl rfl (take_ofW HT_.out HW_.out (by kernel_rfl)) (fun _ _ _ h=>h) (Or.inl ⟨by rfl,?_⟩) hHeld ?_ ?_
                   rotate_left
                   ·rintro w' ⟨s0,s1,s2,s3,s4,s5⟩
                    go_simp
                    with_reducible rfl
                   rotate_left
                   ·simp only [Act.put,ls_,lz_,lc_,i64_w,i32_w]
                    rfl
                   refine one_ (i:=9) (N:=some 39) #[T_,T_,T_,T_,T_,T_,T_,T_,T_,T_,F_,F_,F_,T_,T_,F_,F_,F_,F_] rfl rfl (one_of HT_.out (by kernel_rfl)) (by decide) (fun K hK=>?_)
                   refine goes_ Tryz.func21 (by kernel_rfl) rfl #[.string ((rd_T38 l0 x6_1).f2)] (by rfl) rfl rfl (by (try simp only [List.map_toArray,List.map_cons,List.map_nil]);first|done|rfl|(simp only [ld_,lt_];rfl)) ?_
                   with_reducible refine (spec_l01Raw.calls kj24 ((rd_T38 l0 x6_1).f2) t155 _ A35.out).mono ?_
                   rintro e w42 ⟨rfl,hb⟩
                   refine ⟨_,rfl,?_⟩
                   have n0_:=A_ (kb_ (g:=gb151) (o:=.cells #[.int .i64 ((rd_T38 l0 x6_1).f0),.int .i64 ((rd_T38 l0 x6_1).f1),.string ((rd_T38 l0 x6_1).f2),.string ((rd_T38 l0 x6_1).f3),.slice A150_4 ((rd_T38 l0 x6_1).f4).length c150_4,.slice A150_5 ((rd_T38 l0 x6_1).f5).length c150_5] 38 (0,0)) (by (with_reducible repeat (first|refine kn_ ?_ _|refine kd_ ?_|refine ka_ ?_ _));exact BK151.out) hb)
                   have n1_:=A_ (bp_ (by repeat (first|(with_reducible first|exact HB.out|apply ba_|apply pd_|apply b1_|refine bs_ ?_ GE151.out)|exact HB.out)) hb)
                   clear BK151
                   clear HB
                   have BK151:=n0_
                   have HB:=n1_
                   clear n0_ n1_
                   (try clear hb)
                   (try clear hb2)
                   (try clear hk)
                   (try clear hi)
                   refine hK.out _ _ ⟨(bc_ BK151.out 0).trans rfl,(bc_ BK151.out 1).trans rfl,(bc_ BK151.out 2).trans rfl,(bc_ BK151.out 3).trans rfl,(bc_ BK151.out 4).trans rfl,(bc_ BK151.out 5).trans rfl⟩ (fun hHeld=>?_)
                   clear hK K
                   refine norm_ (a':=?_) ?_ ?_
                   rotate_left
                   ·show Act.put _ (some 39) _=_
                    simp only [Act.put,ls_,lz_,lc_,i64_w,i32_w]
                    rfl
                   refine pure_ (i:=10) (N:=some 40) (v:=?_) (a':=?_) #[T_,T_,T_,T_,T_,T_,T_,T_,T_,T_,T_,F_,F_,T_,T_,F_,F_,F_,F_] rfl rfl (any_of HT_.out (by kernel_rfl)) (fun _ _ _ h=>h) (Or.inl ⟨by rfl,?_⟩) ?_ ?_
                   rotate_left
                   ·intro w'
                    go_simp
                    with_reducible rfl
                   rotate_left
                   ·simp only [Act.put,ls_,lz_,lc_,i64_w,i32_w]
                    rfl
                   refine one_ (i:=11) (N:=some 41) #[T_,T_,T_,T_,T_,T_,T_,T_,T_,T_,T_,T_,F_,T_,T_,F_,F_,F_,F_] rfl rfl (one_of HT_.out (by kernel_rfl)) (by decide) (fun K hK=>?_)
                   refine goes_ Tryz.func11 (by kernel_rfl) rfl #[.slice A150_5 ((rd_T38 l0 x6_1).f5).length c150_5,.bool t155] (by rfl) rfl rfl (by (try simp only [List.map_toArray,List.map_cons,List.map_nil]);first|done|rfl|(simp only [ld_,lt_];rfl)) ?_
                   with_reducible refine (ih kj24 (by have:=HK1.out;have:=HJ4.out;have:=HJ24.out;omega) _ _ ((rd_T38 l0 x6_1).f5) t155 t156 _ ?side1 ?side2 A36.out).mono ?_
                   (case side1=>repeat (first|exact (cb_ HR150_5.out HB.out)|(with_reducible refine ca_ ?_ _)|(with_reducible refine cn_ ?_ _)|(with_reducible refine cd_ ?_)))
                   (case side2=>exact HC150_5.out)
                   rintro e w43 ⟨rfl,hb⟩
                   refine ⟨_,rfl,?_⟩
                   have n0_:=A_ (kb_ (g:=gb151) (o:=.cells #[.int .i64 ((rd_T38 l0 x6_1).f0),.int .i64 ((rd_T38 l0 x6_1).f1),.string ((rd_T38 l0 x6_1).f2),.string ((rd_T38 l0 x6_1).f3),.slice A150_4 ((rd_T38 l0 x6_1).f4).length c150_4,.slice A150_5 ((rd_T38 l0 x6_1).f5).length c150_5] 38 (0,0)) (by (with_reducible repeat (first|refine kn_ ?_ _|refine kd_ ?_|refine ka_ ?_ _));exact BK151.out) hb)
                   have n1_:=A_ (bp_ (by repeat (first|(with_reducible first|exact HB.out|apply ba_|apply pd_|apply b1_|refine bs_ ?_ GE151.out)|exact HB.out)) hb)
                   clear BK151
                   clear HB
                   have BK151:=n0_
                   have HB:=n1_
                   clear n0_ n1_
                   (try clear hb)
                   (try clear hb2)
                   (try clear hk)
                   (try clear hi)
                   refine hK.out _ _ ⟨(bc_ BK151.out 0).trans rfl,(bc_ BK151.out 1).trans rfl,(bc_ BK151.out 2).trans rfl,(bc_ BK151.out 3).trans rfl,(bc_ BK151.out 4).trans rfl,(bc_ BK151.out 5).trans rfl⟩ (fun hHeld=>?_)
                   clear hK K
                   refine norm_ (a':=?_) ?_ ?_
                   rotate_left
                   ·show Act.put _ (some 41) _=_
                    simp only [Act.put,ls_,lz_,lc_,i64_w,i32_w]
                    rfl
                   refine pure_ (i:=12) (N:=some 42) (v:=?_) (a':=?_) #[T_,T_,T_,T_,T_,T_,T_,T_,T_,T_,T_,T_,T_,T_,T_,F_,F_,F_,F_] rfl rfl (any_of HT_.out (by kernel_rfl)) (fun _ _ _ h=>h) (Or.inl ⟨by rfl,?_⟩) ?_ ?_
                   rotate_left
                   ·intro w'
                    go_simp
                    with_reducible rfl
                   rotate_left
                   ·simp only [Act.put,ls_,lz_,lc_,i64_w,i32_w]
                    rfl
                   refine pure_ (i:=15) (N:=some 45) (v:=?_) (a':=?_) #[T_,T_,T_,T_,T_,T_,T_,T_,T_,T_,T_,T_,T_,T_,T_,T_,F_,F_,F_] rfl rfl (any_of HT_.out (by kernel_rfl)) (fun _ _ _ h=>h) (Or.inl ⟨by rfl,?_⟩) ?_ ?_
                   rotate_left
                   ·intro w'
                    go_simp
                    with_reducible rfl
                   rotate_left
                   ·simp only [Act.put,ls_,lz_,lc_,i64_w,i32_w]
                    rfl
                   refine pure_ (i:=16) (N:=some 46) (v:=?_) (a':=?_) #[T_,T_,T_,T_,T_,T_,T_,T_,T_,T_,T_,T_,T_,T_,T_,T_,T_,F_,F_] rfl rfl (any_of HT_.out (by kernel_rfl)) (fun _ _ _ h=>h) (Or.inl ⟨by rfl,?_⟩) ?_ ?_
                   rotate_left
                   ·intro w'
                    go_simp
                    with_reducible rfl
                   rotate_left
                   ·simp only [Act.put,ls_,lz_,lc_,i64_w,i32_w]
                    rfl
                   refine pure_ (i:=17) (N:=some 47) (v:=?_) (a':=?_) #[T_,T_,T_,T_,T_,T_,T_,T_,T_,T_,T_,T_,T_,T_,T_,T_,T_,T_,F_] rfl rfl (any_of HT_.out (by kernel_rfl)) (fun _ _ _ h=>h) (Or.inl ⟨by rfl,?_⟩) ?_ ?_
                   rotate_left
                   ·intro w'
                    go_simp
                    with_reducible rfl
                   rotate_left
                   ·simp only [Act.put,ls_,lz_,lc_,i64_w,i32_w]
                    rfl
                   refine pure_ (i:=18) (N:=some 5) (v:=?_) (a':=?_) #[T_,T_,T_,T_,T_,T_,T_,T_,T_,T_,T_,T_,T_,T_,T_,T_,T_,T_,T_] rfl rfl (any_of HT_.out (by kernel_rfl)) (fun _ _ _ h=>h) (Or.inl ⟨by rfl,?_⟩) ?_ ?_
                   rotate_left
                   ·intro w'
                    go_simp
                    with_reducible rfl
                   rotate_left
                   ·simp only [Act.put,ls_,lz_,lc_,i64_w,i32_w]
                    rfl
                   refine done_ (done_of HT_.out (by kernel_rfl)) ?_
                   try go_wp2
                   go_roundg kj24
                   case measure=>have:=HK1.out;have:=HJ4.out;have:=HJ24.out;omega
                   case rel=>exact ⟨((x5_1++t153)++(((t156++(⟨#[60,47]⟩:ByteArray))++((rd_T38 l0 x6_1).f2))++(⟨#[62]⟩:ByteArray))),(wrap64 (x6_1+1)),(by first|rfl|(simp;done)|(simp [*];done)),(by first|rfl|(simp;done)|(simp [*];done)),H',⟨by have:=HK1.out;have:=HJ4.out;have:=HJ24.out;omega⟩,⟨by repeat (first|(with_reducible first|exact HB.out|apply ba_|apply pd_|apply b1_|refine bs_ ?_ GE151.out)|exact HB.out)⟩⟩
                  ·rw [if_neg c40] at H
                   exact absurd H (by simp)
                 ·rw [if_neg c39] at H
                  exact absurd H (by simp)
                ·rw [if_neg c38] at H
                 exact absurd H (by simp)
               ·rw [if_neg c37] at H
                exact absurd H (by simp)
              ·rw [if_neg c34] at H
               have c34b0:(((rd_T38 l0 x6_1).f1) == 0)=false:=beq_eq_false_iff_ne.mpr c34
               have c34b1:(((rd_T38 l0 x6_1).f1) != 0)=true:=bne_iff_ne.mpr c34
               replace H:=ob_ H
               obtain ⟨t157,A440,H⟩:=H
               replace H:(if t157.size+2≤9223372036854775807 then (if (t157++(⟨#[60,47]⟩:ByteArray)).size+((rd_T38 l0 x6_1).f2).size≤9223372036854775807 then (if ((t157++(⟨#[60,47]⟩:ByteArray))++((rd_T38 l0 x6_1).f2)).size+1≤9223372036854775807 then (if (x5_1++t153).size+(((t157++(⟨#[60,47]⟩:ByteArray))++((rd_T38 l0 x6_1).f2))++(⟨#[62]⟩:ByteArray)).size≤9223372036854775807 then (spec_l06Tree.l0 kj24 l0 a1 ((x5_1++t153)++(((t157++(⟨#[60,47]⟩:ByteArray))++((rd_T38 l0 x6_1).f2))++(⟨#[62]⟩:ByteArray))) (wrap64 (x6_1+1))) else (none)) else (none)) else (none)) else (none))=some r:=H
               have A44:=A_ A440
               clear A440
               by_cases c45:t157.size+2≤9223372036854775807
               ·rw [if_pos c45] at H
                have c45b0:=eq_true c45
                have c45b1:decide (t157.size+2≤9223372036854775807)=true:=dt_ c45
                try have c45b2:(9223372036854775807<t157.size+2)=False:=eq_false (Nat.not_lt.2 c45)
                by_cases c46:(t157++(⟨#[60,47]⟩:ByteArray)).size+((rd_T38 l0 x6_1).f2).size≤9223372036854775807
                ·rw [if_pos c46] at H
                 have c46b0:=eq_true c46
                 have c46b1:decide ((t157++(⟨#[60,47]⟩:ByteArray)).size+((rd_T38 l0 x6_1).f2).size≤9223372036854775807)=true:=dt_ c46
                 try have c46b2:(9223372036854775807<(t157++(⟨#[60,47]⟩:ByteArray)).size+((rd_T38 l0 x6_1).f2).size)=False:=eq_false (Nat.not_lt.2 c46)
                 have c46b8:=c46b1
                 have c46b9:=c46b2
                 have l0_:(⟨#[60,47]⟩:ByteArray).size=2:=rfl
                 try simp only [ByteArray.size_append,l0_] at c46b8 c46b9
                 clear l0_
                 by_cases c47:((t157++(⟨#[60,47]⟩:ByteArray))++((rd_T38 l0 x6_1).f2)).size+1≤9223372036854775807
                 ·rw [if_pos c47] at H
                  have c47b0:=eq_true c47
                  have c47b1:decide (((t157++(⟨#[60,47]⟩:ByteArray))++((rd_T38 l0 x6_1).f2)).size+1≤9223372036854775807)=true:=dt_ c47
                  try have c47b2:(9223372036854775807<((t157++(⟨#[60,47]⟩:ByteArray))++((rd_T38 l0 x6_1).f2)).size+1)=False:=eq_false (Nat.not_lt.2 c47)
                  have c47b8:=c47b1
                  have c47b9:=c47b2
                  have l0_:(⟨#[60,47]⟩:ByteArray).size=2:=rfl
                  try simp only [ByteArray.size_append,l0_] at c47b8 c47b9
                  clear l0_
                  by_cases c48:(x5_1++t153).size+(((t157++(⟨#[60,47]⟩:ByteArray))++((rd_T38 l0 x6_1).f2))++(⟨#[62]⟩:ByteArray)).size≤9223372036854775807
                  ·rw [if_pos c48] at H
                   have c48b0:=eq_true c48
                   have c48b1:decide ((x5_1++t153).size+(((t157++(⟨#[60,47]⟩:ByteArray))++((rd_T38 l0 x6_1).f2))++(⟨#[62]⟩:ByteArray)).size≤9223372036854775807)=true:=dt_ c48
                   try have c48b2:(9223372036854775807<(x5_1++t153).size+(((t157++(⟨#[60,47]⟩:ByteArray))++((rd_T38 l0 x6_1).f2))++(⟨#[62]⟩:ByteArray)).size)=False:=eq_false (Nat.not_lt.2 c48)
                   have c48b8:=c48b1
                   have c48b9:=c48b2
                   have l0_:(⟨#[60,47]⟩:ByteArray).size=2:=rfl
                   have l1_:(⟨#[62]⟩:ByteArray).size=1:=rfl
                   try simp only [ByteArray.size_append,l0_,l1_] at c48b8 c48b9
                   clear l0_ l1_
                   have H':=A_ H
                   clear H
                   try go_wp2
                   have n0_:=A_ (kd_ BK151.out)
                   have n1_:=A_ (b1_ HB.out)
                   clear BK151
                   clear HB
                   have BK151:=n0_
                   have HB:=n1_
                   clear n0_ n1_
                   refine start_ (n:=19) (S:=fun w'=>w'.cell? ⟨gb151,0,none⟩=some (.int .i64 ((rd_T38 l0 x6_1).f0))∧w'.cell? ⟨gb151,1,none⟩=some (.int .i64 ((rd_T38 l0 x6_1).f1))∧w'.cell? ⟨gb151,2,none⟩=some (.string ((rd_T38 l0 x6_1).f2))∧w'.cell? ⟨gb151,3,none⟩=some (.string ((rd_T38 l0 x6_1).f3))∧w'.cell? ⟨gb151,4,none⟩=some (.slice A150_4 ((rd_T38 l0 x6_1).f4).length c150_4)∧w'.cell? ⟨gb151,5,none⟩=some (.slice A150_5 ((rd_T38 l0 x6_1).f5).length c150_5)) (ds:=[]) #[F_,F_,F_,F_,F_,F_,F_,F_,F_,F_,F_,F_,F_,F_,F_,F_,F_,F_,F_] (by kernel_rfl) rfl rfl ⟨(bc_ BK151.out 0).trans rfl,(bc_ BK151.out 1).trans rfl,(bc_ BK151.out 2).trans rfl,(bc_ BK151.out 3).trans rfl,(bc_ BK151.out 4).trans rfl,(bc_ BK151.out 5).trans rfl⟩ (fun hHeld=>?_);refine with_tabW spec_l06Tree.tab8 spec_l06Tree.bits8 (fun HT_ HW_=>?_)
                   generalize wc.drew=w49 at BK151 HB hHeld ⊢
                   refine pure_ (i:=0) (N:=some 30) (v:=?_) (a':=?_) #[T_,F_,F_,F_,F_,F_,F_,F_,F_,F_,F_,F_,F_,F_,F_,F_,F_,F_,F_] rfl rfl (any_of HT_.out (by kernel_rfl)) (fun _ _ _ h=>h) (Or.inl ⟨by rfl,?_⟩) ?_ ?_
                   rotate_left
                   ·intro w'
                    go_simp
                    with_reducible rfl
                   rotate_left
                   ·simp only [Act.put,ls_,lz_,lc_,i64_w,i32_w]
                    rfl
                   refine pure_ (i:=1) (N:=some 31) (v:=?_) (a':=?_) #[T_,T_,F_,F_,F_,F_,F_,F_,F_,F_,F_,F_,F_,F_,F_,F_,F_,F_,F_] rfl rfl (any_of HT_.out (by kernel_rfl)) (fun _ _ _ h=>h) (Or.inl ⟨by rfl,?_⟩) ?_ ?_
                   rotate_left
                   ·intro w'
                    go_simp
                    with_reducible rfl
                   rotate_left
                   ·simp only [Act.put,ls_,lz_,lc_,i64_w,i32_w]
                    rfl
                   refine pure_ (i:=3) (N:=some 33) (v:=?_) (a':=?_) #[T_,T_,F_,T_,F_,F_,F_,F_,F_,F_,F_,F_,F_,F_,F_,F_,F_,F_,F_] rfl rfl (any_of HT_.out (by kernel_rfl)) (fun _ _ _ h=>h) (Or.inl ⟨by rfl,?_⟩) ?_ ?_
                   rotate_left
                   ·intro w'
                    go_simp
                    with_reducible rfl
                   rotate_left
                   ·simp only [Act.put,ls_,lz_,lc_,i64_w,i32_w]
                    rfl
                   refine pure_ (i:=13) (N:=some 43) (v:=?_) (a':=?_) #[T_,T_,F_,T_,F_,F_,F_,F_,F_,F_,F_,F_,F_,T_,F_,F_,F_,F_,F_] rfl rfl (any_of HT_.out (by kernel_rfl)) (fun _ _ _ h=>h) (Or.inl ⟨by rfl,?_⟩) ?_ ?_
                   rotate_left
                   ·intro w'
                    go_simp
                    with_reducible rfl
                   rotate_left
                   ·simp only [Act.put,ls_,lz_,lc_,i64_w,i32_w]
                    rfl
                   refine take_ (i:=2) (N:=some 32) (v:=?_) (a':=?_) #[T_,T_,T_,T_,F_,F_,F_,F_,F_,F_,F_,F_,F_,T_,F_,F_,F_,F_,F_] rfl rfl (take_ofW HT_.out HW_.out (by kernel_rfl)) (fun _ _ _ h=>h) (Or.inl ⟨by rfl,?_⟩) hHeld ?_ ?_
                   rotate_left
                   ·rintro w' ⟨s0,s1,s2,s3,s4,s5⟩
                    go_simp
                    with_reducible rfl
                   rotate_left
                   ·simp only [Act.put,ls_,lz_,lc_,i64_w,i32_w]
                    rfl
                   refine take_ (i:=4) (N:=some 34) (v:=?_) (a':=?_) #[T_,T_,T_,T_,T_,F_,F_,F_,F_,F_,F_,F_,F_,T_,F_,F_,F_,F_,F_] rfl rfl (take_ofW HT_.out HW_.out (by kernel_rfl)) (fun _ _ _ h=>h) (Or.inl ⟨by rfl,?_⟩) hHeld ?_ ?_
                   rotate_left
                   ·rintro w' ⟨s0,s1,s2,s3,s4,s5⟩
                    go_simp
                    with_reducible rfl
                   rotate_left
                   ·simp only [Act.put,ls_,lz_,lc_,i64_w,i32_w]
                    rfl
                   refine pure_ (i:=5) (N:=some 35) (v:=?_) (a':=?_) #[T_,T_,T_,T_,T_,T_,F_,F_,F_,F_,F_,F_,F_,T_,F_,F_,F_,F_,F_] rfl rfl (any_of HT_.out (by kernel_rfl)) (fun _ _ _ h=>h) (Or.inl ⟨by rfl,?_⟩) ?_ ?_
                   rotate_left
                   ·intro w'
                    go_simp
                    with_reducible rfl
                   rotate_left
                   ·simp only [Act.put,ls_,lz_,lc_,i64_w,i32_w]
                    rfl
                   refine pure_ (i:=6) (N:=some 36) (v:=?_) (a':=?_) #[T_,T_,T_,T_,T_,T_,T_,F_,F_,F_,F_,F_,F_,T_,F_,F_,F_,F_,F_] rfl rfl (any_of HT_.out (by kernel_rfl)) (fun _ _ _ h=>h) (Or.inl ⟨by rfl,?_⟩) ?_ ?_
                   rotate_left
                   ·intro w'
                    go_simp
                    with_reducible rfl
                   rotate_left
                   ·simp only [Act.put,ls_,lz_,lc_,i64_w,i32_w]
                    rfl
                   refine pure_ (i:=7) (N:=some 37) (v:=undef) (a':=?_) #[T_,T_,T_,T_,T_,T_,T_,T_,F_,F_,F_,F_,F_,T_,F_,F_,F_,F_,F_] rfl rfl (any_of HT_.out (by kernel_rfl)) (fun _ _ _ h=>h) (Or.inr ⟨by rfl,rfl⟩) ?_ ?_
                   rotate_left
                   ·simp only [Act.put,ls_,lz_,lc_,i64_w,i32_w]
                    rfl
                   refine pure_ (i:=8) (N:=some 38) (v:=undef) (a':=?_) #[T_,T_,T_,T_,T_,T_,T_,T_,T_,F_,F_,F_,F_,T_,F_,F_,F_,F_,F_] rfl rfl (any_of HT_.out (by kernel_rfl)) (fun _ _ _ h=>h) (Or.inr ⟨by rfl,rfl⟩) ?_ ?_
                   rotate_left
                   ·simp only [Act.put,ls_,lz_,lc_,i64_w,i32_w]
                    rfl
                   refine pure_ (i:=9) (N:=some 39) (v:=undef) (a':=?_) #[T_,T_,T_,T_,T_,T_,T_,T_,T_,T_,F_,F_,F_,T_,F_,F_,F_,F_,F_] rfl rfl (any_of HT_.out (by kernel_rfl)) (fun _ _ _ h=>h) (Or.inr ⟨by rfl,rfl⟩) ?_ ?_
                   rotate_left
                   ·simp only [Act.put,ls_,lz_,lc_,i64_w,i32_w]
                    rfl
                   refine pure_ (i:=10) (N:=some 40) (v:=?_) (a':=?_) #[T_,T_,T_,T_,T_,T_,T_,T_,T_,T_,T_,F_,F_,T_,F_,F_,F_,F_,F_] rfl rfl (any_of HT_.out (by kernel_rfl)) (fun _ _ _ h=>h) (Or.inl ⟨by rfl,?_⟩) ?_ ?_
                   rotate_left
                   ·intro w'
                    go_simp
                    with_reducible rfl
                   rotate_left
                   ·simp only [Act.put,ls_,lz_,lc_,i64_w,i32_w]
                    rfl
                   refine take_ (i:=14) (N:=some 44) (v:=?_) (a':=?_) #[T_,T_,T_,T_,T_,T_,T_,T_,T_,T_,T_,F_,F_,T_,T_,F_,F_,F_,F_] rfl rfl (take_ofW HT_.out HW_.out (by kernel_rfl)) (fun _ _ _ h=>h) (Or.inl ⟨by rfl,?_⟩) hHeld ?_ ?_
                   rotate_left
                   ·rintro w' ⟨s0,s1,s2,s3,s4,s5⟩
                    go_simp
                    with_reducible rfl
                   rotate_left
                   ·simp only [Act.put,ls_,lz_,lc_,i64_w,i32_w]
                    rfl
                   refine one_ (i:=11) (N:=some 41) #[T_,T_,T_,T_,T_,T_,T_,T_,T_,T_,T_,T_,F_,T_,T_,F_,F_,F_,F_] rfl rfl (one_of HT_.out (by kernel_rfl)) (by decide) (fun K hK=>?_)
                   refine goes_ Tryz.func11 (by kernel_rfl) rfl #[.slice A150_5 ((rd_T38 l0 x6_1).f5).length c150_5,.bool false] (by rfl) rfl rfl (by (try simp only [List.map_toArray,List.map_cons,List.map_nil]);first|done|rfl|(simp only [ld_,lt_];rfl)) ?_
                   with_reducible refine (ih kj24 (by have:=HK1.out;have:=HJ4.out;have:=HJ24.out;omega) _ _ ((rd_T38 l0 x6_1).f5) false t157 _ ?side1 ?side2 A44.out).mono ?_
                   (case side1=>repeat (first|exact (cb_ HR150_5.out HB.out)|(with_reducible refine ca_ ?_ _)|(with_reducible refine cn_ ?_ _)|(with_reducible refine cd_ ?_)))
                   (case side2=>exact HC150_5.out)
                   rintro e w50 ⟨rfl,hb⟩
                   refine ⟨_,rfl,?_⟩
                   have n0_:=A_ (kb_ (g:=gb151) (o:=.cells #[.int .i64 ((rd_T38 l0 x6_1).f0),.int .i64 ((rd_T38 l0 x6_1).f1),.string ((rd_T38 l0 x6_1).f2),.string ((rd_T38 l0 x6_1).f3),.slice A150_4 ((rd_T38 l0 x6_1).f4).length c150_4,.slice A150_5 ((rd_T38 l0 x6_1).f5).length c150_5] 38 (0,0)) (by (with_reducible repeat (first|refine kn_ ?_ _|refine kd_ ?_|refine ka_ ?_ _));exact BK151.out) hb)
                   have n1_:=A_ (bp_ (by repeat (first|(with_reducible first|exact HB.out|apply ba_|apply pd_|apply b1_|refine bs_ ?_ GE151.out)|exact HB.out)) hb)
                   clear BK151
                   clear HB
                   have BK151:=n0_
                   have HB:=n1_
                   clear n0_ n1_
                   (try clear hb)
                   (try clear hb2)
                   (try clear hk)
                   (try clear hi)
                   refine hK.out _ _ ⟨(bc_ BK151.out 0).trans rfl,(bc_ BK151.out 1).trans rfl,(bc_ BK151.out 2).trans rfl,(bc_ BK151.out 3).trans rfl,(bc_ BK151.out 4).trans rfl,(bc_ BK151.out 5).trans rfl⟩ (fun hHeld=>?_)
                   clear hK K
                   refine norm_ (a':=?_) ?_ ?_
                   rotate_left
                   ·show Act.put _ (some 41) _=_
                    simp only [Act.put,ls_,lz_,lc_,i64_w,i32_w]
                    rfl
                   refine pure_ (i:=12) (N:=some 42) (v:=?_) (a':=?_) #[T_,T_,T_,T_,T_,T_,T_,T_,T_,T_,T_,T_,T_,T_,T_,F_,F_,F_,F_] rfl rfl (any_of HT_.out (by kernel_rfl)) (fun _ _ _ h=>h) (Or.inl ⟨by rfl,?_⟩) ?_ ?_
                   rotate_left
                   ·intro w'
                    go_simp
                    with_reducible rfl
                   rotate_left
                   ·simp only [Act.put,ls_,lz_,lc_,i64_w,i32_w]
                    rfl
                   refine pure_ (i:=15) (N:=some 45) (v:=?_) (a':=?_) #[T_,T_,T_,T_,T_,T_,T_,T_,T_,T_,T_,T_,T_,T_,T_,T_,F_,F_,F_] rfl rfl (any_of HT_.out (by kernel_rfl)) (fun _ _ _ h=>h) (Or.inl ⟨by rfl,?_⟩) ?_ ?_
                   rotate_left
                   ·intro w'
                    go_simp
                    with_reducible rfl
                   rotate_left
                   ·simp only [Act.put,ls_,lz_,lc_,i64_w,i32_w]
                    rfl
                   refine pure_ (i:=16) (N:=some 46) (v:=?_) (a':=?_) #[T_,T_,T_,T_,T_,T_,T_,T_,T_,T_,T_,T_,T_,T_,T_,T_,T_,F_,F_] rfl rfl (any_of HT_.out (by kernel_rfl)) (fun _ _ _ h=>h) (Or.inl ⟨by rfl,?_⟩) ?_ ?_
                   rotate_left
                   ·intro w'
                    go_simp
                    with_reducible rfl
                   rotate_left
                   ·simp only [Act.put,ls_,lz_,lc_,i64_w,i32_w]
                    rfl
                   refine pure_ (i:=17) (N:=some 47) (v:=?_) (a':=?_) #[T_,T_,T_,T_,T_,T_,T_,T_,T_,T_,T_,T_,T_,T_,T_,T_,T_,T_,F_] rfl rfl (any_of HT_.out (by kernel_rfl)) (fun _ _ _ h=>h) (Or.inl ⟨by rfl,?_⟩) ?_ ?_
                   rotate_left
                   ·intro w'
                    go_simp
                    with_reducible rfl
                   rotate_left
                   ·simp only [Act.put,ls_,lz_,lc_,i64_w,i32_w]
                    rfl
                   refine pure_ (i:=18) (N:=some 5) (v:=?_) (a':=?_) #[T_,T_,T_,T_,T_,T_,T_,T_,T_,T_,T_,T_,T_,T_,T_,T_,T_,T_,T_] rfl rfl (any_of HT_.out (by kernel_rfl)) (fun _ _ _ h=>h) (Or.inl ⟨by rfl,?_⟩) ?_ ?_
                   rotate_left
                   ·intro w'
                    go_simp
                    with_reducible rfl
                   rotate_left
                   ·simp only [Act.put,ls_,lz_,lc_,i64_w,i32_w]
                    rfl
                   refine done_ (done_of HT_.out (by kernel_rfl)) ?_
                   try go_wp2
                   go_roundg kj24
                   case measure=>have:=HK1.out;have:=HJ4.out;have:=HJ24.out;omega
                   case rel=>exact ⟨((x5_1++t153)++(((t157++(⟨#[60,47]⟩:ByteArray))++((rd_T38 l0 x6_1).f2))++(⟨#[62]⟩:ByteArray))),(wrap64 (x6_1+1)),(by first|rfl|(simp;done)|(simp [*];done)),(by first|rfl|(simp;done)|(simp [*];done)),H',⟨by have:=HK1.out;have:=HJ4.out;have:=HJ24.out;omega⟩,⟨by repeat (first|(with_reducible first|exact HB.out|apply ba_|apply pd_|apply b1_|refine bs_ ?_ GE151.out)|exact HB.out)⟩⟩
                  ·rw [if_neg c48] at H
                   exact absurd H (by simp)
                 ·rw [if_neg c47] at H
                  exact absurd H (by simp)
                ·rw [if_neg c46] at H
                 exact absurd H (by simp)
               ·rw [if_neg c45] at H
                exact absurd H (by simp)
          ·rw [if_neg c24] at H
           exact absurd H (by simp)
    ·rw [if_neg c4] at H
     exact absurd H (by simp)
   ·rw [if_neg c3] at H
    have c3b0:decide (x6_1<(l0.length:Int))=false:=df_ c3
    clear c3
    obtain rfl:=oi_ H
    go_wp2
    go_ret
    exact ⟨by first|rfl|(simp [errW_none,errW_some] <;> rfl)|(simp [*,errW_none,errW_some] <;> rfl),by repeat (first|(with_reducible first|exact HB.out|apply ba_|apply pd_|apply b1_)|exact HB.out)⟩
end Go.Proofs.YtlpncjeahdfolaaGreatDoor.PFnExactSerialize
