/- By a program of this session, out of the kit's print and contracts made by hand: the machine side of a law; Lean checks it. No conditions. -/
import Derived.Test.YtpoaaomcpleebaaGreatDoorPFnExactStartTagx0
import Derived.Test.YtpoaaomcpleebaaGreatDoorPFnExactStartTagx7
namespace Go.Proofs.YtpoaaomcpleebaaGreatDoor.PFnExactStartTag
open Go.RowKit Go.Proofs.YtpoaaomcpleebaaGreatDoorW.PrintWords Go.Proofs.YtpoaaomcpleebaaGreatDoorW.PrintLast Go.Proofs.YtpoaaomcpleebaaGreatDoorW.PrintMore
attribute [local go_sem] max2_int min2_int max_two min_two max_three min_three max_four min_four
set_option linter.unusedVariables false
set_option linter.unusedSimpArgs false
/-! ### laws_toAttrS: function 13 -/
def laws_toAttrS.l0:Nat→List (S47)→List (S51)→Int→Option ((List (S51)))
 | 0,_,_,_=>none
 | k+1,x0,x3,x4=>if x4<(x0.length:Int) then (if 0≤x4 then ((laws_toAttr.f ((rd_T47 x0 x4).f0) ((rd_T47 x0 x4).f1)).bind fun bt137=>(if x4<(x3.length:Int) then (laws_toAttrS.l0 k x0 (x3.set (x4:Int).toNat (⟨bt137.1,bt137.2⟩:S51)) (wrap64 (x4+1))) else (none))) else (none)) else (some x3)
def laws_toAttrS.f (k:Nat) (l0:List (S47)):Option ((List (S51))):=if 0≤(l0.length:Int) then (if ((l0.length:Int):Int).toNat≤8796093022208 then (laws_toAttrS.l0 k l0 (List.replicate ((l0.length:Int):Int).toNat z51) 0) else (none)) else (none)
theorem laws_toAttrS.mono_l:∀ k,(∀ y0 y1 y2,LeO (laws_toAttrS.l0 k y0 y1 y2) (laws_toAttrS.l0 (k+1) y0 y1 y2))
 | 0=>fun _ _ _ r h=>by simp [laws_toAttrS.l0] at h
 | k+1=>by
  have ih0:=laws_toAttrS.mono_l k
  ·intro y0 y1 y2
   unfold laws_toAttrS.l0
   repeat' first
   | (with_reducible exact ih0 _ _ _)
   | (with_reducible exact LeO.refl _)
   | (with_reducible exact LeO.none _)
   | (with_reducible refine LeO.ite ?_ ?_)
   | (with_reducible refine LeO.bind ?_ (fun _=>?_))
   | exact ih0 _ _ _
   | exact LeO.none _
   | refine LeO.ite ?_ ?_
   | refine LeO.bind ?_ (fun _=>?_)
theorem laws_toAttrS.mono:∀ a0 k,LeO (laws_toAttrS.f k a0) (laws_toAttrS.f (k+1) a0):=by
 intro a0 k
 have ih0:=laws_toAttrS.mono_l k
 unfold laws_toAttrS.f
 repeat' first
  | (with_reducible exact ih0 _ _ _)
  | (with_reducible exact LeO.refl _)
  | (with_reducible exact LeO.none _)
  | (with_reducible refine LeO.ite ?_ ?_)
  | (with_reducible refine LeO.bind ?_ (fun _=>?_))
  | exact ih0 _ _ _
  | exact LeO.none _
  | refine LeO.ite ?_ ?_
  | refine LeO.bind ?_ (fun _=>?_)
set_option maxHeartbeats 8000000 in
set_option maxRecDepth 100000 in
theorem laws_toAttrS.calls (k:Nat) (A0:Option Addr) (c0:Nat) (l0:List (S47)) (r:List (S51)) (w:World) (hr0:Kd.C k47 w A0 l0.length l0) (hc0:l0.length≤c0) (h:laws_toAttrS.f k l0=some r) :
 Calls Tryz.prog 13 #[.slice A0 l0.length c0] w fun e w'=>∃ v0_:Value,e=.returned (v0_)∧Kd.R k51 51 w' w.heap.size (fun _=>True) v0_ r∧Below w.heap.size w w':=by
 have hu47:=Tryz.underlying47
 have hu51:=Tryz.underlying51
 have HR0:=A_ hr0
 have HC0:=A_ hc0
 clear hr0 hc0
 have HB:=A_ (Below.refl w.heap.size w)
 have H:(if 0≤(l0.length:Int) then (if ((l0.length:Int):Int).toNat≤8796093022208 then (laws_toAttrS.l0 k l0 (List.replicate ((l0.length:Int):Int).toNat z51) 0) else (none)) else (none))=some r:=h
 clear h
 by_cases c2:0≤(l0.length:Int)
 ·rw [if_pos c2] at H
  have c2b0:=eq_true c2
  have c2b1:decide (0≤(l0.length:Int))=true:=dt_ c2
  clear c2
  by_cases c3:((l0.length:Int):Int).toNat≤8796093022208
  ·rw [if_pos c3] at H
   have c3b0:=eq_true c3
   have c3b1:decide (((l0.length:Int):Int).toNat≤8796093022208)=true:=dt_ c3
   clear c3
   obtain ⟨y133,hy133⟩:∃ y_:List (S51),y_=(List.replicate ((l0.length:Int):Int).toNat z51):=⟨_,rfl⟩
   replace H:(laws_toAttrS.l0 k l0 y133 0)=some r:=by first|(rw [hy133];with_reducible exact H)|(have H2_:=(Option.bind_some _ _).symm.trans H;rw [hy133];with_reducible exact H2_)|(have H2_:=(Option.bind_some _ _).symm.trans H;with_reducible exact H2_)|with_reducible exact H|(rw [hy133];exact H)|exact H
   have Ny133:=A_ hy133
   clear hy133
   have H':=A_ H
   clear H
   go_enter Tryz.func13,Tryz.ntmps13
   go_wp2_with (first|((with_reducible refine gate_dst (N:=7) rfl ?_);refine Kd.R_make k51 _ 51 rfl (N:=7) rfl 29 _ _ rfl (l0.length:Int) rfl rfl Tryz.underlying29 (.agg #[(.string ⟨#[]⟩),(.string ⟨#[]⟩)]) 32 info51 rfl (by decide) (by omega) z51 (ok:=fun _=>True) (okp:=fun _=>True) (k51_mkM _ _ _ z51 ) (fun _ hk=>hk) trivial (od_ (by first|(with_reducible assumption)|assumption)) (Nat.le_trans (Nat.mul_le_mul_right _ (od_ (by first|(with_reducible assumption)|assumption):(l0.length:Int).toNat≤8796093022208)) (by omega)) (Below.refl _ _) (Nat.le_refl _) ?_;intro v134 w4 ho5 hb hg_ hnew_;clear hg_ hnew_;(first|rw [←Ny133.out] at ho5|(simp only [Int.reduceToNat] at ho5;rw [←Ny133.out] at ho5));have n0_:=A_ (Kd.R_lower ho5 (bz_ (by repeat (first|(with_reducible first|exact HB.out|apply ba_|apply pd_|apply b1_)|exact HB.out))));have n1_:=A_ (bp_ (by repeat (first|(with_reducible first|exact HB.out|apply ba_|apply pd_|apply b1_)|exact HB.out)) hb);clear HB;have HO135:=n0_;have HB:=n1_;clear n0_ n1_;clear hb ho5))
   go_loopg [4] k (fun kq v4 w'=>∃ (x3_1:List (S51)) (x4_1:Int),v4=.int .i64 x4_1∧Aside0 (laws_toAttrS.l0 kq l0 x3_1 x4_1=some r)∧Aside0 (kq≤k)∧Aside0 (Kd.R k51 51 w' w.heap.size (fun _=>True) v134 x3_1)∧Aside0 (Below w.heap.size w w'))
   case atStart=>exact ⟨(y133),(0),(by first|rfl|(simp;done)|(simp [*];done)),H',⟨Nat.le_refl _⟩,⟨by (with_reducible repeat (first|apply Kd.R_alloc|apply Kd.R_drewN|apply Kd.R_drew));exact HO135.out⟩,⟨by repeat (first|(with_reducible first|exact HB.out|apply ba_|apply pd_|apply b1_)|exact HB.out)⟩⟩
   case round =>
    clear H'
    try clear c1
    try clear c2
    try clear c2b0
    try clear c2b1
    try clear p2
    try clear c3
    try clear c3b0
    try clear c3b1
    obtain ⟨x3_1,x4_1,rfl,HA,HK1,HO_3,HB⟩:=hrel
    cases gk with
    | zero=>exact absurd HA.out (by simp [laws_toAttrS.l0])
    | succ k1 =>
     have H:=HA.out
     clear HA
     simp only [laws_toAttrS.l0] at H
     by_cases c6:x4_1<(l0.length:Int)
     ·rw [if_pos c6] at H
      have c6b0:decide (x4_1<(l0.length:Int))=true:=dt_ c6
      clear c6
      by_cases c7:0≤x4_1
      ·rw [if_pos c7] at H
       have c7b0:decide (0≤x4_1)=true:=dt_ c7
       clear c7
       replace H:=ob_ H
       obtain ⟨⟨t137,t138⟩,A80,H⟩:=H
       replace H:(if x4_1<(x3_1.length:Int) then (laws_toAttrS.l0 k1 l0 (x3_1.set (x4_1:Int).toNat (⟨t137,t138⟩:S51)) (wrap64 (x4_1+1))) else (none))=some r:=H
       have A8:=A_ A80
       clear A80
       by_cases c9:x4_1<(x3_1.length:Int)
       ·rw [if_pos c9] at H
        have c9b0:decide (x4_1<(x3_1.length:Int))=true:=dt_ c9
        clear c9
        obtain ⟨y139,hy139⟩:∃ y_:List (S51),y_=(x3_1.set (x4_1:Int).toNat (⟨t137,t138⟩:S51)):=⟨_,rfl⟩
        replace H:(laws_toAttrS.l0 k1 l0 y139 (wrap64 (x4_1+1)))=some r:=by first|(rw [hy139];with_reducible exact H)|(have H2_:=(Option.bind_some _ _).symm.trans H;rw [hy139];with_reducible exact H2_)|(have H2_:=(Option.bind_some _ _).symm.trans H;with_reducible exact H2_)|with_reducible exact H|(rw [hy139];exact H)|exact H
        have Ny139:=A_ hy139
        clear hy139
        have H':=A_ H
        clear H
        have p136:0≤(x4_1:Int):=od_ (by first|(with_reducible assumption)|assumption)
        have q136:x4_1<(l0.length:Int):=od_ (by first|(with_reducible assumption)|assumption)
        obtain ⟨ad136,e136,hx136_0,hx136_1⟩:=at_T47 HR0.out x4_1 p136 q136
        cases e136
        replace hx136_0:=(HB.out.cell (bl_ w _ hx136_0)).trans hx136_0
        replace hx136_1:=(HB.out.cell (bl_ w _ hx136_1)).trans hx136_1
        replace p136:=eq_true p136
        replace q136:=eq_true q136
        go_wp2_with (first|((with_reducible refine gate_callee (f:=24) rfl ?_);refine goesL_ (some 20) rfl rfl Tryz.func24 (by kernel_rfl) rfl #[.agg #[.string ((rd_T47 l0 x4_1).f0),.string ((rd_T47 l0 x4_1).f1)]] rfl (by (try simp only [List.map_toArray,List.map_cons,List.map_nil]);first|done|rfl|(simp only [ld_,lt_];rfl)) ?_;(with_reducible refine (laws_toAttr.calls ((rd_T47 l0 x4_1).f0) ((rd_T47 l0 x4_1).f1) t137 t138 _ A8.out).mono ?_);rintro e w11 ⟨rfl,hb⟩;refine ⟨_,rfl,?_⟩;have n0_:=A_ (Kd.R_below (by (with_reducible repeat (first|apply Kd.R_alloc|apply Kd.R_drewN|apply Kd.R_drew));exact HO_3.out) hb);have n1_:=A_ (bp_ (by repeat (first|(with_reducible first|exact HB.out|apply ba_|apply pd_|apply b1_)|exact HB.out)) hb);clear HO_3;clear HB;have HO_3:=n0_;have HB:=n1_;clear n0_ n1_;(try clear hb);(try clear hb2);(try clear hk);(try clear hi);have p10:0≤(x4_1:Int):=od_ (by first|(with_reducible assumption)|assumption);have q10:(x4_1:Int)<((x3_1.length:Int):Int):=od_ (by first|(with_reducible assumption)|assumption);obtain ⟨go10,co10,eo10,gb10,gl10,cl10,HG10⟩:=Kd.R_form HO_3.out (by omega);(first|cases eo10|(injection eo10 with ea_ en_ ec_;(first|subst ea_|(injection ea_ with ea_;subst ea_));subst ec_;clear en_));have GB10:=A_ gb10;have GG10:=A_ HG10;clear gb10 gl10 HG10;obtain ⟨ce10,hcl10,hM10,hcc10,hfr10⟩:=Kd.R_elem HO_3.out z51 (x4_1:Int) p10 q10;obtain rfl:=k51_openM hM10;have hx10_0:w11.cell? ⟨go10,(x4_1:Int).toNat * 2,none⟩=some (.string ((rd_T51 x3_1 x4_1).f0)):=hcc10 0 _ rfl;have hx10_1:w11.cell? ⟨go10,(x4_1:Int).toNat * 2+1,none⟩=some (.string ((rd_T51 x3_1 x4_1).f1)):=hcc10 1 _ rfl;have hf10_0:w11.frozen? ⟨go10,(x4_1:Int).toNat * 2,none⟩=false:=hfr10 0;have hf10_1:w11.frozen? ⟨go10,(x4_1:Int).toNat * 2+1,none⟩=false:=hfr10 1;clear hcl10 hcc10 hfr10 hM10;replace p10:=eq_true p10;replace q10:=eq_true q10;have HX12:=A_ (show Kd.R k51 51 w11 w.heap.size (fun _=>True) (.slice (some ⟨go10,0,none⟩) x3_1.length co10) x3_1 from (by (with_reducible repeat (first|apply Kd.R_alloc|apply Kd.R_drewN|apply Kd.R_drew));exact HO_3.out));obtain ⟨ce12,hcl12,hM12,hcc12,hfr12⟩:=Kd.R_elem HX12.out z51 (x4_1:Int) (od_ (by first|(with_reducible assumption)|assumption)) (by have h_:(x4_1:Int)<((x3_1.length:Int):Int):=od_ (by first|(with_reducible assumption)|assumption);first|exact h_|(have e_:=(Kd.R_reads' HO_3.out).1;omega)|simpa using h_);obtain rfl:=k51_openM hM12;have HP12:=Kd.R_seg HX12.out (x4_1:Int) (od_ (by first|(with_reducible assumption)|assumption)) (by have h_:(x4_1:Int)<((x3_1.length:Int):Int):=od_ (by first|(with_reducible assumption)|assumption);first|exact h_|(have e_:=(Kd.R_reads' HO_3.out).1;omega)|simpa using h_) (seg:=[.string t137,.string t138]) (j:=0) hcl12 hcc12 (show 2≤2 from by decide) (x':=(⟨t137,t138⟩:S51)) (k51_mkM _ _ _ (⟨t137,t138⟩:S51) ) (fun _ hk=>hk);have hx12_0:=hcc12 0 _ rfl;(try simp only [show (k51).sz=2 from rfl,Nat.mul_one,Nat.add_zero] at hx12_0);have hf12_0:=hfr12 0;(try simp only [show (k51).sz=2 from rfl,Nat.mul_one,Nat.add_zero] at hf12_0);have hx12_1:=hcc12 1 _ rfl;(try simp only [show (k51).sz=2 from rfl,Nat.mul_one,Nat.add_zero] at hx12_1);have hf12_1:=hfr12 1;(try simp only [show (k51).sz=2 from rfl,Nat.mul_one,Nat.add_zero] at hf12_1);clear hcl12 hcc12 hfr12 hM12)|((with_reducible refine gate_store (t:=51) (p:=21) rfl ?_);refine store_event (t:=51) (p:=21) (v:=?vo_w13) (w1:=((w11.setCell ⟨go10,(x4_1:Int).toNat * 2,none⟩ (.string t137)).setCell ⟨go10,(x4_1:Int).toNat * 2+1,none⟩ (.string t138))) ?hg ?ho ?hn ?hr ?_;(case ho=>rfl);(case hg=>rfl);(case hn=>rfl);(case hr=>first|(go_simp;done)|(go_simp;rfl)|((first|(obtain ⟨_,_,rfl⟩:=Kd.R_slice HO135.out)|(obtain ⟨_,_,rfl⟩:=Kd.S_slice HO135.out)|skip);first|(go_simp;done)|(go_simp;rfl)));intro w13 hw;have hg:w11.grownBy w13 (some go10):=(by rw [hw];exact HP12.2);have hp_:Kd.R k51 51 w13 w.heap.size (fun _=>True) (.slice (some ⟨go10,0,none⟩) x3_1.length co10) y139:=(by rw [hw,Ny139.out];exact HP12.1);clear HP12;have n0_:=A_ (hp_);have n1_:=A_ ((by rw [hw];exact bs_ (bs_ (HB.out) GB10.out) GB10.out:Below w.heap.size w w13));clear HO_3;clear HB;have HO_3:=n0_;have HB:=n1_;clear n0_ n1_;clear hg hw hp_))
        go_roundg k1
        case measure=>have:=HK1.out;omega
        case rel=>exact ⟨(y139),(wrap64 (x4_1+1)),(by first|rfl|(simp;done)|(simp [*];done)),H',⟨by have:=HK1.out;omega⟩,⟨by (with_reducible repeat (first|apply Kd.R_alloc|apply Kd.R_drewN|apply Kd.R_drew));exact HO_3.out⟩,⟨by repeat (first|(with_reducible first|exact HB.out|apply ba_|apply pd_|apply b1_)|exact HB.out)⟩⟩
       ·rw [if_neg c9] at H
        exact absurd H (by simp)
      ·rw [if_neg c7] at H
       exact absurd H (by simp)
     ·rw [if_neg c6] at H
      have c6b0:decide (x4_1<(l0.length:Int))=false:=df_ c6
      clear c6
      obtain rfl:=oi_ H
      go_wp2
      go_ret
      exact ⟨_,by first|rfl|(simp [errW_none,errW_some] <;> rfl)|(simp [*,errW_none,errW_some] <;> rfl),by (with_reducible repeat (first|apply Kd.R_alloc|apply Kd.R_drewN|apply Kd.R_drew));exact HO_3.out,by repeat (first|(with_reducible first|exact HB.out|apply ba_|apply pd_|apply b1_)|exact HB.out)⟩
  ·rw [if_neg c3] at H
   exact absurd H (by simp)
 ·rw [if_neg c2] at H
  exact absurd H (by simp)
/-! ### laws_toNodeS: function 14 -/
mutual
def laws_toNodeS.l0:Nat→List (S25)→List (S32)→Int→Option ((List (S32)))
 | 0,_,_,_=>none
 | k+1,x0,x3,x4=>if x4<(x0.length:Int) then (if 0≤x4 then ((laws_toNode.f k ((rd_T25 x0 x4).f0) ((rd_T25 x0 x4).f1) ((rd_T25 x0 x4).f2) ((rd_T25 x0 x4).f3) ((rd_T25 x0 x4).f4) ((rd_T25 x0 x4).f5)).bind fun bt144=>(if x4<(x3.length:Int) then (laws_toNodeS.l0 k x0 (x3.set (x4:Int).toNat (⟨bt144.1,bt144.2.1,bt144.2.2.1,bt144.2.2.2.1,bt144.2.2.2.2.1,bt144.2.2.2.2.2⟩:S32)) (wrap64 (x4+1))) else (none))) else (none)) else (some x3)
def laws_toNodeS.f:Nat→List (S25)→Option ((List (S32)))
 | 0,_=>none
 | k+1,l0=>if 0≤(l0.length:Int) then (if ((l0.length:Int):Int).toNat≤2932031007402 then (laws_toNodeS.l0 k l0 (List.replicate ((l0.length:Int):Int).toNat z32) 0) else (none)) else (none)
def laws_toNode.f:Nat→Int→Int→ByteArray→ByteArray→List (S47)→List (S25)→Option (Int × Int × ByteArray × ByteArray × (List (S51)) × (List (S32)))
 | 0,_,_,_,_,_,_=>none
 | k+1,a0_0,a0_1,a0_2,a0_3,l0_4,l0_5=>(laws_toAttrS.f k l0_4).bind fun t158=>((laws_toNodeS.f k l0_5).bind fun t161=>(some (a0_0,a0_1,a0_2,a0_3,t158,t161)))
end
theorem laws_toNodeS.mono_l:∀ k,(∀ y0,LeO (laws_toNodeS.f k y0) (laws_toNodeS.f (k+1) y0))∧(∀ y0 y1 y2,LeO (laws_toNodeS.l0 k y0 y1 y2) (laws_toNodeS.l0 (k+1) y0 y1 y2))∧(∀ y0 y1 y2 y3 y4 y5,LeO (laws_toNode.f k y0 y1 y2 y3 y4 y5) (laws_toNode.f (k+1) y0 y1 y2 y3 y4 y5))
 | 0=>⟨fun _ r h=>by simp [laws_toNodeS.f] at h,fun _ _ _ r h=>by simp [laws_toNodeS.l0] at h,fun _ _ _ _ _ _ r h=>by simp [laws_toNode.f] at h⟩
 | k+1=>by
  obtain ⟨ih0,ih1,ih2⟩:=laws_toNodeS.mono_l k
  refine ⟨?_,?_,?_⟩
  ·intro y0
   unfold laws_toNodeS.f
   repeat' first
   | (with_reducible exact ih0 _)
   | (with_reducible exact ih1 _ _ _)
   | (with_reducible exact ih2 _ _ _ _ _ _)
   | (with_reducible exact laws_toAttrS.mono _ _)
   | (with_reducible exact LeO.refl _)
   | (with_reducible exact LeO.none _)
   | (with_reducible refine LeO.ite ?_ ?_)
   | (with_reducible refine LeO.bind ?_ (fun _=>?_))
   | exact ih0 _
   | exact ih1 _ _ _
   | exact ih2 _ _ _ _ _ _
   | exact laws_toAttrS.mono _ _
   | exact LeO.none _
   | refine LeO.ite ?_ ?_
   | refine LeO.bind ?_ (fun _=>?_)
  ·intro y0 y1 y2
   unfold laws_toNodeS.l0
   repeat' first
   | (with_reducible exact ih0 _)
   | (with_reducible exact ih1 _ _ _)
   | (with_reducible exact ih2 _ _ _ _ _ _)
   | (with_reducible exact laws_toAttrS.mono _ _)
   | (with_reducible exact LeO.refl _)
   | (with_reducible exact LeO.none _)
   | (with_reducible refine LeO.ite ?_ ?_)
   | (with_reducible refine LeO.bind ?_ (fun _=>?_))
   | exact ih0 _
   | exact ih1 _ _ _
   | exact ih2 _ _ _ _ _ _
   | exact laws_toAttrS.mono _ _
   | exact LeO.none _
   | refine LeO.ite ?_ ?_
   | refine LeO.bind ?_ (fun _=>?_)
  ·intro y0 y1 y2 y3 y4 y5
   unfold laws_toNode.f
   repeat' first
   | (with_reducible exact ih0 _)
   | (with_reducible exact ih1 _ _ _)
   | (with_reducible exact ih2 _ _ _ _ _ _)
   | (with_reducible exact laws_toAttrS.mono _ _)
   | (with_reducible exact LeO.refl _)
   | (with_reducible exact LeO.none _)
   | (with_reducible refine LeO.ite ?_ ?_)
   | (with_reducible refine LeO.bind ?_ (fun _=>?_))
   | exact ih0 _
   | exact ih1 _ _ _
   | exact ih2 _ _ _ _ _ _
   | exact laws_toAttrS.mono _ _
   | exact LeO.none _
   | refine LeO.ite ?_ ?_
   | refine LeO.bind ?_ (fun _=>?_)
theorem laws_toNodeS.mono:∀ a0 k,LeO (laws_toNodeS.f k a0) (laws_toNodeS.f (k+1) a0):=by
 intro a0 k
 obtain ⟨ih0,ih1,ih2⟩:=laws_toNodeS.mono_l k
 exact ih0 a0
theorem laws_toNode.mono:∀ a0 a1 a2 a3 a4 a5 k,LeO (laws_toNode.f k a0 a1 a2 a3 a4 a5) (laws_toNode.f (k+1) a0 a1 a2 a3 a4 a5):=by
 intro a0 a1 a2 a3 a4 a5 k
 obtain ⟨ih0,ih1,ih2⟩:=laws_toNodeS.mono_l k
 exact ih2 a0 a1 a2 a3 a4 a5
set_option maxHeartbeats 8000000 in
set_option maxRecDepth 100000 in
theorem laws_toNodeS.step (k:Nat) (ihP:∀ j,j<k→∀ (a0_0:Int) (a0_1:Int) (a0_2:ByteArray) (a0_3:ByteArray) (A0_4:Option Addr) (c0_4:Nat) (l0_4:List (S47)) (A0_5:Option Addr) (c0_5:Nat) (l0_5:List (S25)) (r1:Int) (r2:Int) (r3:ByteArray) (r4:ByteArray) (r5:List (S51)) (r6:List (S32)) (w:World) (hr0_4:Kd.C k47 w A0_4 l0_4.length l0_4) (hc0_4:l0_4.length≤c0_4) (hr0_5:Kd.C k25 w A0_5 l0_5.length l0_5) (hc0_5:l0_5.length≤c0_5) (h:laws_toNode.f j a0_0 a0_1 a0_2 a0_3 l0_4 l0_5=some (r1,r2,r3,r4,r5,r6)),
 Calls Tryz.prog 6 #[.agg #[.int .i64 a0_0,.int .i64 a0_1,.string a0_2,.string a0_3,.slice A0_4 l0_4.length c0_4,.slice A0_5 l0_5.length c0_5]] w fun e w'=>∃ v4_ v5_:Value,e=.returned (.agg #[.int .i64 r1,.int .i64 r2,.string r3,.string r4,v4_,v5_])∧Kd.R k51 51 w' w.heap.size (fun _=>True) v4_ r5∧Kd.R k32 32 w' w.heap.size (fun k_=>some k_≠(v4_:Value).ownBlock) v5_ r6∧Below w.heap.size w w'):∀ (A0:Option Addr) (c0:Nat) (l0:List (S25)) (r:List (S32)) (w:World) (hr0:Kd.C k25 w A0 l0.length l0) (hc0:l0.length≤c0) (h:laws_toNodeS.f k l0=some r),
 Calls Tryz.prog 14 #[.slice A0 l0.length c0] w fun e w'=>∃ v0_:Value,e=.returned (v0_)∧Kd.R k32 32 w' w.heap.size (fun _=>True) v0_ r∧Below w.heap.size w w':=by
 intro A0 c0 l0 r w hr0 hc0 h
 cases k with
 | zero=>exact absurd h (by simp [laws_toNodeS.f])
 | succ k =>
 simp only [laws_toNodeS.f] at h
 have hu25:=Tryz.underlying25
 have hu32:=Tryz.underlying32
 have HR0:=A_ hr0
 have HC0:=A_ hc0
 clear hr0 hc0
 have HB:=A_ (Below.refl w.heap.size w)
 have H:(if 0≤(l0.length:Int) then (if ((l0.length:Int):Int).toNat≤2932031007402 then (laws_toNodeS.l0 k l0 (List.replicate ((l0.length:Int):Int).toNat z32) 0) else (none)) else (none))=some r:=h
 clear h
 by_cases c2:0≤(l0.length:Int)
 ·rw [if_pos c2] at H
  have c2b0:=eq_true c2
  have c2b1:decide (0≤(l0.length:Int))=true:=dt_ c2
  clear c2
  by_cases c3:((l0.length:Int):Int).toNat≤2932031007402
  ·rw [if_pos c3] at H
   have c3b0:=eq_true c3
   have c3b1:decide (((l0.length:Int):Int).toNat≤2932031007402)=true:=dt_ c3
   clear c3
   obtain ⟨y140,hy140⟩:∃ y_:List (S32),y_=(List.replicate ((l0.length:Int):Int).toNat z32):=⟨_,rfl⟩
   replace H:(laws_toNodeS.l0 k l0 y140 0)=some r:=by first|(rw [hy140];with_reducible exact H)|(have H2_:=(Option.bind_some _ _).symm.trans H;rw [hy140];with_reducible exact H2_)|(have H2_:=(Option.bind_some _ _).symm.trans H;with_reducible exact H2_)|with_reducible exact H|(rw [hy140];exact H)|exact H
   have Ny140:=A_ hy140
   clear hy140
   have H':=A_ H
   clear H
   go_enter Tryz.func14,Tryz.ntmps14
   go_wp2_with (first|((with_reducible refine gate_dst (N:=7) rfl ?_);refine Kd.R_make k32 _ 32 rfl (N:=7) rfl 30 _ _ rfl (l0.length:Int) rfl rfl Tryz.underlying30 (.agg #[(.int .i64 0),(.int .i64 0),(.string ⟨#[]⟩),(.string ⟨#[]⟩),(.slice none 0 0),(.slice none 0 0)]) 96 info32 rfl (by decide) (by omega) z32 (ok:=fun _=>True) (okp:=fun _=>True) (k32_mkM _ _ _ z32 (Kd.R_nil _ _ _ _ _) (Kd.R_nil _ _ _ _ _)) (fun _ hk=>hk) trivial (od_ (by first|(with_reducible assumption)|assumption)) (Nat.le_trans (Nat.mul_le_mul_right _ (od_ (by first|(with_reducible assumption)|assumption):(l0.length:Int).toNat≤2932031007402)) (by omega)) (Below.refl _ _) (Nat.le_refl _) ?_;intro v141 w4 ho5 hb hg_ hnew_;clear hg_ hnew_;(first|rw [←Ny140.out] at ho5|(simp only [Int.reduceToNat] at ho5;rw [←Ny140.out] at ho5));have n0_:=A_ (Kd.R_lower ho5 (bz_ (by repeat (first|(with_reducible first|exact HB.out|apply ba_|apply pd_|apply b1_)|exact HB.out))));have n1_:=A_ (bp_ (by repeat (first|(with_reducible first|exact HB.out|apply ba_|apply pd_|apply b1_)|exact HB.out)) hb);clear HB;have HO142:=n0_;have HB:=n1_;clear n0_ n1_;clear hb ho5))
   go_loopg [4] k (fun kq v4 w'=>∃ (x3_1:List (S32)) (x4_1:Int),v4=.int .i64 x4_1∧Aside0 (laws_toNodeS.l0 kq l0 x3_1 x4_1=some r)∧Aside0 (kq≤k)∧Aside0 (Kd.R k32 32 w' w.heap.size (fun _=>True) v141 x3_1)∧Aside0 (Below w.heap.size w w'))
   case atStart=>exact ⟨(y140),(0),(by first|rfl|(simp;done)|(simp [*];done)),H',⟨Nat.le_refl _⟩,⟨by (with_reducible repeat (first|apply Kd.R_alloc|apply Kd.R_drewN|apply Kd.R_drew));exact HO142.out⟩,⟨by repeat (first|(with_reducible first|exact HB.out|apply ba_|apply pd_|apply b1_)|exact HB.out)⟩⟩
   case round =>
    clear H'
    try clear c1
    try clear c2
    try clear c2b0
    try clear c2b1
    try clear p2
    try clear c3
    try clear c3b0
    try clear c3b1
    obtain ⟨x3_1,x4_1,rfl,HA,HK1,HO_3,HB⟩:=hrel
    cases gk with
    | zero=>exact absurd HA.out (by simp [laws_toNodeS.l0])
    | succ k1 =>
     have H:=HA.out
     clear HA
     simp only [laws_toNodeS.l0] at H
     by_cases c6:x4_1<(l0.length:Int)
     ·rw [if_pos c6] at H
      have c6b0:decide (x4_1<(l0.length:Int))=true:=dt_ c6
      clear c6
      by_cases c7:0≤x4_1
      ·rw [if_pos c7] at H
       have c7b0:decide (0≤x4_1)=true:=dt_ c7
       clear c7
       replace H:=ob_ H
       obtain ⟨⟨t144,t145,t146,t147,t148,t151⟩,A80,H⟩:=H
       replace H:(if x4_1<(x3_1.length:Int) then (laws_toNodeS.l0 k1 l0 (x3_1.set (x4_1:Int).toNat (⟨t144,t145,t146,t147,t148,t151⟩:S32)) (wrap64 (x4_1+1))) else (none))=some r:=H
       have A8:=A_ A80
       clear A80
       by_cases c9:x4_1<(x3_1.length:Int)
       ·rw [if_pos c9] at H
        have c9b0:decide (x4_1<(x3_1.length:Int))=true:=dt_ c9
        clear c9
        obtain ⟨y154,hy154⟩:∃ y_:List (S32),y_=(x3_1.set (x4_1:Int).toNat (⟨t144,t145,t146,t147,t148,t151⟩:S32)):=⟨_,rfl⟩
        replace H:(laws_toNodeS.l0 k1 l0 y154 (wrap64 (x4_1+1)))=some r:=by first|(rw [hy154];with_reducible exact H)|(have H2_:=(Option.bind_some _ _).symm.trans H;rw [hy154];with_reducible exact H2_)|(have H2_:=(Option.bind_some _ _).symm.trans H;with_reducible exact H2_)|with_reducible exact H|(rw [hy154];exact H)|exact H
        have Ny154:=A_ hy154
        clear hy154
        have H':=A_ H
        clear H
        have p143:0≤(x4_1:Int):=od_ (by first|(with_reducible assumption)|assumption)
        have q143:x4_1<(l0.length:Int):=od_ (by first|(with_reducible assumption)|assumption)
        obtain ⟨ad143,A143_4,c143_4,A143_5,c143_5,e143,hx143_0,hx143_1,hx143_2,hx143_3,hx143_4,hx143_5,hl143_4,hi143_4,hl143_5,hi143_5⟩:=at_T25 HR0.out x4_1 p143 q143
        cases e143
        replace hx143_0:=(HB.out.cell (bl_ w _ hx143_0)).trans hx143_0
        replace hx143_1:=(HB.out.cell (bl_ w _ hx143_1)).trans hx143_1
        replace hx143_2:=(HB.out.cell (bl_ w _ hx143_2)).trans hx143_2
        replace hx143_3:=(HB.out.cell (bl_ w _ hx143_3)).trans hx143_3
        replace hx143_4:=(HB.out.cell (bl_ w _ hx143_4)).trans hx143_4
        replace hx143_5:=(HB.out.cell (bl_ w _ hx143_5)).trans hx143_5
        have HR143_4:=A_ hi143_4
        have HC143_4:=A_ hl143_4
        clear hi143_4 hl143_4
        have HR143_5:=A_ hi143_5
        have HC143_5:=A_ hl143_5
        clear hi143_5 hl143_5
        replace p143:=eq_true p143
        replace q143:=eq_true q143
        go_wp2_with (first|((with_reducible refine gate_callee (f:=6) rfl ?_);refine goesL_ (some 20) rfl rfl Tryz.func6 (by kernel_rfl) rfl #[.agg #[.int .i64 ((rd_T25 l0 x4_1).f0),.int .i64 ((rd_T25 l0 x4_1).f1),.string ((rd_T25 l0 x4_1).f2),.string ((rd_T25 l0 x4_1).f3),.slice A143_4 ((rd_T25 l0 x4_1).f4).length c143_4,.slice A143_5 ((rd_T25 l0 x4_1).f5).length c143_5]] rfl (by (try simp only [List.map_toArray,List.map_cons,List.map_nil]);first|done|rfl|(simp only [ld_,lt_];rfl)) ?_;(with_reducible refine (ihP k1 (by have:=HK1.out;omega) ((rd_T25 l0 x4_1).f0) ((rd_T25 l0 x4_1).f1) ((rd_T25 l0 x4_1).f2) ((rd_T25 l0 x4_1).f3) _ _ ((rd_T25 l0 x4_1).f4) _ _ ((rd_T25 l0 x4_1).f5) t144 t145 t146 t147 t148 t151 _ ?side1 ?side2 ?side3 ?side4 A8.out).mono ?_);(case side1=>repeat (first|exact (cb_ HR143_4.out HB.out)|(with_reducible refine ca_ ?_ _)|(with_reducible refine cn_ ?_ _)|(with_reducible refine cd_ ?_)));(case side2=>exact HC143_4.out);(case side3=>repeat (first|exact (cb_ HR143_5.out HB.out)|(with_reducible refine ca_ ?_ _)|(with_reducible refine cn_ ?_ _)|(with_reducible refine cd_ ?_)));(case side4=>exact HC143_5.out);rintro e w11 ⟨v149,v152,rfl,ho0,ho1,hb⟩;refine ⟨_,rfl,?_⟩;have n0_:=A_ (Kd.R_mono (Kd.R_told (Kd.R_told (Kd.R_old (by (with_reducible repeat (first|apply Kd.R_alloc|apply Kd.R_drewN|apply Kd.R_drew));exact HO_3.out) hb) (Kd.R_base ho0)) (Kd.R_base ho1)) (fun _ h_=>h_.1));have n1_:=A_ (Kd.R_lower ho0 (bz_ (by repeat (first|(with_reducible first|exact HB.out|apply ba_|apply pd_|apply b1_)|exact HB.out))));have n2_:=A_ (Kd.R_lower (Kd.R_new' ho1 (Kd.R_lt (by (with_reducible repeat (first|apply Kd.R_alloc|apply Kd.R_drewN|apply Kd.R_drew));exact HO_3.out))) (bz_ (by repeat (first|(with_reducible first|exact HB.out|apply ba_|apply pd_|apply b1_)|exact HB.out))));have n3_:=A_ (bp_ (by repeat (first|(with_reducible first|exact HB.out|apply ba_|apply pd_|apply b1_)|exact HB.out)) hb);clear HO_3;clear HB;have HO_3:=n0_;have HO150:=n1_;have HO153:=n2_;have HB:=n3_;clear n0_ n1_ n2_ n3_;(try clear hb);(try clear hb2);(try clear hk);(try clear hi);(try clear ho0);(try clear ho1);have p10:0≤(x4_1:Int):=od_ (by first|(with_reducible assumption)|assumption);have q10:(x4_1:Int)<((x3_1.length:Int):Int):=od_ (by first|(with_reducible assumption)|assumption);obtain ⟨go10,co10,eo10,gb10,gl10,cl10,HG10⟩:=Kd.R_form HO_3.out (by omega);(first|cases eo10|(injection eo10 with ea_ en_ ec_;(first|subst ea_|(injection ea_ with ea_;subst ea_));subst ec_;clear en_));have GB10:=A_ gb10;have GG10:=A_ HG10;clear gb10 gl10 HG10;obtain ⟨ce10,hcl10,hM10,hcc10,hfr10⟩:=Kd.R_elem HO_3.out z32 (x4_1:Int) p10 q10;obtain ⟨ve10_4,ve10_5,rfl,ge10_4,ge10_5⟩:=k32_openM hM10;have hx10_0:w11.cell? ⟨go10,(x4_1:Int).toNat * 6,none⟩=some (.int .i64 ((rd_T32 x3_1 x4_1).f0)):=hcc10 0 _ rfl;have hx10_1:w11.cell? ⟨go10,(x4_1:Int).toNat * 6+1,none⟩=some (.int .i64 ((rd_T32 x3_1 x4_1).f1)):=hcc10 1 _ rfl;have hx10_2:w11.cell? ⟨go10,(x4_1:Int).toNat * 6+2,none⟩=some (.string ((rd_T32 x3_1 x4_1).f2)):=hcc10 2 _ rfl;have hx10_3:w11.cell? ⟨go10,(x4_1:Int).toNat * 6+3,none⟩=some (.string ((rd_T32 x3_1 x4_1).f3)):=hcc10 3 _ rfl;have hx10_4:w11.cell? ⟨go10,(x4_1:Int).toNat * 6+4,none⟩=some (ve10_4):=hcc10 4 _ rfl;have hx10_5:w11.cell? ⟨go10,(x4_1:Int).toNat * 6+5,none⟩=some (ve10_5):=hcc10 5 _ rfl;have hf10_0:w11.frozen? ⟨go10,(x4_1:Int).toNat * 6,none⟩=false:=hfr10 0;have hf10_1:w11.frozen? ⟨go10,(x4_1:Int).toNat * 6+1,none⟩=false:=hfr10 1;have hf10_2:w11.frozen? ⟨go10,(x4_1:Int).toNat * 6+2,none⟩=false:=hfr10 2;have hf10_3:w11.frozen? ⟨go10,(x4_1:Int).toNat * 6+3,none⟩=false:=hfr10 3;have hf10_4:w11.frozen? ⟨go10,(x4_1:Int).toNat * 6+4,none⟩=false:=hfr10 4;have hf10_5:w11.frozen? ⟨go10,(x4_1:Int).toNat * 6+5,none⟩=false:=hfr10 5;clear hcl10 hcc10 hfr10 hM10;replace p10:=eq_true p10;replace q10:=eq_true q10;have n_:=A_ (Kd.R_mono (ok':=(fun k_=>some k_≠(v149:Value).ownBlock∧some k_≠(v152:Value).ownBlock)) HO_3.out (fun k_ hk=>⟨hk.1.2,hk.2⟩));clear HO_3;have HO_3:=n_;clear n_;have HX12:=A_ (show Kd.R k32 32 w11 w.heap.size (fun _=>True) (.slice (some ⟨go10,0,none⟩) x3_1.length co10) x3_1 from (by (with_reducible repeat (first|apply Kd.R_alloc|apply Kd.R_drewN|apply Kd.R_drew));exact Kd.R_mono HO_3.out (fun _ hk=>trivial)));obtain ⟨ce12,hcl12,hM12,hcc12,hfr12⟩:=Kd.R_elem HX12.out z32 (x4_1:Int) (od_ (by first|(with_reducible assumption)|assumption)) (by have h_:(x4_1:Int)<((x3_1.length:Int):Int):=od_ (by first|(with_reducible assumption)|assumption);first|exact h_|(have e_:=(Kd.R_reads' HO_3.out).1;omega)|simpa using h_);obtain ⟨ve12_4,ve12_5,rfl,ge12_4,ge12_5⟩:=k32_openM hM12;have HP12:=Kd.R_seg HX12.out (x4_1:Int) (od_ (by first|(with_reducible assumption)|assumption)) (by have h_:(x4_1:Int)<((x3_1.length:Int):Int):=od_ (by first|(with_reducible assumption)|assumption);first|exact h_|(have e_:=(Kd.R_reads' HO_3.out).1;omega)|simpa using h_) (seg:=[.int .i64 t144,.int .i64 t145,.string t146,.string t147,v149,v152]) (j:=0) hcl12 hcc12 (show 6≤6 from by decide) (x':=(⟨t144,t145,t146,t147,t148,t151⟩:S32)) (k32_mkM _ _ _ (⟨t144,t145,t146,t147,t148,t151⟩:S32) (Kd.R_mono (Kd.R_apart' (HO150.out) (Kd.R_typed HO_3.out) (by decide)) (fun k_ hk=>⟨trivial,fun e_=>(hk.2) (by rw [e_];rfl)⟩)) (Kd.R_mono (HO153.out) (fun k_ hk=>⟨trivial,fun e_=>(hk.2) (by rw [e_];rfl)⟩))) (fun _ hk=>hk);have hx12_0:=hcc12 0 _ rfl;(try simp only [show (k32).sz=6 from rfl,Nat.mul_one,Nat.add_zero] at hx12_0);have hf12_0:=hfr12 0;(try simp only [show (k32).sz=6 from rfl,Nat.mul_one,Nat.add_zero] at hf12_0);have hx12_1:=hcc12 1 _ rfl;(try simp only [show (k32).sz=6 from rfl,Nat.mul_one,Nat.add_zero] at hx12_1);have hf12_1:=hfr12 1;(try simp only [show (k32).sz=6 from rfl,Nat.mul_one,Nat.add_zero] at hf12_1);have hx12_2:=hcc12 2 _ rfl;(try simp only [show (k32).sz=6 from rfl,Nat.mul_one,Nat.add_zero] at hx12_2);have hf12_2:=hfr12 2;(try simp only [show (k32).sz=6 from rfl,Nat.mul_one,Nat.add_zero] at hf12_2);have hx12_3:=hcc12 3 _ rfl;(try simp only [show (k32).sz=6 from rfl,Nat.mul_one,Nat.add_zero] at hx12_3);have hf12_3:=hfr12 3;(try simp only [show (k32).sz=6 from rfl,Nat.mul_one,Nat.add_zero] at hf12_3);have hx12_4:=hcc12 4 _ rfl;(try simp only [show (k32).sz=6 from rfl,Nat.mul_one,Nat.add_zero] at hx12_4);have hf12_4:=hfr12 4;(try simp only [show (k32).sz=6 from rfl,Nat.mul_one,Nat.add_zero] at hf12_4);have hx12_5:=hcc12 5 _ rfl;(try simp only [show (k32).sz=6 from rfl,Nat.mul_one,Nat.add_zero] at hx12_5);have hf12_5:=hfr12 5;(try simp only [show (k32).sz=6 from rfl,Nat.mul_one,Nat.add_zero] at hf12_5);clear hcl12 hcc12 hfr12 hM12)|((with_reducible refine gate_store (t:=32) (p:=21) rfl ?_);refine store_event (t:=32) (p:=21) (v:=?vo_w13) (w1:=((((((w11.setCell ⟨go10,(x4_1:Int).toNat * 6,none⟩ (.int .i64 t144)).setCell ⟨go10,(x4_1:Int).toNat * 6+1,none⟩ (.int .i64 t145)).setCell ⟨go10,(x4_1:Int).toNat * 6+2,none⟩ (.string t146)).setCell ⟨go10,(x4_1:Int).toNat * 6+3,none⟩ (.string t147)).setCell ⟨go10,(x4_1:Int).toNat * 6+4,none⟩ (v149)).setCell ⟨go10,(x4_1:Int).toNat * 6+5,none⟩ (v152))) ?hg ?ho ?hn ?hr ?_;(case ho=>rfl);(case hg=>rfl);(case hn=>rfl);(case hr=>first|(go_simp;done)|(go_simp;rfl)|((first|(obtain ⟨_,_,rfl⟩:=Kd.R_slice HO142.out)|(obtain ⟨_,_,rfl⟩:=Kd.S_slice HO142.out)|skip);(first|(obtain ⟨_,_,rfl⟩:=Kd.R_slice HO150.out)|(obtain ⟨_,_,rfl⟩:=Kd.S_slice HO150.out)|skip);(first|(obtain ⟨_,_,rfl⟩:=Kd.R_slice HO153.out)|(obtain ⟨_,_,rfl⟩:=Kd.S_slice HO153.out)|skip);first|(go_simp;done)|(go_simp;rfl)));intro w13 hw;have hg:w11.grownBy w13 (some go10):=(by rw [hw];exact HP12.2);have hp_:Kd.R k32 32 w13 w.heap.size (fun _=>True) (.slice (some ⟨go10,0,none⟩) x3_1.length co10) y154:=(by rw [hw,Ny154.out];exact HP12.1);clear HP12;have n0_:=A_ (hp_);have n1_:=A_ ((by rw [hw];exact bs_ (bs_ (bs_ (bs_ (bs_ (bs_ (HB.out) GB10.out) GB10.out) GB10.out) GB10.out) GB10.out) GB10.out:Below w.heap.size w w13));clear HO_3;clear HB;clear HO150;clear HO153;have HO_3:=n0_;have HB:=n1_;clear n0_ n1_;clear hg hw hp_))
        go_roundg k1
        case measure=>have:=HK1.out;omega
        case rel=>exact ⟨(y154),(wrap64 (x4_1+1)),(by first|rfl|(simp;done)|(simp [*];done)),H',⟨by have:=HK1.out;omega⟩,⟨by (with_reducible repeat (first|apply Kd.R_alloc|apply Kd.R_drewN|apply Kd.R_drew));exact HO_3.out⟩,⟨by repeat (first|(with_reducible first|exact HB.out|apply ba_|apply pd_|apply b1_)|exact HB.out)⟩⟩
       ·rw [if_neg c9] at H
        exact absurd H (by simp)
      ·rw [if_neg c7] at H
       exact absurd H (by simp)
     ·rw [if_neg c6] at H
      have c6b0:decide (x4_1<(l0.length:Int))=false:=df_ c6
      clear c6
      obtain rfl:=oi_ H
      go_wp2
      go_ret
      exact ⟨_,by first|rfl|(simp [errW_none,errW_some] <;> rfl)|(simp [*,errW_none,errW_some] <;> rfl),by (with_reducible repeat (first|apply Kd.R_alloc|apply Kd.R_drewN|apply Kd.R_drew));exact HO_3.out,by repeat (first|(with_reducible first|exact HB.out|apply ba_|apply pd_|apply b1_)|exact HB.out)⟩
  ·rw [if_neg c3] at H
   exact absurd H (by simp)
 ·rw [if_neg c2] at H
  exact absurd H (by simp)
/-! ### laws_toNode: function 6 -/
set_option maxHeartbeats 8000000 in
set_option maxRecDepth 100000 in
theorem laws_toNode.calls (k:Nat):∀ (a0_0:Int) (a0_1:Int) (a0_2:ByteArray) (a0_3:ByteArray) (A0_4:Option Addr) (c0_4:Nat) (l0_4:List (S47)) (A0_5:Option Addr) (c0_5:Nat) (l0_5:List (S25)) (r1:Int) (r2:Int) (r3:ByteArray) (r4:ByteArray) (r5:List (S51)) (r6:List (S32)) (w:World) (hr0_4:Kd.C k47 w A0_4 l0_4.length l0_4) (hc0_4:l0_4.length≤c0_4) (hr0_5:Kd.C k25 w A0_5 l0_5.length l0_5) (hc0_5:l0_5.length≤c0_5) (h:laws_toNode.f k a0_0 a0_1 a0_2 a0_3 l0_4 l0_5=some (r1,r2,r3,r4,r5,r6)),
 Calls Tryz.prog 6 #[.agg #[.int .i64 a0_0,.int .i64 a0_1,.string a0_2,.string a0_3,.slice A0_4 l0_4.length c0_4,.slice A0_5 l0_5.length c0_5]] w fun e w'=>∃ v4_ v5_:Value,e=.returned (.agg #[.int .i64 r1,.int .i64 r2,.string r3,.string r4,v4_,v5_])∧Kd.R k51 51 w' w.heap.size (fun _=>True) v4_ r5∧Kd.R k32 32 w' w.heap.size (fun k_=>some k_≠(v4_:Value).ownBlock) v5_ r6∧Below w.heap.size w w':=by
 induction k using Nat.strongRecOn with
 | _ k ih =>
 have ihP:∀ j,j<k→∀ (A0:Option Addr) (c0:Nat) (l0:List (S25)) (r:List (S32)) (w:World) (hr0:Kd.C k25 w A0 l0.length l0) (hc0:l0.length≤c0) (h:laws_toNodeS.f j l0=some r),
  Calls Tryz.prog 14 #[.slice A0 l0.length c0] w fun e w'=>∃ v0_:Value,e=.returned (v0_)∧Kd.R k32 32 w' w.heap.size (fun _=>True) v0_ r∧Below w.heap.size w w':=fun j hj=>laws_toNodeS.step j (fun i hi=>ih i (Nat.lt_trans hi hj))
 intro a0_0 a0_1 a0_2 a0_3 A0_4 c0_4 l0_4 A0_5 c0_5 l0_5 r1 r2 r3 r4 r5 r6 w hr0_4 hc0_4 hr0_5 hc0_5 h
 cases k with
 | zero=>exact absurd h (by simp [laws_toNode.f])
 | succ k =>
 simp only [laws_toNode.f] at h
 have hu25:=Tryz.underlying25
 have hu32:=Tryz.underlying32
 have HR0_4:=A_ hr0_4
 have HC0_4:=A_ hc0_4
 clear hr0_4 hc0_4
 have HR0_5:=A_ hr0_5
 have HC0_5:=A_ hc0_5
 clear hr0_5 hc0_5
 have HB:=A_ (Below.refl w.heap.size w)
 have H:((laws_toAttrS.f k l0_4).bind fun t158=>((laws_toNodeS.f k l0_5).bind fun t161=>(some (a0_0,a0_1,a0_2,a0_3,t158,t161))))=some (r1,r2,r3,r4,r5,r6):=h
 clear h
 replace H:=ob_ H
 obtain ⟨t158,A20,H⟩:=H
 replace H:((laws_toNodeS.f k l0_5).bind fun t161=>(some (a0_0,a0_1,a0_2,a0_3,t158,t161)))=some (r1,r2,r3,r4,r5,r6):=H
 have A2:=A_ A20
 clear A20
 replace H:=ob_ H
 obtain ⟨t161,A30,H⟩:=H
 replace H:(some (a0_0,a0_1,a0_2,a0_3,t158,t161))=some (r1,r2,r3,r4,r5,r6):=H
 have A3:=A_ A30
 clear A30
 simp only [Option.some.injEq,Prod.mk.injEq] at H
 obtain ⟨rfl,rfl,rfl,rfl,rfl,rfl⟩:=H
 go_enter Tryz.func6,Tryz.ntmps6
 go_wp2_with (first|((with_reducible refine gate_dst (N:=1) rfl ?_);refine box_event ?hg (N:=1) ?hd (cs:=#[.int .i64 a0_0,.int .i64 a0_1,.string a0_2,.string a0_3,.slice A0_4 l0_4.length c0_4,.slice A0_5 l0_5.length c0_5]) (t:=25) ?hr ?_;(case hd=>rfl);(case hg=>rfl);(case hr=>first|(go_simp;done)|(go_simp;rfl)|(first|(go_simp;done)|(go_simp;rfl)));intro gb155 hg w4 hbox hb;have n0_:=A_ (bp_ (by repeat (first|(with_reducible first|exact HB.out|apply ba_|apply pd_|apply b1_)|exact HB.out)) hb);have n1_:=A_ (hbox);have n2_:=A_ ((by rw [hg];exact (bz_ (by repeat (first|(with_reducible first|exact HB.out|apply ba_|apply pd_|apply b1_)|exact HB.out))):w.heap.size≤gb155));have n3_:=A_ ((by rw [hg];exact (bz_ (by repeat (first|(with_reducible first|exact HB.out|apply ba_|apply pd_|apply b1_)|exact HB.out))):w.heap.size≤gb155));clear HB;have HB:=n0_;have BK155:=n1_;have GW155:=n2_;have GE155:=n3_;clear n0_ n1_ n2_ n3_;clear hb hbox hg)|((with_reducible refine gate_dst (N:=2) rfl ?_);refine box_event ?hg (N:=2) ?hd (cs:=#[.int .i64 0,.int .i64 0,.string (⟨#[]⟩:ByteArray),.string (⟨#[]⟩:ByteArray),.slice none 0 0,.slice none 0 0]) (t:=32) ?hr ?_;(case hd=>rfl);(case hg=>rfl);(case hr=>first|(go_simp;done)|(go_simp;rfl)|(first|(go_simp;done)|(go_simp;rfl)));intro gb156 hg w5 hbox hb;have n0_:=A_ (kb_ (g:=gb155) (o:=.cells #[.int .i64 a0_0,.int .i64 a0_1,.string a0_2,.string a0_3,.slice A0_4 l0_4.length c0_4,.slice A0_5 l0_5.length c0_5] 25 (0,0)) (by (with_reducible repeat (first|refine kn_ ?_ _|refine kd_ ?_|refine ka_ ?_ _));exact BK155.out) hb);have n1_:=A_ (bp_ (by repeat (first|(with_reducible first|exact HB.out|apply ba_|apply pd_|apply b1_|refine bs_ ?_ GE155.out)|exact HB.out)) hb);have n2_:=A_ (hbox);have n3_:=A_ ((by rw [hg];exact (bz_ (by repeat (first|(with_reducible first|exact HB.out|apply ba_|apply pd_|apply b1_|refine bs_ ?_ GE155.out)|exact HB.out))):w.heap.size≤gb156));have n4_:=A_ ((by rw [hg];exact (bz_ (by repeat (first|(with_reducible first|exact HB.out|apply ba_|apply pd_|apply b1_|refine bs_ ?_ GE155.out)|exact HB.out))):w.heap.size≤gb156));have n5_:=A_ ((by rw [hg];exact Nat.ne_of_lt (blk_lt (g:=gb155) (o:=.cells #[.int .i64 a0_0,.int .i64 a0_1,.string a0_2,.string a0_3,.slice A0_4 l0_4.length c0_4,.slice A0_5 l0_5.length c0_5] 25 (0,0)) (by (with_reducible repeat (first|refine kn_ ?_ _|refine kd_ ?_|refine ka_ ?_ _));exact BK155.out)):gb155≠gb156));have n6_:=A_ ((by rw [hg];exact Nat.ne_of_gt (blk_lt (g:=gb155) (o:=.cells #[.int .i64 a0_0,.int .i64 a0_1,.string a0_2,.string a0_3,.slice A0_4 l0_4.length c0_4,.slice A0_5 l0_5.length c0_5] 25 (0,0)) (by (with_reducible repeat (first|refine kn_ ?_ _|refine kd_ ?_|refine ka_ ?_ _));exact BK155.out)):gb156≠gb155));clear BK155;clear HB;have BK155:=n0_;have HB:=n1_;have BK156:=n2_;have GW156:=n3_;have GE156:=n4_;have NB155_156:=n5_;have NB156_155:=n6_;clear n0_ n1_ n2_ n3_ n4_ n5_ n6_;clear hb hbox hg)|((with_reducible refine gate_dst (N:=3) rfl ?_);refine box_event ?hg (N:=3) ?hd (cs:=#[.int .i64 0,.int .i64 0,.string (⟨#[]⟩:ByteArray),.string (⟨#[]⟩:ByteArray),.slice none 0 0,.slice none 0 0]) (t:=32) ?hr ?_;(case hd=>rfl);(case hg=>rfl);(case hr=>first|(go_simp;done)|(go_simp;rfl)|(first|(go_simp;done)|(go_simp;rfl)));intro gb157 hg w6 hbox hb;have n0_:=A_ (kb_ (g:=gb155) (o:=.cells #[.int .i64 a0_0,.int .i64 a0_1,.string a0_2,.string a0_3,.slice A0_4 l0_4.length c0_4,.slice A0_5 l0_5.length c0_5] 25 (0,0)) (by (with_reducible repeat (first|refine kn_ ?_ _|refine kd_ ?_|refine ka_ ?_ _));exact BK155.out) hb);have n1_:=A_ (kb_ (g:=gb156) (o:=.cells #[.int .i64 0,.int .i64 0,.string (⟨#[]⟩:ByteArray),.string (⟨#[]⟩:ByteArray),.slice none 0 0,.slice none 0 0] 32 (0,0)) (by (with_reducible repeat (first|refine kn_ ?_ _|refine kd_ ?_|refine ka_ ?_ _));exact BK156.out) hb);have n2_:=A_ (bp_ (by repeat (first|(with_reducible first|exact HB.out|apply ba_|apply pd_|apply b1_|refine bs_ ?_ GE155.out|refine bs_ ?_ GE156.out)|exact HB.out)) hb);have n3_:=A_ (hbox);have n4_:=A_ ((by rw [hg];exact (bz_ (by repeat (first|(with_reducible first|exact HB.out|apply ba_|apply pd_|apply b1_|refine bs_ ?_ GE155.out|refine bs_ ?_ GE156.out)|exact HB.out))):w.heap.size≤gb157));have n5_:=A_ ((by rw [hg];exact (bz_ (by repeat (first|(with_reducible first|exact HB.out|apply ba_|apply pd_|apply b1_|refine bs_ ?_ GE155.out|refine bs_ ?_ GE156.out)|exact HB.out))):w.heap.size≤gb157));have n6_:=A_ ((by rw [hg];exact Nat.ne_of_lt (blk_lt (g:=gb155) (o:=.cells #[.int .i64 a0_0,.int .i64 a0_1,.string a0_2,.string a0_3,.slice A0_4 l0_4.length c0_4,.slice A0_5 l0_5.length c0_5] 25 (0,0)) (by (with_reducible repeat (first|refine kn_ ?_ _|refine kd_ ?_|refine ka_ ?_ _));exact BK155.out)):gb155≠gb157));have n7_:=A_ ((by rw [hg];exact Nat.ne_of_gt (blk_lt (g:=gb155) (o:=.cells #[.int .i64 a0_0,.int .i64 a0_1,.string a0_2,.string a0_3,.slice A0_4 l0_4.length c0_4,.slice A0_5 l0_5.length c0_5] 25 (0,0)) (by (with_reducible repeat (first|refine kn_ ?_ _|refine kd_ ?_|refine ka_ ?_ _));exact BK155.out)):gb157≠gb155));have n8_:=A_ ((by rw [hg];exact Nat.ne_of_lt (blk_lt (g:=gb156) (o:=.cells #[.int .i64 0,.int .i64 0,.string (⟨#[]⟩:ByteArray),.string (⟨#[]⟩:ByteArray),.slice none 0 0,.slice none 0 0] 32 (0,0)) (by (with_reducible repeat (first|refine kn_ ?_ _|refine kd_ ?_|refine ka_ ?_ _));exact BK156.out)):gb156≠gb157));have n9_:=A_ ((by rw [hg];exact Nat.ne_of_gt (blk_lt (g:=gb156) (o:=.cells #[.int .i64 0,.int .i64 0,.string (⟨#[]⟩:ByteArray),.string (⟨#[]⟩:ByteArray),.slice none 0 0,.slice none 0 0] 32 (0,0)) (by (with_reducible repeat (first|refine kn_ ?_ _|refine kd_ ?_|refine ka_ ?_ _));exact BK156.out)):gb157≠gb156));clear BK155;clear BK156;clear HB;have BK155:=n0_;have BK156:=n1_;have HB:=n2_;have BK157:=n3_;have GW157:=n4_;have GE157:=n5_;have NB155_157:=n6_;have NB157_155:=n7_;have NB156_157:=n8_;have NB157_156:=n9_;clear n0_ n1_ n2_ n3_ n4_ n5_ n6_ n7_ n8_ n9_;clear hb hbox hg;have hnb7:=NB155_156.out;have hnc7:=NB156_155.out;have hnb8:=NB155_157.out;have hnc8:=NB157_155.out;have hcz9_0:w6.cell? ⟨gb155,0,none⟩=some (.int .i64 a0_0):=(bc_ BK155.out 0).trans rfl;have hcz9_1:w6.cell? ⟨gb155,1,none⟩=some (.int .i64 a0_1):=(bc_ BK155.out 1).trans rfl;have hcz9_2:w6.cell? ⟨gb155,2,none⟩=some (.string a0_2):=(bc_ BK155.out 2).trans rfl;have hcz9_3:w6.cell? ⟨gb155,3,none⟩=some (.string a0_3):=(bc_ BK155.out 3).trans rfl;have hcz9_4:w6.cell? ⟨gb155,4,none⟩=some (.slice A0_4 l0_4.length c0_4):=(bc_ BK155.out 4).trans rfl;have hcz9_5:w6.cell? ⟨gb155,5,none⟩=some (.slice A0_5 l0_5.length c0_5):=(bc_ BK155.out 5).trans rfl;have hfz9_0:=bf_ BK155.out 0;have hfz9_1:=bf_ BK155.out 1;have hfz9_2:=bf_ BK155.out 2;have hfz9_3:=bf_ BK155.out 3;have hfz9_4:=bf_ BK155.out 4;have hfz9_5:=bf_ BK155.out 5;have hnb10:=NB157_156.out;have hnc10:=NB156_157.out;have hcz11_0:w6.cell? ⟨gb157,0,none⟩=some (.int .i64 0):=(bc_ BK157.out 0).trans rfl;have hcz11_1:w6.cell? ⟨gb157,1,none⟩=some (.int .i64 0):=(bc_ BK157.out 1).trans rfl;have hcz11_2:w6.cell? ⟨gb157,2,none⟩=some (.string (⟨#[]⟩:ByteArray)):=(bc_ BK157.out 2).trans rfl;have hcz11_3:w6.cell? ⟨gb157,3,none⟩=some (.string (⟨#[]⟩:ByteArray)):=(bc_ BK157.out 3).trans rfl;have hcz11_4:w6.cell? ⟨gb157,4,none⟩=some (.slice none 0 0):=(bc_ BK157.out 4).trans rfl;have hcz11_5:w6.cell? ⟨gb157,5,none⟩=some (.slice none 0 0):=(bc_ BK157.out 5).trans rfl;have hfz11_0:=bf_ BK157.out 0;have hfz11_1:=bf_ BK157.out 1;have hfz11_2:=bf_ BK157.out 2;have hfz11_3:=bf_ BK157.out 3;have hfz11_4:=bf_ BK157.out 4;have hfz11_5:=bf_ BK157.out 5)|((with_reducible refine gate_callee (f:=13) rfl ?_);refine goesL_ (some 18) rfl rfl Tryz.func13 (by kernel_rfl) rfl #[.slice A0_4 l0_4.length c0_4] rfl (by (try simp only [List.map_toArray,List.map_cons,List.map_nil]);first|done|rfl|(simp only [ld_,lt_];rfl)) ?_;(with_reducible refine (laws_toAttrS.calls k _ _ l0_4 t158 _ ?side1 ?side2 A2.out).mono ?_);(case side1=>exact cb_ HR0_4.out (by repeat (first|(with_reducible first|exact HB.out|apply ba_|apply pd_|apply b1_|refine bs_ ?_ GE155.out|refine bs_ ?_ GE156.out|refine bs_ ?_ GE157.out)|exact HB.out)));(case side2=>exact HC0_4.out);rintro e w12 ⟨v159,rfl,ho0,hb⟩;refine ⟨_,rfl,?_⟩;have n0_:=A_ (Kd.R_lower ho0 (bz_ (by repeat (first|(with_reducible first|exact HB.out|apply ba_|apply pd_|apply b1_|refine bs_ ?_ GE155.out|refine bs_ ?_ GE156.out|refine bs_ ?_ GE157.out)|exact HB.out))));have n1_:=A_ (kb_ (g:=gb155) (o:=.cells #[.int .i64 a0_0,.int .i64 a0_1,.string a0_2,.string a0_3,.slice A0_4 l0_4.length c0_4,.slice A0_5 l0_5.length c0_5] 25 (0,0)) (by (with_reducible repeat (first|refine kn_ ?_ _|refine kd_ ?_|refine ka_ ?_ _));refine blk_far ?_ NB155_157.out _;(with_reducible repeat (first|refine kn_ ?_ _|refine kd_ ?_|refine ka_ ?_ _));refine blk_far ?_ NB155_157.out _;(with_reducible repeat (first|refine kn_ ?_ _|refine kd_ ?_|refine ka_ ?_ _));refine blk_far ?_ NB155_157.out _;(with_reducible repeat (first|refine kn_ ?_ _|refine kd_ ?_|refine ka_ ?_ _));refine blk_far ?_ NB155_157.out _;(with_reducible repeat (first|refine kn_ ?_ _|refine kd_ ?_|refine ka_ ?_ _));exact BK155.out) hb);have n2_:=A_ (kb_ (g:=gb156) (o:=.cells #[.int .i64 0,.int .i64 0,.string (⟨#[]⟩:ByteArray),.string (⟨#[]⟩:ByteArray),.slice none 0 0,.slice none 0 0] 32 (0,0)) (by (with_reducible repeat (first|refine kn_ ?_ _|refine kd_ ?_|refine ka_ ?_ _));refine blk_far ?_ NB156_157.out _;(with_reducible repeat (first|refine kn_ ?_ _|refine kd_ ?_|refine ka_ ?_ _));refine blk_far ?_ NB156_157.out _;(with_reducible repeat (first|refine kn_ ?_ _|refine kd_ ?_|refine ka_ ?_ _));refine blk_far ?_ NB156_157.out _;(with_reducible repeat (first|refine kn_ ?_ _|refine kd_ ?_|refine ka_ ?_ _));refine blk_far ?_ NB156_157.out _;(with_reducible repeat (first|refine kn_ ?_ _|refine kd_ ?_|refine ka_ ?_ _));exact BK156.out) hb);have n3_:=A_ (kb_ (g:=gb157) (o:=.cells #[.int .i64 a0_0,.int .i64 a0_1,.string a0_2,.string a0_3,.slice none 0 0,.slice none 0 0] 32 (0,0)) (by (with_reducible repeat (first|refine kn_ ?_ _|refine kd_ ?_|refine ka_ ?_ _));refine blk_put (cs:=#[.int .i64 a0_0,.int .i64 a0_1,.string a0_2,.string (⟨#[]⟩:ByteArray),.slice none 0 0,.slice none 0 0]) ?_ 3 _ rfl;(with_reducible repeat (first|refine kn_ ?_ _|refine kd_ ?_|refine ka_ ?_ _));refine blk_put (cs:=#[.int .i64 a0_0,.int .i64 a0_1,.string (⟨#[]⟩:ByteArray),.string (⟨#[]⟩:ByteArray),.slice none 0 0,.slice none 0 0]) ?_ 2 _ rfl;(with_reducible repeat (first|refine kn_ ?_ _|refine kd_ ?_|refine ka_ ?_ _));refine blk_put (cs:=#[.int .i64 a0_0,.int .i64 0,.string (⟨#[]⟩:ByteArray),.string (⟨#[]⟩:ByteArray),.slice none 0 0,.slice none 0 0]) ?_ 1 _ rfl;(with_reducible repeat (first|refine kn_ ?_ _|refine kd_ ?_|refine ka_ ?_ _));refine blk_put (cs:=#[.int .i64 0,.int .i64 0,.string (⟨#[]⟩:ByteArray),.string (⟨#[]⟩:ByteArray),.slice none 0 0,.slice none 0 0]) ?_ 0 _ rfl;(with_reducible repeat (first|refine kn_ ?_ _|refine kd_ ?_|refine ka_ ?_ _));exact BK157.out) hb);have n4_:=A_ (bp_ (by repeat (first|(with_reducible first|exact HB.out|apply ba_|apply pd_|apply b1_|refine bs_ ?_ GE155.out|refine bs_ ?_ GE156.out|refine bs_ ?_ GE157.out)|exact HB.out)) hb);clear BK155;clear BK156;clear BK157;clear HB;have HO160:=n0_;have BK155:=n1_;have BK156:=n2_;have BK157:=n3_;have HB:=n4_;clear n0_ n1_ n2_ n3_ n4_;(try clear hb);(try clear hb2);(try clear hk);(try clear hi);(try clear ho0);obtain ⟨Ao13,co13,eo13⟩:=Kd.R_slice HO160.out;subst eo13;have hcz14_0:w12.cell? ⟨gb157,0,none⟩=some (.int .i64 a0_0):=(bc_ BK157.out 0).trans rfl;have hcz14_1:w12.cell? ⟨gb157,1,none⟩=some (.int .i64 a0_1):=(bc_ BK157.out 1).trans rfl;have hcz14_2:w12.cell? ⟨gb157,2,none⟩=some (.string a0_2):=(bc_ BK157.out 2).trans rfl;have hcz14_3:w12.cell? ⟨gb157,3,none⟩=some (.string a0_3):=(bc_ BK157.out 3).trans rfl;have hcz14_4:w12.cell? ⟨gb157,4,none⟩=some (.slice none 0 0):=(bc_ BK157.out 4).trans rfl;have hcz14_5:w12.cell? ⟨gb157,5,none⟩=some (.slice none 0 0):=(bc_ BK157.out 5).trans rfl;have hfz14_0:=bf_ BK157.out 0;have hfz14_1:=bf_ BK157.out 1;have hfz14_2:=bf_ BK157.out 2;have hfz14_3:=bf_ BK157.out 3;have hfz14_4:=bf_ BK157.out 4;have hfz14_5:=bf_ BK157.out 5;have hcz15_0:w12.cell? ⟨gb155,0,none⟩=some (.int .i64 a0_0):=(bc_ BK155.out 0).trans rfl;have hcz15_1:w12.cell? ⟨gb155,1,none⟩=some (.int .i64 a0_1):=(bc_ BK155.out 1).trans rfl;have hcz15_2:w12.cell? ⟨gb155,2,none⟩=some (.string a0_2):=(bc_ BK155.out 2).trans rfl;have hcz15_3:w12.cell? ⟨gb155,3,none⟩=some (.string a0_3):=(bc_ BK155.out 3).trans rfl;have hcz15_4:w12.cell? ⟨gb155,4,none⟩=some (.slice A0_4 l0_4.length c0_4):=(bc_ BK155.out 4).trans rfl;have hcz15_5:w12.cell? ⟨gb155,5,none⟩=some (.slice A0_5 l0_5.length c0_5):=(bc_ BK155.out 5).trans rfl;have hfz15_0:=bf_ BK155.out 0;have hfz15_1:=bf_ BK155.out 1;have hfz15_2:=bf_ BK155.out 2;have hfz15_3:=bf_ BK155.out 3;have hfz15_4:=bf_ BK155.out 4;have hfz15_5:=bf_ BK155.out 5)|((with_reducible refine gate_callee (f:=14) rfl ?_);refine goesL_ (some 22) rfl rfl Tryz.func14 (by kernel_rfl) rfl #[.slice A0_5 l0_5.length c0_5] rfl (by (try simp only [List.map_toArray,List.map_cons,List.map_nil]);first|done|rfl|(simp only [ld_,lt_];rfl)) ?_;(with_reducible refine (ihP k (by omega) _ _ l0_5 t161 _ ?side1 ?side2 A3.out).mono ?_);(case side1=>exact cb_ HR0_5.out (by repeat (first|(with_reducible first|exact HB.out|apply ba_|apply pd_|apply b1_|refine bs_ ?_ GE155.out|refine bs_ ?_ GE156.out|refine bs_ ?_ GE157.out)|exact HB.out)));(case side2=>exact HC0_5.out);rintro e w16 ⟨v162,rfl,ho0,hb⟩;refine ⟨_,rfl,?_⟩;have n0_:=A_ (Kd.R_below (by (with_reducible repeat (first|apply Kd.R_alloc|apply Kd.R_drewN|apply Kd.R_drew));exact (Kd.R_mono (Kd.R_far (p:=⟨gb157,4,none⟩) (Kd.R_types HO160.out BK157.out (by decide)) (fun _ hk=>hk.2) (.slice Ao13 t158.length co13)) (fun _ h_=>h_.1))) hb);have n1_:=A_ (Kd.R_lower (Kd.R_newB (Kd.R_newB (Kd.R_new' ho0 (Kd.R_lt (by (with_reducible repeat (first|apply Kd.R_alloc|apply Kd.R_drewN|apply Kd.R_drew));exact (Kd.R_mono (Kd.R_far (p:=⟨gb157,4,none⟩) (Kd.R_types HO160.out BK157.out (by decide)) (fun _ hk=>hk.2) (.slice Ao13 t158.length co13)) (fun _ h_=>h_.1))))) (g:=gb156) (o:=.cells #[.int .i64 0,.int .i64 0,.string (⟨#[]⟩:ByteArray),.string (⟨#[]⟩:ByteArray),.slice none 0 0,.slice none 0 0] 32 (0,0)) (by (with_reducible repeat (first|refine kn_ ?_ _|refine kd_ ?_|refine ka_ ?_ _));refine blk_far ?_ NB156_157.out _;(with_reducible repeat (first|refine kn_ ?_ _|refine kd_ ?_|refine ka_ ?_ _));exact BK156.out)) (g:=gb157) (o:=.cells #[.int .i64 a0_0,.int .i64 a0_1,.string a0_2,.string a0_3,.slice Ao13 t158.length co13,.slice none 0 0] 32 (0,0)) (by (with_reducible repeat (first|refine kn_ ?_ _|refine kd_ ?_|refine ka_ ?_ _));refine blk_put (cs:=#[.int .i64 a0_0,.int .i64 a0_1,.string a0_2,.string a0_3,.slice none 0 0,.slice none 0 0]) ?_ 4 _ rfl;(with_reducible repeat (first|refine kn_ ?_ _|refine kd_ ?_|refine ka_ ?_ _));exact BK157.out)) (bz_ (by repeat (first|(with_reducible first|exact HB.out|apply ba_|apply pd_|apply b1_|refine bs_ ?_ GE155.out|refine bs_ ?_ GE156.out|refine bs_ ?_ GE157.out)|exact HB.out))));have n2_:=A_ (kb_ (g:=gb155) (o:=.cells #[.int .i64 a0_0,.int .i64 a0_1,.string a0_2,.string a0_3,.slice A0_4 l0_4.length c0_4,.slice A0_5 l0_5.length c0_5] 25 (0,0)) (by (with_reducible repeat (first|refine kn_ ?_ _|refine kd_ ?_|refine ka_ ?_ _));refine blk_far ?_ NB155_157.out _;(with_reducible repeat (first|refine kn_ ?_ _|refine kd_ ?_|refine ka_ ?_ _));exact BK155.out) hb);have n3_:=A_ (kb_ (g:=gb156) (o:=.cells #[.int .i64 0,.int .i64 0,.string (⟨#[]⟩:ByteArray),.string (⟨#[]⟩:ByteArray),.slice none 0 0,.slice none 0 0] 32 (0,0)) (by (with_reducible repeat (first|refine kn_ ?_ _|refine kd_ ?_|refine ka_ ?_ _));refine blk_far ?_ NB156_157.out _;(with_reducible repeat (first|refine kn_ ?_ _|refine kd_ ?_|refine ka_ ?_ _));exact BK156.out) hb);have n4_:=A_ (kb_ (g:=gb157) (o:=.cells #[.int .i64 a0_0,.int .i64 a0_1,.string a0_2,.string a0_3,.slice Ao13 t158.length co13,.slice none 0 0] 32 (0,0)) (by (with_reducible repeat (first|refine kn_ ?_ _|refine kd_ ?_|refine ka_ ?_ _));refine blk_put (cs:=#[.int .i64 a0_0,.int .i64 a0_1,.string a0_2,.string a0_3,.slice none 0 0,.slice none 0 0]) ?_ 4 _ rfl;(with_reducible repeat (first|refine kn_ ?_ _|refine kd_ ?_|refine ka_ ?_ _));exact BK157.out) hb);have n5_:=A_ (bp_ (by repeat (first|(with_reducible first|exact HB.out|apply ba_|apply pd_|apply b1_|refine bs_ ?_ GE155.out|refine bs_ ?_ GE156.out|refine bs_ ?_ GE157.out)|exact HB.out)) hb);clear HO160;clear BK155;clear BK156;clear BK157;clear HB;have HO160:=n0_;have HO163:=n1_;have BK155:=n2_;have BK156:=n3_;have BK157:=n4_;have HB:=n5_;clear n0_ n1_ n2_ n3_ n4_ n5_;(try clear hb);(try clear hb2);(try clear hk);(try clear hi);(try clear ho0);obtain ⟨Ao17,co17,eo17⟩:=Kd.R_slice HO163.out;subst eo17;have hcz18_0:w16.cell? ⟨gb157,0,none⟩=some (.int .i64 a0_0):=(bc_ BK157.out 0).trans rfl;have hcz18_1:w16.cell? ⟨gb157,1,none⟩=some (.int .i64 a0_1):=(bc_ BK157.out 1).trans rfl;have hcz18_2:w16.cell? ⟨gb157,2,none⟩=some (.string a0_2):=(bc_ BK157.out 2).trans rfl;have hcz18_3:w16.cell? ⟨gb157,3,none⟩=some (.string a0_3):=(bc_ BK157.out 3).trans rfl;have hcz18_4:w16.cell? ⟨gb157,4,none⟩=some (.slice Ao13 t158.length co13):=(bc_ BK157.out 4).trans rfl;have hcz18_5:w16.cell? ⟨gb157,5,none⟩=some (.slice none 0 0):=(bc_ BK157.out 5).trans rfl;have hfz18_0:=bf_ BK157.out 0;have hfz18_1:=bf_ BK157.out 1;have hfz18_2:=bf_ BK157.out 2;have hfz18_3:=bf_ BK157.out 3;have hfz18_4:=bf_ BK157.out 4;have hfz18_5:=bf_ BK157.out 5;have hcz19_0:w16.cell? ⟨gb156,0,none⟩=some (.int .i64 0):=(bc_ BK156.out 0).trans rfl;have hcz19_1:w16.cell? ⟨gb156,1,none⟩=some (.int .i64 0):=(bc_ BK156.out 1).trans rfl;have hcz19_2:w16.cell? ⟨gb156,2,none⟩=some (.string (⟨#[]⟩:ByteArray)):=(bc_ BK156.out 2).trans rfl;have hcz19_3:w16.cell? ⟨gb156,3,none⟩=some (.string (⟨#[]⟩:ByteArray)):=(bc_ BK156.out 3).trans rfl;have hcz19_4:w16.cell? ⟨gb156,4,none⟩=some (.slice none 0 0):=(bc_ BK156.out 4).trans rfl;have hcz19_5:w16.cell? ⟨gb156,5,none⟩=some (.slice none 0 0):=(bc_ BK156.out 5).trans rfl;have hfz19_0:=bf_ BK156.out 0;have hfz19_1:=bf_ BK156.out 1;have hfz19_2:=bf_ BK156.out 2;have hfz19_3:=bf_ BK156.out 3;have hfz19_4:=bf_ BK156.out 4;have hfz19_5:=bf_ BK156.out 5))
 refine bodyPost_ret (results_cell_row rfl _ _ gb156 32 #[.int .i64 a0_0,.int .i64 a0_1,.string a0_2,.string a0_3,.slice Ao13 t158.length co13,.slice Ao17 t161.length co17] (0,0) _ rfl (by (with_reducible repeat (first|refine kn_ ?_ _|refine kd_ ?_|refine ka_ ?_ _));refine blk_put (cs:=#[.int .i64 a0_0,.int .i64 a0_1,.string a0_2,.string a0_3,.slice Ao13 t158.length co13,.slice none 0 0]) ?_ 5 _ rfl;(with_reducible repeat (first|refine kn_ ?_ _|refine kd_ ?_|refine ka_ ?_ _));refine blk_put (cs:=#[.int .i64 a0_0,.int .i64 a0_1,.string a0_2,.string a0_3,.slice none 0 0,.slice none 0 0]) ?_ 4 _ rfl;(with_reducible repeat (first|refine kn_ ?_ _|refine kd_ ?_|refine ka_ ?_ _));refine blk_put (cs:=#[.int .i64 a0_0,.int .i64 a0_1,.string a0_2,.string (⟨#[]⟩:ByteArray),.slice none 0 0,.slice none 0 0]) ?_ 3 _ rfl;(with_reducible repeat (first|refine kn_ ?_ _|refine kd_ ?_|refine ka_ ?_ _));refine blk_put (cs:=#[.int .i64 a0_0,.int .i64 a0_1,.string (⟨#[]⟩:ByteArray),.string (⟨#[]⟩:ByteArray),.slice none 0 0,.slice none 0 0]) ?_ 2 _ rfl;(with_reducible repeat (first|refine kn_ ?_ _|refine kd_ ?_|refine ka_ ?_ _));refine blk_put (cs:=#[.int .i64 a0_0,.int .i64 0,.string (⟨#[]⟩:ByteArray),.string (⟨#[]⟩:ByteArray),.slice none 0 0,.slice none 0 0]) ?_ 1 _ rfl;(with_reducible repeat (first|refine kn_ ?_ _|refine kd_ ?_|refine ka_ ?_ _));refine blk_put (cs:=#[.int .i64 0,.int .i64 0,.string (⟨#[]⟩:ByteArray),.string (⟨#[]⟩:ByteArray),.slice none 0 0,.slice none 0 0]) ?_ 0 _ rfl;(with_reducible repeat (first|refine kn_ ?_ _|refine kd_ ?_|refine ka_ ?_ _));refine blk_far ?_ NB156_157.out _;(with_reducible repeat (first|refine kn_ ?_ _|refine kd_ ?_|refine ka_ ?_ _));exact BK156.out) Tryz.underlying32 rfl (by kernel_rfl)) rfl ?_
 exact ⟨_,_,by first|rfl|(simp [errW_none,errW_some] <;> rfl)|(simp [*,errW_none,errW_some] <;> rfl),by (with_reducible repeat (first|apply Kd.R_alloc|apply Kd.R_drewN|apply Kd.R_drew));exact Kd.R_mono (Kd.R_far (p:=⟨gb156,5,none⟩) (Kd.R_far (p:=⟨gb156,4,none⟩) (Kd.R_far (p:=⟨gb156,3,none⟩) (Kd.R_far (p:=⟨gb156,2,none⟩) (Kd.R_far (p:=⟨gb156,1,none⟩) (Kd.R_far (p:=⟨gb156,0,none⟩) (Kd.R_far (p:=⟨gb157,5,none⟩) (Kd.R_types (Kd.R_types HO160.out BK157.out (by decide)) BK156.out (by decide)) (fun _ hk=>hk.1.2) (.slice Ao17 t161.length co17)) (fun _ hk=>hk.2) (.int .i64 a0_0)) (fun _ hk=>hk.2) (.int .i64 a0_1)) (fun _ hk=>hk.2) (.string a0_2)) (fun _ hk=>hk.2) (.string a0_3)) (fun _ hk=>hk.2) (.slice Ao13 t158.length co13)) (fun _ hk=>hk.2) (.slice Ao17 t161.length co17)) (fun _ hk=>trivial),by (with_reducible repeat (first|apply Kd.R_alloc|apply Kd.R_drewN|apply Kd.R_drew));exact Kd.R_mono (Kd.R_far (p:=⟨gb156,5,none⟩) (Kd.R_far (p:=⟨gb156,4,none⟩) (Kd.R_far (p:=⟨gb156,3,none⟩) (Kd.R_far (p:=⟨gb156,2,none⟩) (Kd.R_far (p:=⟨gb156,1,none⟩) (Kd.R_far (p:=⟨gb156,0,none⟩) (Kd.R_far (p:=⟨gb157,5,none⟩) (Kd.R_mono (Kd.R_mono HO163.out (fun k_ hk=>(⟨hk,hk.2⟩:_∧k_≠gb157))) (fun k_ hk=>(⟨hk,hk.1.1.2⟩:_∧k_≠gb156))) (fun _ hk=>hk.1.2) (.slice Ao17 t161.length co17)) (fun _ hk=>hk.2) (.int .i64 a0_0)) (fun _ hk=>hk.2) (.int .i64 a0_1)) (fun _ hk=>hk.2) (.string a0_2)) (fun _ hk=>hk.2) (.string a0_3)) (fun _ hk=>hk.2) (.slice Ao13 t158.length co13)) (fun _ hk=>hk.2) (.slice Ao17 t161.length co17)) (fun _ hk=>hk.1.1.1.1.2),by repeat (first|(with_reducible first|exact HB.out|apply ba_|apply pd_|apply b1_|refine bs_ ?_ GE155.out|refine bs_ ?_ GE156.out|refine bs_ ?_ GE157.out)|exact HB.out)⟩
theorem laws_toNodeS.calls (k:Nat):∀ (A0:Option Addr) (c0:Nat) (l0:List (S25)) (r:List (S32)) (w:World) (hr0:Kd.C k25 w A0 l0.length l0) (hc0:l0.length≤c0) (h:laws_toNodeS.f k l0=some r),
 Calls Tryz.prog 14 #[.slice A0 l0.length c0] w fun e w'=>∃ v0_:Value,e=.returned (v0_)∧Kd.R k32 32 w' w.heap.size (fun _=>True) v0_ r∧Below w.heap.size w w':=laws_toNodeS.step k (fun j _=>laws_toNode.calls j)
/-! ### impl_within: function 26 -/
def impl_within.f (a0:Int) (a1:Int) (a2:Int):Option (Bool):=if a0≥a1 then (some (decide (a0≤a2))) else (some false)
set_option maxHeartbeats 8000000 in
set_option maxRecDepth 100000 in
theorem impl_within.calls (a0:Int) (a1:Int) (a2:Int) (r:Bool) (w:World) (h:impl_within.f a0 a1 a2=some r) :
 Calls Tryz.prog 26 #[.int .i64 a0,.int .i64 a1,.int .i64 a2] w fun e w'=>e=.returned (.bool r)∧Drawn0 w w':=by
 have H:(if a0≥a1 then (some (decide (a0≤a2))) else (some false))=some r:=h
 clear h
 by_cases c4:a0≥a1
 ·rw [if_pos c4] at H
  have c4b0:decide (a1≤a0)=true:=dt_ c4
  clear c4
  obtain rfl:=oi_ H
  go_enter Tryz.func26,Tryz.ntmps26
  go_wp2
  go_ret
  exact ⟨by first|rfl|(simp;done)|(simp [*];done),by repeat (first|exact dr_ _|apply dp_)⟩
 ·rw [if_neg c4] at H
  have c4b0:decide (a1≤a0)=false:=df_ c4
  clear c4
  obtain rfl:=oi_ H
  go_enter Tryz.func26,Tryz.ntmps26
  go_wp2
  go_ret
  exact ⟨by first|rfl|(simp;done)|(simp [*];done),by repeat (first|exact dr_ _|apply dp_)⟩
theorem impl_within.pure (n a b:Int) (W:World):Calls Tryz.prog 26 #[.int .i64 n,.int .i64 a,.int .i64 b] W fun e w'=>e=.returned (.bool (decide (a≤n∧n≤b)))∧Drawn0 W w':=by
 refine impl_within.calls n a b _ W ?_
 unfold impl_within.f
 by_cases h:n≥a
 ·rw [if_pos h];simp [h]
 ·rw [if_neg h];simp;omega
end Go.Proofs.YtpoaaomcpleebaaGreatDoor.PFnExactStartTag
