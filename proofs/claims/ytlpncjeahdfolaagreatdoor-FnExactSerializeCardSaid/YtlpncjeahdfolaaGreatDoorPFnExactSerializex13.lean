/- By a program of this session, out of the kit's print and contracts made by hand: the machine side of a law; Lean checks it. No conditions. -/
import Derived.Test.YtlpncjeahdfolaaGreatDoorPFnExactSerializex0
import Derived.Test.YtlpncjeahdfolaaGreatDoorPFnExactSerializex12
namespace Go.Proofs.YtlpncjeahdfolaaGreatDoor.PFnExactSerialize
open Go.RowKit Go.Proofs.YtlpncjeahdfolaaGreatDoorW.PrintWords Go.Proofs.YtlpncjeahdfolaaGreatDoorW.PrintLast Go.Proofs.YtlpncjeahdfolaaGreatDoorW.PrintMore
attribute [local go_sem] max2_int min2_int max_two min_two max_three min_three max_four min_four
set_option linter.unusedVariables false
set_option linter.unusedSimpArgs false
/-! ### laws_toNodeS: function 6 -/
mutual
def laws_toNodeS.l0:Nat→List (S33)→List (S38)→Int→Option ((List (S38)))
 | 0,_,_,_=>none
 | k+1,x0,x3,x4=>if x4<(x0.length:Int) then (if 0≤x4 then ((laws_toNode.f k ((rd_T33 x0 x4).f0) ((rd_T33 x0 x4).f1) ((rd_T33 x0 x4).f2) ((rd_T33 x0 x4).f3) ((rd_T33 x0 x4).f4) ((rd_T33 x0 x4).f5)).bind fun bt183=>(if x4<(x3.length:Int) then (laws_toNodeS.l0 k x0 (x3.set (x4:Int).toNat (⟨bt183.1,bt183.2.1,bt183.2.2.1,bt183.2.2.2.1,bt183.2.2.2.2.1,bt183.2.2.2.2.2⟩:S38)) (wrap64 (x4+1))) else (none))) else (none)) else (some x3)
def laws_toNodeS.f:Nat→List (S33)→Option ((List (S38)))
 | 0,_=>none
 | k+1,l0=>if 0≤(l0.length:Int) then (if ((l0.length:Int):Int).toNat≤2932031007402 then (laws_toNodeS.l0 k l0 (List.replicate ((l0.length:Int):Int).toNat z38) 0) else (none)) else (none)
def laws_toNode.f:Nat→Int→Int→ByteArray→ByteArray→List (S60)→List (S33)→Option (Int × Int × ByteArray × ByteArray × (List (S63)) × (List (S38)))
 | 0,_,_,_,_,_,_=>none
 | k+1,a0_0,a0_1,a0_2,a0_3,l0_4,l0_5=>(laws_toAttrS.f k l0_4).bind fun t197=>((laws_toNodeS.f k l0_5).bind fun t200=>(some (a0_0,a0_1,a0_2,a0_3,t197,t200)))
end
theorem laws_toNodeS.mono_l:∀ k,(∀ y0,LeO (laws_toNodeS.f k y0) (laws_toNodeS.f (k+1) y0))∧(∀ y0 y1 y2,LeO (laws_toNodeS.l0 k y0 y1 y2) (laws_toNodeS.l0 (k+1) y0 y1 y2))∧(∀ y0 y1 y2 y3 y4 y5,LeO (laws_toNode.f k y0 y1 y2 y3 y4 y5) (laws_toNode.f (k+1) y0 y1 y2 y3 y4 y5))
 | 0=>⟨fun _ r h=>by simp [laws_toNodeS.f] at h,fun _ _ _ r h=>by simp [laws_toNodeS.l0] at h,fun _ _ _ _ _ _ r h=>by simp [laws_toNode.f] at h⟩
 | k+1=>by
  obtain ⟨ih0,ih1,ih2⟩:=laws_toNodeS.mono_l k
  refine ⟨?_,?_,?_⟩
  ·intro y0
   unfold laws_toNodeS.f
   repeat' first
   | (with_reducible exact ih0 _)
   | (with_reducible exact ih1 _ _ _)
   | (with_reducible exact ih2 _ _ _ _ _ _)
   | (with_reducible exact laws_toAttrS.mono _ _)
   | (with_reducible exact LeO.refl _)
   | (with_reducible exact LeO.none _)
   | (with_reducible refine LeO.ite ?_ ?_)
   | (with_reducible refine LeO.bind ?_ (fun _=>?_))
   | exact ih0 _
   | exact ih1 _ _ _
   | exact ih2 _ _ _ _ _ _
   | exact laws_toAttrS.mono _ _
   | exact LeO.none _
   | refine LeO.ite ?_ ?_
   | refine LeO.bind ?_ (fun _=>?_)
  ·intro y0 y1 y2
   unfold laws_toNodeS.l0
   repeat' first
   | (with_reducible exact ih0 _)
   | (with_reducible exact ih1 _ _ _)
   | (with_reducible exact ih2 _ _ _ _ _ _)
   | (with_reducible exact laws_toAttrS.mono _ _)
   | (with_reducible exact LeO.refl _)
   | (with_reducible exact LeO.none _)
   | (with_reducible refine LeO.ite ?_ ?_)
   | (with_reducible refine LeO.bind ?_ (fun _=>?_))
   | exact ih0 _
   | exact ih1 _ _ _
   | exact ih2 _ _ _ _ _ _
   | exact laws_toAttrS.mono _ _
   | exact LeO.none _
   | refine LeO.ite ?_ ?_
   | refine LeO.bind ?_ (fun _=>?_)
  ·intro y0 y1 y2 y3 y4 y5
   unfold laws_toNode.f
   repeat' first
   | (with_reducible exact ih0 _)
   | (with_reducible exact ih1 _ _ _)
   | (with_reducible exact ih2 _ _ _ _ _ _)
   | (with_reducible exact laws_toAttrS.mono _ _)
   | (with_reducible exact LeO.refl _)
   | (with_reducible exact LeO.none _)
   | (with_reducible refine LeO.ite ?_ ?_)
   | (with_reducible refine LeO.bind ?_ (fun _=>?_))
   | exact ih0 _
   | exact ih1 _ _ _
   | exact ih2 _ _ _ _ _ _
   | exact laws_toAttrS.mono _ _
   | exact LeO.none _
   | refine LeO.ite ?_ ?_
   | refine LeO.bind ?_ (fun _=>?_)
theorem laws_toNodeS.mono:∀ a0 k,LeO (laws_toNodeS.f k a0) (laws_toNodeS.f (k+1) a0):=by
 intro a0 k
 obtain ⟨ih0,ih1,ih2⟩:=laws_toNodeS.mono_l k
 exact ih0 a0
theorem laws_toNode.mono:∀ a0 a1 a2 a3 a4 a5 k,LeO (laws_toNode.f k a0 a1 a2 a3 a4 a5) (laws_toNode.f (k+1) a0 a1 a2 a3 a4 a5):=by
 intro a0 a1 a2 a3 a4 a5 k
 obtain ⟨ih0,ih1,ih2⟩:=laws_toNodeS.mono_l k
 exact ih2 a0 a1 a2 a3 a4 a5
set_option maxHeartbeats 8000000 in
set_option maxRecDepth 100000 in
theorem laws_toNodeS.step (k:Nat) (ihP:∀ j,j<k→∀ (a0_0:Int) (a0_1:Int) (a0_2:ByteArray) (a0_3:ByteArray) (A0_4:Option Addr) (c0_4:Nat) (l0_4:List (S60)) (A0_5:Option Addr) (c0_5:Nat) (l0_5:List (S33)) (r1:Int) (r2:Int) (r3:ByteArray) (r4:ByteArray) (r5:List (S63)) (r6:List (S38)) (w:World) (hr0_4:Kd.C k60 w A0_4 l0_4.length l0_4) (hc0_4:l0_4.length≤c0_4) (hr0_5:Kd.C k33 w A0_5 l0_5.length l0_5) (hc0_5:l0_5.length≤c0_5) (h:laws_toNode.f j a0_0 a0_1 a0_2 a0_3 l0_4 l0_5=some (r1,r2,r3,r4,r5,r6)),
 Calls Tryz.prog 12 #[.agg #[.int .i64 a0_0,.int .i64 a0_1,.string a0_2,.string a0_3,.slice A0_4 l0_4.length c0_4,.slice A0_5 l0_5.length c0_5]] w fun e w'=>∃ v4_ v5_:Value,e=.returned (.agg #[.int .i64 r1,.int .i64 r2,.string r3,.string r4,v4_,v5_])∧Kd.R k63 63 w' w.heap.size (fun k_=>(w.heap.size≤k_)) v4_ r5∧Kd.N k38 38 w' w.heap.size (fun k_=>(w.heap.size≤k_)∧some k_≠(v4_:Value).ownBlock) v5_ r6∧Below w.heap.size w w'):∀ (A0:Option Addr) (c0:Nat) (l0:List (S33)) (r:List (S38)) (w:World) (hr0:Kd.C k33 w A0 l0.length l0) (hc0:l0.length≤c0) (h:laws_toNodeS.f k l0=some r),
 Calls Tryz.prog 6 #[.slice A0 l0.length c0] w fun e w'=>∃ v0_:Value,e=.returned (v0_)∧Kd.N k38 38 w' w.heap.size (fun k_=>(w.heap.size≤k_)) v0_ r∧Below w.heap.size w w':=by
 intro A0 c0 l0 r w hr0 hc0 h
 cases k with
 | zero=>exact absurd h (by simp [laws_toNodeS.f])
 | succ k =>
 simp only [laws_toNodeS.f] at h
 have hu33:=Tryz.underlying33
 have hu38:=Tryz.underlying38
 have HR0:=A_ hr0
 have HC0:=A_ hc0
 clear hr0 hc0
 have HB:=A_ (Below.refl w.heap.size w)
 have H:(if 0≤(l0.length:Int) then (if ((l0.length:Int):Int).toNat≤2932031007402 then (laws_toNodeS.l0 k l0 (List.replicate ((l0.length:Int):Int).toNat z38) 0) else (none)) else (none))=some r:=h
 clear h
 by_cases c2:0≤(l0.length:Int)
 ·rw [if_pos c2] at H
  have c2b0:=eq_true c2
  have c2b1:decide (0≤(l0.length:Int))=true:=dt_ c2
  clear c2
  by_cases c3:((l0.length:Int):Int).toNat≤2932031007402
  ·rw [if_pos c3] at H
   have c3b0:=eq_true c3
   have c3b1:decide (((l0.length:Int):Int).toNat≤2932031007402)=true:=dt_ c3
   clear c3
   obtain ⟨y179,hy179⟩:∃ y_:List (S38),y_=(List.replicate ((l0.length:Int):Int).toNat z38):=⟨_,rfl⟩
   replace H:(laws_toNodeS.l0 k l0 y179 0)=some r:=by first|(rw [hy179];with_reducible exact H)|(have H2_:=(Option.bind_some _ _).symm.trans H;rw [hy179];with_reducible exact H2_)|(have H2_:=(Option.bind_some _ _).symm.trans H;with_reducible exact H2_)|with_reducible exact H|(rw [hy179];exact H)|exact H
   have Ny179:=A_ hy179
   clear hy179
   have H':=A_ H
   clear H
   go_enter Tryz.func6,Tryz.ntmps6
   go_wp2_with (first|((with_reducible refine gate_dst (N:=7) rfl ?_);refine Kd.N_make k38 _ 38 rfl (N':=7) rfl 26 _ _ rfl (l0.length:Int) rfl rfl Tryz.underlying26 (.agg #[(.int .i64 0),(.int .i64 0),(.string ⟨#[]⟩),(.string ⟨#[]⟩),(.slice none 0 0),(.slice none 0 0)]) 96 info38 rfl (by decide) (by omega) z38 (ok:=fun k_=>w.heap.size≤k_) (okp:=fun _=>False) (k38_mkF _ _ z38 (Nat.le_refl _) (Kd.F_nil _ _ _) (Nat.le_refl _) (Kd.F_nil _ _ _)) (fun _ hk=>hk.elim) (Nat.le_refl _) (od_ (by first|(with_reducible assumption)|assumption)) (Nat.le_trans (Nat.mul_le_mul_right _ (od_ (by first|(with_reducible assumption)|assumption):(l0.length:Int).toNat≤2932031007402)) (by omega)) (Below.refl _ _) (Nat.le_refl _) ?_;intro v180 w4 ho5 hb hg_ hnew_;clear hg_ hnew_;(first|rw [←Ny179.out] at ho5|(simp only [Int.reduceToNat] at ho5;rw [←Ny179.out] at ho5));have n0_:=A_ (Kd.N_lower (Kd.N_mono (ok':=fun k_=>(w.heap.size≤k_)) ho5 (fun k_ hk_=>(Nat.le_trans (bz_ (by repeat (first|(with_reducible first|exact HB.out|apply ba_|apply pd_|apply b1_)|exact HB.out))) hk_))) (bz_ (by repeat (first|(with_reducible first|exact HB.out|apply ba_|apply pd_|apply b1_)|exact HB.out))));have n1_:=A_ (bp_ (by repeat (first|(with_reducible first|exact HB.out|apply ba_|apply pd_|apply b1_)|exact HB.out)) hb);clear HB;have HO181:=n0_;have HB:=n1_;clear n0_ n1_;clear hb ho5))
   go_loopg [4] k (fun kq v4 w'=>∃ (x3_1:List (S38)) (x4_1:Int),v4=.int .i64 x4_1∧Aside0 (laws_toNodeS.l0 kq l0 x3_1 x4_1=some r)∧Aside0 (kq≤k)∧Aside0 (Kd.N k38 38 w' w.heap.size (fun k_=>(w.heap.size≤k_)) v180 x3_1)∧Aside0 (Below w.heap.size w w'))
   case atStart=>exact ⟨(y179),(0),(by first|rfl|(simp;done)|(simp [*];done)),H',⟨Nat.le_refl _⟩,⟨by (with_reducible repeat (first|apply Kd.N_alloc|apply Kd.N_drewN|apply Kd.N_drew));exact HO181.out⟩,⟨by repeat (first|(with_reducible first|exact HB.out|apply ba_|apply pd_|apply b1_)|exact HB.out)⟩⟩
   case round =>
    clear H'
    try clear c2
    try clear c2b0
    try clear c2b1
    try clear p2
    try clear c3
    try clear c3b0
    try clear c3b1
    obtain ⟨x3_1,x4_1,rfl,HA,HK1,HO_3,HB⟩:=hrel
    cases gk with
    | zero=>exact absurd HA.out (by simp [laws_toNodeS.l0])
    | succ k1 =>
     have H:=HA.out
     clear HA
     simp only [laws_toNodeS.l0] at H
     by_cases c6:x4_1<(l0.length:Int)
     ·rw [if_pos c6] at H
      have c6b0:decide (x4_1<(l0.length:Int))=true:=dt_ c6
      clear c6
      by_cases c7:0≤x4_1
      ·rw [if_pos c7] at H
       have c7b0:decide (0≤x4_1)=true:=dt_ c7
       clear c7
       replace H:=ob_ H
       obtain ⟨⟨t183,t184,t185,t186,t187,t190⟩,A80,H⟩:=H
       replace H:(if x4_1<(x3_1.length:Int) then (laws_toNodeS.l0 k1 l0 (x3_1.set (x4_1:Int).toNat (⟨t183,t184,t185,t186,t187,t190⟩:S38)) (wrap64 (x4_1+1))) else (none))=some r:=H
       have A8:=A_ A80
       clear A80
       by_cases c9:x4_1<(x3_1.length:Int)
       ·rw [if_pos c9] at H
        have c9b0:decide (x4_1<(x3_1.length:Int))=true:=dt_ c9
        clear c9
        obtain ⟨y193,hy193⟩:∃ y_:List (S38),y_=(x3_1.set (x4_1:Int).toNat (⟨t183,t184,t185,t186,t187,t190⟩:S38)):=⟨_,rfl⟩
        replace H:(laws_toNodeS.l0 k1 l0 y193 (wrap64 (x4_1+1)))=some r:=by first|(rw [hy193];with_reducible exact H)|(have H2_:=(Option.bind_some _ _).symm.trans H;rw [hy193];with_reducible exact H2_)|(have H2_:=(Option.bind_some _ _).symm.trans H;with_reducible exact H2_)|with_reducible exact H|(rw [hy193];exact H)|exact H
        have Ny193:=A_ hy193
        clear hy193
        have H':=A_ H
        clear H
        have p182:0≤(x4_1:Int):=od_ (by first|(with_reducible assumption)|assumption)
        have q182:x4_1<(l0.length:Int):=od_ (by first|(with_reducible assumption)|assumption)
        obtain ⟨ad182,A182_4,c182_4,A182_5,c182_5,e182,hx182_0,hx182_1,hx182_2,hx182_3,hx182_4,hx182_5,hl182_4,hi182_4,hl182_5,hi182_5⟩:=at_T33 HR0.out x4_1 p182 q182
        cases e182
        replace hx182_0:=(HB.out.cell (bl_ w _ hx182_0)).trans hx182_0
        replace hx182_1:=(HB.out.cell (bl_ w _ hx182_1)).trans hx182_1
        replace hx182_2:=(HB.out.cell (bl_ w _ hx182_2)).trans hx182_2
        replace hx182_3:=(HB.out.cell (bl_ w _ hx182_3)).trans hx182_3
        replace hx182_4:=(HB.out.cell (bl_ w _ hx182_4)).trans hx182_4
        replace hx182_5:=(HB.out.cell (bl_ w _ hx182_5)).trans hx182_5
        have HR182_4:=A_ hi182_4
        have HC182_4:=A_ hl182_4
        clear hi182_4 hl182_4
        have HR182_5:=A_ hi182_5
        have HC182_5:=A_ hl182_5
        clear hi182_5 hl182_5
        replace p182:=eq_true p182
        replace q182:=eq_true q182
        go_wp2_with (first|((with_reducible refine gate_callee (f:=12) rfl ?_);refine goesL_ (some 20) rfl rfl Tryz.func12 (by kernel_rfl) rfl #[.agg #[.int .i64 ((rd_T33 l0 x4_1).f0),.int .i64 ((rd_T33 l0 x4_1).f1),.string ((rd_T33 l0 x4_1).f2),.string ((rd_T33 l0 x4_1).f3),.slice A182_4 ((rd_T33 l0 x4_1).f4).length c182_4,.slice A182_5 ((rd_T33 l0 x4_1).f5).length c182_5]] rfl (by (try simp only [List.map_toArray,List.map_cons,List.map_nil]);first|done|rfl|(simp only [ld_,lt_];rfl)) ?_;(with_reducible refine (ihP k1 (by have:=HK1.out;omega) ((rd_T33 l0 x4_1).f0) ((rd_T33 l0 x4_1).f1) ((rd_T33 l0 x4_1).f2) ((rd_T33 l0 x4_1).f3) _ _ ((rd_T33 l0 x4_1).f4) _ _ ((rd_T33 l0 x4_1).f5) t183 t184 t185 t186 t187 t190 _ ?side1 ?side2 ?side3 ?side4 A8.out).mono ?_);(case side1=>repeat (first|exact (cb_ HR182_4.out HB.out)|(with_reducible refine ca_ ?_ _)|(with_reducible refine cn_ ?_ _)|(with_reducible refine cd_ ?_)));(case side2=>exact HC182_4.out);(case side3=>repeat (first|exact (cb_ HR182_5.out HB.out)|(with_reducible refine ca_ ?_ _)|(with_reducible refine cn_ ?_ _)|(with_reducible refine cd_ ?_)));(case side4=>exact HC182_5.out);rintro e w11 ⟨v188,v191,rfl,ho0,ho1,hb⟩;refine ⟨_,rfl,?_⟩;have n0_:=A_ (Kd.N_mono (Kd.N_told (Kd.N_told (Kd.N_old (by (with_reducible repeat (first|apply Kd.N_alloc|apply Kd.N_drewN|apply Kd.N_drew));exact HO_3.out) hb) (Kd.R_base ho0)) (Kd.N_base ho1)) (fun _ h_=>h_.1));have n1_:=A_ (Kd.R_lower (Kd.R_newM (M:=fun k_=>(w.heap.size≤k_)) (Kd.R_mono (ok':=fun k_=>True) ho0 (fun _ hk_=>trivial)) (bz_ (by repeat (first|(with_reducible first|exact HB.out|apply ba_|apply pd_|apply b1_)|exact HB.out))) (fun k_ h_=>h_)) (bz_ (by repeat (first|(with_reducible first|exact HB.out|apply ba_|apply pd_|apply b1_)|exact HB.out))));have n2_:=A_ (Kd.N_lower (Kd.N_mono (ok':=fun k_=>(w.heap.size≤k_)∧some k_≠(v188:Value).ownBlock∧some k_≠(v180:Value).ownBlock) ho1 (fun k_ hk_=>⟨(Nat.le_trans (bz_ (by repeat (first|(with_reducible first|exact HB.out|apply ba_|apply pd_|apply b1_)|exact HB.out))) hk_.1),hk_.2,(Kd.fresh' (Kd.N_lt (by (with_reducible repeat (first|apply Kd.N_alloc|apply Kd.N_drewN|apply Kd.N_drew));exact HO_3.out)) k_ hk_.1)⟩)) (bz_ (by repeat (first|(with_reducible first|exact HB.out|apply ba_|apply pd_|apply b1_)|exact HB.out))));have n3_:=A_ (bp_ (by repeat (first|(with_reducible first|exact HB.out|apply ba_|apply pd_|apply b1_)|exact HB.out)) hb);clear HO_3;clear HB;have HO_3:=n0_;have HO189:=n1_;have HO192:=n2_;have HB:=n3_;clear n0_ n1_ n2_ n3_;(try clear hb);(try clear hb2);(try clear hk);(try clear hi);(try clear ho0);(try clear ho1);have p10:0≤(x4_1:Int):=od_ (by first|(with_reducible assumption)|assumption);have q10:(x4_1:Int)<((x3_1.length:Int):Int):=od_ (by first|(with_reducible assumption)|assumption);obtain ⟨go10,co10,eo10,gb10,gl10,cl10,HG10⟩:=Kd.N_form HO_3.out (by omega);(first|cases eo10|(injection eo10 with ea_ en_ ec_;(first|subst ea_|(injection ea_ with ea_;subst ea_));subst ec_;clear en_));have GB10:=A_ gb10;have GG10:=A_ HG10;clear gb10 gl10 HG10;obtain ⟨ce10,hcl10,hM10,hcc10,hfr10⟩:=Kd.N_elem HO_3.out z38 (x4_1:Int) p10 q10;obtain ⟨ua10_4,uc10_4,ua10_5,uc10_5,rfl,ul10_4,ge10_4,ul10_5,ge10_5⟩:=k38_openF hM10;have hx10_0:w11.cell? ⟨go10,(x4_1:Int).toNat * 6,none⟩=some (.int .i64 ((rd_T38 x3_1 x4_1).f0)):=hcc10 0 _ rfl;have hx10_1:w11.cell? ⟨go10,(x4_1:Int).toNat * 6+1,none⟩=some (.int .i64 ((rd_T38 x3_1 x4_1).f1)):=hcc10 1 _ rfl;have hx10_2:w11.cell? ⟨go10,(x4_1:Int).toNat * 6+2,none⟩=some (.string ((rd_T38 x3_1 x4_1).f2)):=hcc10 2 _ rfl;have hx10_3:w11.cell? ⟨go10,(x4_1:Int).toNat * 6+3,none⟩=some (.string ((rd_T38 x3_1 x4_1).f3)):=hcc10 3 _ rfl;have hx10_4:w11.cell? ⟨go10,(x4_1:Int).toNat * 6+4,none⟩=some (.slice ua10_4 ((rd_T38 x3_1 x4_1).f4).length uc10_4):=hcc10 4 _ rfl;have hx10_5:w11.cell? ⟨go10,(x4_1:Int).toNat * 6+5,none⟩=some (.slice ua10_5 ((rd_T38 x3_1 x4_1).f5).length uc10_5):=hcc10 5 _ rfl;have hf10_0:w11.frozen? ⟨go10,(x4_1:Int).toNat * 6,none⟩=false:=hfr10 0;have hf10_1:w11.frozen? ⟨go10,(x4_1:Int).toNat * 6+1,none⟩=false:=hfr10 1;have hf10_2:w11.frozen? ⟨go10,(x4_1:Int).toNat * 6+2,none⟩=false:=hfr10 2;have hf10_3:w11.frozen? ⟨go10,(x4_1:Int).toNat * 6+3,none⟩=false:=hfr10 3;have hf10_4:w11.frozen? ⟨go10,(x4_1:Int).toNat * 6+4,none⟩=false:=hfr10 4;have hf10_5:w11.frozen? ⟨go10,(x4_1:Int).toNat * 6+5,none⟩=false:=hfr10 5;clear hcl10 hcc10 hfr10 hM10;replace p10:=eq_true p10;replace q10:=eq_true q10;have n_:=A_ (Kd.N_mono (ok':=(fun k_=>(w.heap.size≤k_)∧some k_≠(v188:Value).ownBlock∧some k_≠(v191:Value).ownBlock)) HO_3.out (fun k_ hk=>⟨hk.1.1,⟨hk.1.2,hk.2⟩⟩));clear HO_3;have HO_3:=n_;clear n_;have HX12:=A_ (show Kd.N k38 38 w11 w.heap.size (fun k_=>(w.heap.size≤k_)) (.slice (some ⟨go10,0,none⟩) x3_1.length co10) x3_1 from (by (with_reducible repeat (first|apply Kd.N_alloc|apply Kd.N_drewN|apply Kd.N_drew));exact Kd.N_mono HO_3.out (fun _ hk=>hk.1)));obtain ⟨ce12,hcl12,hM12,hcc12,hfr12⟩:=Kd.N_elem HX12.out z38 (x4_1:Int) (od_ (by first|(with_reducible assumption)|assumption)) (by have h_:(x4_1:Int)<((x3_1.length:Int):Int):=od_ (by first|(with_reducible assumption)|assumption);first|exact h_|(have e_:=(Kd.N_reads' HO_3.out).1;omega)|simpa using h_);obtain ⟨ua12_4,uc12_4,ua12_5,uc12_5,rfl,ul12_4,ge12_4,ul12_5,ge12_5⟩:=k38_openF hM12;obtain ⟨Az_v188,cz_v188,rfl⟩:=Kd.R_slice HO189.out;obtain ⟨Az_v191,cz_v191,rfl⟩:=Kd.N_slice HO192.out;have HP12:=Kd.N_seg HX12.out (x4_1:Int) (od_ (by first|(with_reducible assumption)|assumption)) (by have h_:(x4_1:Int)<((x3_1.length:Int):Int):=od_ (by first|(with_reducible assumption)|assumption);first|exact h_|(have e_:=(Kd.N_reads' HO_3.out).1;omega)|simpa using h_) (seg:=[.int .i64 t183,.int .i64 t184,.string t185,.string t186,(.slice Az_v188 t187.length cz_v188),(.slice Az_v191 t190.length cz_v191)]) (j:=0) hcl12 hcc12 (show 6≤6 from by decide) (x':=(⟨t183,t184,t185,t186,t187,t190⟩:S38)) (k38_mkF _ _ (⟨t183,t184,t185,t186,t187,t190⟩:S38) (Kd.R_reads' (Kd.R_mono (ok':=(fun k_=>((fun k_=>(w.heap.size≤k_))) k_∧k_≠go10)) (Kd.R_apart' (HO189.out) (Kd.N_typed HO_3.out) (by decide)) (fun k_ hk=>⟨hk.1.1,fun e_=>(hk.2) (by rw [e_];rfl)⟩))).2.1 (Kd.R_F (Kd.R_mono (ok':=(fun k_=>((fun k_=>(w.heap.size≤k_))) k_∧k_≠go10)) (Kd.R_apart' (HO189.out) (Kd.N_typed HO_3.out) (by decide)) (fun k_ hk=>⟨hk.1.1,fun e_=>(hk.2) (by rw [e_];rfl)⟩))) (Kd.N_reads' (Kd.N_mono (ok':=(fun k_=>((fun k_=>(w.heap.size≤k_))) k_∧k_≠go10)) (HO192.out) (fun k_ hk=>⟨hk.1,fun e_=>(hk.2.2) (by rw [e_];rfl)⟩))).2.1 (Kd.N_F (Kd.N_mono (ok':=(fun k_=>((fun k_=>(w.heap.size≤k_))) k_∧k_≠go10)) (HO192.out) (fun k_ hk=>⟨hk.1,fun e_=>(hk.2.2) (by rw [e_];rfl)⟩)))) (fun _ hk=>hk);have hx12_0:=hcc12 0 _ rfl;(try simp only [show (k38).sz=6 from rfl,Nat.mul_one,Nat.add_zero] at hx12_0);have hf12_0:=hfr12 0;(try simp only [show (k38).sz=6 from rfl,Nat.mul_one,Nat.add_zero] at hf12_0);have hx12_1:=hcc12 1 _ rfl;(try simp only [show (k38).sz=6 from rfl,Nat.mul_one,Nat.add_zero] at hx12_1);have hf12_1:=hfr12 1;(try simp only [show (k38).sz=6 from rfl,Nat.mul_one,Nat.add_zero] at hf12_1);have hx12_2:=hcc12 2 _ rfl;(try simp only [show (k38).sz=6 from rfl,Nat.mul_one,Nat.add_zero] at hx12_2);have hf12_2:=hfr12 2;(try simp only [show (k38).sz=6 from rfl,Nat.mul_one,Nat.add_zero] at hf12_2);have hx12_3:=hcc12 3 _ rfl;(try simp only [show (k38).sz=6 from rfl,Nat.mul_one,Nat.add_zero] at hx12_3);have hf12_3:=hfr12 3;(try simp only [show (k38).sz=6 from rfl,Nat.mul_one,Nat.add_zero] at hf12_3);have hx12_4:=hcc12 4 _ rfl;(try simp only [show (k38).sz=6 from rfl,Nat.mul_one,Nat.add_zero] at hx12_4);have hf12_4:=hfr12 4;(try simp only [show (k38).sz=6 from rfl,Nat.mul_one,Nat.add_zero] at hf12_4);have hx12_5:=hcc12 5 _ rfl;(try simp only [show (k38).sz=6 from rfl,Nat.mul_one,Nat.add_zero] at hx12_5);have hf12_5:=hfr12 5;(try simp only [show (k38).sz=6 from rfl,Nat.mul_one,Nat.add_zero] at hf12_5);clear hcl12 hcc12 hfr12 hM12)|((with_reducible refine gate_store (t:=38) (p:=21) rfl ?_);refine store_event (t:=38) (p:=21) (v:=?vo_w13) (w1:=((((((w11.setCell ⟨go10,(x4_1:Int).toNat * 6,none⟩ (.int .i64 t183)).setCell ⟨go10,(x4_1:Int).toNat * 6+1,none⟩ (.int .i64 t184)).setCell ⟨go10,(x4_1:Int).toNat * 6+2,none⟩ (.string t185)).setCell ⟨go10,(x4_1:Int).toNat * 6+3,none⟩ (.string t186)).setCell ⟨go10,(x4_1:Int).toNat * 6+4,none⟩ (.slice Az_v188 t187.length cz_v188)).setCell ⟨go10,(x4_1:Int).toNat * 6+5,none⟩ (.slice Az_v191 t190.length cz_v191))) ?hg ?ho ?hn ?hr ?_;(case ho=>rfl);(case hg=>rfl);(case hn=>rfl);(case hr=>first|(go_simp;done)|(go_simp;rfl)|((first|(obtain ⟨_,_,rfl⟩:=Kd.R_slice HO181.out)|(obtain ⟨_,_,rfl⟩:=Kd.S_slice HO181.out)|skip);(first|(obtain ⟨_,_,rfl⟩:=Kd.R_slice HO189.out)|(obtain ⟨_,_,rfl⟩:=Kd.S_slice HO189.out)|skip);(first|(obtain ⟨_,_,rfl⟩:=Kd.R_slice HO192.out)|(obtain ⟨_,_,rfl⟩:=Kd.S_slice HO192.out)|skip);first|(go_simp;done)|(go_simp;rfl)));intro w13 hw;have hg:w11.grownBy w13 (some go10):=(by rw [hw];exact HP12.2);have hp_:Kd.N k38 38 w13 w.heap.size (fun k_=>(w.heap.size≤k_)) (.slice (some ⟨go10,0,none⟩) x3_1.length co10) y193:=(by rw [hw,Ny193.out];exact HP12.1);clear HP12;have n0_:=A_ (hp_);have n1_:=A_ ((by rw [hw];exact bs_ (bs_ (bs_ (bs_ (bs_ (bs_ (HB.out) GB10.out) GB10.out) GB10.out) GB10.out) GB10.out) GB10.out:Below w.heap.size w w13));clear HO_3;clear HB;clear HO189;clear HO192;have HO_3:=n0_;have HB:=n1_;clear n0_ n1_;clear hg hw hp_))
        go_roundg k1
        case measure=>have:=HK1.out;omega
        case rel=>exact ⟨(y193),(wrap64 (x4_1+1)),(by first|rfl|(simp;done)|(simp [*];done)),H',⟨by have:=HK1.out;omega⟩,⟨by (with_reducible repeat (first|apply Kd.N_alloc|apply Kd.N_drewN|apply Kd.N_drew));exact HO_3.out⟩,⟨by repeat (first|(with_reducible first|exact HB.out|apply ba_|apply pd_|apply b1_)|exact HB.out)⟩⟩
       ·rw [if_neg c9] at H
        exact absurd H (by simp)
      ·rw [if_neg c7] at H
       exact absurd H (by simp)
     ·rw [if_neg c6] at H
      have c6b0:decide (x4_1<(l0.length:Int))=false:=df_ c6
      clear c6
      obtain rfl:=oi_ H
      go_wp2
      go_ret
      exact ⟨_,by first|rfl|(simp [errW_none,errW_some] <;> rfl)|(simp [*,errW_none,errW_some] <;> rfl),by (with_reducible repeat (first|apply Kd.N_alloc|apply Kd.N_drewN|apply Kd.N_drew));exact HO_3.out,by repeat (first|(with_reducible first|exact HB.out|apply ba_|apply pd_|apply b1_)|exact HB.out)⟩
  ·rw [if_neg c3] at H
   exact absurd H (by simp)
 ·rw [if_neg c2] at H
  exact absurd H (by simp)
/-! ### laws_toNode: function 12 -/
set_option maxHeartbeats 8000000 in
set_option maxRecDepth 100000 in
theorem laws_toNode.calls (k:Nat):∀ (a0_0:Int) (a0_1:Int) (a0_2:ByteArray) (a0_3:ByteArray) (A0_4:Option Addr) (c0_4:Nat) (l0_4:List (S60)) (A0_5:Option Addr) (c0_5:Nat) (l0_5:List (S33)) (r1:Int) (r2:Int) (r3:ByteArray) (r4:ByteArray) (r5:List (S63)) (r6:List (S38)) (w:World) (hr0_4:Kd.C k60 w A0_4 l0_4.length l0_4) (hc0_4:l0_4.length≤c0_4) (hr0_5:Kd.C k33 w A0_5 l0_5.length l0_5) (hc0_5:l0_5.length≤c0_5) (h:laws_toNode.f k a0_0 a0_1 a0_2 a0_3 l0_4 l0_5=some (r1,r2,r3,r4,r5,r6)),
 Calls Tryz.prog 12 #[.agg #[.int .i64 a0_0,.int .i64 a0_1,.string a0_2,.string a0_3,.slice A0_4 l0_4.length c0_4,.slice A0_5 l0_5.length c0_5]] w fun e w'=>∃ v4_ v5_:Value,e=.returned (.agg #[.int .i64 r1,.int .i64 r2,.string r3,.string r4,v4_,v5_])∧Kd.R k63 63 w' w.heap.size (fun k_=>(w.heap.size≤k_)) v4_ r5∧Kd.N k38 38 w' w.heap.size (fun k_=>(w.heap.size≤k_)∧some k_≠(v4_:Value).ownBlock) v5_ r6∧Below w.heap.size w w':=by
 induction k using Nat.strongRecOn with
 | _ k ih =>
 have ihP:∀ j,j<k→∀ (A0:Option Addr) (c0:Nat) (l0:List (S33)) (r:List (S38)) (w:World) (hr0:Kd.C k33 w A0 l0.length l0) (hc0:l0.length≤c0) (h:laws_toNodeS.f j l0=some r),
  Calls Tryz.prog 6 #[.slice A0 l0.length c0] w fun e w'=>∃ v0_:Value,e=.returned (v0_)∧Kd.N k38 38 w' w.heap.size (fun k_=>(w.heap.size≤k_)) v0_ r∧Below w.heap.size w w':=fun j hj=>laws_toNodeS.step j (fun i hi=>ih i (Nat.lt_trans hi hj))
 intro a0_0 a0_1 a0_2 a0_3 A0_4 c0_4 l0_4 A0_5 c0_5 l0_5 r1 r2 r3 r4 r5 r6 w hr0_4 hc0_4 hr0_5 hc0_5 h
 cases k with
 | zero=>exact absurd h (by simp [laws_toNode.f])
 | succ k =>
 simp only [laws_toNode.f] at h
 have hu33:=Tryz.underlying33
 have hu38:=Tryz.underlying38
 have HR0_4:=A_ hr0_4
 have HC0_4:=A_ hc0_4
 clear hr0_4 hc0_4
 have HR0_5:=A_ hr0_5
 have HC0_5:=A_ hc0_5
 clear hr0_5 hc0_5
 have HB:=A_ (Below.refl w.heap.size w)
 have H:((laws_toAttrS.f k l0_4).bind fun t197=>((laws_toNodeS.f k l0_5).bind fun t200=>(some (a0_0,a0_1,a0_2,a0_3,t197,t200))))=some (r1,r2,r3,r4,r5,r6):=h
 clear h
 replace H:=ob_ H
 obtain ⟨t197,A20,H⟩:=H
 replace H:((laws_toNodeS.f k l0_5).bind fun t200=>(some (a0_0,a0_1,a0_2,a0_3,t197,t200)))=some (r1,r2,r3,r4,r5,r6):=H
 have A2:=A_ A20
 clear A20
 replace H:=ob_ H
 obtain ⟨t200,A30,H⟩:=H
 replace H:(some (a0_0,a0_1,a0_2,a0_3,t197,t200))=some (r1,r2,r3,r4,r5,r6):=H
 have A3:=A_ A30
 clear A30
 simp only [Option.some.injEq,Prod.mk.injEq] at H
 obtain ⟨rfl,rfl,rfl,rfl,rfl,rfl⟩:=H
 go_enter Tryz.func12,Tryz.ntmps12
 go_wp2_with (first|((with_reducible refine gate_dst (N:=1) rfl ?_);refine box_event ?hg (N:=1) ?hd (cs:=#[.int .i64 a0_0,.int .i64 a0_1,.string a0_2,.string a0_3,.slice A0_4 l0_4.length c0_4,.slice A0_5 l0_5.length c0_5]) (t:=33) ?hr ?_;(case hd=>rfl);(case hg=>rfl);(case hr=>first|(go_simp;done)|(go_simp;rfl)|(first|(go_simp;done)|(go_simp;rfl)));intro gb194 hg w4 hbox hb;have n0_:=A_ (bp_ (by repeat (first|(with_reducible first|exact HB.out|apply ba_|apply pd_|apply b1_)|exact HB.out)) hb);have n1_:=A_ (hbox);have n2_:=A_ ((by rw [hg];exact (bz_ (by repeat (first|(with_reducible first|exact HB.out|apply ba_|apply pd_|apply b1_)|exact HB.out))):w.heap.size≤gb194));have n3_:=A_ ((by rw [hg];exact (bz_ (by repeat (first|(with_reducible first|exact HB.out|apply ba_|apply pd_|apply b1_)|exact HB.out))):w.heap.size≤gb194));clear HB;have HB:=n0_;have BK194:=n1_;have GW194:=n2_;have GE194:=n3_;clear n0_ n1_ n2_ n3_;clear hb hbox hg)|((with_reducible refine gate_dst (N:=2) rfl ?_);refine box_event ?hg (N:=2) ?hd (cs:=#[.int .i64 0,.int .i64 0,.string (⟨#[]⟩:ByteArray),.string (⟨#[]⟩:ByteArray),.slice none 0 0,.slice none 0 0]) (t:=38) ?hr ?_;(case hd=>rfl);(case hg=>rfl);(case hr=>first|(go_simp;done)|(go_simp;rfl)|(first|(go_simp;done)|(go_simp;rfl)));intro gb195 hg w5 hbox hb;have n0_:=A_ (kb_ (g:=gb194) (o:=.cells #[.int .i64 a0_0,.int .i64 a0_1,.string a0_2,.string a0_3,.slice A0_4 l0_4.length c0_4,.slice A0_5 l0_5.length c0_5] 33 (0,0)) (by (with_reducible repeat (first|refine kn_ ?_ _|refine kd_ ?_|refine ka_ ?_ _));exact BK194.out) hb);have n1_:=A_ (bp_ (by repeat (first|(with_reducible first|exact HB.out|apply ba_|apply pd_|apply b1_|refine bs_ ?_ GE194.out)|exact HB.out)) hb);have n2_:=A_ (hbox);have n3_:=A_ ((by rw [hg];exact (bz_ (by repeat (first|(with_reducible first|exact HB.out|apply ba_|apply pd_|apply b1_|refine bs_ ?_ GE194.out)|exact HB.out))):w.heap.size≤gb195));have n4_:=A_ ((by rw [hg];exact (bz_ (by repeat (first|(with_reducible first|exact HB.out|apply ba_|apply pd_|apply b1_|refine bs_ ?_ GE194.out)|exact HB.out))):w.heap.size≤gb195));have n5_:=A_ ((by rw [hg];exact Nat.ne_of_lt (blk_lt (g:=gb194) (o:=.cells #[.int .i64 a0_0,.int .i64 a0_1,.string a0_2,.string a0_3,.slice A0_4 l0_4.length c0_4,.slice A0_5 l0_5.length c0_5] 33 (0,0)) (by (with_reducible repeat (first|refine kn_ ?_ _|refine kd_ ?_|refine ka_ ?_ _));exact BK194.out)):gb194≠gb195));have n6_:=A_ ((by rw [hg];exact Nat.ne_of_gt (blk_lt (g:=gb194) (o:=.cells #[.int .i64 a0_0,.int .i64 a0_1,.string a0_2,.string a0_3,.slice A0_4 l0_4.length c0_4,.slice A0_5 l0_5.length c0_5] 33 (0,0)) (by (with_reducible repeat (first|refine kn_ ?_ _|refine kd_ ?_|refine ka_ ?_ _));exact BK194.out)):gb195≠gb194));clear BK194;clear HB;have BK194:=n0_;have HB:=n1_;have BK195:=n2_;have GW195:=n3_;have GE195:=n4_;have NB194_195:=n5_;have NB195_194:=n6_;clear n0_ n1_ n2_ n3_ n4_ n5_ n6_;clear hb hbox hg)|((with_reducible refine gate_dst (N:=3) rfl ?_);refine box_event ?hg (N:=3) ?hd (cs:=#[.int .i64 0,.int .i64 0,.string (⟨#[]⟩:ByteArray),.string (⟨#[]⟩:ByteArray),.slice none 0 0,.slice none 0 0]) (t:=38) ?hr ?_;(case hd=>rfl);(case hg=>rfl);(case hr=>first|(go_simp;done)|(go_simp;rfl)|(first|(go_simp;done)|(go_simp;rfl)));intro gb196 hg w6 hbox hb;have n0_:=A_ (kb_ (g:=gb194) (o:=.cells #[.int .i64 a0_0,.int .i64 a0_1,.string a0_2,.string a0_3,.slice A0_4 l0_4.length c0_4,.slice A0_5 l0_5.length c0_5] 33 (0,0)) (by (with_reducible repeat (first|refine kn_ ?_ _|refine kd_ ?_|refine ka_ ?_ _));exact BK194.out) hb);have n1_:=A_ (kb_ (g:=gb195) (o:=.cells #[.int .i64 0,.int .i64 0,.string (⟨#[]⟩:ByteArray),.string (⟨#[]⟩:ByteArray),.slice none 0 0,.slice none 0 0] 38 (0,0)) (by (with_reducible repeat (first|refine kn_ ?_ _|refine kd_ ?_|refine ka_ ?_ _));exact BK195.out) hb);have n2_:=A_ (bp_ (by repeat (first|(with_reducible first|exact HB.out|apply ba_|apply pd_|apply b1_|refine bs_ ?_ GE194.out|refine bs_ ?_ GE195.out)|exact HB.out)) hb);have n3_:=A_ (hbox);have n4_:=A_ ((by rw [hg];exact (bz_ (by repeat (first|(with_reducible first|exact HB.out|apply ba_|apply pd_|apply b1_|refine bs_ ?_ GE194.out|refine bs_ ?_ GE195.out)|exact HB.out))):w.heap.size≤gb196));have n5_:=A_ ((by rw [hg];exact (bz_ (by repeat (first|(with_reducible first|exact HB.out|apply ba_|apply pd_|apply b1_|refine bs_ ?_ GE194.out|refine bs_ ?_ GE195.out)|exact HB.out))):w.heap.size≤gb196));have n6_:=A_ ((by rw [hg];exact Nat.ne_of_lt (blk_lt (g:=gb194) (o:=.cells #[.int .i64 a0_0,.int .i64 a0_1,.string a0_2,.string a0_3,.slice A0_4 l0_4.length c0_4,.slice A0_5 l0_5.length c0_5] 33 (0,0)) (by (with_reducible repeat (first|refine kn_ ?_ _|refine kd_ ?_|refine ka_ ?_ _));exact BK194.out)):gb194≠gb196));have n7_:=A_ ((by rw [hg];exact Nat.ne_of_gt (blk_lt (g:=gb194) (o:=.cells #[.int .i64 a0_0,.int .i64 a0_1,.string a0_2,.string a0_3,.slice A0_4 l0_4.length c0_4,.slice A0_5 l0_5.length c0_5] 33 (0,0)) (by (with_reducible repeat (first|refine kn_ ?_ _|refine kd_ ?_|refine ka_ ?_ _));exact BK194.out)):gb196≠gb194));have n8_:=A_ ((by rw [hg];exact Nat.ne_of_lt (blk_lt (g:=gb195) (o:=.cells #[.int .i64 0,.int .i64 0,.string (⟨#[]⟩:ByteArray),.string (⟨#[]⟩:ByteArray),.slice none 0 0,.slice none 0 0] 38 (0,0)) (by (with_reducible repeat (first|refine kn_ ?_ _|refine kd_ ?_|refine ka_ ?_ _));exact BK195.out)):gb195≠gb196));have n9_:=A_ ((by rw [hg];exact Nat.ne_of_gt (blk_lt (g:=gb195) (o:=.cells #[.int .i64 0,.int .i64 0,.string (⟨#[]⟩:ByteArray),.string (⟨#[]⟩:ByteArray),.slice none 0 0,.slice none 0 0] 38 (0,0)) (by (with_reducible repeat (first|refine kn_ ?_ _|refine kd_ ?_|refine ka_ ?_ _));exact BK195.out)):gb196≠gb195));clear BK194;clear BK195;clear HB;have BK194:=n0_;have BK195:=n1_;have HB:=n2_;have BK196:=n3_;have GW196:=n4_;have GE196:=n5_;have NB194_196:=n6_;have NB196_194:=n7_;have NB195_196:=n8_;have NB196_195:=n9_;clear n0_ n1_ n2_ n3_ n4_ n5_ n6_ n7_ n8_ n9_;clear hb hbox hg;have hnb7:=NB194_195.out;have hnc7:=NB195_194.out;have hnb8:=NB194_196.out;have hnc8:=NB196_194.out;have hcz9_0:w6.cell? ⟨gb194,0,none⟩=some (.int .i64 a0_0):=(bc_ BK194.out 0).trans rfl;have hcz9_1:w6.cell? ⟨gb194,1,none⟩=some (.int .i64 a0_1):=(bc_ BK194.out 1).trans rfl;have hcz9_2:w6.cell? ⟨gb194,2,none⟩=some (.string a0_2):=(bc_ BK194.out 2).trans rfl;have hcz9_3:w6.cell? ⟨gb194,3,none⟩=some (.string a0_3):=(bc_ BK194.out 3).trans rfl;have hcz9_4:w6.cell? ⟨gb194,4,none⟩=some (.slice A0_4 l0_4.length c0_4):=(bc_ BK194.out 4).trans rfl;have hcz9_5:w6.cell? ⟨gb194,5,none⟩=some (.slice A0_5 l0_5.length c0_5):=(bc_ BK194.out 5).trans rfl;have hfz9_0:=bf_ BK194.out 0;have hfz9_1:=bf_ BK194.out 1;have hfz9_2:=bf_ BK194.out 2;have hfz9_3:=bf_ BK194.out 3;have hfz9_4:=bf_ BK194.out 4;have hfz9_5:=bf_ BK194.out 5;have hnb10:=NB196_195.out;have hnc10:=NB195_196.out;have hcz11_0:w6.cell? ⟨gb196,0,none⟩=some (.int .i64 0):=(bc_ BK196.out 0).trans rfl;have hcz11_1:w6.cell? ⟨gb196,1,none⟩=some (.int .i64 0):=(bc_ BK196.out 1).trans rfl;have hcz11_2:w6.cell? ⟨gb196,2,none⟩=some (.string (⟨#[]⟩:ByteArray)):=(bc_ BK196.out 2).trans rfl;have hcz11_3:w6.cell? ⟨gb196,3,none⟩=some (.string (⟨#[]⟩:ByteArray)):=(bc_ BK196.out 3).trans rfl;have hcz11_4:w6.cell? ⟨gb196,4,none⟩=some (.slice none 0 0):=(bc_ BK196.out 4).trans rfl;have hcz11_5:w6.cell? ⟨gb196,5,none⟩=some (.slice none 0 0):=(bc_ BK196.out 5).trans rfl;have hfz11_0:=bf_ BK196.out 0;have hfz11_1:=bf_ BK196.out 1;have hfz11_2:=bf_ BK196.out 2;have hfz11_3:=bf_ BK196.out 3;have hfz11_4:=bf_ BK196.out 4;have hfz11_5:=bf_ BK196.out 5)|((with_reducible refine gate_callee (f:=22) rfl ?_);refine goesL_ (some 18) rfl rfl Tryz.func22 (by kernel_rfl) rfl #[.slice A0_4 l0_4.length c0_4] rfl (by (try simp only [List.map_toArray,List.map_cons,List.map_nil]);first|done|rfl|(simp only [ld_,lt_];rfl)) ?_;(with_reducible refine (laws_toAttrS.calls k _ _ l0_4 t197 _ ?side1 ?side2 A2.out).mono ?_);(case side1=>exact cb_ HR0_4.out (by repeat (first|(with_reducible first|exact HB.out|apply ba_|apply pd_|apply b1_|refine bs_ ?_ GE194.out|refine bs_ ?_ GE195.out|refine bs_ ?_ GE196.out)|exact HB.out)));(case side2=>exact HC0_4.out);rintro e w12 ⟨v198,rfl,ho0,hb⟩;refine ⟨_,rfl,?_⟩;have n0_:=A_ (Kd.R_lower (Kd.R_newM (M:=fun k_=>(w.heap.size≤k_)) ho0 (bz_ (by repeat (first|(with_reducible first|exact HB.out|apply ba_|apply pd_|apply b1_|refine bs_ ?_ GE194.out|refine bs_ ?_ GE195.out|refine bs_ ?_ GE196.out)|exact HB.out))) (fun k_ h_=>h_)) (bz_ (by repeat (first|(with_reducible first|exact HB.out|apply ba_|apply pd_|apply b1_|refine bs_ ?_ GE194.out|refine bs_ ?_ GE195.out|refine bs_ ?_ GE196.out)|exact HB.out))));have n1_:=A_ (kb_ (g:=gb194) (o:=.cells #[.int .i64 a0_0,.int .i64 a0_1,.string a0_2,.string a0_3,.slice A0_4 l0_4.length c0_4,.slice A0_5 l0_5.length c0_5] 33 (0,0)) (by (with_reducible repeat (first|refine kn_ ?_ _|refine kd_ ?_|refine ka_ ?_ _));refine blk_far ?_ NB194_196.out _;(with_reducible repeat (first|refine kn_ ?_ _|refine kd_ ?_|refine ka_ ?_ _));refine blk_far ?_ NB194_196.out _;(with_reducible repeat (first|refine kn_ ?_ _|refine kd_ ?_|refine ka_ ?_ _));refine blk_far ?_ NB194_196.out _;(with_reducible repeat (first|refine kn_ ?_ _|refine kd_ ?_|refine ka_ ?_ _));refine blk_far ?_ NB194_196.out _;(with_reducible repeat (first|refine kn_ ?_ _|refine kd_ ?_|refine ka_ ?_ _));exact BK194.out) hb);have n2_:=A_ (kb_ (g:=gb195) (o:=.cells #[.int .i64 0,.int .i64 0,.string (⟨#[]⟩:ByteArray),.string (⟨#[]⟩:ByteArray),.slice none 0 0,.slice none 0 0] 38 (0,0)) (by (with_reducible repeat (first|refine kn_ ?_ _|refine kd_ ?_|refine ka_ ?_ _));refine blk_far ?_ NB195_196.out _;(with_reducible repeat (first|refine kn_ ?_ _|refine kd_ ?_|refine ka_ ?_ _));refine blk_far ?_ NB195_196.out _;(with_reducible repeat (first|refine kn_ ?_ _|refine kd_ ?_|refine ka_ ?_ _));refine blk_far ?_ NB195_196.out _;(with_reducible repeat (first|refine kn_ ?_ _|refine kd_ ?_|refine ka_ ?_ _));refine blk_far ?_ NB195_196.out _;(with_reducible repeat (first|refine kn_ ?_ _|refine kd_ ?_|refine ka_ ?_ _));exact BK195.out) hb);have n3_:=A_ (kb_ (g:=gb196) (o:=.cells #[.int .i64 a0_0,.int .i64 a0_1,.string a0_2,.string a0_3,.slice none 0 0,.slice none 0 0] 38 (0,0)) (by (with_reducible repeat (first|refine kn_ ?_ _|refine kd_ ?_|refine ka_ ?_ _));refine blk_put (cs:=#[.int .i64 a0_0,.int .i64 a0_1,.string a0_2,.string (⟨#[]⟩:ByteArray),.slice none 0 0,.slice none 0 0]) ?_ 3 _ rfl;(with_reducible repeat (first|refine kn_ ?_ _|refine kd_ ?_|refine ka_ ?_ _));refine blk_put (cs:=#[.int .i64 a0_0,.int .i64 a0_1,.string (⟨#[]⟩:ByteArray),.string (⟨#[]⟩:ByteArray),.slice none 0 0,.slice none 0 0]) ?_ 2 _ rfl;(with_reducible repeat (first|refine kn_ ?_ _|refine kd_ ?_|refine ka_ ?_ _));refine blk_put (cs:=#[.int .i64 a0_0,.int .i64 0,.string (⟨#[]⟩:ByteArray),.string (⟨#[]⟩:ByteArray),.slice none 0 0,.slice none 0 0]) ?_ 1 _ rfl;(with_reducible repeat (first|refine kn_ ?_ _|refine kd_ ?_|refine ka_ ?_ _));refine blk_put (cs:=#[.int .i64 0,.int .i64 0,.string (⟨#[]⟩:ByteArray),.string (⟨#[]⟩:ByteArray),.slice none 0 0,.slice none 0 0]) ?_ 0 _ rfl;(with_reducible repeat (first|refine kn_ ?_ _|refine kd_ ?_|refine ka_ ?_ _));exact BK196.out) hb);have n4_:=A_ (bp_ (by repeat (first|(with_reducible first|exact HB.out|apply ba_|apply pd_|apply b1_|refine bs_ ?_ GE194.out|refine bs_ ?_ GE195.out|refine bs_ ?_ GE196.out)|exact HB.out)) hb);clear BK194;clear BK195;clear BK196;clear HB;have HO199:=n0_;have BK194:=n1_;have BK195:=n2_;have BK196:=n3_;have HB:=n4_;clear n0_ n1_ n2_ n3_ n4_;(try clear hb);(try clear hb2);(try clear hk);(try clear hi);(try clear ho0);obtain ⟨Ao13,co13,eo13⟩:=Kd.R_slice HO199.out;subst eo13;have hcz14_0:w12.cell? ⟨gb196,0,none⟩=some (.int .i64 a0_0):=(bc_ BK196.out 0).trans rfl;have hcz14_1:w12.cell? ⟨gb196,1,none⟩=some (.int .i64 a0_1):=(bc_ BK196.out 1).trans rfl;have hcz14_2:w12.cell? ⟨gb196,2,none⟩=some (.string a0_2):=(bc_ BK196.out 2).trans rfl;have hcz14_3:w12.cell? ⟨gb196,3,none⟩=some (.string a0_3):=(bc_ BK196.out 3).trans rfl;have hcz14_4:w12.cell? ⟨gb196,4,none⟩=some (.slice none 0 0):=(bc_ BK196.out 4).trans rfl;have hcz14_5:w12.cell? ⟨gb196,5,none⟩=some (.slice none 0 0):=(bc_ BK196.out 5).trans rfl;have hfz14_0:=bf_ BK196.out 0;have hfz14_1:=bf_ BK196.out 1;have hfz14_2:=bf_ BK196.out 2;have hfz14_3:=bf_ BK196.out 3;have hfz14_4:=bf_ BK196.out 4;have hfz14_5:=bf_ BK196.out 5;have hcz15_0:w12.cell? ⟨gb194,0,none⟩=some (.int .i64 a0_0):=(bc_ BK194.out 0).trans rfl;have hcz15_1:w12.cell? ⟨gb194,1,none⟩=some (.int .i64 a0_1):=(bc_ BK194.out 1).trans rfl;have hcz15_2:w12.cell? ⟨gb194,2,none⟩=some (.string a0_2):=(bc_ BK194.out 2).trans rfl;have hcz15_3:w12.cell? ⟨gb194,3,none⟩=some (.string a0_3):=(bc_ BK194.out 3).trans rfl;have hcz15_4:w12.cell? ⟨gb194,4,none⟩=some (.slice A0_4 l0_4.length c0_4):=(bc_ BK194.out 4).trans rfl;have hcz15_5:w12.cell? ⟨gb194,5,none⟩=some (.slice A0_5 l0_5.length c0_5):=(bc_ BK194.out 5).trans rfl;have hfz15_0:=bf_ BK194.out 0;have hfz15_1:=bf_ BK194.out 1;have hfz15_2:=bf_ BK194.out 2;have hfz15_3:=bf_ BK194.out 3;have hfz15_4:=bf_ BK194.out 4;have hfz15_5:=bf_ BK194.out 5)|((with_reducible refine gate_callee (f:=6) rfl ?_);refine goesL_ (some 22) rfl rfl Tryz.func6 (by kernel_rfl) rfl #[.slice A0_5 l0_5.length c0_5] rfl (by (try simp only [List.map_toArray,List.map_cons,List.map_nil]);first|done|rfl|(simp only [ld_,lt_];rfl)) ?_;(with_reducible refine (ihP k (by omega) _ _ l0_5 t200 _ ?side1 ?side2 A3.out).mono ?_);(case side1=>exact cb_ HR0_5.out (by repeat (first|(with_reducible first|exact HB.out|apply ba_|apply pd_|apply b1_|refine bs_ ?_ GE194.out|refine bs_ ?_ GE195.out|refine bs_ ?_ GE196.out)|exact HB.out)));(case side2=>exact HC0_5.out);rintro e w16 ⟨v201,rfl,ho0,hb⟩;refine ⟨_,rfl,?_⟩;have n0_:=A_ (Kd.R_below (by (with_reducible repeat (first|apply Kd.R_alloc|apply Kd.R_drewN|apply Kd.R_drew));exact (Kd.R_mono (Kd.R_far (p:=⟨gb196,4,none⟩) (Kd.R_types HO199.out BK196.out (by decide)) (fun _ hk=>hk.2) (.slice Ao13 t197.length co13)) (fun _ h_=>h_.1))) hb);have n1_:=A_ (Kd.N_lower (Kd.N_mono (ok':=fun k_=>(w.heap.size≤k_)∧some k_≠(.slice Ao13 t197.length co13:Value).ownBlock∧k_≠gb194∧k_≠gb195∧k_≠gb196) ho0 (fun k_ hk_=>⟨(Nat.le_trans (bz_ (by repeat (first|(with_reducible first|exact HB.out|apply ba_|apply pd_|apply b1_|refine bs_ ?_ GE194.out|refine bs_ ?_ GE195.out|refine bs_ ?_ GE196.out)|exact HB.out))) hk_),(Kd.fresh' (Kd.R_lt (by (with_reducible repeat (first|apply Kd.R_alloc|apply Kd.R_drewN|apply Kd.R_drew));exact (Kd.R_mono (Kd.R_far (p:=⟨gb196,4,none⟩) (Kd.R_types HO199.out BK196.out (by decide)) (fun _ hk=>hk.2) (.slice Ao13 t197.length co13)) (fun _ h_=>h_.1)))) k_ hk_),(Kd.freshB (g:=gb194) (o:=.cells #[.int .i64 a0_0,.int .i64 a0_1,.string a0_2,.string a0_3,.slice A0_4 l0_4.length c0_4,.slice A0_5 l0_5.length c0_5] 33 (0,0)) (by (with_reducible repeat (first|refine kn_ ?_ _|refine kd_ ?_|refine ka_ ?_ _));refine blk_far ?_ NB194_196.out _;(with_reducible repeat (first|refine kn_ ?_ _|refine kd_ ?_|refine ka_ ?_ _));exact BK194.out) k_ hk_),(Kd.freshB (g:=gb195) (o:=.cells #[.int .i64 0,.int .i64 0,.string (⟨#[]⟩:ByteArray),.string (⟨#[]⟩:ByteArray),.slice none 0 0,.slice none 0 0] 38 (0,0)) (by (with_reducible repeat (first|refine kn_ ?_ _|refine kd_ ?_|refine ka_ ?_ _));refine blk_far ?_ NB195_196.out _;(with_reducible repeat (first|refine kn_ ?_ _|refine kd_ ?_|refine ka_ ?_ _));exact BK195.out) k_ hk_),(Kd.freshB (g:=gb196) (o:=.cells #[.int .i64 a0_0,.int .i64 a0_1,.string a0_2,.string a0_3,.slice Ao13 t197.length co13,.slice none 0 0] 38 (0,0)) (by (with_reducible repeat (first|refine kn_ ?_ _|refine kd_ ?_|refine ka_ ?_ _));refine blk_put (cs:=#[.int .i64 a0_0,.int .i64 a0_1,.string a0_2,.string a0_3,.slice none 0 0,.slice none 0 0]) ?_ 4 _ rfl;(with_reducible repeat (first|refine kn_ ?_ _|refine kd_ ?_|refine ka_ ?_ _));exact BK196.out) k_ hk_)⟩)) (bz_ (by repeat (first|(with_reducible first|exact HB.out|apply ba_|apply pd_|apply b1_|refine bs_ ?_ GE194.out|refine bs_ ?_ GE195.out|refine bs_ ?_ GE196.out)|exact HB.out))));have n2_:=A_ (kb_ (g:=gb194) (o:=.cells #[.int .i64 a0_0,.int .i64 a0_1,.string a0_2,.string a0_3,.slice A0_4 l0_4.length c0_4,.slice A0_5 l0_5.length c0_5] 33 (0,0)) (by (with_reducible repeat (first|refine kn_ ?_ _|refine kd_ ?_|refine ka_ ?_ _));refine blk_far ?_ NB194_196.out _;(with_reducible repeat (first|refine kn_ ?_ _|refine kd_ ?_|refine ka_ ?_ _));exact BK194.out) hb);have n3_:=A_ (kb_ (g:=gb195) (o:=.cells #[.int .i64 0,.int .i64 0,.string (⟨#[]⟩:ByteArray),.string (⟨#[]⟩:ByteArray),.slice none 0 0,.slice none 0 0] 38 (0,0)) (by (with_reducible repeat (first|refine kn_ ?_ _|refine kd_ ?_|refine ka_ ?_ _));refine blk_far ?_ NB195_196.out _;(with_reducible repeat (first|refine kn_ ?_ _|refine kd_ ?_|refine ka_ ?_ _));exact BK195.out) hb);have n4_:=A_ (kb_ (g:=gb196) (o:=.cells #[.int .i64 a0_0,.int .i64 a0_1,.string a0_2,.string a0_3,.slice Ao13 t197.length co13,.slice none 0 0] 38 (0,0)) (by (with_reducible repeat (first|refine kn_ ?_ _|refine kd_ ?_|refine ka_ ?_ _));refine blk_put (cs:=#[.int .i64 a0_0,.int .i64 a0_1,.string a0_2,.string a0_3,.slice none 0 0,.slice none 0 0]) ?_ 4 _ rfl;(with_reducible repeat (first|refine kn_ ?_ _|refine kd_ ?_|refine ka_ ?_ _));exact BK196.out) hb);have n5_:=A_ (bp_ (by repeat (first|(with_reducible first|exact HB.out|apply ba_|apply pd_|apply b1_|refine bs_ ?_ GE194.out|refine bs_ ?_ GE195.out|refine bs_ ?_ GE196.out)|exact HB.out)) hb);clear HO199;clear BK194;clear BK195;clear BK196;clear HB;have HO199:=n0_;have HO202:=n1_;have BK194:=n2_;have BK195:=n3_;have BK196:=n4_;have HB:=n5_;clear n0_ n1_ n2_ n3_ n4_ n5_;(try clear hb);(try clear hb2);(try clear hk);(try clear hi);(try clear ho0);obtain ⟨Ao17,co17,eo17⟩:=Kd.N_slice HO202.out;subst eo17;have hcz18_0:w16.cell? ⟨gb196,0,none⟩=some (.int .i64 a0_0):=(bc_ BK196.out 0).trans rfl;have hcz18_1:w16.cell? ⟨gb196,1,none⟩=some (.int .i64 a0_1):=(bc_ BK196.out 1).trans rfl;have hcz18_2:w16.cell? ⟨gb196,2,none⟩=some (.string a0_2):=(bc_ BK196.out 2).trans rfl;have hcz18_3:w16.cell? ⟨gb196,3,none⟩=some (.string a0_3):=(bc_ BK196.out 3).trans rfl;have hcz18_4:w16.cell? ⟨gb196,4,none⟩=some (.slice Ao13 t197.length co13):=(bc_ BK196.out 4).trans rfl;have hcz18_5:w16.cell? ⟨gb196,5,none⟩=some (.slice none 0 0):=(bc_ BK196.out 5).trans rfl;have hfz18_0:=bf_ BK196.out 0;have hfz18_1:=bf_ BK196.out 1;have hfz18_2:=bf_ BK196.out 2;have hfz18_3:=bf_ BK196.out 3;have hfz18_4:=bf_ BK196.out 4;have hfz18_5:=bf_ BK196.out 5;have hcz19_0:w16.cell? ⟨gb195,0,none⟩=some (.int .i64 0):=(bc_ BK195.out 0).trans rfl;have hcz19_1:w16.cell? ⟨gb195,1,none⟩=some (.int .i64 0):=(bc_ BK195.out 1).trans rfl;have hcz19_2:w16.cell? ⟨gb195,2,none⟩=some (.string (⟨#[]⟩:ByteArray)):=(bc_ BK195.out 2).trans rfl;have hcz19_3:w16.cell? ⟨gb195,3,none⟩=some (.string (⟨#[]⟩:ByteArray)):=(bc_ BK195.out 3).trans rfl;have hcz19_4:w16.cell? ⟨gb195,4,none⟩=some (.slice none 0 0):=(bc_ BK195.out 4).trans rfl;have hcz19_5:w16.cell? ⟨gb195,5,none⟩=some (.slice none 0 0):=(bc_ BK195.out 5).trans rfl;have hfz19_0:=bf_ BK195.out 0;have hfz19_1:=bf_ BK195.out 1;have hfz19_2:=bf_ BK195.out 2;have hfz19_3:=bf_ BK195.out 3;have hfz19_4:=bf_ BK195.out 4;have hfz19_5:=bf_ BK195.out 5))
 refine bodyPost_ret (results_cell_row rfl _ _ gb195 38 #[.int .i64 a0_0,.int .i64 a0_1,.string a0_2,.string a0_3,.slice Ao13 t197.length co13,.slice Ao17 t200.length co17] (0,0) _ rfl (by (with_reducible repeat (first|refine kn_ ?_ _|refine kd_ ?_|refine ka_ ?_ _));refine blk_put (cs:=#[.int .i64 a0_0,.int .i64 a0_1,.string a0_2,.string a0_3,.slice Ao13 t197.length co13,.slice none 0 0]) ?_ 5 _ rfl;(with_reducible repeat (first|refine kn_ ?_ _|refine kd_ ?_|refine ka_ ?_ _));refine blk_put (cs:=#[.int .i64 a0_0,.int .i64 a0_1,.string a0_2,.string a0_3,.slice none 0 0,.slice none 0 0]) ?_ 4 _ rfl;(with_reducible repeat (first|refine kn_ ?_ _|refine kd_ ?_|refine ka_ ?_ _));refine blk_put (cs:=#[.int .i64 a0_0,.int .i64 a0_1,.string a0_2,.string (⟨#[]⟩:ByteArray),.slice none 0 0,.slice none 0 0]) ?_ 3 _ rfl;(with_reducible repeat (first|refine kn_ ?_ _|refine kd_ ?_|refine ka_ ?_ _));refine blk_put (cs:=#[.int .i64 a0_0,.int .i64 a0_1,.string (⟨#[]⟩:ByteArray),.string (⟨#[]⟩:ByteArray),.slice none 0 0,.slice none 0 0]) ?_ 2 _ rfl;(with_reducible repeat (first|refine kn_ ?_ _|refine kd_ ?_|refine ka_ ?_ _));refine blk_put (cs:=#[.int .i64 a0_0,.int .i64 0,.string (⟨#[]⟩:ByteArray),.string (⟨#[]⟩:ByteArray),.slice none 0 0,.slice none 0 0]) ?_ 1 _ rfl;(with_reducible repeat (first|refine kn_ ?_ _|refine kd_ ?_|refine ka_ ?_ _));refine blk_put (cs:=#[.int .i64 0,.int .i64 0,.string (⟨#[]⟩:ByteArray),.string (⟨#[]⟩:ByteArray),.slice none 0 0,.slice none 0 0]) ?_ 0 _ rfl;(with_reducible repeat (first|refine kn_ ?_ _|refine kd_ ?_|refine ka_ ?_ _));refine blk_far ?_ NB195_196.out _;(with_reducible repeat (first|refine kn_ ?_ _|refine kd_ ?_|refine ka_ ?_ _));exact BK195.out) Tryz.underlying38 rfl (by kernel_rfl)) rfl ?_
 exact ⟨_,_,by first|rfl|(simp [errW_none,errW_some] <;> rfl)|(simp [*,errW_none,errW_some] <;> rfl),by (with_reducible repeat (first|apply Kd.R_alloc|apply Kd.R_drewN|apply Kd.R_drew));exact Kd.R_mono (Kd.R_far (p:=⟨gb195,5,none⟩) (Kd.R_far (p:=⟨gb195,4,none⟩) (Kd.R_far (p:=⟨gb195,3,none⟩) (Kd.R_far (p:=⟨gb195,2,none⟩) (Kd.R_far (p:=⟨gb195,1,none⟩) (Kd.R_far (p:=⟨gb195,0,none⟩) (Kd.R_far (p:=⟨gb196,5,none⟩) (Kd.R_types (Kd.R_types HO199.out BK196.out (by decide)) BK195.out (by decide)) (fun _ hk=>hk.1.2) (.slice Ao17 t200.length co17)) (fun _ hk=>hk.2) (.int .i64 a0_0)) (fun _ hk=>hk.2) (.int .i64 a0_1)) (fun _ hk=>hk.2) (.string a0_2)) (fun _ hk=>hk.2) (.string a0_3)) (fun _ hk=>hk.2) (.slice Ao13 t197.length co13)) (fun _ hk=>hk.2) (.slice Ao17 t200.length co17)) (fun _ hk=>hk.1.1.1),by (with_reducible repeat (first|apply Kd.N_alloc|apply Kd.N_drewN|apply Kd.N_drew));exact Kd.N_mono (Kd.N_far (p:=⟨gb195,5,none⟩) (Kd.N_far (p:=⟨gb195,4,none⟩) (Kd.N_far (p:=⟨gb195,3,none⟩) (Kd.N_far (p:=⟨gb195,2,none⟩) (Kd.N_far (p:=⟨gb195,1,none⟩) (Kd.N_far (p:=⟨gb195,0,none⟩) (Kd.N_far (p:=⟨gb196,5,none⟩) (Kd.N_mono (Kd.N_mono HO202.out (fun k_ hk=>(⟨hk,hk.2.2.2.2⟩:_∧k_≠gb196))) (fun k_ hk=>(⟨hk,hk.1.2.2.2.1⟩:_∧k_≠gb195))) (fun _ hk=>hk.1.2) (.slice Ao17 t200.length co17)) (fun _ hk=>hk.2) (.int .i64 a0_0)) (fun _ hk=>hk.2) (.int .i64 a0_1)) (fun _ hk=>hk.2) (.string a0_2)) (fun _ hk=>hk.2) (.string a0_3)) (fun _ hk=>hk.2) (.slice Ao13 t197.length co13)) (fun _ hk=>hk.2) (.slice Ao17 t200.length co17)) (fun _ hk=>⟨hk.1.1.1,hk.1.1.2.1⟩),by repeat (first|(with_reducible first|exact HB.out|apply ba_|apply pd_|apply b1_|refine bs_ ?_ GE194.out|refine bs_ ?_ GE195.out|refine bs_ ?_ GE196.out)|exact HB.out)⟩
theorem laws_toNodeS.calls (k:Nat):∀ (A0:Option Addr) (c0:Nat) (l0:List (S33)) (r:List (S38)) (w:World) (hr0:Kd.C k33 w A0 l0.length l0) (hc0:l0.length≤c0) (h:laws_toNodeS.f k l0=some r),
 Calls Tryz.prog 6 #[.slice A0 l0.length c0] w fun e w'=>∃ v0_:Value,e=.returned (v0_)∧Kd.N k38 38 w' w.heap.size (fun k_=>(w.heap.size≤k_)) v0_ r∧Below w.heap.size w w':=laws_toNodeS.step k (fun j _=>laws_toNode.calls j)
/-! ### slices_Index_string_string: function 64 -/
def slices_Index_string_string.l0:Nat→List ByteArray→ByteArray→Int→Int→Option (Int)
 | 0,_,_,_,_=>none
 | k+1,x0,x1,x7,x8=>if x8<x7 then (if 0≤x8 then (if x8<(x0.length:Int) then (if x1.toList=(rdOf ByteArray.empty x0 x8).toList then (some x8) else (slices_Index_string_string.l0 k x0 x1 x7 (wrap64 (x8+1)))) else (none)) else (none)) else (some (-1))
def slices_Index_string_string.f (k:Nat) (l0:List ByteArray) (a1:ByteArray):Option (Int):=slices_Index_string_string.l0 k l0 a1 (l0.length:Int) 0
theorem slices_Index_string_string.mono_l:∀ k,(∀ y0 y1 y2 y3,LeO (slices_Index_string_string.l0 k y0 y1 y2 y3) (slices_Index_string_string.l0 (k+1) y0 y1 y2 y3))
 | 0=>fun _ _ _ _ r h=>by simp [slices_Index_string_string.l0] at h
 | k+1=>by
  have ih0:=slices_Index_string_string.mono_l k
  ·intro y0 y1 y2 y3
   unfold slices_Index_string_string.l0
   repeat' first
   | (with_reducible exact ih0 _ _ _ _)
   | (with_reducible exact LeO.refl _)
   | (with_reducible exact LeO.none _)
   | (with_reducible refine LeO.ite ?_ ?_)
   | (with_reducible refine LeO.bind ?_ (fun _=>?_))
   | exact ih0 _ _ _ _
   | exact LeO.none _
   | refine LeO.ite ?_ ?_
   | refine LeO.bind ?_ (fun _=>?_)
theorem slices_Index_string_string.mono:∀ a0 a1 k,LeO (slices_Index_string_string.f k a0 a1) (slices_Index_string_string.f (k+1) a0 a1):=by
 intro a0 a1 k
 have ih0:=slices_Index_string_string.mono_l k
 unfold slices_Index_string_string.f
 repeat' first
  | (with_reducible exact ih0 _ _ _ _)
  | (with_reducible exact LeO.refl _)
  | (with_reducible exact LeO.none _)
  | (with_reducible refine LeO.ite ?_ ?_)
  | (with_reducible refine LeO.bind ?_ (fun _=>?_))
  | exact ih0 _ _ _ _
  | exact LeO.none _
  | refine LeO.ite ?_ ?_
  | refine LeO.bind ?_ (fun _=>?_)
set_option maxHeartbeats 8000000 in
set_option maxRecDepth 100000 in
theorem slices_Index_string_string.calls (k:Nat) (A0:Option Addr) (c0:Nat) (l0:List ByteArray) (a1:ByteArray) (r:Int) (w:World) (hr0:Kd.C Kd.string w A0 l0.length l0) (hc0:l0.length≤c0) (h:slices_Index_string_string.f k l0 a1=some r) :
 Calls Tryz.prog 64 #[.slice A0 l0.length c0,.string a1] w fun e w'=>e=.returned (.int .i64 r)∧Drawn0 w w':=by
 have HR0:=A_ hr0
 have HC0:=A_ hc0
 clear hr0 hc0
 have H:(slices_Index_string_string.l0 k l0 a1 (l0.length:Int) 0)=some r:=h
 clear h
 have H':=A_ H
 clear H
 go_enter Tryz.func64,Tryz.ntmps64
 go_wp2
 go_loopg [8] k (fun kq v8 w'=>∃ (x8_1:Int),v8=.int .i64 x8_1∧Aside0 (slices_Index_string_string.l0 kq l0 a1 (l0.length:Int) x8_1=some r)∧Aside0 (kq≤k)∧Drawn0 w w')
 case atStart=>exact ⟨(0),(by first|rfl|(simp;done)|(simp [*];done)),H',⟨Nat.le_refl _⟩,by repeat (first|exact dr_ _|apply dp_)⟩
 case round =>
  clear H'
  try clear p2
  obtain ⟨x8_1,rfl,HA,HK1,⟨m1,rfl⟩⟩:=hrel
  cases gk with
  | zero=>exact absurd HA.out (by simp [slices_Index_string_string.l0])
  | succ k1 =>
   have H:=HA.out
   clear HA
   simp only [slices_Index_string_string.l0] at H
   by_cases c3:x8_1<(l0.length:Int)
   ·rw [if_pos c3] at H
    have c3b0:decide (x8_1<(l0.length:Int))=true:=dt_ c3
    clear c3
    by_cases c4:0≤x8_1
    ·rw [if_pos c4] at H
     have c4b0:decide (0≤x8_1)=true:=dt_ c4
     clear c4
     by_cases c5:x8_1<(l0.length:Int)
     ·rw [if_pos c5] at H
      have c5b0:decide (x8_1<(l0.length:Int))=true:=dt_ c5
      clear c5
      by_cases c6:a1.toList=(rdOf ByteArray.empty l0 x8_1).toList
      ·rw [if_pos c6] at H
       have c6b0:(a1.toList == (rdOf ByteArray.empty l0 x8_1).toList)=true:=beq_iff_eq.mpr c6
       have c6b1:(a1.toList != (rdOf ByteArray.empty l0 x8_1).toList)=false:=bne_eq_false_iff_eq.mpr c6
       clear c6
       obtain rfl:=oi_ H
       have p203:0≤(x8_1:Int):=od_ (by first|(with_reducible assumption)|assumption)
       have q203:x8_1<(l0.length:Int):=od_ (by first|(with_reducible assumption)|assumption)
       obtain ⟨ad203,e203,hx203_0⟩:=Kd.at_string HR0.out x8_1 p203 q203
       cases e203
       replace p203:=eq_true p203
       replace q203:=eq_true q203
       go_wp2
       go_ret
       exact ⟨by first|rfl|(simp;done)|(simp [*];done),by repeat (first|exact dr_ _|apply dp_)⟩
      ·rw [if_neg c6] at H
       have c6b0:(a1.toList == (rdOf ByteArray.empty l0 x8_1).toList)=false:=beq_eq_false_iff_ne.mpr c6
       have c6b1:(a1.toList != (rdOf ByteArray.empty l0 x8_1).toList)=true:=bne_iff_ne.mpr c6
       have H':=A_ H
       clear H
       have p203:0≤(x8_1:Int):=od_ (by first|(with_reducible assumption)|assumption)
       have q203:x8_1<(l0.length:Int):=od_ (by first|(with_reducible assumption)|assumption)
       obtain ⟨ad203,e203,hx203_0⟩:=Kd.at_string HR0.out x8_1 p203 q203
       cases e203
       replace p203:=eq_true p203
       replace q203:=eq_true q203
       go_wp2
       go_roundg k1
       case measure=>have:=HK1.out;omega
       case rel=>exact ⟨(wrap64 (x8_1+1)),(by first|rfl|(simp;done)|(simp [*];done)),H',⟨by have:=HK1.out;omega⟩,by repeat (first|exact dr_ _|apply dp_)⟩
     ·rw [if_neg c5] at H
      exact absurd H (by simp)
    ·rw [if_neg c4] at H
     exact absurd H (by simp)
   ·rw [if_neg c3] at H
    have c3b0:decide (x8_1<(l0.length:Int))=false:=df_ c3
    clear c3
    obtain rfl:=oi_ H
    go_wp2
    go_ret
    exact ⟨by first|rfl|(simp;done)|(simp [*];done),by repeat (first|exact dr_ _|apply dp_)⟩
/-! ### slices_Contains_string_string: function 51 -/
def slices_Contains_string_string.f (k:Nat) (l0:List ByteArray) (a1:ByteArray):Option (Bool):=(slices_Index_string_string.f k l0 a1).bind fun t204=>(some (decide (t204≥0)))
theorem slices_Contains_string_string.mono:∀ a0 a1 k,LeO (slices_Contains_string_string.f k a0 a1) (slices_Contains_string_string.f (k+1) a0 a1):=by
 intro a0 a1 k
 unfold slices_Contains_string_string.f
 repeat' first
  | (with_reducible exact slices_Index_string_string.mono _ _ _)
  | (with_reducible exact LeO.refl _)
  | (with_reducible exact LeO.none _)
  | (with_reducible refine LeO.ite ?_ ?_)
  | (with_reducible refine LeO.bind ?_ (fun _=>?_))
  | exact slices_Index_string_string.mono _ _ _
  | exact LeO.none _
  | refine LeO.ite ?_ ?_
  | refine LeO.bind ?_ (fun _=>?_)
set_option maxHeartbeats 8000000 in
set_option maxRecDepth 100000 in
theorem slices_Contains_string_string.calls (k:Nat) (A0:Option Addr) (c0:Nat) (l0:List ByteArray) (a1:ByteArray) (r:Bool) (w:World) (hr0:Kd.C Kd.string w A0 l0.length l0) (hc0:l0.length≤c0) (h:slices_Contains_string_string.f k l0 a1=some r) :
 Calls Tryz.prog 51 #[.slice A0 l0.length c0,.string a1] w fun e w'=>e=.returned (.bool r)∧Drawn0 w w':=by
 have HR0:=A_ hr0
 have HC0:=A_ hc0
 clear hr0 hc0
 have H:((slices_Index_string_string.f k l0 a1).bind fun t204=>(some (decide (t204≥0))))=some r:=h
 clear h
 replace H:=ob_ H
 obtain ⟨t204,A30,H⟩:=H
 replace H:(some (decide (t204≥0)))=some r:=H
 have A3:=A_ A30
 clear A30
 obtain rfl:=oi_ H
 go_enter Tryz.func51,Tryz.ntmps51
 go_wp2_with (first|((with_reducible refine gate_callee (f:=64) rfl ?_);refine goesL_ (some 7) rfl rfl Tryz.func64 (by kernel_rfl) rfl #[.slice A0 l0.length c0,.string a1] rfl (by (try simp only [List.map_toArray,List.map_cons,List.map_nil]);first|done|rfl|(simp only [ld_,lt_];rfl)) ?_;(with_reducible refine (slices_Index_string_string.calls k _ _ l0 a1 t204 _ ?side1 ?side2 A3.out).mono ?_);(case side1=>repeat (first|exact HR0.out|(with_reducible refine ca_ ?_ _)|(with_reducible refine cn_ ?_ _)|(with_reducible refine cd_ ?_)));(case side2=>exact HC0.out);rintro e w' ⟨rfl,⟨nd,rfl⟩⟩;refine ⟨_,rfl,?_⟩))
 go_ret
 exact ⟨by first|rfl|(simp;done)|(simp [*];done),by repeat (first|exact dr_ _|apply dp_)⟩
theorem ev_slices_Index (xs:List ByteArray) (t:ByteArray) (hn:xs.length≤9223372036854775807):Ev (fun k=>slices_Index_string_string.f k xs t) (Kit.indexOf t xs 0):=by
 have key:∀ i,i≤xs.length→Ev (fun k=>slices_Index_string_string.l0 k xs t xs.length i) (Kit.indexOf t (xs.drop i) i):=by
  refine Kit.down ?_ ?_
  ·refine Ev.step (fun k=>rfl) ?_
   refine Kit.ev_neg (by omega) ?_
   rw [List.drop_length]
   exact Ev.now _
  ·intro i hi ih
   refine Ev.step (fun k=>rfl) ?_
   refine Kit.ev_pos (by omega) (Kit.ev_pos (by omega) (Kit.ev_pos (by omega) ?_))
   rw [Kit.drop_getD ByteArray.empty xs i hi,Kit.indexOf,Kit.rdOf_nat,Kit.wrap_nat hi hn]
   refine Kit.ev_if (fun h=>?_) (fun h=>?_)
   ·rw [if_pos h];exact Ev.now _
   ·rw [if_neg h];exact ih
 exact key 0 (by omega)
theorem ev_slices_Contains (xs:List ByteArray) (t:ByteArray) (hn:xs.length≤9223372036854775807):Ev (fun k=>slices_Contains_string_string.f k xs t) (Kit.hasT xs t):=by
 unfold slices_Contains_string_string.f
 refine Ev.bind (ev_slices_Index xs t hn) ?_
 rw [←Kit.indexOf_has xs t 0]
 exact Ev.now _
theorem slices_Contains_string_string.pure (A:Option Addr) (c:Nat) (xs:List ByteArray) (t:ByteArray) (W:World) (h:Kd.C Kd.string W A xs.length xs) (hc:xs.length≤c):Calls Tryz.prog 51 #[.slice A xs.length c,.string t] W fun e w'=>e=.returned (.bool (Kit.hasT xs t))∧Drawn0 W w':=by
 obtain ⟨K,hK⟩:=ev_slices_Contains xs t h.2.1
 exact slices_Contains_string_string.calls K A c xs t _ W h hc (hK K (Nat.le_refl _))
end Go.Proofs.YtlpncjeahdfolaaGreatDoor.PFnExactSerialize
