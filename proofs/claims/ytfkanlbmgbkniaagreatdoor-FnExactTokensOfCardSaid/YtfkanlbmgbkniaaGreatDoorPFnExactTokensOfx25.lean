/- The machine side of a law, printed by a program. No conditions. -/
import Derived.Test.YtfkanlbmgbkniaaGreatDoorPFnExactTokensOfx0
import Derived.Test.YtfkanlbmgbkniaaGreatDoorPFnExactTokensOfx24
namespace Go.Proofs.YtfkanlbmgbkniaaGreatDoor.PFnExactTokensOf
open Go.RowKit Go.Proofs.YtfkanlbmgbkniaaGreatDoorW.PrintWords Go.Proofs.YtfkanlbmgbkniaaGreatDoorW.PrintLast Go.Proofs.YtfkanlbmgbkniaaGreatDoorW.PrintMore
attribute [local go_sem] max2_int min2_int max_two min_two max_three min_three max_four min_four
set_option linter.unusedVariables false
set_option linter.unusedSimpArgs false
def laws_markAttrS.l0:Nat→List (S52)→Int→Int→Option (Int × (List (S52)))
 | 0,_,_,_=>none
 | k+1,x0,x1,x5=>if x5<(x0.length:Int) then ((laws_markText.f k x1).bind fun t480=>(if 0≤x5 then ((some (x0.set (x5:Int).toNat (⟨t480,(rd_T52 x0 x5).f1⟩:S52):List (S52))).bind fun y481=>((laws_markText.f k (wrap64 (x1+1))).bind fun t482=>(laws_markAttrS.l0 k (y481.set (x5:Int).toNat (⟨(rd_T52 y481 x5).f0,t482⟩:S52)) (wrap64 ((wrap64 (x1+1))+1)) (wrap64 (x5+1))))) else (none))) else (some (x1,x0))
def laws_markAttrS.f (k:Nat) (l0:List (S52)) (a1:Int):Option (Int × (List (S52))):=laws_markAttrS.l0 k l0 a1 0
theorem laws_markAttrS.mono_l:∀ k,(∀ y0 y1 y2,LeO (laws_markAttrS.l0 k y0 y1 y2) (laws_markAttrS.l0 (k+1) y0 y1 y2))
 | 0=>fun _ _ _ r h=>by simp [laws_markAttrS.l0] at h
 | k+1=>by
  have ih0:=laws_markAttrS.mono_l k
  ·intro y0 y1 y2
   unfold laws_markAttrS.l0
   repeat' first|(with_reducible first|exact ih0 ..|exact laws_markText.mono ..|exact LeO.refl _|exact LeO.none _|refine LeO.ite ?_ ?_|refine LeO.bind ?_ (fun _=>?_))|exact ih0 ..|exact LeO.none _|refine LeO.ite ?_ ?_|refine LeO.bind ?_ (fun _=>?_)
theorem laws_markAttrS.mono:∀ a0 a1 k,LeO (laws_markAttrS.f k a0 a1) (laws_markAttrS.f (k+1) a0 a1):=by
 intro a0 a1 k
 have ih0:=laws_markAttrS.mono_l k
 unfold laws_markAttrS.f
 repeat' first|(with_reducible first|exact ih0 ..|exact laws_markText.mono ..|exact LeO.refl _|exact LeO.none _|refine LeO.ite ?_ ?_|refine LeO.bind ?_ (fun _=>?_))|exact ih0 ..|exact LeO.none _|refine LeO.ite ?_ ?_|refine LeO.bind ?_ (fun _=>?_)
set_option maxHeartbeats 8000000 in
set_option maxRecDepth 100000 in
theorem laws_markAttrS.calls (k:Nat) (P0_:Nat→Prop) (u9000_:Value) (l0:List (S52)) (a1:Int) (r1:Int) (r2:List (S52)) (w0 w:World) (hB:Below w0.heap.size w0 w) (ho0:Kd.R k52 52 w w0.heap.size P0_ u9000_ l0) (h:laws_markAttrS.f k l0 a1=some (r1,r2)) :
 Calls Tryz.prog 23 #[u9000_,.int .i64 a1] w fun e w'=>e=.returned (.int .i64 r1)∧Kd.R k52 52 w' w0.heap.size (fun k_=>(P0_ k_∨w.heap.size≤k_)) u9000_ r2∧Below w0.heap.size w0 w'∧Kept w w' (fun k_=>P0_ k_):=by
 have HO0:=A_ (show Kd.R k52 52 w w0.heap.size (fun k_=>(P0_ k_∨w.heap.size≤k_)) u9000_ l0 from Kd.R_mono ho0 (fun k_ hk=>(.inl hk)))
 have HK:=A_ (Kept.refl w (fun k_=>P0_ k_))
 have HW0:=A_ hB.size
 have HB:=A_ hB
 clear hB
 have H:(laws_markAttrS.l0 k l0 a1 0)=some (r1,r2):=h
 clear h
 have H':=A_ H
 clear H
 go_enter Tryz.func23,Tryz.ntmps23
 go_wp2
 go_loopg [1,5] k (fun kq v1 v5 w'=>∃ (x0_1:List (S52)) (x1_1:Int) (x5_1:Int),v1=.int .i64 x1_1∧v5=.int .i64 x5_1∧Aside0 (laws_markAttrS.l0 kq x0_1 x1_1 x5_1=some (r1,r2))∧Aside0 (kq≤k)∧Aside0 (Kd.R k52 52 w' w0.heap.size (fun k_=>(P0_ k_∨w.heap.size≤k_)) u9000_ x0_1)∧Aside0 (Kept w w' (fun k_=>P0_ k_))∧Aside0 (Below w0.heap.size w0 w'))
 case atStart=>exact ⟨(l0),(a1),(0),rs_,rs_,H',⟨Nat.le_refl _⟩,⟨by (with_reducible repeat first|apply ra_|apply rn_|apply rd_);exact HO0.out⟩,⟨by repeat (first|(with_reducible first|exact HK.out|apply Kept.alloc|apply Kept.drewN|apply Kept.drew)|exact HK.out)⟩,⟨bq0_ HB.out⟩⟩
 case round =>
  clear H'
  try clear c2
  try clear p2
  obtain ⟨x0_1,x1_1,x5_1,rfl,rfl,HA,HK1,HO_0,HK,HB⟩:=hrel
  cases gk with
  | zero=>exact absurd HA.out (by simp [laws_markAttrS.l0])
  | succ k1 =>
   have H:=HA.out
   clear HA
   simp only [laws_markAttrS.l0] at H
   by_cases c3:x5_1<(x0_1.length:Int)
   ·rw [if_pos c3] at H
    have c3b0:decide (x5_1<(x0_1.length:Int))=true:=dt_ c3
    clear c3
    replace H:=ob_ H
    obtain ⟨t480,A40,H⟩:=H
    replace H:(if 0≤x5_1 then ((some (x0_1.set (x5_1:Int).toNat (⟨t480,(rd_T52 x0_1 x5_1).f1⟩:S52):List (S52))).bind fun y481=>((laws_markText.f k1 (wrap64 (x1_1+1))).bind fun t482=>(laws_markAttrS.l0 k1 (y481.set (x5_1:Int).toNat (⟨(rd_T52 y481 x5_1).f0,t482⟩:S52)) (wrap64 ((wrap64 (x1_1+1))+1)) (wrap64 (x5_1+1))))) else (none))=some (r1,r2):=H
    have A4:=A_ A40
    clear A40
    by_cases c5:0≤x5_1
    ·rw [if_pos c5] at H
     have c5b0:decide (0≤x5_1)=true:=dt_ c5
     clear c5
     obtain ⟨y481,hy481⟩:∃ y_:List (S52),y_=(x0_1.set (x5_1:Int).toNat (⟨t480,(rd_T52 x0_1 x5_1).f1⟩:S52)):=⟨_,rfl⟩
     replace H:((laws_markText.f k1 (wrap64 (x1_1+1))).bind fun t482=>(laws_markAttrS.l0 k1 (y481.set (x5_1:Int).toNat (⟨(rd_T52 y481 x5_1).f0,t482⟩:S52)) (wrap64 ((wrap64 (x1_1+1))+1)) (wrap64 (x5_1+1))))=some (r1,r2):=by first|(rw [hy481];with_reducible exact H)|(have H2_:=(Option.bind_some _ _).symm.trans H;rw [hy481];with_reducible exact H2_)|(have H2_:=(Option.bind_some _ _).symm.trans H;with_reducible exact H2_)|with_reducible exact H|(rw [hy481];exact H)|exact H
     have Ny481:=A_ hy481
     clear hy481
     replace H:=ob_ H
     obtain ⟨t482,A70,H⟩:=H
     replace H:(laws_markAttrS.l0 k1 (y481.set (x5_1:Int).toNat (⟨(rd_T52 y481 x5_1).f0,t482⟩:S52)) (wrap64 ((wrap64 (x1_1+1))+1)) (wrap64 (x5_1+1)))=some (r1,r2):=H
     have A7:=A_ A70
     clear A70
     obtain ⟨y483,hy483⟩:∃ y_:List (S52),y_=(y481.set (x5_1:Int).toNat (⟨(rd_T52 y481 x5_1).f0,t482⟩:S52)):=⟨_,rfl⟩
     replace H:(laws_markAttrS.l0 k1 y483 (wrap64 ((wrap64 (x1_1+1))+1)) (wrap64 (x5_1+1)))=some (r1,r2):=by first|(rw [hy483];with_reducible exact H)|(have H2_:=(Option.bind_some _ _).symm.trans H;rw [hy483];with_reducible exact H2_)|(have H2_:=(Option.bind_some _ _).symm.trans H;with_reducible exact H2_)|with_reducible exact H|(rw [hy483];exact H)|exact H
     have Ny483:=A_ hy483
     clear hy483
     have H':=A_ H
     clear H
     obtain ⟨Ao9,co9,eo9⟩:=Kd.R_slice HO_0.out
     subst eo9
     go_wp2_with (first|((with_reducible refine gate_callee (f:=27) rfl ?_);refine gl_ (some 15) rfl rfl Tryz.func27 (by kernel_rfl) rfl #[.int .i64 x1_1] rfl  ?_;(with_reducible refine (laws_markText.calls k1 x1_1 t480 _ A4.out).mono ?_);rintro e w10 ⟨rfl,hb⟩;refine ⟨_,rfl,?_⟩;have n0_:=A_ (Kd.R_below (rq_ HO_0.out) hb);have n1_:=A_ (Kept.below (S:=(fun k_=>P0_ k_)) (by repeat (first|(with_reducible first|exact HK.out|apply Kept.alloc|apply Kept.drewN|apply Kept.drew)|exact HK.out)) hb);have n2_:=A_ (bp_ (bq0_ HB.out) hb);clear HO_0;clear HK;clear HB;have HO_0:=n0_;have HK:=n1_;have HB:=n2_;clear n0_ n1_ n2_;(try clear hb);(try clear hb2);(try clear hk);(try clear hi);have p6:0≤(x5_1:Int):=oa_;have q6:(x5_1:Int)<((x0_1.length:Int):Int):=oa_;obtain ⟨go6,co6,eo6,gb6,gl6,cl6,HG6⟩:=Kd.R_form HO_0.out (by omega);(first|cases eo6|(injection eo6 with ea_ en_ ec_;(first|subst ea_|(injection ea_ with ea_;subst ea_));subst ec_;clear en_));have GB6:=A_ gb6;have GG6:=A_ HG6;clear gb6 gl6 HG6;have HMgo6:=A_ (show (P0_ go6∨w.heap.size≤go6) from (HO_0.out.1 _ rfl));obtain ⟨ce6,hcl6,hM6,hcc6,hfr6⟩:=Kd.R_elem HO_0.out z52 (x5_1:Int) p6 q6;obtain rfl:=k52_openM hM6;have hx6_0:w10.cell? ⟨go6,(x5_1:Int).toNat * 2,none⟩=some (.string ((rd_T52 x0_1 x5_1).f0)):=hcc6 0 _ rfl;have hx6_1:w10.cell? ⟨go6,(x5_1:Int).toNat * 2+1,none⟩=some (.string ((rd_T52 x0_1 x5_1).f1)):=hcc6 1 _ rfl;have hf6_0:w10.frozen? ⟨go6,(x5_1:Int).toNat * 2,none⟩=false:=hfr6 0;have hf6_1:w10.frozen? ⟨go6,(x5_1:Int).toNat * 2+1,none⟩=false:=hfr6 1;clear hcl6 hcc6 hfr6 hM6;replace p6:=eq_true p6;replace q6:=eq_true q6;have HX11:=A_ (show Kd.R k52 52 w10 w0.heap.size (fun k_=>(P0_ k_∨w.heap.size≤k_)) (.slice (some ⟨go6,0,none⟩) x0_1.length co9) x0_1 from (rq_ HO_0.out));obtain ⟨ce11,hcl11,hM11,hcc11,hfr11⟩:=Kd.R_elem HX11.out z52 (x5_1:Int) (oa_) (by have h_:(x5_1:Int)<((x0_1.length:Int):Int):=oa_;first|exact h_|(have e_:=(Kd.R_reads' HO_0.out).1;omega)|simpa using h_);obtain rfl:=k52_openM hM11;have HP11:=Kd.R_seg HX11.out (x5_1:Int) (oa_) (by have h_:(x5_1:Int)<((x0_1.length:Int):Int):=oa_;first|exact h_|(have e_:=(Kd.R_reads' HO_0.out).1;omega)|simpa using h_) (seg:=[.string t480]) (j:=0) hcl11 hcc11 (show 1≤2 from by decide) (x':=(⟨t480,(rd_T52 x0_1 x5_1).f1⟩:S52)) (k52_mkM _ _ _ (⟨t480,(rd_T52 x0_1 x5_1).f1⟩:S52) ) (fun _ hk=>hk);have hx11_0:=hcc11 0 _ rfl;(try simp only [show (k52).sz=2 from rfl,Nat.mul_one,Nat.add_zero] at hx11_0);have hf11_0:=hfr11 0;(try simp only [show (k52).sz=2 from rfl,Nat.mul_one,Nat.add_zero] at hf11_0);clear hcl11 hcc11 hfr11 hM11)|((with_reducible refine gate_store (t:=9) (p:=17) rfl ?_);refine store_event (t:=9) (p:=17) (v:=?vo_w12) (w1:=(w10.setCell ⟨go6,(x5_1:Int).toNat * 2,none⟩ (.string t480))) ?hg ?ho ?hn ?hr ?_;(case ho=>rfl);(case hg=>rfl);(case hn=>rfl);(case hr=>first|(go_simp;done)|(go_simp;rfl));intro w12 hw;have hg:w10.grownBy w12 (some go6):=(by rw [hw];exact HP11.2);have hp_:Kd.R k52 52 w12 w0.heap.size (fun k_=>(P0_ k_∨w.heap.size≤k_)) (.slice (some ⟨go6,0,none⟩) x0_1.length co9) y481:=(by rw [hw,Ny481.out];exact HP11.1);clear HP11;have n0_:=A_ (hp_);have n1_:=A_ ((by rw [hw];exact bs_ (HB.out) GB6.out:Below w0.heap.size w0 w12));have n2_:=A_ (Kept.of_grown (S:=(fun k_=>P0_ k_)) hg (by repeat (first|(with_reducible first|exact HK.out|apply Kept.alloc|apply Kept.drewN|apply Kept.drew)|exact HK.out)) (fun k_ e_=>(HO_0.out.1 k_ e_)));clear HO_0;clear HB;clear HK;have HO_0:=n0_;have HB:=n1_;have HK:=n2_;clear n0_ n1_ n2_;clear hg hw hp_)|((with_reducible refine gate_callee (f:=27) rfl ?_);refine gl_ (some 23) rfl rfl Tryz.func27 (by kernel_rfl) rfl #[.int .i64 (wrap64 (x1_1+1))] rfl  ?_;(with_reducible refine (laws_markText.calls k1 (wrap64 (x1_1+1)) t482 _ A7.out).mono ?_);rintro e w13 ⟨rfl,hb⟩;refine ⟨_,rfl,?_⟩;have n0_:=A_ (Kd.R_below (rq_ HO_0.out) hb);have n1_:=A_ (Kept.below (S:=(fun k_=>P0_ k_)) (by repeat (first|(with_reducible first|exact HK.out|apply Kept.alloc|apply Kept.drewN|apply Kept.drew)|exact HK.out)) hb);have n2_:=A_ (bp_ (bq0_ HB.out) hb);clear HO_0;clear HK;clear HB;have HO_0:=n0_;have HK:=n1_;have HB:=n2_;clear n0_ n1_ n2_;(try clear hb);(try clear hb2);(try clear hk);(try clear hi);have p8:0≤(x5_1:Int):=oa_;have q8:(x5_1:Int)<((x0_1.length:Int):Int):=oa_;obtain ⟨ce8,hcl8,hM8,hcc8,hfr8⟩:=Kd.R_elem HO_0.out z52 (x5_1:Int) p8 q8;obtain rfl:=k52_openM hM8;have hx8_0:w13.cell? ⟨go6,(x5_1:Int).toNat * 2,none⟩=some (.string ((rd_T52 y481 x5_1).f0)):=hcc8 0 _ rfl;have hx8_1:w13.cell? ⟨go6,(x5_1:Int).toNat * 2+1,none⟩=some (.string ((rd_T52 y481 x5_1).f1)):=hcc8 1 _ rfl;have hf8_0:w13.frozen? ⟨go6,(x5_1:Int).toNat * 2,none⟩=false:=hfr8 0;have hf8_1:w13.frozen? ⟨go6,(x5_1:Int).toNat * 2+1,none⟩=false:=hfr8 1;clear hcl8 hcc8 hfr8 hM8;replace p8:=eq_true p8;replace q8:=eq_true q8;have HX14:=A_ (show Kd.R k52 52 w13 w0.heap.size (fun k_=>(P0_ k_∨w.heap.size≤k_)) (.slice (some ⟨go6,0,none⟩) x0_1.length co9) y481 from (rq_ HO_0.out));obtain ⟨ce14,hcl14,hM14,hcc14,hfr14⟩:=Kd.R_elem HX14.out z52 (x5_1:Int) (oa_) (by have h_:(x5_1:Int)<((x0_1.length:Int):Int):=oa_;first|exact h_|(have e_:=(Kd.R_reads' HO_0.out).1;omega)|simpa using h_);obtain rfl:=k52_openM hM14;have HP14:=Kd.R_seg HX14.out (x5_1:Int) (oa_) (by have h_:(x5_1:Int)<((x0_1.length:Int):Int):=oa_;first|exact h_|(have e_:=(Kd.R_reads' HO_0.out).1;omega)|simpa using h_) (seg:=[.string t482]) (j:=1) hcl14 hcc14 (show 2≤2 from by decide) (x':=(⟨(rd_T52 y481 x5_1).f0,t482⟩:S52)) (k52_mkM _ _ _ (⟨(rd_T52 y481 x5_1).f0,t482⟩:S52) ) (fun _ hk=>hk);have hx14_1:=hcc14 1 _ rfl;(try simp only [show (k52).sz=2 from rfl,Nat.mul_one,Nat.add_zero] at hx14_1);have hf14_1:=hfr14 1;(try simp only [show (k52).sz=2 from rfl,Nat.mul_one,Nat.add_zero] at hf14_1);clear hcl14 hcc14 hfr14 hM14)|((with_reducible refine gate_store (t:=9) (p:=25) rfl ?_);refine store_event (t:=9) (p:=25) (v:=?vo_w15) (w1:=(w13.setCell ⟨go6,(x5_1:Int).toNat * 2+1,none⟩ (.string t482))) ?hg ?ho ?hn ?hr ?_;(case ho=>rfl);(case hg=>rfl);(case hn=>rfl);(case hr=>first|(go_simp;done)|(go_simp;rfl));intro w15 hw;have hg:w13.grownBy w15 (some go6):=(by rw [hw];exact HP14.2);have hp_:Kd.R k52 52 w15 w0.heap.size (fun k_=>(P0_ k_∨w.heap.size≤k_)) (.slice (some ⟨go6,0,none⟩) x0_1.length co9) y483:=(by rw [hw,Ny483.out];exact HP14.1);clear HP14;have n0_:=A_ (hp_);have n1_:=A_ ((by rw [hw];exact bs_ (HB.out) GB6.out:Below w0.heap.size w0 w15));have n2_:=A_ (Kept.of_grown (S:=(fun k_=>P0_ k_)) hg (by repeat (first|(with_reducible first|exact HK.out|apply Kept.alloc|apply Kept.drewN|apply Kept.drew)|exact HK.out)) (fun k_ e_=>(HO_0.out.1 k_ e_)));clear HO_0;clear HB;clear HK;have HO_0:=n0_;have HB:=n1_;have HK:=n2_;clear n0_ n1_ n2_;clear hg hw hp_))
     go_roundg k1
     case measure=>have:=HK1.out;omega
     case rel=>exact ⟨(y483),(wrap64 ((wrap64 (x1_1+1))+1)),(wrap64 (x5_1+1)),rs_,rs_,H',⟨by have:=HK1.out;omega⟩,⟨by (with_reducible repeat first|apply ra_|apply rn_|apply rd_);exact HO_0.out⟩,⟨by repeat (first|(with_reducible first|exact HK.out|apply Kept.alloc|apply Kept.drewN|apply Kept.drew)|exact HK.out)⟩,⟨bq0_ HB.out⟩⟩
    ·rw [if_neg c5] at H
     exact absurd H (by simp)
   ·rw [if_neg c3] at H
    have c3b0:decide (x5_1<(x0_1.length:Int))=false:=df_ c3
    clear c3
    simp only [Option.some.injEq,Prod.mk.injEq] at H
    obtain ⟨rfl,rfl⟩:=H
    obtain ⟨Ao16,co16,eo16⟩:=Kd.R_slice HO_0.out
    subst eo16
    go_wp2
    go_ret
    exact ⟨by first|rfl|(simp [errW_none,errW_some] <;> rfl)|(simp [*,errW_none,errW_some] <;> rfl),by (with_reducible repeat first|apply ra_|apply rn_|apply rd_);exact HO_0.out,bq0_ HB.out,by repeat (first|(with_reducible first|exact HK.out|apply Kept.alloc|apply Kept.drewN|apply Kept.drew)|exact HK.out)⟩
theorem rd_setK (xs:List S24) (i:Int) (a:S24) (h0:0≤i) (h1:i<xs.length):rd_T24 (xs.set i.toNat a) i=a:=by
 unfold rd_T24
 rw [List.getD_eq_getElem?_getD,List.getElem?_set_self (by omega)]
 rfl
/-- Element i of a row of one's own: its cells; one of them written; its row lent. -/
theorem tokCells {base g n cap:Nat} {ok:Nat→Prop} {W:World} {xs xs0:List S24} (h:Kd.S k24 24 W base ok (.slice (some ⟨g,0,none⟩) n cap) xs) (i:Int) (h0:0≤i) (h1:i<n) (hxs:∀ x',xs.set i.toNat x'=xs0.set i.toNat x') (x:S24) (hx:rd_T24 xs i=x) :
 ∃ (A5:Option Addr) (c5:Nat),(W.cell? ⟨g,i.toNat * 7,none⟩=some (.int .i64 x.f0)∧W.cell? ⟨g,i.toNat * 7+1,none⟩=some (.int .i64 x.f1)∧W.cell? ⟨g,i.toNat * 7+2,none⟩=some (.int .i64 x.f2)∧W.cell? ⟨g,i.toNat * 7+3,none⟩=some (.string x.f3)∧W.cell? ⟨g,i.toNat * 7+4,none⟩=some (.string x.f4)∧W.cell? ⟨g,i.toNat * 7+5,none⟩=some (.slice A5 x.f5.length c5)∧W.cell? ⟨g,i.toNat * 7+6,none⟩=some (.bool x.f6))∧(W.frozen? ⟨g,i.toNat * 7,none⟩=false∧W.frozen? ⟨g,i.toNat * 7+1,none⟩=false∧W.frozen? ⟨g,i.toNat * 7+2,none⟩=false∧W.frozen? ⟨g,i.toNat * 7+3,none⟩=false∧W.frozen? ⟨g,i.toNat * 7+4,none⟩=false∧W.frozen? ⟨g,i.toNat * 7+5,none⟩=false∧W.frozen? ⟨g,i.toNat * 7+6,none⟩=false) ∧
  ((∀ m:Int,Kd.S k24 24 (W.setCell ⟨g,i.toNat * 7,none⟩ (.int .i64 m)) base ok (.slice (some ⟨g,0,none⟩) n cap) (xs0.set i.toNat ⟨m,x.f1,x.f2,x.f3,x.f4,x.f5,x.f6⟩)∧W.grownBy (W.setCell ⟨g,i.toNat * 7,none⟩ (.int .i64 m)) (some g))∧(∀ m:Int,Kd.S k24 24 (W.setCell ⟨g,i.toNat * 7+1,none⟩ (.int .i64 m)) base ok (.slice (some ⟨g,0,none⟩) n cap) (xs0.set i.toNat ⟨x.f0,m,x.f2,x.f3,x.f4,x.f5,x.f6⟩)∧W.grownBy (W.setCell ⟨g,i.toNat * 7+1,none⟩ (.int .i64 m)) (some g))∧(∀ m:Int,Kd.S k24 24 (W.setCell ⟨g,i.toNat * 7+2,none⟩ (.int .i64 m)) base ok (.slice (some ⟨g,0,none⟩) n cap) (xs0.set i.toNat ⟨x.f0,x.f1,m,x.f3,x.f4,x.f5,x.f6⟩)∧W.grownBy (W.setCell ⟨g,i.toNat * 7+2,none⟩ (.int .i64 m)) (some g))∧(∀ m:ByteArray,Kd.S k24 24 (W.setCell ⟨g,i.toNat * 7+3,none⟩ (.string m)) base ok (.slice (some ⟨g,0,none⟩) n cap) (xs0.set i.toNat ⟨x.f0,x.f1,x.f2,m,x.f4,x.f5,x.f6⟩)∧W.grownBy (W.setCell ⟨g,i.toNat * 7+3,none⟩ (.string m)) (some g))∧(∀ m:ByteArray,Kd.S k24 24 (W.setCell ⟨g,i.toNat * 7+4,none⟩ (.string m)) base ok (.slice (some ⟨g,0,none⟩) n cap) (xs0.set i.toNat ⟨x.f0,x.f1,x.f2,x.f3,m,x.f5,x.f6⟩)∧W.grownBy (W.setCell ⟨g,i.toNat * 7+4,none⟩ (.string m)) (some g))∧(∀ m:Bool,Kd.S k24 24 (W.setCell ⟨g,i.toNat * 7+6,none⟩ (.bool m)) base ok (.slice (some ⟨g,0,none⟩) n cap) (xs0.set i.toNat ⟨x.f0,x.f1,x.f2,x.f3,x.f4,x.f5,m⟩)∧W.grownBy (W.setCell ⟨g,i.toNat * 7+6,none⟩ (.bool m)) (some g))) ∧
  (∃ p:Nat→Prop,Kd.R k52 52 W base p (.slice A5 x.f5.length c5) x.f5∧(∀ k,p k→ok k∧k≠g)∧∀ (W1:World) (ys:List S52),Kept W W1 p→Kd.R k52 52 W1 base p (.slice A5 x.f5.length c5) ys→Kd.S k24 24 W1 base ok (.slice (some ⟨g,0,none⟩) n cap) (xs0.set i.toNat ⟨x.f0,x.f1,x.f2,x.f3,x.f4,ys,x.f6⟩)):=by
 obtain ⟨oki,c,hcl,hM,hcc,hfr,hoki,hH⟩:=Kd.S_elem h z24 i h0 h1
 have hx':xs.getD i.toNat z24=x:=hx
 rw [hx'] at hM
 obtain ⟨v5,rfl,g5⟩:=k24_openM hM
 obtain ⟨A5,c5,rfl⟩:=Kd.R_slice g5
 refine ⟨A5,c5,⟨hcc 0 _ rfl,hcc 1 _ rfl,hcc 2 _ rfl,hcc 3 _ rfl,hcc 4 _ rfl,hcc 5 _ rfl,hcc 6 _ rfl⟩,⟨hfr 0,hfr 1,hfr 2,hfr 3,hfr 4,hfr 5,hfr 6⟩,⟨?_,?_,?_,?_,?_,?_⟩,⟨_,g5,fun k hk=>hoki k hk,fun W1 ys hk hr=>?_⟩⟩
 ·exact fun m=>by
   rw [←hxs]
   exact Kd.S_seg (okg:=fun _=>False) (okp:=oki) (Kd.H_mono hH (fun k hk=>⟨hk,fun h=>h⟩)) h0 h1 (seg:=[.int .i64 m]) (j:=0) (show 0+1≤7 by decide) (x':=(⟨m,x.f1,x.f2,x.f3,x.f4,x.f5,x.f6⟩:S24)) (k24_mkM _ _ _ (⟨m,x.f1,x.f2,x.f3,x.f4,x.f5,x.f6⟩:S24) g5) (fun k hk=>.inl hk) (fun k hk=>hk.elim)
 ·exact fun m=>by
   rw [←hxs]
   exact Kd.S_seg (okg:=fun _=>False) (okp:=oki) (Kd.H_mono hH (fun k hk=>⟨hk,fun h=>h⟩)) h0 h1 (seg:=[.int .i64 m]) (j:=1) (show 1+1≤7 by decide) (x':=(⟨x.f0,m,x.f2,x.f3,x.f4,x.f5,x.f6⟩:S24)) (k24_mkM _ _ _ (⟨x.f0,m,x.f2,x.f3,x.f4,x.f5,x.f6⟩:S24) g5) (fun k hk=>.inl hk) (fun k hk=>hk.elim)
 ·exact fun m=>by
   rw [←hxs]
   exact Kd.S_seg (okg:=fun _=>False) (okp:=oki) (Kd.H_mono hH (fun k hk=>⟨hk,fun h=>h⟩)) h0 h1 (seg:=[.int .i64 m]) (j:=2) (show 2+1≤7 by decide) (x':=(⟨x.f0,x.f1,m,x.f3,x.f4,x.f5,x.f6⟩:S24)) (k24_mkM _ _ _ (⟨x.f0,x.f1,m,x.f3,x.f4,x.f5,x.f6⟩:S24) g5) (fun k hk=>.inl hk) (fun k hk=>hk.elim)
 ·exact fun m=>by
   rw [←hxs]
   exact Kd.S_seg (okg:=fun _=>False) (okp:=oki) (Kd.H_mono hH (fun k hk=>⟨hk,fun h=>h⟩)) h0 h1 (seg:=[.string m]) (j:=3) (show 3+1≤7 by decide) (x':=(⟨x.f0,x.f1,x.f2,m,x.f4,x.f5,x.f6⟩:S24)) (k24_mkM _ _ _ (⟨x.f0,x.f1,x.f2,m,x.f4,x.f5,x.f6⟩:S24) g5) (fun k hk=>.inl hk) (fun k hk=>hk.elim)
 ·exact fun m=>by
   rw [←hxs]
   exact Kd.S_seg (okg:=fun _=>False) (okp:=oki) (Kd.H_mono hH (fun k hk=>⟨hk,fun h=>h⟩)) h0 h1 (seg:=[.string m]) (j:=4) (show 4+1≤7 by decide) (x':=(⟨x.f0,x.f1,x.f2,x.f3,m,x.f5,x.f6⟩:S24)) (k24_mkM _ _ _ (⟨x.f0,x.f1,x.f2,x.f3,m,x.f5,x.f6⟩:S24) g5) (fun k hk=>.inl hk) (fun k hk=>hk.elim)
 ·exact fun m=>by
   rw [←hxs]
   exact Kd.S_seg (okg:=fun _=>False) (okp:=oki) (Kd.H_mono hH (fun k hk=>⟨hk,fun h=>h⟩)) h0 h1 (seg:=[.bool m]) (j:=6) (show 6+1≤7 by decide) (x':=(⟨x.f0,x.f1,x.f2,x.f3,x.f4,x.f5,m⟩:S24)) (k24_mkM _ _ _ (⟨x.f0,x.f1,x.f2,x.f3,x.f4,x.f5,m⟩:S24) g5) (fun k hk=>.inl hk) (fun k hk=>hk.elim)
 ·rw [←hxs]
  refine Kd.H_back (Kd.H_step hH (fun k _ hn hlt=>hk.2 k hlt (fun h2=>hn h2))) (x':=(⟨x.f0,x.f1,x.f2,x.f3,x.f4,ys,x.f6⟩:S24)) (okp:=oki) (k24_mkM _ _ _ (⟨x.f0,x.f1,x.f2,x.f3,x.f4,ys,x.f6⟩:S24) hr) (fun k hk=>hk)
def laws_markTokenS.l0:Nat→List S24→Int→Int→Option (Int × List S24)
 | 0,_,_,_=>none
 | k+1,x0,x1,x5=>if x5<(x0.length:Int) then (if 0≤x5 then (laws_markText.f k (wrap64 (wrap64 (wrap64 (x1+1)+1)+1))).bind fun t=>(laws_markText.f k (wrap64 (wrap64 (wrap64 (wrap64 (x1+1)+1)+1)+1))).bind fun t'=>(laws_markAttrS.f k (rd_T24 x0 x5).f5 (wrap64 (wrap64 (wrap64 (wrap64 (wrap64 (x1+1)+1)+1)+1)+1))).bind fun p=>laws_markTokenS.l0 k (x0.set x5.toNat ⟨x1,wrap64 (x1+1),wrap64 (wrap64 (x1+1)+1),t,t',p.2,(Int.tmod p.1 3 == 0)⟩) (wrap64 (p.1+1)) (wrap64 (x5+1)) else none) else some (x1,x0)
def laws_markTokenS.f (k:Nat) (l0:List S24) (a1:Int):Option (Int × List S24):=laws_markTokenS.l0 k l0 a1 0
set_option maxHeartbeats 16000000 in
set_option maxRecDepth 1000000 in
theorem markTok_row (k:Nat) (P:Nat→Prop) (A:Option Addr) (n c:Nat) (xs ys:List S24) (m r:Int) (w0 w:World) (hB:Below w0.heap.size w0 w) (ho:Kd.S k24 24 w w0.heap.size P (.slice A n c) xs) (h:laws_markTokenS.f k xs m=some (r,ys)) :
 Calls Tryz.prog 13 #[.slice A n c,.int .i64 m] w fun e w'=>e=.returned (.int .i64 r)∧Kd.S k24 24 w' w0.heap.size P (.slice A n c) ys∧Below w0.heap.size w0 w'∧Kept w w' P:=by
 unfold laws_markTokenS.f at h
 have HO:=A_ ho
 have HK:=A_ (Kept.refl w P)
 have HB:=A_ hB
 have H':=A_ h
 have hlen:=(Kd.S_reads' ho).1
 have HN:=A_ hlen
 clear h hB ho hlen
 go_enter Tryz.func13,Tryz.ntmps13
 go_wp2
 go_loopg [1,5] k (fun kq v1 v5 w'=>∃ (x0:List S24) (x1 x5:Int),v1=.int .i64 x1∧v5=.int .i64 x5∧Aside0 (laws_markTokenS.l0 kq x0 x1 x5=some (r,ys))∧Aside0 (kq≤k)∧Aside0 (n=x0.length)∧Aside0 (Kd.S k24 24 w' w0.heap.size P (.slice A n c) x0)∧Aside0 (Kept w w' P)∧Aside0 (Below w0.heap.size w0 w'))
 case atStart=>exact ⟨xs,m,0,rfl,rfl,H',⟨Nat.le_refl _⟩,HN,HO,HK,HB⟩
 case round =>
  clear H' HO HK HB HN
  obtain ⟨x0,x1,x5,rfl,rfl,HA,HK1,HL,HO,HK,HB⟩:=hrel
  cases gk with
  | zero=>exact absurd HA.out (by simp [laws_markTokenS.l0])
  | succ k1 =>
   have H:=HA.out
   clear HA
   simp only [laws_markTokenS.l0] at H
   by_cases c3:x5<(x0.length:Int)
   ·rw [if_pos c3] at H
    obtain ⟨c5,H⟩:=Option.ite_none_right_eq_some.mp H
    obtain ⟨t,ht,H⟩:=ob_ H
    obtain ⟨t',ht',H⟩:=ob_ H
    obtain ⟨⟨m4,as1⟩,ha,H⟩:=ob_ H
    obtain ⟨x,hx⟩:∃ x,rd_T24 x0 x5=x:=⟨_,rfl⟩
    rw [hx] at ha
    obtain ⟨y,hy⟩:∃ y,y=x0.set x5.toNat ⟨x1,wrap64 (x1+1),wrap64 (wrap64 (x1+1)+1),t,t',as1,(Int.tmod m4 3 == 0)⟩:=⟨_,rfl⟩
    replace H:laws_markTokenS.l0 k1 y (wrap64 (m4+1)) (wrap64 (x5+1))=some (r,ys):=by rw [hy];exact H
    have H':=A_ H
    have HT:=A_ ht
    have HT':=A_ ht'
    have HAT:=A_ ha
    have HY:=A_ hy
    have hly:y.length=x0.length:=by rw [hy,List.length_set]
    have HLY:=A_ hly
    have HC5:=A_ c5
    have HL5:=A_ c3
    have hn3:x5<(n:Int):=by rw [HL.out];exact c3
    have HC3:=A_ hn3
    clear H ht ht' ha hy hly
    obtain ⟨g,cap,ev,hg0,hgl,_⟩:=Kd.S_form HO.out (by omega)
    injection ev with e1 e2 e3
    subst e1 e3
    have HG:=A_ hg0
    have HP:Aside0 (P g):=⟨by obtain ⟨_,hR⟩:=HO.out;exact hR.1 g (by simp [Value.ownBlock])⟩
    obtain ⟨_,_,⟨q0,q1,q2,_⟩,⟨r0,r1,r2,_⟩,⟨s0,_⟩,_⟩:=tokCells HO.out x5 c5 hn3 (fun x'=>rfl) x hx
    obtain ⟨hs0,hh0⟩:=s0 x1
    obtain ⟨_,_,_,_,⟨_,s1,_⟩,_⟩:=tokCells hs0 x5 c5 hn3 (fun x'=>List.set_set ..) _ (rd_setK x0 x5 _ c5 c3)
    obtain ⟨hs1,hh1⟩:=s1 (wrap64 (x1+1))
    obtain ⟨_,_,_,_,⟨_,_,s2,_⟩,_⟩:=tokCells hs1 x5 c5 hn3 (fun x'=>List.set_set ..) _ (rd_setK x0 x5 _ c5 c3)
    obtain ⟨hs2,hh2⟩:=s2 (wrap64 (wrap64 (x1+1)+1))
    have HO1:=A_ hs2
    have HK1':=A_ (Kept.of_grown hh2 (Kept.of_grown hh1 (Kept.of_grown hh0 HK.out (fun k hk=>.inl (by injection hk with hk;exact hk ▸ HP.out))) (fun k hk=>.inl (by injection hk with hk;exact hk ▸ HP.out))) (fun k hk=>.inl (by injection hk with hk;exact hk ▸ HP.out)))
    have HB1:=A_ (bs_ (j:=x5.toNat * 7+2) (v:=.int .i64 (wrap64 (wrap64 (x1+1)+1))) (bs_ (j:=x5.toNat * 7+1) (v:=.int .i64 (wrap64 (x1+1))) (bs_ (j:=x5.toNat * 7) (v:=.int .i64 x1) HB.out hg0) hg0) hg0)
    have z3:decide (x5<(n:Int))=true:=dt_ hn3
    have z5:decide (0≤x5)=true:=dt_ c5
    have p3:=eq_true hn3
    have p5:=eq_true c5
    clear c3 c5 hn3 hg0 hgl s0 s1 s2 hs0 hh0 hs1 hh1 hs2 hh2 e2 hx HO HK HB
    go_wp2_with (first|(go_at_call 27;(with_reducible refine (laws_markText.calls k1 _ t _ HT.out).mono ?_);rintro e w3 ⟨rfl,hb⟩;(have HOa3:=A_ (Kd.S_below HO1.out hb));(have HKa3:=A_ (Kept.below HK1'.out hb));(have HBa3:=A_ (bp_ HB1.out hb));clear hb HO1 HK1' HB1;(obtain ⟨_,_,⟨d0,d1,d2,d3,d4,d5,d6⟩,⟨f0,f1,f2,f3,f4,f5,f6⟩,⟨_,_,_,s3,s4,_⟩,_⟩:=tokCells HOa3.out x5 HC5.out HC3.out (fun x'=>List.set_set ..) _ (rd_setK x0 x5 _ HC5.out HL5.out));(obtain ⟨hs,hg⟩:=s3 t);(have HO3:=A_ hs);(have HK3:=A_ (Kept.of_grown hg HKa3.out (fun k hk=>.inl (by injection hk with hk;exact hk ▸ HP.out))));(have HB3:=A_ (bs_ (j:=x5.toNat * 7+3) (v:=.string t) HBa3.out HG.out));clear hs hg s3 s4 d0 f0 d1 f1 d2 f2 d4 f4 d5 f5 d6 f6 HOa3 HKa3 HBa3)|(go_at_call 27;(with_reducible refine (laws_markText.calls k1 _ t' _ HT'.out).mono ?_);rintro e w4 ⟨rfl,hb⟩;(have HOa4:=A_ (Kd.S_below HO3.out hb));(have HKa4:=A_ (Kept.below HK3.out hb));(have HBa4:=A_ (bp_ HB3.out hb));clear hb HO3 HK3 HB3;(obtain ⟨_,_,⟨d0,d1,d2,d3,d4,d5,d6⟩,⟨f0,f1,f2,f3,f4,f5,f6⟩,⟨_,_,_,s3,s4,_⟩,_⟩:=tokCells HOa4.out x5 HC5.out HC3.out (fun x'=>List.set_set ..) _ (rd_setK x0 x5 _ HC5.out HL5.out));(obtain ⟨hs,hg⟩:=s4 t');(have HO4:=A_ hs);(have HK4:=A_ (Kept.of_grown hg HKa4.out (fun k hk=>.inl (by injection hk with hk;exact hk ▸ HP.out))));(have HB4:=A_ (bs_ (j:=x5.toNat * 7+4) (v:=.string t') HBa4.out HG.out));clear hs hg s3 s4 d0 f0 d1 f1 d2 f2 d3 f3 d5 f5 d6 f6 HOa4 HKa4 HBa4;(obtain ⟨A5,c5,⟨_,_,_,_,_,d5,_⟩,_,_,⟨p,hr4,hp4,hw4⟩⟩:=tokCells HO4.out x5 HC5.out HC3.out (fun x'=>List.set_set ..) _ (rd_setK x0 x5 _ HC5.out HL5.out));(have HR4:=A_ hr4);(have HW4:=A_ hw4);(have HP4:=A_ hp4);clear hr4 hw4 hp4)|(go_at_call 23;(with_reducible refine (laws_markAttrS.calls k1 p _ x.f5 _ m4 as1 w0 _ HB4.out HR4.out HAT.out).mono ?_);rintro e w6 ⟨rfl,hr,hb,hk⟩;(have HO6:=A_ (HW4.out w6 as1 hk (Kd.R_mono (Kd.R_tight rfl hr) (fun k hk=>HR4.out.1 k hk.symm))));(have HK6:=A_ (HK4.out.then_ hk (fun k hk=>.inl (HP4.out k hk).1)));(have HB6:=A_ hb);clear hr hb hk HO4 HK4 HB4 HW4 HP4 d5;(obtain ⟨_,_,⟨_,_,_,_,_,_,d6⟩,⟨_,_,_,_,_,_,f6⟩,⟨_,_,_,_,_,s6⟩,_⟩:=tokCells HO6.out x5 HC5.out HC3.out (fun x'=>List.set_set ..) _ (rd_setK x0 x5 _ HC5.out HL5.out));(obtain ⟨hs,hg⟩:=s6 (Int.tmod m4 3 == 0));(have HO7:=A_ hs);(have HK7:=A_ (Kept.of_grown hg HK6.out (fun k hk=>.inl (by injection hk with hk;exact hk ▸ HP.out))));(have HB7:=A_ (bs_ (j:=x5.toNat * 7+6) (v:=.bool (Int.tmod m4 3 == 0)) HB6.out HG.out));clear hs hg s6 HO6 HK6 HB6))
    go_roundg k1
    case measure=>have:=HK1.out;omega
    case rel=>exact ⟨y,wrap64 (m4+1),wrap64 (x5+1),rfl,rfl,H',⟨by have:=HK1.out;omega⟩,⟨by rw [HLY.out,HL.out]⟩,⟨HY.out ▸ HO7.out⟩,HK7,HB7⟩
   ·rw [if_neg c3] at H
    have hn3:¬ x5<(n:Int):=by rw [HL.out];exact c3
    have z3:decide (x5<(n:Int))=false:=df_ hn3
    clear c3 hn3
    simp only [Option.some.injEq,Prod.mk.injEq] at H
    obtain ⟨rfl,rfl⟩:=H
    go_wp2
    go_ret
    exact ⟨rfl,HO.out,HB.out,HK.out⟩
theorem laws_markTokenS.calls (k:Nat) (P0:Nat→Prop) (u:Value) (l0:List S24) (a1 r1:Int) (r2:List S24) (w0 w:World) (hB:Below w0.heap.size w0 w) (ho0:Kd.S k24 24 w w0.heap.size P0 u l0) (h:laws_markTokenS.f k l0 a1=some (r1,r2)) :
 Calls Tryz.prog 13 #[u,.int .i64 a1] w fun e w'=>e=.returned (.int .i64 r1)∧Kd.S k24 24 w' w0.heap.size (fun k_=>(P0 k_∨w.heap.size≤k_)) u r2∧Below w0.heap.size w0 w'∧Kept w w' (fun k_=>P0 k_):=by
 obtain ⟨A,c,rfl⟩:=Kd.S_slice ho0
 refine (markTok_row k P0 A _ c l0 r2 a1 r1 w0 w hB ho0 h).mono ?_
 rintro e w' ⟨h1,h2,h3,h4⟩
 exact ⟨h1,Kd.S_mono h2 (fun k hk=>.inl hk),h3,h4⟩
end Go.Proofs.YtfkanlbmgbkniaaGreatDoor.PFnExactTokensOf
