/- By a program of this session, out of the kit's print and contracts made by hand: the machine side of a law; Lean checks it. No conditions. -/
import Derived.Test.YtpfpbanadobfmaaPFnLinksx0
import Derived.Test.YtpfpbanadobfmaaPFnLinksx1
import Derived.Test.YtpfpbanadobfmaaPFnLinksx2
import Derived.Test.YtpfpbanadobfmaaPFnLinksx3
import Derived.Test.YtpfpbanadobfmaaPFnLinksx5
namespace Go.Proofs.Ytpfpbanadobfmaa.PFnLinks
open Go.RowKit Go.Proofs.YtpfpbanadobfmaaW.PrintWords Go.Proofs.YtpfpbanadobfmaaW.PrintLast Go.Proofs.YtpfpbanadobfmaaW.PrintMore
attribute [local go_sem] max2_int min2_int max_two min_two max_three min_three max_four min_four
set_option linter.unusedVariables false
set_option linter.unusedSimpArgs false
/-! ### laws_FnLinks: function 3 -/
def laws_FnLinks.capB (x1:List Int) (x8 c:Int):Option Bool:=if c≥97 then (if c≤122 then ((laws_at.f x1 x8 3).bind fun t=>some (t == 0)) else some false) else some false
mutual
def laws_FnLinks.j0:Nat→List Int→List Int→Bool→Option (Bool)
 | 0,_,_,_=>none
 | k+1,x0,x1,x18=>if x18=true then (some true) else ((spec_ValueDrawn.f x0).bind fun t147=>(if 11+t147.size≤9223372036854775807 then (laws_FnLinks.l0 k x1 ((⟨#[106,97,118,97,115,99,114,105,112,116,58]⟩:ByteArray)++t147) (⟨#[]⟩:ByteArray) 0) else (none)))
def laws_FnLinks.l0:Nat→List Int→ByteArray→ByteArray→Int→Option (Bool)
 | 0,_,_,_,_=>none
 | k+1,x1,x5,x6,x7=>(laws_at.f x1 0 4).bind fun t148=>(if x7<t148 then ((some (([(⟨#[32]⟩:ByteArray),(⟨#[0]⟩:ByteArray),(⟨#[9]⟩:ByteArray),(⟨#[31]⟩:ByteArray)]:List ByteArray):List ByteArray)).bind fun y149=>((laws_at.f x1 (wrap64 (x7+1)) 4).bind fun t152=>(if 0≤t152 then (if t152<(y149.length:Int) then (if x6.size+(rdOf ByteArray.empty y149 t152).size≤9223372036854775807 then (laws_FnLinks.l0 k x1 x5 (x6++(rdOf ByteArray.empty y149 t152)) (wrap64 (x7+1))) else (none)) else (none)) else (none)))) else (laws_FnLinks.l1 k x1 x5 x6 0))
def laws_FnLinks.l1:Nat→List Int→ByteArray→ByteArray→Int→Option (Bool)
 | 0,_,_,_,_=>none
 | k+1,x1,x5,x6,x8=>if x8<(x5.size:Int) then (if 0≤x8 then ((laws_FnLinks.capB x1 x8 (bt x5 x8)).bind fun b=>((some (([(if b=true then ((bt x5 x8) - 32) % 256 else bt x5 x8)]:List Int):List Int)).bind fun y155=>((some (([(⟨#[]⟩:ByteArray),(⟨#[]⟩:ByteArray),(⟨#[10]⟩:ByteArray),(⟨#[13]⟩:ByteArray),(⟨#[9]⟩:ByteArray)]:List ByteArray):List ByteArray)).bind fun y158=>((laws_at.f x1 (wrap64 (x8+5)) 5).bind fun t161=>(if 0≤t161 then (if t161<(y158.length:Int) then (if (strOfNums y155).size+(rdOf ByteArray.empty y158 t161).size≤9223372036854775807 then (if x6.size+((strOfNums y155)++(rdOf ByteArray.empty y158 t161)).size≤9223372036854775807 then (laws_FnLinks.l1 k x1 x5 (x6++((strOfNums y155)++(rdOf ByteArray.empty y158 t161))) (wrap64 (x8+1))) else (none)) else (none)) else (none)) else (none)))))) else (none)) else ((spec_ValueDrawn.f x1).bind fun t187=>((impl_BadLink.f k x5).bind fun t188=>(if t188=true then ((impl_BadLink.f k x6).bind fun t189=>(if t189=true then (if 1+x5.size≤9223372036854775807 then ((impl_BadLink.f k ((⟨#[120]⟩:ByteArray)++x5)).bind fun t190=>(if t190=true then (some false) else ((impl_BadLink.f k (⟨#[106,97,118,97,32,115,99,114,105,112,116,58]⟩:ByteArray)).bind fun t191=>(if t191=true then (some false) else ((impl_BadLink.f k t187).bind fun t192=>((spec_BadLink.f k t187).bind fun t193=>(some (t192 == t193)))))))) else (none)) else (some false))) else (some false))))
end
def laws_FnLinks.f (k:Nat) (l0:List Int) (l1:List Int):Option (Bool):=if (l0.length:Int)>1048576 then (laws_FnLinks.j0 k l0 l1 true) else (laws_FnLinks.j0 k l0 l1 (decide ((l1.length:Int)>1048576)))
def laws_FnLinks.T15:Bool × List (List Nat × List Nat):=(true,[([],[]),([],[]),([1],[1]),([2],[2]),([],[]),([],[]),([],[]),([6],[6]),([5,7],[5,7]),([4,8],[4,8]),([9],[9]),([3,10],[3,10]),([0,11],[0,11]),([12,8,0,1,2,3,4,5,6,7,8,9,10,11,12],[0,12])])
def laws_FnLinks.B15:List Nat:=[0,0,2,6,0,0,0,64,224,496,1008,2046,4095,8191]
theorem laws_FnLinks.tab15:rtab .any (opsOf Try.f3 15)=laws_FnLinks.T15:=by kernel_rfl
theorem laws_FnLinks.bits15:waitsOk laws_FnLinks.T15.2 laws_FnLinks.B15=true:=by kernel_rfl
set_option maxHeartbeats 8000000 in
set_option maxRecDepth 100000 in
theorem laws_FnLinks.calls (k:Nat) (A0:Option Addr) (c0:Nat) (l0:List Int) (A1:Option Addr) (c1:Nat) (l1:List Int) (r:Bool) (w:World) (hr0:Kd.C (Kd.int .u8) w A0 l0.length l0) (hc0:l0.length≤c0) (hr1:Kd.C (Kd.int .u8) w A1 l1.length l1) (hc1:l1.length≤c1) (h:laws_FnLinks.f k l0 l1=some r) (HRT:Aside0 (r=true)) :
 Calls Try.prog 3 #[.slice A0 l0.length c0,.slice A1 l1.length c1] w fun e w'=>e=.returned (.bool r)∧Below w.heap.size w w':=by
 have HR0:=A_ hr0
 have HC0:=A_ hc0
 clear hr0 hc0
 have HR1:=A_ hr1
 have HC1:=A_ hc1
 clear hr1 hc1
 have HB:=A_ (Below.refl w.heap.size w)
 have H:(if (l0.length:Int)>1048576 then (laws_FnLinks.j0 k l0 l1 true) else (laws_FnLinks.j0 k l0 l1 (decide ((l1.length:Int)>1048576))))=some r:=h
 clear h
 have HC3:=A_ H
 clear H
 go_enter Try.func3,Try.ntmps3
 go_upto_region 1 with (fail)
 go_cut [18] (fun v18 wc=>∃ (kq:Nat) (x18_2:Bool),v18=.bool x18_2∧Aside0 (laws_FnLinks.j0 kq l0 l1 x18_2=some r)∧Aside0 (kq≤k)∧Aside0 (Below w.heap.size w wc))
 case first =>
  have H:=HC3.out
  clear HC3
  by_cases c4:(l0.length:Int)>1048576
  ·rw [if_pos c4] at H
   have c4b0:decide (1048576<(l0.length:Int))=true:=dt_ c4
   have c4b1:decide (1048576<l0.length)=true:=dt_ (by omega)
   clear c4
   (first|rw [c4b0]|(simp only [i64_w,i32_w];rw [c4b0])|skip)
   have H':=A_ H
   clear H
   go_wp2
   go_meet
   case rel=>exact ⟨_,(true),(by first|rfl|(simp;done)|(simp [*];done)),H',⟨by first|omega|exact Nat.le_refl _⟩,⟨by repeat (first|(with_reducible first|exact HB.out|apply ba_|apply pd_|apply b1_)|exact HB.out)⟩⟩
  ·rw [if_neg c4] at H
   have c4b0:decide (1048576<(l0.length:Int))=false:=df_ c4
   have c4b1:decide (1048576<l0.length)=false:=df_ (by omega)
   clear c4
   (first|rw [c4b0]|(simp only [i64_w,i32_w];rw [c4b0])|skip)
   have H':=A_ H
   clear H
   go_wp2
   go_meet
   case rel=>exact ⟨_,(decide ((l1.length:Int)>1048576)),(by first|rfl|(simp;done)|(simp [*];done)),H',⟨by first|omega|exact Nat.le_refl _⟩,⟨by repeat (first|(with_reducible first|exact HB.out|apply ba_|apply pd_|apply b1_)|exact HB.out)⟩⟩
 case rest =>
  clear HC3
  try clear c1
  try clear p2
  try clear c3
  try clear c4
  try clear c4b0
  try clear c4b1
  obtain ⟨kq,x18_2,rfl,HA,HJ2,HB⟩:=hcut
  cases kq with
  | zero=>exact absurd HA.out (by simp [laws_FnLinks.j0])
  | succ kj2 =>
   have H:=HA.out
   clear HA
   simp only [laws_FnLinks.j0] at H
   by_cases c5:x18_2=true
   ·subst c5
    have H1:(some true)=some r:=by rw [if_pos rfl] at H;exact H
    clear H
    have H:=H1
    clear H1
    obtain rfl:=oi_ H
    go_wp2
    go_ret
    exact ⟨by first|rfl|(simp [errW_none,errW_some] <;> rfl)|(simp [*,errW_none,errW_some] <;> rfl),by repeat (first|(with_reducible first|exact HB.out|apply ba_|apply pd_|apply b1_)|exact HB.out)⟩
   ·replace c5:=Bool.eq_false_iff.mpr c5
    subst c5
    have H1:((spec_ValueDrawn.f l0).bind fun t147=>(if 11+t147.size≤9223372036854775807 then (laws_FnLinks.l0 kj2 l1 ((⟨#[106,97,118,97,115,99,114,105,112,116,58]⟩:ByteArray)++t147) (⟨#[]⟩:ByteArray) 0) else (none)))=some r:=by rw [if_neg (show ¬ (false=true) by decide)] at H;exact H
    clear H
    have H:=H1
    clear H1
    replace H:=ob_ H
    obtain ⟨t147,A60,H⟩:=H
    replace H:(if 11+t147.size≤9223372036854775807 then (laws_FnLinks.l0 kj2 l1 ((⟨#[106,97,118,97,115,99,114,105,112,116,58]⟩:ByteArray)++t147) (⟨#[]⟩:ByteArray) 0) else (none))=some r:=H
    have A6:=A_ A60
    clear A60
    by_cases c7:11+t147.size≤9223372036854775807
    ·rw [if_pos c7] at H
     have c7b0:=eq_true c7
     have c7b1:decide (11+t147.size≤9223372036854775807)=true:=dt_ c7
     try have c7b2:(9223372036854775807<11+t147.size)=False:=eq_false (Nat.not_lt.2 c7)
     have H':=A_ H
     clear H
     go_wp2_with (first|((with_reducible refine gate_callee (f:=4) rfl ?_);refine goesL_ (some 20) rfl rfl Try.func4 (by kernel_rfl) rfl #[.slice A0 l0.length c0] rfl (by (try simp only [List.map_toArray,List.map_cons,List.map_nil]);first|done|rfl|(simp only [ld_,lt_];rfl)) ?_;(with_reducible refine (spec_ValueDrawn.calls _ _ l0 t147 _ ?side1 ?side2 A6.out).mono ?_);(case side1=>repeat (first|exact (Kd.C_below HR0.out HB.out)|(with_reducible refine ca_ ?_ _)|(with_reducible refine cn_ ?_ _)|(with_reducible refine cd_ ?_)));(case side2=>exact HC0.out);rintro e w8 ⟨rfl,hb⟩;refine ⟨_,rfl,?_⟩;have n0_:=A_ (bp_ (by repeat (first|(with_reducible first|exact HB.out|apply ba_|apply pd_|apply b1_)|exact HB.out)) hb);clear HB;have HB:=n0_;clear n0_;(try clear hb);(try clear hb2);(try clear hk);(try clear hi)))
     generalize hbad:((⟨#[106,97,118,97,115,99,114,105,112,116,58]⟩:ByteArray)++t147)=bad at *
     clear hbad
     go_loopg [6,7] kj2 (fun kq v6 v7 w'=>∃ (x6_2:ByteArray) (x7_2:Int),v6=.string x6_2∧v7=.int .i64 x7_2∧Aside0 (laws_FnLinks.l0 kq l1 bad x6_2 x7_2=some r)∧Aside0 (kq≤kj2)∧Aside0 (Below w.heap.size w w'))
     case atStart=>exact ⟨((⟨#[]⟩:ByteArray)),(0),(by first|rfl|(simp;done)|(simp [*];done)),(by first|rfl|(simp;done)|(simp [*];done)),H',⟨Nat.le_refl _⟩,⟨by repeat (first|(with_reducible first|exact HB.out|apply ba_|apply pd_|apply b1_)|exact HB.out)⟩⟩
     case round =>
      clear H'
      try clear c1
      try clear p2
      try clear c3
      try clear c4
      try clear c4b0
      try clear c4b1
      try clear c5
      try clear c7
      try clear c7b0
      try clear c7b1
      try clear c7b2
      try clear p2
      obtain ⟨x6_2,x7_2,rfl,rfl,HA,HK2,HB⟩:=hrel
      cases gk with
      | zero=>exact absurd HA.out (by simp [laws_FnLinks.l0])
      | succ k2 =>
       have H:=HA.out
       clear HA
       simp only [laws_FnLinks.l0] at H
       replace H:=ob_ H
       obtain ⟨t148,A90,H⟩:=H
       replace H:(if x7_2<t148 then ((some (([(⟨#[32]⟩:ByteArray),(⟨#[0]⟩:ByteArray),(⟨#[9]⟩:ByteArray),(⟨#[31]⟩:ByteArray)]:List ByteArray):List ByteArray)).bind fun y149=>((laws_at.f l1 (wrap64 (x7_2+1)) 4).bind fun t152=>(if 0≤t152 then (if t152<(y149.length:Int) then (if x6_2.size+(rdOf ByteArray.empty y149 t152).size≤9223372036854775807 then (laws_FnLinks.l0 k2 l1 bad (x6_2++(rdOf ByteArray.empty y149 t152)) (wrap64 (x7_2+1))) else (none)) else (none)) else (none)))) else (laws_FnLinks.l1 k2 l1 bad x6_2 0))=some r:=H
       have A9:=A_ A90
       clear A90
       by_cases c10:x7_2<t148
       ·rw [if_pos c10] at H
        have c10b0:decide (x7_2<t148)=true:=dt_ c10
        clear c10
        obtain ⟨y149,hy149⟩:∃ y_:List ByteArray,y_=(([(⟨#[32]⟩:ByteArray),(⟨#[0]⟩:ByteArray),(⟨#[9]⟩:ByteArray),(⟨#[31]⟩:ByteArray)]:List ByteArray)):=⟨_,rfl⟩
        replace H:((laws_at.f l1 (wrap64 (x7_2+1)) 4).bind fun t152=>(if 0≤t152 then (if t152<(y149.length:Int) then (if x6_2.size+(rdOf ByteArray.empty y149 t152).size≤9223372036854775807 then (laws_FnLinks.l0 k2 l1 bad (x6_2++(rdOf ByteArray.empty y149 t152)) (wrap64 (x7_2+1))) else (none)) else (none)) else (none)))=some r:=by first|(rw [hy149];with_reducible exact H)|(have H2_:=(Option.bind_some _ _).symm.trans H;rw [hy149];with_reducible exact H2_)|(have H2_:=(Option.bind_some _ _).symm.trans H;with_reducible exact H2_)|with_reducible exact H|(rw [hy149];exact H)|exact H
        have Ny149:=A_ hy149
        clear hy149
        replace H:=ob_ H
        obtain ⟨t152,A110,H⟩:=H
        replace H:(if 0≤t152 then (if t152<(y149.length:Int) then (if x6_2.size+(rdOf ByteArray.empty y149 t152).size≤9223372036854775807 then (laws_FnLinks.l0 k2 l1 bad (x6_2++(rdOf ByteArray.empty y149 t152)) (wrap64 (x7_2+1))) else (none)) else (none)) else (none))=some r:=H
        have A11:=A_ A110
        clear A110
        by_cases c12:0≤t152
        ·rw [if_pos c12] at H
         have c12b0:decide (0≤t152)=true:=dt_ c12
         clear c12
         by_cases c13:t152<(y149.length:Int)
         ·rw [if_pos c13] at H
          have c13b0:decide (t152<(y149.length:Int))=true:=dt_ c13
          clear c13
          by_cases c14:x6_2.size+(rdOf ByteArray.empty y149 t152).size≤9223372036854775807
          ·rw [if_pos c14] at H
           have c14b0:=eq_true c14
           have c14b1:decide (x6_2.size+(rdOf ByteArray.empty y149 t152).size≤9223372036854775807)=true:=dt_ c14
           try have c14b2:(9223372036854775807<x6_2.size+(rdOf ByteArray.empty y149 t152).size)=False:=eq_false (Nat.not_lt.2 c14)
           have H':=A_ H
           clear H
           go_wp2_with (first|((with_reducible refine gate_callee (f:=5) rfl ?_);refine goesL_ (some 24) rfl rfl Try.func5 (by kernel_rfl) rfl #[.slice A1 l1.length c1,.int .i64 0,.int .i64 4] rfl (by (try simp only [List.map_toArray,List.map_cons,List.map_nil]);first|done|rfl|(simp only [ld_,lt_];rfl)) ?_;(with_reducible refine (laws_at.calls _ _ l1 0 4 t148 _ ?side1 ?side2 A9.out).mono ?_);(case side1=>repeat (first|exact (Kd.C_below HR1.out HB.out)|(with_reducible refine ca_ ?_ _)|(with_reducible refine cn_ ?_ _)|(with_reducible refine cd_ ?_)));(case side2=>exact HC1.out);rintro e w' ⟨rfl,⟨nd,rfl⟩⟩;refine ⟨_,rfl,?_⟩)|((with_reducible refine gate_dst (N:=29) rfl ?_);(try (refine gate_guard (by rfl) ?_;dsimp only));refine Kd.R_lit Kd.string _ 9 ?hg (N:=29) ?hd (xs:=([(⟨#[32]⟩:ByteArray),(⟨#[0]⟩:ByteArray),(⟨#[9]⟩:ByteArray),(⟨#[31]⟩:ByteArray)]:List ByteArray)) (inner:=[.string (⟨#[32]⟩:ByteArray),.string (⟨#[0]⟩:ByteArray),.string (⟨#[9]⟩:ByteArray),.string (⟨#[31]⟩:ByteArray)]) (ok:=fun _=>True) (okp:=fun _=>True) ?hr ?hp (fun _ hk=>hk) trivial (Below.refl _ _) (Nat.le_refl _) (by simp) ?_;(case hd=>rfl);(case hg=>rfl);(case hr=>first|(go_simp;done)|(go_simp;rfl)|(first|(go_simp;done)|(go_simp;rfl)));(case hp=>exact (Reps.one (show Kd.M Kd.string _ _ _ (⟨#[32]⟩:ByteArray) [.string (⟨#[32]⟩:ByteArray)] from rfl) (Reps.one (show Kd.M Kd.string _ _ _ (⟨#[0]⟩:ByteArray) [.string (⟨#[0]⟩:ByteArray)] from rfl) (Reps.one (show Kd.M Kd.string _ _ _ (⟨#[9]⟩:ByteArray) [.string (⟨#[9]⟩:ByteArray)] from rfl) (Reps.one (show Kd.M Kd.string _ _ _ (⟨#[31]⟩:ByteArray) [.string (⟨#[31]⟩:ByteArray)] from rfl) (Reps.none _ _))))));intro v150 w15 ho16 hb hg_ hnew_;clear hg_ hnew_;(first|rw [←Ny149.out] at ho16|(simp only [Int.reduceToNat] at ho16;rw [←Ny149.out] at ho16));have n0_:=A_ (Kd.R_lower ho16 (bz_ (by repeat (first|(with_reducible first|exact HB.out|apply ba_|apply pd_|apply b1_)|exact HB.out))));have n1_:=A_ (bp_ (by repeat (first|(with_reducible first|exact HB.out|apply ba_|apply pd_|apply b1_)|exact HB.out)) hb);clear HB;have HO151:=n0_;have HB:=n1_;clear n0_ n1_;clear hb ho16)|((with_reducible refine gate_callee (f:=5) rfl ?_);refine goesL_ (some 33) rfl rfl Try.func5 (by kernel_rfl) rfl #[.slice A1 l1.length c1,.int .i64 (wrap64 (x7_2+1)),.int .i64 4] rfl (by (try simp only [List.map_toArray,List.map_cons,List.map_nil]);first|done|rfl|(simp only [ld_,lt_];rfl)) ?_;(with_reducible refine (laws_at.calls _ _ l1 (wrap64 (x7_2+1)) 4 t152 _ ?side1 ?side2 A11.out).mono ?_);(case side1=>repeat (first|exact (Kd.C_below HR1.out HB.out)|(with_reducible refine ca_ ?_ _)|(with_reducible refine cn_ ?_ _)|(with_reducible refine cd_ ?_)));(case side2=>exact HC1.out);rintro e w' ⟨rfl,⟨nd,rfl⟩⟩;refine ⟨_,rfl,?_⟩;obtain ⟨Ao17,co17,eo17⟩:=Kd.R_slice HO151.out;subst eo17;have p153:0≤(t152:Int):=od_ (by first|(with_reducible assumption)|assumption);have q153:t152<(y149.length:Int):=od_ (by first|(with_reducible assumption)|assumption);obtain ⟨ad153,e153,hx153_0⟩:=Kd.at_string (Kd.R_reads' HO151.out).2.2 t152 p153 q153;cases e153;replace p153:=eq_true p153;replace q153:=eq_true q153))
           go_roundg k2
           case measure=>have:=HJ2.out;have:=HK2.out;omega
           case rel=>exact ⟨(x6_2++(rdOf ByteArray.empty y149 t152)),(wrap64 (x7_2+1)),(by first|rfl|(simp;done)|(simp [*];done)),(by first|rfl|(simp;done)|(simp [*];done)),H',⟨by have:=HJ2.out;have:=HK2.out;omega⟩,⟨by repeat (first|(with_reducible first|exact HB.out|apply ba_|apply pd_|apply b1_)|exact HB.out)⟩⟩
          ·rw [if_neg c14] at H
           exact absurd H (by simp)
         ·rw [if_neg c13] at H
          exact absurd H (by simp)
        ·rw [if_neg c12] at H
         exact absurd H (by simp)
       ·rw [if_neg c10] at H
        have c10b0:decide (x7_2<t148)=false:=df_ c10
        clear c10
        have H':=A_ H
        clear H
        go_wp2_with (first|((with_reducible refine gate_callee (f:=5) rfl ?_);refine goesL_ (some 24) rfl rfl Try.func5 (by kernel_rfl) rfl #[.slice A1 l1.length c1,.int .i64 0,.int .i64 4] rfl (by (try simp only [List.map_toArray,List.map_cons,List.map_nil]);first|done|rfl|(simp only [ld_,lt_];rfl)) ?_;(with_reducible refine (laws_at.calls _ _ l1 0 4 t148 _ ?side1 ?side2 A9.out).mono ?_);(case side1=>repeat (first|exact (Kd.C_below HR1.out HB.out)|(with_reducible refine ca_ ?_ _)|(with_reducible refine cn_ ?_ _)|(with_reducible refine cd_ ?_)));(case side2=>exact HC1.out);rintro e w' ⟨rfl,⟨nd,rfl⟩⟩;refine ⟨_,rfl,?_⟩))
        go_loopg [6,8] k2 (fun kq v6 v8 w'=>∃ (x6_3:ByteArray) (x8_3:Int),v6=.string x6_3∧v8=.int .i64 x8_3∧Aside0 (laws_FnLinks.l1 kq l1 bad x6_3 x8_3=some r)∧Aside0 (kq≤k2)∧Aside0 (Below w.heap.size w w'))
        case atStart=>exact ⟨(x6_2),(0),(by first|rfl|(simp;done)|(simp [*];done)),(by first|rfl|(simp;done)|(simp [*];done)),H',⟨Nat.le_refl _⟩,⟨by repeat (first|(with_reducible first|exact HB.out|apply ba_|apply pd_|apply b1_)|exact HB.out)⟩⟩
        case round =>
         clear H'
         try clear c1
         try clear p1
         try clear q1
         try clear hx1
         try clear p2
         try clear c3
         try clear c4
         try clear c4b0
         try clear c4b1
         try clear c5
         try clear p6
         try clear c7
         try clear c7b0
         try clear c7b1
         try clear c7b2
         try clear c10
         try clear c10b0
         try clear c12
         try clear c12b0
         try clear c13
         try clear c13b0
         try clear c14
         try clear c14b0
         try clear c14b1
         try clear c14b2
         try clear p15
         try clear q15
         try clear hx15
         try clear hx153_0
         try clear p153
         try clear p2
         try clear q153
         obtain ⟨x6_3,x8_3,rfl,rfl,HA,HK3,HB⟩:=hrel
         cases gk with
         | zero=>exact absurd HA.out (by simp [laws_FnLinks.l1])
         | succ k3 =>
          have H:=HA.out
          clear HA
          simp only [laws_FnLinks.l1] at H
          by_cases c18:x8_3<(bad.size:Int)
          ·rw [if_pos c18] at H
           have c18b0:decide (x8_3<(bad.size:Int))=true:=dt_ c18
           clear c18
           by_cases c19:0≤x8_3
           ·rw [if_pos c19] at H
            have c19b0:decide (0≤x8_3)=true:=dt_ c19
            clear c19
            replace H:=ob_ H
            obtain ⟨b57,hcap,H⟩:=H
            obtain ⟨c9,hc9⟩:∃ c9:Int,c9=(if b57=true then ((bt bad x8_3) - 32) % 256 else bt bad x8_3):=⟨_,rfl⟩
            rw [←hc9] at H
            have HCAP:=A_ hcap
            have H9:=A_ H
            have HC9:=A_ hc9
            clear hcap H hc9
            have p20:0≤(x8_3:Int):=od_ (by first|(with_reducible assumption)|assumption)
            have q20:x8_3<(bad.size:Int):=od_ (by first|(with_reducible assumption)|assumption)
            have hx20:=bt_at bad x8_3
            replace p20:=eq_true p20
            replace q20:=eq_true q20
            go_upto_region 13 with (fail)
            go_cut [57] (fun v57 wc=>v57=.bool b57∧Aside0 (Below w.heap.size w wc))
            case first =>
             have hcap:=HCAP.out
             unfold laws_FnLinks.capB at hcap
             by_cases c21:(bt bad x8_3)≥97
             ·rw [if_pos c21] at hcap
              have c21b0:decide (97≤(bt bad x8_3))=true:=dt_ c21
              clear c21
              by_cases c22:(bt bad x8_3)≤122
              ·rw [if_pos c22] at hcap
               have c22b0:decide ((bt bad x8_3)≤122)=true:=dt_ c22
               clear c22
               obtain ⟨t154,A230,hcap⟩:=ob_ hcap
               have A23:=A_ A230
               clear A230
               obtain rfl:=oi_ hcap
               try go_wp2_with (first|(go_at_call 5;(with_reducible refine (laws_at.calls _ _ l1 x8_3 3 t154 _ ?side1 ?side2 A23.out).mono ?_);(case side1=>repeat (first|exact (Kd.C_below HR1.out HB.out)|(with_reducible refine ca_ ?_ _)|(with_reducible refine cn_ ?_ _)|(with_reducible refine cd_ ?_)));(case side2=>exact HC1.out);rintro e w' ⟨rfl,⟨nd,rfl⟩⟩))
               go_meet
               case rel=>exact ⟨by first|rfl|(simp;done)|(simp [*];done),⟨by repeat (first|(with_reducible first|exact HB.out|apply ba_|apply pd_|apply b1_)|exact HB.out)⟩⟩
              ·rw [if_neg c22] at hcap
               have c22b0:decide ((bt bad x8_3)≤122)=false:=df_ c22
               clear c22
               obtain rfl:=oi_ hcap
               go_wp2
               go_meet
               case rel=>exact ⟨by first|rfl|(simp;done)|(simp [*];done),⟨by repeat (first|(with_reducible first|exact HB.out|apply ba_|apply pd_|apply b1_)|exact HB.out)⟩⟩
             ·rw [if_neg c21] at hcap
              have c21b0:decide (97≤(bt bad x8_3))=false:=df_ c21
              clear c21
              obtain rfl:=oi_ hcap
              go_wp2
              go_meet
              case rel=>exact ⟨by first|rfl|(simp;done)|(simp [*];done),⟨by repeat (first|(with_reducible first|exact HB.out|apply ba_|apply pd_|apply b1_)|exact HB.out)⟩⟩
            case rest =>
             obtain ⟨rfl,HB⟩:=hcut
             go_upto_if 57 with (fail)
             go_cut [9] (fun v9 wd=>v9=.int .u8 c9∧Aside0 (Below w.heap.size w wd))
             case first =>
              have hc9:=HC9.out
              cases b57 with
              | true =>
               rw [if_pos rfl] at hc9
               subst hc9
               go_wp2
               go_meet
               case rel=>exact ⟨by first|rfl|(simp;done)|(simp [*];done),⟨by repeat (first|(with_reducible first|exact HB.out|apply ba_|apply pd_|apply b1_)|exact HB.out)⟩⟩
              | false =>
               rw [if_neg Bool.false_ne_true] at hc9
               subst hc9
               go_wp2
               go_meet
               case rel=>exact ⟨by first|rfl|(simp;done)|(simp [*];done),⟨by repeat (first|(with_reducible first|exact HB.out|apply ba_|apply pd_|apply b1_)|exact HB.out)⟩⟩
             case rest =>
              obtain ⟨rfl,HB⟩:=hcut
              have H:=H9.out
              clear H9 HC9 HCAP
              obtain ⟨y179,hy179⟩:∃ y_:List Int,y_=(([c9]:List Int)):=⟨_,rfl⟩
              replace H:((some (([(⟨#[]⟩:ByteArray),(⟨#[]⟩:ByteArray),(⟨#[10]⟩:ByteArray),(⟨#[13]⟩:ByteArray),(⟨#[9]⟩:ByteArray)]:List ByteArray):List ByteArray)).bind fun y182=>((laws_at.f l1 (wrap64 (x8_3+5)) 5).bind fun t185=>(if 0≤t185 then (if t185<(y182.length:Int) then (if (strOfNums y179).size+(rdOf ByteArray.empty y182 t185).size≤9223372036854775807 then (if x6_3.size+((strOfNums y179)++(rdOf ByteArray.empty y182 t185)).size≤9223372036854775807 then (laws_FnLinks.l1 k3 l1 bad (x6_3++((strOfNums y179)++(rdOf ByteArray.empty y182 t185))) (wrap64 (x8_3+1))) else (none)) else (none)) else (none)) else (none))))=some r:=by first|(rw [hy179];with_reducible exact H)|(have H2_:=(Option.bind_some _ _).symm.trans H;rw [hy179];with_reducible exact H2_)|(have H2_:=(Option.bind_some _ _).symm.trans H;with_reducible exact H2_)|with_reducible exact H|(rw [hy179];exact H)|exact H
              have Ny179:=A_ hy179
              clear hy179
              obtain ⟨y182,hy182⟩:∃ y_:List ByteArray,y_=(([(⟨#[]⟩:ByteArray),(⟨#[]⟩:ByteArray),(⟨#[10]⟩:ByteArray),(⟨#[13]⟩:ByteArray),(⟨#[9]⟩:ByteArray)]:List ByteArray)):=⟨_,rfl⟩
              replace H:((laws_at.f l1 (wrap64 (x8_3+5)) 5).bind fun t185=>(if 0≤t185 then (if t185<(y182.length:Int) then (if (strOfNums y179).size+(rdOf ByteArray.empty y182 t185).size≤9223372036854775807 then (if x6_3.size+((strOfNums y179)++(rdOf ByteArray.empty y182 t185)).size≤9223372036854775807 then (laws_FnLinks.l1 k3 l1 bad (x6_3++((strOfNums y179)++(rdOf ByteArray.empty y182 t185))) (wrap64 (x8_3+1))) else (none)) else (none)) else (none)) else (none)))=some r:=by first|(rw [hy182];with_reducible exact H)|(have H2_:=(Option.bind_some _ _).symm.trans H;rw [hy182];with_reducible exact H2_)|(have H2_:=(Option.bind_some _ _).symm.trans H;with_reducible exact H2_)|with_reducible exact H|(rw [hy182];exact H)|exact H
              have Ny182:=A_ hy182
              clear hy182
              replace H:=ob_ H
              obtain ⟨t185,A670,H⟩:=H
              replace H:(if 0≤t185 then (if t185<(y182.length:Int) then (if (strOfNums y179).size+(rdOf ByteArray.empty y182 t185).size≤9223372036854775807 then (if x6_3.size+((strOfNums y179)++(rdOf ByteArray.empty y182 t185)).size≤9223372036854775807 then (laws_FnLinks.l1 k3 l1 bad (x6_3++((strOfNums y179)++(rdOf ByteArray.empty y182 t185))) (wrap64 (x8_3+1))) else (none)) else (none)) else (none)) else (none))=some r:=H
              have A67:=A_ A670
              clear A670
              by_cases c68:0≤t185
              ·rw [if_pos c68] at H
               have c68b0:decide (0≤t185)=true:=dt_ c68
               clear c68
               by_cases c69:t185<(y182.length:Int)
               ·rw [if_pos c69] at H
                have c69b0:decide (t185<(y182.length:Int))=true:=dt_ c69
                clear c69
                by_cases c70:(strOfNums y179).size+(rdOf ByteArray.empty y182 t185).size≤9223372036854775807
                ·rw [if_pos c70] at H
                 have c70b0:=eq_true c70
                 have c70b1:decide ((strOfNums y179).size+(rdOf ByteArray.empty y182 t185).size≤9223372036854775807)=true:=dt_ c70
                 try have c70b2:(9223372036854775807<(strOfNums y179).size+(rdOf ByteArray.empty y182 t185).size)=False:=eq_false (Nat.not_lt.2 c70)
                 by_cases c71:x6_3.size+((strOfNums y179)++(rdOf ByteArray.empty y182 t185)).size≤9223372036854775807
                 ·rw [if_pos c71] at H
                  have c71b0:=eq_true c71
                  have c71b1:decide (x6_3.size+((strOfNums y179)++(rdOf ByteArray.empty y182 t185)).size≤9223372036854775807)=true:=dt_ c71
                  have c71b9:(9223372036854775807<x6_3.size+((strOfNums y179).size+(rdOf ByteArray.empty y182 t185).size))=False:=eq_false (Nat.not_lt.2 (by rw [←ByteArray.size_append];exact c71))
                  try have c71b2:(9223372036854775807<x6_3.size+((strOfNums y179)++(rdOf ByteArray.empty y182 t185)).size)=False:=eq_false (Nat.not_lt.2 c71)
                  have H':=A_ H
                  clear H
                  try go_wp2
                  have pi186:(0≤(t185:Int))=True:=eq_true (od_ (by first|(with_reducible assumption)|assumption))
                  have qi186:(t185<(y182.length:Int))=True:=eq_true (od_ (by first|(with_reducible assumption)|assumption))
                  have n0_:=A_ (b1_ HB.out)
                  clear HB
                  have HB:=n0_
                  clear n0_
                  refine start_ (n:=14) (S:=fun w'=>True) (ds:=[]) #[F_,F_,F_,F_,F_,F_,F_,F_,F_,F_,F_,F_,F_,F_] (by kernel_rfl) rfl rfl trivial (fun hHeld=>?_);refine with_tabW laws_FnLinks.tab15 laws_FnLinks.bits15 (fun HT_ HW_=>?_)
                  generalize wc.drew=w72 at HB hHeld ⊢
                  refine pure_ (i:=0) (N:=some 60) (v:=?_) (a':=?_) #[T_,F_,F_,F_,F_,F_,F_,F_,F_,F_,F_,F_,F_,F_] rfl rfl (any_of HT_.out (by kernel_rfl)) (fun _ _ _ h=>h) (Or.inl ⟨by rfl,?_⟩) ?_ ?_
                  rotate_left
                  ·intro w'
                   go_simp
                   with_reducible rfl
                  rotate_left
                  ·simp only [Act.put,ls_,lz_,lc_,i64_w,i32_w]
                   rfl
                  refine pure_ (i:=1) (N:=some 61) (v:=?_) (a':=?_) #[T_,T_,F_,F_,F_,F_,F_,F_,F_,F_,F_,F_,F_,F_] rfl rfl (any_of HT_.out (by kernel_rfl)) (fun _ _ _ h=>h) (Or.inl ⟨by rfl,?_⟩) ?_ ?_
                  rotate_left
                  ·intro w'
                   go_simp
                   with_reducible rfl
                  rotate_left
                  ·simp only [Act.put,ls_,lz_,lc_,i64_w,i32_w]
                   rfl
                  refine pure_ (i:=5) (N:=some 65) (v:=?_) (a':=?_) #[T_,T_,F_,F_,F_,T_,F_,F_,F_,F_,F_,F_,F_,F_] rfl rfl (any_of HT_.out (by kernel_rfl)) (fun _ _ _ h=>h) (Or.inl ⟨by rfl,?_⟩) ?_ ?_
                  rotate_left
                  ·intro w'
                   go_simp
                   with_reducible rfl
                  rotate_left
                  ·simp only [Act.put,ls_,lz_,lc_,i64_w,i32_w]
                   rfl
                  refine pure_ (i:=6) (N:=some 66) (v:=?_) (a':=?_) #[T_,T_,F_,F_,F_,T_,T_,F_,F_,F_,F_,F_,F_,F_] rfl rfl (any_of HT_.out (by kernel_rfl)) (fun _ _ _ h=>h) (Or.inl ⟨by rfl,?_⟩) ?_ ?_
                  rotate_left
                  ·intro w'
                   go_simp
                   with_reducible rfl
                  rotate_left
                  ·simp only [Act.put,ls_,lz_,lc_,i64_w,i32_w]
                   rfl
                  refine pure_ (i:=7) (N:=some 67) (v:=?_) (a':=?_) #[T_,T_,F_,F_,F_,T_,T_,T_,F_,F_,F_,F_,F_,F_] rfl rfl (any_of HT_.out (by kernel_rfl)) (fun _ _ _ h=>h) (Or.inl ⟨by rfl,?_⟩) ?_ ?_
                  rotate_left
                  ·intro w'
                   go_simp
                   with_reducible rfl
                  rotate_left
                  ·simp only [Act.put,ls_,lz_,lc_,i64_w,i32_w]
                   rfl
                  refine join_ (σ := Value × Value × Addr) 3 #[T_,T_,T_,T_,T_,T_,T_,T_,T_,T_,T_,F_,F_,F_] (fun s_=>[(62,s_.1),(63,.string (strOfNums y179)),(64,s_.2.1),(68,.int .i64 t185),(70,.string (rdOf ByteArray.empty y182 t185)),(69,.pointer (some (s_.2.2.add (t185).toNat)))]) (fun s_ w'=>(Kd.R (Kd.int .u8) 5 w' w.heap.size (fun _=>True) s_.1 y179)∧(Kd.R Kd.string 9 w' w.heap.size (fun _=>True) s_.2.1 y182)∧(∃ c_,(s_.2.1:Value)=.slice (some s_.2.2) y182.length c_)∧(Below w.heap.size w w')) ?_ ?_
                  rotate_left
                  ·intro hJ2_3_4_8_10
                   refine join_ (σ := Value × Value × Addr) 4 #[T_,T_,T_,T_,T_,T_,T_,T_,T_,T_,F_,F_,F_,F_] (fun s_=>[(62,s_.1),(63,.string (strOfNums y179)),(64,s_.2.1),(68,.int .i64 t185),(69,.pointer (some (s_.2.2.add (t185).toNat)))]) (fun s_ w'=>(Kd.R (Kd.int .u8) 5 w' w.heap.size (fun _=>True) s_.1 y179)∧(Kd.R Kd.string 9 w' w.heap.size (fun _=>True) s_.2.1 y182)∧(∃ c_,(s_.2.1:Value)=.slice (some s_.2.2) y182.length c_)∧(Below w.heap.size w w')) ?_ ?_
                   rotate_left
                   ·intro hJ2_3_4_8
                    refine join_ (σ := Value × Value × Addr) 4 #[T_,T_,T_,F_,T_,T_,T_,T_,T_,T_,T_,F_,F_,F_] (fun s_=>[(62,s_.1),(64,s_.2.1),(68,.int .i64 t185),(70,.string (rdOf ByteArray.empty y182 t185)),(69,.pointer (some (s_.2.2.add (t185).toNat)))]) (fun s_ w'=>(Kd.R (Kd.int .u8) 5 w' w.heap.size (fun _=>True) s_.1 y179)∧(Kd.R Kd.string 9 w' w.heap.size (fun _=>True) s_.2.1 y182)∧(∃ c_,(s_.2.1:Value)=.slice (some s_.2.2) y182.length c_)∧(Below w.heap.size w w')) ?_ ?_
                    rotate_left
                    ·intro hJ2_4_8_10
                     refine join_ (σ := Value × Value × Addr) 6 #[T_,T_,T_,T_,T_,T_,T_,T_,F_,F_,F_,F_,F_,F_] (fun s_=>[(62,s_.1),(63,.string (strOfNums y179)),(64,s_.2.1)]) (fun s_ w'=>(Kd.R (Kd.int .u8) 5 w' w.heap.size (fun _=>True) s_.1 y179)∧(Kd.R Kd.string 9 w' w.heap.size (fun _=>True) s_.2.1 y182)∧(∃ c_,(s_.2.1:Value)=.slice (some s_.2.2) y182.length c_)∧(Below w.heap.size w w')) ?_ ?_
                     rotate_left
                     ·intro hJ2_3_4
                      refine join_ (σ := Value) 6 #[T_,T_,T_,T_,F_,T_,T_,T_,T_,F_,F_,F_,F_,F_] (fun s_=>[(62,s_),(63,.string (strOfNums y179)),(68,.int .i64 t185)]) (fun s_ w'=>(Kd.R (Kd.int .u8) 5 w' w.heap.size (fun _=>True) s_ y179)∧(Below w.heap.size w w')) ?_ ?_
                      rotate_left
                      ·intro hJ2_3_8
                       refine join_ (σ := Value × Value × Addr) 5 #[T_,T_,T_,F_,T_,T_,T_,T_,T_,T_,F_,F_,F_,F_] (fun s_=>[(62,s_.1),(64,s_.2.1),(68,.int .i64 t185),(69,.pointer (some (s_.2.2.add (t185).toNat)))]) (fun s_ w'=>(Kd.R (Kd.int .u8) 5 w' w.heap.size (fun _=>True) s_.1 y179)∧(Kd.R Kd.string 9 w' w.heap.size (fun _=>True) s_.2.1 y182)∧(∃ c_,(s_.2.1:Value)=.slice (some s_.2.2) y182.length c_)∧(Below w.heap.size w w')) ?_ ?_
                       rotate_left
                       ·intro hJ2_4_8
                        refine join_ (σ := Value × Addr) 5 #[T_,T_,F_,F_,T_,T_,T_,T_,T_,T_,T_,F_,F_,F_] (fun s_=>[(64,s_.1),(68,.int .i64 t185),(70,.string (rdOf ByteArray.empty y182 t185)),(69,.pointer (some (s_.2.add (t185).toNat)))]) (fun s_ w'=>(Kd.R Kd.string 9 w' w.heap.size (fun _=>True) s_.1 y182)∧(∃ c_,(s_.1:Value)=.slice (some s_.2) y182.length c_)∧(Below w.heap.size w w')) ?_ ?_
                        rotate_left
                        ·intro hJ4_8_10
                         refine join_ (σ := Value) 7 #[T_,T_,T_,T_,F_,T_,T_,T_,F_,F_,F_,F_,F_,F_] (fun s_=>[(62,s_),(63,.string (strOfNums y179))]) (fun s_ w'=>(Kd.R (Kd.int .u8) 5 w' w.heap.size (fun _=>True) s_ y179)∧(Below w.heap.size w w')) ?_ ?_
                         rotate_left
                         ·intro hJ2_3
                          refine join_ (σ := Value × Value × Addr) 7 #[T_,T_,T_,F_,T_,T_,T_,T_,F_,F_,F_,F_,F_,F_] (fun s_=>[(62,s_.1),(64,s_.2.1)]) (fun s_ w'=>(Kd.R (Kd.int .u8) 5 w' w.heap.size (fun _=>True) s_.1 y179)∧(Kd.R Kd.string 9 w' w.heap.size (fun _=>True) s_.2.1 y182)∧(∃ c_,(s_.2.1:Value)=.slice (some s_.2.2) y182.length c_)∧(Below w.heap.size w w')) ?_ ?_
                          rotate_left
                          ·intro hJ2_4
                           refine join_ (σ := Value) 7 #[T_,T_,T_,F_,F_,T_,T_,T_,T_,F_,F_,F_,F_,F_] (fun s_=>[(62,s_),(68,.int .i64 t185)]) (fun s_ w'=>(Kd.R (Kd.int .u8) 5 w' w.heap.size (fun _=>True) s_ y179)∧(Below w.heap.size w w')) ?_ ?_
                           rotate_left
                           ·intro hJ2_8
                            refine join_ (σ := Value × Addr) 6 #[T_,T_,F_,F_,T_,T_,T_,T_,T_,T_,F_,F_,F_,F_] (fun s_=>[(64,s_.1),(68,.int .i64 t185),(69,.pointer (some (s_.2.add (t185).toNat)))]) (fun s_ w'=>(Kd.R Kd.string 9 w' w.heap.size (fun _=>True) s_.1 y182)∧(∃ c_,(s_.1:Value)=.slice (some s_.2) y182.length c_)∧(Below w.heap.size w w')) ?_ ?_
                            rotate_left
                            ·intro hJ4_8
                             refine join_ (σ := Value) 8 #[T_,T_,T_,F_,F_,T_,T_,T_,F_,F_,F_,F_,F_,F_] (fun s_=>[(62,s_)]) (fun s_ w'=>(Kd.R (Kd.int .u8) 5 w' w.heap.size (fun _=>True) s_ y179)∧(Below w.heap.size w w')) ?_ ?_
                             rotate_left
                             ·intro hJ2
                              refine join_ (σ := Value × Addr) 8 #[T_,T_,F_,F_,T_,T_,T_,T_,F_,F_,F_,F_,F_,F_] (fun s_=>[(64,s_.1)]) (fun s_ w'=>(Kd.R Kd.string 9 w' w.heap.size (fun _=>True) s_.1 y182)∧(∃ c_,(s_.1:Value)=.slice (some s_.2) y182.length c_)∧(Below w.heap.size w w')) ?_ ?_
                              rotate_left
                              ·intro hJ4
                               refine join_ (σ := Unit) 8 #[T_,T_,F_,F_,F_,T_,T_,T_,T_,F_,F_,F_,F_,F_] (fun s_=>[(68,.int .i64 t185)]) (fun s_ w'=>(Below w.heap.size w w')) ?_ ?_
                               rotate_left
                               ·intro hJ8
                                refine three_ (i:=2) (j:=4) (k:=8) (Ni:=some 62) (Nj:=some 64) (Nk:=some 68) #[T_,T_,T_,F_,F_,T_,T_,T_,F_,F_,F_,F_,F_,F_] #[T_,T_,F_,F_,T_,T_,T_,T_,F_,F_,F_,F_,F_,F_] #[T_,T_,F_,F_,F_,T_,T_,T_,T_,F_,F_,F_,F_,F_] rfl rfl rfl rfl rfl rfl (three_of HT_.out (by kernel_rfl)) (by decide) (by decide) (by decide) (fun K hK=>?_) (fun K hK=>?_) (fun K hK=>?_)
                                ·skip
                                 refine Kd.R_lit_step (Kd.int .u8) _ 5 ?hg (N:=62) ?hd (xs:=([c9]:List Int)) (inner:=[.int .u8 (c9)]) (ok:=fun _=>True) (okp:=fun _=>True) ?hr ?hp (fun _ hk=>hk) trivial (Below.refl _ _) (Nat.le_refl _) (by simp) ?_;(case hd=>rfl);(case hg=>rfl);(case hr=>first|(go_simp;done)|(go_simp;rfl)|((first|(obtain ⟨_,_,rfl⟩:=Kd.R_slice HO151.out)|(obtain ⟨_,_,rfl⟩:=Kd.S_slice HO151.out)|skip);(first|(obtain ⟨_,_,rfl⟩:=Kd.R_slice HO157.out)|(obtain ⟨_,_,rfl⟩:=Kd.S_slice HO157.out)|skip);(first|(obtain ⟨_,_,rfl⟩:=Kd.R_slice HO160.out)|(obtain ⟨_,_,rfl⟩:=Kd.S_slice HO160.out)|skip);(first|(obtain ⟨_,_,rfl⟩:=Kd.R_slice HO165.out)|(obtain ⟨_,_,rfl⟩:=Kd.S_slice HO165.out)|skip);(first|(obtain ⟨_,_,rfl⟩:=Kd.R_slice HO168.out)|(obtain ⟨_,_,rfl⟩:=Kd.S_slice HO168.out)|skip);(first|(obtain ⟨_,_,rfl⟩:=Kd.R_slice HO173.out)|(obtain ⟨_,_,rfl⟩:=Kd.S_slice HO173.out)|skip);(first|(obtain ⟨_,_,rfl⟩:=Kd.R_slice HO176.out)|(obtain ⟨_,_,rfl⟩:=Kd.S_slice HO176.out)|skip);first|(go_simp;done)|(go_simp;rfl)));(case hp=>exact (Reps.one (show Kd.M (Kd.int .u8) _ _ _ (c9) [.int .u8 (c9)] from rfl) (Reps.none _ _)))
                                 intro v180 w73 ho74 hb hg_ hnew_
                                 clear hg_ hnew_
                                 (first|rw [←Ny179.out] at ho74|(simp only [Int.reduceToNat] at ho74;rw [←Ny179.out] at ho74))
                                 have n0_:=A_ (Kd.R_lower ho74 (bz_ (by repeat (first|(with_reducible first|exact HB.out|apply ba_|apply pd_|apply b1_)|exact HB.out))))
                                 have n1_:=A_ (bp_ (by repeat (first|(with_reducible first|exact HB.out|apply ba_|apply pd_|apply b1_)|exact HB.out)) hb)
                                 clear HB
                                 have HO181:=n0_
                                 have HB:=n1_
                                 clear n0_ n1_
                                 clear hb ho74
                                 refine hK.out _ _ trivial (fun hHeld=>?_)
                                 clear hK K
                                 refine norm_ (a':=?_) ?_ ?_
                                 rotate_left
                                 ·show Act.put _ (some 62) _=_
                                  simp only [Act.put,ls_,lz_,lc_,i64_w,i32_w]
                                  rfl
                                 exact norm_ (by first|(simp only [putAll,Act.put,ls_,lz_,lc_];done)|(simp only [putAll,Act.put,ls_,lz_,lc_];rfl)) (hJ2 (v180) _ ⟨(by (with_reducible repeat (first|apply Kd.R_alloc|apply Kd.R_drewN|apply Kd.R_drew));exact HO181.out),(by repeat (first|(with_reducible first|exact HB.out|apply ba_|apply pd_|apply b1_)|exact HB.out))⟩)
                                ·skip
                                 refine Kd.R_lit_step Kd.string _ 9 ?hg (N:=64) ?hd (xs:=([(⟨#[]⟩:ByteArray),(⟨#[]⟩:ByteArray),(⟨#[10]⟩:ByteArray),(⟨#[13]⟩:ByteArray),(⟨#[9]⟩:ByteArray)]:List ByteArray)) (inner:=[.string (⟨#[]⟩:ByteArray),.string (⟨#[]⟩:ByteArray),.string (⟨#[10]⟩:ByteArray),.string (⟨#[13]⟩:ByteArray),.string (⟨#[9]⟩:ByteArray)]) (ok:=fun _=>True) (okp:=fun _=>True) ?hr ?hp (fun _ hk=>hk) trivial (Below.refl _ _) (Nat.le_refl _) (by simp) ?_;(case hd=>rfl);(case hg=>rfl);(case hr=>first|(go_simp;done)|(go_simp;rfl)|((first|(obtain ⟨_,_,rfl⟩:=Kd.R_slice HO151.out)|(obtain ⟨_,_,rfl⟩:=Kd.S_slice HO151.out)|skip);(first|(obtain ⟨_,_,rfl⟩:=Kd.R_slice HO157.out)|(obtain ⟨_,_,rfl⟩:=Kd.S_slice HO157.out)|skip);(first|(obtain ⟨_,_,rfl⟩:=Kd.R_slice HO160.out)|(obtain ⟨_,_,rfl⟩:=Kd.S_slice HO160.out)|skip);(first|(obtain ⟨_,_,rfl⟩:=Kd.R_slice HO165.out)|(obtain ⟨_,_,rfl⟩:=Kd.S_slice HO165.out)|skip);(first|(obtain ⟨_,_,rfl⟩:=Kd.R_slice HO168.out)|(obtain ⟨_,_,rfl⟩:=Kd.S_slice HO168.out)|skip);(first|(obtain ⟨_,_,rfl⟩:=Kd.R_slice HO173.out)|(obtain ⟨_,_,rfl⟩:=Kd.S_slice HO173.out)|skip);(first|(obtain ⟨_,_,rfl⟩:=Kd.R_slice HO176.out)|(obtain ⟨_,_,rfl⟩:=Kd.S_slice HO176.out)|skip);(first|(obtain ⟨_,_,rfl⟩:=Kd.R_slice HO181.out)|(obtain ⟨_,_,rfl⟩:=Kd.S_slice HO181.out)|skip);first|(go_simp;done)|(go_simp;rfl)));(case hp=>exact (Reps.one (show Kd.M Kd.string _ _ _ (⟨#[]⟩:ByteArray) [.string (⟨#[]⟩:ByteArray)] from rfl) (Reps.one (show Kd.M Kd.string _ _ _ (⟨#[]⟩:ByteArray) [.string (⟨#[]⟩:ByteArray)] from rfl) (Reps.one (show Kd.M Kd.string _ _ _ (⟨#[10]⟩:ByteArray) [.string (⟨#[10]⟩:ByteArray)] from rfl) (Reps.one (show Kd.M Kd.string _ _ _ (⟨#[13]⟩:ByteArray) [.string (⟨#[13]⟩:ByteArray)] from rfl) (Reps.one (show Kd.M Kd.string _ _ _ (⟨#[9]⟩:ByteArray) [.string (⟨#[9]⟩:ByteArray)] from rfl) (Reps.none _ _)))))))
                                 intro v183 w73 ho74 hb hg_ hnew_
                                 clear hg_ hnew_
                                 (first|rw [←Ny182.out] at ho74|(simp only [Int.reduceToNat] at ho74;rw [←Ny182.out] at ho74))
                                 have n0_:=A_ (Kd.R_lower ho74 (bz_ (by repeat (first|(with_reducible first|exact HB.out|apply ba_|apply pd_|apply b1_)|exact HB.out))))
                                 have n1_:=A_ (bp_ (by repeat (first|(with_reducible first|exact HB.out|apply ba_|apply pd_|apply b1_)|exact HB.out)) hb)
                                 clear HB
                                 have HO184:=n0_
                                 have HB:=n1_
                                 clear n0_ n1_
                                 clear hb ho74
                                 obtain ⟨Ao75,co75,eo75⟩:=Kd.R_slice HO184.out
                                 subst eo75
                                 obtain ⟨ado75,fo75,_⟩:=Kd.at_string (Kd.R_reads' HO184.out).2.2 0 (by decide) (by rw [Ny182.out];simp)
                                 cases fo75
                                 refine hK.out _ _ trivial (fun hHeld=>?_)
                                 clear hK K
                                 refine norm_ (a':=?_) ?_ ?_
                                 rotate_left
                                 ·show Act.put _ (some 64) _=_
                                  simp only [Act.put,ls_,lz_,lc_,i64_w,i32_w]
                                  rfl
                                 exact norm_ (by first|(simp only [putAll,Act.put,ls_,lz_,lc_];done)|(simp only [putAll,Act.put,ls_,lz_,lc_];rfl)) (hJ4 (.slice (some ado75) y182.length co75,ado75) _ ⟨(by (with_reducible repeat (first|apply Kd.R_alloc|apply Kd.R_drewN|apply Kd.R_drew));exact HO184.out),⟨_,rfl⟩,(by repeat (first|(with_reducible first|exact HB.out|apply ba_|apply pd_|apply b1_)|exact HB.out))⟩)
                                ·skip
                                 refine goes_ Try.func5 (by kernel_rfl) rfl #[.slice A1 l1.length c1,.int .i64 (wrap64 (x8_3+5)),.int .i64 5] (by rfl) rfl rfl (by (try simp only [List.map_toArray,List.map_cons,List.map_nil]);first|done|rfl|(simp only [ld_,lt_];rfl)) ?_
                                 with_reducible refine (laws_at.calls _ _ l1 (wrap64 (x8_3+5)) 5 t185 _ ?side1 ?side2 A67.out).mono ?_
                                 (case side1=>repeat (first|exact (Kd.C_below HR1.out HB.out)|(with_reducible refine ca_ ?_ _)|(with_reducible refine cn_ ?_ _)|(with_reducible refine cd_ ?_)))
                                 (case side2=>exact HC1.out)
                                 rintro e w' ⟨rfl,⟨nd,rfl⟩⟩
                                 refine ⟨_,rfl,?_⟩
                                 refine hK.out _ _ trivial (fun hHeld=>?_)
                                 clear hK K
                                 refine norm_ (a':=?_) ?_ ?_
                                 rotate_left
                                 ·show Act.put _ (some 68) _=_
                                  simp only [Act.put,ls_,lz_,lc_,i64_w,i32_w]
                                  rfl
                                 exact norm_ (by first|(simp only [putAll,Act.put,ls_,lz_,lc_];done)|(simp only [putAll,Act.put,ls_,lz_,lc_];rfl)) (hJ8 () _ (by repeat (first|(with_reducible first|exact HB.out|apply ba_|apply pd_|apply b1_)|exact HB.out)))
                               ·skip
                                rintro _ w73 h0_
                                have n0_:Aside0 (Below w.heap.size w w73):=⟨h0_⟩
                                clear HB
                                clear h0_
                                have HB:=n0_
                                clear n0_
                                have hHeld:=trivial
                                refine norm_ (a':=?_) ?_ ?_
                                rotate_left
                                ·simp only [putAll,Act.put,ls_,lz_,lc_]
                                 rfl
                                refine two_ (i:=2) (j:=4) (Ni:=some 62) (Nj:=some 64) #[T_,T_,T_,F_,F_,T_,T_,T_,T_,F_,F_,F_,F_,F_] #[T_,T_,F_,F_,T_,T_,T_,T_,T_,F_,F_,F_,F_,F_] rfl rfl rfl rfl (two_of HT_.out (by kernel_rfl)) (by decide) (by decide) (fun K hK=>?_) (fun K hK=>?_)
                                ·skip
                                 refine Kd.R_lit_step (Kd.int .u8) _ 5 ?hg (N:=62) ?hd (xs:=([c9]:List Int)) (inner:=[.int .u8 (c9)]) (ok:=fun _=>True) (okp:=fun _=>True) ?hr ?hp (fun _ hk=>hk) trivial (Below.refl _ _) (Nat.le_refl _) (by simp) ?_;(case hd=>rfl);(case hg=>rfl);(case hr=>first|(go_simp;done)|(go_simp;rfl)|((first|(obtain ⟨_,_,rfl⟩:=Kd.R_slice HO151.out)|(obtain ⟨_,_,rfl⟩:=Kd.S_slice HO151.out)|skip);(first|(obtain ⟨_,_,rfl⟩:=Kd.R_slice HO157.out)|(obtain ⟨_,_,rfl⟩:=Kd.S_slice HO157.out)|skip);(first|(obtain ⟨_,_,rfl⟩:=Kd.R_slice HO160.out)|(obtain ⟨_,_,rfl⟩:=Kd.S_slice HO160.out)|skip);(first|(obtain ⟨_,_,rfl⟩:=Kd.R_slice HO165.out)|(obtain ⟨_,_,rfl⟩:=Kd.S_slice HO165.out)|skip);(first|(obtain ⟨_,_,rfl⟩:=Kd.R_slice HO168.out)|(obtain ⟨_,_,rfl⟩:=Kd.S_slice HO168.out)|skip);(first|(obtain ⟨_,_,rfl⟩:=Kd.R_slice HO173.out)|(obtain ⟨_,_,rfl⟩:=Kd.S_slice HO173.out)|skip);(first|(obtain ⟨_,_,rfl⟩:=Kd.R_slice HO176.out)|(obtain ⟨_,_,rfl⟩:=Kd.S_slice HO176.out)|skip);(first|(obtain ⟨_,_,rfl⟩:=Kd.R_slice HO181.out)|(obtain ⟨_,_,rfl⟩:=Kd.S_slice HO181.out)|skip);(first|(obtain ⟨_,_,rfl⟩:=Kd.R_slice HO184.out)|(obtain ⟨_,_,rfl⟩:=Kd.S_slice HO184.out)|skip);first|(go_simp;done)|(go_simp;rfl)));(case hp=>exact (Reps.one (show Kd.M (Kd.int .u8) _ _ _ (c9) [.int .u8 (c9)] from rfl) (Reps.none _ _)))
                                 intro v180 w74 ho75 hb hg_ hnew_
                                 clear hg_ hnew_
                                 (first|rw [←Ny179.out] at ho75|(simp only [Int.reduceToNat] at ho75;rw [←Ny179.out] at ho75))
                                 have n0_:=A_ (Kd.R_lower ho75 (bz_ (by repeat (first|(with_reducible first|exact HB.out|apply ba_|apply pd_|apply b1_)|exact HB.out))))
                                 have n1_:=A_ (bp_ (by repeat (first|(with_reducible first|exact HB.out|apply ba_|apply pd_|apply b1_)|exact HB.out)) hb)
                                 clear HB
                                 have HO181:=n0_
                                 have HB:=n1_
                                 clear n0_ n1_
                                 clear hb ho75
                                 refine hK.out _ _ trivial (fun hHeld=>?_)
                                 clear hK K
                                 refine norm_ (a':=?_) ?_ ?_
                                 rotate_left
                                 ·show Act.put _ (some 62) _=_
                                  simp only [Act.put,ls_,lz_,lc_,i64_w,i32_w]
                                  rfl
                                 exact norm_ (by first|(simp only [putAll,Act.put,ls_,lz_,lc_];done)|(simp only [putAll,Act.put,ls_,lz_,lc_];rfl)) (hJ2_8 (v180) _ ⟨(by (with_reducible repeat (first|apply Kd.R_alloc|apply Kd.R_drewN|apply Kd.R_drew));exact HO181.out),(by repeat (first|(with_reducible first|exact HB.out|apply ba_|apply pd_|apply b1_)|exact HB.out))⟩)
                                ·skip
                                 refine Kd.R_lit_step Kd.string _ 9 ?hg (N:=64) ?hd (xs:=([(⟨#[]⟩:ByteArray),(⟨#[]⟩:ByteArray),(⟨#[10]⟩:ByteArray),(⟨#[13]⟩:ByteArray),(⟨#[9]⟩:ByteArray)]:List ByteArray)) (inner:=[.string (⟨#[]⟩:ByteArray),.string (⟨#[]⟩:ByteArray),.string (⟨#[10]⟩:ByteArray),.string (⟨#[13]⟩:ByteArray),.string (⟨#[9]⟩:ByteArray)]) (ok:=fun _=>True) (okp:=fun _=>True) ?hr ?hp (fun _ hk=>hk) trivial (Below.refl _ _) (Nat.le_refl _) (by simp) ?_;(case hd=>rfl);(case hg=>rfl);(case hr=>first|(go_simp;done)|(go_simp;rfl)|((first|(obtain ⟨_,_,rfl⟩:=Kd.R_slice HO151.out)|(obtain ⟨_,_,rfl⟩:=Kd.S_slice HO151.out)|skip);(first|(obtain ⟨_,_,rfl⟩:=Kd.R_slice HO157.out)|(obtain ⟨_,_,rfl⟩:=Kd.S_slice HO157.out)|skip);(first|(obtain ⟨_,_,rfl⟩:=Kd.R_slice HO160.out)|(obtain ⟨_,_,rfl⟩:=Kd.S_slice HO160.out)|skip);(first|(obtain ⟨_,_,rfl⟩:=Kd.R_slice HO165.out)|(obtain ⟨_,_,rfl⟩:=Kd.S_slice HO165.out)|skip);(first|(obtain ⟨_,_,rfl⟩:=Kd.R_slice HO168.out)|(obtain ⟨_,_,rfl⟩:=Kd.S_slice HO168.out)|skip);(first|(obtain ⟨_,_,rfl⟩:=Kd.R_slice HO173.out)|(obtain ⟨_,_,rfl⟩:=Kd.S_slice HO173.out)|skip);(first|(obtain ⟨_,_,rfl⟩:=Kd.R_slice HO176.out)|(obtain ⟨_,_,rfl⟩:=Kd.S_slice HO176.out)|skip);(first|(obtain ⟨_,_,rfl⟩:=Kd.R_slice HO181.out)|(obtain ⟨_,_,rfl⟩:=Kd.S_slice HO181.out)|skip);(first|(obtain ⟨_,_,rfl⟩:=Kd.R_slice HO184.out)|(obtain ⟨_,_,rfl⟩:=Kd.S_slice HO184.out)|skip);first|(go_simp;done)|(go_simp;rfl)));(case hp=>exact (Reps.one (show Kd.M Kd.string _ _ _ (⟨#[]⟩:ByteArray) [.string (⟨#[]⟩:ByteArray)] from rfl) (Reps.one (show Kd.M Kd.string _ _ _ (⟨#[]⟩:ByteArray) [.string (⟨#[]⟩:ByteArray)] from rfl) (Reps.one (show Kd.M Kd.string _ _ _ (⟨#[10]⟩:ByteArray) [.string (⟨#[10]⟩:ByteArray)] from rfl) (Reps.one (show Kd.M Kd.string _ _ _ (⟨#[13]⟩:ByteArray) [.string (⟨#[13]⟩:ByteArray)] from rfl) (Reps.one (show Kd.M Kd.string _ _ _ (⟨#[9]⟩:ByteArray) [.string (⟨#[9]⟩:ByteArray)] from rfl) (Reps.none _ _)))))))
                                 intro v183 w74 ho75 hb hg_ hnew_
                                 clear hg_ hnew_
                                 (first|rw [←Ny182.out] at ho75|(simp only [Int.reduceToNat] at ho75;rw [←Ny182.out] at ho75))
                                 have n0_:=A_ (Kd.R_lower ho75 (bz_ (by repeat (first|(with_reducible first|exact HB.out|apply ba_|apply pd_|apply b1_)|exact HB.out))))
                                 have n1_:=A_ (bp_ (by repeat (first|(with_reducible first|exact HB.out|apply ba_|apply pd_|apply b1_)|exact HB.out)) hb)
                                 clear HB
                                 have HO184:=n0_
                                 have HB:=n1_
                                 clear n0_ n1_
                                 clear hb ho75
                                 obtain ⟨Ao76,co76,eo76⟩:=Kd.R_slice HO184.out
                                 subst eo76
                                 obtain ⟨ado76,fo76,_⟩:=Kd.at_string (Kd.R_reads' HO184.out).2.2 0 (by decide) (by rw [Ny182.out];simp)
                                 cases fo76
                                 refine hK.out _ _ trivial (fun hHeld=>?_)
                                 clear hK K
                                 refine norm_ (a':=?_) ?_ ?_
                                 rotate_left
                                 ·show Act.put _ (some 64) _=_
                                  simp only [Act.put,ls_,lz_,lc_,i64_w,i32_w]
                                  rfl
                                 refine pure_ (i:=9) (N:=some 69) (v:=?_) (a':=?_) #[T_,T_,F_,F_,T_,T_,T_,T_,T_,T_,F_,F_,F_,F_] rfl rfl (any_of HT_.out (by kernel_rfl)) (fun _ _ _ h=>h) (Or.inl ⟨by rfl,?_⟩) ?_ ?_
                                 rotate_left
                                 ·intro w'
                                  go_simp
                                  with_reducible rfl
                                 rotate_left
                                 ·simp only [Act.put,ls_,lz_,lc_,i64_w,i32_w]
                                  rfl
                                 exact norm_ (by first|(simp only [putAll,Act.put,ls_,lz_,lc_];done)|(simp only [putAll,Act.put,ls_,lz_,lc_];rfl)) (hJ4_8 (.slice (some ado76) y182.length co76,ado76) _ ⟨(by (with_reducible repeat (first|apply Kd.R_alloc|apply Kd.R_drewN|apply Kd.R_drew));exact HO184.out),⟨_,rfl⟩,(by repeat (first|(with_reducible first|exact HB.out|apply ba_|apply pd_|apply b1_)|exact HB.out))⟩)
                              ·skip
                               rintro ⟨v183,adz_v183⟩ w76 ⟨h0_,h1_,h2_⟩
                               have n0_:Aside0 (Kd.R Kd.string 9 w76 w.heap.size (fun _=>True) v183 y182):=⟨h0_⟩
                               have n1_:Aside0 (∃ c_,(v183:Value)=.slice (some adz_v183) y182.length c_):=⟨h1_⟩
                               have n2_:Aside0 (Below w.heap.size w w76):=⟨h2_⟩
                               clear HB
                               clear h0_ h1_ h2_
                               have HO184:=n0_
                               have HA_HO184:=n1_
                               have HB:=n2_
                               clear n0_ n1_ n2_
                               have hHeld:=trivial
                               obtain ⟨co77,eo77⟩:=HA_HO184.out
                               clear HA_HO184
                               subst eo77
                               refine norm_ (a':=?_) ?_ ?_
                               rotate_left
                               ·simp only [putAll,Act.put,ls_,lz_,lc_]
                                rfl
                               refine two_ (i:=2) (j:=8) (Ni:=some 62) (Nj:=some 68) #[T_,T_,T_,F_,T_,T_,T_,T_,F_,F_,F_,F_,F_,F_] #[T_,T_,F_,F_,T_,T_,T_,T_,T_,F_,F_,F_,F_,F_] rfl rfl rfl rfl (two_of HT_.out (by kernel_rfl)) (by decide) (by decide) (fun K hK=>?_) (fun K hK=>?_)
                               ·skip
                                refine Kd.R_lit_step (Kd.int .u8) _ 5 ?hg (N:=62) ?hd (xs:=([c9]:List Int)) (inner:=[.int .u8 (c9)]) (ok:=fun _=>True) (okp:=fun _=>True) ?hr ?hp (fun _ hk=>hk) trivial (Below.refl _ _) (Nat.le_refl _) (by simp) ?_;(case hd=>rfl);(case hg=>rfl);(case hr=>first|(go_simp;done)|(go_simp;rfl)|((first|(obtain ⟨_,_,rfl⟩:=Kd.R_slice HO151.out)|(obtain ⟨_,_,rfl⟩:=Kd.S_slice HO151.out)|skip);(first|(obtain ⟨_,_,rfl⟩:=Kd.R_slice HO157.out)|(obtain ⟨_,_,rfl⟩:=Kd.S_slice HO157.out)|skip);(first|(obtain ⟨_,_,rfl⟩:=Kd.R_slice HO160.out)|(obtain ⟨_,_,rfl⟩:=Kd.S_slice HO160.out)|skip);(first|(obtain ⟨_,_,rfl⟩:=Kd.R_slice HO165.out)|(obtain ⟨_,_,rfl⟩:=Kd.S_slice HO165.out)|skip);(first|(obtain ⟨_,_,rfl⟩:=Kd.R_slice HO168.out)|(obtain ⟨_,_,rfl⟩:=Kd.S_slice HO168.out)|skip);(first|(obtain ⟨_,_,rfl⟩:=Kd.R_slice HO173.out)|(obtain ⟨_,_,rfl⟩:=Kd.S_slice HO173.out)|skip);(first|(obtain ⟨_,_,rfl⟩:=Kd.R_slice HO176.out)|(obtain ⟨_,_,rfl⟩:=Kd.S_slice HO176.out)|skip);(first|(obtain ⟨_,_,rfl⟩:=Kd.R_slice HO181.out)|(obtain ⟨_,_,rfl⟩:=Kd.S_slice HO181.out)|skip);(first|(obtain ⟨_,_,rfl⟩:=Kd.R_slice HO184.out)|(obtain ⟨_,_,rfl⟩:=Kd.S_slice HO184.out)|skip);first|(go_simp;done)|(go_simp;rfl)));(case hp=>exact (Reps.one (show Kd.M (Kd.int .u8) _ _ _ (c9) [.int .u8 (c9)] from rfl) (Reps.none _ _)))
                                intro v180 w78 ho79 hb hg_ hnew_
                                clear hg_ hnew_
                                (first|rw [←Ny179.out] at ho79|(simp only [Int.reduceToNat] at ho79;rw [←Ny179.out] at ho79))
                                have n0_:=A_ (Kd.R_below (by (with_reducible repeat (first|apply Kd.R_alloc|apply Kd.R_drewN|apply Kd.R_drew));exact HO184.out) hb)
                                have n1_:=A_ (Kd.R_lower ho79 (bz_ (by repeat (first|(with_reducible first|exact HB.out|apply ba_|apply pd_|apply b1_)|exact HB.out))))
                                have n2_:=A_ (bp_ (by repeat (first|(with_reducible first|exact HB.out|apply ba_|apply pd_|apply b1_)|exact HB.out)) hb)
                                clear HO184
                                clear HB
                                have HO184:=n0_
                                have HO181:=n1_
                                have HB:=n2_
                                clear n0_ n1_ n2_
                                clear hb ho79
                                refine hK.out _ _ trivial (fun hHeld=>?_)
                                clear hK K
                                refine norm_ (a':=?_) ?_ ?_
                                rotate_left
                                ·show Act.put _ (some 62) _=_
                                 simp only [Act.put,ls_,lz_,lc_,i64_w,i32_w]
                                 rfl
                                exact norm_ (by first|(simp only [putAll,Act.put,ls_,lz_,lc_];done)|(simp only [putAll,Act.put,ls_,lz_,lc_];rfl)) (hJ2_4 (v180,.slice (some adz_v183) y182.length co77,adz_v183) _ ⟨(by (with_reducible repeat (first|apply Kd.R_alloc|apply Kd.R_drewN|apply Kd.R_drew));exact HO181.out),(by (with_reducible repeat (first|apply Kd.R_alloc|apply Kd.R_drewN|apply Kd.R_drew));exact HO184.out),⟨_,rfl⟩,(by repeat (first|(with_reducible first|exact HB.out|apply ba_|apply pd_|apply b1_)|exact HB.out))⟩)
                               ·skip
                                refine goes_ Try.func5 (by kernel_rfl) rfl #[.slice A1 l1.length c1,.int .i64 (wrap64 (x8_3+5)),.int .i64 5] (by rfl) rfl rfl (by (try simp only [List.map_toArray,List.map_cons,List.map_nil]);first|done|rfl|(simp only [ld_,lt_];rfl)) ?_
                                with_reducible refine (laws_at.calls _ _ l1 (wrap64 (x8_3+5)) 5 t185 _ ?side1 ?side2 A67.out).mono ?_
                                (case side1=>repeat (first|exact (Kd.C_below HR1.out HB.out)|(with_reducible refine ca_ ?_ _)|(with_reducible refine cn_ ?_ _)|(with_reducible refine cd_ ?_)))
                                (case side2=>exact HC1.out)
                                rintro e w' ⟨rfl,⟨nd,rfl⟩⟩
                                refine ⟨_,rfl,?_⟩
                                refine hK.out _ _ trivial (fun hHeld=>?_)
                                clear hK K
                                refine norm_ (a':=?_) ?_ ?_
                                rotate_left
                                ·show Act.put _ (some 68) _=_
                                 simp only [Act.put,ls_,lz_,lc_,i64_w,i32_w]
                                 rfl
                                refine pure_ (i:=9) (N:=some 69) (v:=?_) (a':=?_) #[T_,T_,F_,F_,T_,T_,T_,T_,T_,T_,F_,F_,F_,F_] rfl rfl (any_of HT_.out (by kernel_rfl)) (fun _ _ _ h=>h) (Or.inl ⟨by rfl,?_⟩) ?_ ?_
                                rotate_left
                                ·intro w'
                                 go_simp
                                 with_reducible rfl
                                rotate_left
                                ·simp only [Act.put,ls_,lz_,lc_,i64_w,i32_w]
                                 rfl
                                exact norm_ (by first|(simp only [putAll,Act.put,ls_,lz_,lc_];done)|(simp only [putAll,Act.put,ls_,lz_,lc_];rfl)) (hJ4_8 (.slice (some adz_v183) y182.length co77,adz_v183) _ ⟨(by (with_reducible repeat (first|apply Kd.R_alloc|apply Kd.R_drewN|apply Kd.R_drew));exact HO184.out),⟨_,rfl⟩,(by repeat (first|(with_reducible first|exact HB.out|apply ba_|apply pd_|apply b1_)|exact HB.out))⟩)
                             ·skip
                              rintro v180 w75 ⟨h0_,h1_⟩
                              have n0_:Aside0 (Kd.R (Kd.int .u8) 5 w75 w.heap.size (fun _=>True) v180 y179):=⟨h0_⟩
                              have n1_:Aside0 (Below w.heap.size w w75):=⟨h1_⟩
                              clear HB
                              clear h0_ h1_
                              have HO181:=n0_
                              have HB:=n1_
                              clear n0_ n1_
                              have hHeld:=trivial
                              refine norm_ (a':=?_) ?_ ?_
                              rotate_left
                              ·simp only [putAll,Act.put,ls_,lz_,lc_]
                               rfl
                              refine three_ (i:=3) (j:=4) (k:=8) (Ni:=some 63) (Nj:=some 64) (Nk:=some 68) #[T_,T_,T_,T_,F_,T_,T_,T_,F_,F_,F_,F_,F_,F_] #[T_,T_,T_,F_,T_,T_,T_,T_,F_,F_,F_,F_,F_,F_] #[T_,T_,T_,F_,F_,T_,T_,T_,T_,F_,F_,F_,F_,F_] rfl rfl rfl rfl rfl rfl (three_of HT_.out (by kernel_rfl)) (by decide) (by decide) (by decide) (fun K hK=>?_) (fun K hK=>?_) (fun K hK=>?_)
                              ·skip
                               have hcv76:=own_string (P:=Try.prog) Try.underlying22 Try.underlying5 Try.underlying9 (Kd.own_of_R HO181.out)
                               refine value_ (w1:=?_) (v:=?_) (by rfl) rfl ?_ ?_
                               rotate_left 2
                               ·go_simp
                                constructor
                                ·rfl
                                ·rfl
                               clear hcv76
                               refine hK.out _ _ trivial (fun hHeld=>?_)
                               clear hK K
                               refine norm_ (a':=?_) ?_ ?_
                               rotate_left
                               ·show Act.put _ (some 63) _=_
                                simp only [Act.put,ls_,lz_,lc_,i64_w,i32_w]
                                rfl
                               exact norm_ (by first|(simp only [putAll,Act.put,ls_,lz_,lc_];done)|(simp only [putAll,Act.put,ls_,lz_,lc_];rfl)) (hJ2_3 (v180) _ ⟨(by (with_reducible repeat (first|apply Kd.R_alloc|apply Kd.R_drewN|apply Kd.R_drew));exact HO181.out),(by repeat (first|(with_reducible first|exact HB.out|apply ba_|apply pd_|apply b1_)|exact HB.out))⟩)
                              ·skip
                               refine Kd.R_lit_step Kd.string _ 9 ?hg (N:=64) ?hd (xs:=([(⟨#[]⟩:ByteArray),(⟨#[]⟩:ByteArray),(⟨#[10]⟩:ByteArray),(⟨#[13]⟩:ByteArray),(⟨#[9]⟩:ByteArray)]:List ByteArray)) (inner:=[.string (⟨#[]⟩:ByteArray),.string (⟨#[]⟩:ByteArray),.string (⟨#[10]⟩:ByteArray),.string (⟨#[13]⟩:ByteArray),.string (⟨#[9]⟩:ByteArray)]) (ok:=fun _=>True) (okp:=fun _=>True) ?hr ?hp (fun _ hk=>hk) trivial (Below.refl _ _) (Nat.le_refl _) (by simp) ?_;(case hd=>rfl);(case hg=>rfl);(case hr=>first|(go_simp;done)|(go_simp;rfl)|((first|(obtain ⟨_,_,rfl⟩:=Kd.R_slice HO151.out)|(obtain ⟨_,_,rfl⟩:=Kd.S_slice HO151.out)|skip);(first|(obtain ⟨_,_,rfl⟩:=Kd.R_slice HO157.out)|(obtain ⟨_,_,rfl⟩:=Kd.S_slice HO157.out)|skip);(first|(obtain ⟨_,_,rfl⟩:=Kd.R_slice HO160.out)|(obtain ⟨_,_,rfl⟩:=Kd.S_slice HO160.out)|skip);(first|(obtain ⟨_,_,rfl⟩:=Kd.R_slice HO165.out)|(obtain ⟨_,_,rfl⟩:=Kd.S_slice HO165.out)|skip);(first|(obtain ⟨_,_,rfl⟩:=Kd.R_slice HO168.out)|(obtain ⟨_,_,rfl⟩:=Kd.S_slice HO168.out)|skip);(first|(obtain ⟨_,_,rfl⟩:=Kd.R_slice HO173.out)|(obtain ⟨_,_,rfl⟩:=Kd.S_slice HO173.out)|skip);(first|(obtain ⟨_,_,rfl⟩:=Kd.R_slice HO176.out)|(obtain ⟨_,_,rfl⟩:=Kd.S_slice HO176.out)|skip);(first|(obtain ⟨_,_,rfl⟩:=Kd.R_slice HO181.out)|(obtain ⟨_,_,rfl⟩:=Kd.S_slice HO181.out)|skip);(first|(obtain ⟨_,_,rfl⟩:=Kd.R_slice HO184.out)|(obtain ⟨_,_,rfl⟩:=Kd.S_slice HO184.out)|skip);first|(go_simp;done)|(go_simp;rfl)));(case hp=>exact (Reps.one (show Kd.M Kd.string _ _ _ (⟨#[]⟩:ByteArray) [.string (⟨#[]⟩:ByteArray)] from rfl) (Reps.one (show Kd.M Kd.string _ _ _ (⟨#[]⟩:ByteArray) [.string (⟨#[]⟩:ByteArray)] from rfl) (Reps.one (show Kd.M Kd.string _ _ _ (⟨#[10]⟩:ByteArray) [.string (⟨#[10]⟩:ByteArray)] from rfl) (Reps.one (show Kd.M Kd.string _ _ _ (⟨#[13]⟩:ByteArray) [.string (⟨#[13]⟩:ByteArray)] from rfl) (Reps.one (show Kd.M Kd.string _ _ _ (⟨#[9]⟩:ByteArray) [.string (⟨#[9]⟩:ByteArray)] from rfl) (Reps.none _ _)))))))
                               intro v183 w76 ho77 hb hg_ hnew_
                               clear hg_ hnew_
                               (first|rw [←Ny182.out] at ho77|(simp only [Int.reduceToNat] at ho77;rw [←Ny182.out] at ho77))
                               have n0_:=A_ (Kd.R_below (by (with_reducible repeat (first|apply Kd.R_alloc|apply Kd.R_drewN|apply Kd.R_drew));exact HO181.out) hb)
                               have n1_:=A_ (Kd.R_lower ho77 (bz_ (by repeat (first|(with_reducible first|exact HB.out|apply ba_|apply pd_|apply b1_)|exact HB.out))))
                               have n2_:=A_ (bp_ (by repeat (first|(with_reducible first|exact HB.out|apply ba_|apply pd_|apply b1_)|exact HB.out)) hb)
                               clear HO181
                               clear HB
                               have HO181:=n0_
                               have HO184:=n1_
                               have HB:=n2_
                               clear n0_ n1_ n2_
                               clear hb ho77
                               obtain ⟨Ao78,co78,eo78⟩:=Kd.R_slice HO184.out
                               subst eo78
                               obtain ⟨ado78,fo78,_⟩:=Kd.at_string (Kd.R_reads' HO184.out).2.2 0 (by decide) (by rw [Ny182.out];simp)
                               cases fo78
                               refine hK.out _ _ trivial (fun hHeld=>?_)
                               clear hK K
                               refine norm_ (a':=?_) ?_ ?_
                               rotate_left
                               ·show Act.put _ (some 64) _=_
                                simp only [Act.put,ls_,lz_,lc_,i64_w,i32_w]
                                rfl
                               exact norm_ (by first|(simp only [putAll,Act.put,ls_,lz_,lc_];done)|(simp only [putAll,Act.put,ls_,lz_,lc_];rfl)) (hJ2_4 (v180,.slice (some ado78) y182.length co78,ado78) _ ⟨(by (with_reducible repeat (first|apply Kd.R_alloc|apply Kd.R_drewN|apply Kd.R_drew));exact HO181.out),(by (with_reducible repeat (first|apply Kd.R_alloc|apply Kd.R_drewN|apply Kd.R_drew));exact HO184.out),⟨_,rfl⟩,(by repeat (first|(with_reducible first|exact HB.out|apply ba_|apply pd_|apply b1_)|exact HB.out))⟩)
                              ·skip
                               refine goes_ Try.func5 (by kernel_rfl) rfl #[.slice A1 l1.length c1,.int .i64 (wrap64 (x8_3+5)),.int .i64 5] (by rfl) rfl rfl (by (try simp only [List.map_toArray,List.map_cons,List.map_nil]);first|done|rfl|(simp only [ld_,lt_];rfl)) ?_
                               with_reducible refine (laws_at.calls _ _ l1 (wrap64 (x8_3+5)) 5 t185 _ ?side1 ?side2 A67.out).mono ?_
                               (case side1=>repeat (first|exact (Kd.C_below HR1.out HB.out)|(with_reducible refine ca_ ?_ _)|(with_reducible refine cn_ ?_ _)|(with_reducible refine cd_ ?_)))
                               (case side2=>exact HC1.out)
                               rintro e w' ⟨rfl,⟨nd,rfl⟩⟩
                               refine ⟨_,rfl,?_⟩
                               refine hK.out _ _ trivial (fun hHeld=>?_)
                               clear hK K
                               refine norm_ (a':=?_) ?_ ?_
                               rotate_left
                               ·show Act.put _ (some 68) _=_
                                simp only [Act.put,ls_,lz_,lc_,i64_w,i32_w]
                                rfl
                               exact norm_ (by first|(simp only [putAll,Act.put,ls_,lz_,lc_];done)|(simp only [putAll,Act.put,ls_,lz_,lc_];rfl)) (hJ2_8 (v180) _ ⟨(by (with_reducible repeat (first|apply Kd.R_alloc|apply Kd.R_drewN|apply Kd.R_drew));exact HO181.out),(by repeat (first|(with_reducible first|exact HB.out|apply ba_|apply pd_|apply b1_)|exact HB.out))⟩)
                            ·skip
                             rintro ⟨v183,adz_v183⟩ w76 ⟨h0_,h1_,h2_⟩
                             have n0_:Aside0 (Kd.R Kd.string 9 w76 w.heap.size (fun _=>True) v183 y182):=⟨h0_⟩
                             have n1_:Aside0 (∃ c_,(v183:Value)=.slice (some adz_v183) y182.length c_):=⟨h1_⟩
                             have n2_:Aside0 (Below w.heap.size w w76):=⟨h2_⟩
                             clear HB
                             clear h0_ h1_ h2_
                             have HO184:=n0_
                             have HA_HO184:=n1_
                             have HB:=n2_
                             clear n0_ n1_ n2_
                             have hHeld:=trivial
                             obtain ⟨co77,eo77⟩:=HA_HO184.out
                             clear HA_HO184
                             subst eo77
                             refine norm_ (a':=?_) ?_ ?_
                             rotate_left
                             ·simp only [putAll,Act.put,ls_,lz_,lc_]
                              rfl
                             refine two_ (i:=2) (j:=10) (Ni:=some 62) (Nj:=some 70) #[T_,T_,T_,F_,T_,T_,T_,T_,T_,T_,F_,F_,F_,F_] #[T_,T_,F_,F_,T_,T_,T_,T_,T_,T_,T_,F_,F_,F_] rfl rfl rfl rfl (two_of HT_.out (by kernel_rfl)) (by decide) (by decide) (fun K hK=>?_) (fun K hK=>?_)
                             ·skip
                              refine Kd.R_lit_step (Kd.int .u8) _ 5 ?hg (N:=62) ?hd (xs:=([c9]:List Int)) (inner:=[.int .u8 (c9)]) (ok:=fun _=>True) (okp:=fun _=>True) ?hr ?hp (fun _ hk=>hk) trivial (Below.refl _ _) (Nat.le_refl _) (by simp) ?_;(case hd=>rfl);(case hg=>rfl);(case hr=>first|(go_simp;done)|(go_simp;rfl)|((first|(obtain ⟨_,_,rfl⟩:=Kd.R_slice HO151.out)|(obtain ⟨_,_,rfl⟩:=Kd.S_slice HO151.out)|skip);(first|(obtain ⟨_,_,rfl⟩:=Kd.R_slice HO157.out)|(obtain ⟨_,_,rfl⟩:=Kd.S_slice HO157.out)|skip);(first|(obtain ⟨_,_,rfl⟩:=Kd.R_slice HO160.out)|(obtain ⟨_,_,rfl⟩:=Kd.S_slice HO160.out)|skip);(first|(obtain ⟨_,_,rfl⟩:=Kd.R_slice HO165.out)|(obtain ⟨_,_,rfl⟩:=Kd.S_slice HO165.out)|skip);(first|(obtain ⟨_,_,rfl⟩:=Kd.R_slice HO168.out)|(obtain ⟨_,_,rfl⟩:=Kd.S_slice HO168.out)|skip);(first|(obtain ⟨_,_,rfl⟩:=Kd.R_slice HO173.out)|(obtain ⟨_,_,rfl⟩:=Kd.S_slice HO173.out)|skip);(first|(obtain ⟨_,_,rfl⟩:=Kd.R_slice HO176.out)|(obtain ⟨_,_,rfl⟩:=Kd.S_slice HO176.out)|skip);(first|(obtain ⟨_,_,rfl⟩:=Kd.R_slice HO181.out)|(obtain ⟨_,_,rfl⟩:=Kd.S_slice HO181.out)|skip);(first|(obtain ⟨_,_,rfl⟩:=Kd.R_slice HO184.out)|(obtain ⟨_,_,rfl⟩:=Kd.S_slice HO184.out)|skip);first|(go_simp;done)|(go_simp;rfl)));(case hp=>exact (Reps.one (show Kd.M (Kd.int .u8) _ _ _ (c9) [.int .u8 (c9)] from rfl) (Reps.none _ _)))
                              intro v180 w78 ho79 hb hg_ hnew_
                              clear hg_ hnew_
                              (first|rw [←Ny179.out] at ho79|(simp only [Int.reduceToNat] at ho79;rw [←Ny179.out] at ho79))
                              have n0_:=A_ (Kd.R_below (by (with_reducible repeat (first|apply Kd.R_alloc|apply Kd.R_drewN|apply Kd.R_drew));exact HO184.out) hb)
                              have n1_:=A_ (Kd.R_lower ho79 (bz_ (by repeat (first|(with_reducible first|exact HB.out|apply ba_|apply pd_|apply b1_)|exact HB.out))))
                              have n2_:=A_ (bp_ (by repeat (first|(with_reducible first|exact HB.out|apply ba_|apply pd_|apply b1_)|exact HB.out)) hb)
                              clear HO184
                              clear HB
                              have HO184:=n0_
                              have HO181:=n1_
                              have HB:=n2_
                              clear n0_ n1_ n2_
                              clear hb ho79
                              refine hK.out _ _ trivial (fun hHeld=>?_)
                              clear hK K
                              refine norm_ (a':=?_) ?_ ?_
                              rotate_left
                              ·show Act.put _ (some 62) _=_
                               simp only [Act.put,ls_,lz_,lc_,i64_w,i32_w]
                               rfl
                              exact norm_ (by first|(simp only [putAll,Act.put,ls_,lz_,lc_];done)|(simp only [putAll,Act.put,ls_,lz_,lc_];rfl)) (hJ2_4_8 (v180,.slice (some adz_v183) y182.length co77,adz_v183) _ ⟨(by (with_reducible repeat (first|apply Kd.R_alloc|apply Kd.R_drewN|apply Kd.R_drew));exact HO181.out),(by (with_reducible repeat (first|apply Kd.R_alloc|apply Kd.R_drewN|apply Kd.R_drew));exact HO184.out),⟨_,rfl⟩,(by repeat (first|(with_reducible first|exact HB.out|apply ba_|apply pd_|apply b1_)|exact HB.out))⟩)
                             ·skip
                              (have p186:0≤(t185:Int):=od_ (by first|(with_reducible assumption)|assumption);have q186:t185<(y182.length:Int):=od_ (by first|(with_reducible assumption)|assumption);obtain ⟨ad186,e186,hx186_0⟩:=Kd.at_string (Kd.R_reads' HO184.out).2.2 t185 p186 q186;obtain rfl:adz_v183=ad186:=(by injection e186))
                              refine value_ (w1:=?_) (v:=?_) (by rfl) rfl ?_ ?_
                              rotate_left 2
                              ·go_simp
                               constructor
                               ·rfl
                               ·rfl
                              clear hx186_0
                              refine hK.out _ _ trivial (fun hHeld=>?_)
                              clear hK K
                              refine norm_ (a':=?_) ?_ ?_
                              rotate_left
                              ·show Act.put _ (some 70) _=_
                               simp only [Act.put,ls_,lz_,lc_,i64_w,i32_w]
                               rfl
                              exact norm_ (by first|(simp only [putAll,Act.put,ls_,lz_,lc_];done)|(simp only [putAll,Act.put,ls_,lz_,lc_];rfl)) (hJ4_8_10 (.slice (some adz_v183) y182.length co77,adz_v183) _ ⟨(by (with_reducible repeat (first|apply Kd.R_alloc|apply Kd.R_drewN|apply Kd.R_drew));exact HO184.out),⟨_,rfl⟩,(by repeat (first|(with_reducible first|exact HB.out|apply ba_|apply pd_|apply b1_)|exact HB.out))⟩)
                           ·skip
                            rintro v180 w75 ⟨h0_,h1_⟩
                            have n0_:Aside0 (Kd.R (Kd.int .u8) 5 w75 w.heap.size (fun _=>True) v180 y179):=⟨h0_⟩
                            have n1_:Aside0 (Below w.heap.size w w75):=⟨h1_⟩
                            clear HB
                            clear h0_ h1_
                            have HO181:=n0_
                            have HB:=n1_
                            clear n0_ n1_
                            have hHeld:=trivial
                            refine norm_ (a':=?_) ?_ ?_
                            rotate_left
                            ·simp only [putAll,Act.put,ls_,lz_,lc_]
                             rfl
                            refine two_ (i:=3) (j:=4) (Ni:=some 63) (Nj:=some 64) #[T_,T_,T_,T_,F_,T_,T_,T_,T_,F_,F_,F_,F_,F_] #[T_,T_,T_,F_,T_,T_,T_,T_,T_,F_,F_,F_,F_,F_] rfl rfl rfl rfl (two_of HT_.out (by kernel_rfl)) (by decide) (by decide) (fun K hK=>?_) (fun K hK=>?_)
                            ·skip
                             have hcv76:=own_string (P:=Try.prog) Try.underlying22 Try.underlying5 Try.underlying9 (Kd.own_of_R HO181.out)
                             refine value_ (w1:=?_) (v:=?_) (by rfl) rfl ?_ ?_
                             rotate_left 2
                             ·go_simp
                              constructor
                              ·rfl
                              ·rfl
                             clear hcv76
                             refine hK.out _ _ trivial (fun hHeld=>?_)
                             clear hK K
                             refine norm_ (a':=?_) ?_ ?_
                             rotate_left
                             ·show Act.put _ (some 63) _=_
                              simp only [Act.put,ls_,lz_,lc_,i64_w,i32_w]
                              rfl
                             exact norm_ (by first|(simp only [putAll,Act.put,ls_,lz_,lc_];done)|(simp only [putAll,Act.put,ls_,lz_,lc_];rfl)) (hJ2_3_8 (v180) _ ⟨(by (with_reducible repeat (first|apply Kd.R_alloc|apply Kd.R_drewN|apply Kd.R_drew));exact HO181.out),(by repeat (first|(with_reducible first|exact HB.out|apply ba_|apply pd_|apply b1_)|exact HB.out))⟩)
                            ·skip
                             refine Kd.R_lit_step Kd.string _ 9 ?hg (N:=64) ?hd (xs:=([(⟨#[]⟩:ByteArray),(⟨#[]⟩:ByteArray),(⟨#[10]⟩:ByteArray),(⟨#[13]⟩:ByteArray),(⟨#[9]⟩:ByteArray)]:List ByteArray)) (inner:=[.string (⟨#[]⟩:ByteArray),.string (⟨#[]⟩:ByteArray),.string (⟨#[10]⟩:ByteArray),.string (⟨#[13]⟩:ByteArray),.string (⟨#[9]⟩:ByteArray)]) (ok:=fun _=>True) (okp:=fun _=>True) ?hr ?hp (fun _ hk=>hk) trivial (Below.refl _ _) (Nat.le_refl _) (by simp) ?_;(case hd=>rfl);(case hg=>rfl);(case hr=>first|(go_simp;done)|(go_simp;rfl)|((first|(obtain ⟨_,_,rfl⟩:=Kd.R_slice HO151.out)|(obtain ⟨_,_,rfl⟩:=Kd.S_slice HO151.out)|skip);(first|(obtain ⟨_,_,rfl⟩:=Kd.R_slice HO157.out)|(obtain ⟨_,_,rfl⟩:=Kd.S_slice HO157.out)|skip);(first|(obtain ⟨_,_,rfl⟩:=Kd.R_slice HO160.out)|(obtain ⟨_,_,rfl⟩:=Kd.S_slice HO160.out)|skip);(first|(obtain ⟨_,_,rfl⟩:=Kd.R_slice HO165.out)|(obtain ⟨_,_,rfl⟩:=Kd.S_slice HO165.out)|skip);(first|(obtain ⟨_,_,rfl⟩:=Kd.R_slice HO168.out)|(obtain ⟨_,_,rfl⟩:=Kd.S_slice HO168.out)|skip);(first|(obtain ⟨_,_,rfl⟩:=Kd.R_slice HO173.out)|(obtain ⟨_,_,rfl⟩:=Kd.S_slice HO173.out)|skip);(first|(obtain ⟨_,_,rfl⟩:=Kd.R_slice HO176.out)|(obtain ⟨_,_,rfl⟩:=Kd.S_slice HO176.out)|skip);(first|(obtain ⟨_,_,rfl⟩:=Kd.R_slice HO181.out)|(obtain ⟨_,_,rfl⟩:=Kd.S_slice HO181.out)|skip);(first|(obtain ⟨_,_,rfl⟩:=Kd.R_slice HO184.out)|(obtain ⟨_,_,rfl⟩:=Kd.S_slice HO184.out)|skip);first|(go_simp;done)|(go_simp;rfl)));(case hp=>exact (Reps.one (show Kd.M Kd.string _ _ _ (⟨#[]⟩:ByteArray) [.string (⟨#[]⟩:ByteArray)] from rfl) (Reps.one (show Kd.M Kd.string _ _ _ (⟨#[]⟩:ByteArray) [.string (⟨#[]⟩:ByteArray)] from rfl) (Reps.one (show Kd.M Kd.string _ _ _ (⟨#[10]⟩:ByteArray) [.string (⟨#[10]⟩:ByteArray)] from rfl) (Reps.one (show Kd.M Kd.string _ _ _ (⟨#[13]⟩:ByteArray) [.string (⟨#[13]⟩:ByteArray)] from rfl) (Reps.one (show Kd.M Kd.string _ _ _ (⟨#[9]⟩:ByteArray) [.string (⟨#[9]⟩:ByteArray)] from rfl) (Reps.none _ _)))))))
                             intro v183 w76 ho77 hb hg_ hnew_
                             clear hg_ hnew_
                             (first|rw [←Ny182.out] at ho77|(simp only [Int.reduceToNat] at ho77;rw [←Ny182.out] at ho77))
                             have n0_:=A_ (Kd.R_below (by (with_reducible repeat (first|apply Kd.R_alloc|apply Kd.R_drewN|apply Kd.R_drew));exact HO181.out) hb)
                             have n1_:=A_ (Kd.R_lower ho77 (bz_ (by repeat (first|(with_reducible first|exact HB.out|apply ba_|apply pd_|apply b1_)|exact HB.out))))
                             have n2_:=A_ (bp_ (by repeat (first|(with_reducible first|exact HB.out|apply ba_|apply pd_|apply b1_)|exact HB.out)) hb)
                             clear HO181
                             clear HB
                             have HO181:=n0_
                             have HO184:=n1_
                             have HB:=n2_
                             clear n0_ n1_ n2_
                             clear hb ho77
                             obtain ⟨Ao78,co78,eo78⟩:=Kd.R_slice HO184.out
                             subst eo78
                             obtain ⟨ado78,fo78,_⟩:=Kd.at_string (Kd.R_reads' HO184.out).2.2 0 (by decide) (by rw [Ny182.out];simp)
                             cases fo78
                             refine hK.out _ _ trivial (fun hHeld=>?_)
                             clear hK K
                             refine norm_ (a':=?_) ?_ ?_
                             rotate_left
                             ·show Act.put _ (some 64) _=_
                              simp only [Act.put,ls_,lz_,lc_,i64_w,i32_w]
                              rfl
                             refine pure_ (i:=9) (N:=some 69) (v:=?_) (a':=?_) #[T_,T_,T_,F_,T_,T_,T_,T_,T_,T_,F_,F_,F_,F_] rfl rfl (any_of HT_.out (by kernel_rfl)) (fun _ _ _ h=>h) (Or.inl ⟨by rfl,?_⟩) ?_ ?_
                             rotate_left
                             ·intro w'
                              go_simp
                              with_reducible rfl
                             rotate_left
                             ·simp only [Act.put,ls_,lz_,lc_,i64_w,i32_w]
                              rfl
                             exact norm_ (by first|(simp only [putAll,Act.put,ls_,lz_,lc_];done)|(simp only [putAll,Act.put,ls_,lz_,lc_];rfl)) (hJ2_4_8 (v180,.slice (some ado78) y182.length co78,ado78) _ ⟨(by (with_reducible repeat (first|apply Kd.R_alloc|apply Kd.R_drewN|apply Kd.R_drew));exact HO181.out),(by (with_reducible repeat (first|apply Kd.R_alloc|apply Kd.R_drewN|apply Kd.R_drew));exact HO184.out),⟨_,rfl⟩,(by repeat (first|(with_reducible first|exact HB.out|apply ba_|apply pd_|apply b1_)|exact HB.out))⟩)
                          ·skip
                           rintro ⟨v180,v183,adz_v183⟩ w78 ⟨h0_,h1_,h2_,h3_⟩
                           have n0_:Aside0 (Kd.R (Kd.int .u8) 5 w78 w.heap.size (fun _=>True) v180 y179):=⟨h0_⟩
                           have n1_:Aside0 (Kd.R Kd.string 9 w78 w.heap.size (fun _=>True) v183 y182):=⟨h1_⟩
                           have n2_:Aside0 (∃ c_,(v183:Value)=.slice (some adz_v183) y182.length c_):=⟨h2_⟩
                           have n3_:Aside0 (Below w.heap.size w w78):=⟨h3_⟩
                           clear HB
                           clear h0_ h1_ h2_ h3_
                           have HO181:=n0_
                           have HO184:=n1_
                           have HA_HO184:=n2_
                           have HB:=n3_
                           clear n0_ n1_ n2_ n3_
                           have hHeld:=trivial
                           obtain ⟨co79,eo79⟩:=HA_HO184.out
                           clear HA_HO184
                           subst eo79
                           refine norm_ (a':=?_) ?_ ?_
                           rotate_left
                           ·simp only [putAll,Act.put,ls_,lz_,lc_]
                            rfl
                           refine two_ (i:=3) (j:=8) (Ni:=some 63) (Nj:=some 68) #[T_,T_,T_,T_,T_,T_,T_,T_,F_,F_,F_,F_,F_,F_] #[T_,T_,T_,F_,T_,T_,T_,T_,T_,F_,F_,F_,F_,F_] rfl rfl rfl rfl (two_of HT_.out (by kernel_rfl)) (by decide) (by decide) (fun K hK=>?_) (fun K hK=>?_)
                           ·skip
                            have hcv80:=own_string (P:=Try.prog) Try.underlying22 Try.underlying5 Try.underlying9 (Kd.own_of_R HO181.out)
                            refine value_ (w1:=?_) (v:=?_) (by rfl) rfl ?_ ?_
                            rotate_left 2
                            ·go_simp
                             constructor
                             ·rfl
                             ·rfl
                            clear hcv80
                            refine hK.out _ _ trivial (fun hHeld=>?_)
                            clear hK K
                            refine norm_ (a':=?_) ?_ ?_
                            rotate_left
                            ·show Act.put _ (some 63) _=_
                             simp only [Act.put,ls_,lz_,lc_,i64_w,i32_w]
                             rfl
                            exact norm_ (by first|(simp only [putAll,Act.put,ls_,lz_,lc_];done)|(simp only [putAll,Act.put,ls_,lz_,lc_];rfl)) (hJ2_3_4 (v180,.slice (some adz_v183) y182.length co79,adz_v183) _ ⟨(by (with_reducible repeat (first|apply Kd.R_alloc|apply Kd.R_drewN|apply Kd.R_drew));exact HO181.out),(by (with_reducible repeat (first|apply Kd.R_alloc|apply Kd.R_drewN|apply Kd.R_drew));exact HO184.out),⟨_,rfl⟩,(by repeat (first|(with_reducible first|exact HB.out|apply ba_|apply pd_|apply b1_)|exact HB.out))⟩)
                           ·skip
                            refine goes_ Try.func5 (by kernel_rfl) rfl #[.slice A1 l1.length c1,.int .i64 (wrap64 (x8_3+5)),.int .i64 5] (by rfl) rfl rfl (by (try simp only [List.map_toArray,List.map_cons,List.map_nil]);first|done|rfl|(simp only [ld_,lt_];rfl)) ?_
                            with_reducible refine (laws_at.calls _ _ l1 (wrap64 (x8_3+5)) 5 t185 _ ?side1 ?side2 A67.out).mono ?_
                            (case side1=>repeat (first|exact (Kd.C_below HR1.out HB.out)|(with_reducible refine ca_ ?_ _)|(with_reducible refine cn_ ?_ _)|(with_reducible refine cd_ ?_)))
                            (case side2=>exact HC1.out)
                            rintro e w' ⟨rfl,⟨nd,rfl⟩⟩
                            refine ⟨_,rfl,?_⟩
                            refine hK.out _ _ trivial (fun hHeld=>?_)
                            clear hK K
                            refine norm_ (a':=?_) ?_ ?_
                            rotate_left
                            ·show Act.put _ (some 68) _=_
                             simp only [Act.put,ls_,lz_,lc_,i64_w,i32_w]
                             rfl
                            refine pure_ (i:=9) (N:=some 69) (v:=?_) (a':=?_) #[T_,T_,T_,F_,T_,T_,T_,T_,T_,T_,F_,F_,F_,F_] rfl rfl (any_of HT_.out (by kernel_rfl)) (fun _ _ _ h=>h) (Or.inl ⟨by rfl,?_⟩) ?_ ?_
                            rotate_left
                            ·intro w'
                             go_simp
                             with_reducible rfl
                            rotate_left
                            ·simp only [Act.put,ls_,lz_,lc_,i64_w,i32_w]
                             rfl
                            exact norm_ (by first|(simp only [putAll,Act.put,ls_,lz_,lc_];done)|(simp only [putAll,Act.put,ls_,lz_,lc_];rfl)) (hJ2_4_8 (v180,.slice (some adz_v183) y182.length co79,adz_v183) _ ⟨(by (with_reducible repeat (first|apply Kd.R_alloc|apply Kd.R_drewN|apply Kd.R_drew));exact HO181.out),(by (with_reducible repeat (first|apply Kd.R_alloc|apply Kd.R_drewN|apply Kd.R_drew));exact HO184.out),⟨_,rfl⟩,(by repeat (first|(with_reducible first|exact HB.out|apply ba_|apply pd_|apply b1_)|exact HB.out))⟩)
                         ·skip
                          rintro v180 w76 ⟨h0_,h1_⟩
                          have n0_:Aside0 (Kd.R (Kd.int .u8) 5 w76 w.heap.size (fun _=>True) v180 y179):=⟨h0_⟩
                          have n1_:Aside0 (Below w.heap.size w w76):=⟨h1_⟩
                          clear HB
                          clear h0_ h1_
                          have HO181:=n0_
                          have HB:=n1_
                          clear n0_ n1_
                          have hHeld:=trivial
                          refine norm_ (a':=?_) ?_ ?_
                          rotate_left
                          ·simp only [putAll,Act.put,ls_,lz_,lc_]
                           rfl
                          refine two_ (i:=4) (j:=8) (Ni:=some 64) (Nj:=some 68) #[T_,T_,T_,T_,T_,T_,T_,T_,F_,F_,F_,F_,F_,F_] #[T_,T_,T_,T_,F_,T_,T_,T_,T_,F_,F_,F_,F_,F_] rfl rfl rfl rfl (two_of HT_.out (by kernel_rfl)) (by decide) (by decide) (fun K hK=>?_) (fun K hK=>?_)
                          ·skip
                           refine Kd.R_lit_step Kd.string _ 9 ?hg (N:=64) ?hd (xs:=([(⟨#[]⟩:ByteArray),(⟨#[]⟩:ByteArray),(⟨#[10]⟩:ByteArray),(⟨#[13]⟩:ByteArray),(⟨#[9]⟩:ByteArray)]:List ByteArray)) (inner:=[.string (⟨#[]⟩:ByteArray),.string (⟨#[]⟩:ByteArray),.string (⟨#[10]⟩:ByteArray),.string (⟨#[13]⟩:ByteArray),.string (⟨#[9]⟩:ByteArray)]) (ok:=fun _=>True) (okp:=fun _=>True) ?hr ?hp (fun _ hk=>hk) trivial (Below.refl _ _) (Nat.le_refl _) (by simp) ?_;(case hd=>rfl);(case hg=>rfl);(case hr=>first|(go_simp;done)|(go_simp;rfl)|((first|(obtain ⟨_,_,rfl⟩:=Kd.R_slice HO151.out)|(obtain ⟨_,_,rfl⟩:=Kd.S_slice HO151.out)|skip);(first|(obtain ⟨_,_,rfl⟩:=Kd.R_slice HO157.out)|(obtain ⟨_,_,rfl⟩:=Kd.S_slice HO157.out)|skip);(first|(obtain ⟨_,_,rfl⟩:=Kd.R_slice HO160.out)|(obtain ⟨_,_,rfl⟩:=Kd.S_slice HO160.out)|skip);(first|(obtain ⟨_,_,rfl⟩:=Kd.R_slice HO165.out)|(obtain ⟨_,_,rfl⟩:=Kd.S_slice HO165.out)|skip);(first|(obtain ⟨_,_,rfl⟩:=Kd.R_slice HO168.out)|(obtain ⟨_,_,rfl⟩:=Kd.S_slice HO168.out)|skip);(first|(obtain ⟨_,_,rfl⟩:=Kd.R_slice HO173.out)|(obtain ⟨_,_,rfl⟩:=Kd.S_slice HO173.out)|skip);(first|(obtain ⟨_,_,rfl⟩:=Kd.R_slice HO176.out)|(obtain ⟨_,_,rfl⟩:=Kd.S_slice HO176.out)|skip);(first|(obtain ⟨_,_,rfl⟩:=Kd.R_slice HO181.out)|(obtain ⟨_,_,rfl⟩:=Kd.S_slice HO181.out)|skip);(first|(obtain ⟨_,_,rfl⟩:=Kd.R_slice HO184.out)|(obtain ⟨_,_,rfl⟩:=Kd.S_slice HO184.out)|skip);first|(go_simp;done)|(go_simp;rfl)));(case hp=>exact (Reps.one (show Kd.M Kd.string _ _ _ (⟨#[]⟩:ByteArray) [.string (⟨#[]⟩:ByteArray)] from rfl) (Reps.one (show Kd.M Kd.string _ _ _ (⟨#[]⟩:ByteArray) [.string (⟨#[]⟩:ByteArray)] from rfl) (Reps.one (show Kd.M Kd.string _ _ _ (⟨#[10]⟩:ByteArray) [.string (⟨#[10]⟩:ByteArray)] from rfl) (Reps.one (show Kd.M Kd.string _ _ _ (⟨#[13]⟩:ByteArray) [.string (⟨#[13]⟩:ByteArray)] from rfl) (Reps.one (show Kd.M Kd.string _ _ _ (⟨#[9]⟩:ByteArray) [.string (⟨#[9]⟩:ByteArray)] from rfl) (Reps.none _ _)))))))
                           intro v183 w77 ho78 hb hg_ hnew_
                           clear hg_ hnew_
                           (first|rw [←Ny182.out] at ho78|(simp only [Int.reduceToNat] at ho78;rw [←Ny182.out] at ho78))
                           have n0_:=A_ (Kd.R_below (by (with_reducible repeat (first|apply Kd.R_alloc|apply Kd.R_drewN|apply Kd.R_drew));exact HO181.out) hb)
                           have n1_:=A_ (Kd.R_lower ho78 (bz_ (by repeat (first|(with_reducible first|exact HB.out|apply ba_|apply pd_|apply b1_)|exact HB.out))))
                           have n2_:=A_ (bp_ (by repeat (first|(with_reducible first|exact HB.out|apply ba_|apply pd_|apply b1_)|exact HB.out)) hb)
                           clear HO181
                           clear HB
                           have HO181:=n0_
                           have HO184:=n1_
                           have HB:=n2_
                           clear n0_ n1_ n2_
                           clear hb ho78
                           obtain ⟨Ao79,co79,eo79⟩:=Kd.R_slice HO184.out
                           subst eo79
                           obtain ⟨ado79,fo79,_⟩:=Kd.at_string (Kd.R_reads' HO184.out).2.2 0 (by decide) (by rw [Ny182.out];simp)
                           cases fo79
                           refine hK.out _ _ trivial (fun hHeld=>?_)
                           clear hK K
                           refine norm_ (a':=?_) ?_ ?_
                           rotate_left
                           ·show Act.put _ (some 64) _=_
                            simp only [Act.put,ls_,lz_,lc_,i64_w,i32_w]
                            rfl
                           exact norm_ (by first|(simp only [putAll,Act.put,ls_,lz_,lc_];done)|(simp only [putAll,Act.put,ls_,lz_,lc_];rfl)) (hJ2_3_4 (v180,.slice (some ado79) y182.length co79,ado79) _ ⟨(by (with_reducible repeat (first|apply Kd.R_alloc|apply Kd.R_drewN|apply Kd.R_drew));exact HO181.out),(by (with_reducible repeat (first|apply Kd.R_alloc|apply Kd.R_drewN|apply Kd.R_drew));exact HO184.out),⟨_,rfl⟩,(by repeat (first|(with_reducible first|exact HB.out|apply ba_|apply pd_|apply b1_)|exact HB.out))⟩)
                          ·skip
                           refine goes_ Try.func5 (by kernel_rfl) rfl #[.slice A1 l1.length c1,.int .i64 (wrap64 (x8_3+5)),.int .i64 5] (by rfl) rfl rfl (by (try simp only [List.map_toArray,List.map_cons,List.map_nil]);first|done|rfl|(simp only [ld_,lt_];rfl)) ?_
                           with_reducible refine (laws_at.calls _ _ l1 (wrap64 (x8_3+5)) 5 t185 _ ?side1 ?side2 A67.out).mono ?_
                           (case side1=>repeat (first|exact (Kd.C_below HR1.out HB.out)|(with_reducible refine ca_ ?_ _)|(with_reducible refine cn_ ?_ _)|(with_reducible refine cd_ ?_)))
                           (case side2=>exact HC1.out)
                           rintro e w' ⟨rfl,⟨nd,rfl⟩⟩
                           refine ⟨_,rfl,?_⟩
                           refine hK.out _ _ trivial (fun hHeld=>?_)
                           clear hK K
                           refine norm_ (a':=?_) ?_ ?_
                           rotate_left
                           ·show Act.put _ (some 68) _=_
                            simp only [Act.put,ls_,lz_,lc_,i64_w,i32_w]
                            rfl
                           exact norm_ (by first|(simp only [putAll,Act.put,ls_,lz_,lc_];done)|(simp only [putAll,Act.put,ls_,lz_,lc_];rfl)) (hJ2_3_8 (v180) _ ⟨(by (with_reducible repeat (first|apply Kd.R_alloc|apply Kd.R_drewN|apply Kd.R_drew));exact HO181.out),(by repeat (first|(with_reducible first|exact HB.out|apply ba_|apply pd_|apply b1_)|exact HB.out))⟩)
                        ·skip
                         rintro ⟨v183,adz_v183⟩ w76 ⟨h0_,h1_,h2_⟩
                         have n0_:Aside0 (Kd.R Kd.string 9 w76 w.heap.size (fun _=>True) v183 y182):=⟨h0_⟩
                         have n1_:Aside0 (∃ c_,(v183:Value)=.slice (some adz_v183) y182.length c_):=⟨h1_⟩
                         have n2_:Aside0 (Below w.heap.size w w76):=⟨h2_⟩
                         clear HB
                         clear h0_ h1_ h2_
                         have HO184:=n0_
                         have HA_HO184:=n1_
                         have HB:=n2_
                         clear n0_ n1_ n2_
                         have hHeld:=trivial
                         obtain ⟨co77,eo77⟩:=HA_HO184.out
                         clear HA_HO184
                         subst eo77
                         refine norm_ (a':=?_) ?_ ?_
                         rotate_left
                         ·simp only [putAll,Act.put,ls_,lz_,lc_]
                          rfl
                         refine one_ (i:=2) (N:=some 62) #[T_,T_,T_,F_,T_,T_,T_,T_,T_,T_,T_,F_,F_,F_] rfl rfl (one_of HT_.out (by kernel_rfl)) (by decide) (fun K hK=>?_)
                         refine Kd.R_lit_step (Kd.int .u8) _ 5 ?hg (N:=62) ?hd (xs:=([c9]:List Int)) (inner:=[.int .u8 (c9)]) (ok:=fun _=>True) (okp:=fun _=>True) ?hr ?hp (fun _ hk=>hk) trivial (Below.refl _ _) (Nat.le_refl _) (by simp) ?_;(case hd=>rfl);(case hg=>rfl);(case hr=>first|(go_simp;done)|(go_simp;rfl)|((first|(obtain ⟨_,_,rfl⟩:=Kd.R_slice HO151.out)|(obtain ⟨_,_,rfl⟩:=Kd.S_slice HO151.out)|skip);(first|(obtain ⟨_,_,rfl⟩:=Kd.R_slice HO157.out)|(obtain ⟨_,_,rfl⟩:=Kd.S_slice HO157.out)|skip);(first|(obtain ⟨_,_,rfl⟩:=Kd.R_slice HO160.out)|(obtain ⟨_,_,rfl⟩:=Kd.S_slice HO160.out)|skip);(first|(obtain ⟨_,_,rfl⟩:=Kd.R_slice HO165.out)|(obtain ⟨_,_,rfl⟩:=Kd.S_slice HO165.out)|skip);(first|(obtain ⟨_,_,rfl⟩:=Kd.R_slice HO168.out)|(obtain ⟨_,_,rfl⟩:=Kd.S_slice HO168.out)|skip);(first|(obtain ⟨_,_,rfl⟩:=Kd.R_slice HO173.out)|(obtain ⟨_,_,rfl⟩:=Kd.S_slice HO173.out)|skip);(first|(obtain ⟨_,_,rfl⟩:=Kd.R_slice HO176.out)|(obtain ⟨_,_,rfl⟩:=Kd.S_slice HO176.out)|skip);(first|(obtain ⟨_,_,rfl⟩:=Kd.R_slice HO181.out)|(obtain ⟨_,_,rfl⟩:=Kd.S_slice HO181.out)|skip);(first|(obtain ⟨_,_,rfl⟩:=Kd.R_slice HO184.out)|(obtain ⟨_,_,rfl⟩:=Kd.S_slice HO184.out)|skip);first|(go_simp;done)|(go_simp;rfl)));(case hp=>exact (Reps.one (show Kd.M (Kd.int .u8) _ _ _ (c9) [.int .u8 (c9)] from rfl) (Reps.none _ _)))
                         intro v180 w78 ho79 hb hg_ hnew_
                         clear hg_ hnew_
                         (first|rw [←Ny179.out] at ho79|(simp only [Int.reduceToNat] at ho79;rw [←Ny179.out] at ho79))
                         have n0_:=A_ (Kd.R_below (by (with_reducible repeat (first|apply Kd.R_alloc|apply Kd.R_drewN|apply Kd.R_drew));exact HO184.out) hb)
                         have n1_:=A_ (Kd.R_lower ho79 (bz_ (by repeat (first|(with_reducible first|exact HB.out|apply ba_|apply pd_|apply b1_)|exact HB.out))))
                         have n2_:=A_ (bp_ (by repeat (first|(with_reducible first|exact HB.out|apply ba_|apply pd_|apply b1_)|exact HB.out)) hb)
                         clear HO184
                         clear HB
                         have HO184:=n0_
                         have HO181:=n1_
                         have HB:=n2_
                         clear n0_ n1_ n2_
                         clear hb ho79
                         refine hK.out _ _ trivial (fun hHeld=>?_)
                         clear hK K
                         refine norm_ (a':=?_) ?_ ?_
                         rotate_left
                         ·show Act.put _ (some 62) _=_
                          simp only [Act.put,ls_,lz_,lc_,i64_w,i32_w]
                          rfl
                         exact norm_ (by first|(simp only [putAll,Act.put,ls_,lz_,lc_];done)|(simp only [putAll,Act.put,ls_,lz_,lc_];rfl)) (hJ2_4_8_10 (v180,.slice (some adz_v183) y182.length co77,adz_v183) _ ⟨(by (with_reducible repeat (first|apply Kd.R_alloc|apply Kd.R_drewN|apply Kd.R_drew));exact HO181.out),(by (with_reducible repeat (first|apply Kd.R_alloc|apply Kd.R_drewN|apply Kd.R_drew));exact HO184.out),⟨_,rfl⟩,(by repeat (first|(with_reducible first|exact HB.out|apply ba_|apply pd_|apply b1_)|exact HB.out))⟩)
                       ·skip
                        rintro ⟨v180,v183,adz_v183⟩ w78 ⟨h0_,h1_,h2_,h3_⟩
                        have n0_:Aside0 (Kd.R (Kd.int .u8) 5 w78 w.heap.size (fun _=>True) v180 y179):=⟨h0_⟩
                        have n1_:Aside0 (Kd.R Kd.string 9 w78 w.heap.size (fun _=>True) v183 y182):=⟨h1_⟩
                        have n2_:Aside0 (∃ c_,(v183:Value)=.slice (some adz_v183) y182.length c_):=⟨h2_⟩
                        have n3_:Aside0 (Below w.heap.size w w78):=⟨h3_⟩
                        clear HB
                        clear h0_ h1_ h2_ h3_
                        have HO181:=n0_
                        have HO184:=n1_
                        have HA_HO184:=n2_
                        have HB:=n3_
                        clear n0_ n1_ n2_ n3_
                        have hHeld:=trivial
                        obtain ⟨co79,eo79⟩:=HA_HO184.out
                        clear HA_HO184
                        subst eo79
                        refine norm_ (a':=?_) ?_ ?_
                        rotate_left
                        ·simp only [putAll,Act.put,ls_,lz_,lc_]
                         rfl
                        refine two_ (i:=3) (j:=10) (Ni:=some 63) (Nj:=some 70) #[T_,T_,T_,T_,T_,T_,T_,T_,T_,T_,F_,F_,F_,F_] #[T_,T_,T_,F_,T_,T_,T_,T_,T_,T_,T_,F_,F_,F_] rfl rfl rfl rfl (two_of HT_.out (by kernel_rfl)) (by decide) (by decide) (fun K hK=>?_) (fun K hK=>?_)
                        ·skip
                         have hcv80:=own_string (P:=Try.prog) Try.underlying22 Try.underlying5 Try.underlying9 (Kd.own_of_R HO181.out)
                         refine value_ (w1:=?_) (v:=?_) (by rfl) rfl ?_ ?_
                         rotate_left 2
                         ·go_simp
                          constructor
                          ·rfl
                          ·rfl
                         clear hcv80
                         refine hK.out _ _ trivial (fun hHeld=>?_)
                         clear hK K
                         refine norm_ (a':=?_) ?_ ?_
                         rotate_left
                         ·show Act.put _ (some 63) _=_
                          simp only [Act.put,ls_,lz_,lc_,i64_w,i32_w]
                          rfl
                         exact norm_ (by first|(simp only [putAll,Act.put,ls_,lz_,lc_];done)|(simp only [putAll,Act.put,ls_,lz_,lc_];rfl)) (hJ2_3_4_8 (v180,.slice (some adz_v183) y182.length co79,adz_v183) _ ⟨(by (with_reducible repeat (first|apply Kd.R_alloc|apply Kd.R_drewN|apply Kd.R_drew));exact HO181.out),(by (with_reducible repeat (first|apply Kd.R_alloc|apply Kd.R_drewN|apply Kd.R_drew));exact HO184.out),⟨_,rfl⟩,(by repeat (first|(with_reducible first|exact HB.out|apply ba_|apply pd_|apply b1_)|exact HB.out))⟩)
                        ·skip
                         (have p186:0≤(t185:Int):=od_ (by first|(with_reducible assumption)|assumption);have q186:t185<(y182.length:Int):=od_ (by first|(with_reducible assumption)|assumption);obtain ⟨ad186,e186,hx186_0⟩:=Kd.at_string (Kd.R_reads' HO184.out).2.2 t185 p186 q186;obtain rfl:adz_v183=ad186:=(by injection e186))
                         refine value_ (w1:=?_) (v:=?_) (by rfl) rfl ?_ ?_
                         rotate_left 2
                         ·go_simp
                          constructor
                          ·rfl
                          ·rfl
                         clear hx186_0
                         refine hK.out _ _ trivial (fun hHeld=>?_)
                         clear hK K
                         refine norm_ (a':=?_) ?_ ?_
                         rotate_left
                         ·show Act.put _ (some 70) _=_
                          simp only [Act.put,ls_,lz_,lc_,i64_w,i32_w]
                          rfl
                         exact norm_ (by first|(simp only [putAll,Act.put,ls_,lz_,lc_];done)|(simp only [putAll,Act.put,ls_,lz_,lc_];rfl)) (hJ2_4_8_10 (v180,.slice (some adz_v183) y182.length co79,adz_v183) _ ⟨(by (with_reducible repeat (first|apply Kd.R_alloc|apply Kd.R_drewN|apply Kd.R_drew));exact HO181.out),(by (with_reducible repeat (first|apply Kd.R_alloc|apply Kd.R_drewN|apply Kd.R_drew));exact HO184.out),⟨_,rfl⟩,(by repeat (first|(with_reducible first|exact HB.out|apply ba_|apply pd_|apply b1_)|exact HB.out))⟩)
                      ·skip
                       rintro v180 w76 ⟨h0_,h1_⟩
                       have n0_:Aside0 (Kd.R (Kd.int .u8) 5 w76 w.heap.size (fun _=>True) v180 y179):=⟨h0_⟩
                       have n1_:Aside0 (Below w.heap.size w w76):=⟨h1_⟩
                       clear HB
                       clear h0_ h1_
                       have HO181:=n0_
                       have HB:=n1_
                       clear n0_ n1_
                       have hHeld:=trivial
                       refine norm_ (a':=?_) ?_ ?_
                       rotate_left
                       ·simp only [putAll,Act.put,ls_,lz_,lc_]
                        rfl
                       refine one_ (i:=4) (N:=some 64) #[T_,T_,T_,T_,T_,T_,T_,T_,T_,F_,F_,F_,F_,F_] rfl rfl (one_of HT_.out (by kernel_rfl)) (by decide) (fun K hK=>?_)
                       refine Kd.R_lit_step Kd.string _ 9 ?hg (N:=64) ?hd (xs:=([(⟨#[]⟩:ByteArray),(⟨#[]⟩:ByteArray),(⟨#[10]⟩:ByteArray),(⟨#[13]⟩:ByteArray),(⟨#[9]⟩:ByteArray)]:List ByteArray)) (inner:=[.string (⟨#[]⟩:ByteArray),.string (⟨#[]⟩:ByteArray),.string (⟨#[10]⟩:ByteArray),.string (⟨#[13]⟩:ByteArray),.string (⟨#[9]⟩:ByteArray)]) (ok:=fun _=>True) (okp:=fun _=>True) ?hr ?hp (fun _ hk=>hk) trivial (Below.refl _ _) (Nat.le_refl _) (by simp) ?_;(case hd=>rfl);(case hg=>rfl);(case hr=>first|(go_simp;done)|(go_simp;rfl)|((first|(obtain ⟨_,_,rfl⟩:=Kd.R_slice HO151.out)|(obtain ⟨_,_,rfl⟩:=Kd.S_slice HO151.out)|skip);(first|(obtain ⟨_,_,rfl⟩:=Kd.R_slice HO157.out)|(obtain ⟨_,_,rfl⟩:=Kd.S_slice HO157.out)|skip);(first|(obtain ⟨_,_,rfl⟩:=Kd.R_slice HO160.out)|(obtain ⟨_,_,rfl⟩:=Kd.S_slice HO160.out)|skip);(first|(obtain ⟨_,_,rfl⟩:=Kd.R_slice HO165.out)|(obtain ⟨_,_,rfl⟩:=Kd.S_slice HO165.out)|skip);(first|(obtain ⟨_,_,rfl⟩:=Kd.R_slice HO168.out)|(obtain ⟨_,_,rfl⟩:=Kd.S_slice HO168.out)|skip);(first|(obtain ⟨_,_,rfl⟩:=Kd.R_slice HO173.out)|(obtain ⟨_,_,rfl⟩:=Kd.S_slice HO173.out)|skip);(first|(obtain ⟨_,_,rfl⟩:=Kd.R_slice HO176.out)|(obtain ⟨_,_,rfl⟩:=Kd.S_slice HO176.out)|skip);(first|(obtain ⟨_,_,rfl⟩:=Kd.R_slice HO181.out)|(obtain ⟨_,_,rfl⟩:=Kd.S_slice HO181.out)|skip);(first|(obtain ⟨_,_,rfl⟩:=Kd.R_slice HO184.out)|(obtain ⟨_,_,rfl⟩:=Kd.S_slice HO184.out)|skip);first|(go_simp;done)|(go_simp;rfl)));(case hp=>exact (Reps.one (show Kd.M Kd.string _ _ _ (⟨#[]⟩:ByteArray) [.string (⟨#[]⟩:ByteArray)] from rfl) (Reps.one (show Kd.M Kd.string _ _ _ (⟨#[]⟩:ByteArray) [.string (⟨#[]⟩:ByteArray)] from rfl) (Reps.one (show Kd.M Kd.string _ _ _ (⟨#[10]⟩:ByteArray) [.string (⟨#[10]⟩:ByteArray)] from rfl) (Reps.one (show Kd.M Kd.string _ _ _ (⟨#[13]⟩:ByteArray) [.string (⟨#[13]⟩:ByteArray)] from rfl) (Reps.one (show Kd.M Kd.string _ _ _ (⟨#[9]⟩:ByteArray) [.string (⟨#[9]⟩:ByteArray)] from rfl) (Reps.none _ _)))))))
                       intro v183 w77 ho78 hb hg_ hnew_
                       clear hg_ hnew_
                       (first|rw [←Ny182.out] at ho78|(simp only [Int.reduceToNat] at ho78;rw [←Ny182.out] at ho78))
                       have n0_:=A_ (Kd.R_below (by (with_reducible repeat (first|apply Kd.R_alloc|apply Kd.R_drewN|apply Kd.R_drew));exact HO181.out) hb)
                       have n1_:=A_ (Kd.R_lower ho78 (bz_ (by repeat (first|(with_reducible first|exact HB.out|apply ba_|apply pd_|apply b1_)|exact HB.out))))
                       have n2_:=A_ (bp_ (by repeat (first|(with_reducible first|exact HB.out|apply ba_|apply pd_|apply b1_)|exact HB.out)) hb)
                       clear HO181
                       clear HB
                       have HO181:=n0_
                       have HO184:=n1_
                       have HB:=n2_
                       clear n0_ n1_ n2_
                       clear hb ho78
                       obtain ⟨Ao79,co79,eo79⟩:=Kd.R_slice HO184.out
                       subst eo79
                       obtain ⟨ado79,fo79,_⟩:=Kd.at_string (Kd.R_reads' HO184.out).2.2 0 (by decide) (by rw [Ny182.out];simp)
                       cases fo79
                       refine hK.out _ _ trivial (fun hHeld=>?_)
                       clear hK K
                       refine norm_ (a':=?_) ?_ ?_
                       rotate_left
                       ·show Act.put _ (some 64) _=_
                        simp only [Act.put,ls_,lz_,lc_,i64_w,i32_w]
                        rfl
                       refine pure_ (i:=9) (N:=some 69) (v:=?_) (a':=?_) #[T_,T_,T_,T_,T_,T_,T_,T_,T_,T_,F_,F_,F_,F_] rfl rfl (any_of HT_.out (by kernel_rfl)) (fun _ _ _ h=>h) (Or.inl ⟨by rfl,?_⟩) ?_ ?_
                       rotate_left
                       ·intro w'
                        go_simp
                        with_reducible rfl
                       rotate_left
                       ·simp only [Act.put,ls_,lz_,lc_,i64_w,i32_w]
                        rfl
                       exact norm_ (by first|(simp only [putAll,Act.put,ls_,lz_,lc_];done)|(simp only [putAll,Act.put,ls_,lz_,lc_];rfl)) (hJ2_3_4_8 (v180,.slice (some ado79) y182.length co79,ado79) _ ⟨(by (with_reducible repeat (first|apply Kd.R_alloc|apply Kd.R_drewN|apply Kd.R_drew));exact HO181.out),(by (with_reducible repeat (first|apply Kd.R_alloc|apply Kd.R_drewN|apply Kd.R_drew));exact HO184.out),⟨_,rfl⟩,(by repeat (first|(with_reducible first|exact HB.out|apply ba_|apply pd_|apply b1_)|exact HB.out))⟩)
                     ·skip
                      rintro ⟨v180,v183,adz_v183⟩ w79 ⟨h0_,h1_,h2_,h3_⟩
                      have n0_:Aside0 (Kd.R (Kd.int .u8) 5 w79 w.heap.size (fun _=>True) v180 y179):=⟨h0_⟩
                      have n1_:Aside0 (Kd.R Kd.string 9 w79 w.heap.size (fun _=>True) v183 y182):=⟨h1_⟩
                      have n2_:Aside0 (∃ c_,(v183:Value)=.slice (some adz_v183) y182.length c_):=⟨h2_⟩
                      have n3_:Aside0 (Below w.heap.size w w79):=⟨h3_⟩
                      clear HB
                      clear h0_ h1_ h2_ h3_
                      have HO181:=n0_
                      have HO184:=n1_
                      have HA_HO184:=n2_
                      have HB:=n3_
                      clear n0_ n1_ n2_ n3_
                      have hHeld:=trivial
                      obtain ⟨co80,eo80⟩:=HA_HO184.out
                      clear HA_HO184
                      subst eo80
                      refine norm_ (a':=?_) ?_ ?_
                      rotate_left
                      ·simp only [putAll,Act.put,ls_,lz_,lc_]
                       rfl
                      refine one_ (i:=8) (N:=some 68) #[T_,T_,T_,T_,T_,T_,T_,T_,T_,F_,F_,F_,F_,F_] rfl rfl (one_of HT_.out (by kernel_rfl)) (by decide) (fun K hK=>?_)
                      refine goes_ Try.func5 (by kernel_rfl) rfl #[.slice A1 l1.length c1,.int .i64 (wrap64 (x8_3+5)),.int .i64 5] (by rfl) rfl rfl (by (try simp only [List.map_toArray,List.map_cons,List.map_nil]);first|done|rfl|(simp only [ld_,lt_];rfl)) ?_
                      with_reducible refine (laws_at.calls _ _ l1 (wrap64 (x8_3+5)) 5 t185 _ ?side1 ?side2 A67.out).mono ?_
                      (case side1=>repeat (first|exact (Kd.C_below HR1.out HB.out)|(with_reducible refine ca_ ?_ _)|(with_reducible refine cn_ ?_ _)|(with_reducible refine cd_ ?_)))
                      (case side2=>exact HC1.out)
                      rintro e w' ⟨rfl,⟨nd,rfl⟩⟩
                      refine ⟨_,rfl,?_⟩
                      refine hK.out _ _ trivial (fun hHeld=>?_)
                      clear hK K
                      refine norm_ (a':=?_) ?_ ?_
                      rotate_left
                      ·show Act.put _ (some 68) _=_
                       simp only [Act.put,ls_,lz_,lc_,i64_w,i32_w]
                       rfl
                      refine pure_ (i:=9) (N:=some 69) (v:=?_) (a':=?_) #[T_,T_,T_,T_,T_,T_,T_,T_,T_,T_,F_,F_,F_,F_] rfl rfl (any_of HT_.out (by kernel_rfl)) (fun _ _ _ h=>h) (Or.inl ⟨by rfl,?_⟩) ?_ ?_
                      rotate_left
                      ·intro w'
                       go_simp
                       with_reducible rfl
                      rotate_left
                      ·simp only [Act.put,ls_,lz_,lc_,i64_w,i32_w]
                       rfl
                      exact norm_ (by first|(simp only [putAll,Act.put,ls_,lz_,lc_];done)|(simp only [putAll,Act.put,ls_,lz_,lc_];rfl)) (hJ2_3_4_8 (v180,.slice (some adz_v183) y182.length co80,adz_v183) _ ⟨(by (with_reducible repeat (first|apply Kd.R_alloc|apply Kd.R_drewN|apply Kd.R_drew));exact HO181.out),(by (with_reducible repeat (first|apply Kd.R_alloc|apply Kd.R_drewN|apply Kd.R_drew));exact HO184.out),⟨_,rfl⟩,(by repeat (first|(with_reducible first|exact HB.out|apply ba_|apply pd_|apply b1_)|exact HB.out))⟩)
                    ·skip
                     rintro ⟨v180,v183,adz_v183⟩ w78 ⟨h0_,h1_,h2_,h3_⟩
                     have n0_:Aside0 (Kd.R (Kd.int .u8) 5 w78 w.heap.size (fun _=>True) v180 y179):=⟨h0_⟩
                     have n1_:Aside0 (Kd.R Kd.string 9 w78 w.heap.size (fun _=>True) v183 y182):=⟨h1_⟩
                     have n2_:Aside0 (∃ c_,(v183:Value)=.slice (some adz_v183) y182.length c_):=⟨h2_⟩
                     have n3_:Aside0 (Below w.heap.size w w78):=⟨h3_⟩
                     clear HB
                     clear h0_ h1_ h2_ h3_
                     have HO181:=n0_
                     have HO184:=n1_
                     have HA_HO184:=n2_
                     have HB:=n3_
                     clear n0_ n1_ n2_ n3_
                     have hHeld:=trivial
                     obtain ⟨co79,eo79⟩:=HA_HO184.out
                     clear HA_HO184
                     subst eo79
                     refine norm_ (a':=?_) ?_ ?_
                     rotate_left
                     ·simp only [putAll,Act.put,ls_,lz_,lc_]
                      rfl
                     refine one_ (i:=3) (N:=some 63) #[T_,T_,T_,T_,T_,T_,T_,T_,T_,T_,T_,F_,F_,F_] rfl rfl (one_of HT_.out (by kernel_rfl)) (by decide) (fun K hK=>?_)
                     have hcv80:=own_string (P:=Try.prog) Try.underlying22 Try.underlying5 Try.underlying9 (Kd.own_of_R HO181.out)
                     refine value_ (w1:=?_) (v:=?_) (by rfl) rfl ?_ ?_
                     rotate_left 2
                     ·go_simp
                      constructor
                      ·rfl
                      ·rfl
                     clear hcv80
                     refine hK.out _ _ trivial (fun hHeld=>?_)
                     clear hK K
                     refine norm_ (a':=?_) ?_ ?_
                     rotate_left
                     ·show Act.put _ (some 63) _=_
                      simp only [Act.put,ls_,lz_,lc_,i64_w,i32_w]
                      rfl
                     exact norm_ (by first|(simp only [putAll,Act.put,ls_,lz_,lc_];done)|(simp only [putAll,Act.put,ls_,lz_,lc_];rfl)) (hJ2_3_4_8_10 (v180,.slice (some adz_v183) y182.length co79,adz_v183) _ ⟨(by (with_reducible repeat (first|apply Kd.R_alloc|apply Kd.R_drewN|apply Kd.R_drew));exact HO181.out),(by (with_reducible repeat (first|apply Kd.R_alloc|apply Kd.R_drewN|apply Kd.R_drew));exact HO184.out),⟨_,rfl⟩,(by repeat (first|(with_reducible first|exact HB.out|apply ba_|apply pd_|apply b1_)|exact HB.out))⟩)
                   ·skip
                    rintro ⟨v180,v183,adz_v183⟩ w79 ⟨h0_,h1_,h2_,h3_⟩
                    have n0_:Aside0 (Kd.R (Kd.int .u8) 5 w79 w.heap.size (fun _=>True) v180 y179):=⟨h0_⟩
                    have n1_:Aside0 (Kd.R Kd.string 9 w79 w.heap.size (fun _=>True) v183 y182):=⟨h1_⟩
                    have n2_:Aside0 (∃ c_,(v183:Value)=.slice (some adz_v183) y182.length c_):=⟨h2_⟩
                    have n3_:Aside0 (Below w.heap.size w w79):=⟨h3_⟩
                    clear HB
                    clear h0_ h1_ h2_ h3_
                    have HO181:=n0_
                    have HO184:=n1_
                    have HA_HO184:=n2_
                    have HB:=n3_
                    clear n0_ n1_ n2_ n3_
                    have hHeld:=trivial
                    obtain ⟨co80,eo80⟩:=HA_HO184.out
                    clear HA_HO184
                    subst eo80
                    refine norm_ (a':=?_) ?_ ?_
                    rotate_left
                    ·simp only [putAll,Act.put,ls_,lz_,lc_]
                     rfl
                    refine one_ (i:=10) (N:=some 70) #[T_,T_,T_,T_,T_,T_,T_,T_,T_,T_,T_,F_,F_,F_] rfl rfl (one_of HT_.out (by kernel_rfl)) (by decide) (fun K hK=>?_)
                    (have p186:0≤(t185:Int):=od_ (by first|(with_reducible assumption)|assumption);have q186:t185<(y182.length:Int):=od_ (by first|(with_reducible assumption)|assumption);obtain ⟨ad186,e186,hx186_0⟩:=Kd.at_string (Kd.R_reads' HO184.out).2.2 t185 p186 q186;obtain rfl:adz_v183=ad186:=(by injection e186))
                    refine value_ (w1:=?_) (v:=?_) (by rfl) rfl ?_ ?_
                    rotate_left 2
                    ·go_simp
                     constructor
                     ·rfl
                     ·rfl
                    clear hx186_0
                    refine hK.out _ _ trivial (fun hHeld=>?_)
                    clear hK K
                    refine norm_ (a':=?_) ?_ ?_
                    rotate_left
                    ·show Act.put _ (some 70) _=_
                     simp only [Act.put,ls_,lz_,lc_,i64_w,i32_w]
                     rfl
                    exact norm_ (by first|(simp only [putAll,Act.put,ls_,lz_,lc_];done)|(simp only [putAll,Act.put,ls_,lz_,lc_];rfl)) (hJ2_3_4_8_10 (v180,.slice (some adz_v183) y182.length co80,adz_v183) _ ⟨(by (with_reducible repeat (first|apply Kd.R_alloc|apply Kd.R_drewN|apply Kd.R_drew));exact HO181.out),(by (with_reducible repeat (first|apply Kd.R_alloc|apply Kd.R_drewN|apply Kd.R_drew));exact HO184.out),⟨_,rfl⟩,(by repeat (first|(with_reducible first|exact HB.out|apply ba_|apply pd_|apply b1_)|exact HB.out))⟩)
                  rintro ⟨v180,v183,adz_v183⟩ w79 ⟨h0_,h1_,h2_,h3_⟩
                  have n0_:Aside0 (Kd.R (Kd.int .u8) 5 w79 w.heap.size (fun _=>True) v180 y179):=⟨h0_⟩
                  have n1_:Aside0 (Kd.R Kd.string 9 w79 w.heap.size (fun _=>True) v183 y182):=⟨h1_⟩
                  have n2_:Aside0 (∃ c_,(v183:Value)=.slice (some adz_v183) y182.length c_):=⟨h2_⟩
                  have n3_:Aside0 (Below w.heap.size w w79):=⟨h3_⟩
                  clear HB
                  clear h0_ h1_ h2_ h3_
                  have HO181:=n0_
                  have HO184:=n1_
                  have HA_HO184:=n2_
                  have HB:=n3_
                  clear n0_ n1_ n2_ n3_
                  have hHeld:=trivial
                  obtain ⟨co80,eo80⟩:=HA_HO184.out
                  clear HA_HO184
                  subst eo80
                  refine norm_ (a':=?_) ?_ ?_
                  rotate_left
                  ·simp only [putAll,Act.put,ls_,lz_,lc_]
                   rfl
                  refine pure_ (i:=11) (N:=some 71) (v:=?_) (a':=?_) #[T_,T_,T_,T_,T_,T_,T_,T_,T_,T_,T_,T_,F_,F_] rfl rfl (any_of HT_.out (by kernel_rfl)) (fun _ _ _ h=>h) (Or.inl ⟨by rfl,?_⟩) ?_ ?_
                  rotate_left
                  ·intro w'
                   go_simp
                   with_reducible rfl
                  rotate_left
                  ·simp only [Act.put,ls_,lz_,lc_,i64_w,i32_w]
                   rfl
                  refine pure_ (i:=12) (N:=some 72) (v:=?_) (a':=?_) #[T_,T_,T_,T_,T_,T_,T_,T_,T_,T_,T_,T_,T_,F_] rfl rfl (any_of HT_.out (by kernel_rfl)) (fun _ _ _ h=>h) (Or.inl ⟨by rfl,?_⟩) ?_ ?_
                  rotate_left
                  ·intro w'
                   go_simp
                   with_reducible rfl
                  rotate_left
                  ·simp only [Act.put,ls_,lz_,lc_,i64_w,i32_w]
                   rfl
                  refine pure_ (i:=13) (N:=some 6) (v:=?_) (a':=?_) #[T_,T_,T_,T_,T_,T_,T_,T_,T_,T_,T_,T_,T_,T_] rfl rfl (any_of HT_.out (by kernel_rfl)) (fun _ _ _ h=>h) (Or.inl ⟨by rfl,?_⟩) ?_ ?_
                  rotate_left
                  ·intro w'
                   go_simp
                   with_reducible rfl
                  rotate_left
                  ·simp only [Act.put,ls_,lz_,lc_,i64_w,i32_w]
                   rfl
                  refine done_ (done_of HT_.out (by kernel_rfl)) ?_
                  try go_wp2
                  go_roundg k3
                  case measure=>have:=HJ2.out;have:=HK2.out;have:=HK3.out;omega
                  case rel=>exact ⟨(x6_3++((strOfNums y179)++(rdOf ByteArray.empty y182 t185))),(wrap64 (x8_3+1)),(by first|rfl|(simp;done)|(simp [*];done)),(by first|rfl|(simp;done)|(simp [*];done)),H',⟨by have:=HJ2.out;have:=HK2.out;have:=HK3.out;omega⟩,⟨by repeat (first|(with_reducible first|exact HB.out|apply ba_|apply pd_|apply b1_)|exact HB.out)⟩⟩
                 ·rw [if_neg c71] at H
                  exact absurd H (by simp)
                ·rw [if_neg c70] at H
                 exact absurd H (by simp)
               ·rw [if_neg c69] at H
                exact absurd H (by simp)
              ·rw [if_neg c68] at H
               exact absurd H (by simp)
           ·rw [if_neg c19] at H
            exact absurd H (by simp)
          ·rw [if_neg c18] at H
           have c18b0:decide (x8_3<(bad.size:Int))=false:=df_ c18
           clear c18
           replace H:=ob_ H
           obtain ⟨t187,A810,H⟩:=H
           replace H:((impl_BadLink.f k3 bad).bind fun t188=>(if t188=true then ((impl_BadLink.f k3 x6_3).bind fun t189=>(if t189=true then (if 1+bad.size≤9223372036854775807 then ((impl_BadLink.f k3 ((⟨#[120]⟩:ByteArray)++bad)).bind fun t190=>(if t190=true then (some false) else ((impl_BadLink.f k3 (⟨#[106,97,118,97,32,115,99,114,105,112,116,58]⟩:ByteArray)).bind fun t191=>(if t191=true then (some false) else ((impl_BadLink.f k3 t187).bind fun t192=>((spec_BadLink.f k3 t187).bind fun t193=>(some (t192 == t193)))))))) else (none)) else (some false))) else (some false)))=some r:=H
           have A81:=A_ A810
           clear A810
           replace H:=ob_ H
           obtain ⟨t188,A820,H⟩:=H
           replace H:(if t188=true then ((impl_BadLink.f k3 x6_3).bind fun t189=>(if t189=true then (if 1+bad.size≤9223372036854775807 then ((impl_BadLink.f k3 ((⟨#[120]⟩:ByteArray)++bad)).bind fun t190=>(if t190=true then (some false) else ((impl_BadLink.f k3 (⟨#[106,97,118,97,32,115,99,114,105,112,116,58]⟩:ByteArray)).bind fun t191=>(if t191=true then (some false) else ((impl_BadLink.f k3 t187).bind fun t192=>((spec_BadLink.f k3 t187).bind fun t193=>(some (t192 == t193)))))))) else (none)) else (some false))) else (some false))=some r:=H
           have A82:=A_ A820
           clear A820
           by_cases c83:t188=true
           ·subst c83
            have H1:((impl_BadLink.f k3 x6_3).bind fun t189=>(if t189=true then (if 1+bad.size≤9223372036854775807 then ((impl_BadLink.f k3 ((⟨#[120]⟩:ByteArray)++bad)).bind fun t190=>(if t190=true then (some false) else ((impl_BadLink.f k3 (⟨#[106,97,118,97,32,115,99,114,105,112,116,58]⟩:ByteArray)).bind fun t191=>(if t191=true then (some false) else ((impl_BadLink.f k3 t187).bind fun t192=>((spec_BadLink.f k3 t187).bind fun t193=>(some (t192 == t193)))))))) else (none)) else (some false)))=some r:=by rw [if_pos rfl] at H;exact H
            clear H
            have H:=H1
            clear H1
            replace H:=ob_ H
            obtain ⟨t189,A840,H⟩:=H
            replace H:(if t189=true then (if 1+bad.size≤9223372036854775807 then ((impl_BadLink.f k3 ((⟨#[120]⟩:ByteArray)++bad)).bind fun t190=>(if t190=true then (some false) else ((impl_BadLink.f k3 (⟨#[106,97,118,97,32,115,99,114,105,112,116,58]⟩:ByteArray)).bind fun t191=>(if t191=true then (some false) else ((impl_BadLink.f k3 t187).bind fun t192=>((spec_BadLink.f k3 t187).bind fun t193=>(some (t192 == t193)))))))) else (none)) else (some false))=some r:=H
            have A84:=A_ A840
            clear A840
            by_cases c85:t189=true
            ·subst c85
             have H1:(if 1+bad.size≤9223372036854775807 then ((impl_BadLink.f k3 ((⟨#[120]⟩:ByteArray)++bad)).bind fun t190=>(if t190=true then (some false) else ((impl_BadLink.f k3 (⟨#[106,97,118,97,32,115,99,114,105,112,116,58]⟩:ByteArray)).bind fun t191=>(if t191=true then (some false) else ((impl_BadLink.f k3 t187).bind fun t192=>((spec_BadLink.f k3 t187).bind fun t193=>(some (t192 == t193)))))))) else (none))=some r:=by rw [if_pos rfl] at H;exact H
             clear H
             have H:=H1
             clear H1
             by_cases c86:1+bad.size≤9223372036854775807
             ·rw [if_pos c86] at H
              have c86b0:=eq_true c86
              have c86b1:decide (1+bad.size≤9223372036854775807)=true:=dt_ c86
              try have c86b2:(9223372036854775807<1+bad.size)=False:=eq_false (Nat.not_lt.2 c86)
              replace H:=ob_ H
              obtain ⟨t190,A870,H⟩:=H
              replace H:(if t190=true then (some false) else ((impl_BadLink.f k3 (⟨#[106,97,118,97,32,115,99,114,105,112,116,58]⟩:ByteArray)).bind fun t191=>(if t191=true then (some false) else ((impl_BadLink.f k3 t187).bind fun t192=>((spec_BadLink.f k3 t187).bind fun t193=>(some (t192 == t193)))))))=some r:=H
              have A87:=A_ A870
              clear A870
              by_cases c88:t190=true
              ·subst c88
               have H1:(some false)=some r:=by rw [if_pos rfl] at H;exact H
               clear H
               have H:=H1
               clear H1
               exact absurd ((oi_ H).trans HRT.out) (by decide)
              ·replace c88:=Bool.eq_false_iff.mpr c88
               subst c88
               have H1:((impl_BadLink.f k3 (⟨#[106,97,118,97,32,115,99,114,105,112,116,58]⟩:ByteArray)).bind fun t191=>(if t191=true then (some false) else ((impl_BadLink.f k3 t187).bind fun t192=>((spec_BadLink.f k3 t187).bind fun t193=>(some (t192 == t193))))))=some r:=by rw [if_neg (show ¬ (false=true) by decide)] at H;exact H
               clear H
               have H:=H1
               clear H1
               replace H:=ob_ H
               obtain ⟨t191,A890,H⟩:=H
               replace H:(if t191=true then (some false) else ((impl_BadLink.f k3 t187).bind fun t192=>((spec_BadLink.f k3 t187).bind fun t193=>(some (t192 == t193)))))=some r:=H
               have A89:=A_ A890
               clear A890
               by_cases c90:t191=true
               ·subst c90
                have H1:(some false)=some r:=by rw [if_pos rfl] at H;exact H
                clear H
                have H:=H1
                clear H1
                exact absurd ((oi_ H).trans HRT.out) (by decide)
               ·replace c90:=Bool.eq_false_iff.mpr c90
                subst c90
                have H1:((impl_BadLink.f k3 t187).bind fun t192=>((spec_BadLink.f k3 t187).bind fun t193=>(some (t192 == t193))))=some r:=by rw [if_neg (show ¬ (false=true) by decide)] at H;exact H
                clear H
                have H:=H1
                clear H1
                replace H:=ob_ H
                obtain ⟨t192,A910,H⟩:=H
                replace H:((spec_BadLink.f k3 t187).bind fun t193=>(some (t192 == t193)))=some r:=H
                have A91:=A_ A910
                clear A910
                replace H:=ob_ H
                obtain ⟨t193,A920,H⟩:=H
                replace H:(some (t192 == t193))=some r:=H
                have A92:=A_ A920
                clear A920
                obtain rfl:=oi_ H
                go_wp2_with (first|((with_reducible refine gate_callee (f:=4) rfl ?_);refine goesL_ (some 74) rfl rfl Try.func4 (by kernel_rfl) rfl #[.slice A1 l1.length c1] rfl (by (try simp only [List.map_toArray,List.map_cons,List.map_nil]);first|done|rfl|(simp only [ld_,lt_];rfl)) ?_;(with_reducible refine (spec_ValueDrawn.calls _ _ l1 t187 _ ?side1 ?side2 A81.out).mono ?_);(case side1=>repeat (first|exact (Kd.C_below HR1.out HB.out)|(with_reducible refine ca_ ?_ _)|(with_reducible refine cn_ ?_ _)|(with_reducible refine cd_ ?_)));(case side2=>exact HC1.out);rintro e w93 ⟨rfl,hb⟩;refine ⟨_,rfl,?_⟩;have n0_:=A_ (bp_ (by repeat (first|(with_reducible first|exact HB.out|apply ba_|apply pd_|apply b1_)|exact HB.out)) hb);clear HB;have HB:=n0_;clear n0_;(try clear hb);(try clear hb2);(try clear hk);(try clear hi))|((with_reducible refine gate_callee (f:=6) rfl ?_);refine goesL_ (some 76) rfl rfl Try.func6 (by kernel_rfl) rfl #[.string bad] rfl (by (try simp only [List.map_toArray,List.map_cons,List.map_nil]);first|done|rfl|(simp only [ld_,lt_];rfl)) ?_;(with_reducible refine (impl_BadLink.calls k3 bad true _ A82.out).mono ?_);rintro e w94 ⟨rfl,hb⟩;refine ⟨_,rfl,?_⟩;have n0_:=A_ (bp_ (by repeat (first|(with_reducible first|exact HB.out|apply ba_|apply pd_|apply b1_)|exact HB.out)) hb);clear HB;have HB:=n0_;clear n0_;(try clear hb);(try clear hb2);(try clear hk);(try clear hi))|(go_at_call 6;(with_reducible refine (impl_BadLink.calls k3 x6_3 true _ A84.out).mono ?_);rintro e w95 ⟨rfl,hb⟩;have n0_:=A_ (bp_ (by repeat (first|(with_reducible first|exact HB.out|apply ba_|apply pd_|apply b1_)|exact HB.out)) hb);clear HB;have HB:=n0_;clear n0_;(try clear hb);(try clear hb2);(try clear hk);(try clear hi))|(go_at_call 6;(with_reducible refine (impl_BadLink.calls k3 ((⟨#[120]⟩:ByteArray)++bad) false _ A87.out).mono ?_);rintro e w96 ⟨rfl,hb⟩;have n0_:=A_ (bp_ (by repeat (first|(with_reducible first|exact HB.out|apply ba_|apply pd_|apply b1_)|exact HB.out)) hb);clear HB;have HB:=n0_;clear n0_;(try clear hb);(try clear hb2);(try clear hk);(try clear hi))|(go_at_call 6;(with_reducible refine (impl_BadLink.calls k3 (⟨#[106,97,118,97,32,115,99,114,105,112,116,58]⟩:ByteArray) false _ A89.out).mono ?_);rintro e w97 ⟨rfl,hb⟩;have n0_:=A_ (bp_ (by repeat (first|(with_reducible first|exact HB.out|apply ba_|apply pd_|apply b1_)|exact HB.out)) hb);clear HB;have HB:=n0_;clear n0_;(try clear hb);(try clear hb2);(try clear hk);(try clear hi))|(go_at_call 6;(with_reducible refine (impl_BadLink.calls k3 t187 t192 _ A91.out).mono ?_);rintro e w98 ⟨rfl,hb⟩;have n0_:=A_ (bp_ (by repeat (first|(with_reducible first|exact HB.out|apply ba_|apply pd_|apply b1_)|exact HB.out)) hb);clear HB;have HB:=n0_;clear n0_;(try clear hb);(try clear hb2);(try clear hk);(try clear hi))|(go_at_call 7;(with_reducible refine (spec_BadLink.calls k3 t187 t193 _ A92.out).mono ?_);rintro e w' ⟨rfl,⟨nd,rfl⟩⟩))
                go_ret
                exact ⟨by first|rfl|(simp [errW_none,errW_some] <;> rfl)|(simp [*,errW_none,errW_some] <;> rfl),by repeat (first|(with_reducible first|exact HB.out|apply ba_|apply pd_|apply b1_)|exact HB.out)⟩
             ·rw [if_neg c86] at H
              exact absurd H (by simp)
            ·replace c85:=Bool.eq_false_iff.mpr c85
             subst c85
             have H1:(some false)=some r:=by rw [if_neg (show ¬ (false=true) by decide)] at H;exact H
             clear H
             have H:=H1
             clear H1
             exact absurd ((oi_ H).trans HRT.out) (by decide)
           ·replace c83:=Bool.eq_false_iff.mpr c83
            subst c83
            have H1:(some false)=some r:=by rw [if_neg (show ¬ (false=true) by decide)] at H;exact H
            clear H
            have H:=H1
            clear H1
            exact absurd ((oi_ H).trans HRT.out) (by decide)
    ·rw [if_neg c7] at H
     exact absurd H (by simp)
/-- THE ONE PURE STATEMENT of laws_FnLinks: yours. -/
def laws_FnLinks.Pure:Prop:=∀ (l0:List Int) (l1:List Int),l0.length≤maxLen→l0.length * 1≤140737488351232→(∀ x∈l0,(Lit.int .u8 x).wf=true)→l1.length≤maxLen→l1.length * 1≤140737488351232→(∀ x∈l1,(Lit.int .u8 x).wf=true)→∃ k,laws_FnLinks.f k l0 l1=some true
theorem laws_FnLinks.walk (P:laws_FnLinks.Pure) (a0:Option Addr) (len0 cap0:Nat) (z0:List Int) (a1:Option Addr) (len1 cap1:Nat) (z1:List Int) (w:World) (w0:(a0=none∧len0=0∧cap0=0∧z0=[])∨∃ x,a0=some x∧len0≤cap0∧cap0≤maxLen∧z0.length=cap0∧(∀ i,i<z0.length→w.cell? (x.add i)=some (.int .u8 (z0.getD i 0)))∧∀ n∈z0,(Lit.int .u8 n).wf=true) (y0:len0 * 1≤140737488351232) (w1:(a1=none∧len1=0∧cap1=0∧z1=[])∨∃ x,a1=some x∧len1≤cap1∧cap1≤maxLen∧z1.length=cap1∧(∀ i,i<z1.length→w.cell? (x.add i)=some (.int .u8 (z1.getD i 0)))∧∀ n∈z1,(Lit.int .u8 n).wf=true) (y1:len1 * 1≤140737488351232) :
 Calls Try.prog 3 #[.slice a0 len0 cap0,.slice a1 len1 cap1] w fun e w'=>e=.returned (.bool true)∧Below w.heap.size w w':=by
 obtain ⟨l0,rfl,hr0,hm0,hw0,hc0⟩:=ReadsInt.ofRowC w0
 obtain ⟨l1,rfl,hr1,hm1,hw1,hc1⟩:=ReadsInt.ofRowC w1
 obtain ⟨k,h⟩:=P l0 l1 hm0 y0 hw0 hm1 y1 hw1
 refine (laws_FnLinks.calls k _ _ l0 _ _ l1 true w (Kd.C_of_reads (d:=(0:Int)) (h1:=fun _=>rfl) hr0) hc0 (Kd.C_of_reads (d:=(0:Int)) (h1:=fun _=>rfl) hr1) hc1 h ⟨rfl⟩).mono ?_
 rintro e w' ⟨rfl,hd⟩
 exact ⟨rfl,hd⟩
end Go.Proofs.Ytpfpbanadobfmaa.PFnLinks
