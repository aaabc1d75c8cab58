/- By a program of this session, out of the kit's print and contracts made by hand: the machine side of a law; Lean checks it. No conditions. -/
import Derived.Test.YtophaihdibplkaaPFnExactSameConfigx0
namespace Go.Proofs.Ytophaihdibplkaa.PFnExactSameConfig
open Go.RowKit Go.Proofs.YtophaihdibplkaaW.PrintWords Go.Proofs.YtophaihdibplkaaW.PrintLast Go.Proofs.YtophaihdibplkaaW.PrintMore
attribute [local go_sem] max2_int min2_int max_two min_two max_three min_three max_four min_four
set_option linter.unusedVariables false
set_option linter.unusedSimpArgs false
/-! ### spec_l01Has: function 149 -/
def spec_l01Has.l0:Nat→List ByteArray→ByteArray→Int→Option (Bool)
 | 0,_,_,_=>none
 | k+1,x0,x1,x5=>if x5<(x0.length:Int) then (if 0≤x5 then (if (rdOf ByteArray.empty x0 x5).toList=x1.toList then (some true) else (spec_l01Has.l0 k x0 x1 (wrap64 (x5+1)))) else (none)) else (some false)
def spec_l01Has.f (k:Nat) (l0:List ByteArray) (a1:ByteArray):Option (Bool):=spec_l01Has.l0 k l0 a1 0
theorem spec_l01Has.mono_l:∀ k,(∀ y0 y1 y2,LeO (spec_l01Has.l0 k y0 y1 y2) (spec_l01Has.l0 (k+1) y0 y1 y2))
 | 0=>fun _ _ _ r h=>by simp [spec_l01Has.l0] at h
 | k+1=>by
  have ih0:=spec_l01Has.mono_l k
  ·intro y0 y1 y2
   unfold spec_l01Has.l0
   repeat' first
   | (with_reducible exact ih0 _ _ _)
   | (with_reducible exact LeO.refl _)
   | (with_reducible exact LeO.none _)
   | (with_reducible refine LeO.ite ?_ ?_)
   | (with_reducible refine LeO.bind ?_ (fun _=>?_))
   | exact ih0 _ _ _
   | exact LeO.none _
   | refine LeO.ite ?_ ?_
   | refine LeO.bind ?_ (fun _=>?_)
theorem spec_l01Has.mono:∀ a0 a1 k,LeO (spec_l01Has.f k a0 a1) (spec_l01Has.f (k+1) a0 a1):=by
 intro a0 a1 k
 have ih0:=spec_l01Has.mono_l k
 unfold spec_l01Has.f
 repeat' first
  | (with_reducible exact ih0 _ _ _)
  | (with_reducible exact LeO.refl _)
  | (with_reducible exact LeO.none _)
  | (with_reducible refine LeO.ite ?_ ?_)
  | (with_reducible refine LeO.bind ?_ (fun _=>?_))
  | exact ih0 _ _ _
  | exact LeO.none _
  | refine LeO.ite ?_ ?_
  | refine LeO.bind ?_ (fun _=>?_)
set_option maxHeartbeats 8000000 in
set_option maxRecDepth 100000 in
theorem spec_l01Has.calls (k:Nat) (A0:Option Addr) (c0:Nat) (l0:List ByteArray) (a1:ByteArray) (r:Bool) (w:World) (hr0:Kd.C Kd.string w A0 l0.length l0) (hc0:l0.length≤c0) (h:spec_l01Has.f k l0 a1=some r) :
 Calls Try.prog 149 #[.slice A0 l0.length c0,.string a1] w fun e w'=>e=.returned (.bool r)∧Drawn0 w w':=by
 have HR0:=Aside0.mk hr0
 have HC0:=Aside0.mk hc0
 clear hr0 hc0
 have H:(spec_l01Has.l0 k l0 a1 0)=some r:=h
 clear h
 have H':=Aside0.mk H
 clear H
 go_enter Try.func149,Try.ntmps149
 go_wp2
 go_loopg [5] k (fun kq v5 w'=>∃ (x5_1:Int),v5=.int .i64 x5_1∧Aside0 (spec_l01Has.l0 kq l0 a1 x5_1=some r)∧Aside0 (kq≤k)∧Drawn0 w w')
 case atStart=>exact ⟨(0),(by first|rfl|(simp;done)|(simp [*];done)),H',⟨Nat.le_refl _⟩,by repeat (first|exact Drawn0.refl _|apply Drawn0.step)⟩
 case round =>
  clear H'
  try clear c1
  try clear p2
  obtain ⟨x5_1,rfl,HA,HK1,⟨m1,rfl⟩⟩:=hrel
  cases gk with
  | zero=>exact absurd HA.out (by simp [spec_l01Has.l0])
  | succ k1 =>
   have H:=HA.out
   clear HA
   simp only [spec_l01Has.l0] at H
   by_cases c3:x5_1<(l0.length:Int)
   ·rw [if_pos c3] at H
    have c3b0:decide (x5_1<(l0.length:Int))=true:=decide_eq_true c3
    clear c3
    by_cases c4:0≤x5_1
    ·rw [if_pos c4] at H
     have c4b0:decide (0≤x5_1)=true:=decide_eq_true c4
     clear c4
     by_cases c5:(rdOf ByteArray.empty l0 x5_1).toList=a1.toList
     ·rw [if_pos c5] at H
      have c5b0:((rdOf ByteArray.empty l0 x5_1).toList == a1.toList)=true:=beq_iff_eq.mpr c5
      have c5b1:((rdOf ByteArray.empty l0 x5_1).toList != a1.toList)=false:=bne_eq_false_iff_eq.mpr c5
      clear c5
      obtain rfl:=Option.some.inj H
      have p153:0≤(x5_1:Int):=of_decide_eq_true (by first|(with_reducible assumption)|assumption)
      have q153:x5_1<(l0.length:Int):=of_decide_eq_true (by first|(with_reducible assumption)|assumption)
      obtain ⟨ad153,e153,hx153_0⟩:=Kd.at_string HR0.out x5_1 p153 q153
      cases e153
      replace p153:=eq_true p153
      replace q153:=eq_true q153
      go_wp2
      go_ret
      exact ⟨by first|rfl|(simp;done)|(simp [*];done),by repeat (first|exact Drawn0.refl _|apply Drawn0.step)⟩
     ·rw [if_neg c5] at H
      have c5b0:((rdOf ByteArray.empty l0 x5_1).toList == a1.toList)=false:=beq_eq_false_iff_ne.mpr c5
      have c5b1:((rdOf ByteArray.empty l0 x5_1).toList != a1.toList)=true:=bne_iff_ne.mpr c5
      have H':=Aside0.mk H
      clear H
      have p153:0≤(x5_1:Int):=of_decide_eq_true (by first|(with_reducible assumption)|assumption)
      have q153:x5_1<(l0.length:Int):=of_decide_eq_true (by first|(with_reducible assumption)|assumption)
      obtain ⟨ad153,e153,hx153_0⟩:=Kd.at_string HR0.out x5_1 p153 q153
      cases e153
      replace p153:=eq_true p153
      replace q153:=eq_true q153
      go_wp2
      go_roundg k1
      case measure=>have:=HK1.out;omega
      case rel=>exact ⟨(wrap64 (x5_1+1)),(by first|rfl|(simp;done)|(simp [*];done)),H',⟨by have:=HK1.out;omega⟩,by repeat (first|exact Drawn0.refl _|apply Drawn0.step)⟩
    ·rw [if_neg c4] at H
     exact absurd H (by simp)
   ·rw [if_neg c3] at H
    have c3b0:decide (x5_1<(l0.length:Int))=false:=decide_eq_false c3
    clear c3
    obtain rfl:=Option.some.inj H
    go_wp2
    go_ret
    exact ⟨by first|rfl|(simp;done)|(simp [*];done),by repeat (first|exact Drawn0.refl _|apply Drawn0.step)⟩
theorem ev_l01Has (xs:List ByteArray) (t:ByteArray) (hn:xs.length≤9223372036854775807):Ev (fun k=>spec_l01Has.f k xs t) (Kit.hasT xs t):=by
 have key:∀ i,i≤xs.length→Ev (fun k=>spec_l01Has.l0 k xs t i) (Kit.hasT (xs.drop i) t):=by
  refine Kit.down ?_ ?_
  ·refine Ev.step (fun k=>rfl) ?_
   refine Kit.ev_neg (by omega) ?_
   rw [List.drop_length]
   exact Ev.now _
  ·intro i hi ih
   refine Ev.step (fun k=>rfl) ?_
   refine Kit.ev_pos (by omega) (Kit.ev_pos (by omega) ?_)
   rw [Kit.drop_getD ByteArray.empty xs i hi,Kit.hasT_cons,Kit.rdOf_nat,Kit.wrap_nat hi hn]
   refine Kit.ev_if (fun h=>?_) (fun h=>?_)
   ·rw [decide_eq_true h.symm,Bool.true_or];exact Ev.now _
   ·rw [decide_eq_false (fun e=>h e.symm),Bool.false_or];exact ih
 exact key 0 (by omega)
theorem spec_l01Has.pure (A:Option Addr) (c:Nat) (xs:List ByteArray) (t:ByteArray) (W:World) (h:Kd.C Kd.string W A xs.length xs) (hc:xs.length≤c):Calls Try.prog 149 #[.slice A xs.length c,.string t] W fun e w'=>e=.returned (.bool (Kit.hasT xs t))∧Drawn0 W w':=by
 obtain ⟨K,hK⟩:=ev_l01Has xs t h.2.1
 exact spec_l01Has.calls K A c xs t _ W h hc (hK K (Nat.le_refl _))
/-! ### IndexFunc_Rule: function 204, by hand -/
set_option maxHeartbeats 1000000 in
/-- slices.IndexFunc at this type, whatever the predicate: the first place at which it holds. -/
theorem IndexFunc_Rule.holds (A:Option Addr) (n c:Nat) (v:Nat→List Value) (p:Nat→Bool) (g:Nat) (lb:Array Value) (eg:∀ args w,(callFunc g args).run Try.prog w=.ok (.enter g args) w) (w:World)
 (hp:∀ j,j<n→∀ W,Below w.heap.size w W→Calls Try.prog g (#[.agg (v j).toArray]++lb) W fun e w'=>e=.returned (.bool (p j))∧Below w.heap.size w w')
 (hbig:n≤9223372036854775807) (hc:∀ j,j<n→∃ ad,A=some ad∧(v j).length=3∧∀ i u,(v j)[i]? = some u→w.cell? (ad.add (j * 3+i))=some u) :
 Calls Try.prog 204 #[.slice A n c,.func (.func g) #[] lb] w fun e w'=>e=.returned (.int .i64 (Mach.idxP p n))∧Below w.heap.size w w':=by
 have HC:=Aside0.mk hc
 have HP:=Aside0.mk hp
 clear hc hp
 go_enter Try.func204,Try.ntmps204
 go_wp2
 go_loopg [5,8] n (fun gg _ s8 wr=>∃ kk:Nat,kk≤n∧n - kk≤gg∧s8=.int .i64 kk∧Aside0 (Below w.heap.size w wr)∧Aside0 (∀ j,j<kk→p j=false))
 case atStart=>exact ⟨0,Nat.zero_le _,by omega,rfl,⟨Below.refl _ w⟩,⟨fun j hj=>absurd hj (Nat.not_lt_zero _)⟩⟩
 case round =>
  obtain ⟨kk,hkk,hg,rfl,BW,AA⟩:=hrel
  by_cases hlt:kk<n
  ·have hltz:(kk:Int)<(n:Int):=by omega
   obtain ⟨ad,e,hl,l1⟩:=HC.out kk hlt
   cases e
   obtain ⟨x0,x1,x2,hv⟩:∃ x0 x1 x2,v kk=[x0,x1,x2]:=by
    match v kk,hl with
    | [x0,x1,x2],_=>exact ⟨x0,x1,x2,rfl⟩
   have m0:=pw_cell_below BW.out (l1 0 x0 (by rw [hv];rfl))
   rw [Nat.add_zero] at m0
   have m1:=pw_cell_below BW.out (l1 1 x1 (by rw [hv];rfl))
   rw [add_field _ _ 1 (by omega)] at m1
   have m2:=pw_cell_below BW.out (l1 2 x2 (by rw [hv];rfl))
   rw [add_field _ _ 2 (by omega)] at m2
   clear l1
   have hcall:=HP.out kk hlt wr BW.out
   rw [hv] at hcall
   clear hv
   cases hq:p kk with
   | true =>
    rw [hq] at hcall
    go_wp2_with ((with_reducible refine hcall.mono ?_);rintro e w' ⟨rfl,hb'⟩)
    go_ret
    refine ⟨?_,hb'⟩
    rw [Mach.idxP_hit p n kk hlt hq AA.out]
    rfl
   | false =>
    rw [hq] at hcall
    go_wp2_with ((with_reducible refine hcall.mono ?_);rintro e w' ⟨rfl,hb'⟩)
    go_roundg (n - (kk+1))
    case measure=>omega
    case rel =>
     refine ⟨kk+1,by omega,by omega,by go_num,⟨hb'⟩,⟨fun j hj=>?_⟩⟩
     by_cases e:j=kk
     ·subst e;exact hq
     ·exact AA.out j (by omega)
  ·have hltz:¬ (kk:Int)<(n:Int):=by omega
   have:kk=n:=by omega
   subst this
   go_wp2
   go_ret
   refine ⟨?_,BW.out⟩
   rw [Mach.idxP_miss p kk AA.out]
   rfl
/-! ### impl_ruleAt: function 173, by hand -/
def ruleIs (s:Int) (n:ByteArray) (x:S155):Bool:=x.f0 == s && x.f1.toList == n.toList
def ruleAtI (l:List S155) (s:Int) (n:ByteArray):Int:=Mach.idxP (fun j=>ruleIs s n (l.getD j z155)) l.length
def impl_ruleAt.f (l0:List S155) (n1:Int) (s2:ByteArray):Option Int:=some (ruleAtI l0 n1 s2)
theorem impl_ruleAt.lit2 (f0:Int) (f1:ByteArray) (A3:Option Addr) (n3 c3:Nat) (s:Int) (n:ByteArray) (B:Nat) (w:World) (h0:w.cell? ⟨B,0,none⟩=some (.int .i64 s)) (h1:w.cell? ⟨B+1,0,none⟩=some (.string n)) (hB:B+1<w.heap.size):Calls Try.prog 205 #[.agg #[.int .i64 f0,.string f1,.slice A3 n3 c3],.pointer (some ⟨B,0,none⟩),.pointer (some ⟨B+1,0,none⟩)] w fun e w'=>e=.returned (.bool (f0 == s && f1.toList == n.toList))∧Below w.heap.size w w':=by
 have g0:=pw_cell_below (below_alloc (Below.refl w.heap.size w) (.cells #[.int .i64 f0,.string f1,.slice A3 n3 c3] 155)) h0
 have g1:=pw_cell_below (below_alloc (Below.refl w.heap.size w) (.cells #[.int .i64 f0,.string f1,.slice A3 n3 c3] 155)) h1
 clear h0 h1 hB
 cases hq:f0 == s with
 | true =>
  rw [Bool.true_and]
  go_enter Try.func205,Try.ntmps205
  go_wp2
  go_ret
  exact ⟨rfl,below_alloc (Below.refl _ _) _⟩
 | false =>
  rw [Bool.false_and]
  go_enter Try.func205,Try.ntmps205
  go_wp2
  go_ret
  exact ⟨rfl,below_alloc (Below.refl _ _) _⟩
theorem impl_ruleAt.lit (x:S155) (A3:Option Addr) (c3:Nat) (s:Int) (n:ByteArray) (B:Nat) (w:World) (h0:w.cell? ⟨B,0,none⟩=some (.int .i64 s)) (h1:w.cell? ⟨B+1,0,none⟩=some (.string n)) (hB:B+1<w.heap.size):Calls Try.prog 205 #[.agg #[.int .i64 x.f0,.string x.f1,.slice A3 x.f2.length c3],.pointer (some ⟨B,0,none⟩),.pointer (some ⟨B+1,0,none⟩)] w fun e w'=>e=.returned (.bool (ruleIs s n x))∧Below w.heap.size w w' :=
 impl_ruleAt.lit2 x.f0 x.f1 A3 x.f2.length c3 s n B w h0 h1 hB
/-- The cells of a list of rules. -/
theorem ruleCells (A0:Option Addr) (l0:List S155) (w:World) (hr0:Kd.C k155 w A0 l0.length l0):∃ F:Nat→Option Addr × Nat,∀ j,j<l0.length→(∃ ad,A0=some ad∧∀ i u,([.int .i64 (l0.getD j z155).f0,.string (l0.getD j z155).f1,.slice (F j).1 (l0.getD j z155).f2.length (F j).2]:List Value)[i]? = some u→w.cell? (ad.add (j * 3+i))=some u)∧(l0.getD j z155).f2.length≤(F j).2∧Kd.C Kd.string w (F j).1 (l0.getD j z155).f2.length (l0.getD j z155).f2:=by
 have hcells:∀ j,j<l0.length→∃ (A3:Option Addr) (c3:Nat),(∃ ad,A0=some ad∧∀ i u,([.int .i64 (l0.getD j z155).f0,.string (l0.getD j z155).f1,.slice A3 (l0.getD j z155).f2.length c3]:List Value)[i]? = some u→w.cell? (ad.add (j * 3+i))=some u)∧(l0.getD j z155).f2.length≤c3∧Kd.C Kd.string w A3 (l0.getD j z155).f2.length (l0.getD j z155).f2:=by
  intro j hj
  obtain ⟨ad,c,e,hcl,hK,hc⟩:=Kd.C_get hr0 z155 (j:Int) (by omega) (by omega)
  rw [Int.toNat_natCast] at hK hc
  obtain ⟨A3,c3,rfl,h1,h2⟩:=k155_open hK
  exact ⟨A3,c3,⟨ad,e,hc⟩,h1,h2⟩
 refine ⟨fun j=>if hj:j<l0.length then ⟨(hcells j hj).choose,(hcells j hj).choose_spec.choose⟩ else ⟨none,0⟩,fun j hj=>?_⟩
 simp only [dif_pos hj]
 exact (hcells j hj).choose_spec.choose_spec
theorem impl_ruleAt.calls (A0:Option Addr) (c0:Nat) (l0:List S155) (n1:Int) (s2:ByteArray) (r:Int) (w:World) (hr0:Kd.C k155 w A0 l0.length l0) (hc0:l0.length≤c0) (h:impl_ruleAt.f l0 n1 s2=some r) :
 Calls Try.prog 173 #[.slice A0 l0.length c0,.int .i64 n1,.string s2] w fun e w'=>e=.returned (.int .i64 r)∧Below w.heap.size w w':=by
 obtain rfl:=Option.some.inj h
 obtain ⟨F,hF⟩:=ruleCells A0 l0 w hr0
 have hcall:∀ W:World,Below w.heap.size w W→∀ B,W.cell? ⟨B,0,none⟩=some (.int .i64 n1)→W.cell? ⟨B+1,0,none⟩=some (.string s2)→B+1<W.heap.size→Calls Try.prog 204 #[.slice A0 l0.length c0,.func (.func 205) #[] #[.pointer (some ⟨B,0,none⟩),.pointer (some ⟨B+1,0,none⟩)]] W fun e w'=>e=.returned (.int .i64 (ruleAtI l0 n1 s2))∧Below W.heap.size W w':=by
  intro W hW B h0 h1 hB
  exact IndexFunc_Rule.holds A0 l0.length c0 (fun j=>[.int .i64 (l0.getD j z155).f0,.string (l0.getD j z155).f1,.slice (F j).1 (l0.getD j z155).f2.length (F j).2]) (fun j=>ruleIs n1 s2 (l0.getD j z155)) 205 #[.pointer (some ⟨B,0,none⟩),.pointer (some ⟨B+1,0,none⟩)] (Mach.enters_of Try.func205 (by kernel_rfl) rfl) W
   (fun j hj V hb=>(impl_ruleAt.lit (l0.getD j z155) (F j).1 (F j).2 n1 s2 B V (pw_cell_below hb h0) (pw_cell_below hb h1) (Nat.lt_of_lt_of_le hB hb.size)).mono fun e w' ⟨he,hb'⟩=>⟨he,hb.trans (hb'.mono hb.size)⟩) hr0.2.1
   (fun j hj=>by
    obtain ⟨⟨ad,e,hc⟩,_⟩:=hF j hj
    exact ⟨ad,e,rfl,fun i u hu=>pw_cell_below hW (hc i u hu)⟩)
 have HCALL:=Aside0.mk hcall
 generalize ruleAtI l0 n1 s2=R at *
 generalize l0.length=N at *
 clear hF hcall hr0 hc0
 go_enter Try.func173,Try.ntmps173
 have hb2:=below_alloc (below_alloc (Below.refl w.heap.size w) (.cells #[.int .i64 n1] 3)) (.cells #[.string s2] 9)
 have q:=HCALL.out _ hb2 w.heap.size (Mach.old_cell _ (Mach.new_cell _ _ _ 0 _ rfl)) (Mach.newer_cell _ _ _ _ 0 _ rfl) (by rw [World.size_alloc,World.size_alloc];omega)
 have HB2:=Aside0.mk hb2
 clear hb2
 go_wp2_with (go_at_call 204;(with_reducible refine q.mono ?_);rintro e w' ⟨rfl,hb'⟩)
 go_ret
 exact ⟨rfl,HB2.out.trans (hb'.mono HB2.out.size)⟩
/-! ### spec_l07At: function 170 -/
def spec_l07At.l0:Nat→List (S155)→Int→ByteArray→Int→Option (Int)
 | 0,_,_,_,_=>none
 | k+1,x0,x1,x2,x7=>if x7<(x0.length:Int) then (if 0≤x7 then (if ((rd_T155 x0 x7).f0)=x1 then (if ((rd_T155 x0 x7).f1).toList=x2.toList then (some x7) else (spec_l07At.l0 k x0 x1 x2 (wrap64 (x7+1)))) else (spec_l07At.l0 k x0 x1 x2 (wrap64 (x7+1)))) else (none)) else (some (-1))
def spec_l07At.f (k:Nat) (l0:List (S155)) (a1:Int) (a2:ByteArray):Option (Int):=spec_l07At.l0 k l0 a1 a2 0
theorem spec_l07At.mono_l:∀ k,(∀ y0 y1 y2 y3,LeO (spec_l07At.l0 k y0 y1 y2 y3) (spec_l07At.l0 (k+1) y0 y1 y2 y3))
 | 0=>fun _ _ _ _ r h=>by simp [spec_l07At.l0] at h
 | k+1=>by
  have ih0:=spec_l07At.mono_l k
  ·intro y0 y1 y2 y3
   unfold spec_l07At.l0
   repeat' first
   | (with_reducible exact ih0 _ _ _ _)
   | (with_reducible exact LeO.refl _)
   | (with_reducible exact LeO.none _)
   | (with_reducible refine LeO.ite ?_ ?_)
   | (with_reducible refine LeO.bind ?_ (fun _=>?_))
   | exact ih0 _ _ _ _
   | exact LeO.none _
   | refine LeO.ite ?_ ?_
   | refine LeO.bind ?_ (fun _=>?_)
theorem spec_l07At.mono:∀ a0 a1 a2 k,LeO (spec_l07At.f k a0 a1 a2) (spec_l07At.f (k+1) a0 a1 a2):=by
 intro a0 a1 a2 k
 have ih0:=spec_l07At.mono_l k
 unfold spec_l07At.f
 repeat' first
  | (with_reducible exact ih0 _ _ _ _)
  | (with_reducible exact LeO.refl _)
  | (with_reducible exact LeO.none _)
  | (with_reducible refine LeO.ite ?_ ?_)
  | (with_reducible refine LeO.bind ?_ (fun _=>?_))
  | exact ih0 _ _ _ _
  | exact LeO.none _
  | refine LeO.ite ?_ ?_
  | refine LeO.bind ?_ (fun _=>?_)
set_option maxHeartbeats 8000000 in
set_option maxRecDepth 100000 in
theorem spec_l07At.calls (k:Nat) (A0:Option Addr) (c0:Nat) (l0:List (S155)) (a1:Int) (a2:ByteArray) (r:Int) (w:World) (hr0:Kd.C k155 w A0 l0.length l0) (hc0:l0.length≤c0) (h:spec_l07At.f k l0 a1 a2=some r) :
 Calls Try.prog 170 #[.slice A0 l0.length c0,.int .i64 a1,.string a2] w fun e w'=>e=.returned (.int .i64 r)∧Drawn0 w w':=by
 have HR0:=Aside0.mk hr0
 have HC0:=Aside0.mk hc0
 clear hr0 hc0
 have H:(spec_l07At.l0 k l0 a1 a2 0)=some r:=h
 clear h
 have H':=Aside0.mk H
 clear H
 go_enter Try.func170,Try.ntmps170
 go_wp2
 go_loopg [7] k (fun kq v7 w'=>∃ (x7_1:Int),v7=.int .i64 x7_1∧Aside0 (spec_l07At.l0 kq l0 a1 a2 x7_1=some r)∧Aside0 (kq≤k)∧Drawn0 w w')
 case atStart=>exact ⟨(0),(by first|rfl|(simp;done)|(simp [*];done)),H',⟨Nat.le_refl _⟩,by repeat (first|exact Drawn0.refl _|apply Drawn0.step)⟩
 case round =>
  clear H'
  try clear c1
  try clear p2
  obtain ⟨x7_1,rfl,HA,HK1,⟨m1,rfl⟩⟩:=hrel
  cases gk with
  | zero=>exact absurd HA.out (by simp [spec_l07At.l0])
  | succ k1 =>
   have H:=HA.out
   clear HA
   simp only [spec_l07At.l0] at H
   by_cases c4:x7_1<(l0.length:Int)
   ·rw [if_pos c4] at H
    have c4b0:decide (x7_1<(l0.length:Int))=true:=decide_eq_true c4
    clear c4
    by_cases c5:0≤x7_1
    ·rw [if_pos c5] at H
     have c5b0:decide (0≤x7_1)=true:=decide_eq_true c5
     clear c5
     by_cases c6:((rd_T155 l0 x7_1).f0)=a1
     ·rw [if_pos c6] at H
      have c6b0:(((rd_T155 l0 x7_1).f0) == a1)=true:=beq_iff_eq.mpr c6
      have c6b1:(((rd_T155 l0 x7_1).f0) != a1)=false:=bne_eq_false_iff_eq.mpr c6
      clear c6
      by_cases c7:((rd_T155 l0 x7_1).f1).toList=a2.toList
      ·rw [if_pos c7] at H
       have c7b0:(((rd_T155 l0 x7_1).f1).toList == a2.toList)=true:=beq_iff_eq.mpr c7
       have c7b1:(((rd_T155 l0 x7_1).f1).toList != a2.toList)=false:=bne_eq_false_iff_eq.mpr c7
       clear c7
       obtain rfl:=Option.some.inj H
       have p154:0≤(x7_1:Int):=of_decide_eq_true (by first|(with_reducible assumption)|assumption)
       have q154:x7_1<(l0.length:Int):=of_decide_eq_true (by first|(with_reducible assumption)|assumption)
       obtain ⟨ad154,A154_2,c154_2,e154,hx154_0,hx154_1,hx154_2,hl154_2,hi154_2⟩:=at_T155 HR0.out x7_1 p154 q154
       cases e154
       have HR154_2:=Aside0.mk hi154_2
       have HC154_2:=Aside0.mk hl154_2
       clear hi154_2 hl154_2
       replace p154:=eq_true p154
       replace q154:=eq_true q154
       have p155:0≤(x7_1:Int):=of_decide_eq_true (by first|(with_reducible assumption)|assumption)
       have q155:x7_1<(l0.length:Int):=of_decide_eq_true (by first|(with_reducible assumption)|assumption)
       obtain ⟨ad155,A155_2,c155_2,e155,hx155_0,hx155_1,hx155_2,hl155_2,hi155_2⟩:=at_T155 HR0.out x7_1 p155 q155
       obtain rfl:ad154=ad155:=(by injection e155)
       have HR155_2:=Aside0.mk hi155_2
       have HC155_2:=Aside0.mk hl155_2
       clear hi155_2 hl155_2
       replace p155:=eq_true p155
       replace q155:=eq_true q155
       have ea_:=Option.some.inj (hx154_2.symm.trans hx155_2)
       injection ea_ with ea_ en_ ec_
       subst ea_
       subst ec_
       clear en_
       go_wp2
       go_ret
       exact ⟨by first|rfl|(simp;done)|(simp [*];done),by repeat (first|exact Drawn0.refl _|apply Drawn0.step)⟩
      ·rw [if_neg c7] at H
       have c7b0:(((rd_T155 l0 x7_1).f1).toList == a2.toList)=false:=beq_eq_false_iff_ne.mpr c7
       have c7b1:(((rd_T155 l0 x7_1).f1).toList != a2.toList)=true:=bne_iff_ne.mpr c7
       have H':=Aside0.mk H
       clear H
       have p154:0≤(x7_1:Int):=of_decide_eq_true (by first|(with_reducible assumption)|assumption)
       have q154:x7_1<(l0.length:Int):=of_decide_eq_true (by first|(with_reducible assumption)|assumption)
       obtain ⟨ad154,A154_2,c154_2,e154,hx154_0,hx154_1,hx154_2,hl154_2,hi154_2⟩:=at_T155 HR0.out x7_1 p154 q154
       cases e154
       have HR154_2:=Aside0.mk hi154_2
       have HC154_2:=Aside0.mk hl154_2
       clear hi154_2 hl154_2
       replace p154:=eq_true p154
       replace q154:=eq_true q154
       have p155:0≤(x7_1:Int):=of_decide_eq_true (by first|(with_reducible assumption)|assumption)
       have q155:x7_1<(l0.length:Int):=of_decide_eq_true (by first|(with_reducible assumption)|assumption)
       obtain ⟨ad155,A155_2,c155_2,e155,hx155_0,hx155_1,hx155_2,hl155_2,hi155_2⟩:=at_T155 HR0.out x7_1 p155 q155
       obtain rfl:ad154=ad155:=(by injection e155)
       have HR155_2:=Aside0.mk hi155_2
       have HC155_2:=Aside0.mk hl155_2
       clear hi155_2 hl155_2
       replace p155:=eq_true p155
       replace q155:=eq_true q155
       have ea_:=Option.some.inj (hx154_2.symm.trans hx155_2)
       injection ea_ with ea_ en_ ec_
       subst ea_
       subst ec_
       clear en_
       go_wp2
       go_roundg k1
       case measure=>have:=HK1.out;omega
       case rel=>exact ⟨(wrap64 (x7_1+1)),(by first|rfl|(simp;done)|(simp [*];done)),H',⟨by have:=HK1.out;omega⟩,by repeat (first|exact Drawn0.refl _|apply Drawn0.step)⟩
     ·rw [if_neg c6] at H
      have c6b0:(((rd_T155 l0 x7_1).f0) == a1)=false:=beq_eq_false_iff_ne.mpr c6
      have c6b1:(((rd_T155 l0 x7_1).f0) != a1)=true:=bne_iff_ne.mpr c6
      have H':=Aside0.mk H
      clear H
      have p154:0≤(x7_1:Int):=of_decide_eq_true (by first|(with_reducible assumption)|assumption)
      have q154:x7_1<(l0.length:Int):=of_decide_eq_true (by first|(with_reducible assumption)|assumption)
      obtain ⟨ad154,A154_2,c154_2,e154,hx154_0,hx154_1,hx154_2,hl154_2,hi154_2⟩:=at_T155 HR0.out x7_1 p154 q154
      cases e154
      have HR154_2:=Aside0.mk hi154_2
      have HC154_2:=Aside0.mk hl154_2
      clear hi154_2 hl154_2
      replace p154:=eq_true p154
      replace q154:=eq_true q154
      go_wp2
      go_roundg k1
      case measure=>have:=HK1.out;omega
      case rel=>exact ⟨(wrap64 (x7_1+1)),(by first|rfl|(simp;done)|(simp [*];done)),H',⟨by have:=HK1.out;omega⟩,by repeat (first|exact Drawn0.refl _|apply Drawn0.step)⟩
    ·rw [if_neg c5] at H
     exact absurd H (by simp)
   ·rw [if_neg c4] at H
    have c4b0:decide (x7_1<(l0.length:Int))=false:=decide_eq_false c4
    clear c4
    obtain rfl:=Option.some.inj H
    go_wp2
    go_ret
    exact ⟨by first|rfl|(simp;done)|(simp [*];done),by repeat (first|exact Drawn0.refl _|apply Drawn0.step)⟩
theorem ev_l07At (l:List S155) (s:Int) (n:ByteArray) (hn:l.length≤9223372036854775807):Ev (fun k=>spec_l07At.f k l s n) (ruleAtI l s n):=by
 have key:∀ i,i≤l.length→(∀ j,j<i→ruleIs s n (l.getD j z155)=false)→Ev (fun k=>spec_l07At.l0 k l s n i) (ruleAtI l s n):=by
  refine Kit.down ?_ ?_
  ·intro hb
   refine Ev.step (fun k=>rfl) ?_
   refine Kit.ev_neg (by omega) ?_
   rw [ruleAtI,Mach.idxP_miss _ _ hb]
   exact Ev.now _
  ·intro i hi ih hb
   refine Ev.step (fun k=>rfl) ?_
   refine Kit.ev_pos (by omega) (Kit.ev_pos (by omega) ?_)
   rw [show rd_T155 l (i:Int)=l.getD i z155 from rfl,Kit.wrap_nat hi hn]
   have hnext:ruleIs s n (l.getD i z155)=false→Ev (fun k=>spec_l07At.l0 k l s n ((i+1:Nat):Int)) (ruleAtI l s n):=fun h=>ih fun j hj=>by
    by_cases e:j=i
    ·subst e;exact h
    ·exact hb j (by omega)
   refine Kit.ev_if (fun h1=>Kit.ev_if (fun h2=>?_) (fun h2=>?_)) (fun h1=>?_)
   ·have ht:ruleIs s n (l.getD i z155)=true:=by unfold ruleIs;rw [h1,h2,beq_self_eq_true,beq_self_eq_true];rfl
    rw [ruleAtI,Mach.idxP_hit (fun j=>ruleIs s n (l.getD j z155)) l.length i hi ht hb]
    exact Ev.now _
   ·exact hnext (by unfold ruleIs;rw [Bool.and_eq_false_iff];exact .inr (by simpa using h2))
   ·exact hnext (by unfold ruleIs;rw [Bool.and_eq_false_iff];exact .inl (by simpa using h1))
 exact key 0 (by omega) (fun j hj=>absurd hj (Nat.not_lt_zero _))
theorem spec_l07At.pure (A:Option Addr) (c:Nat) (l:List S155) (s:Int) (n:ByteArray) (W:World) (h:Kd.C k155 W A l.length l) (hc:l.length≤c):Calls Try.prog 170 #[.slice A l.length c,.int .i64 s,.string n] W fun e w'=>e=.returned (.int .i64 (ruleAtI l s n))∧Below W.heap.size W w':=by
 obtain ⟨K,hK⟩:=ev_l07At l s n h.2.1
 exact (spec_l07At.calls K A c l s n _ W h hc (hK K (Nat.le_refl _))).mono fun e w' ⟨he,hd⟩=>⟨he,hd.below⟩
/-! ### spec_l01In: function 141 -/
def spec_l01In.f (a0:Int) (a1:Int) (a2:Int):Option (Bool):=if a0≥a1 then (some (decide (a0≤a2))) else (some false)
set_option maxHeartbeats 8000000 in
set_option maxRecDepth 100000 in
theorem spec_l01In.calls (a0:Int) (a1:Int) (a2:Int) (r:Bool) (w:World) (h:spec_l01In.f a0 a1 a2=some r) :
 Calls Try.prog 141 #[.int .i64 a0,.int .i64 a1,.int .i64 a2] w fun e w'=>e=.returned (.bool r)∧Drawn0 w w':=by
 have H:(if a0≥a1 then (some (decide (a0≤a2))) else (some false))=some r:=h
 clear h
 by_cases c4:a0≥a1
 ·rw [if_pos c4] at H
  have c4b0:decide (a1≤a0)=true:=decide_eq_true c4
  clear c4
  obtain rfl:=Option.some.inj H
  go_enter Try.func141,Try.ntmps141
  go_wp2
  go_ret
  exact ⟨by first|rfl|(simp;done)|(simp [*];done),by repeat (first|exact Drawn0.refl _|apply Drawn0.step)⟩
 ·rw [if_neg c4] at H
  have c4b0:decide (a1≤a0)=false:=decide_eq_false c4
  clear c4
  obtain rfl:=Option.some.inj H
  go_enter Try.func141,Try.ntmps141
  go_wp2
  go_ret
  exact ⟨by first|rfl|(simp;done)|(simp [*];done),by repeat (first|exact Drawn0.refl _|apply Drawn0.step)⟩
/-! ### spec_l00Digit: function 184 -/
def spec_l00Digit.f (a0:Int):Option (Bool):=if a0≥48 then (some (decide (a0≤57))) else (some false)
set_option maxHeartbeats 8000000 in
set_option maxRecDepth 100000 in
theorem spec_l00Digit.calls (a0:Int) (r:Bool) (w:World) (h:spec_l00Digit.f a0=some r) :
 Calls Try.prog 184 #[.int .u8 a0] w fun e w'=>e=.returned (.bool r)∧Drawn0 w w':=by
 have H:(if a0≥48 then (some (decide (a0≤57))) else (some false))=some r:=h
 clear h
 by_cases c2:a0≥48
 ·rw [if_pos c2] at H
  have c2b0:decide (48≤a0)=true:=decide_eq_true c2
  clear c2
  obtain rfl:=Option.some.inj H
  go_enter Try.func184,Try.ntmps184
  go_wp2
  go_ret
  exact ⟨by first|rfl|(simp;done)|(simp [*];done),by repeat (first|exact Drawn0.refl _|apply Drawn0.step)⟩
 ·rw [if_neg c2] at H
  have c2b0:decide (48≤a0)=false:=decide_eq_false c2
  clear c2
  obtain rfl:=Option.some.inj H
  go_enter Try.func184,Try.ntmps184
  go_wp2
  go_ret
  exact ⟨by first|rfl|(simp;done)|(simp [*];done),by repeat (first|exact Drawn0.refl _|apply Drawn0.step)⟩
end Go.Proofs.Ytophaihdibplkaa.PFnExactSameConfig
