/- By a program of this session, out of the kit's print and contracts made by hand: the machine side of a law; Lean checks it. No conditions. -/
import Derived.Test.YtmeafbneklphnaaPFnExactAllowsAttrx0
import Derived.Test.YtmeafbneklphnaaPFnExactAllowsAttrx3
import Derived.Test.YtmeafbneklphnaaPFnExactAllowsAttrx4
namespace Go.Proofs.Ytmeafbneklphnaa.PFnExactAllowsAttr
open Go.RowKit Go.Proofs.YtmeafbneklphnaaW.PrintWords Go.Proofs.YtmeafbneklphnaaW.PrintLast Go.Proofs.YtmeafbneklphnaaW.PrintMore
attribute [local go_sem] max2_int min2_int max_two min_two max_three min_three max_four min_four
set_option linter.unusedVariables false
set_option linter.unusedSimpArgs false
/-! ### impl_ruleAt: function 82, by hand -/
def ruleIs (s:Int) (n:ByteArray) (x:S56):Bool:=x.f0 == s && x.f1.toList == n.toList
def ruleAtI (l:List S56) (s:Int) (n:ByteArray):Int:=Mach.idxP (fun j=>ruleIs s n (l.getD j z56)) l.length
def impl_ruleAt.f (l0:List S56) (n1:Int) (s2:ByteArray):Option Int:=some (ruleAtI l0 n1 s2)
theorem impl_ruleAt.lit2 (f0:Int) (f1:ByteArray) (A3:Option Addr) (n3 c3:Nat) (s:Int) (n:ByteArray) (B:Nat) (w:World) (h0:w.cell? ⟨B,0,none⟩=some (.int .i64 s)) (h1:w.cell? ⟨B+1,0,none⟩=some (.string n)) (hB:B+1<w.heap.size):Calls Try.prog 103 #[.agg #[.int .i64 f0,.string f1,.slice A3 n3 c3],.pointer (some ⟨B,0,none⟩),.pointer (some ⟨B+1,0,none⟩)] w fun e w'=>e=.returned (.bool (f0 == s && f1.toList == n.toList))∧Below w.heap.size w w':=by
 have g0:=pc_ (ba_ (Below.refl w.heap.size w) (.cells #[.int .i64 f0,.string f1,.slice A3 n3 c3] 56)) h0
 have g1:=pc_ (ba_ (Below.refl w.heap.size w) (.cells #[.int .i64 f0,.string f1,.slice A3 n3 c3] 56)) h1
 clear h0 h1 hB
 cases hq:f0 == s with
 | true =>
  rw [Bool.true_and]
  go_enter Try.func103,Try.ntmps103
  go_wp2
  go_ret
  exact ⟨rfl,ba_ (Below.refl _ _) _⟩
 | false =>
  rw [Bool.false_and]
  go_enter Try.func103,Try.ntmps103
  go_wp2
  go_ret
  exact ⟨rfl,ba_ (Below.refl _ _) _⟩
theorem impl_ruleAt.lit (x:S56) (A3:Option Addr) (c3:Nat) (s:Int) (n:ByteArray) (B:Nat) (w:World) (h0:w.cell? ⟨B,0,none⟩=some (.int .i64 s)) (h1:w.cell? ⟨B+1,0,none⟩=some (.string n)) (hB:B+1<w.heap.size):Calls Try.prog 103 #[.agg #[.int .i64 x.f0,.string x.f1,.slice A3 x.f2.length c3],.pointer (some ⟨B,0,none⟩),.pointer (some ⟨B+1,0,none⟩)] w fun e w'=>e=.returned (.bool (ruleIs s n x))∧Below w.heap.size w w' :=
 impl_ruleAt.lit2 x.f0 x.f1 A3 x.f2.length c3 s n B w h0 h1 hB
/-- The cells of a list of rules. -/
theorem ruleCells (A0:Option Addr) (l0:List S56) (w:World) (hr0:Kd.C k56 w A0 l0.length l0):∃ F:Nat→Option Addr × Nat,∀ j,j<l0.length→(∃ ad,A0=some ad∧∀ i u,([.int .i64 (l0.getD j z56).f0,.string (l0.getD j z56).f1,.slice (F j).1 (l0.getD j z56).f2.length (F j).2]:List Value)[i]? = some u→w.cell? (ad.add (j * 3+i))=some u)∧(l0.getD j z56).f2.length≤(F j).2∧Kd.C Kd.string w (F j).1 (l0.getD j z56).f2.length (l0.getD j z56).f2:=by
 have hcells:∀ j,j<l0.length→∃ (A3:Option Addr) (c3:Nat),(∃ ad,A0=some ad∧∀ i u,([.int .i64 (l0.getD j z56).f0,.string (l0.getD j z56).f1,.slice A3 (l0.getD j z56).f2.length c3]:List Value)[i]? = some u→w.cell? (ad.add (j * 3+i))=some u)∧(l0.getD j z56).f2.length≤c3∧Kd.C Kd.string w A3 (l0.getD j z56).f2.length (l0.getD j z56).f2:=by
  intro j hj
  obtain ⟨ad,c,e,hcl,hK,hc⟩:=Kd.C_get hr0 z56 (j:Int) (by omega) (by omega)
  rw [Int.toNat_natCast] at hK hc
  obtain ⟨A3,c3,rfl,h1,h2⟩:=k56_open hK
  exact ⟨A3,c3,⟨ad,e,hc⟩,h1,h2⟩
 refine ⟨fun j=>if hj:j<l0.length then ⟨(hcells j hj).choose,(hcells j hj).choose_spec.choose⟩ else ⟨none,0⟩,fun j hj=>?_⟩
 simp only [dif_pos hj]
 exact (hcells j hj).choose_spec.choose_spec
theorem impl_ruleAt.calls (A0:Option Addr) (c0:Nat) (l0:List S56) (n1:Int) (s2:ByteArray) (r:Int) (w:World) (hr0:Kd.C k56 w A0 l0.length l0) (hc0:l0.length≤c0) (h:impl_ruleAt.f l0 n1 s2=some r) :
 Calls Try.prog 82 #[.slice A0 l0.length c0,.int .i64 n1,.string s2] w fun e w'=>e=.returned (.int .i64 r)∧Below w.heap.size w w':=by
 obtain rfl:=oi_ h
 obtain ⟨F,hF⟩:=ruleCells A0 l0 w hr0
 have hcall:∀ W:World,Below w.heap.size w W→∀ B,W.cell? ⟨B,0,none⟩=some (.int .i64 n1)→W.cell? ⟨B+1,0,none⟩=some (.string s2)→B+1<W.heap.size→Calls Try.prog 102 #[.slice A0 l0.length c0,.func (.func 103) #[] #[.pointer (some ⟨B,0,none⟩),.pointer (some ⟨B+1,0,none⟩)]] W fun e w'=>e=.returned (.int .i64 (ruleAtI l0 n1 s2))∧Below W.heap.size W w':=by
  intro W hW B h0 h1 hB
  exact IndexFunc_Rule.holds A0 l0.length c0 (fun j=>[.int .i64 (l0.getD j z56).f0,.string (l0.getD j z56).f1,.slice (F j).1 (l0.getD j z56).f2.length (F j).2]) (fun j=>ruleIs n1 s2 (l0.getD j z56)) 103 #[.pointer (some ⟨B,0,none⟩),.pointer (some ⟨B+1,0,none⟩)] (Mach.enters_of Try.func103 (by kernel_rfl) rfl) W
   (fun j hj V hb=>(impl_ruleAt.lit (l0.getD j z56) (F j).1 (F j).2 n1 s2 B V (pc_ hb h0) (pc_ hb h1) (Nat.lt_of_lt_of_le hB hb.size)).mono fun e w' ⟨he,hb'⟩=>⟨he,hb.trans (hb'.mono hb.size)⟩) hr0.2.1
   (fun j hj=>by
    obtain ⟨⟨ad,e,hc⟩,_⟩:=hF j hj
    exact ⟨ad,e,rfl,fun i u hu=>pc_ hW (hc i u hu)⟩)
 have HCALL:=A_ hcall
 generalize ruleAtI l0 n1 s2=R at *
 generalize l0.length=N at *
 clear hF hcall hr0 hc0
 go_enter Try.func82,Try.ntmps82
 have hb2:=ba_ (ba_ (Below.refl w.heap.size w) (.cells #[.int .i64 n1] 3)) (.cells #[.string s2] 9)
 have q:=HCALL.out _ hb2 w.heap.size (Mach.old_cell _ (Mach.new_cell _ _ _ 0 _ rfl)) (Mach.newer_cell _ _ _ _ 0 _ rfl) (by rw [World.size_alloc,World.size_alloc];omega)
 have HB2:=A_ hb2
 clear hb2
 go_wp2_with (go_at_call 102;(with_reducible refine q.mono ?_);rintro e w' ⟨rfl,hb'⟩)
 go_ret
 exact ⟨rfl,HB2.out.trans (hb'.mono HB2.out.size)⟩
/-! ### spec_l07At: function 77 -/
def spec_l07At.l0:Nat→List (S56)→Int→ByteArray→Int→Option (Int)
 | 0,_,_,_,_=>none
 | k+1,x0,x1,x2,x7=>if x7<(x0.length:Int) then (if 0≤x7 then (if ((rd_T56 x0 x7).f0)=x1 then (if ((rd_T56 x0 x7).f1).toList=x2.toList then (some x7) else (spec_l07At.l0 k x0 x1 x2 (wrap64 (x7+1)))) else (spec_l07At.l0 k x0 x1 x2 (wrap64 (x7+1)))) else (none)) else (some (-1))
def spec_l07At.f (k:Nat) (l0:List (S56)) (a1:Int) (a2:ByteArray):Option (Int):=spec_l07At.l0 k l0 a1 a2 0
theorem spec_l07At.mono_l:∀ k,(∀ y0 y1 y2 y3,LeO (spec_l07At.l0 k y0 y1 y2 y3) (spec_l07At.l0 (k+1) y0 y1 y2 y3))
 | 0=>fun _ _ _ _ r h=>by simp [spec_l07At.l0] at h
 | k+1=>by
  have ih0:=spec_l07At.mono_l k
  ·intro y0 y1 y2 y3
   unfold spec_l07At.l0
   repeat' first
   | (with_reducible exact ih0 _ _ _ _)
   | (with_reducible exact LeO.refl _)
   | (with_reducible exact LeO.none _)
   | (with_reducible refine LeO.ite ?_ ?_)
   | (with_reducible refine LeO.bind ?_ (fun _=>?_))
   | exact ih0 _ _ _ _
   | exact LeO.none _
   | refine LeO.ite ?_ ?_
   | refine LeO.bind ?_ (fun _=>?_)
theorem spec_l07At.mono:∀ a0 a1 a2 k,LeO (spec_l07At.f k a0 a1 a2) (spec_l07At.f (k+1) a0 a1 a2):=by
 intro a0 a1 a2 k
 have ih0:=spec_l07At.mono_l k
 unfold spec_l07At.f
 repeat' first
  | (with_reducible exact ih0 _ _ _ _)
  | (with_reducible exact LeO.refl _)
  | (with_reducible exact LeO.none _)
  | (with_reducible refine LeO.ite ?_ ?_)
  | (with_reducible refine LeO.bind ?_ (fun _=>?_))
  | exact ih0 _ _ _ _
  | exact LeO.none _
  | refine LeO.ite ?_ ?_
  | refine LeO.bind ?_ (fun _=>?_)
set_option maxHeartbeats 8000000 in
set_option maxRecDepth 100000 in
theorem spec_l07At.calls (k:Nat) (A0:Option Addr) (c0:Nat) (l0:List (S56)) (a1:Int) (a2:ByteArray) (r:Int) (w:World) (hr0:Kd.C k56 w A0 l0.length l0) (hc0:l0.length≤c0) (h:spec_l07At.f k l0 a1 a2=some r) :
 Calls Try.prog 77 #[.slice A0 l0.length c0,.int .i64 a1,.string a2] w fun e w'=>e=.returned (.int .i64 r)∧Drawn0 w w':=by
 have HR0:=A_ hr0
 have HC0:=A_ hc0
 clear hr0 hc0
 have H:(spec_l07At.l0 k l0 a1 a2 0)=some r:=h
 clear h
 have H':=A_ H
 clear H
 go_enter Try.func77,Try.ntmps77
 go_wp2
 go_loopg [7] k (fun kq v7 w'=>∃ (x7_1:Int),v7=.int .i64 x7_1∧Aside0 (spec_l07At.l0 kq l0 a1 a2 x7_1=some r)∧Aside0 (kq≤k)∧Drawn0 w w')
 case atStart=>exact ⟨(0),(by first|rfl|(simp;done)|(simp [*];done)),H',⟨Nat.le_refl _⟩,by repeat (first|exact dr_ _|apply dp_)⟩
 case round =>
  clear H'
  try clear p2
  obtain ⟨x7_1,rfl,HA,HK1,⟨m1,rfl⟩⟩:=hrel
  cases gk with
  | zero=>exact absurd HA.out (by simp [spec_l07At.l0])
  | succ k1 =>
   have H:=HA.out
   clear HA
   simp only [spec_l07At.l0] at H
   by_cases c4:x7_1<(l0.length:Int)
   ·rw [if_pos c4] at H
    have c4b0:decide (x7_1<(l0.length:Int))=true:=dt_ c4
    clear c4
    by_cases c5:0≤x7_1
    ·rw [if_pos c5] at H
     have c5b0:decide (0≤x7_1)=true:=dt_ c5
     clear c5
     by_cases c6:((rd_T56 l0 x7_1).f0)=a1
     ·rw [if_pos c6] at H
      have c6b0:(((rd_T56 l0 x7_1).f0) == a1)=true:=beq_iff_eq.mpr c6
      have c6b1:(((rd_T56 l0 x7_1).f0) != a1)=false:=bne_eq_false_iff_eq.mpr c6
      clear c6
      by_cases c7:((rd_T56 l0 x7_1).f1).toList=a2.toList
      ·rw [if_pos c7] at H
       have c7b0:(((rd_T56 l0 x7_1).f1).toList == a2.toList)=true:=beq_iff_eq.mpr c7
       have c7b1:(((rd_T56 l0 x7_1).f1).toList != a2.toList)=false:=bne_eq_false_iff_eq.mpr c7
       clear c7
       obtain rfl:=oi_ H
       have p119:0≤(x7_1:Int):=od_ (by first|(with_reducible assumption)|assumption)
       have q119:x7_1<(l0.length:Int):=od_ (by first|(with_reducible assumption)|assumption)
       obtain ⟨ad119,A119_2,c119_2,e119,hx119_0,hx119_1,hx119_2,hl119_2,hi119_2⟩:=at_T56 HR0.out x7_1 p119 q119
       cases e119
       have HR119_2:=A_ hi119_2
       have HC119_2:=A_ hl119_2
       clear hi119_2 hl119_2
       replace p119:=eq_true p119
       replace q119:=eq_true q119
       have p120:0≤(x7_1:Int):=od_ (by first|(with_reducible assumption)|assumption)
       have q120:x7_1<(l0.length:Int):=od_ (by first|(with_reducible assumption)|assumption)
       obtain ⟨ad120,A120_2,c120_2,e120,hx120_0,hx120_1,hx120_2,hl120_2,hi120_2⟩:=at_T56 HR0.out x7_1 p120 q120
       obtain rfl:ad119=ad120:=(by injection e120)
       have HR120_2:=A_ hi120_2
       have HC120_2:=A_ hl120_2
       clear hi120_2 hl120_2
       replace p120:=eq_true p120
       replace q120:=eq_true q120
       have ea_:=oi_ (hx119_2.symm.trans hx120_2)
       injection ea_ with ea_ en_ ec_
       subst ea_
       subst ec_
       clear en_
       go_wp2
       go_ret
       exact ⟨by first|rfl|(simp;done)|(simp [*];done),by repeat (first|exact dr_ _|apply dp_)⟩
      ·rw [if_neg c7] at H
       have c7b0:(((rd_T56 l0 x7_1).f1).toList == a2.toList)=false:=beq_eq_false_iff_ne.mpr c7
       have c7b1:(((rd_T56 l0 x7_1).f1).toList != a2.toList)=true:=bne_iff_ne.mpr c7
       have H':=A_ H
       clear H
       have p119:0≤(x7_1:Int):=od_ (by first|(with_reducible assumption)|assumption)
       have q119:x7_1<(l0.length:Int):=od_ (by first|(with_reducible assumption)|assumption)
       obtain ⟨ad119,A119_2,c119_2,e119,hx119_0,hx119_1,hx119_2,hl119_2,hi119_2⟩:=at_T56 HR0.out x7_1 p119 q119
       cases e119
       have HR119_2:=A_ hi119_2
       have HC119_2:=A_ hl119_2
       clear hi119_2 hl119_2
       replace p119:=eq_true p119
       replace q119:=eq_true q119
       have p120:0≤(x7_1:Int):=od_ (by first|(with_reducible assumption)|assumption)
       have q120:x7_1<(l0.length:Int):=od_ (by first|(with_reducible assumption)|assumption)
       obtain ⟨ad120,A120_2,c120_2,e120,hx120_0,hx120_1,hx120_2,hl120_2,hi120_2⟩:=at_T56 HR0.out x7_1 p120 q120
       obtain rfl:ad119=ad120:=(by injection e120)
       have HR120_2:=A_ hi120_2
       have HC120_2:=A_ hl120_2
       clear hi120_2 hl120_2
       replace p120:=eq_true p120
       replace q120:=eq_true q120
       have ea_:=oi_ (hx119_2.symm.trans hx120_2)
       injection ea_ with ea_ en_ ec_
       subst ea_
       subst ec_
       clear en_
       go_wp2
       go_roundg k1
       case measure=>have:=HK1.out;omega
       case rel=>exact ⟨(wrap64 (x7_1+1)),(by first|rfl|(simp;done)|(simp [*];done)),H',⟨by have:=HK1.out;omega⟩,by repeat (first|exact dr_ _|apply dp_)⟩
     ·rw [if_neg c6] at H
      have c6b0:(((rd_T56 l0 x7_1).f0) == a1)=false:=beq_eq_false_iff_ne.mpr c6
      have c6b1:(((rd_T56 l0 x7_1).f0) != a1)=true:=bne_iff_ne.mpr c6
      have H':=A_ H
      clear H
      have p119:0≤(x7_1:Int):=od_ (by first|(with_reducible assumption)|assumption)
      have q119:x7_1<(l0.length:Int):=od_ (by first|(with_reducible assumption)|assumption)
      obtain ⟨ad119,A119_2,c119_2,e119,hx119_0,hx119_1,hx119_2,hl119_2,hi119_2⟩:=at_T56 HR0.out x7_1 p119 q119
      cases e119
      have HR119_2:=A_ hi119_2
      have HC119_2:=A_ hl119_2
      clear hi119_2 hl119_2
      replace p119:=eq_true p119
      replace q119:=eq_true q119
      go_wp2
      go_roundg k1
      case measure=>have:=HK1.out;omega
      case rel=>exact ⟨(wrap64 (x7_1+1)),(by first|rfl|(simp;done)|(simp [*];done)),H',⟨by have:=HK1.out;omega⟩,by repeat (first|exact dr_ _|apply dp_)⟩
    ·rw [if_neg c5] at H
     exact absurd H (by simp)
   ·rw [if_neg c4] at H
    have c4b0:decide (x7_1<(l0.length:Int))=false:=df_ c4
    clear c4
    obtain rfl:=oi_ H
    go_wp2
    go_ret
    exact ⟨by first|rfl|(simp;done)|(simp [*];done),by repeat (first|exact dr_ _|apply dp_)⟩
theorem ev_l07At (l:List S56) (s:Int) (n:ByteArray) (hn:l.length≤9223372036854775807):Ev (fun k=>spec_l07At.f k l s n) (ruleAtI l s n):=by
 have key:∀ i,i≤l.length→(∀ j,j<i→ruleIs s n (l.getD j z56)=false)→Ev (fun k=>spec_l07At.l0 k l s n i) (ruleAtI l s n):=by
  refine Kit.down ?_ ?_
  ·intro hb
   refine Ev.step (fun k=>rfl) ?_
   refine Kit.ev_neg (by omega) ?_
   rw [ruleAtI,Mach.idxP_miss _ _ hb]
   exact Ev.now _
  ·intro i hi ih hb
   refine Ev.step (fun k=>rfl) ?_
   refine Kit.ev_pos (by omega) (Kit.ev_pos (by omega) ?_)
   rw [show rd_T56 l (i:Int)=l.getD i z56 from rfl,Kit.wrap_nat hi hn]
   have hnext:ruleIs s n (l.getD i z56)=false→Ev (fun k=>spec_l07At.l0 k l s n ((i+1:Nat):Int)) (ruleAtI l s n):=fun h=>ih fun j hj=>by
    by_cases e:j=i
    ·subst e;exact h
    ·exact hb j (by omega)
   refine Kit.ev_if (fun h1=>Kit.ev_if (fun h2=>?_) (fun h2=>?_)) (fun h1=>?_)
   ·have ht:ruleIs s n (l.getD i z56)=true:=by unfold ruleIs;rw [h1,h2,beq_self_eq_true,beq_self_eq_true];rfl
    rw [ruleAtI,Mach.idxP_hit (fun j=>ruleIs s n (l.getD j z56)) l.length i hi ht hb]
    exact Ev.now _
   ·exact hnext (by unfold ruleIs;rw [Bool.and_eq_false_iff];exact .inr (by simpa using h2))
   ·exact hnext (by unfold ruleIs;rw [Bool.and_eq_false_iff];exact .inl (by simpa using h1))
 exact key 0 (by omega) (fun j hj=>absurd hj (Nat.not_lt_zero _))
theorem spec_l07At.pure (A:Option Addr) (c:Nat) (l:List S56) (s:Int) (n:ByteArray) (W:World) (h:Kd.C k56 W A l.length l) (hc:l.length≤c):Calls Try.prog 77 #[.slice A l.length c,.int .i64 s,.string n] W fun e w'=>e=.returned (.int .i64 (ruleAtI l s n))∧Below W.heap.size W w':=by
 obtain ⟨K,hK⟩:=ev_l07At l s n h.2.1
 exact (spec_l07At.calls K A c l s n _ W h hc (hK K (Nat.le_refl _))).mono fun e w' ⟨he,hd⟩=>⟨he,hd.below⟩
/-! ### spec_l07Names: function 93, by hand -/
open Go.Proofs.Ytmeafbneklphnaa.Kit (small digit big pos_eq neg_eq tagB isTag nameB isName lowC lowS lowS_bytes handler wantJ wantJ_eq keepC badL badFrom badFrom_zero badFrom_full badFrom_nil badFrom_skip badFrom_take indexByte_any markB namesAt namesOK)
def spec_l07Names.f (l0:List ByteArray):Option Bool:=if ∀ x∈l0,x.size≤9223372036854775807 then some (namesOK l0) else none
theorem spec_l07Names.calls (A0:Option Addr) (c0:Nat) (l0:List ByteArray) (r:Bool) (w:World) (hr0:Kd.C Kd.string w A0 l0.length l0) (hc0:l0.length≤c0) (h:spec_l07Names.f l0=some r) :
 Calls Try.prog 93 #[.slice A0 l0.length c0] w fun e w'=>e=.returned (.bool r)∧Drawn0 w w':=by
 unfold spec_l07Names.f at h
 obtain ⟨hsz,h⟩:=Option.ite_none_right_eq_some.mp h
 obtain rfl:=oi_ h
 have HS:=A_ hsz
 have hn:l0.length≤9223372036854775807:=hr0.2.1
 have HR:=A_ hr0
 have HC:=A_ hc0
 clear hr0 hc0 hsz
 by_cases hlen:l0.length≤10
 ·have hl1:decide ((10:Int)<(l0.length:Int))=false:=df_ (by omega)
  have hl2:decide (10<l0.length)=false:=df_ (by omega)
  go_enter Try.func93,Try.ntmps93
  go_wp2
  go_loopg [3] l0.length (fun gg s3 wr=>∃ kk:Nat,kk≤l0.length∧l0.length - kk≤gg∧s3=.int .i64 kk∧Aside0 (∀ j,j<kk→namesAt l0 j=true)∧Drawn0 w wr)
  case atStart=>exact ⟨0,Nat.zero_le _,by omega,rfl,⟨fun j hj=>absurd hj (Nat.not_lt_zero _)⟩,dr_ _⟩
  case round =>
   obtain ⟨kk,hkk,hg,rfl,AA,⟨m1,rfl⟩⟩:=hrel
   by_cases hlt:kk<l0.length
   ·have hltz:(kk:Int)<(l0.length:Int):=by omega
    obtain ⟨ad,e,l1⟩:=Kd.at_string HR.out (kk:Int) (by omega) hltz
    cases e
    rw [Kit.rdOf_nat,Int.toNat_natCast] at l1
    have hs:=HS.out (l0.getD kk ByteArray.empty) (by rw [List.getD_eq_getElem?_getD,List.getElem?_eq_getElem hlt];exact List.getElem_mem hlt)
    obtain ⟨K,hK⟩:=ev_tag_spec _ hs
    have hK:=hK K (Nat.le_refl _)
    have hat:namesAt l0 kk=(isTag (l0.getD kk ByteArray.empty) && !Kit.hasT (l0.take kk) (l0.getD kk ByteArray.empty)):=rfl
    obtain ⟨i0,hi,_,hz1,_⟩:=info_parts info9
    obtain ⟨hcut,hA,hC⟩:=print_take_of (P:=Try.prog) Value.string (⟨#[]⟩:ByteArray) 23 9 .i64 Try.underlying23 hi hz1 (some ad) c0 l0 (kk:Int) (by omega) (by omega) HC.out
    have HR1:=A_ (Kd.C_of_reads (h1:=fun _=>rfl) (hA _ (Kd.reads_of_C HR.out)))
    have HC1:=A_ hC
    have q1:=fun W=>(spec_l01Tag.calls K (l0.getD kk ByteArray.empty) _ W hK)
    obtain ⟨K2,hK2⟩:=ev_l01Has (l0.take kk) (l0.getD kk ByteArray.empty) (by rw [lt_];omega)
    have hK2:=hK2 K2 (Nat.le_refl _)
    rw [Int.toNat_natCast] at hcut HR1 HC1
    have q2:=fun W (h:Kd.C Kd.string W (some ad) (l0.take kk).length (l0.take kk))=>(spec_l01Has.calls K2 (some ad) c0 (l0.take kk) (l0.getD kk ByteArray.empty) _ W h HC1.out hK2)
    clear hK hK2 hC hA
    generalize l0.getD kk ByteArray.empty=y at *
    generalize l0.take kk=T at *
    cases ht:isTag y with
    | false =>
     rw [ht] at q1 hat
     rw [Bool.false_and] at hat
     clear ht q2
     have hall:namesOK l0=false:=by
      unfold namesOK
      rw [Bool.and_eq_false_iff]
      refine .inr (Bool.eq_false_iff.2 fun h=>?_)
      have:=(Kit.allB_iff _ _ _).1 h kk (Nat.zero_le _) hlt
      rw [hat] at this
      cases this
     have HALL:=A_ hall
     clear hall hat
     go_wp2
     go_quiet (first|(go_at_call 59;exact Mach.quietD2 (q1 _)))
     go_wp2
     go_ret
     exact ⟨by rw [HALL.out];rfl,(by first|exact dr_ _|exact (dr_ _).step _|exact ((dr_ _).step _).step _|exact ⟨⟨_,rfl⟩⟩)⟩
    | true =>
     rw [ht] at q1 hat
     rw [Bool.true_and] at hat
     clear ht
     cases hh:Kit.hasT T y with
     | true =>
      rw [hh] at q2 hat
      have q3:=fun m=>q2 (w.drewN m) (cn_ HR1.out m)
      clear q2
      have hall:namesOK l0=false:=by
       unfold namesOK
       rw [Bool.and_eq_false_iff]
       refine .inr (Bool.eq_false_iff.2 fun h=>?_)
       have:=(Kit.allB_iff _ _ _).1 h kk (Nat.zero_le _) hlt
       rw [hat] at this
       cases this
      have HALL:=A_ hall
      clear hall hat hh
      go_wp2
      go_quiet (first|(go_at_call 59;exact Mach.quietD2 (q1 _))|(go_at_call 70;exact Mach.quietD2 (q3 _)))
      go_wp2
      go_ret
      exact ⟨by rw [HALL.out];rfl,(by first|exact dr_ _|exact (dr_ _).step _|exact ((dr_ _).step _).step _|exact ⟨⟨_,rfl⟩⟩)⟩
     | false =>
      rw [hh] at q2 hat
      have q3:=fun m=>q2 (w.drewN m) (cn_ HR1.out m)
      clear q2
      have HAT:=A_ hat
      clear hat hh
      go_wp2
      go_quiet (first|(go_at_call 59;exact Mach.quietD2 (q1 _))|(go_at_call 70;exact Mach.quietD2 (q3 _)))
      go_wp2
      go_roundg (l0.length - (kk+1))
      case measure=>omega
      case rel =>
       refine ⟨kk+1,by omega,by omega,by go_num,⟨fun j hj=>?_⟩,(by first|exact dr_ _|exact (dr_ _).step _|exact ((dr_ _).step _).step _|exact ⟨⟨_,rfl⟩⟩)⟩
       by_cases e:j=kk
       ·subst e;exact HAT.out
       ·exact AA.out j (by omega)
   ·have hltz:¬ (kk:Int)<(l0.length:Int):=by omega
    have hke:kk=l0.length:=by omega
    have hall:namesOK l0=true:=by
     unfold namesOK
     rw [dt_ hlen,Bool.true_and]
     exact (Kit.allB_iff _ _ _).2 fun j _ hj=>AA.out j (by omega)
    have HALL:=A_ hall
    clear hall hke
    go_wp2
    go_ret
    exact ⟨by rw [HALL.out];rfl,(by first|exact dr_ _|exact (dr_ _).step _|exact ((dr_ _).step _).step _|exact ⟨⟨_,rfl⟩⟩)⟩
 ·have hl1:decide ((10:Int)<(l0.length:Int))=true:=dt_ (by omega)
  have hl2:decide (10<l0.length)=true:=dt_ (by omega)
  have hall:namesOK l0=false:=by
   unfold namesOK
   rw [df_ hlen,Bool.false_and]
  have HALL:=A_ hall
  clear hall
  go_enter Try.func93,Try.ntmps93
  go_wp2
  go_ret
  exact ⟨by rw [HALL.out];rfl,(by first|exact dr_ _|exact (dr_ _).step _|exact ((dr_ _).step _).step _|exact ⟨⟨_,rfl⟩⟩)⟩
/-! ### spec_l07Rule: function 105 -/
def spec_l07Rule.f (k:Nat) (a0_0:Int) (a0_1:ByteArray) (l0_2:List ByteArray):Option (Bool):=(spec_l01In.f a0_0 0 2).bind fun t122=>(if t122=true then ((spec_l01Tag.f k a0_1).bind fun t123=>(if t123=true then ((spec_l07Names.f l0_2).bind fun t124=>(some t124)) else (some false))) else (some false))
theorem spec_l07Rule.mono:∀ a0 a1 a2 k,LeO (spec_l07Rule.f k a0 a1 a2) (spec_l07Rule.f (k+1) a0 a1 a2):=by
 intro a0 a1 a2 k
 unfold spec_l07Rule.f
 repeat' first
  | (with_reducible exact spec_l01Tag.mono _ _)
  | (with_reducible exact LeO.refl _)
  | (with_reducible exact LeO.none _)
  | (with_reducible refine LeO.ite ?_ ?_)
  | (with_reducible refine LeO.bind ?_ (fun _=>?_))
  | exact spec_l01Tag.mono _ _
  | exact LeO.none _
  | refine LeO.ite ?_ ?_
  | refine LeO.bind ?_ (fun _=>?_)
set_option maxHeartbeats 8000000 in
set_option maxRecDepth 100000 in
theorem spec_l07Rule.calls (k:Nat) (a0_0:Int) (a0_1:ByteArray) (A0_2:Option Addr) (c0_2:Nat) (l0_2:List ByteArray) (r:Bool) (w:World) (hr0_2:Kd.C Kd.string w A0_2 l0_2.length l0_2) (hc0_2:l0_2.length≤c0_2) (h:spec_l07Rule.f k a0_0 a0_1 l0_2=some r) :
 Calls Try.prog 105 #[.agg #[.int .i64 a0_0,.string a0_1,.slice A0_2 l0_2.length c0_2]] w fun e w'=>e=.returned (.bool r)∧Below w.heap.size w w':=by
 have hu56:=Try.underlying56
 have HR0_2:=A_ hr0_2
 have HC0_2:=A_ hc0_2
 clear hr0_2 hc0_2
 have HB:=A_ (Below.refl w.heap.size w)
 have H:((spec_l01In.f a0_0 0 2).bind fun t122=>(if t122=true then ((spec_l01Tag.f k a0_1).bind fun t123=>(if t123=true then ((spec_l07Names.f l0_2).bind fun t124=>(some t124)) else (some false))) else (some false)))=some r:=h
 clear h
 replace H:=ob_ H
 obtain ⟨t122,A20,H⟩:=H
 replace H:(if t122=true then ((spec_l01Tag.f k a0_1).bind fun t123=>(if t123=true then ((spec_l07Names.f l0_2).bind fun t124=>(some t124)) else (some false))) else (some false))=some r:=H
 have A2:=A_ A20
 clear A20
 by_cases c3:t122=true
 ·subst c3
  have H1:((spec_l01Tag.f k a0_1).bind fun t123=>(if t123=true then ((spec_l07Names.f l0_2).bind fun t124=>(some t124)) else (some false)))=some r:=by rw [if_pos rfl] at H;exact H
  clear H
  have H:=H1
  clear H1
  replace H:=ob_ H
  obtain ⟨t123,A40,H⟩:=H
  replace H:(if t123=true then ((spec_l07Names.f l0_2).bind fun t124=>(some t124)) else (some false))=some r:=H
  have A4:=A_ A40
  clear A40
  by_cases c5:t123=true
  ·subst c5
   have H1:((spec_l07Names.f l0_2).bind fun t124=>(some t124))=some r:=by rw [if_pos rfl] at H;exact H
   clear H
   have H:=H1
   clear H1
   replace H:=ob_ H
   obtain ⟨t124,A60,H⟩:=H
   replace H:(some t124)=some r:=H
   have A6:=A_ A60
   clear A60
   obtain rfl:=oi_ H
   go_enter Try.func105,Try.ntmps105
   go_wp2_with (first|((with_reducible refine gate_dst (N:=1) rfl ?_);refine box_event ?hg (N:=1) ?hd (cs:=#[.int .i64 a0_0,.string a0_1,.slice A0_2 l0_2.length c0_2]) (t:=56) ?hr ?_;(case hd=>rfl);(case hg=>rfl);(case hr=>first|(go_simp;done)|(go_simp;rfl));intro gb121 hg w7 hbox hb;have n0_:=A_ (bp_ (by repeat (first|(with_reducible first|exact HB.out|apply ba_|apply pd_|apply b1_)|exact HB.out)) hb);have n1_:=A_ (hbox);have n2_:=A_ ((by rw [hg];exact (bz_ (by repeat (first|(with_reducible first|exact HB.out|apply ba_|apply pd_|apply b1_)|exact HB.out))):w.heap.size≤gb121));have n3_:=A_ ((by rw [hg];exact (bz_ (by repeat (first|(with_reducible first|exact HB.out|apply ba_|apply pd_|apply b1_)|exact HB.out))):w.heap.size≤gb121));clear HB;have HB:=n0_;have BK121:=n1_;have GW121:=n2_;have GE121:=n3_;clear n0_ n1_ n2_ n3_;clear hb hbox hg;have hcz8_0:w7.cell? ⟨gb121,0,none⟩=some (.int .i64 a0_0):=(bc_ BK121.out 0).trans rfl;have hcz8_1:w7.cell? ⟨gb121,1,none⟩=some (.string a0_1):=(bc_ BK121.out 1).trans rfl;have hcz8_2:w7.cell? ⟨gb121,2,none⟩=some (.slice A0_2 l0_2.length c0_2):=(bc_ BK121.out 2).trans rfl;have hfz8_0:=bf_ BK121.out 0;have hfz8_1:=bf_ BK121.out 1;have hfz8_2:=bf_ BK121.out 2)|((with_reducible refine gate_callee (f:=60) rfl ?_);refine goesL_ (some 5) rfl rfl Try.func60 (by kernel_rfl) rfl #[.int .i64 a0_0,.int .i64 0,.int .i64 2] rfl (by (try simp only [List.map_toArray,List.map_cons,List.map_nil]);first|done|rfl|(simp only [ld_,lt_];rfl)) ?_;(with_reducible refine (spec_l01In.calls a0_0 0 2 true _ A2.out).mono ?_);rintro e w' ⟨rfl,⟨nd,rfl⟩⟩;refine ⟨_,rfl,?_⟩)|(go_at_call 59;(with_reducible refine (spec_l01Tag.calls k a0_1 true _ A4.out).mono ?_);rintro e w' ⟨rfl,⟨nd,rfl⟩⟩)|(go_at_call 93;(with_reducible refine (spec_l07Names.calls _ _ l0_2 t124 _ ?side1 ?side2 A6.out).mono ?_);(case side1=>repeat (first|exact (cb_ HR0_2.out (by repeat (first|(with_reducible first|exact HB.out|apply ba_|apply pd_|apply b1_|refine bs_ ?_ GE121.out)|exact HB.out)))|(with_reducible refine ca_ ?_ _)|(with_reducible refine cn_ ?_ _)|(with_reducible refine cd_ ?_)));(case side2=>exact HC0_2.out);rintro e w' ⟨rfl,⟨nd,rfl⟩⟩))
   go_ret
   exact ⟨by first|rfl|(simp [errW_none,errW_some] <;> rfl)|(simp [*,errW_none,errW_some] <;> rfl),by repeat (first|(with_reducible first|exact HB.out|apply ba_|apply pd_|apply b1_|refine bs_ ?_ GE121.out)|exact HB.out)⟩
  ·replace c5:=bm_ c5
   subst c5
   have H1:(some false)=some r:=by rw [if_neg (show ¬ (false=true) by decide)] at H;exact H
   clear H
   have H:=H1
   clear H1
   obtain rfl:=oi_ H
   go_enter Try.func105,Try.ntmps105
   go_wp2_with (first|((with_reducible refine gate_dst (N:=1) rfl ?_);refine box_event ?hg (N:=1) ?hd (cs:=#[.int .i64 a0_0,.string a0_1,.slice A0_2 l0_2.length c0_2]) (t:=56) ?hr ?_;(case hd=>rfl);(case hg=>rfl);(case hr=>first|(go_simp;done)|(go_simp;rfl));intro gb121 hg w9 hbox hb;have n0_:=A_ (bp_ (by repeat (first|(with_reducible first|exact HB.out|apply ba_|apply pd_|apply b1_)|exact HB.out)) hb);have n1_:=A_ (hbox);have n2_:=A_ ((by rw [hg];exact (bz_ (by repeat (first|(with_reducible first|exact HB.out|apply ba_|apply pd_|apply b1_)|exact HB.out))):w.heap.size≤gb121));have n3_:=A_ ((by rw [hg];exact (bz_ (by repeat (first|(with_reducible first|exact HB.out|apply ba_|apply pd_|apply b1_)|exact HB.out))):w.heap.size≤gb121));clear HB;have HB:=n0_;have BK121:=n1_;have GW121:=n2_;have GE121:=n3_;clear n0_ n1_ n2_ n3_;clear hb hbox hg;have hcz10_0:w9.cell? ⟨gb121,0,none⟩=some (.int .i64 a0_0):=(bc_ BK121.out 0).trans rfl;have hcz10_1:w9.cell? ⟨gb121,1,none⟩=some (.string a0_1):=(bc_ BK121.out 1).trans rfl;have hcz10_2:w9.cell? ⟨gb121,2,none⟩=some (.slice A0_2 l0_2.length c0_2):=(bc_ BK121.out 2).trans rfl;have hfz10_0:=bf_ BK121.out 0;have hfz10_1:=bf_ BK121.out 1;have hfz10_2:=bf_ BK121.out 2)|((with_reducible refine gate_callee (f:=60) rfl ?_);refine goesL_ (some 5) rfl rfl Try.func60 (by kernel_rfl) rfl #[.int .i64 a0_0,.int .i64 0,.int .i64 2] rfl (by (try simp only [List.map_toArray,List.map_cons,List.map_nil]);first|done|rfl|(simp only [ld_,lt_];rfl)) ?_;(with_reducible refine (spec_l01In.calls a0_0 0 2 true _ A2.out).mono ?_);rintro e w' ⟨rfl,⟨nd,rfl⟩⟩;refine ⟨_,rfl,?_⟩)|(go_at_call 59;(with_reducible refine (spec_l01Tag.calls k a0_1 false _ A4.out).mono ?_);rintro e w' ⟨rfl,⟨nd,rfl⟩⟩))
   go_ret
   exact ⟨by first|rfl|(simp [errW_none,errW_some] <;> rfl)|(simp [*,errW_none,errW_some] <;> rfl),by repeat (first|(with_reducible first|exact HB.out|apply ba_|apply pd_|apply b1_|refine bs_ ?_ GE121.out)|exact HB.out)⟩
 ·replace c3:=bm_ c3
  subst c3
  have H1:(some false)=some r:=by rw [if_neg (show ¬ (false=true) by decide)] at H;exact H
  clear H
  have H:=H1
  clear H1
  obtain rfl:=oi_ H
  go_enter Try.func105,Try.ntmps105
  go_wp2_with (first|((with_reducible refine gate_dst (N:=1) rfl ?_);refine box_event ?hg (N:=1) ?hd (cs:=#[.int .i64 a0_0,.string a0_1,.slice A0_2 l0_2.length c0_2]) (t:=56) ?hr ?_;(case hd=>rfl);(case hg=>rfl);(case hr=>first|(go_simp;done)|(go_simp;rfl));intro gb121 hg w11 hbox hb;have n0_:=A_ (bp_ (by repeat (first|(with_reducible first|exact HB.out|apply ba_|apply pd_|apply b1_)|exact HB.out)) hb);have n1_:=A_ (hbox);have n2_:=A_ ((by rw [hg];exact (bz_ (by repeat (first|(with_reducible first|exact HB.out|apply ba_|apply pd_|apply b1_)|exact HB.out))):w.heap.size≤gb121));have n3_:=A_ ((by rw [hg];exact (bz_ (by repeat (first|(with_reducible first|exact HB.out|apply ba_|apply pd_|apply b1_)|exact HB.out))):w.heap.size≤gb121));clear HB;have HB:=n0_;have BK121:=n1_;have GW121:=n2_;have GE121:=n3_;clear n0_ n1_ n2_ n3_;clear hb hbox hg;have hcz12_0:w11.cell? ⟨gb121,0,none⟩=some (.int .i64 a0_0):=(bc_ BK121.out 0).trans rfl;have hcz12_1:w11.cell? ⟨gb121,1,none⟩=some (.string a0_1):=(bc_ BK121.out 1).trans rfl;have hcz12_2:w11.cell? ⟨gb121,2,none⟩=some (.slice A0_2 l0_2.length c0_2):=(bc_ BK121.out 2).trans rfl;have hfz12_0:=bf_ BK121.out 0;have hfz12_1:=bf_ BK121.out 1;have hfz12_2:=bf_ BK121.out 2)|((with_reducible refine gate_callee (f:=60) rfl ?_);refine goesL_ (some 5) rfl rfl Try.func60 (by kernel_rfl) rfl #[.int .i64 a0_0,.int .i64 0,.int .i64 2] rfl (by (try simp only [List.map_toArray,List.map_cons,List.map_nil]);first|done|rfl|(simp only [ld_,lt_];rfl)) ?_;(with_reducible refine (spec_l01In.calls a0_0 0 2 false _ A2.out).mono ?_);rintro e w' ⟨rfl,⟨nd,rfl⟩⟩;refine ⟨_,rfl,?_⟩))
  go_ret
  exact ⟨by first|rfl|(simp [errW_none,errW_some] <;> rfl)|(simp [*,errW_none,errW_some] <;> rfl),by repeat (first|(with_reducible first|exact HB.out|apply ba_|apply pd_|apply b1_|refine bs_ ?_ GE121.out)|exact HB.out)⟩
end Go.Proofs.Ytmeafbneklphnaa.PFnExactAllowsAttr
