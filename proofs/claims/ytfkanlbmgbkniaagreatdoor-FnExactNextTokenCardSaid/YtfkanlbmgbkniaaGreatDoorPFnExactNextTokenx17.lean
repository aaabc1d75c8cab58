/- By a program of this session, out of the kit's print and contracts made by hand: the machine side of a law; Lean checks it. No conditions. -/
import Derived.Test.YtfkanlbmgbkniaaGreatDoorPFnExactNextTokenx0
import Derived.Test.YtfkanlbmgbkniaaGreatDoorPFnExactNextTokenx15
namespace Go.Proofs.YtfkanlbmgbkniaaGreatDoor.PFnExactNextToken
open Go.RowKit Go.Proofs.YtfkanlbmgbkniaaGreatDoorW.PrintWords Go.Proofs.YtfkanlbmgbkniaaGreatDoorW.PrintLast Go.Proofs.YtfkanlbmgbkniaaGreatDoorW.PrintMore
attribute [local go_sem] max2_int min2_int max_two min_two max_three min_three max_four min_four
set_option linter.unusedVariables false
set_option linter.unusedSimpArgs false
/-! ### impl_upTo: function 45 -/
def impl_upTo.l0:Nat→ByteArray→Int→ByteArray→Option (Int)
 | 0,_,_,_=>none
 | k+1,x0,x1,x2=>if x1<(x0.size:Int) then (if 0≤x1 then ((strings_IndexByte.f x2 (bt x0 x1)).bind fun t284=>(if t284<0 then (impl_upTo.l0 k x0 (wrap64 (x1+1)) x2) else (some x1))) else (none)) else (some x1)
def impl_upTo.f (k:Nat) (a0:ByteArray) (a1:Int) (a2:ByteArray):Option (Int):=impl_upTo.l0 k a0 a1 a2
theorem impl_upTo.mono_l:∀ k,(∀ y0 y1 y2,LeO (impl_upTo.l0 k y0 y1 y2) (impl_upTo.l0 (k+1) y0 y1 y2))
 | 0=>fun _ _ _ r h=>by simp [impl_upTo.l0] at h
 | k+1=>by
  have ih0:=impl_upTo.mono_l k
  ·intro y0 y1 y2
   unfold impl_upTo.l0
   repeat' first
   | (with_reducible exact ih0 _ _ _)
   | (with_reducible exact LeO.refl _)
   | (with_reducible exact LeO.none _)
   | (with_reducible refine LeO.ite ?_ ?_)
   | (with_reducible refine LeO.bind ?_ (fun _=>?_))
   | exact ih0 _ _ _
   | exact LeO.none _
   | refine LeO.ite ?_ ?_
   | refine LeO.bind ?_ (fun _=>?_)
theorem impl_upTo.mono:∀ a0 a1 a2 k,LeO (impl_upTo.f k a0 a1 a2) (impl_upTo.f (k+1) a0 a1 a2):=by
 intro a0 a1 a2 k
 have ih0:=impl_upTo.mono_l k
 unfold impl_upTo.f
 repeat' first
  | (with_reducible exact ih0 _ _ _)
  | (with_reducible exact LeO.refl _)
  | (with_reducible exact LeO.none _)
  | (with_reducible refine LeO.ite ?_ ?_)
  | (with_reducible refine LeO.bind ?_ (fun _=>?_))
  | exact ih0 _ _ _
  | exact LeO.none _
  | refine LeO.ite ?_ ?_
  | refine LeO.bind ?_ (fun _=>?_)
set_option maxHeartbeats 8000000 in
set_option maxRecDepth 100000 in
theorem impl_upTo.calls (k:Nat) (a0:ByteArray) (a1:Int) (a2:ByteArray) (r:Int) (w:World) (h:impl_upTo.f k a0 a1 a2=some r) :
 Calls Tryz.prog 45 #[.string a0,.int .i64 a1,.string a2] w fun e w'=>e=.returned (.int .i64 r)∧Drawn0 w w':=by
 have H:(impl_upTo.l0 k a0 a1 a2)=some r:=h
 clear h
 have H':=A_ H
 clear H
 go_enter Tryz.func45,Tryz.ntmps45
 go_wp2
 go_loopg [1] k (fun kq v1 w'=>∃ (x1_1:Int),v1=.int .i64 x1_1∧Aside0 (impl_upTo.l0 kq a0 x1_1 a2=some r)∧Aside0 (kq≤k)∧Drawn0 w w')
 case atStart=>exact ⟨(a1),(by first|rfl|(simp;done)|(simp [*];done)),H',⟨Nat.le_refl _⟩,by repeat (first|exact dr_ _|apply dp_)⟩
 case round =>
  clear H'
  try clear p2
  obtain ⟨x1_1,rfl,HA,HK1,⟨m1,rfl⟩⟩:=hrel
  cases gk with
  | zero=>exact absurd HA.out (by simp [impl_upTo.l0])
  | succ k1 =>
   have H:=HA.out
   clear HA
   simp only [impl_upTo.l0] at H
   by_cases c4:x1_1<(a0.size:Int)
   ·rw [if_pos c4] at H
    have c4b0:decide (x1_1<(a0.size:Int))=true:=dt_ c4
    clear c4
    by_cases c5:0≤x1_1
    ·rw [if_pos c5] at H
     have c5b0:decide (0≤x1_1)=true:=dt_ c5
     clear c5
     replace H:=ob_ H
     obtain ⟨t284,A70,H⟩:=H
     replace H:(if t284<0 then (impl_upTo.l0 k1 a0 (wrap64 (x1_1+1)) a2) else (some x1_1))=some r:=H
     have A7:=A_ A70
     clear A70
     by_cases c8:t284<0
     ·rw [if_pos c8] at H
      have c8b0:decide (t284<0)=true:=dt_ c8
      clear c8
      have H':=A_ H
      clear H
      have p6:0≤(x1_1:Int):=oa_
      have q6:x1_1<(a0.size:Int):=oa_
      have hx6:=bt_at a0 x1_1
      replace p6:=eq_true p6
      replace q6:=eq_true q6
      go_wp2_with (first|(go_at_call 67;(with_reducible refine (strings_IndexByte.calls a2 (bt a0 x1_1) t284 _ A7.out).mono ?_);rintro e w' ⟨rfl,⟨nd,rfl⟩⟩))
      go_roundg k1
      case measure=>have:=HK1.out;omega
      case rel=>exact ⟨(wrap64 (x1_1+1)),(by first|rfl|(simp;done)|(simp [*];done)),H',⟨by have:=HK1.out;omega⟩,by repeat (first|exact dr_ _|apply dp_)⟩
     ·rw [if_neg c8] at H
      have c8b0:decide (t284<0)=false:=df_ c8
      clear c8
      obtain rfl:=oi_ H
      have p6:0≤(x1_1:Int):=oa_
      have q6:x1_1<(a0.size:Int):=oa_
      have hx6:=bt_at a0 x1_1
      replace p6:=eq_true p6
      replace q6:=eq_true q6
      go_wp2_with (first|(go_at_call 67;(with_reducible refine (strings_IndexByte.calls a2 (bt a0 x1_1) t284 _ A7.out).mono ?_);rintro e w' ⟨rfl,⟨nd,rfl⟩⟩))
      go_ret
      exact ⟨by first|rfl|(simp;done)|(simp [*];done),by repeat (first|exact dr_ _|apply dp_)⟩
    ·rw [if_neg c5] at H
     exact absurd H (by simp)
   ·rw [if_neg c4] at H
    have c4b0:decide (x1_1<(a0.size:Int))=false:=df_ c4
    clear c4
    obtain rfl:=oi_ H
    go_wp2
    go_ret
    exact ⟨by first|rfl|(simp;done)|(simp [*];done),by repeat (first|exact dr_ _|apply dp_)⟩
/-! ### impl_past: function 60 -/
def impl_past.l0:Nat→ByteArray→Int→ByteArray→Option (Int)
 | 0,_,_,_=>none
 | k+1,x0,x1,x2=>if x1<(x0.size:Int) then (if 0≤x1 then ((strings_IndexByte.f x2 (bt x0 x1)).bind fun t285=>(if t285≥0 then (impl_past.l0 k x0 (wrap64 (x1+1)) x2) else (some x1))) else (none)) else (some x1)
def impl_past.f (k:Nat) (a0:ByteArray) (a1:Int) (a2:ByteArray):Option (Int):=impl_past.l0 k a0 a1 a2
theorem impl_past.mono_l:∀ k,(∀ y0 y1 y2,LeO (impl_past.l0 k y0 y1 y2) (impl_past.l0 (k+1) y0 y1 y2))
 | 0=>fun _ _ _ r h=>by simp [impl_past.l0] at h
 | k+1=>by
  have ih0:=impl_past.mono_l k
  ·intro y0 y1 y2
   unfold impl_past.l0
   repeat' first
   | (with_reducible exact ih0 _ _ _)
   | (with_reducible exact LeO.refl _)
   | (with_reducible exact LeO.none _)
   | (with_reducible refine LeO.ite ?_ ?_)
   | (with_reducible refine LeO.bind ?_ (fun _=>?_))
   | exact ih0 _ _ _
   | exact LeO.none _
   | refine LeO.ite ?_ ?_
   | refine LeO.bind ?_ (fun _=>?_)
theorem impl_past.mono:∀ a0 a1 a2 k,LeO (impl_past.f k a0 a1 a2) (impl_past.f (k+1) a0 a1 a2):=by
 intro a0 a1 a2 k
 have ih0:=impl_past.mono_l k
 unfold impl_past.f
 repeat' first
  | (with_reducible exact ih0 _ _ _)
  | (with_reducible exact LeO.refl _)
  | (with_reducible exact LeO.none _)
  | (with_reducible refine LeO.ite ?_ ?_)
  | (with_reducible refine LeO.bind ?_ (fun _=>?_))
  | exact ih0 _ _ _
  | exact LeO.none _
  | refine LeO.ite ?_ ?_
  | refine LeO.bind ?_ (fun _=>?_)
set_option maxHeartbeats 8000000 in
set_option maxRecDepth 100000 in
theorem impl_past.calls (k:Nat) (a0:ByteArray) (a1:Int) (a2:ByteArray) (r:Int) (w:World) (h:impl_past.f k a0 a1 a2=some r) :
 Calls Tryz.prog 60 #[.string a0,.int .i64 a1,.string a2] w fun e w'=>e=.returned (.int .i64 r)∧Drawn0 w w':=by
 have H:(impl_past.l0 k a0 a1 a2)=some r:=h
 clear h
 have H':=A_ H
 clear H
 go_enter Tryz.func60,Tryz.ntmps60
 go_wp2
 go_loopg [1] k (fun kq v1 w'=>∃ (x1_1:Int),v1=.int .i64 x1_1∧Aside0 (impl_past.l0 kq a0 x1_1 a2=some r)∧Aside0 (kq≤k)∧Drawn0 w w')
 case atStart=>exact ⟨(a1),(by first|rfl|(simp;done)|(simp [*];done)),H',⟨Nat.le_refl _⟩,by repeat (first|exact dr_ _|apply dp_)⟩
 case round =>
  clear H'
  try clear p2
  obtain ⟨x1_1,rfl,HA,HK1,⟨m1,rfl⟩⟩:=hrel
  cases gk with
  | zero=>exact absurd HA.out (by simp [impl_past.l0])
  | succ k1 =>
   have H:=HA.out
   clear HA
   simp only [impl_past.l0] at H
   by_cases c4:x1_1<(a0.size:Int)
   ·rw [if_pos c4] at H
    have c4b0:decide (x1_1<(a0.size:Int))=true:=dt_ c4
    clear c4
    by_cases c5:0≤x1_1
    ·rw [if_pos c5] at H
     have c5b0:decide (0≤x1_1)=true:=dt_ c5
     clear c5
     replace H:=ob_ H
     obtain ⟨t285,A70,H⟩:=H
     replace H:(if t285≥0 then (impl_past.l0 k1 a0 (wrap64 (x1_1+1)) a2) else (some x1_1))=some r:=H
     have A7:=A_ A70
     clear A70
     by_cases c8:t285≥0
     ·rw [if_pos c8] at H
      have c8b0:decide (0≤t285)=true:=dt_ c8
      clear c8
      have H':=A_ H
      clear H
      have p6:0≤(x1_1:Int):=oa_
      have q6:x1_1<(a0.size:Int):=oa_
      have hx6:=bt_at a0 x1_1
      replace p6:=eq_true p6
      replace q6:=eq_true q6
      go_wp2_with (first|(go_at_call 67;(with_reducible refine (strings_IndexByte.calls a2 (bt a0 x1_1) t285 _ A7.out).mono ?_);rintro e w' ⟨rfl,⟨nd,rfl⟩⟩))
      go_roundg k1
      case measure=>have:=HK1.out;omega
      case rel=>exact ⟨(wrap64 (x1_1+1)),(by first|rfl|(simp;done)|(simp [*];done)),H',⟨by have:=HK1.out;omega⟩,by repeat (first|exact dr_ _|apply dp_)⟩
     ·rw [if_neg c8] at H
      have c8b0:decide (0≤t285)=false:=df_ c8
      clear c8
      obtain rfl:=oi_ H
      have p6:0≤(x1_1:Int):=oa_
      have q6:x1_1<(a0.size:Int):=oa_
      have hx6:=bt_at a0 x1_1
      replace p6:=eq_true p6
      replace q6:=eq_true q6
      go_wp2_with (first|(go_at_call 67;(with_reducible refine (strings_IndexByte.calls a2 (bt a0 x1_1) t285 _ A7.out).mono ?_);rintro e w' ⟨rfl,⟨nd,rfl⟩⟩))
      go_ret
      exact ⟨by first|rfl|(simp;done)|(simp [*];done),by repeat (first|exact dr_ _|apply dp_)⟩
    ·rw [if_neg c5] at H
     exact absurd H (by simp)
   ·rw [if_neg c4] at H
    have c4b0:decide (x1_1<(a0.size:Int))=false:=df_ c4
    clear c4
    obtain rfl:=oi_ H
    go_wp2
    go_ret
    exact ⟨by first|rfl|(simp;done)|(simp [*];done),by repeat (first|exact dr_ _|apply dp_)⟩
/-! ### impl_nothing: function 61 -/
def impl_nothing.f (a0:Int) (a1:Int):Option (Int × Int × Int × ByteArray × ByteArray × (List (S52)) × Bool):=some (5,a0,wrap64 (a1 - a0),(⟨#[]⟩:ByteArray),(⟨#[]⟩:ByteArray),([]:List (S52)),false)
set_option maxHeartbeats 8000000 in
set_option maxRecDepth 100000 in
theorem impl_nothing.calls (a0:Int) (a1:Int) (r1:Int) (r2:Int) (r3:Int) (r4:ByteArray) (r5:ByteArray) (r6:List (S52)) (r7:Bool) (w:World) (h:impl_nothing.f a0 a1=some (r1,r2,r3,r4,r5,r6,r7)) :
 Calls Tryz.prog 61 #[.int .i64 a0,.int .i64 a1] w fun e w'=>∃ v5_:Value,e=.returned (.agg #[.int .i64 r1,.int .i64 r2,.int .i64 r3,.string r4,.string r5,v5_,.bool r7])∧Kd.R k52 52 w' w.heap.size (fun _=>True) v5_ r6∧Below w.heap.size w w':=by
 have hu24:=Tryz.underlying24
 have HB:=A_ (Below.refl w.heap.size w)
 have H:(some (5,a0,wrap64 (a1 - a0),(⟨#[]⟩:ByteArray),(⟨#[]⟩:ByteArray),([]:List (S52)),false))=some (r1,r2,r3,r4,r5,r6,r7):=h
 clear h
 simp only [Option.some.injEq,Prod.mk.injEq] at H
 obtain ⟨rfl,rfl,rfl,rfl,rfl,rfl,rfl⟩:=H
 go_enter Tryz.func61,Tryz.ntmps61
 go_wp2_with (first|((with_reducible refine gate_dst (N:=4) rfl ?_);refine box_event ?hg (N:=4) ?hd (cs:=#[.int .i64 0,.int .i64 0,.int .i64 0,.string (⟨#[]⟩:ByteArray),.string (⟨#[]⟩:ByteArray),.slice none 0 0,.bool false]) (t:=24) ?hr ?_;(case hd=>rfl);(case hg=>rfl);(case hr=>first|(go_simp;done)|(go_simp;rfl));intro gb286 hg w3 hbox hb;have n0_:=A_ (bp_ (bq0_ HB.out) hb);have n1_:=A_ (hbox);have n2_:=A_ ((by rw [hg];exact (bz_ (bq0_ HB.out)):w.heap.size≤gb286));have n3_:=A_ ((by rw [hg];exact (bz_ (bq0_ HB.out)):w.heap.size≤gb286));clear HB;have HB:=n0_;have BK286:=n1_;have GW286:=n2_;have GE286:=n3_;clear n0_ n1_ n2_ n3_;clear hb hbox hg;obtain ⟨_,_,_,_,_,_,_,_,_,_,_,_,_,_⟩:=g7_ BK286.out))
 refine bodyPost_ret (results_cell_row rfl _ _ gb286 24 #[.int .i64 5,.int .i64 a0,.int .i64 (wrap64 (a1 - a0)),.string (⟨#[]⟩:ByteArray),.string (⟨#[]⟩:ByteArray),.slice none 0 0,.bool false] (0,0) _ rfl (by (with_reducible repeat first|apply kn_|apply kd_|apply ka_);exact p7_ (kq_ BK286.out)) Tryz.underlying24 rfl (by kernel_rfl)) rfl ?_
 exact ⟨_,by first|rfl|(simp [errW_none,errW_some] <;> rfl)|(simp [*,errW_none,errW_some] <;> rfl),by first|exact Kd.R_nil _ _ _ _ _|exact Kd.N_nil _ _ _ _ _|exact Kd.V_nil _ _ _ _ _|exact Kd.Q_nil _ _ _ _ _|exact Kd.S_nil _ _ _ _ _,bq1_ HB.out GE286.out⟩
end Go.Proofs.YtfkanlbmgbkniaaGreatDoor.PFnExactNextToken
