/- Cut by wip/cut.py out of the texts of this claim (printed by the kit's printer, or this session's own): what the row's theorem does not reach is struck. Not trusted: Lean checks it. -/
import Derived.Test.YtpopeedfgenebaaDoorZFnPostCrossesPx0
namespace Go.Proofs.YtpopeedfgenebaaDoor.PFnPostCrosses
open Go.RowKit Go.Proofs.YtpopeedfgenebaaDoorW.PrintWords Go.Proofs.YtpopeedfgenebaaDoorW.PrintLast Go.Proofs.YtpopeedfgenebaaDoorW.PrintMore
attribute [local go_sem] zb qz zf ze qw qv za qy
set_option linter.unusedVariables false
set_option linter.unusedSimpArgs false
def spec_l1In.f (a0 : Int) (a1 : Int) (a2 : Int) : Option (Bool) := if a0 ≥ a1 then (some (decide (a0 ≤ a2))) else (some false)
set_option maxHeartbeats 8000000 in
set_option maxRecDepth 100000 in
theorem spec_l1In.calls (a0 : Int) (a1 : Int) (a2 : Int) (r : Bool) (w : World) (h : spec_l1In.f a0 a1 a2 = some r) :
  Calls Tryd.prog 50 #[.int .i64 a0, .int .i64 a1, .int .i64 a2] w fun e w' => e = .returned (.bool r) ∧ qg w w' := by
 have H := h; clear h; unfold spec_l1In.f at H
 replace H := iC_ H; obtain ⟨c4, H⟩ | ⟨c4, H⟩ := H
 ·have c4b0 : decide (a1 ≤ a0) = true := decide_eq_true c4
  clear c4
  obtain rfl := Option.some.inj H
  go_enter Tryd.func50, Tryd.ntmps50
  exact l3_
 ·have c4b0 : decide (a1 ≤ a0) = false := decide_eq_false c4
  clear c4
  obtain rfl := Option.some.inj H
  go_enter Tryd.func50, Tryd.ntmps50
  exact l3_
def spec_poGood.l0 : Nat → ByteArray → Int → Option (Bool)
 | 0, _, _ => none
 | k + 1, x0, x3 => if x3 < (x0.size : Int) then (if 0 ≤ x3 then (if (bt x0 x3) = 108 then (spec_poGood.l0 k x0 (wrap64 (x3 + 1))) else (if (bt x0 x3) = 114 then (spec_poGood.l0 k x0 (wrap64 (x3 + 1))) else (if (bt x0 x3) = 98 then (spec_poGood.l0 k x0 (wrap64 (x3 + 1))) else (if (bt x0 x3) = 45 then (spec_poGood.l0 k x0 (wrap64 (x3 + 1))) else (some false))))) else (none)) else (some true)
def spec_poGood.f (k : Nat) (a0 : ByteArray) : Option (Bool) := (spec_l1In.f (a0.size : Int) 1 60).bind fun t101 => (if t101 = true then (spec_poGood.l0 k a0 0) else (some false))
theorem spec_poGood.zc : ∀ k, (∀ y0 y1, LeO (spec_poGood.l0 k y0 y1) (spec_poGood.l0 (k + 1) y0 y1))
 | 0 => fun _ _ r h => by simp [spec_poGood.l0] at h
 | k + 1 => by
  have ih0 := spec_poGood.zc k
  intro y0 y1
  unfold spec_poGood.l0
  exact lp_
theorem spec_poGood.mono : ∀ a0 k, LeO (spec_poGood.f k a0) (spec_poGood.f (k + 1) a0) := by
 intro a0 k
 have ih0 := spec_poGood.zc k
 unfold spec_poGood.f
 exact lp_
set_option maxHeartbeats 8000000 in
set_option maxRecDepth 100000 in
theorem spec_poGood.calls (k : Nat) (a0 : ByteArray) (r : Bool) (w : World) (h : spec_poGood.f k a0 = some r) :
  Calls Tryd.prog 27 #[.string a0] w fun e w' => e = .returned (.bool r) ∧ qg w w' := by
 have H := h; clear h; unfold spec_poGood.f at H
 replace H := bX_ H; obtain ⟨t101, A2, H⟩ := H
 replace H := iB_ H; obtain ⟨rfl, H⟩ | ⟨rfl, H⟩ := H
 ·have H' := qa.mk H
  clear H
  go_enter Tryd.func27, Tryd.ntmps27
  go_wp2_with (first | (refine gL_ 6 Tryd.func50 #[.int .i64 (a0.size : Int), .int .i64 1, .int .i64 60] ?_; refine (spec_l1In.calls (a0.size : Int) 1 60 true _ A2.out).mono ?_; rintro e w' ⟨rfl, ⟨nd, rfl⟩⟩; refine ⟨_, rfl, ?_⟩))
  go_loopg [3] k (fun kq v3 w' => ∃ (x3_1 : Int), v3 = .int .i64 x3_1 ∧ qa (spec_poGood.l0 kq a0 x3_1 = some r) ∧ qa (kq ≤ k) ∧ qg w w')
  case atStart => exact ⟨(0), es_, H', ⟨Nat.le_refl _⟩, a1_⟩
  case round =>
   clear H'
   obtain ⟨x3_1, rfl, HA, HK1, ⟨m1, rfl⟩⟩ := hrel
   cases gk with
   | zero => exact absurd HA.out (by simp [spec_poGood.l0])
   | succ k1 =>
    have H := HA.out
    clear HA
    simp only [spec_poGood.l0] at H
    replace H := iD_ H; obtain ⟨c4b0, H⟩ | ⟨c4b0, H⟩ := H
    ·replace H := iD_ H; obtain ⟨c5b0, H⟩ | ⟨c5b0, H⟩ := H
     ·replace H := iE_ H; obtain ⟨c7b0, c7b1, H⟩ | ⟨c7, c7b0, c7b1, H⟩ := H
      ·have H' := qa.mk H
       clear H
       have p6 : 0 ≤ (x3_1 : Int) := od_
       have q6 : x3_1 < (a0.size : Int) := od_
       have hx6 := bt_at a0 x3_1
       replace p6 := eq_true p6
       replace q6 := eq_true q6
       exact lb_
      ·replace H := iE_ H; obtain ⟨c9b0, c9b1, H⟩ | ⟨c9, c9b0, c9b1, H⟩ := H
       ·have H' := qa.mk H
        clear H
        have p6 : 0 ≤ (x3_1 : Int) := od_
        have q6 : x3_1 < (a0.size : Int) := od_
        have hx6 := bt_at a0 x3_1
        replace p6 := eq_true p6
        replace q6 := eq_true q6
        have p8 : 0 ≤ (x3_1 : Int) := od_
        have q8 : x3_1 < (a0.size : Int) := od_
        have hx8 := bt_at a0 x3_1
        replace p8 := eq_true p8
        replace q8 := eq_true q8
        exact lb_
       ·replace H := iE_ H; obtain ⟨c11b0, c11b1, H⟩ | ⟨c11, c11b0, c11b1, H⟩ := H
        ·have H' := qa.mk H
         clear H
         have p6 : 0 ≤ (x3_1 : Int) := od_
         have q6 : x3_1 < (a0.size : Int) := od_
         have hx6 := bt_at a0 x3_1
         replace p6 := eq_true p6
         replace q6 := eq_true q6
         have p8 : 0 ≤ (x3_1 : Int) := od_
         have q8 : x3_1 < (a0.size : Int) := od_
         have hx8 := bt_at a0 x3_1
         replace p8 := eq_true p8
         replace q8 := eq_true q8
         have p10 : 0 ≤ (x3_1 : Int) := od_
         have q10 : x3_1 < (a0.size : Int) := od_
         have hx10 := bt_at a0 x3_1
         replace p10 := eq_true p10
         replace q10 := eq_true q10
         exact lb_
        ·replace H := iE_ H; obtain ⟨c13b0, c13b1, H⟩ | ⟨c13, c13b0, c13b1, H⟩ := H
         ·have H' := qa.mk H
          clear H
          have p6 : 0 ≤ (x3_1 : Int) := od_
          have q6 : x3_1 < (a0.size : Int) := od_
          have hx6 := bt_at a0 x3_1
          replace p6 := eq_true p6
          replace q6 := eq_true q6
          have p8 : 0 ≤ (x3_1 : Int) := od_
          have q8 : x3_1 < (a0.size : Int) := od_
          have hx8 := bt_at a0 x3_1
          replace p8 := eq_true p8
          replace q8 := eq_true q8
          have p10 : 0 ≤ (x3_1 : Int) := od_
          have q10 : x3_1 < (a0.size : Int) := od_
          have hx10 := bt_at a0 x3_1
          replace p10 := eq_true p10
          replace q10 := eq_true q10
          have p12 : 0 ≤ (x3_1 : Int) := od_
          have q12 : x3_1 < (a0.size : Int) := od_
          have hx12 := bt_at a0 x3_1
          replace p12 := eq_true p12
          replace q12 := eq_true q12
          exact lb_
         ·obtain rfl := Option.some.inj H
          have p6 : 0 ≤ (x3_1 : Int) := od_
          have q6 : x3_1 < (a0.size : Int) := od_
          have hx6 := bt_at a0 x3_1
          replace p6 := eq_true p6
          replace q6 := eq_true q6
          have p8 : 0 ≤ (x3_1 : Int) := od_
          have q8 : x3_1 < (a0.size : Int) := od_
          have hx8 := bt_at a0 x3_1
          replace p8 := eq_true p8
          replace q8 := eq_true q8
          have p10 : 0 ≤ (x3_1 : Int) := od_
          have q10 : x3_1 < (a0.size : Int) := od_
          have hx10 := bt_at a0 x3_1
          replace p10 := eq_true p10
          replace q10 := eq_true q10
          have p12 : 0 ≤ (x3_1 : Int) := od_
          have q12 : x3_1 < (a0.size : Int) := od_
          have hx12 := bt_at a0 x3_1
          replace p12 := eq_true p12
          replace q12 := eq_true q12
          exact l3_
     ·cases H
    ·exact lD_
 ·obtain rfl := Option.some.inj H
  go_enter Tryd.func27, Tryd.ntmps27
  go_wp2_with (first | (refine gL_ 6 Tryd.func50 #[.int .i64 (a0.size : Int), .int .i64 1, .int .i64 60] ?_; refine (spec_l1In.calls (a0.size : Int) 1 60 false _ A2.out).mono ?_; rintro e w' ⟨rfl, ⟨nd, rfl⟩⟩; refine ⟨_, rfl, ?_⟩))
  go_ret
  exact ⟨es_, a1_⟩
def spec_poWide.f (a0 : Int) : Option (Bool) := (spec_l1In.f a0 0 1000).bind fun t102 => (some t102)
set_option maxHeartbeats 8000000 in
set_option maxRecDepth 100000 in
theorem spec_poWide.calls (a0 : Int) (r : Bool) (w : World) (h : spec_poWide.f a0 = some r) :
  Calls Tryd.prog 28 #[.int .i64 a0] w fun e w' => e = .returned (.bool r) ∧ qg w w' := by
 have H := h; clear h; unfold spec_poWide.f at H
 replace H := bX_ H; obtain ⟨t102, A2, H⟩ := H
 obtain rfl := Option.some.inj H
 go_enter Tryd.func28, Tryd.ntmps28
 go_wp2_with (first | (refine gL_ 4 Tryd.func50 #[.int .i64 a0, .int .i64 0, .int .i64 1000] ?_; refine (spec_l1In.calls a0 0 1000 t102 _ A2.out).mono ?_; rintro e w' ⟨rfl, ⟨nd, rfl⟩⟩; refine ⟨_, rfl, ?_⟩))
 go_ret
 exact ⟨es_, a1_⟩
def spec_poAround.l0 : Nat → ByteArray → Int → Int → Bool → Int → Option (Int)
 | 0, _, _, _, _, _ => none
 | k + 1, x0, x1, x5, x6, x7 => if x7 < (x0.size : Int) then (if 0 ≤ x7 then (if (bt x0 x7) = 45 then (if x6 = true then (spec_poAround.l0 k x0 x1 x5 true (wrap64 (x7 + 1))) else (if (bt x0 x7) = 114 then (spec_poAround.l0 k x0 x1 x5 true (wrap64 (x7 + 1))) else (spec_poAround.l0 k x0 x1 x5 ((bt x0 x7) == 98) (wrap64 (x7 + 1))))) else (if x6 = true then (spec_poAround.l0 k x0 x1 x7 true (wrap64 (x7 + 1))) else (if (bt x0 x7) = 114 then (spec_poAround.l0 k x0 x1 x7 true (wrap64 (x7 + 1))) else (spec_poAround.l0 k x0 x1 x7 ((bt x0 x7) == 98) (wrap64 (x7 + 1)))))) else (none)) else (if x6 = true then (some (wrap64 ((wrap64 (2 * x5)) + (wrap64 (2 * x1))))) else (some (wrap64 (2 * x5))))
def spec_poAround.f (k : Nat) (a0 : ByteArray) (a1 : Int) : Option (Int) := spec_poAround.l0 k a0 a1 0 false 0
theorem spec_poAround.zc : ∀ k, (∀ y0 y1 y2 y3 y4, LeO (spec_poAround.l0 k y0 y1 y2 y3 y4) (spec_poAround.l0 (k + 1) y0 y1 y2 y3 y4))
 | 0 => fun _ _ _ _ _ r h => by simp [spec_poAround.l0] at h
 | k + 1 => by
  have ih0 := spec_poAround.zc k
  intro y0 y1 y2 y3 y4
  unfold spec_poAround.l0
  exact l0_
theorem spec_poAround.mono : ∀ a0 a1 k, LeO (spec_poAround.f k a0 a1) (spec_poAround.f (k + 1) a0 a1) := by
 intro a0 a1 k
 have ih0 := spec_poAround.zc k
 unfold spec_poAround.f
 exact l0_
set_option maxHeartbeats 8000000 in
set_option maxRecDepth 100000 in
theorem spec_poAround.calls (k : Nat) (a0 : ByteArray) (a1 : Int) (r : Int) (w : World) (h : spec_poAround.f k a0 a1 = some r) :
  Calls Tryd.prog 29 #[.string a0, .int .i64 a1] w fun e w' => e = .returned (.int .i64 r) ∧ qg w w' := by
 have H := h; clear h; unfold spec_poAround.f at H
 have H' := qa.mk H
 clear H
 go_enter Tryd.func29, Tryd.ntmps29
 go_wp2
 go_loopg [5, 6, 7] k (fun kq v5 v6 v7 w' => ∃ (x5_1 : Int) (x6_1 : Bool) (x7_1 : Int), v5 = .int .i64 x5_1 ∧ v6 = .bool x6_1 ∧ v7 = .int .i64 x7_1 ∧ qa (spec_poAround.l0 kq a0 a1 x5_1 x6_1 x7_1 = some r) ∧ qa (kq ≤ k) ∧ qg w w')
 case atStart => exact ⟨(0), (false), (0), es_, es_, es_, H', ⟨Nat.le_refl _⟩, a1_⟩
 case round =>
  clear H'
  obtain ⟨x5_1, x6_1, x7_1, rfl, rfl, rfl, HA, HK1, ⟨m1, rfl⟩⟩ := hrel
  cases gk with
  | zero => exact absurd HA.out (by simp [spec_poAround.l0])
  | succ k1 =>
   have H := HA.out
   clear HA
   simp only [spec_poAround.l0] at H
   replace H := iD_ H; obtain ⟨c3b0, H⟩ | ⟨c3b0, H⟩ := H
   ·replace H := iD_ H; obtain ⟨c4b0, H⟩ | ⟨c4b0, H⟩ := H
    ·replace H := iE_ H; obtain ⟨c6b0, c6b1, H⟩ | ⟨c6, c6b0, c6b1, H⟩ := H
     ·replace H := iB_ H; obtain ⟨rfl, H⟩ | ⟨rfl, H⟩ := H
      ·have H' := qa.mk H
       clear H
       have p5 : 0 ≤ (x7_1 : Int) := od_
       have q5 : x7_1 < (a0.size : Int) := od_
       have hx5 := bt_at a0 x7_1
       replace p5 := eq_true p5
       replace q5 := eq_true q5
       exact lx_
      ·replace H := iE_ H; obtain ⟨c9b0, c9b1, H⟩ | ⟨c9, c9b0, c9b1, H⟩ := H
       ·have H' := qa.mk H
        clear H
        have p5 : 0 ≤ (x7_1 : Int) := od_
        have q5 : x7_1 < (a0.size : Int) := od_
        have hx5 := bt_at a0 x7_1
        replace p5 := eq_true p5
        replace q5 := eq_true q5
        have p8 : 0 ≤ (x7_1 : Int) := od_
        have q8 : x7_1 < (a0.size : Int) := od_
        have hx8 := bt_at a0 x7_1
        replace p8 := eq_true p8
        replace q8 := eq_true q8
        exact lx_
       ·have H' := qa.mk H
        clear H
        have p5 : 0 ≤ (x7_1 : Int) := od_
        have q5 : x7_1 < (a0.size : Int) := od_
        have hx5 := bt_at a0 x7_1
        replace p5 := eq_true p5
        replace q5 := eq_true q5
        have p8 : 0 ≤ (x7_1 : Int) := od_
        have q8 : x7_1 < (a0.size : Int) := od_
        have hx8 := bt_at a0 x7_1
        replace p8 := eq_true p8
        replace q8 := eq_true q8
        have p10 : 0 ≤ (x7_1 : Int) := od_
        have q10 : x7_1 < (a0.size : Int) := od_
        have hx10 := bt_at a0 x7_1
        replace p10 := eq_true p10
        replace q10 := eq_true q10
        go_wp2
        go_roundg k1
        case measure => have := HK1.out; omega
        case rel => exact ⟨(x5_1), (((bt a0 x7_1) == 98)), (wrap64 (x7_1 + 1)), es_, es_, es_, H', ⟨by have := HK1.out; omega⟩, a1_⟩
     ·replace H := iB_ H; obtain ⟨rfl, H⟩ | ⟨rfl, H⟩ := H
      ·have H' := qa.mk H
       clear H
       have p5 : 0 ≤ (x7_1 : Int) := od_
       have q5 : x7_1 < (a0.size : Int) := od_
       have hx5 := bt_at a0 x7_1
       replace p5 := eq_true p5
       replace q5 := eq_true q5
       exact lv_
      ·replace H := iE_ H; obtain ⟨c13b0, c13b1, H⟩ | ⟨c13, c13b0, c13b1, H⟩ := H
       ·have H' := qa.mk H
        clear H
        have p5 : 0 ≤ (x7_1 : Int) := od_
        have q5 : x7_1 < (a0.size : Int) := od_
        have hx5 := bt_at a0 x7_1
        replace p5 := eq_true p5
        replace q5 := eq_true q5
        have p12 : 0 ≤ (x7_1 : Int) := od_
        have q12 : x7_1 < (a0.size : Int) := od_
        have hx12 := bt_at a0 x7_1
        replace p12 := eq_true p12
        replace q12 := eq_true q12
        exact lv_
       ·have H' := qa.mk H
        clear H
        have p5 : 0 ≤ (x7_1 : Int) := od_
        have q5 : x7_1 < (a0.size : Int) := od_
        have hx5 := bt_at a0 x7_1
        replace p5 := eq_true p5
        replace q5 := eq_true q5
        have p12 : 0 ≤ (x7_1 : Int) := od_
        have q12 : x7_1 < (a0.size : Int) := od_
        have hx12 := bt_at a0 x7_1
        replace p12 := eq_true p12
        replace q12 := eq_true q12
        have p14 : 0 ≤ (x7_1 : Int) := od_
        have q14 : x7_1 < (a0.size : Int) := od_
        have hx14 := bt_at a0 x7_1
        replace p14 := eq_true p14
        replace q14 := eq_true q14
        go_wp2
        go_roundg k1
        case measure => have := HK1.out; omega
        case rel => exact ⟨(x7_1), (((bt a0 x7_1) == 98)), (wrap64 (x7_1 + 1)), es_, es_, es_, H', ⟨by have := HK1.out; omega⟩, a1_⟩
    ·cases H
   ·replace H := iB_ H; obtain ⟨rfl, H⟩ | ⟨rfl, H⟩ := H
    ·exact lD_
    ·exact lD_
def spec_AroundCost.f (k : Nat) (a0 : ByteArray) (a1 : Int) : Option (Int × Bool) := (spec_poGood.f k a0).bind fun t103 => (if t103 = true then ((spec_poWide.f a1).bind fun t104 => (if t104 = true then ((spec_poAround.f k a0 a1).bind fun t105 => (some (t105, true))) else (some (0, false)))) else (some (0, false)))
theorem spec_AroundCost.mono : ∀ a0 a1 k, LeO (spec_AroundCost.f k a0 a1) (spec_AroundCost.f (k + 1) a0 a1) := by
 intro a0 a1 k
 unfold spec_AroundCost.f
 repeat' first | (with_reducible first | exact spec_poAround.mono _ _ _ | exact spec_poGood.mono _ _ | exact LeO.refl _ | exact LeO.none _ | refine LeO.ite ?_ ?_ | refine LeO.bind ?_ (fun _ => ?_)) | exact spec_poAround.mono _ _ _ | exact spec_poGood.mono _ _ | exact LeO.none _ | refine LeO.ite ?_ ?_ | refine LeO.bind ?_ (fun _ => ?_)
set_option maxHeartbeats 8000000 in
set_option maxRecDepth 100000 in
theorem spec_AroundCost.calls (k : Nat) (a0 : ByteArray) (a1 : Int) (r1 : Int) (r2 : Bool) (w : World) (h : spec_AroundCost.f k a0 a1 = some (r1, r2)) :
  Calls Tryd.prog 6 #[.string a0, .int .i64 a1] w fun e w' => e = .returned (.tuple #[.int .i64 r1, .bool r2]) ∧ qg w w' := by
 have H := h; clear h; unfold spec_AroundCost.f at H
 replace H := bX_ H; obtain ⟨t103, A3, H⟩ := H
 replace H := iB_ H; obtain ⟨rfl, H⟩ | ⟨rfl, H⟩ := H
 ·replace H := bX_ H; obtain ⟨t104, A5, H⟩ := H
  replace H := iB_ H; obtain ⟨rfl, H⟩ | ⟨rfl, H⟩ := H
  ·replace H := bX_ H; obtain ⟨t105, A7, H⟩ := H
   simp only [Option.some.injEq, Prod.mk.injEq] at H
   obtain ⟨rfl, rfl⟩ := H
   go_enter Tryd.func6, Tryd.ntmps6
   go_wp2_with (first | (refine gL_ 7 Tryd.func27 #[.string a0] ?_; refine (spec_poGood.calls k a0 true _ A3.out).mono ?_; rintro e w' ⟨rfl, ⟨nd, rfl⟩⟩; refine ⟨_, rfl, ?_⟩) | (go_at_call 28; refine (spec_poWide.calls a1 true _ A5.out).mono ?_; rintro e w' ⟨rfl, ⟨nd, rfl⟩⟩) | (refine gL_ 16 Tryd.func29 #[.string a0, .int .i64 a1] ?_; refine (spec_poAround.calls k a0 a1 t105 _ A7.out).mono ?_; rintro e w' ⟨rfl, ⟨nd, rfl⟩⟩; refine ⟨_, rfl, ?_⟩))
   go_ret2
   exact ⟨es_, a1_⟩
  ·simp only [Option.some.injEq, Prod.mk.injEq] at H
   obtain ⟨rfl, rfl⟩ := H
   go_enter Tryd.func6, Tryd.ntmps6
   go_wp2_with (first | (refine gL_ 7 Tryd.func27 #[.string a0] ?_; refine (spec_poGood.calls k a0 true _ A3.out).mono ?_; rintro e w' ⟨rfl, ⟨nd, rfl⟩⟩; refine ⟨_, rfl, ?_⟩) | (go_at_call 28; refine (spec_poWide.calls a1 false _ A5.out).mono ?_; rintro e w' ⟨rfl, ⟨nd, rfl⟩⟩))
   go_ret2
   exact ⟨es_, a1_⟩
 ·simp only [Option.some.injEq, Prod.mk.injEq] at H
  obtain ⟨rfl, rfl⟩ := H
  go_enter Tryd.func6, Tryd.ntmps6
  go_wp2_with (first | (refine gL_ 7 Tryd.func27 #[.string a0] ?_; refine (spec_poGood.calls k a0 false _ A3.out).mono ?_; rintro e w' ⟨rfl, ⟨nd, rfl⟩⟩; refine ⟨_, rfl, ?_⟩))
  go_ret2
  exact ⟨es_, a1_⟩
def strings_IndexByte.f (a0 : ByteArray) (a1 : Int) : Option Int := some (Lib.indexByte a0.data.toList a1.toNat.toUInt8)
set_option maxHeartbeats 1000000 in
set_option maxRecDepth 100000 in
theorem strings_IndexByte.inner (s : ByteArray) (c : Int) (w : World) :
  Calls Tryd.prog 58 #[.string s, .int .u8 c] w fun e w' => e = .returned (.int .i64 (Lib.indexByte s.data.toList c.toNat.toUInt8)) ∧ w' = w := by
 go_enter Tryd.func58, Tryd.ntmps58
 go_wp2
 rw [run_callFunc_extern Tryd.func66 a7_ a7_ a7_ (e := Extern.BytealgIndexByte.indexByte) a7_, Lib.run_indexByteString]
 simp only [Result.andThen]
 rw [Oper.upon_value]
 go_wp2
 go_ret
 exact ⟨rfl, rfl⟩
set_option maxHeartbeats 1000000 in
theorem strings_IndexByte.calls (a0 : ByteArray) (a1 : Int) (r : Int) (w : World) (h : strings_IndexByte.f a0 a1 = some r) :
  Calls Tryd.prog 42 #[.string a0, .int .u8 a1] w fun e w' => e = .returned (.int .i64 r) ∧ qg w w' := by
 obtain rfl := Option.some.inj h
 clear h
 go_enter Tryd.func42, Tryd.ntmps42
 go_wp2_with (go_at_call 58; refine (strings_IndexByte.inner _ _ _).mono ?_; rintro e w' ⟨rfl, rfl⟩)
 go_ret
 exact ⟨rfl, qg.refl _⟩
def impl_within.f (a0 : Int) (a1 : Int) (a2 : Int) : Option (Bool) := if a0 ≥ a1 then (some (decide (a0 ≤ a2))) else (some false)
set_option maxHeartbeats 8000000 in
set_option maxRecDepth 100000 in
theorem impl_within.calls (a0 : Int) (a1 : Int) (a2 : Int) (r : Bool) (w : World) (h : impl_within.f a0 a1 a2 = some r) :
  Calls Tryd.prog 43 #[.int .i64 a0, .int .i64 a1, .int .i64 a2] w fun e w' => e = .returned (.bool r) ∧ qg w w' := by
 have H := h; clear h; unfold impl_within.f at H
 replace H := iC_ H; obtain ⟨c4, H⟩ | ⟨c4, H⟩ := H
 ·have c4b0 : decide (a1 ≤ a0) = true := decide_eq_true c4
  clear c4
  obtain rfl := Option.some.inj H
  go_enter Tryd.func43, Tryd.ntmps43
  exact l3_
 ·have c4b0 : decide (a1 ≤ a0) = false := decide_eq_false c4
  clear c4
  obtain rfl := Option.some.inj H
  go_enter Tryd.func43, Tryd.ntmps43
  exact l3_
def impl_AreDeliveries.l0 : Nat → ByteArray → Int → Int → Option (Bool)
 | 0, _, _, _ => none
 | k + 1, x0, x5, x6 => if x6 < x5 then (if 0 ≤ x6 then (if x6 < (x0.size : Int) then ((strings_IndexByte.f (⟨#[108, 114, 98, 45]⟩ : ByteArray) (bt x0 x6)).bind fun t106 => (if t106 < 0 then (some false) else (impl_AreDeliveries.l0 k x0 x5 (wrap64 (x6 + 1))))) else (none)) else (none)) else ((impl_within.f (x0.size : Int) 1 60).bind fun t107 => (some t107))
def impl_AreDeliveries.f (k : Nat) (a0 : ByteArray) : Option (Bool) := impl_AreDeliveries.l0 k a0 (a0.size : Int) 0
theorem impl_AreDeliveries.zc : ∀ k, (∀ y0 y1 y2, LeO (impl_AreDeliveries.l0 k y0 y1 y2) (impl_AreDeliveries.l0 (k + 1) y0 y1 y2))
 | 0 => fun _ _ _ r h => by simp [impl_AreDeliveries.l0] at h
 | k + 1 => by
  have ih0 := impl_AreDeliveries.zc k
  intro y0 y1 y2
  unfold impl_AreDeliveries.l0
  exact ln_
theorem impl_AreDeliveries.mono : ∀ a0 k, LeO (impl_AreDeliveries.f k a0) (impl_AreDeliveries.f (k + 1) a0) := by
 intro a0 k
 have ih0 := impl_AreDeliveries.zc k
 unfold impl_AreDeliveries.f
 exact ln_
set_option maxHeartbeats 8000000 in
set_option maxRecDepth 100000 in
theorem impl_AreDeliveries.calls (k : Nat) (a0 : ByteArray) (r : Bool) (w : World) (h : impl_AreDeliveries.f k a0 = some r) :
  Calls Tryd.prog 21 #[.string a0] w fun e w' => e = .returned (.bool r) ∧ qg w w' := by
 have H := h; clear h; unfold impl_AreDeliveries.f at H
 have H' := qa.mk H
 clear H
 go_enter Tryd.func21, Tryd.ntmps21
 go_wp2
 go_loopg [6] k (fun kq v6 w' => ∃ (x6_1 : Int), v6 = .int .i64 x6_1 ∧ qa (impl_AreDeliveries.l0 kq a0 (a0.size : Int) x6_1 = some r) ∧ qa (kq ≤ k) ∧ qg w w')
 case atStart => exact ⟨(0), es_, H', ⟨Nat.le_refl _⟩, a1_⟩
 case round =>
  clear H'
  obtain ⟨x6_1, rfl, HA, HK1, ⟨m1, rfl⟩⟩ := hrel
  cases gk with
  | zero => exact absurd HA.out (by simp [impl_AreDeliveries.l0])
  | succ k1 =>
   have H := HA.out
   clear HA
   simp only [impl_AreDeliveries.l0] at H
   replace H := iD_ H; obtain ⟨c2b0, H⟩ | ⟨c2b0, H⟩ := H
   ·replace H := iD_ H; obtain ⟨c3b0, H⟩ | ⟨c3b0, H⟩ := H
    ·replace H := iD_ H; obtain ⟨c4b0, H⟩ | ⟨c4b0, H⟩ := H
     ·replace H := bX_ H; obtain ⟨t106, A6, H⟩ := H
      replace H := iD_ H; obtain ⟨c7b0, H⟩ | ⟨c7b0, H⟩ := H
      ·obtain rfl := Option.some.inj H
       have p5 : 0 ≤ (x6_1 : Int) := od_
       have q5 : x6_1 < (a0.size : Int) := od_
       have hx5 := bt_at a0 x6_1
       replace p5 := eq_true p5
       replace q5 := eq_true q5
       go_wp2_with (first | (refine gL_ 12 Tryd.func42 #[.string (⟨#[108, 114, 98, 45]⟩ : ByteArray), .int .u8 (bt a0 x6_1)] ?_; refine (strings_IndexByte.calls (⟨#[108, 114, 98, 45]⟩ : ByteArray) (bt a0 x6_1) t106 _ A6.out).mono ?_; rintro e w' ⟨rfl, ⟨nd, rfl⟩⟩; refine ⟨_, rfl, ?_⟩))
       go_ret
       exact ⟨es_, a1_⟩
      ·have H' := qa.mk H
       clear H
       have p5 : 0 ≤ (x6_1 : Int) := od_
       have q5 : x6_1 < (a0.size : Int) := od_
       have hx5 := bt_at a0 x6_1
       replace p5 := eq_true p5
       replace q5 := eq_true q5
       go_wp2_with (first | (refine gL_ 12 Tryd.func42 #[.string (⟨#[108, 114, 98, 45]⟩ : ByteArray), .int .u8 (bt a0 x6_1)] ?_; refine (strings_IndexByte.calls (⟨#[108, 114, 98, 45]⟩ : ByteArray) (bt a0 x6_1) t106 _ A6.out).mono ?_; rintro e w' ⟨rfl, ⟨nd, rfl⟩⟩; refine ⟨_, rfl, ?_⟩))
       go_roundg k1
       case measure => have := HK1.out; omega
       case rel => exact ⟨(wrap64 (x6_1 + 1)), es_, H', ⟨by have := HK1.out; omega⟩, a1_⟩
     ·cases H
    ·cases H
   ·replace H := bX_ H; obtain ⟨t107, A8, H⟩ := H
    obtain rfl := Option.some.inj H
    go_wp2_with (first | (refine gL_ 17 Tryd.func43 #[.int .i64 (a0.size : Int), .int .i64 1, .int .i64 60] ?_; refine (impl_within.calls (a0.size : Int) 1 60 t107 _ A8.out).mono ?_; rintro e w' ⟨rfl, ⟨nd, rfl⟩⟩; refine ⟨_, rfl, ?_⟩))
    go_ret
    exact ⟨es_, a1_⟩
def impl_isWide.f (a0 : Int) : Option (Bool) := (impl_within.f a0 0 1000).bind fun t108 => (some t108)
set_option maxHeartbeats 8000000 in
set_option maxRecDepth 100000 in
theorem impl_isWide.calls (a0 : Int) (r : Bool) (w : World) (h : impl_isWide.f a0 = some r) :
  Calls Tryd.prog 30 #[.int .i64 a0] w fun e w' => e = .returned (.bool r) ∧ qg w w' := by
 have H := h; clear h; unfold impl_isWide.f at H
 replace H := bX_ H; obtain ⟨t108, A2, H⟩ := H
 obtain rfl := Option.some.inj H
 go_enter Tryd.func30, Tryd.ntmps30
 go_wp2_with (first | (refine gL_ 4 Tryd.func43 #[.int .i64 a0, .int .i64 0, .int .i64 1000] ?_; refine (impl_within.calls a0 0 1000 t108 _ A2.out).mono ?_; rintro e w' ⟨rfl, ⟨nd, rfl⟩⟩; refine ⟨_, rfl, ?_⟩))
 go_ret
 exact ⟨es_, a1_⟩
def strings_ContainsAny.lay_ren : Go.Shelf.Ren := ⟨fun n => match n with | 150 => 52 | 153 => 65 | 152 => 60 | 226 => 61 | 227 => 62 | 228 => 63 | 137 => 42 | 119 => 67 | 224 => 68 | 225 => 69 | 217 => 58 | 266 => 66 | n => n, fun n => match n with | 9 => 9 | 4 => 4 | 3 => 3 | 5 => 5 | 21 => 21 | 117 => 74 | 116 => 73 | 0 => 0 | 46 => 79 | 124 => 81 | n => n, fun n => n⟩
theorem strings_ContainsAny.lay : Go.Proofs.Lays.n150 Tryd.prog strings_ContainsAny.lay_ren := {
 mixed := by kernel_rfl
 f119 := Tryd.func67.trans (congrArg some a7_)
 f137 := Tryd.func42.trans (congrArg some a7_)
 f150 := Tryd.func52.trans (congrArg some a7_)
 f152 := Tryd.func60.trans (congrArg some a7_)
 f153 := Tryd.func65.trans (congrArg some a7_)
 f217 := Tryd.func58.trans (congrArg some a7_)
 f224 := Tryd.func68.trans (congrArg some a7_)
 f225 := Tryd.func69.trans (congrArg some a7_)
 f226 := Tryd.func61.trans (congrArg some a7_)
 f227 := Tryd.func62.trans (congrArg some a7_)
 f228 := Tryd.func63.trans (congrArg some a7_)
 f266 := Tryd.func66.trans (congrArg some a7_)
 t0 := Tryd.underlying0
 a0 := Tryd.isAgg0
 z0 := Tryd.sizeOf0
 v0 := Tryd.zeroValue0
 t3 := Tryd.underlying3
 a3 := Tryd.isAgg3
 z3 := Tryd.sizeOf3
 v3 := Tryd.zeroValue3
 t4 := Tryd.underlying4
 a4 := Tryd.isAgg4
 z4 := Tryd.sizeOf4
 v4 := Tryd.zeroValue4
 t5 := Tryd.underlying5
 a5 := Tryd.isAgg5
 z5 := Tryd.sizeOf5
 v5 := Tryd.zeroValue5
 t9 := Tryd.underlying9
 a9 := Tryd.isAgg9
 z9 := Tryd.sizeOf9
 v9 := Tryd.zeroValue9
 t21 := Tryd.underlying21
 a21 := Tryd.isAgg21
 z21 := Tryd.sizeOf21
 v21 := Tryd.zeroValue21
 t46 := Tryd.underlying79
 a46 := Tryd.isAgg79
 z46 := Tryd.sizeOf79
 v46 := Tryd.zeroValue79
 t116 := Tryd.underlying73
 a116 := Tryd.isAgg73
 z116 := Tryd.sizeOf73
 t117 := Tryd.underlying74
 a117 := Tryd.isAgg74
 z117 := Tryd.sizeOf74
 v117 := Tryd.zeroValue74
 t124 := Tryd.underlying81
 a124 := Tryd.isAgg81
 z124 := Tryd.sizeOf81
 v124 := Tryd.zeroValue81 }
theorem strings_ContainsAny.set : (Tryd.prog.info? (strings_ContainsAny.lay_ren.t 116)).map (fun i => (i.zero, i.size)) = some (some (.agg (Array.replicate 256 (.bool false))), 256) := by kernel_rfl
def strings_ContainsAny.ascii (a : ByteArray) : Bool := a.data.toList.all fun b => decide (b.toNat < 128)
def strings_ContainsAny.f (a0 : ByteArray) (a1 : ByteArray) : Option Bool := if a0.size < 4294967281 ∧ a1.size < 4294967281 ∧ strings_ContainsAny.ascii a0 = true ∧ strings_ContainsAny.ascii a1 = true then some (Lib.containsAny a0.data.toList a1.data.toList) else none
theorem strings_ContainsAny.ascii_at {a : ByteArray} (h : strings_ContainsAny.ascii a = true) : ∀ (j : Nat) b, a.data.toList[j]? = some b → b.toNat < 128 := fun _ b hb => of_decide_eq_true (List.all_eq_true.1 h b (List.mem_of_getElem? hb))
theorem strings_ContainsAny.calls (a0 : ByteArray) (a1 : ByteArray) (r : Bool) (w : World) (h : strings_ContainsAny.f a0 a1 = some r) :
  Calls Tryd.prog 52 #[.string a0, .string a1] w fun e w' => e = .returned (.bool r) ∧ Below w.heap.size w w' := by
 unfold strings_ContainsAny.f at h
 by_cases hc : a0.size < 4294967281 ∧ a1.size < 4294967281 ∧ strings_ContainsAny.ascii a0 = true ∧ strings_ContainsAny.ascii a1 = true
 ·rw [if_pos hc] at h
  cases Option.some.inj h
  exact Go.Proofs.Any.strings_ContainsAny_laid strings_ContainsAny.lay strings_ContainsAny.set a0 a1 w hc.1 hc.2.1 (strings_ContainsAny.ascii_at hc.2.2.1) (strings_ContainsAny.ascii_at hc.2.2.2)
 ·rw [if_neg hc] at h
  cases h
end Go.Proofs.YtpopeedfgenebaaDoor.PFnPostCrosses
