/- Cut by wip/cut.py out of the texts of this claim (printed by the kit's printer, or this session's own): what the row's theorem does not reach is struck. Not trusted: Lean checks it. -/
import Derived.Test.YtpopeedfgenebaaGreatZFnPostDeliversPx0
import Derived.Test.YtpopeedfgenebaaGreatZFnPostDeliversPx1
import Derived.Test.YtpopeedfgenebaaGreatZFnPostDeliversPx2
import Derived.Test.YtpopeedfgenebaaGreatZFnPostDeliversPx5
import Derived.Test.YtpopeedfgenebaaGreatZFnPostDeliversPx10
namespace Go.Proofs.YtpopeedfgenebaaGreat.PFnPostDelivers
open Go.RowKit Go.Proofs.YtpopeedfgenebaaGreatW.PrintWords Go.Proofs.YtpopeedfgenebaaGreatW.PrintLast Go.Proofs.YtpopeedfgenebaaGreatW.PrintMore
attribute [local go_sem] zq zo zx zw zk zj zp zn
set_option linter.unusedVariables false
set_option linter.unusedSimpArgs false
mutual
def spec_BusiestPart.j0 : Nat → ByteArray → Int → Bool → Option (Int × Int × Bool)
 | 0, _, _, _ => none
 | k + 1, x0, x1, x20 => if x20 = true then (some (0, 0, false)) else (spec_BusiestPart.l0 k x0 x1 0 (-1) 0)
def spec_BusiestPart.l0 : Nat → ByteArray → Int → Int → Int → Int → Option (Int × Int × Bool)
 | 0, _, _, _, _, _ => none
 | k + 1, x0, x1, x7, x8, x9 => if (wrap64 (x9 + x1)) ≤ (x0.size : Int) then (if 0 ≤ x9 then (if x9 ≤ (wrap64 (x9 + x1)) then ((spec_poCount.f k (x0.extract (x9 : Int).toNat ((wrap64 (x9 + x1)) : Int).toNat)).bind fun t407 => (if t407 > x8 then (spec_BusiestPart.l0 k x0 x1 x9 t407 (wrap64 (x9 + 1))) else (spec_BusiestPart.l0 k x0 x1 x7 x8 (wrap64 (x9 + 1))))) else (none)) else (none)) else (some (x7, x8, true))
end
def spec_BusiestPart.f (k : Nat) (a0 : ByteArray) (a1 : Int) : Option (Int × Int × Bool) := (spec_poGood.f k a0).bind fun t405 => (if t405 = true then ((spec_l1In.f a1 1 (a0.size : Int)).bind fun t406 => (spec_BusiestPart.j0 k a0 a1 (!t406))) else (spec_BusiestPart.j0 k a0 a1 true))
theorem spec_BusiestPart.zd : ∀ k, (∀ y0 y1 y2, LeO (spec_BusiestPart.j0 k y0 y1 y2) (spec_BusiestPart.j0 (k + 1) y0 y1 y2)) ∧ (∀ y0 y1 y2 y3 y4, LeO (spec_BusiestPart.l0 k y0 y1 y2 y3 y4) (spec_BusiestPart.l0 (k + 1) y0 y1 y2 y3 y4))
 | 0 => ⟨fun _ _ _ r h => by simp [spec_BusiestPart.j0] at h, fun _ _ _ _ _ r h => by simp [spec_BusiestPart.l0] at h⟩
 | k + 1 => by
  obtain ⟨ih0, ih1⟩ := spec_BusiestPart.zd k
  refine ⟨?_, ?_⟩
  all_goals first | (intro y0 y1 y2; unfold spec_BusiestPart.j0) | (intro y0 y1 y2 y3 y4; unfold spec_BusiestPart.l0)
  all_goals (repeat' first | (with_reducible first | exact ih0 _ _ _ | exact ih1 _ _ _ _ _ | exact spec_poCount.mono _ _ | exact spec_poGood.mono _ _ | exact LeO.refl _ | exact LeO.none _ | refine LeO.ite ?_ ?_ | refine LeO.bind ?_ (fun _ => ?_)) | exact ih0 _ _ _ | exact ih1 _ _ _ _ _ | exact spec_poCount.mono _ _ | exact spec_poGood.mono _ _ | exact LeO.none _ | refine LeO.ite ?_ ?_ | refine LeO.bind ?_ (fun _ => ?_))
theorem spec_BusiestPart.mono : ∀ a0 a1 k, LeO (spec_BusiestPart.f k a0 a1) (spec_BusiestPart.f (k + 1) a0 a1) := by
 intro a0 a1 k
 obtain ⟨ih0, ih1⟩ := spec_BusiestPart.zd k
 unfold spec_BusiestPart.f
 repeat' first | (with_reducible first | exact ih0 _ _ _ | exact ih1 _ _ _ _ _ | exact spec_poCount.mono _ _ | exact spec_poGood.mono _ _ | exact LeO.refl _ | exact LeO.none _ | refine LeO.ite ?_ ?_ | refine LeO.bind ?_ (fun _ => ?_)) | exact ih0 _ _ _ | exact ih1 _ _ _ _ _ | exact spec_poCount.mono _ _ | exact spec_poGood.mono _ _ | exact LeO.none _ | refine LeO.ite ?_ ?_ | refine LeO.bind ?_ (fun _ => ?_)
set_option maxHeartbeats 8000000 in
set_option maxRecDepth 100000 in
theorem spec_BusiestPart.calls (k : Nat) (a0 : ByteArray) (a1 : Int) (r1 : Int) (r2 : Int) (r3 : Bool) (w : World) (h : spec_BusiestPart.f k a0 a1 = some (r1, r2, r3)) :
  Calls Tryz.prog 21 #[.string a0, .int .i64 a1] w fun e w' => e = .returned (.tuple #[.int .i64 r1, .int .i64 r2, .bool r3]) ∧ ql w w' := by
 have H := h; clear h; unfold spec_BusiestPart.f at H;have HC3 := qb.mk H;clear H
 go_enter Tryz.func21, Tryz.ntmps21
 go_upto_region 1 with (fail)
 go_cut [20] (fun v20 wc => ∃ (kq : Nat) (x20_2 : Bool), v20 = .bool x20_2 ∧ qb (spec_BusiestPart.j0 kq a0 a1 x20_2 = some (r1, r2, r3)) ∧ qb (kq ≤ k) ∧ ql w wc)
 case first =>
  have H := HC3.out;clear HC3;replace H := bX_ H; obtain ⟨b2, A4, H⟩ := H;replace H := iB_ H; obtain ⟨rfl, H⟩ | ⟨rfl, H⟩ := H
  ·replace H := bX_ H; obtain ⟨b1, A6, H⟩ := H
   have H' := qb.mk H;clear H
   go_wp2_with (first | (refine gL_ 12 Tryz.func45 #[.string a0] ?_; refine (spec_poGood.calls k a0 true _ A4.out).mono ?_; rintro e w' ⟨rfl, ⟨nd, rfl⟩⟩; refine ⟨_, rfl, ?_⟩) | (go_at_call 38; (with_reducible refine (spec_l1In.calls a1 1 (a0.size : Int) b1 _ A6.out).mono ?_); rintro e w' ⟨rfl, ⟨nd, rfl⟩⟩))
   go_meet
   case rel => exact ⟨_, (!b1), es_, H', ⟨by first | omega | exact Nat.le_refl _⟩, a0_⟩
  ·have H' := qb.mk H
   clear H
   go_wp2_with (first | (refine gL_ 12 Tryz.func45 #[.string a0] ?_; refine (spec_poGood.calls k a0 false _ A4.out).mono ?_; rintro e w' ⟨rfl, ⟨nd, rfl⟩⟩; refine ⟨_, rfl, ?_⟩))
   go_meet
   case rel => exact ⟨_, (true), es_, H', ⟨by first | omega | exact Nat.le_refl _⟩, a0_⟩
 case rest =>
  clear HC3;obtain ⟨kq, x20_2, rfl, HA, HJ2, ⟨mc2, rfl⟩⟩ := hcut;cases kq with
  | zero => exact absurd HA.out (by simp [spec_BusiestPart.j0])
  | succ kj2 =>
   have H := HA.out;clear HA
   simp only [spec_BusiestPart.j0] at H
   replace H := iB_ H; obtain ⟨rfl, H⟩ | ⟨rfl, H⟩ := H
   ·exact lv_
   ·have H' := qb.mk H
    clear H
    go_wp2
    go_loopg [7, 8, 9] kj2 (fun kq v7 v8 v9 w' => ∃ (x7_2 : Int) (x8_2 : Int) (x9_2 : Int), v7 = .int .i64 x7_2 ∧ v8 = .int .i64 x8_2 ∧ v9 = .int .i64 x9_2 ∧ qb (spec_BusiestPart.l0 kq a0 a1 x7_2 x8_2 x9_2 = some (r1, r2, r3)) ∧ qb (kq ≤ kj2) ∧ ql w w')
    case atStart => exact ⟨(0), ((-1)), (0), es_, es_, es_, H', ⟨Nat.le_refl _⟩, a0_⟩
    case round =>
     clear H';obtain ⟨x7_2, x8_2, x9_2, rfl, rfl, rfl, HA, HK2, ⟨m2, rfl⟩⟩ := hrel;cases gk with
     | zero => exact absurd HA.out (by simp [spec_BusiestPart.l0])
     | succ k2 =>
      have H := HA.out;clear HA
      simp only [spec_BusiestPart.l0] at H
      replace H := iD_ H; obtain ⟨c8b0, H⟩ | ⟨c8b0, H⟩ := H
      ·replace H := iC_ H; obtain ⟨c9, H⟩ | ⟨c9, H⟩ := H
       ·have c9b0 := eq_true c9
        have c9b1 : decide (0 ≤ x9_2) = true := decide_eq_true c9;clear c9;replace H := iC_ H; obtain ⟨c10, H⟩ | ⟨c10, H⟩ := H
        ·have c10b0 := eq_true c10
         have c10b1 : decide (x9_2 ≤ (wrap64 (x9_2 + a1))) = true := decide_eq_true c10;have c11b0 := eq_true (od_ : (wrap64 (x9_2 + a1)) ≤ (a0.size : Int));replace H := bX_ H; obtain ⟨b0, A12, H⟩ := H;replace H := iC_ H; obtain ⟨c13, H⟩ | ⟨c13, H⟩ := H
         ·have c13b0 : decide (x8_2 < b0) = true := decide_eq_true c13
          clear c13;have H' := qb.mk H;clear H
          go_wp2_with (first | (refine gL_ 35 Tryz.func46 #[.string (a0.extract (x9_2 : Int).toNat ((wrap64 (x9_2 + a1)) : Int).toNat)] ?_; refine (spec_poCount.calls k2 (a0.extract (x9_2 : Int).toNat ((wrap64 (x9_2 + a1)) : Int).toNat) b0 _ A12.out).mono ?_; rintro e w' ⟨rfl, ⟨nd, rfl⟩⟩; refine ⟨_, rfl, ?_⟩))
          exact lR_
         ·have c13b0 : decide (x8_2 < b0) = false := decide_eq_false c13
          clear c13;have H' := qb.mk H;clear H
          go_wp2_with (first | (refine gL_ 35 Tryz.func46 #[.string (a0.extract (x9_2 : Int).toNat ((wrap64 (x9_2 + a1)) : Int).toNat)] ?_; refine (spec_poCount.calls k2 (a0.extract (x9_2 : Int).toNat ((wrap64 (x9_2 + a1)) : Int).toNat) b0 _ A12.out).mono ?_; rintro e w' ⟨rfl, ⟨nd, rfl⟩⟩; refine ⟨_, rfl, ?_⟩))
          exact lQ_
        ·cases H
       ·cases H
      ·exact lv_
def spec_DrawAreDeliveries.f (k : Nat) (l0 : List Int) : Option (ByteArray) := (spec_l1Cur_deliveries.f k l0 0 0).bind fun bt409 => (some bt409.1)
theorem spec_DrawAreDeliveries.mono : ∀ a0 k, LeO (spec_DrawAreDeliveries.f k a0) (spec_DrawAreDeliveries.f (k + 1) a0) := by
 intro a0 k
 unfold spec_DrawAreDeliveries.f
 exact lA_
set_option maxHeartbeats 8000000 in
set_option maxRecDepth 100000 in
theorem spec_DrawAreDeliveries.calls (k : Nat) (A0 : Option Addr) (c0 : Nat) (l0 : List Int) (r : ByteArray) (w : World) (hr0 : Kd.C (Kd.int .u8) w A0 l0.length l0) (hc0 : l0.length ≤ c0) (h : spec_DrawAreDeliveries.f k l0 = some r) :
  Calls Tryz.prog 66 #[.slice A0 l0.length c0] w fun e w' => e = .returned (.string r) ∧ Below w.heap.size w w' := by
 have hu76 := Tryz.underlying76
 have HR0 := qb.mk hr0
 have HC0 := qb.mk hc0
 clear hr0 hc0
 have HB := qb.mk (Below.refl w.heap.size w)
 have H := h; clear h; unfold spec_DrawAreDeliveries.f at H
 replace H := bX_ H; obtain ⟨⟨t409, t410, t411⟩, A2, H⟩ := H; (try dsimp only at H)
 obtain rfl := Option.some.inj H
 go_enter Tryz.func66, Tryz.ntmps66
 go_wp2_with (first | (refine bE_ 6 #[.slice A0 l0.length c0, .int .i64 0, .int .u64 0] 76 ?_; intro gb408 hg w3 hbox hb; have GW408 := qb.mk ((by rw [hg]; exact c3_ : w.heap.size ≤ gb408)); have GE408 := qb.mk ((by rw [hg]; exact c3_ : w.heap.size ≤ gb408)); have HI408 := qb.mk ((⟨_, _, hbox, (by rw [hg]; exact c3_), HR0.out⟩ : IsS76 w w3 gb408 l0 0 0)); replace HB := qb.mk ac_; clear hb hbox hg) | (refine gL_ 8 Tryz.func63 #[.pointer (some ⟨gb408, 0, none⟩)] ?_; refine (spec_l1Cur_deliveries.calls k gb408 l0 0 0 t409 t410 t411 w _ (by repeat (first | (with_reducible first | exact HI408.out | apply IsS76.alloc | apply IsS76.drewN | apply IsS76.drew | apply IsS76.set_1 | apply IsS76.set_2) | exact HI408.out)) (by repeat (first | (with_reducible first | exact HB.out | apply qd | apply qa | apply qe | refine qf ?_ (IsS76.ge HI408.out)) | exact HB.out)) A2.out).mono ?_; rintro e w4 ⟨rfl, hi, hb, hk⟩; refine ⟨_, rfl, ?_⟩; replace HB := qb.mk (hb); replace HI408 := qb.mk (hi); (try clear hb hk hi)))
 go_ret
 exact ⟨er_, (by repeat (first | (with_reducible first | exact HB.out | apply qd | apply qa | apply qe | refine qf ?_ (IsS76.ge HI408.out)) | exact HB.out))⟩
def spec_DrawLongestFree.f (k : Nat) (l0 : List Int) : Option (ByteArray) := (spec_DrawAreDeliveries.f k l0).bind fun t412 => (some t412)
theorem spec_DrawLongestFree.mono : ∀ a0 k, LeO (spec_DrawLongestFree.f k a0) (spec_DrawLongestFree.f (k + 1) a0) := by
 intro a0 k
 unfold spec_DrawLongestFree.f
 repeat' first | (with_reducible first | exact spec_DrawAreDeliveries.mono _ _ | exact LeO.refl _ | exact LeO.none _ | refine LeO.ite ?_ ?_ | refine LeO.bind ?_ (fun _ => ?_)) | exact spec_DrawAreDeliveries.mono _ _ | exact LeO.none _ | refine LeO.ite ?_ ?_ | refine LeO.bind ?_ (fun _ => ?_)
set_option maxHeartbeats 8000000 in
set_option maxRecDepth 100000 in
theorem spec_DrawLongestFree.calls (k : Nat) (A0 : Option Addr) (c0 : Nat) (l0 : List Int) (r : ByteArray) (w : World) (hr0 : Kd.C (Kd.int .u8) w A0 l0.length l0) (hc0 : l0.length ≤ c0) (h : spec_DrawLongestFree.f k l0 = some r) :
  Calls Tryz.prog 22 #[.slice A0 l0.length c0] w fun e w' => e = .returned (.string r) ∧ Below w.heap.size w w' := by
 have HR0 := qb.mk hr0
 have HC0 := qb.mk hc0
 clear hr0 hc0
 have HB := qb.mk (Below.refl w.heap.size w)
 have H := h; clear h; unfold spec_DrawLongestFree.f at H
 replace H := bX_ H; obtain ⟨t412, A2, H⟩ := H
 obtain rfl := Option.some.inj H
 go_enter Tryz.func22, Tryz.ntmps22
 go_wp2_with (first | (refine gL_ 4 Tryz.func66 #[.slice A0 l0.length c0] ?_; refine (spec_DrawAreDeliveries.calls k _ _ l0 t412 _ (by repeat (first | exact HR0.out | (with_reducible refine Kd.zu ?_ _) | (with_reducible refine Kd.zt ?_ _) | (with_reducible refine Kd.zz ?_))) HC0.out A2.out).mono ?_; rintro e w3 ⟨rfl, hb⟩; refine ⟨_, rfl, ?_⟩; replace HB := qb.mk ac_; (try clear hb)))
 go_ret
 exact ⟨er_, be0_ HB⟩
def impl_LongestFree.l0 : Nat → ByteArray → Int → Int → Int → Int → Int → Option (Int × Int × Bool)
 | 0, _, _, _, _, _, _ => none
 | k + 1, x0, x5, x6, x7, x13, x14 => if x14 < x13 then (if 0 ≤ x14 then (if x14 < (x0.size : Int) then (if (bt x0 x14) = 45 then (if (wrap64 ((wrap64 (x14 + 1)) - x7)) > x6 then (impl_LongestFree.l0 k x0 x7 (wrap64 ((wrap64 (x14 + 1)) - x7)) x7 x13 (wrap64 (x14 + 1))) else (impl_LongestFree.l0 k x0 x5 x6 x7 x13 (wrap64 (x14 + 1)))) else (impl_LongestFree.l0 k x0 x5 x6 (wrap64 (x14 + 1)) x13 (wrap64 (x14 + 1)))) else (none)) else (none)) else (some (x5, x6, decide (x6 > 0)))
def impl_LongestFree.f (k : Nat) (a0 : ByteArray) : Option (Int × Int × Bool) := (impl_AreDeliveries.f k a0).bind fun t413 => (if t413 = true then (impl_LongestFree.l0 k a0 0 0 0 (a0.size : Int) 0) else (some (0, 0, false)))
theorem impl_LongestFree.zd : ∀ k, (∀ y0 y1 y2 y3 y4 y5, LeO (impl_LongestFree.l0 k y0 y1 y2 y3 y4 y5) (impl_LongestFree.l0 (k + 1) y0 y1 y2 y3 y4 y5))
 | 0 => fun _ _ _ _ _ _ r h => by simp [impl_LongestFree.l0] at h
 | k + 1 => by
  have ih0 := impl_LongestFree.zd k
  intro y0 y1 y2 y3 y4 y5
  unfold impl_LongestFree.l0
  exact ly_
theorem impl_LongestFree.mono : ∀ a0 k, LeO (impl_LongestFree.f k a0) (impl_LongestFree.f (k + 1) a0) := by
 intro a0 k
 have ih0 := impl_LongestFree.zd k
 unfold impl_LongestFree.f
 exact ly_
set_option maxHeartbeats 8000000 in
set_option maxRecDepth 100000 in
theorem impl_LongestFree.calls (k : Nat) (a0 : ByteArray) (r1 : Int) (r2 : Int) (r3 : Bool) (w : World) (h : impl_LongestFree.f k a0 = some (r1, r2, r3)) :
  Calls Tryz.prog 23 #[.string a0] w fun e w' => e = .returned (.tuple #[.int .i64 r1, .int .i64 r2, .bool r3]) ∧ ql w w' := by
 have H := h; clear h; unfold impl_LongestFree.f at H;replace H := bX_ H; obtain ⟨b0, A2, H⟩ := H;replace H := iB_ H; obtain ⟨rfl, H⟩ | ⟨rfl, H⟩ := H
 ·have H' := qb.mk H
  clear H
  go_enter Tryz.func23, Tryz.ntmps23
  go_wp2_with (first | (refine gL_ 10 Tryz.func43 #[.string a0] ?_; refine (impl_AreDeliveries.calls k a0 true _ A2.out).mono ?_; rintro e w' ⟨rfl, ⟨nd, rfl⟩⟩; refine ⟨_, rfl, ?_⟩))
  go_loopg [5, 6, 7, 14] k (fun kq v5 v6 v7 v14 w' => ∃ (x5_1 : Int) (x6_1 : Int) (x7_1 : Int) (x14_1 : Int), v5 = .int .i64 x5_1 ∧ v6 = .int .i64 x6_1 ∧ v7 = .int .i64 x7_1 ∧ v14 = .int .i64 x14_1 ∧ qb (impl_LongestFree.l0 kq a0 x5_1 x6_1 x7_1 (a0.size : Int) x14_1 = some (r1, r2, r3)) ∧ qb (kq ≤ k) ∧ ql w w')
  case atStart => exact ⟨(0), (0), (0), (0), es_, es_, es_, es_, H', ⟨Nat.le_refl _⟩, a0_⟩
  case round =>
   clear H';obtain ⟨x5_1, x6_1, x7_1, x14_1, rfl, rfl, rfl, rfl, HA, HK1, ⟨m1, rfl⟩⟩ := hrel;cases gk with
   | zero => exact absurd HA.out (by simp [impl_LongestFree.l0])
   | succ k1 =>
    have H := HA.out;clear HA
    simp only [impl_LongestFree.l0] at H
    replace H := iD_ H; obtain ⟨c4b0, H⟩ | ⟨c4b0, H⟩ := H
    ·replace H := iD_ H; obtain ⟨c5b0, H⟩ | ⟨c5b0, H⟩ := H
     ·replace H := iD_ H; obtain ⟨c6b0, H⟩ | ⟨c6b0, H⟩ := H
      ·replace H := iE_ H; obtain ⟨c8b0, c8b1, H⟩ | ⟨c8, c8b0, c8b1, H⟩ := H
       ·replace H := iC_ H; obtain ⟨c9, H⟩ | ⟨c9, H⟩ := H
        ·have c9b0 : decide (x6_1 < (wrap64 ((wrap64 (x14_1 + 1)) - x7_1))) = true := decide_eq_true c9
         clear c9;have H' := qb.mk H;clear H;have p7 : 0 ≤ (x14_1 : Int) := od_;have q7 : x14_1 < (a0.size : Int) := od_;have hx7 := bt_at a0 x14_1;replace p7 := eq_true p7;replace q7 := eq_true q7
         go_wp2
         go_roundg k1
         case measure => have := HK1.out; omega
         case rel => exact ⟨(x7_1), (wrap64 ((wrap64 (x14_1 + 1)) - x7_1)), (x7_1), (wrap64 (x14_1 + 1)), es_, es_, es_, es_, H', ⟨by have := HK1.out; omega⟩, a0_⟩
        ·have c9b0 : decide (x6_1 < (wrap64 ((wrap64 (x14_1 + 1)) - x7_1))) = false := decide_eq_false c9
         clear c9;have H' := qb.mk H;clear H;have p7 : 0 ≤ (x14_1 : Int) := od_;have q7 : x14_1 < (a0.size : Int) := od_;have hx7 := bt_at a0 x14_1;replace p7 := eq_true p7;replace q7 := eq_true q7
         go_wp2
         go_roundg k1
         case measure => have := HK1.out; omega
         case rel => exact ⟨(x5_1), (x6_1), (x7_1), (wrap64 (x14_1 + 1)), es_, es_, es_, es_, H', ⟨by have := HK1.out; omega⟩, a0_⟩
       ·have H' := qb.mk H
        clear H;have p7 : 0 ≤ (x14_1 : Int) := od_;have q7 : x14_1 < (a0.size : Int) := od_;have hx7 := bt_at a0 x14_1;replace p7 := eq_true p7;replace q7 := eq_true q7
        go_wp2
        go_roundg k1
        case measure => have := HK1.out; omega
        case rel => exact ⟨(x5_1), (x6_1), (wrap64 (x14_1 + 1)), (wrap64 (x14_1 + 1)), es_, es_, es_, es_, H', ⟨by have := HK1.out; omega⟩, a0_⟩
      ·cases H
     ·cases H
    ·exact lv_
 ·replace H := iQ_ H; obtain ⟨rfl, rfl, rfl⟩ := H
  go_enter Tryz.func23, Tryz.ntmps23
  go_wp2_with (first | (refine gL_ 10 Tryz.func43 #[.string a0] ?_; refine (impl_AreDeliveries.calls k a0 false _ A2.out).mono ?_; rintro e w' ⟨rfl, ⟨nd, rfl⟩⟩; refine ⟨_, rfl, ?_⟩))
  go_ret3
  exact ⟨es_, a0_⟩
def spec_LongestFree.l0 : Nat → ByteArray → Int → Int → Int → Int → Option (Int × Int × Bool)
 | 0, _, _, _, _, _ => none
 | k + 1, x0, x5, x6, x7, x8 => if x8 < (x0.size : Int) then (if 0 ≤ x8 then (if (bt x0 x8) = 45 then (if (wrap64 (x7 + 1)) > x6 then (spec_LongestFree.l0 k x0 (wrap64 ((wrap64 (x8 - (wrap64 (x7 + 1)))) + 1)) (wrap64 (x7 + 1)) (wrap64 (x7 + 1)) (wrap64 (x8 + 1))) else (spec_LongestFree.l0 k x0 x5 x6 (wrap64 (x7 + 1)) (wrap64 (x8 + 1)))) else (spec_LongestFree.l0 k x0 x5 x6 0 (wrap64 (x8 + 1)))) else (none)) else (some (x5, x6, decide (x6 > 0)))
def spec_LongestFree.f (k : Nat) (a0 : ByteArray) : Option (Int × Int × Bool) := (spec_poGood.f k a0).bind fun t414 => (if t414 = true then (spec_LongestFree.l0 k a0 0 0 0 0) else (some (0, 0, false)))
theorem spec_LongestFree.zd : ∀ k, (∀ y0 y1 y2 y3 y4, LeO (spec_LongestFree.l0 k y0 y1 y2 y3 y4) (spec_LongestFree.l0 (k + 1) y0 y1 y2 y3 y4))
 | 0 => fun _ _ _ _ _ r h => by simp [spec_LongestFree.l0] at h
 | k + 1 => by
  have ih0 := spec_LongestFree.zd k
  intro y0 y1 y2 y3 y4
  unfold spec_LongestFree.l0
  exact lz_
theorem spec_LongestFree.mono : ∀ a0 k, LeO (spec_LongestFree.f k a0) (spec_LongestFree.f (k + 1) a0) := by
 intro a0 k
 have ih0 := spec_LongestFree.zd k
 unfold spec_LongestFree.f
 exact lz_
set_option maxHeartbeats 8000000 in
set_option maxRecDepth 100000 in
theorem spec_LongestFree.calls (k : Nat) (a0 : ByteArray) (r1 : Int) (r2 : Int) (r3 : Bool) (w : World) (h : spec_LongestFree.f k a0 = some (r1, r2, r3)) :
  Calls Tryz.prog 24 #[.string a0] w fun e w' => e = .returned (.tuple #[.int .i64 r1, .int .i64 r2, .bool r3]) ∧ ql w w' := by
 have H := h; clear h; unfold spec_LongestFree.f at H;replace H := bX_ H; obtain ⟨b0, A2, H⟩ := H;replace H := iB_ H; obtain ⟨rfl, H⟩ | ⟨rfl, H⟩ := H
 ·have H' := qb.mk H
  clear H
  go_enter Tryz.func24, Tryz.ntmps24
  go_wp2_with (first | (refine gL_ 10 Tryz.func45 #[.string a0] ?_; refine (spec_poGood.calls k a0 true _ A2.out).mono ?_; rintro e w' ⟨rfl, ⟨nd, rfl⟩⟩; refine ⟨_, rfl, ?_⟩))
  go_loopg [5, 6, 7, 8] k (fun kq v5 v6 v7 v8 w' => ∃ (x5_1 : Int) (x6_1 : Int) (x7_1 : Int) (x8_1 : Int), v5 = .int .i64 x5_1 ∧ v6 = .int .i64 x6_1 ∧ v7 = .int .i64 x7_1 ∧ v8 = .int .i64 x8_1 ∧ qb (spec_LongestFree.l0 kq a0 x5_1 x6_1 x7_1 x8_1 = some (r1, r2, r3)) ∧ qb (kq ≤ k) ∧ ql w w')
  case atStart => exact ⟨(0), (0), (0), (0), es_, es_, es_, es_, H', ⟨Nat.le_refl _⟩, a0_⟩
  case round =>
   clear H';obtain ⟨x5_1, x6_1, x7_1, x8_1, rfl, rfl, rfl, rfl, HA, HK1, ⟨m1, rfl⟩⟩ := hrel;cases gk with
   | zero => exact absurd HA.out (by simp [spec_LongestFree.l0])
   | succ k1 =>
    have H := HA.out;clear HA
    simp only [spec_LongestFree.l0] at H
    replace H := iD_ H; obtain ⟨c4b0, H⟩ | ⟨c4b0, H⟩ := H
    ·replace H := iD_ H; obtain ⟨c5b0, H⟩ | ⟨c5b0, H⟩ := H
     ·replace H := iE_ H; obtain ⟨c7b0, c7b1, H⟩ | ⟨c7, c7b0, c7b1, H⟩ := H
      ·replace H := iC_ H; obtain ⟨c8, H⟩ | ⟨c8, H⟩ := H
       ·have c8b0 : decide (x6_1 < (wrap64 (x7_1 + 1))) = true := decide_eq_true c8
        clear c8;have H' := qb.mk H;clear H;have p6 : 0 ≤ (x8_1 : Int) := od_;have q6 : x8_1 < (a0.size : Int) := od_;have hx6 := bt_at a0 x8_1;replace p6 := eq_true p6;replace q6 := eq_true q6
        go_wp2
        go_roundg k1
        case measure => have := HK1.out; omega
        case rel => exact ⟨(wrap64 ((wrap64 (x8_1 - (wrap64 (x7_1 + 1)))) + 1)), (wrap64 (x7_1 + 1)), (wrap64 (x7_1 + 1)), (wrap64 (x8_1 + 1)), es_, es_, es_, es_, H', ⟨by have := HK1.out; omega⟩, a0_⟩
       ·have c8b0 : decide (x6_1 < (wrap64 (x7_1 + 1))) = false := decide_eq_false c8
        clear c8;have H' := qb.mk H;clear H;have p6 : 0 ≤ (x8_1 : Int) := od_;have q6 : x8_1 < (a0.size : Int) := od_;have hx6 := bt_at a0 x8_1;replace p6 := eq_true p6;replace q6 := eq_true q6
        go_wp2
        go_roundg k1
        case measure => have := HK1.out; omega
        case rel => exact ⟨(x5_1), (x6_1), (wrap64 (x7_1 + 1)), (wrap64 (x8_1 + 1)), es_, es_, es_, es_, H', ⟨by have := HK1.out; omega⟩, a0_⟩
      ·have H' := qb.mk H
       clear H;have p6 : 0 ≤ (x8_1 : Int) := od_;have q6 : x8_1 < (a0.size : Int) := od_;have hx6 := bt_at a0 x8_1;replace p6 := eq_true p6;replace q6 := eq_true q6
       go_wp2
       go_roundg k1
       case measure => have := HK1.out; omega
       case rel => exact ⟨(x5_1), (x6_1), (0), (wrap64 (x8_1 + 1)), es_, es_, es_, es_, H', ⟨by have := HK1.out; omega⟩, a0_⟩
     ·cases H
    ·exact lv_
 ·replace H := iQ_ H; obtain ⟨rfl, rfl, rfl⟩ := H
  go_enter Tryz.func24, Tryz.ntmps24
  go_wp2_with (first | (refine gL_ 10 Tryz.func45 #[.string a0] ?_; refine (spec_poGood.calls k a0 false _ A2.out).mono ?_; rintro e w' ⟨rfl, ⟨nd, rfl⟩⟩; refine ⟨_, rfl, ?_⟩))
  go_ret3
  exact ⟨es_, a0_⟩
def impl_MirrorDeliveries.mir (x : Int) : Int := if x = 108 then 114 else if x = 114 then 108 else x
def impl_MirrorDeliveries.f (k : Nat) (a0 : ByteArray) : Option (ByteArray × Bool) := (impl_AreDeliveries.f k a0).bind fun t => if t = true then (if a0.size ≤ 1048576 then some (strOfNums ((bytesOf a0).map impl_MirrorDeliveries.mir), true) else none) else some (⟨#[]⟩, false)
theorem impl_MirrorDeliveries.mono : ∀ a0 k, LeO (impl_MirrorDeliveries.f k a0) (impl_MirrorDeliveries.f (k + 1) a0) := fun a0 k => LeO.bind (impl_AreDeliveries.mono a0 k) (fun _ => LeO.refl _)
def impl_MirrorDeliveries.row (a0 : ByteArray) (i : Nat) : List Int := ((bytesOf a0).take i).map impl_MirrorDeliveries.mir ++ (bytesOf a0).drop i
theorem impl_MirrorDeliveries.row_get (a0 : ByteArray) (i : Nat) (hi : i < a0.size) : (impl_MirrorDeliveries.row a0 i)[i]? = some (bt a0 i) := by
 unfold impl_MirrorDeliveries.row
 have hl : i < (bytesOf a0).length := by rw [bytesOf_length]; exact hi
 rw [List.getElem?_append_right ca_]
 have e : i - (((bytesOf a0).take i).map impl_MirrorDeliveries.mir).length = 0 := by simp; omega
 rw [e, List.getElem?_drop, Nat.add_zero, List.getElem?_eq_getElem hl, ← rd_bytesOf]
 simp [rd, hl]
theorem impl_MirrorDeliveries.row_set (a0 : ByteArray) (i : Nat) (hi : i < a0.size) : (impl_MirrorDeliveries.row a0 i).set i (impl_MirrorDeliveries.mir (bt a0 i)) = impl_MirrorDeliveries.row a0 (i + 1) := by
 unfold impl_MirrorDeliveries.row
 have hl : i < (bytesOf a0).length := by rw [bytesOf_length]; exact hi
 have hb : (bytesOf a0)[i] = bt a0 i := by rw [← rd_bytesOf]; simp [rd, hl]
 rw [List.set_append_right _ _ ca_]
 have e : i - (((bytesOf a0).take i).map impl_MirrorDeliveries.mir).length = 0 := by simp; omega
 rw [e, List.drop_eq_getElem_cons hl, sB_, List.take_succ_eq_append_getElem hl, List.map_append, List.append_assoc, ← hb]
 rfl
def impl_MirrorDeliveries.Rel (w wr : World) (a0 : ByteArray) (rest : List Value) (i : Nat) : Prop := wr.heap[w.heap.size]? = some (.cells (nums .u8 (impl_MirrorDeliveries.row a0 i) ++ rest).toArray 5 (a0.size + rest.length, a0.size + rest.length + 1)) ∧ Below w.heap.size w wr
theorem impl_MirrorDeliveries.Rel.cell {w wr : World} {a0 : ByteArray} {rest : List Value} {i : Nat} (h : impl_MirrorDeliveries.Rel w wr a0 rest i) (hi : i < a0.size) : wr.cell? ⟨w.heap.size, i, none⟩ = some (.int .u8 (bt a0 i)) := by
 have := cell_of_row wr w.heap.size i _ _ _ h.1
 rw [this]
 have hl : (nums .u8 (impl_MirrorDeliveries.row a0 i)).length = a0.size := by simp [nums, impl_MirrorDeliveries.row, bytesOf_length]; omega
 have hg := impl_MirrorDeliveries.row_get a0 i hi
 simp only [List.getElem?_toArray]
 rw [List.getElem?_append_left (by omega)]
 simp [nums, hg]
theorem impl_MirrorDeliveries.Rel.free {w wr : World} {a0 : ByteArray} {rest : List Value} {i : Nat} (h : impl_MirrorDeliveries.Rel w wr a0 rest i) (hi : i < a0.size) : wr.frozen? ⟨w.heap.size, i, none⟩ = false := by
 simp [World.frozen?, h.1]
 omega
theorem impl_MirrorDeliveries.Rel.keep {w wr : World} {a0 : ByteArray} {rest : List Value} {i : Nat} (h : impl_MirrorDeliveries.Rel w wr a0 rest i) (hi : i < a0.size) (hm : impl_MirrorDeliveries.mir (bt a0 i) = bt a0 i) : impl_MirrorDeliveries.Rel w wr a0 rest (i + 1) := by
 refine ⟨?_, h.2⟩
 have e := impl_MirrorDeliveries.row_set a0 i hi
 rw [hm] at e
 have hg := impl_MirrorDeliveries.row_get a0 i hi
 have : (impl_MirrorDeliveries.row a0 i).set i (bt a0 i) = impl_MirrorDeliveries.row a0 i := by
  obtain ⟨hl, he⟩ := List.getElem?_eq_some_iff.1 hg
  rw [← he, List.set_getElem_self]
 rw [this] at e
 rw [← e]
 exact h.1
theorem impl_MirrorDeliveries.Rel.put {w wr : World} {a0 : ByteArray} {rest : List Value} {i : Nat} (h : impl_MirrorDeliveries.Rel w wr a0 rest i) (hi : i < a0.size) {x : Int} (hm : impl_MirrorDeliveries.mir (bt a0 i) = x) : impl_MirrorDeliveries.Rel w (wr.setCell ⟨w.heap.size, i, none⟩ (.int .u8 x)) a0 rest (i + 1) := by
 refine ⟨?_, h.2.setCell (Nat.le_refl _) _⟩
 have hl : (impl_MirrorDeliveries.row a0 i).length = a0.size := by simp [impl_MirrorDeliveries.row, bytesOf_length]; omega
 have e : (nums .u8 (impl_MirrorDeliveries.row a0 (i + 1)) ++ rest).toArray = (nums .u8 (impl_MirrorDeliveries.row a0 i) ++ rest).toArray.setIfInBounds i (.int .u8 x) := by
  rw [← impl_MirrorDeliveries.row_set a0 i hi, hm]
  simp only [nums, List.map_set, sA_]
  rw [List.set_append_left _ _ ca_]
 rw [e]
 unfold World.setCell
 simp only [Array.getElem?_modify, if_true, h.1, Option.map_some, Option.isSome_none, Bool.false_eq_true, if_false]
set_option maxHeartbeats 2000000 in
set_option maxRecDepth 100000 in
theorem impl_MirrorDeliveries.calls (k : Nat) (a0 : ByteArray) (r1 : ByteArray) (r2 : Bool) (w : World) (h : impl_MirrorDeliveries.f k a0 = some (r1, r2)) :
  Calls Tryz.prog 25 #[.string a0] w fun e w' => e = .returned (.tuple #[.string r1, .bool r2]) ∧ Below w.heap.size w w' := by
 unfold impl_MirrorDeliveries.f at h
 obtain ⟨t, ht, h⟩ := Option.bind_eq_some_iff.1 h;have HT := qb.mk ht;clear ht;cases t with
 | false =>
  simp only [Bool.false_eq_true, if_false, Option.some.injEq, Prod.mk.injEq] at h
  obtain ⟨rfl, rfl⟩ := h
  go_enter Tryz.func25, Tryz.ntmps25
  exact lP_
 | true =>
  by_cases hs : a0.size ≤ 1048576
  ·simp only [if_true, if_pos hs, Option.some.injEq, Prod.mk.injEq] at h
   obtain ⟨rfl, rfl⟩ := h;have kc := fun (W : World) => print_bytes (P := Tryz.prog) 9 22 5 Tryz.underlying9 Tryz.underlying22 Tryz.underlying5 a0 W
   go_enter Tryz.func25, Tryz.ntmps25
   go_wp2_with (first | (go_at_call 43; refine (impl_AreDeliveries.calls k a0 true _ HT.out).mono ?_; rintro e w' ⟨rfl, ⟨nd, rfl⟩⟩))
   obtain ⟨W1, hW1⟩ : ∃ W1, W1 = Lib.bytesWorld (w.drewN nd) 5 a0 := ⟨_, rfl⟩
   have hR : ∃ rest : List Value, impl_MirrorDeliveries.Rel w W1 a0 rest 0 := by
    refine ⟨List.replicate (grownCap (w.drewN nd) a0.size 0 5 - a0.size) (.int .u8 0), ?_, ?_⟩
    ·rw [hW1]
     have hn := Lib.bytesWorld_at_new (w.drewN nd) 5 a0
     have e : Lib.bytesCells (w.drewN nd) 5 a0 = (nums .u8 (impl_MirrorDeliveries.row a0 0) ++ List.replicate (grownCap (w.drewN nd) a0.size 0 5 - a0.size) (Value.int .u8 0)).toArray := by
      simp [Lib.bytesCells, impl_MirrorDeliveries.row, nums, bytesOf]
     have e2 : (Lib.bytesCells (w.drewN nd) 5 a0).size = a0.size + (List.replicate (grownCap (w.drewN nd) a0.size 0 5 - a0.size) (Value.int .u8 0)).length := by
      rw [e]; simp [nums, impl_MirrorDeliveries.row, bytesOf_length]
     rw [e2, e] at hn
     exact hn
    ·rw [hW1]
     exact bytes_below (qa (Below.refl _ _) nd) (Nat.le_refl _) _ _
   obtain ⟨rest, hR⟩ := hR;rw [← hW1];clear hW1 kc HT
   generalize grownCap (w.drewN nd) a0.size 0 5 = cp
   go_loopw [14] (fun i wr => ∃ k : Nat, k ≤ a0.size ∧ i = .int .i64 k ∧ impl_MirrorDeliveries.Rel w wr a0 rest k) (fun i _ => a0.size - (intOf i).toNat)
   case atStart => exact ⟨0, Nat.zero_le _, rfl, hR⟩
   case round =>
    obtain ⟨j, hj, rfl, hr⟩ := hrel;have HR := Lib.hid hr;clear hr hR
    by_cases hlt : j < a0.size
    ·have hc := HR.out.cell hlt
     have hf := HR.out.free hlt
     by_cases h1 : bt a0 (j : Int) = 108
     ·have b1 : (bt a0 (j : Int) == 108) = true := by rw [h1]; rfl
      have HM := Lib.hid (show impl_MirrorDeliveries.mir (bt a0 (j : Int)) = 114 by unfold impl_MirrorDeliveries.mir; rw [if_pos h1]);clear h1
      go_wp2
      go_roundw
      case rel => exact ⟨j + 1, (by omega), (by go_num), HR.out.put hlt HM.out⟩
      case measure => simp [intOf]; omega
     ·have b1 : (bt a0 (j : Int) == 108) = false := by rw [beq_eq_false_iff_ne]; exact h1
      by_cases h2 : bt a0 (j : Int) = 114
      ·have b2 : (bt a0 (j : Int) == 114) = true := by rw [h2]; rfl
       have HM := Lib.hid (show impl_MirrorDeliveries.mir (bt a0 (j : Int)) = 108 by unfold impl_MirrorDeliveries.mir; rw [if_neg h1, if_pos h2]);clear h1 h2
       go_wp2
       go_roundw
       case rel => exact ⟨j + 1, (by omega), (by go_num), HR.out.put hlt HM.out⟩
       case measure => simp [intOf]; omega
      ·have b2 : (bt a0 (j : Int) == 114) = false := by rw [beq_eq_false_iff_ne]; exact h2
       have HM := Lib.hid (show impl_MirrorDeliveries.mir (bt a0 (j : Int)) = bt a0 (j : Int) by unfold impl_MirrorDeliveries.mir; rw [if_neg h1, if_neg h2]);clear h1 h2
       go_wp2
       go_roundw
       case rel => exact ⟨j + 1, (by omega), (by go_num), HR.out.keep hlt HM.out⟩
       case measure => simp [intOf]; omega
    ·obtain rfl : j = a0.size := by omega
     have hl : (impl_MirrorDeliveries.row a0 a0.size).length = a0.size := by simp [impl_MirrorDeliveries.row, bytesOf_length]
     have kd := run_convert_bytes_arg (P := Tryz.prog) wr 22 5 Tryz.underlying22 Tryz.underlying5 w.heap.size 0 a0.size cp (impl_MirrorDeliveries.row a0 a0.size) hl (fun i hi => by
      rw [Nat.zero_add, cell_of_row wr w.heap.size i _ _ _ HR.out.1, List.getElem?_toArray, List.getElem?_append_left (by simp [nums, hl, hi])]
      simp [nums, List.getElem?_eq_getElem (show i < (impl_MirrorDeliveries.row a0 a0.size).length by omega)]) 9 Tryz.underlying9
     have er : impl_MirrorDeliveries.row a0 a0.size = (bytesOf a0).map impl_MirrorDeliveries.mir := by
      unfold impl_MirrorDeliveries.row
      rw [List.take_of_length_le by_, List.drop_of_length_le by_, List.append_nil]
     rw [er] at kd;clear hl er
     go_wp2
     go_ret2
     exact ⟨rfl, HR.out.2⟩
  ·simp only [if_true, if_neg hs] at h
   cases h
end Go.Proofs.YtpopeedfgenebaaGreat.PFnPostDelivers
