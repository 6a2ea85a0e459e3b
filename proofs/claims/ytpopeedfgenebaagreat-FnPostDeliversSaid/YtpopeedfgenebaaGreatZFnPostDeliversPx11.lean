/- Cut by wip/cut.py out of the texts of this claim (printed by the kit's printer, or this session's own): what the row's theorem does not reach is struck. Not trusted: Lean checks it. -/
import Derived.Test.YtpopeedfgenebaaGreatZFnPostDeliversPx0
import Derived.Test.YtpopeedfgenebaaGreatZFnPostDeliversPx2
import Derived.Test.YtpopeedfgenebaaGreatZFnPostDeliversPx5
import Derived.Test.YtpopeedfgenebaaGreatZFnPostDeliversPx10
namespace Go.Proofs.YtpopeedfgenebaaGreat.PFnPostDelivers
open Go.RowKit Go.Proofs.YtpopeedfgenebaaGreatW.PrintWords Go.Proofs.YtpopeedfgenebaaGreatW.PrintLast Go.Proofs.YtpopeedfgenebaaGreatW.PrintMore
attribute [local go_sem] zq zo zx zw zk zj zp zn
set_option linter.unusedVariables false
set_option linter.unusedSimpArgs false
def spec_CountDelivered.f (k : Nat) (a0 : ByteArray) : Option (Int × Bool) := (spec_poGood.f k a0).bind fun t334 => (if t334 = true then ((spec_poCount.f k a0).bind fun t335 => (some (t335, true))) else (some (0, false)))
theorem spec_CountDelivered.mono : ∀ a0 k, LeO (spec_CountDelivered.f k a0) (spec_CountDelivered.f (k + 1) a0) := by
 intro a0 k
 unfold spec_CountDelivered.f
 repeat' first | (with_reducible first | exact spec_poCount.mono _ _ | exact spec_poGood.mono _ _ | exact LeO.refl _ | exact LeO.none _ | refine LeO.ite ?_ ?_ | refine LeO.bind ?_ (fun _ => ?_)) | exact spec_poCount.mono _ _ | exact spec_poGood.mono _ _ | exact LeO.none _ | refine LeO.ite ?_ ?_ | refine LeO.bind ?_ (fun _ => ?_)
set_option maxHeartbeats 8000000 in
set_option maxRecDepth 100000 in
theorem spec_CountDelivered.calls (k : Nat) (a0 : ByteArray) (r1 : Int) (r2 : Bool) (w : World) (h : spec_CountDelivered.f k a0 = some (r1, r2)) :
  Calls Tryz.prog 11 #[.string a0] w fun e w' => e = .returned (.tuple #[.int .i64 r1, .bool r2]) ∧ ql w w' := by
 have H := h; clear h; unfold spec_CountDelivered.f at H
 replace H := bX_ H; obtain ⟨t334, A2, H⟩ := H
 replace H := iB_ H; obtain ⟨rfl, H⟩ | ⟨rfl, H⟩ := H
 ·replace H := bX_ H; obtain ⟨t335, A4, H⟩ := H
  replace H := iP_ H; obtain ⟨rfl, rfl⟩ := H
  go_enter Tryz.func11, Tryz.ntmps11
  go_wp2_with (first | (refine gL_ 5 Tryz.func45 #[.string a0] ?_; refine (spec_poGood.calls k a0 true _ A2.out).mono ?_; rintro e w' ⟨rfl, ⟨nd, rfl⟩⟩; refine ⟨_, rfl, ?_⟩) | (refine gL_ 8 Tryz.func46 #[.string a0] ?_; refine (spec_poCount.calls k a0 t335 _ A4.out).mono ?_; rintro e w' ⟨rfl, ⟨nd, rfl⟩⟩; refine ⟨_, rfl, ?_⟩))
  go_ret2
  exact ⟨es_, a0_⟩
 ·replace H := iP_ H; obtain ⟨rfl, rfl⟩ := H
  go_enter Tryz.func11, Tryz.ntmps11
  go_wp2_with (first | (refine gL_ 5 Tryz.func45 #[.string a0] ?_; refine (spec_poGood.calls k a0 false _ A2.out).mono ?_; rintro e w' ⟨rfl, ⟨nd, rfl⟩⟩; refine ⟨_, rfl, ?_⟩))
  go_ret2
  exact ⟨es_, a0_⟩
def laws_zSame.l0 : Nat → List Int → List Int → Int → Int → Option (Bool)
 | 0, _, _, _, _ => none
 | k + 1, x0, x1, x12, x13 => if x13 < x12 then (if 0 ≤ x13 then (if x13 < (x0.length : Int) then (if x13 < (x1.length : Int) then (if (rd x0 x13) = (rd x1 x13) then (laws_zSame.l0 k x0 x1 x12 (wrap64 (x13 + 1))) else (some false)) else (none)) else (none)) else (none)) else (some true)
def laws_zSame.f (k : Nat) (l0 : List Int) (l1 : List Int) : Option (Bool) := if (l0.length : Int) = (l1.length : Int) then (laws_zSame.l0 k l0 l1 (l0.length : Int) 0) else (some false)
theorem laws_zSame.zd : ∀ k, (∀ y0 y1 y2 y3, LeO (laws_zSame.l0 k y0 y1 y2 y3) (laws_zSame.l0 (k + 1) y0 y1 y2 y3))
 | 0 => fun _ _ _ _ r h => by simp [laws_zSame.l0] at h
 | k + 1 => by
  have ih0 := laws_zSame.zd k
  intro y0 y1 y2 y3
  unfold laws_zSame.l0
  exact l7_
theorem laws_zSame.mono : ∀ a0 a1 k, LeO (laws_zSame.f k a0 a1) (laws_zSame.f (k + 1) a0 a1) := by
 intro a0 a1 k
 have ih0 := laws_zSame.zd k
 unfold laws_zSame.f
 exact l7_
set_option maxHeartbeats 8000000 in
set_option maxRecDepth 100000 in
theorem laws_zSame.calls (k : Nat) (A0 : Option Addr) (c0 : Nat) (l0 : List Int) (A1 : Option Addr) (c1 : Nat) (l1 : List Int) (r : Bool) (w : World) (hr0 : Kd.C (Kd.int .i64) w A0 l0.length l0) (hc0 : l0.length ≤ c0) (hr1 : Kd.C (Kd.int .i64) w A1 l1.length l1) (hc1 : l1.length ≤ c1) (h : laws_zSame.f k l0 l1 = some r) :
  Calls Tryz.prog 12 #[.slice A0 l0.length c0, .slice A1 l1.length c1] w fun e w' => e = .returned (.bool r) ∧ ql w w' := by
 have HR0 := qb.mk hr0;have HC0 := qb.mk hc0;clear hr0 hc0;have HR1 := qb.mk hr1;have HC1 := qb.mk hc1;clear hr1 hc1;have H := h; clear h; unfold laws_zSame.f at H;replace H := iC_ H; obtain ⟨c3, H⟩ | ⟨c3, H⟩ := H
 ·have c3b0 := beq_iff_eq.mpr c3
  have c3b1 := bne_eq_false_iff_eq.mpr c3;have c3b2 : (l0.length == l1.length) = true := by first | simpa using c3 | (simp at c3 ⊢; omega)
  clear c3;have H' := qb.mk H;clear H
  go_enter Tryz.func12, Tryz.ntmps12
  go_wp2
  repeat (go_quiet (fail); try go_wp2)
  go_loopg [13] k (fun kq v13 w' => ∃ (x13_1 : Int), v13 = .int .i64 x13_1 ∧ qb (laws_zSame.l0 kq l0 l1 (l0.length : Int) x13_1 = some r) ∧ qb (kq ≤ k) ∧ ql w w')
  case atStart => exact ⟨(0), es_, H', ⟨Nat.le_refl _⟩, a0_⟩
  case round =>
   clear H';(try clear c1);(try clear c3);(try clear c3b0);(try clear c3b1);(try clear c3b2);obtain ⟨x13_1, rfl, HA, HK1, ⟨m1, rfl⟩⟩ := hrel;cases gk with
   | zero => exact absurd HA.out (by simp [laws_zSame.l0])
   | succ k1 =>
    have H := HA.out;clear HA
    simp only [laws_zSame.l0] at H
    replace H := iD_ H; obtain ⟨c4b0, H⟩ | ⟨c4b0, H⟩ := H
    ·replace H := iD_ H; obtain ⟨c5b0, H⟩ | ⟨c5b0, H⟩ := H
     ·replace H := iD_ H; obtain ⟨c6b0, H⟩ | ⟨c6b0, H⟩ := H
      ·replace H := iD_ H; obtain ⟨c7b0, H⟩ | ⟨c7b0, H⟩ := H
       ·replace H := iE_ H; obtain ⟨c8b0, c8b1, H⟩ | ⟨c8, c8b0, c8b1, H⟩ := H
        ·have H' := qb.mk H
         clear H;have p336 : 0 ≤ (x13_1 : Int) := od_;have q336 : x13_1 < (l0.length : Int) := od_;obtain ⟨ad336, e336, hx336_0⟩ := Kd.zi HR0.out x13_1 p336 q336;cases e336;replace p336 := eq_true p336;replace q336 := eq_true q336;have p337 : 0 ≤ (x13_1 : Int) := od_;have q337 : x13_1 < (l1.length : Int) := od_;obtain ⟨ad337, e337, hx337_0⟩ := Kd.zi HR1.out x13_1 p337 q337;cases e337;replace p337 := eq_true p337;replace q337 := eq_true q337
         go_wp2
         repeat (go_quiet (fail); try go_wp2)
         go_roundg k1
         case measure => have := HK1.out; omega
         case rel => exact ⟨(wrap64 (x13_1 + 1)), es_, H', ⟨by have := HK1.out; omega⟩, a0_⟩
        ·obtain rfl := Option.some.inj H
         have p336 : 0 ≤ (x13_1 : Int) := od_;have q336 : x13_1 < (l0.length : Int) := od_;obtain ⟨ad336, e336, hx336_0⟩ := Kd.zi HR0.out x13_1 p336 q336;cases e336;replace p336 := eq_true p336;replace q336 := eq_true q336;have p337 : 0 ≤ (x13_1 : Int) := od_;have q337 : x13_1 < (l1.length : Int) := od_;obtain ⟨ad337, e337, hx337_0⟩ := Kd.zi HR1.out x13_1 p337 q337;cases e337;replace p337 := eq_true p337;replace q337 := eq_true q337
         exact lJ_
       ·cases H
      ·cases H
     ·cases H
    ·obtain rfl := Option.some.inj H
     exact lJ_
 ·have c3b0 := beq_eq_false_iff_ne.mpr c3
  have c3b1 := bne_iff_ne.mpr c3;have c3b2 : (l0.length == l1.length) = false := by first | simpa using c3 | (simp at c3 ⊢; omega)
  obtain rfl := Option.some.inj H
  go_enter Tryz.func12, Tryz.ntmps12
  exact lJ_
def impl_increasing.l0 : Nat → List Int → Int → Option (Bool)
 | 0, _, _ => none
 | k + 1, x0, x3 => if x3 < (x0.length : Int) then (if 0 ≤ (wrap64 (x3 - 1)) then (if (wrap64 (x3 - 1)) < (x0.length : Int) then (if 0 ≤ x3 then (if (rd x0 (wrap64 (x3 - 1))) ≥ (rd x0 x3) then (some false) else (impl_increasing.l0 k x0 (wrap64 (x3 + 1)))) else (none)) else (none)) else (none)) else (some true)
def impl_increasing.f (k : Nat) (l0 : List Int) : Option (Bool) := impl_increasing.l0 k l0 1
theorem impl_increasing.zd : ∀ k, (∀ y0 y1, LeO (impl_increasing.l0 k y0 y1) (impl_increasing.l0 (k + 1) y0 y1))
 | 0 => fun _ _ r h => by simp [impl_increasing.l0] at h
 | k + 1 => by
  have ih0 := impl_increasing.zd k
  intro y0 y1
  unfold impl_increasing.l0
  exact la_
theorem impl_increasing.mono : ∀ a0 k, LeO (impl_increasing.f k a0) (impl_increasing.f (k + 1) a0) := by
 intro a0 k
 have ih0 := impl_increasing.zd k
 unfold impl_increasing.f
 exact la_
set_option maxHeartbeats 8000000 in
set_option maxRecDepth 100000 in
theorem impl_increasing.calls (k : Nat) (A0 : Option Addr) (c0 : Nat) (l0 : List Int) (r : Bool) (w : World) (hr0 : Kd.C (Kd.int .i64) w A0 l0.length l0) (hc0 : l0.length ≤ c0) (h : impl_increasing.f k l0 = some r) :
  Calls Tryz.prog 48 #[.slice A0 l0.length c0] w fun e w' => e = .returned (.bool r) ∧ ql w w' := by
 have HR0 := qb.mk hr0;have HC0 := qb.mk hc0;clear hr0 hc0;have H := h; clear h; unfold impl_increasing.f at H;have H' := qb.mk H;clear H
 go_enter Tryz.func48, Tryz.ntmps48
 go_wp2
 repeat (go_quiet (fail); try go_wp2)
 go_loopg [3] k (fun kq v3 w' => ∃ (x3_1 : Int), v3 = .int .i64 x3_1 ∧ qb (impl_increasing.l0 kq l0 x3_1 = some r) ∧ qb (kq ≤ k) ∧ ql w w')
 case atStart => exact ⟨(1), es_, H', ⟨Nat.le_refl _⟩, a0_⟩
 case round =>
  clear H';obtain ⟨x3_1, rfl, HA, HK1, ⟨m1, rfl⟩⟩ := hrel;cases gk with
  | zero => exact absurd HA.out (by simp [impl_increasing.l0])
  | succ k1 =>
   have H := HA.out;clear HA
   simp only [impl_increasing.l0] at H
   replace H := iD_ H; obtain ⟨c2b0, H⟩ | ⟨c2b0, H⟩ := H
   ·obtain ⟨ji3, hji3⟩ : ∃ j_ : Int, (wrap64 (x3_1 - 1)) = j_ := ⟨_, rfl⟩
    replace H : (if 0 ≤ (ji3) then (if (ji3) < (l0.length : Int) then (if 0 ≤ x3_1 then (if (rd l0 (ji3)) ≥ (rd l0 x3_1) then (some false) else (impl_increasing.l0 k1 l0 (wrap64 (x3_1 + 1)))) else (none)) else (none)) else (none)) = some r := by first | (rw [hji3] at H; exact H) | (simp only [hji3] at H ⊢; exact H)
    have hji3w : (IntKind.i64.wrap (x3_1 - 1)) = ji3 := (i64_w _).trans hji3;replace H := iD_ H; obtain ⟨c4b0, H⟩ | ⟨c4b0, H⟩ := H
    ·replace H := iD_ H; obtain ⟨c5b0, H⟩ | ⟨c5b0, H⟩ := H
     ·replace H := iD_ H; obtain ⟨c6b0, H⟩ | ⟨c6b0, H⟩ := H
      ·replace H := iC_ H; obtain ⟨c7, H⟩ | ⟨c7, H⟩ := H
       ·have c7b0 : decide ((rd l0 x3_1) ≤ (rd l0 (ji3))) = true := decide_eq_true c7
        clear c7;obtain rfl := Option.some.inj H;have p338 : 0 ≤ ((ji3) : Int) := od_;have q338 : (ji3) < (l0.length : Int) := od_;obtain ⟨ad338, e338, hx338_0⟩ := Kd.zi HR0.out (ji3) p338 q338;cases e338;replace p338 := eq_true p338;replace q338 := eq_true q338;have p339 : 0 ≤ (x3_1 : Int) := od_;have q339 : x3_1 < (l0.length : Int) := od_;obtain ⟨ad339, e339, hx339_0⟩ := Kd.zi HR0.out x3_1 p339 q339;obtain rfl : ad338 = ad339 := (by injection e339);replace p339 := eq_true p339;replace q339 := eq_true q339
        go_wp2
        repeat (go_quiet (fail); try go_wp2)
        go_ret
        exact ⟨cd_, a0_⟩
       ·have c7b0 : decide ((rd l0 x3_1) ≤ (rd l0 (ji3))) = false := decide_eq_false c7
        clear c7;have H' := qb.mk H;clear H;have p338 : 0 ≤ ((ji3) : Int) := od_;have q338 : (ji3) < (l0.length : Int) := od_;obtain ⟨ad338, e338, hx338_0⟩ := Kd.zi HR0.out (ji3) p338 q338;cases e338;replace p338 := eq_true p338;replace q338 := eq_true q338;have p339 : 0 ≤ (x3_1 : Int) := od_;have q339 : x3_1 < (l0.length : Int) := od_;obtain ⟨ad339, e339, hx339_0⟩ := Kd.zi HR0.out x3_1 p339 q339;obtain rfl : ad338 = ad339 := (by injection e339);replace p339 := eq_true p339;replace q339 := eq_true q339
        go_wp2
        repeat (go_quiet (fail); try go_wp2)
        exact lk_
      ·cases H
     ·cases H
    ·cases H
   ·obtain rfl := Option.some.inj H
    exact lJ_
def impl_allWithin.l0 : Nat → Int → Int → List Int → Int → Int → Option (Bool)
 | 0, _, _, _, _, _ => none
 | k + 1, x1, x2, x9, x10, x11 => if x11 < x10 then (if 0 ≤ x11 then (if x11 < (x9.length : Int) then ((impl_within.f (rd x9 x11) x1 x2).bind fun t341 => (if t341 = true then (impl_allWithin.l0 k x1 x2 x9 x10 (wrap64 (x11 + 1))) else (some false))) else (none)) else (none)) else (some true)
def impl_allWithin.f (k : Nat) (l0 : List Int) (a1 : Int) (a2 : Int) : Option (Bool) := impl_allWithin.l0 k a1 a2 l0 (l0.length : Int) 0
theorem impl_allWithin.zd : ∀ k, (∀ y0 y1 y2 y3 y4, LeO (impl_allWithin.l0 k y0 y1 y2 y3 y4) (impl_allWithin.l0 (k + 1) y0 y1 y2 y3 y4))
 | 0 => fun _ _ _ _ _ r h => by simp [impl_allWithin.l0] at h
 | k + 1 => by
  have ih0 := impl_allWithin.zd k
  intro y0 y1 y2 y3 y4
  unfold impl_allWithin.l0
  exact l2_
theorem impl_allWithin.mono : ∀ a0 a1 a2 k, LeO (impl_allWithin.f k a0 a1 a2) (impl_allWithin.f (k + 1) a0 a1 a2) := by
 intro a0 a1 a2 k
 have ih0 := impl_allWithin.zd k
 unfold impl_allWithin.f
 exact l2_
set_option maxHeartbeats 8000000 in
set_option maxRecDepth 100000 in
theorem impl_allWithin.calls (k : Nat) (A0 : Option Addr) (c0 : Nat) (l0 : List Int) (a1 : Int) (a2 : Int) (r : Bool) (w : World) (hr0 : Kd.C (Kd.int .i64) w A0 l0.length l0) (hc0 : l0.length ≤ c0) (h : impl_allWithin.f k l0 a1 a2 = some r) :
  Calls Tryz.prog 49 #[.slice A0 l0.length c0, .int .i64 a1, .int .i64 a2] w fun e w' => e = .returned (.bool r) ∧ ql w w' := by
 have HR0 := qb.mk hr0
 have HC0 := qb.mk hc0
 clear hr0 hc0
 have H := h; clear h; unfold impl_allWithin.f at H
 have H' := qb.mk H
 clear H
 go_enter Tryz.func49, Tryz.ntmps49
 go_wp2
 go_loopg [11] k (fun kq v11 w' => ∃ (x11_1 : Int), v11 = .int .i64 x11_1 ∧ qb (impl_allWithin.l0 kq a1 a2 l0 (l0.length : Int) x11_1 = some r) ∧ qb (kq ≤ k) ∧ ql w w')
 case atStart => exact ⟨(0), es_, H', ⟨Nat.le_refl _⟩, a0_⟩
 case round =>
  clear H'
  obtain ⟨x11_1, rfl, HA, HK1, ⟨m1, rfl⟩⟩ := hrel
  cases gk with
  | zero => exact absurd HA.out (by simp [impl_allWithin.l0])
  | succ k1 =>
   have H := HA.out
   clear HA
   simp only [impl_allWithin.l0] at H
   replace H := iD_ H; obtain ⟨c4b0, H⟩ | ⟨c4b0, H⟩ := H
   ·replace H := iD_ H; obtain ⟨c5b0, H⟩ | ⟨c5b0, H⟩ := H
    ·replace H := iD_ H; obtain ⟨c6b0, H⟩ | ⟨c6b0, H⟩ := H
     ·replace H := bX_ H; obtain ⟨t341, A7, H⟩ := H
      replace H := iB_ H; obtain ⟨rfl, H⟩ | ⟨rfl, H⟩ := H
      ·have H' := qb.mk H
       clear H
       have p340 : 0 ≤ (x11_1 : Int) := od_
       have q340 : x11_1 < (l0.length : Int) := od_
       obtain ⟨ad340, e340, hx340_0⟩ := Kd.zi HR0.out x11_1 p340 q340
       cases e340
       replace p340 := eq_true p340
       replace q340 := eq_true q340
       go_wp2_with (first | (refine gL_ 18 Tryz.func65 #[.int .i64 (rd l0 x11_1), .int .i64 a1, .int .i64 a2] ?_; refine (impl_within.calls (rd l0 x11_1) a1 a2 true _ A7.out).mono ?_; rintro e w' ⟨rfl, ⟨nd, rfl⟩⟩; refine ⟨_, rfl, ?_⟩))
       exact lC_
      ·obtain rfl := Option.some.inj H
       have p340 : 0 ≤ (x11_1 : Int) := od_
       have q340 : x11_1 < (l0.length : Int) := od_
       obtain ⟨ad340, e340, hx340_0⟩ := Kd.zi HR0.out x11_1 p340 q340
       cases e340
       replace p340 := eq_true p340
       replace q340 := eq_true q340
       go_wp2_with (first | (refine gL_ 18 Tryz.func65 #[.int .i64 (rd l0 x11_1), .int .i64 a1, .int .i64 a2] ?_; refine (impl_within.calls (rd l0 x11_1) a1 a2 false _ A7.out).mono ?_; rintro e w' ⟨rfl, ⟨nd, rfl⟩⟩; refine ⟨_, rfl, ?_⟩))
       go_ret
       exact ⟨es_, a0_⟩
     ·cases H
    ·cases H
   ·exact lT_
def impl_housesOf.f (a0_0 : Int) (a0_1 : Int) : Option (Int) := if a0_0 = 0 then (some a0_1) else (some (wrap64 (2 * a0_1)))
set_option maxHeartbeats 8000000 in
set_option maxRecDepth 100000 in
theorem impl_housesOf.calls (a0_0 : Int) (a0_1 : Int) (r : Int) (w : World) (h : impl_housesOf.f a0_0 a0_1 = some r) :
  Calls Tryz.prog 50 #[.agg #[.int .i64 a0_0, .int .i64 a0_1]] w fun e w' => e = .returned (.int .i64 r) ∧ Below w.heap.size w w' := by
 have hu25 := Tryz.underlying25
 have HB := qb.mk (Below.refl w.heap.size w)
 have H := h; clear h; unfold impl_housesOf.f at H
 replace H := iE_ H; obtain ⟨c2b0, c2b1, H⟩ | ⟨c2, c2b0, c2b1, H⟩ := H
 ·obtain rfl := Option.some.inj H
  go_enter Tryz.func50, Tryz.ntmps50
  go_wp2_with (first | (refine bE_ 1 #[.int .i64 a0_0, .int .i64 a0_1] 25 ?_; intro gb342 hg w3 hbox hb; have BK342 := qb.mk (hbox); have GW342 := qb.mk (bm_); have GE342 := qb.mk (bm_); replace HB := qb.mk ac_; clear hb hbox hg; have hcz4_0 := cC_ BK342 0; have hcz4_1 := cC_ BK342 1; have hfz4_0 := qi BK342.out 0; have hfz4_1 := qi BK342.out 1))
  go_ret
  exact ⟨er_, be1_ HB GE342⟩
 ·obtain rfl := Option.some.inj H
  go_enter Tryz.func50, Tryz.ntmps50
  go_wp2_with (first | (refine bE_ 1 #[.int .i64 a0_0, .int .i64 a0_1] 25 ?_; intro gb342 hg w5 hbox hb; have BK342 := qb.mk (hbox); have GW342 := qb.mk (bm_); have GE342 := qb.mk (bm_); replace HB := qb.mk ac_; clear hb hbox hg; have hcz6_0 := cC_ BK342 0; have hcz6_1 := cC_ BK342 1; have hfz6_0 := qi BK342.out 0; have hfz6_1 := qi BK342.out 1))
  go_ret
  exact ⟨er_, be1_ HB GE342⟩
def strings_Repeat.lay_ren : Go.Shelf.Ren := ⟨fun n => match n with | 105 => 51 | 212 => 80 | 99 => 81 | 165 => 82 | 166 => 83 | 170 => 84 | 169 => 85 | 263 => 105 | 264 => 106 | 206 => 107 | 240 => 108 | 241 => 109 | 276 => 122 | 277 => 123 | n => n, fun n => match n with | 9 => 9 | 3 => 3 | 4 => 4 | 20 => 20 | 0 => 0 | 46 => 97 | 109 => 101 | 5 => 5 | 72 => 105 | 76 => 109 | 51 => 120 | 146 => 122 | 53 => 74 | 148 => 124 | 70 => 103 | 37 => 22 | 75 => 108 | 127 => 126 | 164 => 139 | 80 => 82 | n => n, fun n => n⟩
theorem strings_Repeat.lay : Go.Proofs.Lays.n105 Tryz.prog strings_Repeat.lay_ren := {
 mixed := by kernel_rfl
 f99 := Tryz.func81.trans (congrArg some a9_)
 f105 := Tryz.func51.trans (congrArg some a9_)
 f165 := Tryz.func82.trans (congrArg some a9_)
 f166 := Tryz.func83.trans (congrArg some a9_)
 f169 := Tryz.func85.trans (congrArg some a9_)
 f170 := Tryz.func84.trans (congrArg some a9_)
 f206 := Tryz.func107.trans (congrArg some a9_)
 f212 := Tryz.func80.trans (congrArg some a9_)
 f240 := Tryz.func108.trans (congrArg some a9_)
 f241 := Tryz.func109.trans (congrArg some a9_)
 f263 := Tryz.func105.trans (congrArg some a9_)
 f264 := Tryz.func106.trans (congrArg some a9_)
 f276 := Tryz.func122.trans (congrArg some a9_)
 f277 := Tryz.func123.trans (congrArg some a9_)
 t0 := Tryz.underlying0
 a0 := Tryz.isAgg0
 z0 := Tryz.sizeOf0
 v0 := Tryz.zeroValue0
 t3 := Tryz.underlying3
 a3 := Tryz.isAgg3
 z3 := Tryz.sizeOf3
 v3 := Tryz.zeroValue3
 t4 := Tryz.underlying4
 a4 := Tryz.isAgg4
 z4 := Tryz.sizeOf4
 v4 := Tryz.zeroValue4
 t5 := Tryz.underlying5
 a5 := Tryz.isAgg5
 z5 := Tryz.sizeOf5
 v5 := Tryz.zeroValue5
 t9 := Tryz.underlying9
 a9 := Tryz.isAgg9
 z9 := Tryz.sizeOf9
 v9 := Tryz.zeroValue9
 t20 := Tryz.underlying20
 a20 := Tryz.isAgg20
 z20 := Tryz.sizeOf20
 v20 := Tryz.zeroValue20
 t37 := Tryz.underlying22
 a37 := Tryz.isAgg22
 z37 := Tryz.sizeOf22
 v37 := Tryz.zeroValue22
 t46 := Tryz.underlying97
 a46 := Tryz.isAgg97
 z46 := Tryz.sizeOf97
 v46 := Tryz.zeroValue97
 t51 := Tryz.underlying120
 a51 := Tryz.isAgg120
 z51 := Tryz.sizeOf120
 v51 := Tryz.zeroValue120
 t53 := Tryz.underlying74
 a53 := Tryz.isAgg74
 z53 := Tryz.sizeOf74
 v53 := Tryz.zeroValue74
 t70 := Tryz.underlying103
 a70 := Tryz.isAgg103
 z70 := Tryz.sizeOf103
 v70 := Tryz.zeroValue103
 t72 := Tryz.underlying105
 a72 := Tryz.isAgg105
 z72 := Tryz.sizeOf105
 v72 := Tryz.zeroValue105
 t75 := Tryz.underlying108
 a75 := Tryz.isAgg108
 z75 := Tryz.sizeOf108
 v75 := Tryz.zeroValue108
 t76 := Tryz.underlying109
 a76 := Tryz.isAgg109
 z76 := Tryz.sizeOf109
 v76 := Tryz.zeroValue109
 t109 := Tryz.underlying101
 a109 := Tryz.isAgg101
 z109 := Tryz.sizeOf101
 v109 := Tryz.zeroValue101
 t127 := Tryz.underlying126
 a127 := Tryz.isAgg126
 z127 := Tryz.sizeOf126
 v127 := Tryz.zeroValue126
 t146 := Tryz.underlying122
 a146 := Tryz.isAgg122
 z146 := Tryz.sizeOf122
 v146 := Tryz.zeroValue122
 t148 := Tryz.underlying124
 a148 := Tryz.isAgg124
 z148 := Tryz.sizeOf124
 v148 := Tryz.zeroValue124
 t164 := Tryz.underlying139
 a164 := Tryz.isAgg139
 z164 := Tryz.sizeOf139
 v164 := Tryz.zeroValue139 }
theorem strings_Repeat.extra : Go.Proofs.Builder.Extra Tryz.prog strings_Repeat.lay_ren := {
 sizeBuilder := by kernel_rfl
 liesBuilder := by kernel_rfl
 t5 := Tryz.underlying5
 a5 := Tryz.isAgg5
 z5 := Tryz.sizeOf5
 v5 := Tryz.zeroValue5
 infoByte := by kernel_rfl
 cellsByte := by kernel_rfl
 sizeByte := by kernel_rfl
 neB5 := by decide }
def strings_Repeat.f (a0 : ByteArray) (a1 : Int) : Option ByteArray := if 0 ≤ a1 ∧ a1 ≤ 1048576 ∧ a0.size ≤ 1048576 then some ⟨(Go.Lib.repeatL a0.data.toList a1.toNat).toArray⟩ else none
theorem strings_Repeat.calls (a0 : ByteArray) (a1 : Int) (r : ByteArray) (w : World) (h : strings_Repeat.f a0 a1 = some r) :
  Calls Tryz.prog 51 #[.string a0, .int .i64 a1] w fun e w' => e = .returned (.string r) ∧ Below w.heap.size w w' := by
 unfold strings_Repeat.f at h
 by_cases hc : 0 ≤ a1 ∧ a1 ≤ 1048576 ∧ a0.size ≤ 1048576
 ·rw [if_pos hc] at h
  cases Option.some.inj h
  obtain ⟨n, rfl⟩ : ∃ n : Nat, a1 = (n : Int) := ⟨a1.toNat, (by omega)⟩
  rw [Int.toNat_natCast]
  exact Go.Proofs.Any.strings_Repeat strings_Repeat.lay strings_Repeat.extra a0 n w (by omega) (by have := Nat.mul_le_mul hc.2.2 (show n ≤ 1048576 by omega); omega)
 ·rw [if_neg hc] at h
  cases h
def impl_plotOf.f (a0_0 : Int) (a0_1 : Int) (a1 : Int) : Option (Int × Int) := if a0_0 = 1 then (some (Int.tmod (wrap64 (a1 - 1)) 2, wrap64 (Int.tdiv (wrap64 (a1 - 1)) 2))) else (if a1 > a0_1 then (some (1, wrap64 ((wrap64 (2 * a0_1)) - a1))) else (some (0, wrap64 (a1 - 1))))
set_option maxHeartbeats 8000000 in
set_option maxRecDepth 100000 in
theorem impl_plotOf.calls (a0_0 : Int) (a0_1 : Int) (a1 : Int) (r1 : Int) (r2 : Int) (w : World) (h : impl_plotOf.f a0_0 a0_1 a1 = some (r1, r2)) :
  Calls Tryz.prog 52 #[.agg #[.int .i64 a0_0, .int .i64 a0_1], .int .i64 a1] w fun e w' => e = .returned (.tuple #[.int .i64 r1, .int .i64 r2]) ∧ Below w.heap.size w w' := by
 have hu25 := Tryz.underlying25;have HB := qb.mk (Below.refl w.heap.size w);have H := h; clear h; unfold impl_plotOf.f at H;replace H := iE_ H; obtain ⟨c3b0, c3b1, H⟩ | ⟨c3, c3b0, c3b1, H⟩ := H
 ·replace H := iP_ H; obtain ⟨rfl, rfl⟩ := H
  go_enter Tryz.func52, Tryz.ntmps52
  go_wp2_with (first | (refine bE_ 2 #[.int .i64 a0_0, .int .i64 a0_1] 25 ?_; intro b1 hg w4 hbox hb; have b0 := qb.mk (hbox); have b3 := qb.mk (a3_); have b2 := qb.mk (a3_); replace HB := qb.mk ac_; clear hb hbox hg; have hcz5_0 := cC_ b0 0; have hcz5_1 := cC_ b0 1; have hfz5_0 := qi b0.out 0; have hfz5_1 := qi b0.out 1))
  repeat (go_quiet (first | (refine bE_ 2 #[.int .i64 a0_0, .int .i64 a0_1] 25 ?_; intro b1 hg w4 hbox hb; have b0 := qb.mk (hbox); have b3 := qb.mk (a3_); have b2 := qb.mk (a3_); replace HB := qb.mk ac_; clear hb hbox hg; have hcz5_0 := cC_ b0 0; have hcz5_1 := cC_ b0 1; have hfz5_0 := qi b0.out 0; have hfz5_1 := qi b0.out 1)); try go_wp2_with (first | (refine bE_ 2 #[.int .i64 a0_0, .int .i64 a0_1] 25 ?_; intro b1 hg w4 hbox hb; have b0 := qb.mk (hbox); have b3 := qb.mk (a3_); have b2 := qb.mk (a3_); replace HB := qb.mk ac_; clear hb hbox hg; have hcz5_0 := cC_ b0 0; have hcz5_1 := cC_ b0 1; have hfz5_0 := qi b0.out 0; have hfz5_1 := qi b0.out 1)))
  go_ret2
  exact ⟨er_, be1_ HB b2⟩
 ·replace H := iC_ H; obtain ⟨c6, H⟩ | ⟨c6, H⟩ := H
  ·have c6b0 : decide (a0_1 < a1) = true := decide_eq_true c6
   clear c6;replace H := iP_ H; obtain ⟨rfl, rfl⟩ := H
   go_enter Tryz.func52, Tryz.ntmps52
   go_wp2_with (first | (refine bE_ 2 #[.int .i64 a0_0, .int .i64 a0_1] 25 ?_; intro b1 hg w7 hbox hb; have b0 := qb.mk (hbox); have b3 := qb.mk (a3_); have b2 := qb.mk (a3_); replace HB := qb.mk ac_; clear hb hbox hg; have hcz8_0 := cC_ b0 0; have hcz8_1 := cC_ b0 1; have hfz8_0 := qi b0.out 0; have hfz8_1 := qi b0.out 1))
   repeat (go_quiet (first | (refine bE_ 2 #[.int .i64 a0_0, .int .i64 a0_1] 25 ?_; intro b1 hg w7 hbox hb; have b0 := qb.mk (hbox); have b3 := qb.mk (a3_); have b2 := qb.mk (a3_); replace HB := qb.mk ac_; clear hb hbox hg; have hcz8_0 := cC_ b0 0; have hcz8_1 := cC_ b0 1; have hfz8_0 := qi b0.out 0; have hfz8_1 := qi b0.out 1)); try go_wp2_with (first | (refine bE_ 2 #[.int .i64 a0_0, .int .i64 a0_1] 25 ?_; intro b1 hg w7 hbox hb; have b0 := qb.mk (hbox); have b3 := qb.mk (a3_); have b2 := qb.mk (a3_); replace HB := qb.mk ac_; clear hb hbox hg; have hcz8_0 := cC_ b0 0; have hcz8_1 := cC_ b0 1; have hfz8_0 := qi b0.out 0; have hfz8_1 := qi b0.out 1)))
   go_ret2
   exact ⟨er_, be1_ HB b2⟩
  ·have c6b0 : decide (a0_1 < a1) = false := decide_eq_false c6
   clear c6;replace H := iP_ H; obtain ⟨rfl, rfl⟩ := H
   go_enter Tryz.func52, Tryz.ntmps52
   go_wp2_with (first | (refine bE_ 2 #[.int .i64 a0_0, .int .i64 a0_1] 25 ?_; intro b1 hg w9 hbox hb; have b0 := qb.mk (hbox); have b3 := qb.mk (a3_); have b2 := qb.mk (a3_); replace HB := qb.mk ac_; clear hb hbox hg; have hcz10_0 := cC_ b0 0; have hcz10_1 := cC_ b0 1; have hfz10_0 := qi b0.out 0; have hfz10_1 := qi b0.out 1))
   repeat (go_quiet (first | (refine bE_ 2 #[.int .i64 a0_0, .int .i64 a0_1] 25 ?_; intro b1 hg w9 hbox hb; have b0 := qb.mk (hbox); have b3 := qb.mk (a3_); have b2 := qb.mk (a3_); replace HB := qb.mk ac_; clear hb hbox hg; have hcz10_0 := cC_ b0 0; have hcz10_1 := cC_ b0 1; have hfz10_0 := qi b0.out 0; have hfz10_1 := qi b0.out 1)); try go_wp2_with (first | (refine bE_ 2 #[.int .i64 a0_0, .int .i64 a0_1] 25 ?_; intro b1 hg w9 hbox hb; have b0 := qb.mk (hbox); have b3 := qb.mk (a3_); have b2 := qb.mk (a3_); replace HB := qb.mk ac_; clear hb hbox hg; have hcz10_0 := cC_ b0 0; have hcz10_1 := cC_ b0 1; have hfz10_0 := qi b0.out 0; have hfz10_1 := qi b0.out 1)))
   go_ret2
   exact ⟨er_, be1_ HB b2⟩
end Go.Proofs.YtpopeedfgenebaaGreat.PFnPostDelivers
