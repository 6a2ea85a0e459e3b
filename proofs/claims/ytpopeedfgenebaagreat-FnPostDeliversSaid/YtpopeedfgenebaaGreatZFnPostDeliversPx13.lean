/- Cut by wip/cut.py out of the texts of this claim (printed by the kit's printer, or this session's own): what the row's theorem does not reach is struck. Not trusted: Lean checks it. -/
import Derived.Test.YtpopeedfgenebaaGreatZFnPostDeliversPx0
import Derived.Test.YtpopeedfgenebaaGreatZFnPostDeliversPx1
namespace Go.Proofs.YtpopeedfgenebaaGreat.PFnPostDelivers
open Go.RowKit Go.Proofs.YtpopeedfgenebaaGreatW.PrintWords Go.Proofs.YtpopeedfgenebaaGreatW.PrintLast Go.Proofs.YtpopeedfgenebaaGreatW.PrintMore
attribute [local go_sem] zq zo zx zw zk zj zp zn
set_option linter.unusedVariables false
set_option linter.unusedSimpArgs false
def spec_l1Rising.l0 : Nat → List Int → Int → Int → List Int → Int → Int → Option (Bool)
 | 0, _, _, _, _, _, _ => none
 | k + 1, x0, x1, x2, x9, x10, x11 => if x11 < x10 then (if 0 ≤ x11 then (if x11 < (x9.length : Int) then ((spec_l1In.f (rd x9 x11) x1 x2).bind fun t384 => (if t384 = true then (if x11 > 0 then (if 0 ≤ (wrap64 (x11 - 1)) then (if (wrap64 (x11 - 1)) < (x0.length : Int) then (if (rd x0 (wrap64 (x11 - 1))) ≥ (rd x9 x11) then (some false) else (spec_l1Rising.l0 k x0 x1 x2 x9 x10 (wrap64 (x11 + 1)))) else (none)) else (none)) else (spec_l1Rising.l0 k x0 x1 x2 x9 x10 (wrap64 (x11 + 1)))) else (some false))) else (none)) else (none)) else (some true)
def spec_l1Rising.f (k : Nat) (l0 : List Int) (a1 : Int) (a2 : Int) : Option (Bool) := spec_l1Rising.l0 k l0 a1 a2 l0 (l0.length : Int) 0
theorem spec_l1Rising.zd : ∀ k, (∀ y0 y1 y2 y3 y4 y5, LeO (spec_l1Rising.l0 k y0 y1 y2 y3 y4 y5) (spec_l1Rising.l0 (k + 1) y0 y1 y2 y3 y4 y5))
 | 0 => fun _ _ _ _ _ _ r h => by simp [spec_l1Rising.l0] at h
 | k + 1 => by
  have ih0 := spec_l1Rising.zd k
  intro y0 y1 y2 y3 y4 y5
  unfold spec_l1Rising.l0
  exact lG_
theorem spec_l1Rising.mono : ∀ a0 a1 a2 k, LeO (spec_l1Rising.f k a0 a1 a2) (spec_l1Rising.f (k + 1) a0 a1 a2) := by
 intro a0 a1 a2 k
 have ih0 := spec_l1Rising.zd k
 unfold spec_l1Rising.f
 exact lG_
set_option maxHeartbeats 8000000 in
set_option maxRecDepth 100000 in
theorem spec_l1Rising.calls (k : Nat) (A0 : Option Addr) (c0 : Nat) (l0 : List Int) (a1 : Int) (a2 : Int) (r : Bool) (w : World) (hr0 : Kd.C (Kd.int .i64) w A0 l0.length l0) (hc0 : l0.length ≤ c0) (h : spec_l1Rising.f k l0 a1 a2 = some r) :
  Calls Tryz.prog 60 #[.slice A0 l0.length c0, .int .i64 a1, .int .i64 a2] w fun e w' => e = .returned (.bool r) ∧ ql w w' := by
 have HR0 := qb.mk hr0;have HC0 := qb.mk hc0;clear hr0 hc0;have H := h; clear h; unfold spec_l1Rising.f at H;have H' := qb.mk H;clear H
 go_enter Tryz.func60, Tryz.ntmps60
 go_wp2
 go_loopg [11] k (fun kq v11 w' => ∃ (x11_1 : Int), v11 = .int .i64 x11_1 ∧ qb (spec_l1Rising.l0 kq l0 a1 a2 l0 (l0.length : Int) x11_1 = some r) ∧ qb (kq ≤ k) ∧ ql w w')
 case atStart => exact ⟨(0), es_, H', ⟨Nat.le_refl _⟩, a0_⟩
 case round =>
  clear H';obtain ⟨x11_1, rfl, HA, HK1, ⟨m1, rfl⟩⟩ := hrel;cases gk with
  | zero => exact absurd HA.out (by simp [spec_l1Rising.l0])
  | succ k1 =>
   have H := HA.out;clear HA
   simp only [spec_l1Rising.l0] at H
   replace H := iD_ H; obtain ⟨c4b0, H⟩ | ⟨c4b0, H⟩ := H
   ·replace H := iD_ H; obtain ⟨c5b0, H⟩ | ⟨c5b0, H⟩ := H
    ·replace H := iD_ H; obtain ⟨c6b0, H⟩ | ⟨c6b0, H⟩ := H
     ·replace H := bX_ H; obtain ⟨b0, A7, H⟩ := H
      replace H := iB_ H; obtain ⟨rfl, H⟩ | ⟨rfl, H⟩ := H
      ·replace H := iC_ H; obtain ⟨c9, H⟩ | ⟨c9, H⟩ := H
       ·have c9b0 : decide (0 < x11_1) = true := decide_eq_true c9
        clear c9;obtain ⟨ji10, hji10⟩ : ∃ j_ : Int, (wrap64 (x11_1 - 1)) = j_ := ⟨_, rfl⟩;replace H : (if 0 ≤ (ji10) then (if (ji10) < (l0.length : Int) then (if (rd l0 (ji10)) ≥ (rd l0 x11_1) then (some false) else (spec_l1Rising.l0 k1 l0 a1 a2 l0 (l0.length : Int) (wrap64 (x11_1 + 1)))) else (none)) else (none)) = some r := by first | (rw [hji10] at H; exact H) | (simp only [hji10] at H ⊢; exact H)
        (try rw [hji10] at A7)
        have hji10w : (IntKind.i64.wrap (x11_1 - 1)) = ji10 := (i64_w _).trans hji10;replace H := iD_ H; obtain ⟨c11b0, H⟩ | ⟨c11b0, H⟩ := H
        ·replace H := iD_ H; obtain ⟨c12b0, H⟩ | ⟨c12b0, H⟩ := H
         ·replace H := iC_ H; obtain ⟨c13, H⟩ | ⟨c13, H⟩ := H
          ·have c13b0 : decide ((rd l0 x11_1) ≤ (rd l0 (ji10))) = true := decide_eq_true c13
           clear c13;obtain rfl := Option.some.inj H;have p383 : 0 ≤ (x11_1 : Int) := od_;have q383 : x11_1 < (l0.length : Int) := od_;obtain ⟨ad383, e383, hx383_0⟩ := Kd.zi HR0.out x11_1 p383 q383;cases e383;replace p383 := eq_true p383;replace q383 := eq_true q383
           go_wp2_with (first | (refine gL_ 19 Tryz.func38 #[.int .i64 (rd l0 x11_1), .int .i64 a1, .int .i64 a2] ?_; refine (spec_l1In.calls (rd l0 x11_1) a1 a2 true _ A7.out).mono ?_; rintro e w' ⟨rfl, ⟨nd, rfl⟩⟩; refine ⟨_, rfl, ?_⟩; have p385 : 0 ≤ ((ji10) : Int) := od_; have q385 : (ji10) < (l0.length : Int) := od_; obtain ⟨ad385, e385, hx385_0⟩ := Kd.zi HR0.out (ji10) p385 q385; obtain rfl : ad383 = ad385 := (by injection e385); replace p385 := eq_true p385; replace q385 := eq_true q385))
           go_ret
           exact ⟨(by first | rfl | (simp; done) | (simp only [← hji10] <;> (first | rfl | simp)) | (simp [*]; done)), a0_⟩
          ·have c13b0 : decide ((rd l0 x11_1) ≤ (rd l0 (ji10))) = false := decide_eq_false c13
           clear c13;have H' := qb.mk H;clear H;have p383 : 0 ≤ (x11_1 : Int) := od_;have q383 : x11_1 < (l0.length : Int) := od_;obtain ⟨ad383, e383, hx383_0⟩ := Kd.zi HR0.out x11_1 p383 q383;cases e383;replace p383 := eq_true p383;replace q383 := eq_true q383
           go_wp2_with (first | (refine gL_ 19 Tryz.func38 #[.int .i64 (rd l0 x11_1), .int .i64 a1, .int .i64 a2] ?_; refine (spec_l1In.calls (rd l0 x11_1) a1 a2 true _ A7.out).mono ?_; rintro e w' ⟨rfl, ⟨nd, rfl⟩⟩; refine ⟨_, rfl, ?_⟩; have p385 : 0 ≤ ((ji10) : Int) := od_; have q385 : (ji10) < (l0.length : Int) := od_; obtain ⟨ad385, e385, hx385_0⟩ := Kd.zi HR0.out (ji10) p385 q385; obtain rfl : ad383 = ad385 := (by injection e385); replace p385 := eq_true p385; replace q385 := eq_true q385))
           exact lC_
         ·cases H
        ·cases H
       ·have c9b0 : decide (0 < x11_1) = false := decide_eq_false c9
        clear c9;have H' := qb.mk H;clear H;have p383 : 0 ≤ (x11_1 : Int) := od_;have q383 : x11_1 < (l0.length : Int) := od_;obtain ⟨ad383, e383, hx383_0⟩ := Kd.zi HR0.out x11_1 p383 q383;cases e383;replace p383 := eq_true p383;replace q383 := eq_true q383
        go_wp2_with (first | (refine gL_ 19 Tryz.func38 #[.int .i64 (rd l0 x11_1), .int .i64 a1, .int .i64 a2] ?_; refine (spec_l1In.calls (rd l0 x11_1) a1 a2 true _ A7.out).mono ?_; rintro e w' ⟨rfl, ⟨nd, rfl⟩⟩; refine ⟨_, rfl, ?_⟩))
        exact lC_
      ·obtain rfl := Option.some.inj H
       have p383 : 0 ≤ (x11_1 : Int) := od_;have q383 : x11_1 < (l0.length : Int) := od_;obtain ⟨ad383, e383, hx383_0⟩ := Kd.zi HR0.out x11_1 p383 q383;cases e383;replace p383 := eq_true p383;replace q383 := eq_true q383
       go_wp2_with (first | (refine gL_ 19 Tryz.func38 #[.int .i64 (rd l0 x11_1), .int .i64 a1, .int .i64 a2] ?_; refine (spec_l1In.calls (rd l0 x11_1) a1 a2 false _ A7.out).mono ?_; rintro e w' ⟨rfl, ⟨nd, rfl⟩⟩; refine ⟨_, rfl, ?_⟩))
       go_ret
       exact ⟨es_, a0_⟩
     ·cases H
    ·cases H
   ·exact lT_
def spec_l1Has.l0 : Nat → Int → List Int → Int → Int → Option (Bool)
 | 0, _, _, _, _ => none
 | k + 1, x1, x7, x8, x9 => if x9 < x8 then (if 0 ≤ x9 then (if x9 < (x7.length : Int) then (if (rd x7 x9) = x1 then (some true) else (spec_l1Has.l0 k x1 x7 x8 (wrap64 (x9 + 1)))) else (none)) else (none)) else (some false)
def spec_l1Has.f (k : Nat) (l0 : List Int) (a1 : Int) : Option (Bool) := spec_l1Has.l0 k a1 l0 (l0.length : Int) 0
theorem spec_l1Has.zd : ∀ k, (∀ y0 y1 y2 y3, LeO (spec_l1Has.l0 k y0 y1 y2 y3) (spec_l1Has.l0 (k + 1) y0 y1 y2 y3))
 | 0 => fun _ _ _ _ r h => by simp [spec_l1Has.l0] at h
 | k + 1 => by
  have ih0 := spec_l1Has.zd k
  intro y0 y1 y2 y3
  unfold spec_l1Has.l0
  exact l7_
theorem spec_l1Has.mono : ∀ a0 a1 k, LeO (spec_l1Has.f k a0 a1) (spec_l1Has.f (k + 1) a0 a1) := by
 intro a0 a1 k
 have ih0 := spec_l1Has.zd k
 unfold spec_l1Has.f
 exact l7_
set_option maxHeartbeats 8000000 in
set_option maxRecDepth 100000 in
theorem spec_l1Has.calls (k : Nat) (A0 : Option Addr) (c0 : Nat) (l0 : List Int) (a1 : Int) (r : Bool) (w : World) (hr0 : Kd.C (Kd.int .i64) w A0 l0.length l0) (hc0 : l0.length ≤ c0) (h : spec_l1Has.f k l0 a1 = some r) :
  Calls Tryz.prog 61 #[.slice A0 l0.length c0, .int .i64 a1] w fun e w' => e = .returned (.bool r) ∧ ql w w' := by
 have HR0 := qb.mk hr0
 have HC0 := qb.mk hc0
 clear hr0 hc0
 have H := h; clear h; unfold spec_l1Has.f at H
 have H' := qb.mk H
 clear H
 go_enter Tryz.func61, Tryz.ntmps61
 go_wp2
 go_loopg [9] k (fun kq v9 w' => ∃ (x9_1 : Int), v9 = .int .i64 x9_1 ∧ qb (spec_l1Has.l0 kq a1 l0 (l0.length : Int) x9_1 = some r) ∧ qb (kq ≤ k) ∧ ql w w')
 case atStart => exact ⟨(0), es_, H', ⟨Nat.le_refl _⟩, a0_⟩
 case round =>
  clear H'
  obtain ⟨x9_1, rfl, HA, HK1, ⟨m1, rfl⟩⟩ := hrel
  cases gk with
  | zero => exact absurd HA.out (by simp [spec_l1Has.l0])
  | succ k1 =>
   have H := HA.out
   clear HA
   simp only [spec_l1Has.l0] at H
   replace H := iD_ H; obtain ⟨c3b0, H⟩ | ⟨c3b0, H⟩ := H
   ·replace H := iD_ H; obtain ⟨c4b0, H⟩ | ⟨c4b0, H⟩ := H
    ·replace H := iD_ H; obtain ⟨c5b0, H⟩ | ⟨c5b0, H⟩ := H
     ·replace H := iE_ H; obtain ⟨c6b0, c6b1, H⟩ | ⟨c6, c6b0, c6b1, H⟩ := H
      ·obtain rfl := Option.some.inj H
       have p386 : 0 ≤ (x9_1 : Int) := od_
       have q386 : x9_1 < (l0.length : Int) := od_
       obtain ⟨ad386, e386, hx386_0⟩ := Kd.zi HR0.out x9_1 p386 q386
       cases e386
       replace p386 := eq_true p386
       replace q386 := eq_true q386
       exact lb_
      ·have H' := qb.mk H
       clear H
       have p386 : 0 ≤ (x9_1 : Int) := od_
       have q386 : x9_1 < (l0.length : Int) := od_
       obtain ⟨ad386, e386, hx386_0⟩ := Kd.zi HR0.out x9_1 p386 q386
       cases e386
       replace p386 := eq_true p386
       replace q386 := eq_true q386
       exact lV_
     ·cases H
    ·cases H
   ·exact lT_
end Go.Proofs.YtpopeedfgenebaaGreat.PFnPostDelivers
