/- Cut by wip/cut.py out of the texts of this claim (printed by the kit's printer, or this session's own): what the row's theorem does not reach is struck. Not trusted: Lean checks it. -/
import Derived.Test.YtpedofomfhmnfaaZFnExactMeetingCornerPx0
import Derived.Test.YtpedofomfhmnfaaZFnExactMeetingCornerPx3
namespace Go.Proofs.Ytpedofomfhmnfaa.PFnExactMeetingCorner
open Go.RowKit Go.Proofs.YtpedofomfhmnfaaW.PrintWords Go.Proofs.YtpedofomfhmnfaaW.PrintLast Go.Proofs.YtpedofomfhmnfaaW.PrintMore
attribute [local go_sem] max2_int min2_int max_two min_two max_three min_three max_four min_four
set_option linter.unusedVariables false
set_option linter.unusedSimpArgs false
def spec_avCorner.good (a0_0 a0_1 : Int) (l : List Int) : Bool := decide (l.length = 2) && (decide (0 ≤ rd l 0 ∧ rd l 0 ≤ wrap64 (a0_0 - 1)) && decide (0 ≤ rd l 1 ∧ rd l 1 ≤ wrap64 (a0_1 - 1)))
def spec_avCorner.f (a0_0 a0_1 : Int) (l0_2 : List S58) (l1 : List Int) : Option Bool := some (spec_avCorner.good a0_0 a0_1 l1)
theorem spec_avCorner.within_f (a b c : Int) : spec_l1In.f a b c = some (decide (b ≤ a ∧ a ≤ c)) := by
 unfold spec_l1In.f
 by_cases h : a ≥ b
 ·rw [if_pos h]
  have : b ≤ a := h
  simp [this]
 ·rw [if_neg h]
  have : ¬ b ≤ a := h
  simp [this]
theorem spec_avCorner.within_t {a b c : Int} (h : b ≤ a ∧ a ≤ c) (w : World) (n : Nat) : Calls Try.prog 59 #[.int .i64 a, .int .i64 b, .int .i64 c] (w.drewN n) fun e w' => e = .returned (.bool true) ∧ ∃ m, w' = w.drewN m := by
 refine Calls.quiet_of ((spec_l1In.calls a b c true _ (by rw [spec_avCorner.within_f, decide_eq_true h])).mono ?_)
 rintro e w' ⟨he, hd⟩
 exact ⟨he, hd.out⟩
theorem spec_avCorner.within_n {a b c : Int} (h : ¬ (b ≤ a ∧ a ≤ c)) (w : World) (n : Nat) : Calls Try.prog 59 #[.int .i64 a, .int .i64 b, .int .i64 c] (w.drewN n) fun e w' => e = .returned (.bool false) ∧ ∃ m, w' = w.drewN m := by
 refine Calls.quiet_of ((spec_l1In.calls a b c false _ (by rw [spec_avCorner.within_f, decide_eq_false h])).mono ?_)
 rintro e w' ⟨he, hd⟩
 exact ⟨he, hd.out⟩
set_option maxHeartbeats 2000000 in
set_option maxRecDepth 100000 in
theorem spec_avCorner.in_ (a0_0 a0_1 : Int) (V : Value) (A : Option Addr) (c1 : Nat) (l : List Int) (w : World) (hr : Kd.C (Kd.int .i64) w A l.length l) :
  Calls Try.prog 60 #[.agg #[.int .i64 a0_0, .int .i64 a0_1, V], .slice A l.length c1] w fun e w' => e = .returned (.bool (spec_avCorner.good a0_0 a0_1 l)) ∧ Below w.heap.size w w' := by
 have hu := Try.underlying31
 obtain ⟨W, hW⟩ : ∃ W, W = w.alloc (.cells #[.int .i64 a0_0, .int .i64 a0_1, V] 31) := ⟨_, rfl⟩
 have HB := Lib.hid (show Below w.heap.size w W by rw [hW]; exact below_alloc (Below.refl _ _) _)
 have hB : W.heap[w.heap.size]? = some (.cells #[.int .i64 a0_0, .int .i64 a0_1, V] 31 (0, 0)) := by rw [hW]; exact blk_new w _
 have hcz0 : W.cell? ⟨w.heap.size, 0, none⟩ = some (.int .i64 a0_0) := (blk_cell hB 0).trans rfl
 have hcz1 : W.cell? ⟨w.heap.size, 1, none⟩ = some (.int .i64 a0_1) := (blk_cell hB 1).trans rfl
 replace hr := Kd.C_below hr (show Below w.heap.size w W by rw [hW]; exact below_alloc (Below.refl _ _) _)
 clear hB
 obtain ⟨m0, hm0⟩ : ∃ m0, IntKind.i64.wrap (a0_0 - 1) = m0 := ⟨_, rfl⟩
 obtain ⟨m1, hm1⟩ : ∃ m1, IntKind.i64.wrap (a0_1 - 1) = m1 := ⟨_, rfl⟩
 have HM0 : wrap64 (a0_0 - 1) = m0 := (IntWalk.i64_left _).symm.trans hm0
 have HM1 : wrap64 (a0_1 - 1) = m1 := (IntWalk.i64_left _).symm.trans hm1
 unfold spec_avCorner.good
 rw [HM0, HM1]
 clear HM0 HM1
 by_cases h2 : l.length = 2
 ·match l, h2 with
  | [x, y], _ =>
  obtain ⟨ad, rfl, hx⟩ := Kd.at_int hr 0 (by simp) (by simp)
  obtain ⟨ad', e', hy⟩ := Kd.at_int hr 1 (by simp) (by simp)
  obtain rfl := Option.some.inj e'
  have hx0 : W.cell? ad = some (.int .i64 x) := by have h0 : W.cell? (ad.add 0) = some (.int .i64 x) := hx; rwa [show ad.add 0 = ad by simp [Addr.add]] at h0
  clear hx
  have hy1 : W.cell? ⟨ad.block, ad.off + 1, none⟩ = some (.int .i64 y) := by have h0 : W.cell? (ad.add 1) = some (.int .i64 y) := hy; rwa [show ad.add 1 = ⟨ad.block, ad.off + 1, none⟩ by simp [Addr.add]] at h0
  clear hy
  show Calls Try.prog 60 #[.agg #[.int .i64 a0_0, .int .i64 a0_1, V], .slice (some ad) 2 c1] w fun e w' => e = .returned (.bool (true && (decide (0 ≤ x ∧ x ≤ m0) && decide (0 ≤ y ∧ y ≤ m1)))) ∧ Below w.heap.size w w'
  clear e' hr
  by_cases h1 : 0 ≤ x ∧ x ≤ m0
  ·rw [decide_eq_true h1]
   have H1 := Lib.hid h1
   clear h1
   by_cases h3 : 0 ≤ y ∧ y ≤ m1
   ·rw [decide_eq_true h3]
    have H3 := Lib.hid h3
    clear h3
    go_enter Try.func60, Try.ntmps60
    go_wp2
    rw [← hW]
    clear hW
    go_quiet (((first | (go_at_call 59; (with_reducible exact spec_avCorner.within_t H1.out W _)) | (go_at_call 59; (with_reducible exact spec_avCorner.within_t H3.out W _)))))
    go_wp2
    go_ret
    exact ⟨rfl, pw_below_drewN HB.out _⟩
   ·rw [decide_eq_false h3]
    have H3 := Lib.hid h3
    clear h3
    go_enter Try.func60, Try.ntmps60
    go_wp2
    rw [← hW]
    clear hW
    go_quiet (((first | (go_at_call 59; (with_reducible exact spec_avCorner.within_t H1.out W _)) | (go_at_call 59; (with_reducible exact spec_avCorner.within_n H3.out W _)))))
    go_wp2
    go_ret
    exact ⟨rfl, pw_below_drewN HB.out _⟩
  ·rw [decide_eq_false h1]
   have H1 := Lib.hid h1
   clear h1
   go_enter Try.func60, Try.ntmps60
   go_wp2
   rw [← hW]
   clear hW
   go_quiet (((go_at_call 59; (with_reducible exact spec_avCorner.within_n H1.out W _))))
   go_wp2
   go_ret
   exact ⟨rfl, pw_below_drewN HB.out _⟩
 ·rw [decide_eq_false h2]
  have h2' : ¬ (l.length : Int) = 2 := by omega
  have h3 : ((l.length : Int) == 2) = false := by rw [beq_eq_false_iff_ne]; exact h2'
  clear h2 h2' hr
  go_enter Try.func60, Try.ntmps60
  go_wp2
  rw [← hW]
  clear hW
  go_quiet ((fail))
  go_wp2
  go_ret
  exact ⟨rfl, pw_below_drewN HB.out _⟩
theorem spec_avCorner.calls (a0_0 : Int) (a0_1 : Int) (A0_2 : Option Addr) (c0_2 : Nat) (l0_2 : List S58) (A1 : Option Addr) (c1 : Nat) (l1 : List Int) (r : Bool) (w : World) (hr0_2 : Kd.C k58 w A0_2 l0_2.length l0_2) (hc0_2 : l0_2.length ≤ c0_2) (hr1 : Kd.C (Kd.int .i64) w A1 l1.length l1) (hc1 : l1.length ≤ c1) (h : spec_avCorner.f a0_0 a0_1 l0_2 l1 = some r) :
  Calls Try.prog 60 #[.agg #[.int .i64 a0_0, .int .i64 a0_1, .slice A0_2 l0_2.length c0_2], .slice A1 l1.length c1] w fun e w' => e = .returned (.bool r) ∧ Below w.heap.size w w' := by
 obtain rfl := Option.some.inj h
 exact spec_avCorner.in_ a0_0 a0_1 _ A1 c1 l1 w hr1
end Go.Proofs.Ytpedofomfhmnfaa.PFnExactMeetingCorner
