/- Printed by a program of this session (wip/xprint.py) over the kit's printer. Not trusted: Lean checks it. -/
import Derived.Test.YtpopeedfgenebaaPFnExactDeliveriesOfx0
import Derived.Test.YtpopeedfgenebaaPFnExactDeliveriesOfx2
namespace Go.Proofs.Ytpopeedfgenebaa.PFnExactDeliveriesOf
open Go.RowKit Go.Proofs.YtpopeedfgenebaaW.PrintWords Go.Proofs.YtpopeedfgenebaaW.PrintLast Go.Proofs.YtpopeedfgenebaaW.PrintMore
attribute [local go_sem] max2_int min2_int max_two min_two max_three min_three max_four min_four   -- for this text's walks alone
set_option linter.unusedVariables false
set_option linter.unusedSimpArgs false

/-! ### impl_increasing: function 26 -/
def impl_increasing.l0 : Nat → List Int → Int → Option (Bool)
  | 0, _, _ => none
  | k + 1, x0, x3 => if x3 < (x0.length : Int) then (if 0 ≤ (wrap64 (x3 - 1)) then (if (wrap64 (x3 - 1)) < (x0.length : Int) then (if 0 ≤ x3 then (if (rd x0 (wrap64 (x3 - 1))) ≥ (rd x0 x3) then (some false) else (impl_increasing.l0 k x0 (wrap64 (x3 + 1)))) else (none)) else (none)) else (none)) else (some true)
def impl_increasing.f (k : Nat) (l0 : List Int) : Option (Bool) := impl_increasing.l0 k l0 1
theorem impl_increasing.mono_l : ∀ k, (∀ y0 y1, LeO (impl_increasing.l0 k y0 y1) (impl_increasing.l0 (k + 1) y0 y1))
  | 0 => fun _ _ r h => by simp [impl_increasing.l0] at h
  | k + 1 => by
    have ih0 := impl_increasing.mono_l k
    · intro y0 y1
      unfold impl_increasing.l0
      repeat' first
      | (with_reducible exact ih0 _ _)
      | (with_reducible exact LeO.refl _)
      | (with_reducible exact LeO.none _)
      | (with_reducible refine LeO.ite ?_ ?_)
      | (with_reducible refine LeO.bind ?_ (fun _ => ?_))
      | exact ih0 _ _
      | exact LeO.none _
      | refine LeO.ite ?_ ?_
      | refine LeO.bind ?_ (fun _ => ?_)
theorem impl_increasing.mono : ∀ a0 k, LeO (impl_increasing.f k a0) (impl_increasing.f (k + 1) a0) := by
  intro a0 k
  have ih0 := impl_increasing.mono_l k
  unfold impl_increasing.f
  repeat' first
      | (with_reducible exact ih0 _ _)
      | (with_reducible exact LeO.refl _)
      | (with_reducible exact LeO.none _)
      | (with_reducible refine LeO.ite ?_ ?_)
      | (with_reducible refine LeO.bind ?_ (fun _ => ?_))
      | exact ih0 _ _
      | exact LeO.none _
      | refine LeO.ite ?_ ?_
      | refine LeO.bind ?_ (fun _ => ?_)
set_option maxHeartbeats 8000000 in
set_option maxRecDepth 100000 in
theorem impl_increasing.calls (k : Nat) (A0 : Option Addr) (c0 : Nat) (l0 : List Int) (r : Bool) (w : World) (hr0 : Kd.C (Kd.int .i64) w A0 l0.length l0) (hc0 : l0.length ≤ c0) (h : impl_increasing.f k l0 = some r) :
    Calls Try.prog 26 #[.slice A0 l0.length c0] w fun e w' => e = .returned (.bool r) ∧ Drawn0 w w' := by
  have HR0 := Aside0.mk hr0
  have HC0 := Aside0.mk hc0
  clear hr0 hc0
  have H : (impl_increasing.l0 k l0 1) = some r := h
  clear h
  have H' := Aside0.mk H
  clear H
  go_enter Try.func26, Try.ntmps26
  go_wp2
  repeat (go_quiet (fail); try go_wp2)
  go_loopg [3] k (fun kq v3 w' => ∃ (x3_1 : Int), v3 = .int .i64 x3_1 ∧ Aside0 (impl_increasing.l0 kq l0 x3_1 = some r) ∧ Aside0 (kq ≤ k) ∧ Drawn0 w w')
  case atStart => exact ⟨(1), (by first | rfl | (simp; done) | (simp [*]; done)), H', ⟨Nat.le_refl _⟩, by repeat (first | exact Drawn0.refl _ | apply Drawn0.step)⟩
  case round =>
    clear H'
    obtain ⟨x3_1, rfl, HA, HK1, ⟨m1, rfl⟩⟩ := hrel
    cases gk with
    | zero => exact absurd HA.out (by simp [impl_increasing.l0])
    | succ k1 =>
      have H := HA.out
      clear HA
      simp only [impl_increasing.l0] at H
      by_cases c2 : x3_1 < (l0.length : Int)
      · rw [if_pos c2] at H
        have c2b0 : decide (x3_1 < (l0.length : Int)) = true := decide_eq_true c2
        clear c2
        obtain ⟨ji3, hji3⟩ : ∃ j_ : Int, (wrap64 (x3_1 - 1)) = j_ := ⟨_, rfl⟩
        replace H : (if 0 ≤ (ji3) then (if (ji3) < (l0.length : Int) then (if 0 ≤ x3_1 then (if (rd l0 (ji3)) ≥ (rd l0 x3_1) then (some false) else (impl_increasing.l0 k1 l0 (wrap64 (x3_1 + 1)))) else (none)) else (none)) else (none)) = some r := by first | (rw [hji3] at H; exact H) | (simp only [hji3] at H ⊢; exact H)
        have hji3w : (IntKind.i64.wrap (x3_1 - 1)) = ji3 := (i64_w _).trans hji3
        by_cases c4 : 0 ≤ (ji3)
        · rw [if_pos c4] at H
          have c4b0 : decide (0 ≤ (ji3)) = true := decide_eq_true c4
          clear c4
          by_cases c5 : (ji3) < (l0.length : Int)
          · rw [if_pos c5] at H
            have c5b0 : decide ((ji3) < (l0.length : Int)) = true := decide_eq_true c5
            clear c5
            by_cases c6 : 0 ≤ x3_1
            · rw [if_pos c6] at H
              have c6b0 : decide (0 ≤ x3_1) = true := decide_eq_true c6
              clear c6
              by_cases c7 : (rd l0 (ji3)) ≥ (rd l0 x3_1)
              · rw [if_pos c7] at H
                have c7b0 : decide ((rd l0 x3_1) ≤ (rd l0 (ji3))) = true := decide_eq_true c7
                clear c7
                obtain rfl := Option.some.inj H
                have p131 : 0 ≤ ((ji3) : Int) := of_decide_eq_true (by first | (with_reducible assumption) | assumption)
                have q131 : (ji3) < (l0.length : Int) := of_decide_eq_true (by first | (with_reducible assumption) | assumption)
                obtain ⟨ad131, e131, hx131_0⟩ := Kd.at_int HR0.out (ji3) p131 q131
                cases e131
                replace p131 := eq_true p131
                replace q131 := eq_true q131
                have p132 : 0 ≤ (x3_1 : Int) := of_decide_eq_true (by first | (with_reducible assumption) | assumption)
                have q132 : x3_1 < (l0.length : Int) := of_decide_eq_true (by first | (with_reducible assumption) | assumption)
                obtain ⟨ad132, e132, hx132_0⟩ := Kd.at_int HR0.out x3_1 p132 q132
                obtain rfl : ad131 = ad132 := (by injection e132)
                replace p132 := eq_true p132
                replace q132 := eq_true q132
                go_wp2
                repeat (go_quiet (fail); try go_wp2)
                go_ret
                exact ⟨by first | rfl | (simp; done) | (simp only [← hji3] <;> (first | rfl | simp)) | (simp [*]; done), by repeat (first | exact Drawn0.refl _ | apply Drawn0.step)⟩
              · rw [if_neg c7] at H
                have c7b0 : decide ((rd l0 x3_1) ≤ (rd l0 (ji3))) = false := decide_eq_false c7
                clear c7
                have H' := Aside0.mk H
                clear H
                have p131 : 0 ≤ ((ji3) : Int) := of_decide_eq_true (by first | (with_reducible assumption) | assumption)
                have q131 : (ji3) < (l0.length : Int) := of_decide_eq_true (by first | (with_reducible assumption) | assumption)
                obtain ⟨ad131, e131, hx131_0⟩ := Kd.at_int HR0.out (ji3) p131 q131
                cases e131
                replace p131 := eq_true p131
                replace q131 := eq_true q131
                have p132 : 0 ≤ (x3_1 : Int) := of_decide_eq_true (by first | (with_reducible assumption) | assumption)
                have q132 : x3_1 < (l0.length : Int) := of_decide_eq_true (by first | (with_reducible assumption) | assumption)
                obtain ⟨ad132, e132, hx132_0⟩ := Kd.at_int HR0.out x3_1 p132 q132
                obtain rfl : ad131 = ad132 := (by injection e132)
                replace p132 := eq_true p132
                replace q132 := eq_true q132
                go_wp2
                repeat (go_quiet (fail); try go_wp2)
                go_roundg k1
                case measure => have := HK1.out; omega
                case rel => exact ⟨(wrap64 (x3_1 + 1)), (by first | rfl | (simp; done) | (simp [*]; done)), H', ⟨by have := HK1.out; omega⟩, by repeat (first | exact Drawn0.refl _ | apply Drawn0.step)⟩
            · rw [if_neg c6] at H
              exact absurd H (by simp)
          · rw [if_neg c5] at H
            exact absurd H (by simp)
        · rw [if_neg c4] at H
          exact absurd H (by simp)
      · rw [if_neg c2] at H
        have c2b0 : decide (x3_1 < (l0.length : Int)) = false := decide_eq_false c2
        clear c2
        obtain rfl := Option.some.inj H
        go_wp2
        repeat (go_quiet (fail); try go_wp2)
        go_ret
        exact ⟨by first | rfl | (simp; done) | (simp [*]; done), by repeat (first | exact Drawn0.refl _ | apply Drawn0.step)⟩

/-! ### impl_allWithin: function 27 -/
def impl_allWithin.l0 : Nat → Int → Int → List Int → Int → Int → Option (Bool)
  | 0, _, _, _, _, _ => none
  | k + 1, x1, x2, x9, x10, x11 => if x11 < x10 then (if 0 ≤ x11 then (if x11 < (x9.length : Int) then ((impl_within.f (rd x9 x11) x1 x2).bind fun t134 => (if t134 = true then (impl_allWithin.l0 k x1 x2 x9 x10 (wrap64 (x11 + 1))) else (some false))) else (none)) else (none)) else (some true)
def impl_allWithin.f (k : Nat) (l0 : List Int) (a1 : Int) (a2 : Int) : Option (Bool) := impl_allWithin.l0 k a1 a2 l0 (l0.length : Int) 0
theorem impl_allWithin.mono_l : ∀ k, (∀ y0 y1 y2 y3 y4, LeO (impl_allWithin.l0 k y0 y1 y2 y3 y4) (impl_allWithin.l0 (k + 1) y0 y1 y2 y3 y4))
  | 0 => fun _ _ _ _ _ r h => by simp [impl_allWithin.l0] at h
  | k + 1 => by
    have ih0 := impl_allWithin.mono_l k
    · intro y0 y1 y2 y3 y4
      unfold impl_allWithin.l0
      repeat' first
      | (with_reducible exact ih0 _ _ _ _ _)
      | (with_reducible exact LeO.refl _)
      | (with_reducible exact LeO.none _)
      | (with_reducible refine LeO.ite ?_ ?_)
      | (with_reducible refine LeO.bind ?_ (fun _ => ?_))
      | exact ih0 _ _ _ _ _
      | exact LeO.none _
      | refine LeO.ite ?_ ?_
      | refine LeO.bind ?_ (fun _ => ?_)
theorem impl_allWithin.mono : ∀ a0 a1 a2 k, LeO (impl_allWithin.f k a0 a1 a2) (impl_allWithin.f (k + 1) a0 a1 a2) := by
  intro a0 a1 a2 k
  have ih0 := impl_allWithin.mono_l k
  unfold impl_allWithin.f
  repeat' first
      | (with_reducible exact ih0 _ _ _ _ _)
      | (with_reducible exact LeO.refl _)
      | (with_reducible exact LeO.none _)
      | (with_reducible refine LeO.ite ?_ ?_)
      | (with_reducible refine LeO.bind ?_ (fun _ => ?_))
      | exact ih0 _ _ _ _ _
      | exact LeO.none _
      | refine LeO.ite ?_ ?_
      | refine LeO.bind ?_ (fun _ => ?_)
set_option maxHeartbeats 8000000 in
set_option maxRecDepth 100000 in
theorem impl_allWithin.calls (k : Nat) (A0 : Option Addr) (c0 : Nat) (l0 : List Int) (a1 : Int) (a2 : Int) (r : Bool) (w : World) (hr0 : Kd.C (Kd.int .i64) w A0 l0.length l0) (hc0 : l0.length ≤ c0) (h : impl_allWithin.f k l0 a1 a2 = some r) :
    Calls Try.prog 27 #[.slice A0 l0.length c0, .int .i64 a1, .int .i64 a2] w fun e w' => e = .returned (.bool r) ∧ Drawn0 w w' := by
  have HR0 := Aside0.mk hr0
  have HC0 := Aside0.mk hc0
  clear hr0 hc0
  have H : (impl_allWithin.l0 k a1 a2 l0 (l0.length : Int) 0) = some r := h
  clear h
  have H' := Aside0.mk H
  clear H
  go_enter Try.func27, Try.ntmps27
  go_wp2
  go_loopg [11] k (fun kq v11 w' => ∃ (x11_1 : Int), v11 = .int .i64 x11_1 ∧ Aside0 (impl_allWithin.l0 kq a1 a2 l0 (l0.length : Int) x11_1 = some r) ∧ Aside0 (kq ≤ k) ∧ Drawn0 w w')
  case atStart => exact ⟨(0), (by first | rfl | (simp; done) | (simp [*]; done)), H', ⟨Nat.le_refl _⟩, by repeat (first | exact Drawn0.refl _ | apply Drawn0.step)⟩
  case round =>
    clear H'
    try clear c2
    try clear p2
    obtain ⟨x11_1, rfl, HA, HK1, ⟨m1, rfl⟩⟩ := hrel
    cases gk with
    | zero => exact absurd HA.out (by simp [impl_allWithin.l0])
    | succ k1 =>
      have H := HA.out
      clear HA
      simp only [impl_allWithin.l0] at H
      by_cases c4 : x11_1 < (l0.length : Int)
      · rw [if_pos c4] at H
        have c4b0 : decide (x11_1 < (l0.length : Int)) = true := decide_eq_true c4
        clear c4
        by_cases c5 : 0 ≤ x11_1
        · rw [if_pos c5] at H
          have c5b0 : decide (0 ≤ x11_1) = true := decide_eq_true c5
          clear c5
          by_cases c6 : x11_1 < (l0.length : Int)
          · rw [if_pos c6] at H
            have c6b0 : decide (x11_1 < (l0.length : Int)) = true := decide_eq_true c6
            clear c6
            replace H := Option.bind_eq_some_iff.mp H
            obtain ⟨t134, A70, H⟩ := H
            replace H : (if t134 = true then (impl_allWithin.l0 k1 a1 a2 l0 (l0.length : Int) (wrap64 (x11_1 + 1))) else (some false)) = some r := H
            have A7 := Aside0.mk A70
            clear A70
            by_cases c8 : t134 = true
            · subst c8
              have H1 : (impl_allWithin.l0 k1 a1 a2 l0 (l0.length : Int) (wrap64 (x11_1 + 1))) = some r := by rw [if_pos rfl] at H; exact H
              clear H
              have H := H1
              clear H1
              have H' := Aside0.mk H
              clear H
              have p133 : 0 ≤ (x11_1 : Int) := of_decide_eq_true (by first | (with_reducible assumption) | assumption)
              have q133 : x11_1 < (l0.length : Int) := of_decide_eq_true (by first | (with_reducible assumption) | assumption)
              obtain ⟨ad133, e133, hx133_0⟩ := Kd.at_int HR0.out x11_1 p133 q133
              cases e133
              replace p133 := eq_true p133
              replace q133 := eq_true q133
              go_wp2_with (first | ((with_reducible refine gate_callee (f := 38) rfl ?_); refine goesL_ (some 18) rfl rfl Try.func38 (by kernel_rfl) rfl #[.int .i64 (rd l0 x11_1), .int .i64 a1, .int .i64 a2] rfl (by (try simp only [List.map_toArray, List.map_cons, List.map_nil]); first | done | rfl | (simp only [List.length_drop, List.length_take]; rfl)) ?_; (with_reducible refine (impl_within.calls (rd l0 x11_1) a1 a2 true _ A7.out).mono ?_); rintro e w' ⟨rfl, ⟨nd, rfl⟩⟩; refine ⟨_, rfl, ?_⟩))
              go_roundg k1
              case measure => have := HK1.out; omega
              case rel => exact ⟨(wrap64 (x11_1 + 1)), (by first | rfl | (simp; done) | (simp [*]; done)), H', ⟨by have := HK1.out; omega⟩, by repeat (first | exact Drawn0.refl _ | apply Drawn0.step)⟩
            · replace c8 := Bool.eq_false_iff.mpr c8
              subst c8
              have H1 : (some false) = some r := by rw [if_neg (show ¬ (false = true) by decide)] at H; exact H
              clear H
              have H := H1
              clear H1
              obtain rfl := Option.some.inj H
              have p133 : 0 ≤ (x11_1 : Int) := of_decide_eq_true (by first | (with_reducible assumption) | assumption)
              have q133 : x11_1 < (l0.length : Int) := of_decide_eq_true (by first | (with_reducible assumption) | assumption)
              obtain ⟨ad133, e133, hx133_0⟩ := Kd.at_int HR0.out x11_1 p133 q133
              cases e133
              replace p133 := eq_true p133
              replace q133 := eq_true q133
              go_wp2_with (first | ((with_reducible refine gate_callee (f := 38) rfl ?_); refine goesL_ (some 18) rfl rfl Try.func38 (by kernel_rfl) rfl #[.int .i64 (rd l0 x11_1), .int .i64 a1, .int .i64 a2] rfl (by (try simp only [List.map_toArray, List.map_cons, List.map_nil]); first | done | rfl | (simp only [List.length_drop, List.length_take]; rfl)) ?_; (with_reducible refine (impl_within.calls (rd l0 x11_1) a1 a2 false _ A7.out).mono ?_); rintro e w' ⟨rfl, ⟨nd, rfl⟩⟩; refine ⟨_, rfl, ?_⟩))
              go_ret
              exact ⟨by first | rfl | (simp; done) | (simp [*]; done), by repeat (first | exact Drawn0.refl _ | apply Drawn0.step)⟩
          · rw [if_neg c6] at H
            exact absurd H (by simp)
        · rw [if_neg c5] at H
          exact absurd H (by simp)
      · rw [if_neg c4] at H
        have c4b0 : decide (x11_1 < (l0.length : Int)) = false := decide_eq_false c4
        clear c4
        obtain rfl := Option.some.inj H
        go_wp2
        go_ret
        exact ⟨by first | rfl | (simp; done) | (simp [*]; done), by repeat (first | exact Drawn0.refl _ | apply Drawn0.step)⟩

/-! ### impl_housesOf: function 28 -/
def impl_housesOf.f (a0_0 : Int) (a0_1 : Int) : Option (Int) := if a0_0 = 0 then (some a0_1) else (some (wrap64 (2 * a0_1)))
set_option maxHeartbeats 8000000 in
set_option maxRecDepth 100000 in
theorem impl_housesOf.calls (a0_0 : Int) (a0_1 : Int) (r : Int) (w : World) (h : impl_housesOf.f a0_0 a0_1 = some r) :
    Calls Try.prog 28 #[.agg #[.int .i64 a0_0, .int .i64 a0_1]] w fun e w' => e = .returned (.int .i64 r) ∧ Below w.heap.size w w' := by
  have hu27 := Try.underlying27
  have HB := Aside0.mk (Below.refl w.heap.size w)
  have H : (if a0_0 = 0 then (some a0_1) else (some (wrap64 (2 * a0_1)))) = some r := h
  clear h
  by_cases c2 : a0_0 = 0
  · rw [if_pos c2] at H
    have c2b0 : (a0_0 == 0) = true := beq_iff_eq.mpr c2
    have c2b1 : (a0_0 != 0) = false := bne_eq_false_iff_eq.mpr c2
    clear c2
    obtain rfl := Option.some.inj H
    go_enter Try.func28, Try.ntmps28
    go_wp2_with (first | ((with_reducible refine gate_dst (N := 1) rfl ?_); refine box_event ?hg (N := 1) ?hd (cs := #[.int .i64 a0_0, .int .i64 a0_1]) (t := 27) ?hr ?_; (case hd => rfl); (case hg => rfl); (case hr => first | (go_simp; done) | (go_simp; rfl)); intro gb135 hg w3 hbox hb; have n0_ := Aside0.mk (below_step (by repeat (first | (with_reducible first | exact HB.out | apply below_alloc | apply pw_below_drewN | apply below_drew1) | exact HB.out)) hb); have n1_ := Aside0.mk (hbox); have n2_ := Aside0.mk ((by rw [hg]; exact (below_size (by repeat (first | (with_reducible first | exact HB.out | apply below_alloc | apply pw_below_drewN | apply below_drew1) | exact HB.out))) : w.heap.size ≤ gb135)); have n3_ := Aside0.mk ((by rw [hg]; exact (below_size (by repeat (first | (with_reducible first | exact HB.out | apply below_alloc | apply pw_below_drewN | apply below_drew1) | exact HB.out))) : w.heap.size ≤ gb135)); clear HB; have HB := n0_; have BK135 := n1_; have GW135 := n2_; have GE135 := n3_; clear n0_ n1_ n2_ n3_; clear hb hbox hg; have hcz4_0 : w3.cell? ⟨gb135, 0, none⟩ = some (.int .i64 a0_0) := (blk_cell BK135.out 0).trans rfl; have hcz4_1 : w3.cell? ⟨gb135, 1, none⟩ = some (.int .i64 a0_1) := (blk_cell BK135.out 1).trans rfl; have hfz4_0 := blk_frozen BK135.out 0; have hfz4_1 := blk_frozen BK135.out 1))
    go_ret
    exact ⟨by first | rfl | (simp [errW_none, errW_some] <;> rfl) | (simp [*, errW_none, errW_some] <;> rfl), by repeat (first | (with_reducible first | exact HB.out | apply below_alloc | apply pw_below_drewN | apply below_drew1 | refine below_set ?_ GE135.out) | exact HB.out)⟩
  · rw [if_neg c2] at H
    have c2b0 : (a0_0 == 0) = false := beq_eq_false_iff_ne.mpr c2
    have c2b1 : (a0_0 != 0) = true := bne_iff_ne.mpr c2
    obtain rfl := Option.some.inj H
    go_enter Try.func28, Try.ntmps28
    go_wp2_with (first | ((with_reducible refine gate_dst (N := 1) rfl ?_); refine box_event ?hg (N := 1) ?hd (cs := #[.int .i64 a0_0, .int .i64 a0_1]) (t := 27) ?hr ?_; (case hd => rfl); (case hg => rfl); (case hr => first | (go_simp; done) | (go_simp; rfl)); intro gb135 hg w5 hbox hb; have n0_ := Aside0.mk (below_step (by repeat (first | (with_reducible first | exact HB.out | apply below_alloc | apply pw_below_drewN | apply below_drew1) | exact HB.out)) hb); have n1_ := Aside0.mk (hbox); have n2_ := Aside0.mk ((by rw [hg]; exact (below_size (by repeat (first | (with_reducible first | exact HB.out | apply below_alloc | apply pw_below_drewN | apply below_drew1) | exact HB.out))) : w.heap.size ≤ gb135)); have n3_ := Aside0.mk ((by rw [hg]; exact (below_size (by repeat (first | (with_reducible first | exact HB.out | apply below_alloc | apply pw_below_drewN | apply below_drew1) | exact HB.out))) : w.heap.size ≤ gb135)); clear HB; have HB := n0_; have BK135 := n1_; have GW135 := n2_; have GE135 := n3_; clear n0_ n1_ n2_ n3_; clear hb hbox hg; have hcz6_0 : w5.cell? ⟨gb135, 0, none⟩ = some (.int .i64 a0_0) := (blk_cell BK135.out 0).trans rfl; have hcz6_1 : w5.cell? ⟨gb135, 1, none⟩ = some (.int .i64 a0_1) := (blk_cell BK135.out 1).trans rfl; have hfz6_0 := blk_frozen BK135.out 0; have hfz6_1 := blk_frozen BK135.out 1))
    go_ret
    exact ⟨by first | rfl | (simp [errW_none, errW_some] <;> rfl) | (simp [*, errW_none, errW_some] <;> rfl), by repeat (first | (with_reducible first | exact HB.out | apply below_alloc | apply pw_below_drewN | apply below_drew1 | refine below_set ?_ GE135.out) | exact HB.out)⟩

/-! ### strings_Repeat: function 29 -/
/-! strings.Repeat, by the shelf. -/
def strings_Repeat.lay_ren : Go.Shelf.Ren := ⟨fun n => match n with | 105 => 29 | 212 => 39 | 99 => 40 | 165 => 41 | 166 => 42 | 170 => 43 | 169 => 44 | 263 => 58 | 264 => 59 | 206 => 60 | 240 => 61 | 241 => 62 | 276 => 74 | 277 => 75 | n => n, fun n => match n with | 9 => 9 | 3 => 3 | 4 => 4 | 20 => 20 | 0 => 0 | 46 => 56 | 109 => 58 | 5 => 5 | 72 => 62 | 76 => 66 | 51 => 81 | 146 => 84 | 53 => 83 | 148 => 86 | 70 => 60 | 37 => 47 | 75 => 65 | 127 => 88 | 164 => 102 | 80 => 69 | n => n, fun n => n⟩
theorem strings_Repeat.lay : Go.Proofs.Lays.n105 Try.prog strings_Repeat.lay_ren := {
  mixed := by kernel_rfl
  f99 := Try.func40.trans (congrArg some (by kernel_rfl))
  f105 := Try.func29.trans (congrArg some (by kernel_rfl))
  f165 := Try.func41.trans (congrArg some (by kernel_rfl))
  f166 := Try.func42.trans (congrArg some (by kernel_rfl))
  f169 := Try.func44.trans (congrArg some (by kernel_rfl))
  f170 := Try.func43.trans (congrArg some (by kernel_rfl))
  f206 := Try.func60.trans (congrArg some (by kernel_rfl))
  f212 := Try.func39.trans (congrArg some (by kernel_rfl))
  f240 := Try.func61.trans (congrArg some (by kernel_rfl))
  f241 := Try.func62.trans (congrArg some (by kernel_rfl))
  f263 := Try.func58.trans (congrArg some (by kernel_rfl))
  f264 := Try.func59.trans (congrArg some (by kernel_rfl))
  f276 := Try.func74.trans (congrArg some (by kernel_rfl))
  f277 := Try.func75.trans (congrArg some (by kernel_rfl))
  t0 := Try.underlying0
  a0 := Try.isAgg0
  z0 := Try.sizeOf0
  v0 := Try.zeroValue0
  t3 := Try.underlying3
  a3 := Try.isAgg3
  z3 := Try.sizeOf3
  v3 := Try.zeroValue3
  t4 := Try.underlying4
  a4 := Try.isAgg4
  z4 := Try.sizeOf4
  v4 := Try.zeroValue4
  t5 := Try.underlying5
  a5 := Try.isAgg5
  z5 := Try.sizeOf5
  v5 := Try.zeroValue5
  t9 := Try.underlying9
  a9 := Try.isAgg9
  z9 := Try.sizeOf9
  v9 := Try.zeroValue9
  t20 := Try.underlying20
  a20 := Try.isAgg20
  z20 := Try.sizeOf20
  v20 := Try.zeroValue20
  t37 := Try.underlying47
  a37 := Try.isAgg47
  z37 := Try.sizeOf47
  v37 := Try.zeroValue47
  t46 := Try.underlying56
  a46 := Try.isAgg56
  z46 := Try.sizeOf56
  v46 := Try.zeroValue56
  t51 := Try.underlying81
  a51 := Try.isAgg81
  z51 := Try.sizeOf81
  v51 := Try.zeroValue81
  t53 := Try.underlying83
  a53 := Try.isAgg83
  z53 := Try.sizeOf83
  v53 := Try.zeroValue83
  t70 := Try.underlying60
  a70 := Try.isAgg60
  z70 := Try.sizeOf60
  v70 := Try.zeroValue60
  t72 := Try.underlying62
  a72 := Try.isAgg62
  z72 := Try.sizeOf62
  v72 := Try.zeroValue62
  t75 := Try.underlying65
  a75 := Try.isAgg65
  z75 := Try.sizeOf65
  v75 := Try.zeroValue65
  t76 := Try.underlying66
  a76 := Try.isAgg66
  z76 := Try.sizeOf66
  v76 := Try.zeroValue66
  t109 := Try.underlying58
  a109 := Try.isAgg58
  z109 := Try.sizeOf58
  v109 := Try.zeroValue58
  t127 := Try.underlying88
  a127 := Try.isAgg88
  z127 := Try.sizeOf88
  v127 := Try.zeroValue88
  t146 := Try.underlying84
  a146 := Try.isAgg84
  z146 := Try.sizeOf84
  v146 := Try.zeroValue84
  t148 := Try.underlying86
  a148 := Try.isAgg86
  z148 := Try.sizeOf86
  v148 := Try.zeroValue86
  t164 := Try.underlying102
  a164 := Try.isAgg102
  z164 := Try.sizeOf102
  v164 := Try.zeroValue102 }
theorem strings_Repeat.extra : Go.Proofs.Builder.Extra Try.prog strings_Repeat.lay_ren := {
  sizeBuilder := by kernel_rfl
  liesBuilder := by kernel_rfl
  t5 := Try.underlying5
  a5 := Try.isAgg5
  z5 := Try.sizeOf5
  v5 := Try.zeroValue5
  infoByte := by kernel_rfl
  cellsByte := by kernel_rfl
  sizeByte := by kernel_rfl
  neB5 := by decide }
def strings_Repeat.f (a0 : ByteArray) (a1 : Int) : Option ByteArray := if 0 ≤ a1 ∧ a1 ≤ 1048576 ∧ a0.size ≤ 1048576 then some ⟨(Go.Lib.repeatL a0.data.toList a1.toNat).toArray⟩ else none
theorem strings_Repeat.calls (a0 : ByteArray) (a1 : Int) (r : ByteArray) (w : World) (h : strings_Repeat.f a0 a1 = some r) :
    Calls Try.prog 29 #[.string a0, .int .i64 a1] w fun e w' => e = .returned (.string r) ∧ Below w.heap.size w w' := by
  unfold strings_Repeat.f at h
  by_cases hc : 0 ≤ a1 ∧ a1 ≤ 1048576 ∧ a0.size ≤ 1048576
  · rw [if_pos hc] at h
    cases Option.some.inj h
    obtain ⟨n, rfl⟩ : ∃ n : Nat, a1 = (n : Int) := ⟨a1.toNat, by omega⟩
    rw [Int.toNat_natCast]
    exact Go.Proofs.Any.strings_Repeat strings_Repeat.lay strings_Repeat.extra a0 n w (by omega) (by have := Nat.mul_le_mul hc.2.2 (show n ≤ 1048576 by omega); omega)
  · rw [if_neg hc] at h
    cases h
/-! ### impl_plotOf: function 30 -/
def impl_plotOf.f (a0_0 : Int) (a0_1 : Int) (a1 : Int) : Option (Int × Int) := if a0_0 = 1 then (some (Int.tmod (wrap64 (a1 - 1)) 2, wrap64 (Int.tdiv (wrap64 (a1 - 1)) 2))) else (if a1 > a0_1 then (some (1, wrap64 ((wrap64 (2 * a0_1)) - a1))) else (some (0, wrap64 (a1 - 1))))
set_option maxHeartbeats 8000000 in
set_option maxRecDepth 100000 in
theorem impl_plotOf.calls (a0_0 : Int) (a0_1 : Int) (a1 : Int) (r1 : Int) (r2 : Int) (w : World) (h : impl_plotOf.f a0_0 a0_1 a1 = some (r1, r2)) :
    Calls Try.prog 30 #[.agg #[.int .i64 a0_0, .int .i64 a0_1], .int .i64 a1] w fun e w' => e = .returned (.tuple #[.int .i64 r1, .int .i64 r2]) ∧ Below w.heap.size w w' := by
  have hu27 := Try.underlying27
  have HB := Aside0.mk (Below.refl w.heap.size w)
  have H : (if a0_0 = 1 then (some (Int.tmod (wrap64 (a1 - 1)) 2, wrap64 (Int.tdiv (wrap64 (a1 - 1)) 2))) else (if a1 > a0_1 then (some (1, wrap64 ((wrap64 (2 * a0_1)) - a1))) else (some (0, wrap64 (a1 - 1))))) = some (r1, r2) := h
  clear h
  by_cases c3 : a0_0 = 1
  · rw [if_pos c3] at H
    have c3b0 : (a0_0 == 1) = true := beq_iff_eq.mpr c3
    have c3b1 : (a0_0 != 1) = false := bne_eq_false_iff_eq.mpr c3
    clear c3
    simp only [Option.some.injEq, Prod.mk.injEq] at H
    obtain ⟨rfl, rfl⟩ := H
    go_enter Try.func30, Try.ntmps30
    go_wp2_with (first | ((with_reducible refine gate_dst (N := 2) rfl ?_); refine box_event ?hg (N := 2) ?hd (cs := #[.int .i64 a0_0, .int .i64 a0_1]) (t := 27) ?hr ?_; (case hd => rfl); (case hg => rfl); (case hr => first | (go_simp; done) | (go_simp; rfl)); intro gb136 hg w4 hbox hb; have n0_ := Aside0.mk (below_step (by repeat (first | (with_reducible first | exact HB.out | apply below_alloc | apply pw_below_drewN | apply below_drew1) | exact HB.out)) hb); have n1_ := Aside0.mk (hbox); have n2_ := Aside0.mk ((by rw [hg]; exact (below_size (by repeat (first | (with_reducible first | exact HB.out | apply below_alloc | apply pw_below_drewN | apply below_drew1) | exact HB.out))) : w.heap.size ≤ gb136)); have n3_ := Aside0.mk ((by rw [hg]; exact (below_size (by repeat (first | (with_reducible first | exact HB.out | apply below_alloc | apply pw_below_drewN | apply below_drew1) | exact HB.out))) : w.heap.size ≤ gb136)); clear HB; have HB := n0_; have BK136 := n1_; have GW136 := n2_; have GE136 := n3_; clear n0_ n1_ n2_ n3_; clear hb hbox hg; have hcz5_0 : w4.cell? ⟨gb136, 0, none⟩ = some (.int .i64 a0_0) := (blk_cell BK136.out 0).trans rfl; have hcz5_1 : w4.cell? ⟨gb136, 1, none⟩ = some (.int .i64 a0_1) := (blk_cell BK136.out 1).trans rfl; have hfz5_0 := blk_frozen BK136.out 0; have hfz5_1 := blk_frozen BK136.out 1))
    repeat (go_quiet (first | ((with_reducible refine gate_dst (N := 2) rfl ?_); refine box_event ?hg (N := 2) ?hd (cs := #[.int .i64 a0_0, .int .i64 a0_1]) (t := 27) ?hr ?_; (case hd => rfl); (case hg => rfl); (case hr => first | (go_simp; done) | (go_simp; rfl)); intro gb136 hg w4 hbox hb; have n0_ := Aside0.mk (below_step (by repeat (first | (with_reducible first | exact HB.out | apply below_alloc | apply pw_below_drewN | apply below_drew1) | exact HB.out)) hb); have n1_ := Aside0.mk (hbox); have n2_ := Aside0.mk ((by rw [hg]; exact (below_size (by repeat (first | (with_reducible first | exact HB.out | apply below_alloc | apply pw_below_drewN | apply below_drew1) | exact HB.out))) : w.heap.size ≤ gb136)); have n3_ := Aside0.mk ((by rw [hg]; exact (below_size (by repeat (first | (with_reducible first | exact HB.out | apply below_alloc | apply pw_below_drewN | apply below_drew1) | exact HB.out))) : w.heap.size ≤ gb136)); clear HB; have HB := n0_; have BK136 := n1_; have GW136 := n2_; have GE136 := n3_; clear n0_ n1_ n2_ n3_; clear hb hbox hg; have hcz5_0 : w4.cell? ⟨gb136, 0, none⟩ = some (.int .i64 a0_0) := (blk_cell BK136.out 0).trans rfl; have hcz5_1 : w4.cell? ⟨gb136, 1, none⟩ = some (.int .i64 a0_1) := (blk_cell BK136.out 1).trans rfl; have hfz5_0 := blk_frozen BK136.out 0; have hfz5_1 := blk_frozen BK136.out 1)); try go_wp2_with (first | ((with_reducible refine gate_dst (N := 2) rfl ?_); refine box_event ?hg (N := 2) ?hd (cs := #[.int .i64 a0_0, .int .i64 a0_1]) (t := 27) ?hr ?_; (case hd => rfl); (case hg => rfl); (case hr => first | (go_simp; done) | (go_simp; rfl)); intro gb136 hg w4 hbox hb; have n0_ := Aside0.mk (below_step (by repeat (first | (with_reducible first | exact HB.out | apply below_alloc | apply pw_below_drewN | apply below_drew1) | exact HB.out)) hb); have n1_ := Aside0.mk (hbox); have n2_ := Aside0.mk ((by rw [hg]; exact (below_size (by repeat (first | (with_reducible first | exact HB.out | apply below_alloc | apply pw_below_drewN | apply below_drew1) | exact HB.out))) : w.heap.size ≤ gb136)); have n3_ := Aside0.mk ((by rw [hg]; exact (below_size (by repeat (first | (with_reducible first | exact HB.out | apply below_alloc | apply pw_below_drewN | apply below_drew1) | exact HB.out))) : w.heap.size ≤ gb136)); clear HB; have HB := n0_; have BK136 := n1_; have GW136 := n2_; have GE136 := n3_; clear n0_ n1_ n2_ n3_; clear hb hbox hg; have hcz5_0 : w4.cell? ⟨gb136, 0, none⟩ = some (.int .i64 a0_0) := (blk_cell BK136.out 0).trans rfl; have hcz5_1 : w4.cell? ⟨gb136, 1, none⟩ = some (.int .i64 a0_1) := (blk_cell BK136.out 1).trans rfl; have hfz5_0 := blk_frozen BK136.out 0; have hfz5_1 := blk_frozen BK136.out 1)))
    go_ret2
    exact ⟨by first | rfl | (simp [errW_none, errW_some] <;> rfl) | (simp [*, errW_none, errW_some] <;> rfl), by repeat (first | (with_reducible first | exact HB.out | apply below_alloc | apply pw_below_drewN | apply below_drew1 | refine below_set ?_ GE136.out) | exact HB.out)⟩
  · rw [if_neg c3] at H
    have c3b0 : (a0_0 == 1) = false := beq_eq_false_iff_ne.mpr c3
    have c3b1 : (a0_0 != 1) = true := bne_iff_ne.mpr c3
    by_cases c6 : a1 > a0_1
    · rw [if_pos c6] at H
      have c6b0 : decide (a0_1 < a1) = true := decide_eq_true c6
      clear c6
      simp only [Option.some.injEq, Prod.mk.injEq] at H
      obtain ⟨rfl, rfl⟩ := H
      go_enter Try.func30, Try.ntmps30
      go_wp2_with (first | ((with_reducible refine gate_dst (N := 2) rfl ?_); refine box_event ?hg (N := 2) ?hd (cs := #[.int .i64 a0_0, .int .i64 a0_1]) (t := 27) ?hr ?_; (case hd => rfl); (case hg => rfl); (case hr => first | (go_simp; done) | (go_simp; rfl)); intro gb136 hg w7 hbox hb; have n0_ := Aside0.mk (below_step (by repeat (first | (with_reducible first | exact HB.out | apply below_alloc | apply pw_below_drewN | apply below_drew1) | exact HB.out)) hb); have n1_ := Aside0.mk (hbox); have n2_ := Aside0.mk ((by rw [hg]; exact (below_size (by repeat (first | (with_reducible first | exact HB.out | apply below_alloc | apply pw_below_drewN | apply below_drew1) | exact HB.out))) : w.heap.size ≤ gb136)); have n3_ := Aside0.mk ((by rw [hg]; exact (below_size (by repeat (first | (with_reducible first | exact HB.out | apply below_alloc | apply pw_below_drewN | apply below_drew1) | exact HB.out))) : w.heap.size ≤ gb136)); clear HB; have HB := n0_; have BK136 := n1_; have GW136 := n2_; have GE136 := n3_; clear n0_ n1_ n2_ n3_; clear hb hbox hg; have hcz8_0 : w7.cell? ⟨gb136, 0, none⟩ = some (.int .i64 a0_0) := (blk_cell BK136.out 0).trans rfl; have hcz8_1 : w7.cell? ⟨gb136, 1, none⟩ = some (.int .i64 a0_1) := (blk_cell BK136.out 1).trans rfl; have hfz8_0 := blk_frozen BK136.out 0; have hfz8_1 := blk_frozen BK136.out 1))
      repeat (go_quiet (first | ((with_reducible refine gate_dst (N := 2) rfl ?_); refine box_event ?hg (N := 2) ?hd (cs := #[.int .i64 a0_0, .int .i64 a0_1]) (t := 27) ?hr ?_; (case hd => rfl); (case hg => rfl); (case hr => first | (go_simp; done) | (go_simp; rfl)); intro gb136 hg w7 hbox hb; have n0_ := Aside0.mk (below_step (by repeat (first | (with_reducible first | exact HB.out | apply below_alloc | apply pw_below_drewN | apply below_drew1) | exact HB.out)) hb); have n1_ := Aside0.mk (hbox); have n2_ := Aside0.mk ((by rw [hg]; exact (below_size (by repeat (first | (with_reducible first | exact HB.out | apply below_alloc | apply pw_below_drewN | apply below_drew1) | exact HB.out))) : w.heap.size ≤ gb136)); have n3_ := Aside0.mk ((by rw [hg]; exact (below_size (by repeat (first | (with_reducible first | exact HB.out | apply below_alloc | apply pw_below_drewN | apply below_drew1) | exact HB.out))) : w.heap.size ≤ gb136)); clear HB; have HB := n0_; have BK136 := n1_; have GW136 := n2_; have GE136 := n3_; clear n0_ n1_ n2_ n3_; clear hb hbox hg; have hcz8_0 : w7.cell? ⟨gb136, 0, none⟩ = some (.int .i64 a0_0) := (blk_cell BK136.out 0).trans rfl; have hcz8_1 : w7.cell? ⟨gb136, 1, none⟩ = some (.int .i64 a0_1) := (blk_cell BK136.out 1).trans rfl; have hfz8_0 := blk_frozen BK136.out 0; have hfz8_1 := blk_frozen BK136.out 1)); try go_wp2_with (first | ((with_reducible refine gate_dst (N := 2) rfl ?_); refine box_event ?hg (N := 2) ?hd (cs := #[.int .i64 a0_0, .int .i64 a0_1]) (t := 27) ?hr ?_; (case hd => rfl); (case hg => rfl); (case hr => first | (go_simp; done) | (go_simp; rfl)); intro gb136 hg w7 hbox hb; have n0_ := Aside0.mk (below_step (by repeat (first | (with_reducible first | exact HB.out | apply below_alloc | apply pw_below_drewN | apply below_drew1) | exact HB.out)) hb); have n1_ := Aside0.mk (hbox); have n2_ := Aside0.mk ((by rw [hg]; exact (below_size (by repeat (first | (with_reducible first | exact HB.out | apply below_alloc | apply pw_below_drewN | apply below_drew1) | exact HB.out))) : w.heap.size ≤ gb136)); have n3_ := Aside0.mk ((by rw [hg]; exact (below_size (by repeat (first | (with_reducible first | exact HB.out | apply below_alloc | apply pw_below_drewN | apply below_drew1) | exact HB.out))) : w.heap.size ≤ gb136)); clear HB; have HB := n0_; have BK136 := n1_; have GW136 := n2_; have GE136 := n3_; clear n0_ n1_ n2_ n3_; clear hb hbox hg; have hcz8_0 : w7.cell? ⟨gb136, 0, none⟩ = some (.int .i64 a0_0) := (blk_cell BK136.out 0).trans rfl; have hcz8_1 : w7.cell? ⟨gb136, 1, none⟩ = some (.int .i64 a0_1) := (blk_cell BK136.out 1).trans rfl; have hfz8_0 := blk_frozen BK136.out 0; have hfz8_1 := blk_frozen BK136.out 1)))
      go_ret2
      exact ⟨by first | rfl | (simp [errW_none, errW_some] <;> rfl) | (simp [*, errW_none, errW_some] <;> rfl), by repeat (first | (with_reducible first | exact HB.out | apply below_alloc | apply pw_below_drewN | apply below_drew1 | refine below_set ?_ GE136.out) | exact HB.out)⟩
    · rw [if_neg c6] at H
      have c6b0 : decide (a0_1 < a1) = false := decide_eq_false c6
      clear c6
      simp only [Option.some.injEq, Prod.mk.injEq] at H
      obtain ⟨rfl, rfl⟩ := H
      go_enter Try.func30, Try.ntmps30
      go_wp2_with (first | ((with_reducible refine gate_dst (N := 2) rfl ?_); refine box_event ?hg (N := 2) ?hd (cs := #[.int .i64 a0_0, .int .i64 a0_1]) (t := 27) ?hr ?_; (case hd => rfl); (case hg => rfl); (case hr => first | (go_simp; done) | (go_simp; rfl)); intro gb136 hg w9 hbox hb; have n0_ := Aside0.mk (below_step (by repeat (first | (with_reducible first | exact HB.out | apply below_alloc | apply pw_below_drewN | apply below_drew1) | exact HB.out)) hb); have n1_ := Aside0.mk (hbox); have n2_ := Aside0.mk ((by rw [hg]; exact (below_size (by repeat (first | (with_reducible first | exact HB.out | apply below_alloc | apply pw_below_drewN | apply below_drew1) | exact HB.out))) : w.heap.size ≤ gb136)); have n3_ := Aside0.mk ((by rw [hg]; exact (below_size (by repeat (first | (with_reducible first | exact HB.out | apply below_alloc | apply pw_below_drewN | apply below_drew1) | exact HB.out))) : w.heap.size ≤ gb136)); clear HB; have HB := n0_; have BK136 := n1_; have GW136 := n2_; have GE136 := n3_; clear n0_ n1_ n2_ n3_; clear hb hbox hg; have hcz10_0 : w9.cell? ⟨gb136, 0, none⟩ = some (.int .i64 a0_0) := (blk_cell BK136.out 0).trans rfl; have hcz10_1 : w9.cell? ⟨gb136, 1, none⟩ = some (.int .i64 a0_1) := (blk_cell BK136.out 1).trans rfl; have hfz10_0 := blk_frozen BK136.out 0; have hfz10_1 := blk_frozen BK136.out 1))
      repeat (go_quiet (first | ((with_reducible refine gate_dst (N := 2) rfl ?_); refine box_event ?hg (N := 2) ?hd (cs := #[.int .i64 a0_0, .int .i64 a0_1]) (t := 27) ?hr ?_; (case hd => rfl); (case hg => rfl); (case hr => first | (go_simp; done) | (go_simp; rfl)); intro gb136 hg w9 hbox hb; have n0_ := Aside0.mk (below_step (by repeat (first | (with_reducible first | exact HB.out | apply below_alloc | apply pw_below_drewN | apply below_drew1) | exact HB.out)) hb); have n1_ := Aside0.mk (hbox); have n2_ := Aside0.mk ((by rw [hg]; exact (below_size (by repeat (first | (with_reducible first | exact HB.out | apply below_alloc | apply pw_below_drewN | apply below_drew1) | exact HB.out))) : w.heap.size ≤ gb136)); have n3_ := Aside0.mk ((by rw [hg]; exact (below_size (by repeat (first | (with_reducible first | exact HB.out | apply below_alloc | apply pw_below_drewN | apply below_drew1) | exact HB.out))) : w.heap.size ≤ gb136)); clear HB; have HB := n0_; have BK136 := n1_; have GW136 := n2_; have GE136 := n3_; clear n0_ n1_ n2_ n3_; clear hb hbox hg; have hcz10_0 : w9.cell? ⟨gb136, 0, none⟩ = some (.int .i64 a0_0) := (blk_cell BK136.out 0).trans rfl; have hcz10_1 : w9.cell? ⟨gb136, 1, none⟩ = some (.int .i64 a0_1) := (blk_cell BK136.out 1).trans rfl; have hfz10_0 := blk_frozen BK136.out 0; have hfz10_1 := blk_frozen BK136.out 1)); try go_wp2_with (first | ((with_reducible refine gate_dst (N := 2) rfl ?_); refine box_event ?hg (N := 2) ?hd (cs := #[.int .i64 a0_0, .int .i64 a0_1]) (t := 27) ?hr ?_; (case hd => rfl); (case hg => rfl); (case hr => first | (go_simp; done) | (go_simp; rfl)); intro gb136 hg w9 hbox hb; have n0_ := Aside0.mk (below_step (by repeat (first | (with_reducible first | exact HB.out | apply below_alloc | apply pw_below_drewN | apply below_drew1) | exact HB.out)) hb); have n1_ := Aside0.mk (hbox); have n2_ := Aside0.mk ((by rw [hg]; exact (below_size (by repeat (first | (with_reducible first | exact HB.out | apply below_alloc | apply pw_below_drewN | apply below_drew1) | exact HB.out))) : w.heap.size ≤ gb136)); have n3_ := Aside0.mk ((by rw [hg]; exact (below_size (by repeat (first | (with_reducible first | exact HB.out | apply below_alloc | apply pw_below_drewN | apply below_drew1) | exact HB.out))) : w.heap.size ≤ gb136)); clear HB; have HB := n0_; have BK136 := n1_; have GW136 := n2_; have GE136 := n3_; clear n0_ n1_ n2_ n3_; clear hb hbox hg; have hcz10_0 : w9.cell? ⟨gb136, 0, none⟩ = some (.int .i64 a0_0) := (blk_cell BK136.out 0).trans rfl; have hcz10_1 : w9.cell? ⟨gb136, 1, none⟩ = some (.int .i64 a0_1) := (blk_cell BK136.out 1).trans rfl; have hfz10_0 := blk_frozen BK136.out 0; have hfz10_1 := blk_frozen BK136.out 1)))
      go_ret2
      exact ⟨by first | rfl | (simp [errW_none, errW_some] <;> rfl) | (simp [*, errW_none, errW_some] <;> rfl), by repeat (first | (with_reducible first | exact HB.out | apply below_alloc | apply pw_below_drewN | apply below_drew1 | refine below_set ?_ GE136.out) | exact HB.out)⟩

/-! ### impl_DeliveriesOf: function 13 -/
def impl_DeliveriesOf.ok (k : Nat) (a0_0 a0_1 : Int) (l1 : List Int) : Option Bool := (impl_IsStreet.f a0_0 a0_1).bind fun t => if t = true then (if a0_1 > 60 then some false else (impl_increasing.f k l1).bind fun t2 => if t2 = true then (impl_housesOf.f a0_0 a0_1).bind fun n => impl_allWithin.f k l1 1 n else some false) else some false
def impl_DeliveriesOf.step (row : List Int) (s p : Int) : Option (List Int) := if 0 ≤ p ∧ p < row.length then some (row.set p.toNat (if rd row p = 45 then (if s = 0 then 108 else 114) else 98)) else none
def impl_DeliveriesOf.rows (a0_0 a0_1 : Int) (l : List Int) : Nat → Option (List Int)
  | 0 => some (List.replicate a0_1.toNat 45)
  | j + 1 => (impl_DeliveriesOf.rows a0_0 a0_1 l j).bind fun row => (impl_plotOf.f a0_0 a0_1 (rd l j)).bind fun r => impl_DeliveriesOf.step row r.1 r.2
def impl_DeliveriesOf.f (k : Nat) (a0_0 a0_1 : Int) (l1 : List Int) : Option (ByteArray × Bool) := (impl_DeliveriesOf.ok k a0_0 a0_1 l1).bind fun t => if t = true then (if 0 ≤ a0_1 ∧ a0_1 ≤ 60 ∧ l1.length ≤ 1048576 then (impl_DeliveriesOf.rows a0_0 a0_1 l1 l1.length).bind fun row => some (strOfNums row, true) else none) else some (⟨#[]⟩, false)
theorem impl_DeliveriesOf.mono : ∀ a0 a1 a2 k, LeO (impl_DeliveriesOf.f k a0 a1 a2) (impl_DeliveriesOf.f (k + 1) a0 a1 a2) := by
  intro a0 a1 a2 k
  unfold impl_DeliveriesOf.f impl_DeliveriesOf.ok
  exact LeO.bind (LeO.bind (LeO.refl _) (fun _ => LeO.ite (LeO.ite (LeO.refl _) (LeO.bind (impl_increasing.mono _ _) (fun _ => LeO.ite (LeO.bind (LeO.refl _) (fun _ => impl_allWithin.mono _ _ _ _)) (LeO.refl _)))) (LeO.refl _))) (fun _ => LeO.refl _)
theorem impl_DeliveriesOf.rows_at {a0_0 a0_1 : Int} {l : List Int} {n : Nat} {r : List Int} (h : impl_DeliveriesOf.rows a0_0 a0_1 l n = some r) : ∀ d j : Nat, j + d = n → ∃ o, impl_DeliveriesOf.rows a0_0 a0_1 l j = some o
  | 0, j, hj => ⟨r, by rw [show j = n by omega]; exact h⟩
  | d + 1, j, hj => by
    obtain ⟨o, ho⟩ := impl_DeliveriesOf.rows_at h d (j + 1) (by omega)
    obtain ⟨o', h1, _⟩ := Option.bind_eq_some_iff.mp ho
    exact ⟨o', h1⟩
theorem impl_DeliveriesOf.rows_step {a0_0 a0_1 : Int} {l : List Int} {n j : Nat} {r o : List Int} (h : impl_DeliveriesOf.rows a0_0 a0_1 l n = some r) (hj : j < n) (ho : impl_DeliveriesOf.rows a0_0 a0_1 l j = some o) : ∃ s p : Int, ∃ o' : List Int, impl_plotOf.f a0_0 a0_1 (rd l j) = some (s, p) ∧ impl_DeliveriesOf.step o s p = some o' ∧ impl_DeliveriesOf.rows a0_0 a0_1 l (j + 1) = some o' := by
  obtain ⟨o', h1⟩ := impl_DeliveriesOf.rows_at h (n - (j + 1)) (j + 1) (by omega)
  have h2 := h1
  rw [impl_DeliveriesOf.rows, ho, Option.bind_some] at h2
  obtain ⟨sp, h3, h4⟩ := Option.bind_eq_some_iff.mp h2
  exact ⟨sp.1, sp.2, o', h3, h4, h1⟩
/-- What a world of the walk is. -/
structure impl_DeliveriesOf.RW (w wr : World) (g : Nat) (a0_0 a0_1 : Int) (n : Nat) (row : List Int) (rest : List Value) : Prop where
  box : wr.heap[w.heap.size]? = some (.cells #[.int .i64 a0_0, .int .i64 a0_1] 27 (0, 0))
  hrow : wr.heap[g]? = some (.cells (nums .u8 row ++ rest).toArray 5 (n + rest.length, n + rest.length + 1))
  hg : w.heap.size < g
  hlen : row.length = n
  bel : Below w.heap.size w wr
theorem impl_DeliveriesOf.RW.below {w wr w1 : World} {g : Nat} {a0_0 a0_1 : Int} {n : Nat} {row : List Int} {rest : List Value} (h : impl_DeliveriesOf.RW w wr g a0_0 a0_1 n row rest) (hb : Below wr.heap.size wr w1) : impl_DeliveriesOf.RW w w1 g a0_0 a0_1 n row rest :=
  ⟨(hb.block _ (blk_lt h.box)).trans h.box, (hb.block _ (blk_lt h.hrow)).trans h.hrow, h.hg, h.hlen, below_then h.bel h.bel.size hb⟩
theorem impl_DeliveriesOf.RW.cell {w wr : World} {g : Nat} {a0_0 a0_1 : Int} {n : Nat} {row : List Int} {rest : List Value} {i : Nat} (h : impl_DeliveriesOf.RW w wr g a0_0 a0_1 n row rest) (hi : i < n) : wr.cell? ⟨g, i, none⟩ = some (.int .u8 (rd row i)) := by
  rw [cell_of_row wr g i _ _ _ h.hrow]
  have hl : (nums .u8 row).length = n := by rw [← h.hlen]; simp [nums]
  simp only [List.getElem?_toArray]
  rw [List.getElem?_append_left (by omega)]
  have := h.hlen
  simp [nums, rd, List.getElem?_eq_getElem (show i < row.length by omega)]
theorem impl_DeliveriesOf.RW.free {w wr : World} {g : Nat} {a0_0 a0_1 : Int} {n : Nat} {row : List Int} {rest : List Value} {i : Nat} (h : impl_DeliveriesOf.RW w wr g a0_0 a0_1 n row rest) (hi : i < n) : wr.frozen? ⟨g, i, none⟩ = false := by
  simp [World.frozen?, h.hrow]
  omega
theorem impl_DeliveriesOf.RW.put {w wr : World} {g : Nat} {a0_0 a0_1 : Int} {n : Nat} {row : List Int} {rest : List Value} {i : Nat} (h : impl_DeliveriesOf.RW w wr g a0_0 a0_1 n row rest) (hi : i < n) (x : Int) : impl_DeliveriesOf.RW w (wr.setCell ⟨g, i, none⟩ (.int .u8 x)) g a0_0 a0_1 n (row.set i x) rest := by
  have hg := h.hg
  refine ⟨?_, ?_, h.hg, by rw [List.length_set]; exact h.hlen, h.bel.setCell (Nat.le_of_lt hg) _⟩
  · have e : (wr.setCell ⟨g, i, none⟩ (.int .u8 x)).heap[w.heap.size]? = wr.heap[w.heap.size]? := by
      unfold World.setCell
      simp only [Array.getElem?_modify]
      rw [if_neg (by omega)]
    rw [e]
    exact h.box
  · have e : (nums .u8 (row.set i x) ++ rest).toArray = (nums .u8 row ++ rest).toArray.setIfInBounds i (.int .u8 x) := by
      have hl := h.hlen
      simp only [nums, List.map_set, List.setIfInBounds_toArray]
      rw [List.set_append_left _ _ (by simp; omega)]
    rw [e]
    unfold World.setCell
    simp only [Array.getElem?_modify, if_true, h.hrow, Option.map_some, Option.isSome_none, Bool.false_eq_true, if_false]
theorem impl_DeliveriesOf.make (w W : World) (s : ByteArray) (a0_0 a0_1 : Int) (hb : Below w.heap.size w W) (hx : W.heap[w.heap.size]? = some (.cells #[.int .i64 a0_0, .int .i64 a0_1] 27 (0, 0))) : ∃ rest : List Value, impl_DeliveriesOf.RW w (Lib.bytesWorld W 5 s) W.heap.size a0_0 a0_1 s.size (bytesOf s) rest := by
  refine ⟨List.replicate (grownCap W s.size 0 5 - s.size) (.int .u8 0), ?_, ?_, blk_lt hx, bytesOf_length s, ?_⟩
  · have h1 := bytes_below (Below.refl W.heap.size W) (Nat.le_refl _) 5 s
    exact (h1.block _ (blk_lt hx)).trans hx
  · have hn := Lib.bytesWorld_at_new W 5 s
    have e : Lib.bytesCells W 5 s = (nums .u8 (bytesOf s) ++ List.replicate (grownCap W s.size 0 5 - s.size) (Value.int .u8 0)).toArray := by
      simp [Lib.bytesCells, nums, bytesOf]
    have e2 : (Lib.bytesCells W 5 s).size = s.size + (List.replicate (grownCap W s.size 0 5 - s.size) (Value.int .u8 0)).length := by
      rw [e]; simp [nums, bytesOf_length]
    rw [e2, e] at hn
    exact hn
  · exact bytes_below hb hb.size _ _
theorem impl_DeliveriesOf.rep (n : Nat) : bytesOf ⟨(Go.Lib.repeatL [45] n).toArray⟩ = List.replicate n 45 := by
  have e : Go.Lib.repeatL [45] n = List.replicate n 45 := by
    have := Go.Lib.repeatL_replicate 45 1 n
    simpa using this
  rw [e]
  simp [bytesOf]
set_option maxHeartbeats 4000000 in
set_option maxRecDepth 100000 in
theorem impl_DeliveriesOf.calls (k : Nat) (a0_0 : Int) (a0_1 : Int) (A1 : Option Addr) (c1 : Nat) (l1 : List Int) (r1 : ByteArray) (r2 : Bool) (w : World) (hr1 : Kd.C (Kd.int .i64) w A1 l1.length l1) (hc1 : l1.length ≤ c1) (h : impl_DeliveriesOf.f k a0_0 a0_1 l1 = some (r1, r2)) :
    Calls Try.prog 13 #[.agg #[.int .i64 a0_0, .int .i64 a0_1], .slice A1 l1.length c1] w fun e w' => e = .returned (.tuple #[.string r1, .bool r2]) ∧ Below w.heap.size w w' := by
  have hus := Try.underlying27
  have HR := Lib.hid hr1
  have HC := Lib.hid hc1
  clear hr1 hc1
  have HX := Lib.hid (And.intro (below_alloc (Below.refl w.heap.size w) (.cells #[.int .i64 a0_0, .int .i64 a0_1] 27 (0, 0))) (blk_new w (.cells #[.int .i64 a0_0, .int .i64 a0_1] 27 (0, 0))))
  unfold impl_DeliveriesOf.f at h
  obtain ⟨t, ht, h⟩ := Option.bind_eq_some_iff.1 h
  unfold impl_DeliveriesOf.ok at ht
  obtain ⟨t1, h1, ht⟩ := Option.bind_eq_some_iff.1 ht
  have H1 := Lib.hid h1
  clear h1
  cases t1 with
  | false =>
    cases ht
    cases h
    go_enter Try.func13, Try.ntmps13
    go_wp2_with (go_at_call 25; refine (impl_IsStreet.calls a0_0 a0_1 false _ H1.out).mono ?_; rintro e w2 ⟨rfl, hb⟩; have HB2 := Lib.hid (below_then HX.out.1 HX.out.1.size hb); clear hb)
    go_ret2
    exact ⟨rfl, HB2.out⟩
  | true =>
    rw [if_pos rfl] at ht
    by_cases h60 : a0_1 > 60
    · rw [if_pos h60] at ht
      cases ht
      cases h
      have c60 : decide (a0_1 > 60) = true := decide_eq_true h60
      clear h60
      go_enter Try.func13, Try.ntmps13
      go_wp2_with (go_at_call 25; refine (impl_IsStreet.calls a0_0 a0_1 true _ H1.out).mono ?_; rintro e w2 ⟨rfl, hb⟩; have hbx := (hb.block _ (blk_lt HX.out.2)).trans HX.out.2; have hcz0 : w2.cell? ⟨w.heap.size, 0, none⟩ = some (.int .i64 a0_0) := (blk_cell hbx 0).trans rfl; have hcz1 : w2.cell? ⟨w.heap.size, 1, none⟩ = some (.int .i64 a0_1) := (blk_cell hbx 1).trans rfl; have HB2 := Lib.hid (below_then HX.out.1 HX.out.1.size hb); clear hb hbx)
      go_ret2
      exact ⟨rfl, HB2.out⟩
    · rw [if_neg h60] at ht
      have c60 : decide (a0_1 > 60) = false := decide_eq_false h60
      obtain ⟨t2, h2, ht⟩ := Option.bind_eq_some_iff.1 ht
      have H2 := Lib.hid h2
      clear h60 h2
      cases t2 with
      | false =>
        cases ht
        cases h
        go_enter Try.func13, Try.ntmps13
        go_wp2_with (first
          | (go_at_call 25; refine (impl_IsStreet.calls a0_0 a0_1 true _ H1.out).mono ?_; rintro e w2 ⟨rfl, hb⟩; have hbx := (hb.block _ (blk_lt HX.out.2)).trans HX.out.2; have hcz0 : w2.cell? ⟨w.heap.size, 0, none⟩ = some (.int .i64 a0_0) := (blk_cell hbx 0).trans rfl; have hcz1 : w2.cell? ⟨w.heap.size, 1, none⟩ = some (.int .i64 a0_1) := (blk_cell hbx 1).trans rfl; have HB2 := Lib.hid (below_then HX.out.1 HX.out.1.size hb); clear hb hbx)
          | (go_at_call 26; refine (impl_increasing.calls k A1 c1 l1 false _ (Kd.C_below HR.out HB2.out) HC.out H2.out).mono ?_; rintro e w3 ⟨rfl, ⟨nd, rfl⟩⟩))
        go_ret2
        exact ⟨rfl, by repeat (first | exact HB2.out | apply pw_below_drewN)⟩
      | true =>
        rw [if_pos rfl] at ht
        obtain ⟨n, h3, ht⟩ := Option.bind_eq_some_iff.1 ht
        have H3 := Lib.hid h3
        have H4 := Lib.hid ht
        clear h3 ht
        cases t with
        | false =>
          cases h
          go_enter Try.func13, Try.ntmps13
          go_wp2_with (first
            | (go_at_call 25; refine (impl_IsStreet.calls a0_0 a0_1 true _ H1.out).mono ?_; rintro e w2 ⟨rfl, hb⟩; have hbx := (hb.block _ (blk_lt HX.out.2)).trans HX.out.2; have hcz0 : w2.cell? ⟨w.heap.size, 0, none⟩ = some (.int .i64 a0_0) := (blk_cell hbx 0).trans rfl; have hcz1 : w2.cell? ⟨w.heap.size, 1, none⟩ = some (.int .i64 a0_1) := (blk_cell hbx 1).trans rfl; have HB2 := Lib.hid (below_then HX.out.1 HX.out.1.size hb); clear hb hbx)
            | (go_at_call 26; refine (impl_increasing.calls k A1 c1 l1 true _ (Kd.C_below HR.out HB2.out) HC.out H2.out).mono ?_; rintro e w3 ⟨rfl, ⟨nd, rfl⟩⟩; have HB3 := Lib.hid (pw_below_drewN HB2.out nd))
            | (go_at_call 28; refine (impl_housesOf.calls a0_0 a0_1 n _ H3.out).mono ?_; rintro e w4 ⟨rfl, hb⟩; have HB4 := Lib.hid (below_then HB3.out HB3.out.size hb); clear hb)
            | (go_at_call 27; refine (impl_allWithin.calls k A1 c1 l1 1 n false _ (Kd.C_below HR.out HB4.out) HC.out H4.out).mono ?_; rintro e w5 ⟨rfl, ⟨nd, rfl⟩⟩))
          go_ret2
          exact ⟨rfl, by repeat (first | exact HB4.out | apply pw_below_drewN)⟩
        | true =>
          rw [if_pos rfl] at h
          by_cases hz : 0 ≤ a0_1 ∧ a0_1 ≤ 60 ∧ l1.length ≤ 1048576
          · rw [if_pos hz] at h
            obtain ⟨row, hrow, h⟩ := Option.bind_eq_some_iff.1 h
            cases h
            have HRW := Lib.hid hrow
            clear hrow
            have hrep : strings_Repeat.f ⟨#[45]⟩ a0_1 = some ⟨(Go.Lib.repeatL [45] a0_1.toNat).toArray⟩ := by
              unfold strings_Repeat.f
              rw [if_pos ⟨hz.1, by omega, by decide⟩]
            have hbo := impl_DeliveriesOf.rep a0_1.toNat
            obtain ⟨s, hs⟩ : ∃ s : ByteArray, s = ⟨(Go.Lib.repeatL [45] a0_1.toNat).toArray⟩ := ⟨_, rfl⟩
            rw [← hs] at hrep hbo
            have HP := Lib.hid hrep
            have HO := Lib.hid hbo
            have kc := fun (W : World) => print_bytes (P := Try.prog) 9 47 5 Try.underlying9 Try.underlying47 Try.underlying5 s W
            have HZ := Lib.hid hz
            clear hrep hbo hs hz
            go_enter Try.func13, Try.ntmps13
            go_wp2_with (first
              | (go_at_call 25; refine (impl_IsStreet.calls a0_0 a0_1 true _ H1.out).mono ?_; rintro e w2 ⟨rfl, hb⟩; have hbx := (hb.block _ (blk_lt HX.out.2)).trans HX.out.2; have hcz0 : w2.cell? ⟨w.heap.size, 0, none⟩ = some (.int .i64 a0_0) := (blk_cell hbx 0).trans rfl; have hcz1 : w2.cell? ⟨w.heap.size, 1, none⟩ = some (.int .i64 a0_1) := (blk_cell hbx 1).trans rfl; have HB2 := Lib.hid (And.intro (below_then HX.out.1 HX.out.1.size hb) hbx); clear hb hbx)
              | (go_at_call 26; refine (impl_increasing.calls k A1 c1 l1 true _ (Kd.C_below HR.out HB2.out.1) HC.out H2.out).mono ?_; rintro e w3 ⟨rfl, ⟨nd, rfl⟩⟩)
              | (go_at_call 28; refine (impl_housesOf.calls a0_0 a0_1 n _ H3.out).mono ?_; rintro e w4 ⟨rfl, hb⟩; have HB4 := Lib.hid (And.intro (below_then (pw_below_drewN HB2.out.1 nd) (pw_below_drewN HB2.out.1 nd).size hb) ((hb.block _ (blk_lt HB2.out.2)).trans HB2.out.2)); clear hb)
              | (go_at_call 27; refine (impl_allWithin.calls k A1 c1 l1 1 n true _ (Kd.C_below HR.out HB4.out.1) HC.out H4.out).mono ?_; rintro e w5 ⟨rfl, ⟨nd5, rfl⟩⟩; have hcz4 : (w4.drewN nd5).cell? ⟨w.heap.size, 1, none⟩ = some (.int .i64 a0_1) := (blk_cell (g := w.heap.size) (w := w4.drewN nd5) HB4.out.2 1).trans rfl)
              | (go_at_call 29; refine (strings_Repeat.calls ⟨#[45]⟩ a0_1 s _ HP.out).mono ?_; rintro e w6 ⟨rfl, hb⟩; have HB6 := Lib.hid (And.intro (below_then (pw_below_drewN HB4.out.1 nd5) (pw_below_drewN HB4.out.1 nd5).size hb) ((hb.block _ (blk_lt HB4.out.2)).trans HB4.out.2)); clear hb))
            obtain ⟨W1, hW1⟩ : ∃ W1, W1 = Lib.bytesWorld w6 5 s := ⟨_, rfl⟩
            obtain ⟨rest, hR⟩ := impl_DeliveriesOf.make w w6 s a0_0 a0_1 HB6.out.1 HB6.out.2
            rw [HO.out, ← hW1] at hR
            rw [← hW1]
            obtain ⟨g, hg⟩ : ∃ g, g = w6.heap.size := ⟨_, rfl⟩
            rw [← hg] at hR ⊢
            generalize grownCap w6 s.size 0 5 = cp
            have HW := Lib.hid hR
            clear hW1 hg kc hR hcz0 hcz1 hcz4
            go_loopw [37] (fun i wr => ∃ (j : Nat) (row' : List Int), j ≤ l1.length ∧ i = .int .i64 j ∧ impl_DeliveriesOf.rows a0_0 a0_1 l1 j = some row' ∧ impl_DeliveriesOf.RW w wr g a0_0 a0_1 s.size row' rest) (fun i _ => l1.length - (intOf i).toNat)
            case atStart => exact ⟨0, _, by omega, rfl, rfl, HW.out⟩
            case round =>
              obtain ⟨j, o, hj, rfl, hro, hrw⟩ := hrel
              clear HW
              have HW := Lib.hid hrw
              clear hrw
              by_cases hlt : j < l1.length
              · have cb1 : decide ((j : Int) < (l1.length : Int)) = true := decide_eq_true (by omega)
                obtain ⟨sd, p, o', hpl, hst, hr'⟩ := impl_DeliveriesOf.rows_step HRW.out hlt hro
                obtain ⟨ad, ea, hcell⟩ := Kd.at_int (Kd.C_below HR.out HW.out.bel) (j : Int) (by omega) (by omega)
                subst ea
                rw [Int.toNat_natCast] at hcell
                generalize rd l1 (j : Int) = nb at hpl hcell
                unfold impl_DeliveriesOf.step at hst
                by_cases hp : 0 ≤ p ∧ p < o.length
                · rw [if_pos hp] at hst
                  obtain ⟨pn, rfl⟩ : ∃ pn : Nat, p = (pn : Int) := ⟨p.toNat, by omega⟩
                  rw [Int.toNat_natCast] at hst
                  have hpn : pn < s.size := by have := HW.out.hlen; omega
                  have p1 : (0 : Int) ≤ (j : Int) := by omega
                  have p2 : (j : Int) < (l1.length : Int) := by omega
                  have p3 : (0 : Int) ≤ (pn : Int) := by omega
                  have p4 : (pn : Int) < (s.size : Int) := by omega
                  have hj6 : j < 1048576 := by have := HZ.out.2.2; omega
                  have HPL := Lib.hid hpl
                  have HR' := Lib.hid hr'
                  obtain ⟨x, hx⟩ : ∃ x, rd o (pn : Int) = x := ⟨_, rfl⟩
                  rw [hx] at hst
                  have hcz0 : wr.cell? ⟨w.heap.size, 0, none⟩ = some (.int .i64 a0_0) := (blk_cell HW.out.box 0).trans rfl
                  have hcz1 : wr.cell? ⟨w.heap.size, 1, none⟩ = some (.int .i64 a0_1) := (blk_cell HW.out.box 1).trans rfl
                  clear hpl hr' hro hp
                  by_cases h45 : x = 45
                  · have d1 : (x != 45) = false := bne_eq_false_iff_eq.mpr h45
                    rw [if_pos h45] at hst
                    clear h45
                    by_cases h0 : sd = 0
                    · have d2 : (sd == 0) = true := beq_iff_eq.mpr h0
                      rw [if_pos h0] at hst
                      have e' := (Option.some.inj hst).symm
                      clear h0 hst
                      subst e'
                      go_wp2_with (go_at_call 30; refine (impl_plotOf.calls a0_0 a0_1 nb sd (pn : Int) _ HPL.out).mono ?_; rintro e w7 ⟨rfl, hb⟩; have HW7 := Lib.hid (HW.out.below hb); clear hb hcz0 hcz1 HW; have hc := HW7.out.cell hpn; have hf := HW7.out.free hpn; rw [hx] at hc)
                      go_roundw
                      case rel => exact ⟨j + 1, _, by omega, by go_num, HR'.out, HW7.out.put hpn _⟩
                      case measure => simp [intOf]; omega
                    · have d2 : (sd == 0) = false := beq_eq_false_iff_ne.mpr h0
                      rw [if_neg h0] at hst
                      have e' := (Option.some.inj hst).symm
                      clear h0 hst
                      subst e'
                      go_wp2_with (go_at_call 30; refine (impl_plotOf.calls a0_0 a0_1 nb sd (pn : Int) _ HPL.out).mono ?_; rintro e w7 ⟨rfl, hb⟩; have HW7 := Lib.hid (HW.out.below hb); clear hb hcz0 hcz1 HW; have hc := HW7.out.cell hpn; have hf := HW7.out.free hpn; rw [hx] at hc)
                      go_roundw
                      case rel => exact ⟨j + 1, _, by omega, by go_num, HR'.out, HW7.out.put hpn _⟩
                      case measure => simp [intOf]; omega
                  · have d1 : (x != 45) = true := bne_iff_ne.mpr h45
                    rw [if_neg h45] at hst
                    have e' := (Option.some.inj hst).symm
                    clear h45 hst
                    subst e'
                    go_wp2_with (go_at_call 30; refine (impl_plotOf.calls a0_0 a0_1 nb sd (pn : Int) _ HPL.out).mono ?_; rintro e w7 ⟨rfl, hb⟩; have HW7 := Lib.hid (HW.out.below hb); clear hb hcz0 hcz1 HW; have hc := HW7.out.cell hpn; have hf := HW7.out.free hpn; rw [hx] at hc)
                    go_roundw
                    case rel => exact ⟨j + 1, _, by omega, by go_num, HR'.out, HW7.out.put hpn _⟩
                    case measure => simp [intOf]; omega
                · rw [if_neg hp] at hst
                  cases hst
              · obtain rfl : j = l1.length := by omega
                obtain rfl := Option.some.inj (hro.symm.trans HRW.out)
                have cb1 : decide ((l1.length : Int) < (l1.length : Int)) = false := decide_eq_false (by omega)
                have kd := run_convert_bytes_arg (P := Try.prog) wr 47 5 Try.underlying47 Try.underlying5 g 0 s.size cp o HW.out.hlen (fun i hi => by
                  rw [Nat.zero_add, cell_of_row wr g i _ _ _ HW.out.hrow, List.getElem?_toArray, List.getElem?_append_left (by simp [nums, HW.out.hlen, hi])]
                  have := HW.out.hlen
                  simp [nums, List.getElem?_eq_getElem (show i < o.length by omega)]) 9 Try.underlying9
                clear hro
                go_wp2
                go_ret2
                exact ⟨rfl, HW.out.bel⟩
          · rw [if_neg hz] at h
            cases h
end Go.Proofs.Ytpopeedfgenebaa.PFnExactDeliveriesOf
