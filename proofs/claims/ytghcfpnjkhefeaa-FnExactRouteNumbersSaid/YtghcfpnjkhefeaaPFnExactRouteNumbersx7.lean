/- Printed by a program of this session (wip/xprint.py) over the kit's printer. Not trusted: Lean checks it. -/
import Derived.Test.YtghcfpnjkhefeaaPFnExactRouteNumbersx0
import Derived.Test.YtghcfpnjkhefeaaPFnExactRouteNumbersx5
import Derived.Test.YtghcfpnjkhefeaaPFnExactRouteNumbersx6
namespace Go.Proofs.Ytghcfpnjkhefeaa.PFnExactRouteNumbers
open Go.RowKit Go.Proofs.YtghcfpnjkhefeaaW.PrintWords Go.Proofs.YtghcfpnjkhefeaaW.PrintLast Go.Proofs.YtghcfpnjkhefeaaW.PrintMore
attribute [local go_sem] max2_int min2_int max_two min_two max_three min_three max_four min_four   -- for this text's walks alone
set_option linter.unusedVariables false
set_option linter.unusedSimpArgs false

/-! ### impl_isStreetText: function 68 -/
def impl_isStreetText.f (k : Nat) (a0_0 : Int) (a0_1 : Int) (a1 : ByteArray) : Option (Bool) := (impl_IsStreet.f a0_0 a0_1).bind fun t180 => (if t180 = true then ((impl_AreDeliveries.f k a1).bind fun t181 => (if t181 = true then (if a0_1 = (a1.size : Int) then (if a0_0 > 0 then (some true) else ((strings_ContainsAny.f a1 (⟨#[114, 98]⟩ : ByteArray)).bind fun t182 => (some (!t182)))) else (some false)) else (some false))) else (some false))
theorem impl_isStreetText.mono : ∀ a0 a1 a2 k, LeO (impl_isStreetText.f k a0 a1 a2) (impl_isStreetText.f (k + 1) a0 a1 a2) := by
  intro a0 a1 a2 k
  unfold impl_isStreetText.f
  repeat' first
      | (with_reducible exact impl_AreDeliveries.mono _ _)
      | (with_reducible exact LeO.refl _)
      | (with_reducible exact LeO.none _)
      | (with_reducible refine LeO.ite ?_ ?_)
      | (with_reducible refine LeO.bind ?_ (fun _ => ?_))
      | exact impl_AreDeliveries.mono _ _
      | exact LeO.none _
      | refine LeO.ite ?_ ?_
      | refine LeO.bind ?_ (fun _ => ?_)
set_option maxHeartbeats 8000000 in
set_option maxRecDepth 100000 in
theorem impl_isStreetText.calls (k : Nat) (a0_0 : Int) (a0_1 : Int) (a1 : ByteArray) (r : Bool) (w : World) (h : impl_isStreetText.f k a0_0 a0_1 a1 = some r) :
    Calls Try.prog 68 #[.agg #[.int .i64 a0_0, .int .i64 a0_1], .string a1] w fun e w' => e = .returned (.bool r) ∧ Below w.heap.size w w' := by
  have hu43 := Try.underlying43
  have HB := Aside0.mk (Below.refl w.heap.size w)
  have H : ((impl_IsStreet.f a0_0 a0_1).bind fun t180 => (if t180 = true then ((impl_AreDeliveries.f k a1).bind fun t181 => (if t181 = true then (if a0_1 = (a1.size : Int) then (if a0_0 > 0 then (some true) else ((strings_ContainsAny.f a1 (⟨#[114, 98]⟩ : ByteArray)).bind fun t182 => (some (!t182)))) else (some false)) else (some false))) else (some false))) = some r := h
  clear h
  replace H := Option.bind_eq_some_iff.mp H
  obtain ⟨t180, A30, H⟩ := H
  replace H : (if t180 = true then ((impl_AreDeliveries.f k a1).bind fun t181 => (if t181 = true then (if a0_1 = (a1.size : Int) then (if a0_0 > 0 then (some true) else ((strings_ContainsAny.f a1 (⟨#[114, 98]⟩ : ByteArray)).bind fun t182 => (some (!t182)))) else (some false)) else (some false))) else (some false)) = some r := H
  have A3 := Aside0.mk A30
  clear A30
  by_cases c4 : t180 = true
  · subst c4
    have H1 : ((impl_AreDeliveries.f k a1).bind fun t181 => (if t181 = true then (if a0_1 = (a1.size : Int) then (if a0_0 > 0 then (some true) else ((strings_ContainsAny.f a1 (⟨#[114, 98]⟩ : ByteArray)).bind fun t182 => (some (!t182)))) else (some false)) else (some false))) = some r := by rw [if_pos rfl] at H; exact H
    clear H
    have H := H1
    clear H1
    replace H := Option.bind_eq_some_iff.mp H
    obtain ⟨t181, A50, H⟩ := H
    replace H : (if t181 = true then (if a0_1 = (a1.size : Int) then (if a0_0 > 0 then (some true) else ((strings_ContainsAny.f a1 (⟨#[114, 98]⟩ : ByteArray)).bind fun t182 => (some (!t182)))) else (some false)) else (some false)) = some r := H
    have A5 := Aside0.mk A50
    clear A50
    by_cases c6 : t181 = true
    · subst c6
      have H1 : (if a0_1 = (a1.size : Int) then (if a0_0 > 0 then (some true) else ((strings_ContainsAny.f a1 (⟨#[114, 98]⟩ : ByteArray)).bind fun t182 => (some (!t182)))) else (some false)) = some r := by rw [if_pos rfl] at H; exact H
      clear H
      have H := H1
      clear H1
      by_cases c7 : a0_1 = (a1.size : Int)
      · rw [if_pos c7] at H
        have c7b0 : (a0_1 == (a1.size : Int)) = true := beq_iff_eq.mpr c7
        have c7b1 : (a0_1 != (a1.size : Int)) = false := bne_eq_false_iff_eq.mpr c7
        clear c7
        by_cases c8 : a0_0 > 0
        · rw [if_pos c8] at H
          have c8b0 : decide (0 < a0_0) = true := decide_eq_true c8
          clear c8
          obtain rfl := Option.some.inj H
          go_enter Try.func68, Try.ntmps68
          go_wp2_with (first | ((with_reducible refine gate_dst (N := 2) rfl ?_); (try (refine gate_guard (by rfl) ?_; dsimp only)); refine box_event ?hg (N := 2) ?hd (cs := #[.int .i64 a0_0, .int .i64 a0_1]) (t := 43) ?hr ?_; (case hd => rfl); (case hg => rfl); (case hr => first | (go_simp; done) | (go_simp; rfl)); intro gb179 hg w9 hbox hb; have n0_ := Aside0.mk (below_step (by repeat (first | (with_reducible first | exact HB.out | apply below_alloc | apply pw_below_drewN | apply below_drew1) | exact HB.out)) hb); have n1_ := Aside0.mk (hbox); have n2_ := Aside0.mk ((by rw [hg]; exact (below_size (by repeat (first | (with_reducible first | exact HB.out | apply below_alloc | apply pw_below_drewN | apply below_drew1) | exact HB.out))) : w.heap.size ≤ gb179)); have n3_ := Aside0.mk ((by rw [hg]; exact (below_size (by repeat (first | (with_reducible first | exact HB.out | apply below_alloc | apply pw_below_drewN | apply below_drew1) | exact HB.out))) : w.heap.size ≤ gb179)); clear HB; have HB := n0_; have BK179 := n1_; have GW179 := n2_; have GE179 := n3_; clear n0_ n1_ n2_ n3_; clear hb hbox hg; have hcz10_0 : w9.cell? ⟨gb179, 0, none⟩ = some (.int .i64 a0_0) := (blk_cell BK179.out 0).trans rfl; have hcz10_1 : w9.cell? ⟨gb179, 1, none⟩ = some (.int .i64 a0_1) := (blk_cell BK179.out 1).trans rfl; have hfz10_0 := blk_frozen BK179.out 0; have hfz10_1 := blk_frozen BK179.out 1) | ((with_reducible refine gate_callee (f := 61) rfl ?_); refine goesL_ (some 6) rfl rfl Try.func61 (by kernel_rfl) rfl #[.agg #[.int .i64 a0_0, .int .i64 a0_1]] rfl (by (try simp only [List.map_toArray, List.map_cons, List.map_nil]); first | done | rfl | (simp only [List.length_drop, List.length_take]; rfl)) ?_; (with_reducible refine (impl_IsStreet.calls a0_0 a0_1 true _ A3.out).mono ?_); rintro e w11 ⟨rfl, hb⟩; refine ⟨_, rfl, ?_⟩; have n0_ := Aside0.mk (blk_below (g := gb179) (o := .cells #[.int .i64 a0_0, .int .i64 a0_1] 43 (0, 0)) (by (with_reducible repeat (first | refine blk_drewN ?_ _ | refine blk_drew ?_ | refine blk_alloc ?_ _)); exact BK179.out) hb); have n1_ := Aside0.mk (below_step (by repeat (first | (with_reducible first | exact HB.out | apply below_alloc | apply pw_below_drewN | apply below_drew1 | refine below_set ?_ GE179.out) | exact HB.out)) hb); clear BK179; clear HB; have BK179 := n0_; have HB := n1_; clear n0_ n1_; (try clear hb); (try clear hb2); (try clear hk); (try clear hi)) | (go_at_call 41; (with_reducible refine (impl_AreDeliveries.calls k a1 true _ A5.out).mono ?_); rintro e w' ⟨rfl, ⟨nd, rfl⟩⟩; have hcz12_0 : w11.cell? ⟨gb179, 0, none⟩ = some (.int .i64 a0_0) := (blk_cell BK179.out 0).trans rfl; have hcz12_1 : w11.cell? ⟨gb179, 1, none⟩ = some (.int .i64 a0_1) := (blk_cell BK179.out 1).trans rfl; have hfz12_0 := blk_frozen BK179.out 0; have hfz12_1 := blk_frozen BK179.out 1))
          go_ret
          exact ⟨by first | rfl | (simp [errW_none, errW_some] <;> rfl) | (simp [*, errW_none, errW_some] <;> rfl), by repeat (first | (with_reducible first | exact HB.out | apply below_alloc | apply pw_below_drewN | apply below_drew1 | refine below_set ?_ GE179.out) | exact HB.out)⟩
        · rw [if_neg c8] at H
          have c8b0 : decide (0 < a0_0) = false := decide_eq_false c8
          clear c8
          replace H := Option.bind_eq_some_iff.mp H
          obtain ⟨t182, A130, H⟩ := H
          replace H : (some (!t182)) = some r := H
          have A13 := Aside0.mk A130
          clear A130
          obtain rfl := Option.some.inj H
          go_enter Try.func68, Try.ntmps68
          go_wp2_with (first | ((with_reducible refine gate_dst (N := 2) rfl ?_); (try (refine gate_guard (by rfl) ?_; dsimp only)); refine box_event ?hg (N := 2) ?hd (cs := #[.int .i64 a0_0, .int .i64 a0_1]) (t := 43) ?hr ?_; (case hd => rfl); (case hg => rfl); (case hr => first | (go_simp; done) | (go_simp; rfl)); intro gb179 hg w14 hbox hb; have n0_ := Aside0.mk (below_step (by repeat (first | (with_reducible first | exact HB.out | apply below_alloc | apply pw_below_drewN | apply below_drew1) | exact HB.out)) hb); have n1_ := Aside0.mk (hbox); have n2_ := Aside0.mk ((by rw [hg]; exact (below_size (by repeat (first | (with_reducible first | exact HB.out | apply below_alloc | apply pw_below_drewN | apply below_drew1) | exact HB.out))) : w.heap.size ≤ gb179)); have n3_ := Aside0.mk ((by rw [hg]; exact (below_size (by repeat (first | (with_reducible first | exact HB.out | apply below_alloc | apply pw_below_drewN | apply below_drew1) | exact HB.out))) : w.heap.size ≤ gb179)); clear HB; have HB := n0_; have BK179 := n1_; have GW179 := n2_; have GE179 := n3_; clear n0_ n1_ n2_ n3_; clear hb hbox hg; have hcz15_0 : w14.cell? ⟨gb179, 0, none⟩ = some (.int .i64 a0_0) := (blk_cell BK179.out 0).trans rfl; have hcz15_1 : w14.cell? ⟨gb179, 1, none⟩ = some (.int .i64 a0_1) := (blk_cell BK179.out 1).trans rfl; have hfz15_0 := blk_frozen BK179.out 0; have hfz15_1 := blk_frozen BK179.out 1) | ((with_reducible refine gate_callee (f := 61) rfl ?_); refine goesL_ (some 6) rfl rfl Try.func61 (by kernel_rfl) rfl #[.agg #[.int .i64 a0_0, .int .i64 a0_1]] rfl (by (try simp only [List.map_toArray, List.map_cons, List.map_nil]); first | done | rfl | (simp only [List.length_drop, List.length_take]; rfl)) ?_; (with_reducible refine (impl_IsStreet.calls a0_0 a0_1 true _ A3.out).mono ?_); rintro e w16 ⟨rfl, hb⟩; refine ⟨_, rfl, ?_⟩; have n0_ := Aside0.mk (blk_below (g := gb179) (o := .cells #[.int .i64 a0_0, .int .i64 a0_1] 43 (0, 0)) (by (with_reducible repeat (first | refine blk_drewN ?_ _ | refine blk_drew ?_ | refine blk_alloc ?_ _)); exact BK179.out) hb); have n1_ := Aside0.mk (below_step (by repeat (first | (with_reducible first | exact HB.out | apply below_alloc | apply pw_below_drewN | apply below_drew1 | refine below_set ?_ GE179.out) | exact HB.out)) hb); clear BK179; clear HB; have BK179 := n0_; have HB := n1_; clear n0_ n1_; (try clear hb); (try clear hb2); (try clear hk); (try clear hi)) | (go_at_call 41; (with_reducible refine (impl_AreDeliveries.calls k a1 true _ A5.out).mono ?_); rintro e w' ⟨rfl, ⟨nd, rfl⟩⟩; have hcz17_0 : w16.cell? ⟨gb179, 0, none⟩ = some (.int .i64 a0_0) := (blk_cell BK179.out 0).trans rfl; have hcz17_1 : w16.cell? ⟨gb179, 1, none⟩ = some (.int .i64 a0_1) := (blk_cell BK179.out 1).trans rfl; have hfz17_0 := blk_frozen BK179.out 0; have hfz17_1 := blk_frozen BK179.out 1) | (go_at_call 83; (with_reducible refine (strings_ContainsAny.calls a1 (⟨#[114, 98]⟩ : ByteArray) t182 _ A13.out).mono ?_); rintro e w18 ⟨rfl, hb⟩; have n0_ := Aside0.mk (blk_below (g := gb179) (o := .cells #[.int .i64 a0_0, .int .i64 a0_1] 43 (0, 0)) (by (with_reducible repeat (first | refine blk_drewN ?_ _ | refine blk_drew ?_ | refine blk_alloc ?_ _)); exact BK179.out) hb); have n1_ := Aside0.mk (below_step (by repeat (first | (with_reducible first | exact HB.out | apply below_alloc | apply pw_below_drewN | apply below_drew1 | refine below_set ?_ GE179.out) | exact HB.out)) hb); clear BK179; clear HB; have BK179 := n0_; have HB := n1_; clear n0_ n1_; (try clear hb); (try clear hb2); (try clear hk); (try clear hi)))
          go_ret
          exact ⟨by first | rfl | (simp [errW_none, errW_some] <;> rfl) | (simp [*, errW_none, errW_some] <;> rfl), by repeat (first | (with_reducible first | exact HB.out | apply below_alloc | apply pw_below_drewN | apply below_drew1 | refine below_set ?_ GE179.out) | exact HB.out)⟩
      · rw [if_neg c7] at H
        have c7b0 : (a0_1 == (a1.size : Int)) = false := beq_eq_false_iff_ne.mpr c7
        have c7b1 : (a0_1 != (a1.size : Int)) = true := bne_iff_ne.mpr c7
        obtain rfl := Option.some.inj H
        go_enter Try.func68, Try.ntmps68
        go_wp2_with (first | ((with_reducible refine gate_dst (N := 2) rfl ?_); (try (refine gate_guard (by rfl) ?_; dsimp only)); refine box_event ?hg (N := 2) ?hd (cs := #[.int .i64 a0_0, .int .i64 a0_1]) (t := 43) ?hr ?_; (case hd => rfl); (case hg => rfl); (case hr => first | (go_simp; done) | (go_simp; rfl)); intro gb179 hg w19 hbox hb; have n0_ := Aside0.mk (below_step (by repeat (first | (with_reducible first | exact HB.out | apply below_alloc | apply pw_below_drewN | apply below_drew1) | exact HB.out)) hb); have n1_ := Aside0.mk (hbox); have n2_ := Aside0.mk ((by rw [hg]; exact (below_size (by repeat (first | (with_reducible first | exact HB.out | apply below_alloc | apply pw_below_drewN | apply below_drew1) | exact HB.out))) : w.heap.size ≤ gb179)); have n3_ := Aside0.mk ((by rw [hg]; exact (below_size (by repeat (first | (with_reducible first | exact HB.out | apply below_alloc | apply pw_below_drewN | apply below_drew1) | exact HB.out))) : w.heap.size ≤ gb179)); clear HB; have HB := n0_; have BK179 := n1_; have GW179 := n2_; have GE179 := n3_; clear n0_ n1_ n2_ n3_; clear hb hbox hg; have hcz20_0 : w19.cell? ⟨gb179, 0, none⟩ = some (.int .i64 a0_0) := (blk_cell BK179.out 0).trans rfl; have hcz20_1 : w19.cell? ⟨gb179, 1, none⟩ = some (.int .i64 a0_1) := (blk_cell BK179.out 1).trans rfl; have hfz20_0 := blk_frozen BK179.out 0; have hfz20_1 := blk_frozen BK179.out 1) | ((with_reducible refine gate_callee (f := 61) rfl ?_); refine goesL_ (some 6) rfl rfl Try.func61 (by kernel_rfl) rfl #[.agg #[.int .i64 a0_0, .int .i64 a0_1]] rfl (by (try simp only [List.map_toArray, List.map_cons, List.map_nil]); first | done | rfl | (simp only [List.length_drop, List.length_take]; rfl)) ?_; (with_reducible refine (impl_IsStreet.calls a0_0 a0_1 true _ A3.out).mono ?_); rintro e w21 ⟨rfl, hb⟩; refine ⟨_, rfl, ?_⟩; have n0_ := Aside0.mk (blk_below (g := gb179) (o := .cells #[.int .i64 a0_0, .int .i64 a0_1] 43 (0, 0)) (by (with_reducible repeat (first | refine blk_drewN ?_ _ | refine blk_drew ?_ | refine blk_alloc ?_ _)); exact BK179.out) hb); have n1_ := Aside0.mk (below_step (by repeat (first | (with_reducible first | exact HB.out | apply below_alloc | apply pw_below_drewN | apply below_drew1 | refine below_set ?_ GE179.out) | exact HB.out)) hb); clear BK179; clear HB; have BK179 := n0_; have HB := n1_; clear n0_ n1_; (try clear hb); (try clear hb2); (try clear hk); (try clear hi)) | (go_at_call 41; (with_reducible refine (impl_AreDeliveries.calls k a1 true _ A5.out).mono ?_); rintro e w' ⟨rfl, ⟨nd, rfl⟩⟩; have hcz22_0 : w21.cell? ⟨gb179, 0, none⟩ = some (.int .i64 a0_0) := (blk_cell BK179.out 0).trans rfl; have hcz22_1 : w21.cell? ⟨gb179, 1, none⟩ = some (.int .i64 a0_1) := (blk_cell BK179.out 1).trans rfl; have hfz22_0 := blk_frozen BK179.out 0; have hfz22_1 := blk_frozen BK179.out 1))
        go_ret
        exact ⟨by first | rfl | (simp [errW_none, errW_some] <;> rfl) | (simp [*, errW_none, errW_some] <;> rfl), by repeat (first | (with_reducible first | exact HB.out | apply below_alloc | apply pw_below_drewN | apply below_drew1 | refine below_set ?_ GE179.out) | exact HB.out)⟩
    · replace c6 := Bool.eq_false_iff.mpr c6
      subst c6
      have H1 : (some false) = some r := by rw [if_neg (show ¬ (false = true) by decide)] at H; exact H
      clear H
      have H := H1
      clear H1
      obtain rfl := Option.some.inj H
      go_enter Try.func68, Try.ntmps68
      go_wp2_with (first | ((with_reducible refine gate_dst (N := 2) rfl ?_); (try (refine gate_guard (by rfl) ?_; dsimp only)); refine box_event ?hg (N := 2) ?hd (cs := #[.int .i64 a0_0, .int .i64 a0_1]) (t := 43) ?hr ?_; (case hd => rfl); (case hg => rfl); (case hr => first | (go_simp; done) | (go_simp; rfl)); intro gb179 hg w23 hbox hb; have n0_ := Aside0.mk (below_step (by repeat (first | (with_reducible first | exact HB.out | apply below_alloc | apply pw_below_drewN | apply below_drew1) | exact HB.out)) hb); have n1_ := Aside0.mk (hbox); have n2_ := Aside0.mk ((by rw [hg]; exact (below_size (by repeat (first | (with_reducible first | exact HB.out | apply below_alloc | apply pw_below_drewN | apply below_drew1) | exact HB.out))) : w.heap.size ≤ gb179)); have n3_ := Aside0.mk ((by rw [hg]; exact (below_size (by repeat (first | (with_reducible first | exact HB.out | apply below_alloc | apply pw_below_drewN | apply below_drew1) | exact HB.out))) : w.heap.size ≤ gb179)); clear HB; have HB := n0_; have BK179 := n1_; have GW179 := n2_; have GE179 := n3_; clear n0_ n1_ n2_ n3_; clear hb hbox hg; have hcz24_0 : w23.cell? ⟨gb179, 0, none⟩ = some (.int .i64 a0_0) := (blk_cell BK179.out 0).trans rfl; have hcz24_1 : w23.cell? ⟨gb179, 1, none⟩ = some (.int .i64 a0_1) := (blk_cell BK179.out 1).trans rfl; have hfz24_0 := blk_frozen BK179.out 0; have hfz24_1 := blk_frozen BK179.out 1) | ((with_reducible refine gate_callee (f := 61) rfl ?_); refine goesL_ (some 6) rfl rfl Try.func61 (by kernel_rfl) rfl #[.agg #[.int .i64 a0_0, .int .i64 a0_1]] rfl (by (try simp only [List.map_toArray, List.map_cons, List.map_nil]); first | done | rfl | (simp only [List.length_drop, List.length_take]; rfl)) ?_; (with_reducible refine (impl_IsStreet.calls a0_0 a0_1 true _ A3.out).mono ?_); rintro e w25 ⟨rfl, hb⟩; refine ⟨_, rfl, ?_⟩; have n0_ := Aside0.mk (blk_below (g := gb179) (o := .cells #[.int .i64 a0_0, .int .i64 a0_1] 43 (0, 0)) (by (with_reducible repeat (first | refine blk_drewN ?_ _ | refine blk_drew ?_ | refine blk_alloc ?_ _)); exact BK179.out) hb); have n1_ := Aside0.mk (below_step (by repeat (first | (with_reducible first | exact HB.out | apply below_alloc | apply pw_below_drewN | apply below_drew1 | refine below_set ?_ GE179.out) | exact HB.out)) hb); clear BK179; clear HB; have BK179 := n0_; have HB := n1_; clear n0_ n1_; (try clear hb); (try clear hb2); (try clear hk); (try clear hi)) | (go_at_call 41; (with_reducible refine (impl_AreDeliveries.calls k a1 false _ A5.out).mono ?_); rintro e w' ⟨rfl, ⟨nd, rfl⟩⟩))
      go_ret
      exact ⟨by first | rfl | (simp [errW_none, errW_some] <;> rfl) | (simp [*, errW_none, errW_some] <;> rfl), by repeat (first | (with_reducible first | exact HB.out | apply below_alloc | apply pw_below_drewN | apply below_drew1 | refine below_set ?_ GE179.out) | exact HB.out)⟩
  · replace c4 := Bool.eq_false_iff.mpr c4
    subst c4
    have H1 : (some false) = some r := by rw [if_neg (show ¬ (false = true) by decide)] at H; exact H
    clear H
    have H := H1
    clear H1
    obtain rfl := Option.some.inj H
    go_enter Try.func68, Try.ntmps68
    go_wp2_with (first | ((with_reducible refine gate_dst (N := 2) rfl ?_); (try (refine gate_guard (by rfl) ?_; dsimp only)); refine box_event ?hg (N := 2) ?hd (cs := #[.int .i64 a0_0, .int .i64 a0_1]) (t := 43) ?hr ?_; (case hd => rfl); (case hg => rfl); (case hr => first | (go_simp; done) | (go_simp; rfl)); intro gb179 hg w26 hbox hb; have n0_ := Aside0.mk (below_step (by repeat (first | (with_reducible first | exact HB.out | apply below_alloc | apply pw_below_drewN | apply below_drew1) | exact HB.out)) hb); have n1_ := Aside0.mk (hbox); have n2_ := Aside0.mk ((by rw [hg]; exact (below_size (by repeat (first | (with_reducible first | exact HB.out | apply below_alloc | apply pw_below_drewN | apply below_drew1) | exact HB.out))) : w.heap.size ≤ gb179)); have n3_ := Aside0.mk ((by rw [hg]; exact (below_size (by repeat (first | (with_reducible first | exact HB.out | apply below_alloc | apply pw_below_drewN | apply below_drew1) | exact HB.out))) : w.heap.size ≤ gb179)); clear HB; have HB := n0_; have BK179 := n1_; have GW179 := n2_; have GE179 := n3_; clear n0_ n1_ n2_ n3_; clear hb hbox hg; have hcz27_0 : w26.cell? ⟨gb179, 0, none⟩ = some (.int .i64 a0_0) := (blk_cell BK179.out 0).trans rfl; have hcz27_1 : w26.cell? ⟨gb179, 1, none⟩ = some (.int .i64 a0_1) := (blk_cell BK179.out 1).trans rfl; have hfz27_0 := blk_frozen BK179.out 0; have hfz27_1 := blk_frozen BK179.out 1) | ((with_reducible refine gate_callee (f := 61) rfl ?_); refine goesL_ (some 6) rfl rfl Try.func61 (by kernel_rfl) rfl #[.agg #[.int .i64 a0_0, .int .i64 a0_1]] rfl (by (try simp only [List.map_toArray, List.map_cons, List.map_nil]); first | done | rfl | (simp only [List.length_drop, List.length_take]; rfl)) ?_; (with_reducible refine (impl_IsStreet.calls a0_0 a0_1 false _ A3.out).mono ?_); rintro e w28 ⟨rfl, hb⟩; refine ⟨_, rfl, ?_⟩; have n0_ := Aside0.mk (blk_below (g := gb179) (o := .cells #[.int .i64 a0_0, .int .i64 a0_1] 43 (0, 0)) (by (with_reducible repeat (first | refine blk_drewN ?_ _ | refine blk_drew ?_ | refine blk_alloc ?_ _)); exact BK179.out) hb); have n1_ := Aside0.mk (below_step (by repeat (first | (with_reducible first | exact HB.out | apply below_alloc | apply pw_below_drewN | apply below_drew1 | refine below_set ?_ GE179.out) | exact HB.out)) hb); clear BK179; clear HB; have BK179 := n0_; have HB := n1_; clear n0_ n1_; (try clear hb); (try clear hb2); (try clear hk); (try clear hi)))
    go_ret
    exact ⟨by first | rfl | (simp [errW_none, errW_some] <;> rfl) | (simp [*, errW_none, errW_some] <;> rfl), by repeat (first | (with_reducible first | exact HB.out | apply below_alloc | apply pw_below_drewN | apply below_drew1 | refine below_set ?_ GE179.out) | exact HB.out)⟩

/-! ### impl_numberAt: function 84 -/
def impl_numberAt.f (a0_0 : Int) (a0_1 : Int) (a1 : Int) (a2 : Int) : Option (Int) := if a0_0 = 1 then (some (wrap64 ((wrap64 ((wrap64 (2 * a2)) + 1)) + a1))) else (if a1 = 1 then (some (wrap64 ((wrap64 (2 * a0_1)) - a2))) else (some (wrap64 (a2 + 1))))
set_option maxHeartbeats 8000000 in
set_option maxRecDepth 100000 in
theorem impl_numberAt.calls (a0_0 : Int) (a0_1 : Int) (a1 : Int) (a2 : Int) (r : Int) (w : World) (h : impl_numberAt.f a0_0 a0_1 a1 a2 = some r) :
    Calls Try.prog 84 #[.agg #[.int .i64 a0_0, .int .i64 a0_1], .int .i64 a1, .int .i64 a2] w fun e w' => e = .returned (.int .i64 r) ∧ Below w.heap.size w w' := by
  have hu43 := Try.underlying43
  have HB := Aside0.mk (Below.refl w.heap.size w)
  have H : (if a0_0 = 1 then (some (wrap64 ((wrap64 ((wrap64 (2 * a2)) + 1)) + a1))) else (if a1 = 1 then (some (wrap64 ((wrap64 (2 * a0_1)) - a2))) else (some (wrap64 (a2 + 1))))) = some r := h
  clear h
  by_cases c4 : a0_0 = 1
  · rw [if_pos c4] at H
    have c4b0 : (a0_0 == 1) = true := beq_iff_eq.mpr c4
    have c4b1 : (a0_0 != 1) = false := bne_eq_false_iff_eq.mpr c4
    clear c4
    obtain rfl := Option.some.inj H
    go_enter Try.func84, Try.ntmps84
    go_wp2_with (first | ((with_reducible refine gate_dst (N := 3) rfl ?_); refine box_event ?hg (N := 3) ?hd (cs := #[.int .i64 a0_0, .int .i64 a0_1]) (t := 43) ?hr ?_; (case hd => rfl); (case hg => rfl); (case hr => first | (go_simp; done) | (go_simp; rfl)); intro gb183 hg w5 hbox hb; have n0_ := Aside0.mk (below_step (by repeat (first | (with_reducible first | exact HB.out | apply below_alloc | apply pw_below_drewN | apply below_drew1) | exact HB.out)) hb); have n1_ := Aside0.mk (hbox); have n2_ := Aside0.mk ((by rw [hg]; exact (below_size (by repeat (first | (with_reducible first | exact HB.out | apply below_alloc | apply pw_below_drewN | apply below_drew1) | exact HB.out))) : w.heap.size ≤ gb183)); have n3_ := Aside0.mk ((by rw [hg]; exact (below_size (by repeat (first | (with_reducible first | exact HB.out | apply below_alloc | apply pw_below_drewN | apply below_drew1) | exact HB.out))) : w.heap.size ≤ gb183)); clear HB; have HB := n0_; have BK183 := n1_; have GW183 := n2_; have GE183 := n3_; clear n0_ n1_ n2_ n3_; clear hb hbox hg; have hcz6_0 : w5.cell? ⟨gb183, 0, none⟩ = some (.int .i64 a0_0) := (blk_cell BK183.out 0).trans rfl; have hcz6_1 : w5.cell? ⟨gb183, 1, none⟩ = some (.int .i64 a0_1) := (blk_cell BK183.out 1).trans rfl; have hfz6_0 := blk_frozen BK183.out 0; have hfz6_1 := blk_frozen BK183.out 1))
    go_ret
    exact ⟨by first | rfl | (simp [errW_none, errW_some] <;> rfl) | (simp [*, errW_none, errW_some] <;> rfl), by repeat (first | (with_reducible first | exact HB.out | apply below_alloc | apply pw_below_drewN | apply below_drew1 | refine below_set ?_ GE183.out) | exact HB.out)⟩
  · rw [if_neg c4] at H
    have c4b0 : (a0_0 == 1) = false := beq_eq_false_iff_ne.mpr c4
    have c4b1 : (a0_0 != 1) = true := bne_iff_ne.mpr c4
    by_cases c7 : a1 = 1
    · rw [if_pos c7] at H
      have c7b0 : (a1 == 1) = true := beq_iff_eq.mpr c7
      have c7b1 : (a1 != 1) = false := bne_eq_false_iff_eq.mpr c7
      clear c7
      obtain rfl := Option.some.inj H
      go_enter Try.func84, Try.ntmps84
      go_wp2_with (first | ((with_reducible refine gate_dst (N := 3) rfl ?_); refine box_event ?hg (N := 3) ?hd (cs := #[.int .i64 a0_0, .int .i64 a0_1]) (t := 43) ?hr ?_; (case hd => rfl); (case hg => rfl); (case hr => first | (go_simp; done) | (go_simp; rfl)); intro gb183 hg w8 hbox hb; have n0_ := Aside0.mk (below_step (by repeat (first | (with_reducible first | exact HB.out | apply below_alloc | apply pw_below_drewN | apply below_drew1) | exact HB.out)) hb); have n1_ := Aside0.mk (hbox); have n2_ := Aside0.mk ((by rw [hg]; exact (below_size (by repeat (first | (with_reducible first | exact HB.out | apply below_alloc | apply pw_below_drewN | apply below_drew1) | exact HB.out))) : w.heap.size ≤ gb183)); have n3_ := Aside0.mk ((by rw [hg]; exact (below_size (by repeat (first | (with_reducible first | exact HB.out | apply below_alloc | apply pw_below_drewN | apply below_drew1) | exact HB.out))) : w.heap.size ≤ gb183)); clear HB; have HB := n0_; have BK183 := n1_; have GW183 := n2_; have GE183 := n3_; clear n0_ n1_ n2_ n3_; clear hb hbox hg; have hcz9_0 : w8.cell? ⟨gb183, 0, none⟩ = some (.int .i64 a0_0) := (blk_cell BK183.out 0).trans rfl; have hcz9_1 : w8.cell? ⟨gb183, 1, none⟩ = some (.int .i64 a0_1) := (blk_cell BK183.out 1).trans rfl; have hfz9_0 := blk_frozen BK183.out 0; have hfz9_1 := blk_frozen BK183.out 1))
      go_ret
      exact ⟨by first | rfl | (simp [errW_none, errW_some] <;> rfl) | (simp [*, errW_none, errW_some] <;> rfl), by repeat (first | (with_reducible first | exact HB.out | apply below_alloc | apply pw_below_drewN | apply below_drew1 | refine below_set ?_ GE183.out) | exact HB.out)⟩
    · rw [if_neg c7] at H
      have c7b0 : (a1 == 1) = false := beq_eq_false_iff_ne.mpr c7
      have c7b1 : (a1 != 1) = true := bne_iff_ne.mpr c7
      obtain rfl := Option.some.inj H
      go_enter Try.func84, Try.ntmps84
      go_wp2_with (first | ((with_reducible refine gate_dst (N := 3) rfl ?_); refine box_event ?hg (N := 3) ?hd (cs := #[.int .i64 a0_0, .int .i64 a0_1]) (t := 43) ?hr ?_; (case hd => rfl); (case hg => rfl); (case hr => first | (go_simp; done) | (go_simp; rfl)); intro gb183 hg w10 hbox hb; have n0_ := Aside0.mk (below_step (by repeat (first | (with_reducible first | exact HB.out | apply below_alloc | apply pw_below_drewN | apply below_drew1) | exact HB.out)) hb); have n1_ := Aside0.mk (hbox); have n2_ := Aside0.mk ((by rw [hg]; exact (below_size (by repeat (first | (with_reducible first | exact HB.out | apply below_alloc | apply pw_below_drewN | apply below_drew1) | exact HB.out))) : w.heap.size ≤ gb183)); have n3_ := Aside0.mk ((by rw [hg]; exact (below_size (by repeat (first | (with_reducible first | exact HB.out | apply below_alloc | apply pw_below_drewN | apply below_drew1) | exact HB.out))) : w.heap.size ≤ gb183)); clear HB; have HB := n0_; have BK183 := n1_; have GW183 := n2_; have GE183 := n3_; clear n0_ n1_ n2_ n3_; clear hb hbox hg; have hcz11_0 : w10.cell? ⟨gb183, 0, none⟩ = some (.int .i64 a0_0) := (blk_cell BK183.out 0).trans rfl; have hcz11_1 : w10.cell? ⟨gb183, 1, none⟩ = some (.int .i64 a0_1) := (blk_cell BK183.out 1).trans rfl; have hfz11_0 := blk_frozen BK183.out 0; have hfz11_1 := blk_frozen BK183.out 1))
      go_ret
      exact ⟨by first | rfl | (simp [errW_none, errW_some] <;> rfl) | (simp [*, errW_none, errW_some] <;> rfl), by repeat (first | (with_reducible first | exact HB.out | apply below_alloc | apply pw_below_drewN | apply below_drew1 | refine below_set ?_ GE183.out) | exact HB.out)⟩

/-! ### impl_routeNumbers: function 69 -/
def impl_routeNumbers.num (k p own plot : Int) : Int := (impl_numberAt.f k p own plot).getD 0
theorem impl_routeNumbers.num_f (k p own plot : Int) : impl_numberAt.f k p own plot = some (impl_routeNumbers.num k p own plot) := by
  unfold impl_routeNumbers.num impl_numberAt.f
  repeat' split
  all_goals rfl
def impl_routeNumbers.lr (own : Int) : Int := if own = 0 then 108 else 114
/-- One side of a plot: its house's number, if it gets post. -/
def impl_routeNumbers.one (k p b plot own : Int) (acc : List Int) : List Int := if b = 98 ∨ b = impl_routeNumbers.lr own then acc ++ [impl_routeNumbers.num k p own plot] else acc
def impl_routeNumbers.side (l : List Int) : Nat → Int
  | 0 => 0
  | j + 1 => rd l (j : Int)
def impl_routeNumbers.acc (k p : Int) (t : ByteArray) (l : List Int) : Nat → List Int
  | 0 => []
  | j + 1 => impl_routeNumbers.one k p (bt t j) j (1 - impl_routeNumbers.side l j) (impl_routeNumbers.one k p (bt t j) j (impl_routeNumbers.side l j) (impl_routeNumbers.acc k p t l j))
def impl_routeNumbers.acc2 (k p : Int) (t : ByteArray) (l : List Int) (j : Nat) : Nat → List Int
  | 0 => impl_routeNumbers.acc k p t l j
  | 1 => impl_routeNumbers.one k p (bt t j) j (impl_routeNumbers.side l j) (impl_routeNumbers.acc k p t l j)
  | _ => impl_routeNumbers.acc k p t l (j + 1)
def impl_routeNumbers.f (a0_0 : Int) (a0_1 : Int) (a1 : ByteArray) (l2 : List Int) : Option (List Int) := if a1.size ≤ 1048576 ∧ l2.length = a1.size ∧ (l2.all fun x => decide (0 ≤ x ∧ x ≤ 1)) = true then some (impl_routeNumbers.acc a0_0 a0_1 a1 l2 a1.size) else none
theorem impl_routeNumbers.one_len (k p b plot own : Int) (acc : List Int) : (impl_routeNumbers.one k p b plot own acc).length ≤ acc.length + 1 := by
  unfold impl_routeNumbers.one
  split
  · simp
  · omega
theorem impl_routeNumbers.acc_len (k p : Int) (t : ByteArray) (l : List Int) : ∀ j, (impl_routeNumbers.acc k p t l j).length ≤ 2 * j
  | 0 => Nat.le_refl _
  | j + 1 => by
    have := impl_routeNumbers.acc_len k p t l j
    have h1 := impl_routeNumbers.one_len k p (bt t j) j (impl_routeNumbers.side l j) (impl_routeNumbers.acc k p t l j)
    have h2 := impl_routeNumbers.one_len k p (bt t j) j (1 - impl_routeNumbers.side l j) (impl_routeNumbers.one k p (bt t j) j (impl_routeNumbers.side l j) (impl_routeNumbers.acc k p t l j))
    unfold impl_routeNumbers.acc
    omega
theorem impl_routeNumbers.acc2_len (k p : Int) (t : ByteArray) (l : List Int) (j i : Nat) (hi : i < 2) : (impl_routeNumbers.acc2 k p t l j i).length ≤ 2 * j + 1 := by
  have := impl_routeNumbers.acc_len k p t l j
  rcases (show i = 0 ∨ i = 1 by omega) with rfl | rfl
  · show (impl_routeNumbers.acc k p t l j).length ≤ _; omega
  · have h1 := impl_routeNumbers.one_len k p (bt t j) j (impl_routeNumbers.side l j) (impl_routeNumbers.acc k p t l j)
    show (impl_routeNumbers.one k p (bt t j) j (impl_routeNumbers.side l j) (impl_routeNumbers.acc k p t l j)).length ≤ _; omega
theorem impl_routeNumbers.side_01 {l : List Int} (h : (l.all fun x => decide (0 ≤ x ∧ x ≤ 1)) = true) : ∀ j, j ≤ l.length → impl_routeNumbers.side l j = 0 ∨ impl_routeNumbers.side l j = 1
  | 0, _ => .inl rfl
  | j + 1, hj => by
    have hj' : j < l.length := by omega
    have h1 := List.all_eq_true.1 h l[j] (List.getElem_mem hj')
    have h2 : impl_routeNumbers.side l (j + 1) = l[j] := by simp [impl_routeNumbers.side, rd, hj']
    rw [h2]
    simp only [decide_eq_true_eq] at h1
    omega
def impl_routeNumbers.own (l : List Int) (j i : Nat) : Int := if i = 0 then impl_routeNumbers.side l j else 1 - impl_routeNumbers.side l j
theorem impl_routeNumbers.acc2_succ (k p : Int) (t : ByteArray) (l : List Int) (j i : Nat) (hi : i < 2) : impl_routeNumbers.acc2 k p t l j (i + 1) = impl_routeNumbers.one k p (bt t j) j (impl_routeNumbers.own l j i) (impl_routeNumbers.acc2 k p t l j i) := by
  rcases (show i = 0 ∨ i = 1 by omega) with rfl | rfl <;> rfl
theorem impl_routeNumbers.leaf_in {k p : Int} {t : ByteArray} {l : List Int} {j i : Nat} {o : Int} (hi : i < 2) (hs : impl_routeNumbers.own l j i = o) (hb : bt t j = 98 ∨ bt t j = impl_routeNumbers.lr o) : impl_routeNumbers.acc2 k p t l j (i + 1) = impl_routeNumbers.acc2 k p t l j i ++ [impl_routeNumbers.num k p o j] := by
  rw [impl_routeNumbers.acc2_succ k p t l j i hi, hs]
  unfold impl_routeNumbers.one
  rw [if_pos hb]
theorem impl_routeNumbers.leaf_out {k p : Int} {t : ByteArray} {l : List Int} {j i : Nat} {o : Int} (hi : i < 2) (hs : impl_routeNumbers.own l j i = o) (hb : ¬ (bt t j = 98 ∨ bt t j = impl_routeNumbers.lr o)) : impl_routeNumbers.acc2 k p t l j (i + 1) = impl_routeNumbers.acc2 k p t l j i := by
  rw [impl_routeNumbers.acc2_succ k p t l j i hi, hs]
  unfold impl_routeNumbers.one
  rw [if_neg hb]
/-- What a world of the walk is. -/
structure impl_routeNumbers.RW (w wr : World) (k p : Int) (v : Value) (xs : List Int) : Prop where
  box : wr.heap[w.heap.size]? = some (.cells #[.int .i64 k, .int .i64 p] 43 (0, 0))
  row : Kd.R (Kd.int .i64) 3 wr w.heap.size (fun _ => True) v xs
  bel : Below w.heap.size w wr
theorem impl_routeNumbers.RW.below {w wr w1 : World} {k p : Int} {v : Value} {xs : List Int} (h : impl_routeNumbers.RW w wr k p v xs) (hb : Below wr.heap.size wr w1) : impl_routeNumbers.RW w w1 k p v xs :=
  ⟨(hb.block _ (blk_lt h.box)).trans h.box, Kd.R_below h.row hb, below_then h.bel h.bel.size hb⟩
theorem impl_routeNumbers.RW.app {w W w1 : World} {k p : Int} {v v1 : Value} {xs ys : List Int} (h : impl_routeNumbers.RW w W k p v xs) (ho : Kd.R (Kd.int .i64) 3 w1 w.heap.size (fun _ => True) v1 ys) (hb : Below w.heap.size w w1) (hg : W.grownBy w1 v.ownBlock) : impl_routeNumbers.RW w w1 k p v1 ys :=
  ⟨blk_grown h.box hg (Kd.R_ne h.row h.box (by decide)), ho, hb⟩
theorem impl_routeNumbers.info3 : (Try.prog.info? 3).map (fun i => (i.zero, i.size, i.bytes)) = some (some (.int .i64 0), 1, 8) := by kernel_rfl
set_option maxHeartbeats 4000000 in
set_option maxRecDepth 100000 in
theorem impl_routeNumbers.calls (a0_0 : Int) (a0_1 : Int) (a1 : ByteArray) (A2 : Option Addr) (c2 : Nat) (l2 : List Int) (r : List Int) (w : World) (hr2 : Kd.C (Kd.int .i64) w A2 l2.length l2) (hc2 : l2.length ≤ c2) (h : impl_routeNumbers.f a0_0 a0_1 a1 l2 = some r) :
    Calls Try.prog 69 #[.agg #[.int .i64 a0_0, .int .i64 a0_1], .string a1, .slice A2 l2.length c2] w fun e w' => ∃ v0_ : Value, e = .returned (v0_) ∧ Kd.R (Kd.int .i64) 3 w' w.heap.size (fun _ => True) v0_ r ∧ Below w.heap.size w w' := by
  unfold impl_routeNumbers.f at h
  by_cases hs : a1.size ≤ 1048576 ∧ l2.length = a1.size ∧ (l2.all fun x => decide (0 ≤ x ∧ x ≤ 1)) = true
  · rw [if_pos hs] at h
    have HE := Lib.hid (Option.some.inj h)
    have HS := Lib.hid hs
    have HR := Lib.hid hr2
    have hz := hs.1
    have hu43 := Try.underlying43
    have hu80 := Try.underlying80
    have hrw : impl_routeNumbers.RW w (w.alloc (.cells #[.int .i64 a0_0, .int .i64 a0_1] 43)) a0_0 a0_1 (.slice none 0 0) [] := ⟨blk_new w _, Kd.R_nil _ _ _ _ _, below_alloc (Below.refl _ _) _⟩
    have HW := Lib.hid hrw
    clear h hs hrw hr2 hc2
    go_enter Try.func69, Try.ntmps69
    go_wp2_with fail
    generalize (w.alloc (.cells #[.int .i64 a0_0, .int .i64 a0_1] 43)) = W1 at HW ⊢
    go_loopw [15, 7, 8] (fun v v7 v8 wr => ∃ j : Nat, j ≤ a1.size ∧ v = .int .i64 j ∧ v8 = .int .i64 (impl_routeNumbers.side l2 j) ∧ impl_routeNumbers.RW w wr a0_0 a0_1 v7 (impl_routeNumbers.acc a0_0 a0_1 a1 l2 j)) (fun v _ _ _ => a1.size - (intOf v).toNat)
    case atStart => exact ⟨0, by omega, rfl, rfl, HW.out⟩
    case round =>
      obtain ⟨j, hj, rfl, rfl, hrw⟩ := hrel
      clear HW
      have HW := Lib.hid hrw
      clear hrw
      by_cases hlt : j < a1.size
      · have hp0 : (0 : Int) ≤ (j : Int) := by omega
        have hp1 : (j : Int) < (a1.size : Int) := by omega
        have hp2 : (j : Int) < (l2.length : Int) := by have := HS.out.2.1; omega
        obtain ⟨ad, ead, _⟩ := Kd.at_int (Kd.C_below HR.out HW.out.bel) (j : Int) hp0 hp2
        subst ead
        have hb := bt_at a1 (j : Int) hlt
        have HB := Lib.hid hb
        clear hb
        rcases impl_routeNumbers.side_01 HS.out.2.2 j (by have := HS.out.2.1; omega) with hsd | hsd
        · have HSD := Lib.hid hsd
          have e1 : IntKind.i64.wrap (1 - impl_routeNumbers.side l2 j) = 1 := by rw [hsd]; rfl
          rw [hsd]
          clear hsd
          go_wp2_with fail
          go_loopw [22, 7] (fun v v7 wr => ∃ i : Nat, i ≤ 2 ∧ v = .int .i64 i ∧ impl_routeNumbers.RW w wr a0_0 a0_1 v7 (impl_routeNumbers.acc2 a0_0 a0_1 a1 l2 j i)) (fun v _ _ => 2 - (intOf v).toNat)
          case atStart => exact ⟨0, by omega, rfl, HW.out⟩
          case round =>
            obtain ⟨i, hi, rfl, hrw⟩ := hrel
            clear HW
            have HW := Lib.hid hrw
            clear hrw
            rcases (show i = 0 ∨ i = 1 ∨ i = 2 by omega) with rfl | rfl | rfl
            · clear hi
              have ix : ∀ w, (Instr.index 80 (.agg #[.int .i64 0, .int .i64 1]) (.int .i64 0)).run Try.prog w = .ok (.int .i64 0) w := fun _ => by kernel_rfl
              have ix2 : ∀ w, (Instr.index 9 (.string ⟨#[108, 114]⟩) (.int .i64 0)).run Try.prog w = .ok (.int .u8 108) w := fun _ => by kernel_rfl
              rw [show (((0 : Nat) : Int)) = 0 from rfl]
              have hcz0 : wr.cell? ⟨w.heap.size, 0, none⟩ = some (.int .i64 a0_0) := (blk_cell HW.out.box 0).trans rfl
              have hcz1 : wr.cell? ⟨w.heap.size, 1, none⟩ = some (.int .i64 a0_1) := (blk_cell HW.out.box 1).trans rfl
              have hfz0 := blk_frozen HW.out.box 0
              have hfz1 := blk_frozen HW.out.box 1
              by_cases h98 : ((a1[j]'hlt).toNat : Int) = 98
              · have d1 : (((a1[j]'hlt).toNat : Int) == 98) = true := beq_iff_eq.mpr h98
                have HBB : bt a1 (j : Int) = 98 ∨ bt a1 (j : Int) = impl_routeNumbers.lr 0 := .inl (HB.out.symm.trans h98)
                clear h98
                have hN := impl_routeNumbers.leaf_in (k := a0_0) (p := a0_1) (t := a1) (l := l2) (j := j) (i := 0) (o := 0) (by decide) (by unfold impl_routeNumbers.own; rw [HSD.out]; rfl) HBB
                have HN := Lib.hid hN
                have HL := Lib.hid (impl_routeNumbers.acc2_len a0_0 a0_1 a1 l2 j 0 (by decide))
                clear hN HBB
                go_wp2_with (first
                  | (go_at_call 84; refine (impl_numberAt.calls a0_0 a0_1 0 (j : Int) _ _ (impl_routeNumbers.num_f a0_0 a0_1 0 (j : Int))).mono ?_; rintro e wn ⟨rfl, hb⟩; have hw2 := HW.out.below hb; clear HW hb hcz0 hcz1 hfz0 hfz1; have HW := Lib.hid hw2; clear hw2)
                  | ((with_reducible refine gate_builtin (b := .append) (xs := #[.tmp 36, .tmp 41]) rfl ?_); at_builtin; refine Kd.R_append (Kd.int .i64) (w0 := w) w.heap.size rfl (.tmp 36) (.tmp 41) 22 3 (.int .i64 0) 8 rfl Try.underlying22 impl_routeNumbers.info3 rfl (by decide) (by omega) _ (impl_routeNumbers.acc2 a0_0 a0_1 a1 l2 j 0) (impl_routeNumbers.num a0_0 a0_1 0 (j : Int)) [.int .i64 (impl_routeNumbers.num a0_0 a0_1 0 (j : Int))] (fun _ => True) (fun _ => False) rfl rfl ?aP (fun _ hk => hk.elim) ?aF ?aO ?aB ?aS ?aL ?_; (case aP => exact rfl); (case aB => exact HW.out.bel); (case aF => exact (fun _ _ => trivial)); (case aO => exact HW.out.row); (case aS => exact HW.out.bel.size); (case aL => have := HL.out; omega); intro v1 w1 ho hb hg hat; rw [← HN.out] at ho; have hw2 := HW.out.app ho hb hg; clear HW ho hb hg hat; have HW := Lib.hid hw2; clear hw2))
                go_roundw
                case rel => exact ⟨1, by omega, by go_num, HW.out⟩
                case measure => simp [intOf] <;> omega
              · have d1 : (((a1[j]'hlt).toNat : Int) == 98) = false := beq_eq_false_iff_ne.mpr h98
                by_cases hL : ((a1[j]'hlt).toNat : Int) = 108
                · have d2 : (((a1[j]'hlt).toNat : Int) == 108) = true := beq_iff_eq.mpr hL
                  have HBB : bt a1 (j : Int) = 98 ∨ bt a1 (j : Int) = impl_routeNumbers.lr 0 := .inr (HB.out.symm.trans hL)
                  clear h98 hL
                  have hN := impl_routeNumbers.leaf_in (k := a0_0) (p := a0_1) (t := a1) (l := l2) (j := j) (i := 0) (o := 0) (by decide) (by unfold impl_routeNumbers.own; rw [HSD.out]; rfl) HBB
                  have HN := Lib.hid hN
                  have HL := Lib.hid (impl_routeNumbers.acc2_len a0_0 a0_1 a1 l2 j 0 (by decide))
                  clear hN HBB
                  go_wp2_with (first
                    | (go_at_call 84; refine (impl_numberAt.calls a0_0 a0_1 0 (j : Int) _ _ (impl_routeNumbers.num_f a0_0 a0_1 0 (j : Int))).mono ?_; rintro e wn ⟨rfl, hb⟩; have hw2 := HW.out.below hb; clear HW hb hcz0 hcz1 hfz0 hfz1; have HW := Lib.hid hw2; clear hw2)
                    | ((with_reducible refine gate_builtin (b := .append) (xs := #[.tmp 36, .tmp 41]) rfl ?_); at_builtin; refine Kd.R_append (Kd.int .i64) (w0 := w) w.heap.size rfl (.tmp 36) (.tmp 41) 22 3 (.int .i64 0) 8 rfl Try.underlying22 impl_routeNumbers.info3 rfl (by decide) (by omega) _ (impl_routeNumbers.acc2 a0_0 a0_1 a1 l2 j 0) (impl_routeNumbers.num a0_0 a0_1 0 (j : Int)) [.int .i64 (impl_routeNumbers.num a0_0 a0_1 0 (j : Int))] (fun _ => True) (fun _ => False) rfl rfl ?aP (fun _ hk => hk.elim) ?aF ?aO ?aB ?aS ?aL ?_; (case aP => exact rfl); (case aB => exact HW.out.bel); (case aF => exact (fun _ _ => trivial)); (case aO => exact HW.out.row); (case aS => exact HW.out.bel.size); (case aL => have := HL.out; omega); intro v1 w1 ho hb hg hat; rw [← HN.out] at ho; have hw2 := HW.out.app ho hb hg; clear HW ho hb hg hat; have HW := Lib.hid hw2; clear hw2))
                  go_roundw
                  case rel => exact ⟨1, by omega, by go_num, HW.out⟩
                  case measure => simp [intOf] <;> omega
                · have d2 : (((a1[j]'hlt).toNat : Int) == 108) = false := beq_eq_false_iff_ne.mpr hL
                  have hN := impl_routeNumbers.leaf_out (k := a0_0) (p := a0_1) (t := a1) (l := l2) (j := j) (i := 0) (o := 0) (by decide) (by unfold impl_routeNumbers.own; rw [HSD.out]; rfl) (fun e => e.elim (fun e => h98 (HB.out.trans e)) (fun e => hL (HB.out.trans e)))
                  have HN := Lib.hid hN
                  clear hN h98 hL
                  go_wp2_with fail
                  go_roundw
                  case rel => exact ⟨1, by omega, by go_num, by rw [HN.out]; exact HW.out⟩
                  case measure => simp [intOf] <;> omega
            · clear hi
              have ix : ∀ w, (Instr.index 80 (.agg #[.int .i64 0, .int .i64 1]) (.int .i64 1)).run Try.prog w = .ok (.int .i64 1) w := fun _ => by kernel_rfl
              have ix2 : ∀ w, (Instr.index 9 (.string ⟨#[108, 114]⟩) (.int .i64 1)).run Try.prog w = .ok (.int .u8 114) w := fun _ => by kernel_rfl
              rw [show (((1 : Nat) : Int)) = 1 from rfl]
              have hcz0 : wr.cell? ⟨w.heap.size, 0, none⟩ = some (.int .i64 a0_0) := (blk_cell HW.out.box 0).trans rfl
              have hcz1 : wr.cell? ⟨w.heap.size, 1, none⟩ = some (.int .i64 a0_1) := (blk_cell HW.out.box 1).trans rfl
              have hfz0 := blk_frozen HW.out.box 0
              have hfz1 := blk_frozen HW.out.box 1
              by_cases h98 : ((a1[j]'hlt).toNat : Int) = 98
              · have d1 : (((a1[j]'hlt).toNat : Int) == 98) = true := beq_iff_eq.mpr h98
                have HBB : bt a1 (j : Int) = 98 ∨ bt a1 (j : Int) = impl_routeNumbers.lr 1 := .inl (HB.out.symm.trans h98)
                clear h98
                have hN := impl_routeNumbers.leaf_in (k := a0_0) (p := a0_1) (t := a1) (l := l2) (j := j) (i := 1) (o := 1) (by decide) (by unfold impl_routeNumbers.own; rw [HSD.out]; rfl) HBB
                have HN := Lib.hid hN
                have HL := Lib.hid (impl_routeNumbers.acc2_len a0_0 a0_1 a1 l2 j 1 (by decide))
                clear hN HBB
                go_wp2_with (first
                  | (go_at_call 84; refine (impl_numberAt.calls a0_0 a0_1 1 (j : Int) _ _ (impl_routeNumbers.num_f a0_0 a0_1 1 (j : Int))).mono ?_; rintro e wn ⟨rfl, hb⟩; have hw2 := HW.out.below hb; clear HW hb hcz0 hcz1 hfz0 hfz1; have HW := Lib.hid hw2; clear hw2)
                  | ((with_reducible refine gate_builtin (b := .append) (xs := #[.tmp 36, .tmp 41]) rfl ?_); at_builtin; refine Kd.R_append (Kd.int .i64) (w0 := w) w.heap.size rfl (.tmp 36) (.tmp 41) 22 3 (.int .i64 0) 8 rfl Try.underlying22 impl_routeNumbers.info3 rfl (by decide) (by omega) _ (impl_routeNumbers.acc2 a0_0 a0_1 a1 l2 j 1) (impl_routeNumbers.num a0_0 a0_1 1 (j : Int)) [.int .i64 (impl_routeNumbers.num a0_0 a0_1 1 (j : Int))] (fun _ => True) (fun _ => False) rfl rfl ?aP (fun _ hk => hk.elim) ?aF ?aO ?aB ?aS ?aL ?_; (case aP => exact rfl); (case aB => exact HW.out.bel); (case aF => exact (fun _ _ => trivial)); (case aO => exact HW.out.row); (case aS => exact HW.out.bel.size); (case aL => have := HL.out; omega); intro v1 w1 ho hb hg hat; rw [← HN.out] at ho; have hw2 := HW.out.app ho hb hg; clear HW ho hb hg hat; have HW := Lib.hid hw2; clear hw2))
                go_roundw
                case rel => exact ⟨2, by omega, by go_num, HW.out⟩
                case measure => simp [intOf] <;> omega
              · have d1 : (((a1[j]'hlt).toNat : Int) == 98) = false := beq_eq_false_iff_ne.mpr h98
                by_cases hL : ((a1[j]'hlt).toNat : Int) = 114
                · have d2 : (((a1[j]'hlt).toNat : Int) == 114) = true := beq_iff_eq.mpr hL
                  have HBB : bt a1 (j : Int) = 98 ∨ bt a1 (j : Int) = impl_routeNumbers.lr 1 := .inr (HB.out.symm.trans hL)
                  clear h98 hL
                  have hN := impl_routeNumbers.leaf_in (k := a0_0) (p := a0_1) (t := a1) (l := l2) (j := j) (i := 1) (o := 1) (by decide) (by unfold impl_routeNumbers.own; rw [HSD.out]; rfl) HBB
                  have HN := Lib.hid hN
                  have HL := Lib.hid (impl_routeNumbers.acc2_len a0_0 a0_1 a1 l2 j 1 (by decide))
                  clear hN HBB
                  go_wp2_with (first
                    | (go_at_call 84; refine (impl_numberAt.calls a0_0 a0_1 1 (j : Int) _ _ (impl_routeNumbers.num_f a0_0 a0_1 1 (j : Int))).mono ?_; rintro e wn ⟨rfl, hb⟩; have hw2 := HW.out.below hb; clear HW hb hcz0 hcz1 hfz0 hfz1; have HW := Lib.hid hw2; clear hw2)
                    | ((with_reducible refine gate_builtin (b := .append) (xs := #[.tmp 36, .tmp 41]) rfl ?_); at_builtin; refine Kd.R_append (Kd.int .i64) (w0 := w) w.heap.size rfl (.tmp 36) (.tmp 41) 22 3 (.int .i64 0) 8 rfl Try.underlying22 impl_routeNumbers.info3 rfl (by decide) (by omega) _ (impl_routeNumbers.acc2 a0_0 a0_1 a1 l2 j 1) (impl_routeNumbers.num a0_0 a0_1 1 (j : Int)) [.int .i64 (impl_routeNumbers.num a0_0 a0_1 1 (j : Int))] (fun _ => True) (fun _ => False) rfl rfl ?aP (fun _ hk => hk.elim) ?aF ?aO ?aB ?aS ?aL ?_; (case aP => exact rfl); (case aB => exact HW.out.bel); (case aF => exact (fun _ _ => trivial)); (case aO => exact HW.out.row); (case aS => exact HW.out.bel.size); (case aL => have := HL.out; omega); intro v1 w1 ho hb hg hat; rw [← HN.out] at ho; have hw2 := HW.out.app ho hb hg; clear HW ho hb hg hat; have HW := Lib.hid hw2; clear hw2))
                  go_roundw
                  case rel => exact ⟨2, by omega, by go_num, HW.out⟩
                  case measure => simp [intOf] <;> omega
                · have d2 : (((a1[j]'hlt).toNat : Int) == 114) = false := beq_eq_false_iff_ne.mpr hL
                  have hN := impl_routeNumbers.leaf_out (k := a0_0) (p := a0_1) (t := a1) (l := l2) (j := j) (i := 1) (o := 1) (by decide) (by unfold impl_routeNumbers.own; rw [HSD.out]; rfl) (fun e => e.elim (fun e => h98 (HB.out.trans e)) (fun e => hL (HB.out.trans e)))
                  have HN := Lib.hid hN
                  clear hN h98 hL
                  go_wp2_with fail
                  go_roundw
                  case rel => exact ⟨2, by omega, by go_num, by rw [HN.out]; exact HW.out⟩
                  case measure => simp [intOf] <;> omega
            · clear hi
              obtain ⟨ad', ead, hx⟩ := Kd.at_int (Kd.C_below HR.out HW.out.bel) (j : Int) hp0 hp2
              obtain rfl : ad = ad' := Option.some.inj ead
              rw [Int.toNat_natCast] at hx
              go_wp2_with fail
              go_roundw
              case rel => exact ⟨j + 1, by omega, by go_num, rfl, HW.out⟩
              case measure => simp [intOf] <;> omega
        · have HSD := Lib.hid hsd
          have e1 : IntKind.i64.wrap (1 - impl_routeNumbers.side l2 j) = 0 := by rw [hsd]; rfl
          rw [hsd]
          clear hsd
          go_wp2_with fail
          go_loopw [22, 7] (fun v v7 wr => ∃ i : Nat, i ≤ 2 ∧ v = .int .i64 i ∧ impl_routeNumbers.RW w wr a0_0 a0_1 v7 (impl_routeNumbers.acc2 a0_0 a0_1 a1 l2 j i)) (fun v _ _ => 2 - (intOf v).toNat)
          case atStart => exact ⟨0, by omega, rfl, HW.out⟩
          case round =>
            obtain ⟨i, hi, rfl, hrw⟩ := hrel
            clear HW
            have HW := Lib.hid hrw
            clear hrw
            rcases (show i = 0 ∨ i = 1 ∨ i = 2 by omega) with rfl | rfl | rfl
            · clear hi
              have ix : ∀ w, (Instr.index 80 (.agg #[.int .i64 1, .int .i64 0]) (.int .i64 0)).run Try.prog w = .ok (.int .i64 1) w := fun _ => by kernel_rfl
              have ix2 : ∀ w, (Instr.index 9 (.string ⟨#[108, 114]⟩) (.int .i64 1)).run Try.prog w = .ok (.int .u8 114) w := fun _ => by kernel_rfl
              rw [show (((0 : Nat) : Int)) = 0 from rfl]
              have hcz0 : wr.cell? ⟨w.heap.size, 0, none⟩ = some (.int .i64 a0_0) := (blk_cell HW.out.box 0).trans rfl
              have hcz1 : wr.cell? ⟨w.heap.size, 1, none⟩ = some (.int .i64 a0_1) := (blk_cell HW.out.box 1).trans rfl
              have hfz0 := blk_frozen HW.out.box 0
              have hfz1 := blk_frozen HW.out.box 1
              by_cases h98 : ((a1[j]'hlt).toNat : Int) = 98
              · have d1 : (((a1[j]'hlt).toNat : Int) == 98) = true := beq_iff_eq.mpr h98
                have HBB : bt a1 (j : Int) = 98 ∨ bt a1 (j : Int) = impl_routeNumbers.lr 1 := .inl (HB.out.symm.trans h98)
                clear h98
                have hN := impl_routeNumbers.leaf_in (k := a0_0) (p := a0_1) (t := a1) (l := l2) (j := j) (i := 0) (o := 1) (by decide) (by unfold impl_routeNumbers.own; rw [HSD.out]; rfl) HBB
                have HN := Lib.hid hN
                have HL := Lib.hid (impl_routeNumbers.acc2_len a0_0 a0_1 a1 l2 j 0 (by decide))
                clear hN HBB
                go_wp2_with (first
                  | (go_at_call 84; refine (impl_numberAt.calls a0_0 a0_1 1 (j : Int) _ _ (impl_routeNumbers.num_f a0_0 a0_1 1 (j : Int))).mono ?_; rintro e wn ⟨rfl, hb⟩; have hw2 := HW.out.below hb; clear HW hb hcz0 hcz1 hfz0 hfz1; have HW := Lib.hid hw2; clear hw2)
                  | ((with_reducible refine gate_builtin (b := .append) (xs := #[.tmp 36, .tmp 41]) rfl ?_); at_builtin; refine Kd.R_append (Kd.int .i64) (w0 := w) w.heap.size rfl (.tmp 36) (.tmp 41) 22 3 (.int .i64 0) 8 rfl Try.underlying22 impl_routeNumbers.info3 rfl (by decide) (by omega) _ (impl_routeNumbers.acc2 a0_0 a0_1 a1 l2 j 0) (impl_routeNumbers.num a0_0 a0_1 1 (j : Int)) [.int .i64 (impl_routeNumbers.num a0_0 a0_1 1 (j : Int))] (fun _ => True) (fun _ => False) rfl rfl ?aP (fun _ hk => hk.elim) ?aF ?aO ?aB ?aS ?aL ?_; (case aP => exact rfl); (case aB => exact HW.out.bel); (case aF => exact (fun _ _ => trivial)); (case aO => exact HW.out.row); (case aS => exact HW.out.bel.size); (case aL => have := HL.out; omega); intro v1 w1 ho hb hg hat; rw [← HN.out] at ho; have hw2 := HW.out.app ho hb hg; clear HW ho hb hg hat; have HW := Lib.hid hw2; clear hw2))
                go_roundw
                case rel => exact ⟨1, by omega, by go_num, HW.out⟩
                case measure => simp [intOf] <;> omega
              · have d1 : (((a1[j]'hlt).toNat : Int) == 98) = false := beq_eq_false_iff_ne.mpr h98
                by_cases hL : ((a1[j]'hlt).toNat : Int) = 114
                · have d2 : (((a1[j]'hlt).toNat : Int) == 114) = true := beq_iff_eq.mpr hL
                  have HBB : bt a1 (j : Int) = 98 ∨ bt a1 (j : Int) = impl_routeNumbers.lr 1 := .inr (HB.out.symm.trans hL)
                  clear h98 hL
                  have hN := impl_routeNumbers.leaf_in (k := a0_0) (p := a0_1) (t := a1) (l := l2) (j := j) (i := 0) (o := 1) (by decide) (by unfold impl_routeNumbers.own; rw [HSD.out]; rfl) HBB
                  have HN := Lib.hid hN
                  have HL := Lib.hid (impl_routeNumbers.acc2_len a0_0 a0_1 a1 l2 j 0 (by decide))
                  clear hN HBB
                  go_wp2_with (first
                    | (go_at_call 84; refine (impl_numberAt.calls a0_0 a0_1 1 (j : Int) _ _ (impl_routeNumbers.num_f a0_0 a0_1 1 (j : Int))).mono ?_; rintro e wn ⟨rfl, hb⟩; have hw2 := HW.out.below hb; clear HW hb hcz0 hcz1 hfz0 hfz1; have HW := Lib.hid hw2; clear hw2)
                    | ((with_reducible refine gate_builtin (b := .append) (xs := #[.tmp 36, .tmp 41]) rfl ?_); at_builtin; refine Kd.R_append (Kd.int .i64) (w0 := w) w.heap.size rfl (.tmp 36) (.tmp 41) 22 3 (.int .i64 0) 8 rfl Try.underlying22 impl_routeNumbers.info3 rfl (by decide) (by omega) _ (impl_routeNumbers.acc2 a0_0 a0_1 a1 l2 j 0) (impl_routeNumbers.num a0_0 a0_1 1 (j : Int)) [.int .i64 (impl_routeNumbers.num a0_0 a0_1 1 (j : Int))] (fun _ => True) (fun _ => False) rfl rfl ?aP (fun _ hk => hk.elim) ?aF ?aO ?aB ?aS ?aL ?_; (case aP => exact rfl); (case aB => exact HW.out.bel); (case aF => exact (fun _ _ => trivial)); (case aO => exact HW.out.row); (case aS => exact HW.out.bel.size); (case aL => have := HL.out; omega); intro v1 w1 ho hb hg hat; rw [← HN.out] at ho; have hw2 := HW.out.app ho hb hg; clear HW ho hb hg hat; have HW := Lib.hid hw2; clear hw2))
                  go_roundw
                  case rel => exact ⟨1, by omega, by go_num, HW.out⟩
                  case measure => simp [intOf] <;> omega
                · have d2 : (((a1[j]'hlt).toNat : Int) == 114) = false := beq_eq_false_iff_ne.mpr hL
                  have hN := impl_routeNumbers.leaf_out (k := a0_0) (p := a0_1) (t := a1) (l := l2) (j := j) (i := 0) (o := 1) (by decide) (by unfold impl_routeNumbers.own; rw [HSD.out]; rfl) (fun e => e.elim (fun e => h98 (HB.out.trans e)) (fun e => hL (HB.out.trans e)))
                  have HN := Lib.hid hN
                  clear hN h98 hL
                  go_wp2_with fail
                  go_roundw
                  case rel => exact ⟨1, by omega, by go_num, by rw [HN.out]; exact HW.out⟩
                  case measure => simp [intOf] <;> omega
            · clear hi
              have ix : ∀ w, (Instr.index 80 (.agg #[.int .i64 1, .int .i64 0]) (.int .i64 1)).run Try.prog w = .ok (.int .i64 0) w := fun _ => by kernel_rfl
              have ix2 : ∀ w, (Instr.index 9 (.string ⟨#[108, 114]⟩) (.int .i64 0)).run Try.prog w = .ok (.int .u8 108) w := fun _ => by kernel_rfl
              rw [show (((1 : Nat) : Int)) = 1 from rfl]
              have hcz0 : wr.cell? ⟨w.heap.size, 0, none⟩ = some (.int .i64 a0_0) := (blk_cell HW.out.box 0).trans rfl
              have hcz1 : wr.cell? ⟨w.heap.size, 1, none⟩ = some (.int .i64 a0_1) := (blk_cell HW.out.box 1).trans rfl
              have hfz0 := blk_frozen HW.out.box 0
              have hfz1 := blk_frozen HW.out.box 1
              by_cases h98 : ((a1[j]'hlt).toNat : Int) = 98
              · have d1 : (((a1[j]'hlt).toNat : Int) == 98) = true := beq_iff_eq.mpr h98
                have HBB : bt a1 (j : Int) = 98 ∨ bt a1 (j : Int) = impl_routeNumbers.lr 0 := .inl (HB.out.symm.trans h98)
                clear h98
                have hN := impl_routeNumbers.leaf_in (k := a0_0) (p := a0_1) (t := a1) (l := l2) (j := j) (i := 1) (o := 0) (by decide) (by unfold impl_routeNumbers.own; rw [HSD.out]; rfl) HBB
                have HN := Lib.hid hN
                have HL := Lib.hid (impl_routeNumbers.acc2_len a0_0 a0_1 a1 l2 j 1 (by decide))
                clear hN HBB
                go_wp2_with (first
                  | (go_at_call 84; refine (impl_numberAt.calls a0_0 a0_1 0 (j : Int) _ _ (impl_routeNumbers.num_f a0_0 a0_1 0 (j : Int))).mono ?_; rintro e wn ⟨rfl, hb⟩; have hw2 := HW.out.below hb; clear HW hb hcz0 hcz1 hfz0 hfz1; have HW := Lib.hid hw2; clear hw2)
                  | ((with_reducible refine gate_builtin (b := .append) (xs := #[.tmp 36, .tmp 41]) rfl ?_); at_builtin; refine Kd.R_append (Kd.int .i64) (w0 := w) w.heap.size rfl (.tmp 36) (.tmp 41) 22 3 (.int .i64 0) 8 rfl Try.underlying22 impl_routeNumbers.info3 rfl (by decide) (by omega) _ (impl_routeNumbers.acc2 a0_0 a0_1 a1 l2 j 1) (impl_routeNumbers.num a0_0 a0_1 0 (j : Int)) [.int .i64 (impl_routeNumbers.num a0_0 a0_1 0 (j : Int))] (fun _ => True) (fun _ => False) rfl rfl ?aP (fun _ hk => hk.elim) ?aF ?aO ?aB ?aS ?aL ?_; (case aP => exact rfl); (case aB => exact HW.out.bel); (case aF => exact (fun _ _ => trivial)); (case aO => exact HW.out.row); (case aS => exact HW.out.bel.size); (case aL => have := HL.out; omega); intro v1 w1 ho hb hg hat; rw [← HN.out] at ho; have hw2 := HW.out.app ho hb hg; clear HW ho hb hg hat; have HW := Lib.hid hw2; clear hw2))
                go_roundw
                case rel => exact ⟨2, by omega, by go_num, HW.out⟩
                case measure => simp [intOf] <;> omega
              · have d1 : (((a1[j]'hlt).toNat : Int) == 98) = false := beq_eq_false_iff_ne.mpr h98
                by_cases hL : ((a1[j]'hlt).toNat : Int) = 108
                · have d2 : (((a1[j]'hlt).toNat : Int) == 108) = true := beq_iff_eq.mpr hL
                  have HBB : bt a1 (j : Int) = 98 ∨ bt a1 (j : Int) = impl_routeNumbers.lr 0 := .inr (HB.out.symm.trans hL)
                  clear h98 hL
                  have hN := impl_routeNumbers.leaf_in (k := a0_0) (p := a0_1) (t := a1) (l := l2) (j := j) (i := 1) (o := 0) (by decide) (by unfold impl_routeNumbers.own; rw [HSD.out]; rfl) HBB
                  have HN := Lib.hid hN
                  have HL := Lib.hid (impl_routeNumbers.acc2_len a0_0 a0_1 a1 l2 j 1 (by decide))
                  clear hN HBB
                  go_wp2_with (first
                    | (go_at_call 84; refine (impl_numberAt.calls a0_0 a0_1 0 (j : Int) _ _ (impl_routeNumbers.num_f a0_0 a0_1 0 (j : Int))).mono ?_; rintro e wn ⟨rfl, hb⟩; have hw2 := HW.out.below hb; clear HW hb hcz0 hcz1 hfz0 hfz1; have HW := Lib.hid hw2; clear hw2)
                    | ((with_reducible refine gate_builtin (b := .append) (xs := #[.tmp 36, .tmp 41]) rfl ?_); at_builtin; refine Kd.R_append (Kd.int .i64) (w0 := w) w.heap.size rfl (.tmp 36) (.tmp 41) 22 3 (.int .i64 0) 8 rfl Try.underlying22 impl_routeNumbers.info3 rfl (by decide) (by omega) _ (impl_routeNumbers.acc2 a0_0 a0_1 a1 l2 j 1) (impl_routeNumbers.num a0_0 a0_1 0 (j : Int)) [.int .i64 (impl_routeNumbers.num a0_0 a0_1 0 (j : Int))] (fun _ => True) (fun _ => False) rfl rfl ?aP (fun _ hk => hk.elim) ?aF ?aO ?aB ?aS ?aL ?_; (case aP => exact rfl); (case aB => exact HW.out.bel); (case aF => exact (fun _ _ => trivial)); (case aO => exact HW.out.row); (case aS => exact HW.out.bel.size); (case aL => have := HL.out; omega); intro v1 w1 ho hb hg hat; rw [← HN.out] at ho; have hw2 := HW.out.app ho hb hg; clear HW ho hb hg hat; have HW := Lib.hid hw2; clear hw2))
                  go_roundw
                  case rel => exact ⟨2, by omega, by go_num, HW.out⟩
                  case measure => simp [intOf] <;> omega
                · have d2 : (((a1[j]'hlt).toNat : Int) == 108) = false := beq_eq_false_iff_ne.mpr hL
                  have hN := impl_routeNumbers.leaf_out (k := a0_0) (p := a0_1) (t := a1) (l := l2) (j := j) (i := 1) (o := 0) (by decide) (by unfold impl_routeNumbers.own; rw [HSD.out]; rfl) (fun e => e.elim (fun e => h98 (HB.out.trans e)) (fun e => hL (HB.out.trans e)))
                  have HN := Lib.hid hN
                  clear hN h98 hL
                  go_wp2_with fail
                  go_roundw
                  case rel => exact ⟨2, by omega, by go_num, by rw [HN.out]; exact HW.out⟩
                  case measure => simp [intOf] <;> omega
            · clear hi
              obtain ⟨ad', ead, hx⟩ := Kd.at_int (Kd.C_below HR.out HW.out.bel) (j : Int) hp0 hp2
              obtain rfl : ad = ad' := Option.some.inj ead
              rw [Int.toNat_natCast] at hx
              go_wp2_with fail
              go_roundw
              case rel => exact ⟨j + 1, by omega, by go_num, rfl, HW.out⟩
              case measure => simp [intOf] <;> omega
      · obtain rfl : j = a1.size := by omega
        go_wp2_with fail
        go_ret
        rw [← HE.out]
        exact ⟨_, rfl, HW.out.row, HW.out.bel⟩
  · rw [if_neg hs] at h
    cases h
/-! ### impl_RouteNumbers: function 35 -/
def impl_RouteNumbers.j0 : Nat → ByteArray → Int → Bool → Int → Int → Option (List Int × Bool)
  | 0, _, _, _, _, _ => none
  | k + 1, x1, x2, x20, x185000, x185001 => if x20 = true then (some (([] : List Int), false)) else ((impl_bestRoute.f x1 x2).bind fun bt187 => ((impl_routeNumbers.f x185000 x185001 x1 bt187.2.1).bind fun t192 => (some (t192, true))))
def impl_RouteNumbers.f (k : Nat) (a0_0 : Int) (a0_1 : Int) (a1 : ByteArray) (a2 : Int) : Option (List Int × Bool) := (impl_isStreetText.f k a0_0 a0_1 a1).bind fun t185 => (if t185 = true then ((impl_isDelivered.f k a1 a2).bind fun t186 => (impl_RouteNumbers.j0 k a1 a2 (!t186) a0_0 a0_1)) else (impl_RouteNumbers.j0 k a1 a2 true a0_0 a0_1))
theorem impl_RouteNumbers.mono_l : ∀ k, (∀ y0 y1 y2 y3 y4, LeO (impl_RouteNumbers.j0 k y0 y1 y2 y3 y4) (impl_RouteNumbers.j0 (k + 1) y0 y1 y2 y3 y4))
  | 0 => fun _ _ _ _ _ r h => by simp [impl_RouteNumbers.j0] at h
  | k + 1 => by
    have ih0 := impl_RouteNumbers.mono_l k
    · intro y0 y1 y2 y3 y4
      unfold impl_RouteNumbers.j0
      repeat' first
      | (with_reducible exact ih0 _ _ _ _ _)
      | (with_reducible exact impl_isDelivered.mono _ _ _)
      | (with_reducible exact impl_isStreetText.mono _ _ _ _)
      | (with_reducible exact LeO.refl _)
      | (with_reducible exact LeO.none _)
      | (with_reducible refine LeO.ite ?_ ?_)
      | (with_reducible refine LeO.bind ?_ (fun _ => ?_))
      | exact ih0 _ _ _ _ _
      | exact impl_isDelivered.mono _ _ _
      | exact impl_isStreetText.mono _ _ _ _
      | exact LeO.none _
      | refine LeO.ite ?_ ?_
      | refine LeO.bind ?_ (fun _ => ?_)
theorem impl_RouteNumbers.mono : ∀ a0 a1 a2 a3 k, LeO (impl_RouteNumbers.f k a0 a1 a2 a3) (impl_RouteNumbers.f (k + 1) a0 a1 a2 a3) := by
  intro a0 a1 a2 a3 k
  have ih0 := impl_RouteNumbers.mono_l k
  unfold impl_RouteNumbers.f
  repeat' first
      | (with_reducible exact ih0 _ _ _ _ _)
      | (with_reducible exact impl_isDelivered.mono _ _ _)
      | (with_reducible exact impl_isStreetText.mono _ _ _ _)
      | (with_reducible exact LeO.refl _)
      | (with_reducible exact LeO.none _)
      | (with_reducible refine LeO.ite ?_ ?_)
      | (with_reducible refine LeO.bind ?_ (fun _ => ?_))
      | exact ih0 _ _ _ _ _
      | exact impl_isDelivered.mono _ _ _
      | exact impl_isStreetText.mono _ _ _ _
      | exact LeO.none _
      | refine LeO.ite ?_ ?_
      | refine LeO.bind ?_ (fun _ => ?_)
set_option maxHeartbeats 8000000 in
set_option maxRecDepth 100000 in
theorem impl_RouteNumbers.calls (k : Nat) (a0_0 : Int) (a0_1 : Int) (a1 : ByteArray) (a2 : Int) (r1 : List Int) (r2 : Bool) (w : World) (h : impl_RouteNumbers.f k a0_0 a0_1 a1 a2 = some (r1, r2)) :
    Calls Try.prog 35 #[.agg #[.int .i64 a0_0, .int .i64 a0_1], .string a1, .int .i64 a2] w fun e w' => ∃ v0_ : Value, e = .returned (.tuple #[v0_, .bool r2]) ∧ Kd.R (Kd.int .i64) 3 w' w.heap.size (fun _ => True) v0_ r1 ∧ Below w.heap.size w w' := by
  have hu43 := Try.underlying43
  have HB := Aside0.mk (Below.refl w.heap.size w)
  have H : ((impl_isStreetText.f k a0_0 a0_1 a1).bind fun t185 => (if t185 = true then ((impl_isDelivered.f k a1 a2).bind fun t186 => (impl_RouteNumbers.j0 k a1 a2 (!t186) a0_0 a0_1)) else (impl_RouteNumbers.j0 k a1 a2 true a0_0 a0_1))) = some (r1, r2) := h
  clear h
  have HC4 := Aside0.mk H
  clear H
  go_enter Try.func35, Try.ntmps35
  go_upto_region 1 with (first | ((with_reducible refine gate_dst (N := 3) rfl ?_); refine box_event ?hg (N := 3) ?hd (cs := #[.int .i64 a0_0, .int .i64 a0_1]) (t := 43) ?hr ?_; (case hd => rfl); (case hg => rfl); (case hr => first | (go_simp; done) | (go_simp; rfl)); intro gb184 hg w5 hbox hb; have n0_ := Aside0.mk (below_step (by repeat (first | (with_reducible first | exact HB.out | apply below_alloc | apply pw_below_drewN | apply below_drew1) | exact HB.out)) hb); have n1_ := Aside0.mk (hbox); have n2_ := Aside0.mk ((by rw [hg]; exact (below_size (by repeat (first | (with_reducible first | exact HB.out | apply below_alloc | apply pw_below_drewN | apply below_drew1) | exact HB.out))) : w.heap.size ≤ gb184)); have n3_ := Aside0.mk ((by rw [hg]; exact (below_size (by repeat (first | (with_reducible first | exact HB.out | apply below_alloc | apply pw_below_drewN | apply below_drew1) | exact HB.out))) : w.heap.size ≤ gb184)); clear HB; have HB := n0_; have BK184 := n1_; have GW184 := n2_; have GE184 := n3_; clear n0_ n1_ n2_ n3_; clear hb hbox hg))
  (try simp only [Act.put, List.setIfInBounds_toArray, List.set_cons_zero, List.set_cons_succ])
  go_cut [20] (fun v20 wc => ∃ (kq : Nat) (x20_3 : Bool), v20 = .bool x20_3 ∧ Aside0 (impl_RouteNumbers.j0 kq a1 a2 x20_3 a0_0 a0_1 = some (r1, r2)) ∧ Aside0 (kq ≤ k) ∧ Aside0 (wc.heap[gb184]? = some (.cells #[.int .i64 a0_0, .int .i64 a0_1] 43 (0, 0))) ∧ Aside0 (Below w.heap.size w wc))
  case first =>
    have H := HC4.out
    clear HC4
    replace H := Option.bind_eq_some_iff.mp H
    obtain ⟨t185, A60, H⟩ := H
    replace H : (if t185 = true then ((impl_isDelivered.f k a1 a2).bind fun t186 => (impl_RouteNumbers.j0 k a1 a2 (!t186) a0_0 a0_1)) else (impl_RouteNumbers.j0 k a1 a2 true a0_0 a0_1)) = some (r1, r2) := H
    have A6 := Aside0.mk A60
    clear A60
    by_cases c7 : t185 = true
    · subst c7
      have H1 : ((impl_isDelivered.f k a1 a2).bind fun t186 => (impl_RouteNumbers.j0 k a1 a2 (!t186) a0_0 a0_1)) = some (r1, r2) := by rw [if_pos rfl] at H; exact H
      clear H
      have H := H1
      clear H1
      replace H := Option.bind_eq_some_iff.mp H
      obtain ⟨t186, A80, H⟩ := H
      replace H : (impl_RouteNumbers.j0 k a1 a2 (!t186) a0_0 a0_1) = some (r1, r2) := H
      have A8 := Aside0.mk A80
      clear A80
      have H' := Aside0.mk H
      clear H
      have hcz9_0 : w5.cell? ⟨gb184, 0, none⟩ = some (.int .i64 a0_0) := (blk_cell BK184.out 0).trans rfl
      have hcz9_1 : w5.cell? ⟨gb184, 1, none⟩ = some (.int .i64 a0_1) := (blk_cell BK184.out 1).trans rfl
      have hfz9_0 := blk_frozen BK184.out 0
      have hfz9_1 := blk_frozen BK184.out 1
      go_wp2_with (first | ((with_reducible refine gate_callee (f := 68) rfl ?_); refine goesL_ (some 13) rfl rfl Try.func68 (by kernel_rfl) rfl #[.agg #[.int .i64 a0_0, .int .i64 a0_1], .string a1] rfl (by (try simp only [List.map_toArray, List.map_cons, List.map_nil]); first | done | rfl | (simp only [List.length_drop, List.length_take]; rfl)) ?_; (with_reducible refine (impl_isStreetText.calls k a0_0 a0_1 a1 true _ A6.out).mono ?_); rintro e w10 ⟨rfl, hb⟩; refine ⟨_, rfl, ?_⟩; have n0_ := Aside0.mk (blk_below (g := gb184) (o := .cells #[.int .i64 a0_0, .int .i64 a0_1] 43 (0, 0)) (by (with_reducible repeat (first | refine blk_drewN ?_ _ | refine blk_drew ?_ | refine blk_alloc ?_ _)); exact BK184.out) hb); have n1_ := Aside0.mk (below_step (by repeat (first | (with_reducible first | exact HB.out | apply below_alloc | apply pw_below_drewN | apply below_drew1 | refine below_set ?_ GE184.out) | exact HB.out)) hb); clear BK184; clear HB; have BK184 := n0_; have HB := n1_; clear n0_ n1_; (try clear hb); (try clear hb2); (try clear hk); (try clear hi)) | (go_at_call 46; (with_reducible refine (impl_isDelivered.calls k a1 a2 t186 _ A8.out).mono ?_); rintro e w' ⟨rfl, ⟨nd, rfl⟩⟩))
      go_meet
      case rel => exact ⟨_, (!t186), (by first | rfl | (simp; done) | (simp [*]; done)), H', ⟨by first | omega | exact Nat.le_refl _⟩, ⟨by (with_reducible repeat (first | refine blk_drewN ?_ _ | refine blk_drew ?_ | refine blk_alloc ?_ _)); exact BK184.out⟩, ⟨by repeat (first | (with_reducible first | exact HB.out | apply below_alloc | apply pw_below_drewN | apply below_drew1 | refine below_set ?_ GE184.out) | exact HB.out)⟩⟩
    · replace c7 := Bool.eq_false_iff.mpr c7
      subst c7
      have H1 : (impl_RouteNumbers.j0 k a1 a2 true a0_0 a0_1) = some (r1, r2) := by rw [if_neg (show ¬ (false = true) by decide)] at H; exact H
      clear H
      have H := H1
      clear H1
      have H' := Aside0.mk H
      clear H
      have hcz11_0 : w5.cell? ⟨gb184, 0, none⟩ = some (.int .i64 a0_0) := (blk_cell BK184.out 0).trans rfl
      have hcz11_1 : w5.cell? ⟨gb184, 1, none⟩ = some (.int .i64 a0_1) := (blk_cell BK184.out 1).trans rfl
      have hfz11_0 := blk_frozen BK184.out 0
      have hfz11_1 := blk_frozen BK184.out 1
      go_wp2_with (first | ((with_reducible refine gate_callee (f := 68) rfl ?_); refine goesL_ (some 13) rfl rfl Try.func68 (by kernel_rfl) rfl #[.agg #[.int .i64 a0_0, .int .i64 a0_1], .string a1] rfl (by (try simp only [List.map_toArray, List.map_cons, List.map_nil]); first | done | rfl | (simp only [List.length_drop, List.length_take]; rfl)) ?_; (with_reducible refine (impl_isStreetText.calls k a0_0 a0_1 a1 false _ A6.out).mono ?_); rintro e w12 ⟨rfl, hb⟩; refine ⟨_, rfl, ?_⟩; have n0_ := Aside0.mk (blk_below (g := gb184) (o := .cells #[.int .i64 a0_0, .int .i64 a0_1] 43 (0, 0)) (by (with_reducible repeat (first | refine blk_drewN ?_ _ | refine blk_drew ?_ | refine blk_alloc ?_ _)); exact BK184.out) hb); have n1_ := Aside0.mk (below_step (by repeat (first | (with_reducible first | exact HB.out | apply below_alloc | apply pw_below_drewN | apply below_drew1 | refine below_set ?_ GE184.out) | exact HB.out)) hb); clear BK184; clear HB; have BK184 := n0_; have HB := n1_; clear n0_ n1_; (try clear hb); (try clear hb2); (try clear hk); (try clear hi)))
      go_meet
      case rel => exact ⟨_, (true), (by first | rfl | (simp; done) | (simp [*]; done)), H', ⟨by first | omega | exact Nat.le_refl _⟩, ⟨by (with_reducible repeat (first | refine blk_drewN ?_ _ | refine blk_drew ?_ | refine blk_alloc ?_ _)); exact BK184.out⟩, ⟨by repeat (first | (with_reducible first | exact HB.out | apply below_alloc | apply pw_below_drewN | apply below_drew1 | refine below_set ?_ GE184.out) | exact HB.out)⟩⟩
  case rest =>
    clear HC4
    try clear p2
    try clear c3
    try clear c6
    try clear c7
    try clear hcz11_0
    try clear hcz11_1
    try clear hcz9_0
    try clear hcz9_1
    try clear hfz11_0
    try clear hfz11_1
    try clear hfz9_0
    try clear hfz9_1
    obtain ⟨kq, x20_3, rfl, HA, HJ3, BK184, HB⟩ := hcut
    cases kq with
    | zero => exact absurd HA.out (by simp [impl_RouteNumbers.j0])
    | succ kj3 =>
      have H := HA.out
      clear HA
      simp only [impl_RouteNumbers.j0] at H
      by_cases c13 : x20_3 = true
      · subst c13
        have H1 : (some (([] : List Int), false)) = some (r1, r2) := by rw [if_pos rfl] at H; exact H
        clear H
        have H := H1
        clear H1
        simp only [Option.some.injEq, Prod.mk.injEq] at H
        obtain ⟨rfl, rfl⟩ := H
        go_wp2
        go_ret2
        exact ⟨_, by first | rfl | (simp [errW_none, errW_some] <;> rfl) | (simp [*, errW_none, errW_some] <;> rfl), by first | exact Kd.R_nil _ _ _ _ _ | exact Kd.N_nil _ _ _ _ _ | exact Kd.V_nil _ _ _ _ _ | exact Kd.Q_nil _ _ _ _ _ | exact Kd.S_nil _ _ _ _ _, by repeat (first | (with_reducible first | exact HB.out | apply below_alloc | apply pw_below_drewN | apply below_drew1 | refine below_set ?_ GE184.out) | exact HB.out)⟩
      · replace c13 := Bool.eq_false_iff.mpr c13
        subst c13
        have H1 : ((impl_bestRoute.f a1 a2).bind fun bt187 => ((impl_routeNumbers.f a0_0 a0_1 a1 bt187.2.1).bind fun t192 => (some (t192, true)))) = some (r1, r2) := by rw [if_neg (show ¬ (false = true) by decide)] at H; exact H
        clear H
        have H := H1
        clear H1
        replace H := Option.bind_eq_some_iff.mp H
        obtain ⟨⟨t187, t188, t189⟩, A140, H⟩ := H
        replace H : ((impl_routeNumbers.f a0_0 a0_1 a1 t188).bind fun t192 => (some (t192, true))) = some (r1, r2) := H
        have A14 := Aside0.mk A140
        clear A140
        replace H := Option.bind_eq_some_iff.mp H
        obtain ⟨t192, A150, H⟩ := H
        replace H : (some (t192, true)) = some (r1, r2) := H
        have A15 := Aside0.mk A150
        clear A150
        simp only [Option.some.injEq, Prod.mk.injEq] at H
        obtain ⟨rfl, rfl⟩ := H
        go_wp2_with (first | ((with_reducible refine gate_callee (f := 47) rfl ?_); refine goesL_ (some 24) rfl rfl Try.func47 (by kernel_rfl) rfl #[.string a1, .int .i64 a2] rfl (by (try simp only [List.map_toArray, List.map_cons, List.map_nil]); first | done | rfl | (simp only [List.length_drop, List.length_take]; rfl)) ?_; (with_reducible refine (impl_bestRoute.calls a1 a2 t187 t188 t189 _ A14.out).mono ?_); rintro e w16 ⟨v190, rfl, ho0, hb⟩; refine ⟨_, rfl, ?_⟩; have n0_ := Aside0.mk (Kd.R_lower ho0 (below_size (by repeat (first | (with_reducible first | exact HB.out | apply below_alloc | apply pw_below_drewN | apply below_drew1 | refine below_set ?_ GE184.out) | exact HB.out)))); have n1_ := Aside0.mk (blk_below (g := gb184) (o := .cells #[.int .i64 a0_0, .int .i64 a0_1] 43 (0, 0)) (by (with_reducible repeat (first | refine blk_drewN ?_ _ | refine blk_drew ?_ | refine blk_alloc ?_ _)); exact BK184.out) hb); have n2_ := Aside0.mk (below_step (by repeat (first | (with_reducible first | exact HB.out | apply below_alloc | apply pw_below_drewN | apply below_drew1 | refine below_set ?_ GE184.out) | exact HB.out)) hb); clear BK184; clear HB; have HO191 := n0_; have BK184 := n1_; have HB := n2_; clear n0_ n1_ n2_; (try clear hb); (try clear hb2); (try clear hk); (try clear hi); (try clear ho0); have hcz17_0 : w16.cell? ⟨gb184, 0, none⟩ = some (.int .i64 a0_0) := (blk_cell BK184.out 0).trans rfl; have hcz17_1 : w16.cell? ⟨gb184, 1, none⟩ = some (.int .i64 a0_1) := (blk_cell BK184.out 1).trans rfl; have hfz17_0 := blk_frozen BK184.out 0; have hfz17_1 := blk_frozen BK184.out 1; obtain ⟨Ao18, co18, eo18⟩ := Kd.R_slice HO191.out; subst eo18) | ((with_reducible refine gate_callee (f := 69) rfl ?_); refine goesL_ (some 31) rfl rfl Try.func69 (by kernel_rfl) rfl #[.agg #[.int .i64 a0_0, .int .i64 a0_1], .string a1, .slice Ao18 t188.length co18] rfl (by (try simp only [List.map_toArray, List.map_cons, List.map_nil]); first | done | rfl | (simp only [List.length_drop, List.length_take]; rfl)) ?_; (with_reducible refine (impl_routeNumbers.calls a0_0 a0_1 a1 _ _ t188 t192 _ ?side1 ?side2 A15.out).mono ?_); (case side1 => repeat (first | exact (Kd.R_reads' HO191.out).2.2 | (with_reducible refine Kd.C_alloc ?_ _) | (with_reducible refine Kd.C_drewN ?_ _) | (with_reducible refine Kd.C_drew ?_))); (case side2 => exact (Kd.R_reads' HO191.out).2.1); rintro e w19 ⟨v193, rfl, ho0, hb⟩; refine ⟨_, rfl, ?_⟩; have n0_ := Aside0.mk (Kd.R_elder' (by (with_reducible repeat (first | apply Kd.R_alloc | apply Kd.R_drewN | apply Kd.R_drew)); exact HO191.out) (Kd.R_base ho0) hb); have n1_ := Aside0.mk (Kd.R_lower (Kd.R_new' ho0 (Kd.R_lt (by (with_reducible repeat (first | apply Kd.R_alloc | apply Kd.R_drewN | apply Kd.R_drew)); exact HO191.out))) (below_size (by repeat (first | (with_reducible first | exact HB.out | apply below_alloc | apply pw_below_drewN | apply below_drew1 | refine below_set ?_ GE184.out) | exact HB.out)))); have n2_ := Aside0.mk (blk_below (g := gb184) (o := .cells #[.int .i64 a0_0, .int .i64 a0_1] 43 (0, 0)) (by (with_reducible repeat (first | refine blk_drewN ?_ _ | refine blk_drew ?_ | refine blk_alloc ?_ _)); exact BK184.out) hb); have n3_ := Aside0.mk (below_step (by repeat (first | (with_reducible first | exact HB.out | apply below_alloc | apply pw_below_drewN | apply below_drew1 | refine below_set ?_ GE184.out) | exact HB.out)) hb); clear HO191; clear BK184; clear HB; have HO191 := n0_; have HO194 := n1_; have BK184 := n2_; have HB := n3_; clear n0_ n1_ n2_ n3_; (try clear hb); (try clear hb2); (try clear hk); (try clear hi); (try clear ho0)))
        go_ret2
        exact ⟨_, by first | rfl | (simp [errW_none, errW_some] <;> rfl) | (simp [*, errW_none, errW_some] <;> rfl), by (with_reducible repeat (first | apply Kd.R_alloc | apply Kd.R_drewN | apply Kd.R_drew)); exact Kd.R_mono HO194.out (fun _ hk => trivial), by repeat (first | (with_reducible first | exact HB.out | apply below_alloc | apply pw_below_drewN | apply below_drew1 | refine below_set ?_ GE184.out) | exact HB.out)⟩

end Go.Proofs.Ytghcfpnjkhefeaa.PFnExactRouteNumbers
