/- Cut by wip/cut.py out of the texts of this claim (printed by the kit's printer, or this session's own): what the row's theorem does not reach is struck. Not trusted: Lean checks it. -/
import Derived.Test.YtpedofomfhmnfaaZFnExactCountShortestWaysPx0
import Derived.Test.YtpedofomfhmnfaaZFnExactCountShortestWaysPx7
import Derived.Test.YtpedofomfhmnfaaZFnExactCountShortestWaysPx10
namespace Go.Proofs.Ytpedofomfhmnfaa.PFnExactCountShortestWays
open Go.RowKit Go.Proofs.YtpedofomfhmnfaaW.PrintWords Go.Proofs.YtpedofomfhmnfaaW.PrintLast Go.Proofs.YtpedofomfhmnfaaW.PrintMore
attribute [local go_sem] max2_int min2_int max_two min_two max_three min_three max_four min_four
set_option linter.unusedVariables false
set_option linter.unusedSimpArgs false
def impl_moved.f (l0 : List Int) (a1 : Int) : Option (List Int) := if 0 ≤ a1 then (if a1 < 4 then (if (bt (⟨#[101, 110, 115, 119]⟩ : ByteArray) a1) = 101 then (if 0 < (l0.length : Int) then (if 1 < (l0.length : Int) then (some (([wrap64 ((rd l0 0) + 1), rd l0 1] : List Int))) else (none)) else (none)) else (if (bt (⟨#[101, 110, 115, 119]⟩ : ByteArray) a1) = 110 then (if 0 < (l0.length : Int) then (if 1 < (l0.length : Int) then (some (([rd l0 0, wrap64 ((rd l0 1) + 1)] : List Int))) else (none)) else (none)) else (if (bt (⟨#[101, 110, 115, 119]⟩ : ByteArray) a1) = 115 then (if 0 < (l0.length : Int) then (if 1 < (l0.length : Int) then (some (([rd l0 0, wrap64 ((rd l0 1) - 1)] : List Int))) else (none)) else (none)) else (if 0 < (l0.length : Int) then (if 1 < (l0.length : Int) then (some (([wrap64 ((rd l0 0) - 1), rd l0 1] : List Int))) else (none)) else (none))))) else (none)) else (none)
def impl_moved.T3 : Bool × List (List Nat × List Nat) := (true, [([], []), ([0], [0]), ([1], [1]), ([2], [2]), ([], []), ([4], [4]), ([5], [5]), ([3, 6], [3, 6]), ([7, 0, 1, 2, 3, 4, 5, 6, 7], [7])])
def impl_moved.B3 : List Nat := [0, 1, 3, 7, 0, 16, 48, 127, 255]
theorem impl_moved.tab3 : rtab .any (opsOf Try.f72 3) = impl_moved.T3 := by kernel_rfl
theorem impl_moved.bits3 : waitsOk impl_moved.T3.2 impl_moved.B3 = true := by kernel_rfl
def impl_moved.T5 : Bool × List (List Nat × List Nat) := (true, [([], []), ([0], [0]), ([1], [1]), ([], []), ([3], [3]), ([4], [4]), ([5], [5]), ([2, 6], [2, 6]), ([7, 0, 1, 2, 3, 4, 5, 6, 7], [7])])
def impl_moved.B5 : List Nat := [0, 1, 3, 0, 8, 24, 56, 127, 255]
theorem impl_moved.tab5 : rtab .any (opsOf Try.f72 5) = impl_moved.T5 := by kernel_rfl
theorem impl_moved.bits5 : waitsOk impl_moved.T5.2 impl_moved.B5 = true := by kernel_rfl
def impl_moved.T7 : Bool × List (List Nat × List Nat) := (true, [([], []), ([0], [0]), ([1], [1]), ([], []), ([3], [3]), ([4], [4]), ([5], [5]), ([2, 6], [2, 6]), ([7, 0, 1, 2, 3, 4, 5, 6, 7], [7])])
def impl_moved.B7 : List Nat := [0, 1, 3, 0, 8, 24, 56, 127, 255]
theorem impl_moved.tab7 : rtab .any (opsOf Try.f72 7) = impl_moved.T7 := by kernel_rfl
theorem impl_moved.bits7 : waitsOk impl_moved.T7.2 impl_moved.B7 = true := by kernel_rfl
def impl_moved.T8 : Bool × List (List Nat × List Nat) := (true, [([], []), ([0], [0]), ([1], [1]), ([2], [2]), ([], []), ([4], [4]), ([5], [5]), ([3, 6], [3, 6]), ([7, 0, 1, 2, 3, 4, 5, 6, 7], [7])])
def impl_moved.B8 : List Nat := [0, 1, 3, 7, 0, 16, 48, 127, 255]
theorem impl_moved.tab8 : rtab .any (opsOf Try.f72 8) = impl_moved.T8 := by kernel_rfl
theorem impl_moved.bits8 : waitsOk impl_moved.T8.2 impl_moved.B8 = true := by kernel_rfl
set_option maxHeartbeats 8000000 in
set_option maxRecDepth 100000 in
theorem impl_moved.calls (A0 : Option Addr) (c0 : Nat) (l0 : List Int) (a1 : Int) (r : List Int) (w : World) (hr0 : Kd.C (Kd.int .i64) w A0 l0.length l0) (hc0 : l0.length ≤ c0) (h : impl_moved.f l0 a1 = some r) :
  Calls Try.prog 72 #[.slice A0 l0.length c0, .int .i64 a1] w fun e w' => ∃ v0_ : Value, e = .returned (v0_) ∧ Kd.R (Kd.int .i64) 3 w' w.heap.size (fun _ => True) v0_ r ∧ Below w.heap.size w w' := by
 have HR0 := Aside0.mk hr0
 have HC0 := Aside0.mk hc0
 clear hr0 hc0
 have HB := Aside0.mk (Below.refl w.heap.size w)
 have H : (if 0 ≤ a1 then (if a1 < 4 then (if (bt (⟨#[101, 110, 115, 119]⟩ : ByteArray) a1) = 101 then (if 0 < (l0.length : Int) then (if 1 < (l0.length : Int) then (some (([wrap64 ((rd l0 0) + 1), rd l0 1] : List Int))) else (none)) else (none)) else (if (bt (⟨#[101, 110, 115, 119]⟩ : ByteArray) a1) = 110 then (if 0 < (l0.length : Int) then (if 1 < (l0.length : Int) then (some (([rd l0 0, wrap64 ((rd l0 1) + 1)] : List Int))) else (none)) else (none)) else (if (bt (⟨#[101, 110, 115, 119]⟩ : ByteArray) a1) = 115 then (if 0 < (l0.length : Int) then (if 1 < (l0.length : Int) then (some (([rd l0 0, wrap64 ((rd l0 1) - 1)] : List Int))) else (none)) else (none)) else (if 0 < (l0.length : Int) then (if 1 < (l0.length : Int) then (some (([wrap64 ((rd l0 0) - 1), rd l0 1] : List Int))) else (none)) else (none))))) else (none)) else (none)) = some r := h
 clear h
 by_cases c3 : 0 ≤ a1
 ·rw [if_pos c3] at H
  have c3b0 : decide (0 ≤ a1) = true := decide_eq_true c3
  clear c3
  by_cases c4 : a1 < 4
  ·rw [if_pos c4] at H
   have c4b0 : decide (a1 < 4) = true := decide_eq_true c4
   clear c4
   by_cases c6 : (bt (⟨#[101, 110, 115, 119]⟩ : ByteArray) a1) = 101
   ·rw [if_pos c6] at H
    have c6b0 : ((bt (⟨#[101, 110, 115, 119]⟩ : ByteArray) a1) == 101) = true := beq_iff_eq.mpr c6
    have c6b1 : ((bt (⟨#[101, 110, 115, 119]⟩ : ByteArray) a1) != 101) = false := bne_eq_false_iff_eq.mpr c6
    clear c6
    by_cases c7 : 0 < (l0.length : Int)
    ·rw [if_pos c7] at H
     have c7b0 : decide (0 < (l0.length : Int)) = true := decide_eq_true c7
     have c7b1 : decide (0 < l0.length) = true := decide_eq_true (by omega)
     clear c7
     by_cases c8 : 1 < (l0.length : Int)
     ·rw [if_pos c8] at H
      have c8b0 : decide (1 < (l0.length : Int)) = true := decide_eq_true c8
      have c8b1 : decide (1 < l0.length) = true := decide_eq_true (by omega)
      clear c8
      obtain ⟨y206, hy206⟩ : ∃ y_ : List Int, y_ = (([wrap64 ((rd l0 0) + 1), rd l0 1] : List Int)) := ⟨_, rfl⟩
      replace H : (some y206) = some r := by first | (rw [hy206]; with_reducible exact H) | (have H2_ := (Option.bind_some _ _).symm.trans H; rw [hy206]; with_reducible exact H2_) | (have H2_ := (Option.bind_some _ _).symm.trans H; with_reducible exact H2_) | with_reducible exact H | (rw [hy206]; exact H) | exact H
      have Ny206 := Aside0.mk hy206
      clear hy206
      obtain rfl := Option.some.inj H
      have p5 : 0 ≤ (a1 : Int) := of_decide_eq_true (by first | (with_reducible assumption) | assumption)
      have q5 : a1 < (4 : Int) := of_decide_eq_true (by first | (with_reducible assumption) | assumption)
      have hx5 := bt_at (⟨#[101, 110, 115, 119]⟩ : ByteArray) a1
      replace p5 := eq_true p5
      replace q5 := eq_true q5
      go_enter Try.func72, Try.ntmps72
      try go_wp2
      have n0_ := Aside0.mk (below_drew1 HB.out)
      clear HB
      have HB := n0_
      clear n0_
      have p204 : 0 ≤ (0 : Int) := (by omega)
      have q204 : 0 < (l0.length : Int) := of_decide_eq_true (by first | (with_reducible assumption) | assumption)
      obtain ⟨ad204, e204, hx204_0⟩ := Kd.at_int HR0.out 0 p204 q204
      have hw204_0 := hx204_0
      (try rw [show ((0 : Int)).toNat = 0 from rfl] at hw204_0)
      (try rw [show 0 * 1 = 0 from rfl] at hw204_0)
      (try rw [Addr.add_zero'] at hw204_0)
      cases e204
      have qi204 : (0 < l0.length) = True := eq_true (by omega)
      (try rw [show ((0 : Int)).toNat = 0 from rfl] at hx204_0)
      (try rw [Addr.add_zero'] at hx204_0)
      replace hx204_0 := (HB.out.cell (World.block_lt_of_cell? w _ hx204_0)).trans hx204_0
      replace p204 := eq_true p204
      replace q204 := eq_true q204
      have p205 : 0 ≤ (1 : Int) := (by omega)
      have q205 : 1 < (l0.length : Int) := of_decide_eq_true (by first | (with_reducible assumption) | assumption)
      obtain ⟨ad205, e205, hx205_0⟩ := Kd.at_int HR0.out 1 p205 q205
      have hw205_0 := hx205_0
      (try rw [show ((1 : Int)).toNat = 1 from rfl] at hw205_0)
      (try rw [show 1 * 1 = 1 from rfl] at hw205_0)
      (try simp only [Nat.reduceMul, Nat.reduceEqDiff, Go.Addr.add, ↓reduceIte] at hw205_0)
      obtain rfl : ad204 = ad205 := (by injection e205)
      (try simp only [show (1 : Int).toNat = 1 from rfl, Nat.reduceMul, Nat.reduceEqDiff, Go.Addr.add, ↓reduceIte] at hx205_0)
      have qi205 : (1 < l0.length) = True := eq_true (by omega)
      (try rw [show ((1 : Int)).toNat = 1 from rfl] at hx205_0)
      replace hx205_0 := (HB.out.cell (World.block_lt_of_cell? w _ hx205_0)).trans hx205_0
      replace p205 := eq_true p205
      replace q205 := eq_true q205
      refine start_ (n := 9) (S := fun w' => w'.cell? ad204 = some (.int .i64 (rd l0 0)) ∧ w'.cell? ⟨ad204.block, ad204.off + 1, none⟩ = some (.int .i64 (rd l0 1))) (ds := []) #[false, false, false, false, false, false, false, false, false] (by kernel_rfl) rfl rfl ⟨((HB.out.cell (World.block_lt_of_cell? w _ hw204_0)).trans hw204_0), ((HB.out.cell (World.block_lt_of_cell? w _ hw205_0)).trans hw205_0)⟩ (fun hHeld => ?_); refine with_tabW impl_moved.tab3 impl_moved.bits3 (fun HT_ HW_ => ?_)
      generalize w.drew = w9 at HB hx204_0 hx205_0 hHeld ⊢
      refine pure_ (i := 0) (N := some 9) (v := ?_) (a' := ?_) #[true, false, false, false, false, false, false, false, false] rfl rfl (any_of HT_.out (by kernel_rfl)) (fun _ _ _ h => h) (Or.inl ⟨by rfl, ?_⟩) ?_ ?_
      rotate_left
      ·intro w'
       go_simp
       with_reducible rfl
      rotate_left
      ·simp only [Act.put, List.setIfInBounds_toArray, List.set_cons_zero, List.set_cons_succ, i64_w, i32_w]
       rfl
      refine pure_ (i := 1) (N := some 10) (v := ?_) (a' := ?_) #[true, true, false, false, false, false, false, false, false] rfl rfl (any_of HT_.out (by kernel_rfl)) (fun _ _ _ h => h) (Or.inl ⟨by rfl, ?_⟩) ?_ ?_
      rotate_left
      ·intro w'
       go_simp
       with_reducible rfl
      rotate_left
      ·simp only [Act.put, List.setIfInBounds_toArray, List.set_cons_zero, List.set_cons_succ, i64_w, i32_w]
       rfl
      refine pure_ (i := 4) (N := some 13) (v := ?_) (a' := ?_) #[true, true, false, false, true, false, false, false, false] rfl rfl (any_of HT_.out (by kernel_rfl)) (fun _ _ _ h => h) (Or.inl ⟨by rfl, ?_⟩) ?_ ?_
      rotate_left
      ·intro w'
       go_simp
       with_reducible rfl
      rotate_left
      ·simp only [Act.put, List.setIfInBounds_toArray, List.set_cons_zero, List.set_cons_succ, i64_w, i32_w]
       rfl
      refine pure_ (i := 5) (N := some 14) (v := ?_) (a' := ?_) #[true, true, false, false, true, true, false, false, false] rfl rfl (any_of HT_.out (by kernel_rfl)) (fun _ _ _ h => h) (Or.inl ⟨by rfl, ?_⟩) ?_ ?_
      rotate_left
      ·intro w'
       go_simp
       with_reducible rfl
      rotate_left
      ·simp only [Act.put, List.setIfInBounds_toArray, List.set_cons_zero, List.set_cons_succ, i64_w, i32_w]
       rfl
      refine take_ (i := 2) (N := some 11) (v := ?_) (a' := ?_) #[true, true, true, false, true, true, false, false, false] rfl rfl (take_ofW HT_.out HW_.out (by kernel_rfl)) (fun _ _ _ h => h) (Or.inl ⟨by rfl, ?_⟩) hHeld ?_ ?_
      rotate_left
      ·rintro w' ⟨s0, s1⟩
       go_simp
       with_reducible rfl
      rotate_left
      ·simp only [Act.put, List.setIfInBounds_toArray, List.set_cons_zero, List.set_cons_succ, i64_w, i32_w]
       rfl
      refine pure_ (i := 3) (N := some 12) (v := ?_) (a' := ?_) #[true, true, true, true, true, true, false, false, false] rfl rfl (any_of HT_.out (by kernel_rfl)) (fun _ _ _ h => h) (Or.inl ⟨by rfl, ?_⟩) ?_ ?_
      rotate_left
      ·intro w'
       go_simp
       with_reducible rfl
      rotate_left
      ·simp only [Act.put, List.setIfInBounds_toArray, List.set_cons_zero, List.set_cons_succ, i64_w, i32_w]
       rfl
      refine take_ (i := 6) (N := some 15) (v := ?_) (a' := ?_) #[true, true, true, true, true, true, true, false, false] rfl rfl (take_ofW HT_.out HW_.out (by kernel_rfl)) (fun _ _ _ h => h) (Or.inl ⟨by rfl, ?_⟩) hHeld ?_ ?_
      rotate_left
      ·rintro w' ⟨s0, s1⟩
       go_simp
       with_reducible rfl
      rotate_left
      ·simp only [Act.put, List.setIfInBounds_toArray, List.set_cons_zero, List.set_cons_succ, i64_w, i32_w]
       rfl
      refine one_ (i := 7) (N := some 16) #[true, true, true, true, true, true, true, true, false] rfl rfl (one_of HT_.out (by kernel_rfl)) (by decide) (fun K hK => ?_)
      refine Kd.R_lit_step (Kd.int .i64) _ 3 ?hg (N := 16) ?hd (xs := ([wrap64 ((rd l0 0) + 1), rd l0 1] : List Int)) (inner := [.int .i64 (wrap64 ((rd l0 0) + 1)), .int .i64 (rd l0 1)]) (ok := fun _ => True) (okp := fun _ => True) ?hr ?hp (fun _ hk => hk) trivial (Below.refl _ _) (Nat.le_refl _) (by simp) ?_; (case hd => rfl); (case hg => rfl); (case hr => first | (go_simp; done) | (go_simp; rfl)); (case hp => exact (Reps.one (show Kd.M (Kd.int .i64) _ _ _ (wrap64 ((rd l0 0) + 1)) [.int .i64 (wrap64 ((rd l0 0) + 1))] from rfl) (Reps.one (show Kd.M (Kd.int .i64) _ _ _ (rd l0 1) [.int .i64 (rd l0 1)] from rfl) (Reps.none _ _))))
      intro v207 w10 ho11 hb hg_ hnew_
      clear hg_ hnew_
      (first | rw [← Ny206.out] at ho11 | (simp only [Int.reduceToNat] at ho11; rw [← Ny206.out] at ho11))
      have n0_ := Aside0.mk (Kd.R_lower ho11 (below_size (by repeat (first | (with_reducible first | exact HB.out | apply below_alloc | apply pw_below_drewN | apply below_drew1) | exact HB.out))))
      have n1_ := Aside0.mk (below_step (by repeat (first | (with_reducible first | exact HB.out | apply below_alloc | apply pw_below_drewN | apply below_drew1) | exact HB.out)) hb)
      clear HB
      have HO208 := n0_
      have HB := n1_
      clear n0_ n1_
      clear hb ho11
      refine hK.out _ _ ⟨((HB.out.cell (World.block_lt_of_cell? w _ hw204_0)).trans hw204_0), ((HB.out.cell (World.block_lt_of_cell? w _ hw205_0)).trans hw205_0)⟩ (fun hHeld => ?_)
      clear hK K
      refine norm_ (a' := ?_) ?_ ?_
      rotate_left
      ·show Act.put _ (some 16) _ = _
       simp only [Act.put, List.setIfInBounds_toArray, List.set_cons_zero, List.set_cons_succ, i64_w, i32_w]
       rfl
      refine pure_ (i := 8) (N := some 4) (v := ?_) (a' := ?_) #[true, true, true, true, true, true, true, true, true] rfl rfl (any_of HT_.out (by kernel_rfl)) (fun _ _ _ h => h) (Or.inl ⟨by rfl, ?_⟩) ?_ ?_
      rotate_left
      ·intro w'
       go_simp
       with_reducible rfl
      rotate_left
      ·simp only [Act.put, List.setIfInBounds_toArray, List.set_cons_zero, List.set_cons_succ, i64_w, i32_w]
       rfl
      refine done_ (done_of HT_.out (by kernel_rfl)) ?_
      try go_wp2
      go_ret
      exact ⟨_, by first | rfl | (simp [errW_none, errW_some] <;> rfl) | (simp [*, errW_none, errW_some] <;> rfl), by (with_reducible repeat (first | apply Kd.R_alloc | apply Kd.R_drewN | apply Kd.R_drew)); exact HO208.out, by repeat (first | (with_reducible first | exact HB.out | apply below_alloc | apply pw_below_drewN | apply below_drew1) | exact HB.out)⟩
     ·rw [if_neg c8] at H
      exact absurd H (by simp)
    ·rw [if_neg c7] at H
     exact absurd H (by simp)
   ·rw [if_neg c6] at H
    have c6b0 : ((bt (⟨#[101, 110, 115, 119]⟩ : ByteArray) a1) == 101) = false := beq_eq_false_iff_ne.mpr c6
    have c6b1 : ((bt (⟨#[101, 110, 115, 119]⟩ : ByteArray) a1) != 101) = true := bne_iff_ne.mpr c6
    by_cases c12 : (bt (⟨#[101, 110, 115, 119]⟩ : ByteArray) a1) = 110
    ·rw [if_pos c12] at H
     have c12b0 : ((bt (⟨#[101, 110, 115, 119]⟩ : ByteArray) a1) == 110) = true := beq_iff_eq.mpr c12
     have c12b1 : ((bt (⟨#[101, 110, 115, 119]⟩ : ByteArray) a1) != 110) = false := bne_eq_false_iff_eq.mpr c12
     clear c12
     by_cases c13 : 0 < (l0.length : Int)
     ·rw [if_pos c13] at H
      have c13b0 : decide (0 < (l0.length : Int)) = true := decide_eq_true c13
      have c13b1 : decide (0 < l0.length) = true := decide_eq_true (by omega)
      clear c13
      by_cases c14 : 1 < (l0.length : Int)
      ·rw [if_pos c14] at H
       have c14b0 : decide (1 < (l0.length : Int)) = true := decide_eq_true c14
       have c14b1 : decide (1 < l0.length) = true := decide_eq_true (by omega)
       clear c14
       obtain ⟨y211, hy211⟩ : ∃ y_ : List Int, y_ = (([rd l0 0, wrap64 ((rd l0 1) + 1)] : List Int)) := ⟨_, rfl⟩
       replace H : (some y211) = some r := by first | (rw [hy211]; with_reducible exact H) | (have H2_ := (Option.bind_some _ _).symm.trans H; rw [hy211]; with_reducible exact H2_) | (have H2_ := (Option.bind_some _ _).symm.trans H; with_reducible exact H2_) | with_reducible exact H | (rw [hy211]; exact H) | exact H
       have Ny211 := Aside0.mk hy211
       clear hy211
       obtain rfl := Option.some.inj H
       have p5 : 0 ≤ (a1 : Int) := of_decide_eq_true (by first | (with_reducible assumption) | assumption)
       have q5 : a1 < (4 : Int) := of_decide_eq_true (by first | (with_reducible assumption) | assumption)
       have hx5 := bt_at (⟨#[101, 110, 115, 119]⟩ : ByteArray) a1
       replace p5 := eq_true p5
       replace q5 := eq_true q5
       go_enter Try.func72, Try.ntmps72
       try go_wp2
       have n0_ := Aside0.mk (below_drew1 HB.out)
       clear HB
       have HB := n0_
       clear n0_
       have p209 : 0 ≤ (0 : Int) := (by omega)
       have q209 : 0 < (l0.length : Int) := of_decide_eq_true (by first | (with_reducible assumption) | assumption)
       obtain ⟨ad209, e209, hx209_0⟩ := Kd.at_int HR0.out 0 p209 q209
       have hw209_0 := hx209_0
       (try rw [show ((0 : Int)).toNat = 0 from rfl] at hw209_0)
       (try rw [show 0 * 1 = 0 from rfl] at hw209_0)
       (try rw [Addr.add_zero'] at hw209_0)
       cases e209
       have qi209 : (0 < l0.length) = True := eq_true (by omega)
       (try rw [show ((0 : Int)).toNat = 0 from rfl] at hx209_0)
       (try rw [Addr.add_zero'] at hx209_0)
       replace hx209_0 := (HB.out.cell (World.block_lt_of_cell? w _ hx209_0)).trans hx209_0
       replace p209 := eq_true p209
       replace q209 := eq_true q209
       have p210 : 0 ≤ (1 : Int) := (by omega)
       have q210 : 1 < (l0.length : Int) := of_decide_eq_true (by first | (with_reducible assumption) | assumption)
       obtain ⟨ad210, e210, hx210_0⟩ := Kd.at_int HR0.out 1 p210 q210
       have hw210_0 := hx210_0
       (try rw [show ((1 : Int)).toNat = 1 from rfl] at hw210_0)
       (try rw [show 1 * 1 = 1 from rfl] at hw210_0)
       (try simp only [Nat.reduceMul, Nat.reduceEqDiff, Go.Addr.add, ↓reduceIte] at hw210_0)
       obtain rfl : ad209 = ad210 := (by injection e210)
       (try simp only [show (1 : Int).toNat = 1 from rfl, Nat.reduceMul, Nat.reduceEqDiff, Go.Addr.add, ↓reduceIte] at hx210_0)
       have qi210 : (1 < l0.length) = True := eq_true (by omega)
       (try rw [show ((1 : Int)).toNat = 1 from rfl] at hx210_0)
       replace hx210_0 := (HB.out.cell (World.block_lt_of_cell? w _ hx210_0)).trans hx210_0
       replace p210 := eq_true p210
       replace q210 := eq_true q210
       refine start_ (n := 9) (S := fun w' => w'.cell? ad209 = some (.int .i64 (rd l0 0)) ∧ w'.cell? ⟨ad209.block, ad209.off + 1, none⟩ = some (.int .i64 (rd l0 1))) (ds := []) #[false, false, false, false, false, false, false, false, false] (by kernel_rfl) rfl rfl ⟨((HB.out.cell (World.block_lt_of_cell? w _ hw209_0)).trans hw209_0), ((HB.out.cell (World.block_lt_of_cell? w _ hw210_0)).trans hw210_0)⟩ (fun hHeld => ?_); refine with_tabW impl_moved.tab5 impl_moved.bits5 (fun HT_ HW_ => ?_)
       generalize w.drew = w15 at HB hx209_0 hx210_0 hHeld ⊢
       refine pure_ (i := 0) (N := some 19) (v := ?_) (a' := ?_) #[true, false, false, false, false, false, false, false, false] rfl rfl (any_of HT_.out (by kernel_rfl)) (fun _ _ _ h => h) (Or.inl ⟨by rfl, ?_⟩) ?_ ?_
       rotate_left
       ·intro w'
        go_simp
        with_reducible rfl
       rotate_left
       ·simp only [Act.put, List.setIfInBounds_toArray, List.set_cons_zero, List.set_cons_succ, i64_w, i32_w]
        rfl
       refine pure_ (i := 1) (N := some 20) (v := ?_) (a' := ?_) #[true, true, false, false, false, false, false, false, false] rfl rfl (any_of HT_.out (by kernel_rfl)) (fun _ _ _ h => h) (Or.inl ⟨by rfl, ?_⟩) ?_ ?_
       rotate_left
       ·intro w'
        go_simp
        with_reducible rfl
       rotate_left
       ·simp only [Act.put, List.setIfInBounds_toArray, List.set_cons_zero, List.set_cons_succ, i64_w, i32_w]
        rfl
       refine pure_ (i := 3) (N := some 22) (v := ?_) (a' := ?_) #[true, true, false, true, false, false, false, false, false] rfl rfl (any_of HT_.out (by kernel_rfl)) (fun _ _ _ h => h) (Or.inl ⟨by rfl, ?_⟩) ?_ ?_
       rotate_left
       ·intro w'
        go_simp
        with_reducible rfl
       rotate_left
       ·simp only [Act.put, List.setIfInBounds_toArray, List.set_cons_zero, List.set_cons_succ, i64_w, i32_w]
        rfl
       refine pure_ (i := 4) (N := some 23) (v := ?_) (a' := ?_) #[true, true, false, true, true, false, false, false, false] rfl rfl (any_of HT_.out (by kernel_rfl)) (fun _ _ _ h => h) (Or.inl ⟨by rfl, ?_⟩) ?_ ?_
       rotate_left
       ·intro w'
        go_simp
        with_reducible rfl
       rotate_left
       ·simp only [Act.put, List.setIfInBounds_toArray, List.set_cons_zero, List.set_cons_succ, i64_w, i32_w]
        rfl
       refine take_ (i := 2) (N := some 21) (v := ?_) (a' := ?_) #[true, true, true, true, true, false, false, false, false] rfl rfl (take_ofW HT_.out HW_.out (by kernel_rfl)) (fun _ _ _ h => h) (Or.inl ⟨by rfl, ?_⟩) hHeld ?_ ?_
       rotate_left
       ·rintro w' ⟨s0, s1⟩
        go_simp
        with_reducible rfl
       rotate_left
       ·simp only [Act.put, List.setIfInBounds_toArray, List.set_cons_zero, List.set_cons_succ, i64_w, i32_w]
        rfl
       refine take_ (i := 5) (N := some 24) (v := ?_) (a' := ?_) #[true, true, true, true, true, true, false, false, false] rfl rfl (take_ofW HT_.out HW_.out (by kernel_rfl)) (fun _ _ _ h => h) (Or.inl ⟨by rfl, ?_⟩) hHeld ?_ ?_
       rotate_left
       ·rintro w' ⟨s0, s1⟩
        go_simp
        with_reducible rfl
       rotate_left
       ·simp only [Act.put, List.setIfInBounds_toArray, List.set_cons_zero, List.set_cons_succ, i64_w, i32_w]
        rfl
       refine pure_ (i := 6) (N := some 25) (v := ?_) (a' := ?_) #[true, true, true, true, true, true, true, false, false] rfl rfl (any_of HT_.out (by kernel_rfl)) (fun _ _ _ h => h) (Or.inl ⟨by rfl, ?_⟩) ?_ ?_
       rotate_left
       ·intro w'
        go_simp
        with_reducible rfl
       rotate_left
       ·simp only [Act.put, List.setIfInBounds_toArray, List.set_cons_zero, List.set_cons_succ, i64_w, i32_w]
        rfl
       refine one_ (i := 7) (N := some 26) #[true, true, true, true, true, true, true, true, false] rfl rfl (one_of HT_.out (by kernel_rfl)) (by decide) (fun K hK => ?_)
       refine Kd.R_lit_step (Kd.int .i64) _ 3 ?hg (N := 26) ?hd (xs := ([rd l0 0, wrap64 ((rd l0 1) + 1)] : List Int)) (inner := [.int .i64 (rd l0 0), .int .i64 (wrap64 ((rd l0 1) + 1))]) (ok := fun _ => True) (okp := fun _ => True) ?hr ?hp (fun _ hk => hk) trivial (Below.refl _ _) (Nat.le_refl _) (by simp) ?_; (case hd => rfl); (case hg => rfl); (case hr => first | (go_simp; done) | (go_simp; rfl)); (case hp => exact (Reps.one (show Kd.M (Kd.int .i64) _ _ _ (rd l0 0) [.int .i64 (rd l0 0)] from rfl) (Reps.one (show Kd.M (Kd.int .i64) _ _ _ (wrap64 ((rd l0 1) + 1)) [.int .i64 (wrap64 ((rd l0 1) + 1))] from rfl) (Reps.none _ _))))
       intro v212 w16 ho17 hb hg_ hnew_
       clear hg_ hnew_
       (first | rw [← Ny211.out] at ho17 | (simp only [Int.reduceToNat] at ho17; rw [← Ny211.out] at ho17))
       have n0_ := Aside0.mk (Kd.R_lower ho17 (below_size (by repeat (first | (with_reducible first | exact HB.out | apply below_alloc | apply pw_below_drewN | apply below_drew1) | exact HB.out))))
       have n1_ := Aside0.mk (below_step (by repeat (first | (with_reducible first | exact HB.out | apply below_alloc | apply pw_below_drewN | apply below_drew1) | exact HB.out)) hb)
       clear HB
       have HO213 := n0_
       have HB := n1_
       clear n0_ n1_
       clear hb ho17
       refine hK.out _ _ ⟨((HB.out.cell (World.block_lt_of_cell? w _ hw209_0)).trans hw209_0), ((HB.out.cell (World.block_lt_of_cell? w _ hw210_0)).trans hw210_0)⟩ (fun hHeld => ?_)
       clear hK K
       refine norm_ (a' := ?_) ?_ ?_
       rotate_left
       ·show Act.put _ (some 26) _ = _
        simp only [Act.put, List.setIfInBounds_toArray, List.set_cons_zero, List.set_cons_succ, i64_w, i32_w]
        rfl
       refine pure_ (i := 8) (N := some 4) (v := ?_) (a' := ?_) #[true, true, true, true, true, true, true, true, true] rfl rfl (any_of HT_.out (by kernel_rfl)) (fun _ _ _ h => h) (Or.inl ⟨by rfl, ?_⟩) ?_ ?_
       rotate_left
       ·intro w'
        go_simp
        with_reducible rfl
       rotate_left
       ·simp only [Act.put, List.setIfInBounds_toArray, List.set_cons_zero, List.set_cons_succ, i64_w, i32_w]
        rfl
       refine done_ (done_of HT_.out (by kernel_rfl)) ?_
       try go_wp2
       go_ret
       exact ⟨_, by first | rfl | (simp [errW_none, errW_some] <;> rfl) | (simp [*, errW_none, errW_some] <;> rfl), by (with_reducible repeat (first | apply Kd.R_alloc | apply Kd.R_drewN | apply Kd.R_drew)); exact HO213.out, by repeat (first | (with_reducible first | exact HB.out | apply below_alloc | apply pw_below_drewN | apply below_drew1) | exact HB.out)⟩
      ·rw [if_neg c14] at H
       exact absurd H (by simp)
     ·rw [if_neg c13] at H
      exact absurd H (by simp)
    ·rw [if_neg c12] at H
     have c12b0 : ((bt (⟨#[101, 110, 115, 119]⟩ : ByteArray) a1) == 110) = false := beq_eq_false_iff_ne.mpr c12
     have c12b1 : ((bt (⟨#[101, 110, 115, 119]⟩ : ByteArray) a1) != 110) = true := bne_iff_ne.mpr c12
     by_cases c18 : (bt (⟨#[101, 110, 115, 119]⟩ : ByteArray) a1) = 115
     ·rw [if_pos c18] at H
      have c18b0 : ((bt (⟨#[101, 110, 115, 119]⟩ : ByteArray) a1) == 115) = true := beq_iff_eq.mpr c18
      have c18b1 : ((bt (⟨#[101, 110, 115, 119]⟩ : ByteArray) a1) != 115) = false := bne_eq_false_iff_eq.mpr c18
      clear c18
      by_cases c19 : 0 < (l0.length : Int)
      ·rw [if_pos c19] at H
       have c19b0 : decide (0 < (l0.length : Int)) = true := decide_eq_true c19
       have c19b1 : decide (0 < l0.length) = true := decide_eq_true (by omega)
       clear c19
       by_cases c20 : 1 < (l0.length : Int)
       ·rw [if_pos c20] at H
        have c20b0 : decide (1 < (l0.length : Int)) = true := decide_eq_true c20
        have c20b1 : decide (1 < l0.length) = true := decide_eq_true (by omega)
        clear c20
        obtain ⟨y216, hy216⟩ : ∃ y_ : List Int, y_ = (([rd l0 0, wrap64 ((rd l0 1) - 1)] : List Int)) := ⟨_, rfl⟩
        replace H : (some y216) = some r := by first | (rw [hy216]; with_reducible exact H) | (have H2_ := (Option.bind_some _ _).symm.trans H; rw [hy216]; with_reducible exact H2_) | (have H2_ := (Option.bind_some _ _).symm.trans H; with_reducible exact H2_) | with_reducible exact H | (rw [hy216]; exact H) | exact H
        have Ny216 := Aside0.mk hy216
        clear hy216
        obtain rfl := Option.some.inj H
        have p5 : 0 ≤ (a1 : Int) := of_decide_eq_true (by first | (with_reducible assumption) | assumption)
        have q5 : a1 < (4 : Int) := of_decide_eq_true (by first | (with_reducible assumption) | assumption)
        have hx5 := bt_at (⟨#[101, 110, 115, 119]⟩ : ByteArray) a1
        replace p5 := eq_true p5
        replace q5 := eq_true q5
        go_enter Try.func72, Try.ntmps72
        try go_wp2
        have n0_ := Aside0.mk (below_drew1 HB.out)
        clear HB
        have HB := n0_
        clear n0_
        have p214 : 0 ≤ (0 : Int) := (by omega)
        have q214 : 0 < (l0.length : Int) := of_decide_eq_true (by first | (with_reducible assumption) | assumption)
        obtain ⟨ad214, e214, hx214_0⟩ := Kd.at_int HR0.out 0 p214 q214
        have hw214_0 := hx214_0
        (try rw [show ((0 : Int)).toNat = 0 from rfl] at hw214_0)
        (try rw [show 0 * 1 = 0 from rfl] at hw214_0)
        (try rw [Addr.add_zero'] at hw214_0)
        cases e214
        have qi214 : (0 < l0.length) = True := eq_true (by omega)
        (try rw [show ((0 : Int)).toNat = 0 from rfl] at hx214_0)
        (try rw [Addr.add_zero'] at hx214_0)
        replace hx214_0 := (HB.out.cell (World.block_lt_of_cell? w _ hx214_0)).trans hx214_0
        replace p214 := eq_true p214
        replace q214 := eq_true q214
        have p215 : 0 ≤ (1 : Int) := (by omega)
        have q215 : 1 < (l0.length : Int) := of_decide_eq_true (by first | (with_reducible assumption) | assumption)
        obtain ⟨ad215, e215, hx215_0⟩ := Kd.at_int HR0.out 1 p215 q215
        have hw215_0 := hx215_0
        (try rw [show ((1 : Int)).toNat = 1 from rfl] at hw215_0)
        (try rw [show 1 * 1 = 1 from rfl] at hw215_0)
        (try simp only [Nat.reduceMul, Nat.reduceEqDiff, Go.Addr.add, ↓reduceIte] at hw215_0)
        obtain rfl : ad214 = ad215 := (by injection e215)
        (try simp only [show (1 : Int).toNat = 1 from rfl, Nat.reduceMul, Nat.reduceEqDiff, Go.Addr.add, ↓reduceIte] at hx215_0)
        have qi215 : (1 < l0.length) = True := eq_true (by omega)
        (try rw [show ((1 : Int)).toNat = 1 from rfl] at hx215_0)
        replace hx215_0 := (HB.out.cell (World.block_lt_of_cell? w _ hx215_0)).trans hx215_0
        replace p215 := eq_true p215
        replace q215 := eq_true q215
        refine start_ (n := 9) (S := fun w' => w'.cell? ad214 = some (.int .i64 (rd l0 0)) ∧ w'.cell? ⟨ad214.block, ad214.off + 1, none⟩ = some (.int .i64 (rd l0 1))) (ds := []) #[false, false, false, false, false, false, false, false, false] (by kernel_rfl) rfl rfl ⟨((HB.out.cell (World.block_lt_of_cell? w _ hw214_0)).trans hw214_0), ((HB.out.cell (World.block_lt_of_cell? w _ hw215_0)).trans hw215_0)⟩ (fun hHeld => ?_); refine with_tabW impl_moved.tab7 impl_moved.bits7 (fun HT_ HW_ => ?_)
        generalize w.drew = w21 at HB hx214_0 hx215_0 hHeld ⊢
        refine pure_ (i := 0) (N := some 29) (v := ?_) (a' := ?_) #[true, false, false, false, false, false, false, false, false] rfl rfl (any_of HT_.out (by kernel_rfl)) (fun _ _ _ h => h) (Or.inl ⟨by rfl, ?_⟩) ?_ ?_
        rotate_left
        ·intro w'
         go_simp
         with_reducible rfl
        rotate_left
        ·simp only [Act.put, List.setIfInBounds_toArray, List.set_cons_zero, List.set_cons_succ, i64_w, i32_w]
         rfl
        refine pure_ (i := 1) (N := some 30) (v := ?_) (a' := ?_) #[true, true, false, false, false, false, false, false, false] rfl rfl (any_of HT_.out (by kernel_rfl)) (fun _ _ _ h => h) (Or.inl ⟨by rfl, ?_⟩) ?_ ?_
        rotate_left
        ·intro w'
         go_simp
         with_reducible rfl
        rotate_left
        ·simp only [Act.put, List.setIfInBounds_toArray, List.set_cons_zero, List.set_cons_succ, i64_w, i32_w]
         rfl
        refine pure_ (i := 3) (N := some 32) (v := ?_) (a' := ?_) #[true, true, false, true, false, false, false, false, false] rfl rfl (any_of HT_.out (by kernel_rfl)) (fun _ _ _ h => h) (Or.inl ⟨by rfl, ?_⟩) ?_ ?_
        rotate_left
        ·intro w'
         go_simp
         with_reducible rfl
        rotate_left
        ·simp only [Act.put, List.setIfInBounds_toArray, List.set_cons_zero, List.set_cons_succ, i64_w, i32_w]
         rfl
        refine pure_ (i := 4) (N := some 33) (v := ?_) (a' := ?_) #[true, true, false, true, true, false, false, false, false] rfl rfl (any_of HT_.out (by kernel_rfl)) (fun _ _ _ h => h) (Or.inl ⟨by rfl, ?_⟩) ?_ ?_
        rotate_left
        ·intro w'
         go_simp
         with_reducible rfl
        rotate_left
        ·simp only [Act.put, List.setIfInBounds_toArray, List.set_cons_zero, List.set_cons_succ, i64_w, i32_w]
         rfl
        refine take_ (i := 2) (N := some 31) (v := ?_) (a' := ?_) #[true, true, true, true, true, false, false, false, false] rfl rfl (take_ofW HT_.out HW_.out (by kernel_rfl)) (fun _ _ _ h => h) (Or.inl ⟨by rfl, ?_⟩) hHeld ?_ ?_
        rotate_left
        ·rintro w' ⟨s0, s1⟩
         go_simp
         with_reducible rfl
        rotate_left
        ·simp only [Act.put, List.setIfInBounds_toArray, List.set_cons_zero, List.set_cons_succ, i64_w, i32_w]
         rfl
        refine take_ (i := 5) (N := some 34) (v := ?_) (a' := ?_) #[true, true, true, true, true, true, false, false, false] rfl rfl (take_ofW HT_.out HW_.out (by kernel_rfl)) (fun _ _ _ h => h) (Or.inl ⟨by rfl, ?_⟩) hHeld ?_ ?_
        rotate_left
        ·rintro w' ⟨s0, s1⟩
         go_simp
         with_reducible rfl
        rotate_left
        ·simp only [Act.put, List.setIfInBounds_toArray, List.set_cons_zero, List.set_cons_succ, i64_w, i32_w]
         rfl
        refine pure_ (i := 6) (N := some 35) (v := ?_) (a' := ?_) #[true, true, true, true, true, true, true, false, false] rfl rfl (any_of HT_.out (by kernel_rfl)) (fun _ _ _ h => h) (Or.inl ⟨by rfl, ?_⟩) ?_ ?_
        rotate_left
        ·intro w'
         go_simp
         with_reducible rfl
        rotate_left
        ·simp only [Act.put, List.setIfInBounds_toArray, List.set_cons_zero, List.set_cons_succ, i64_w, i32_w]
         rfl
        refine one_ (i := 7) (N := some 36) #[true, true, true, true, true, true, true, true, false] rfl rfl (one_of HT_.out (by kernel_rfl)) (by decide) (fun K hK => ?_)
        refine Kd.R_lit_step (Kd.int .i64) _ 3 ?hg (N := 36) ?hd (xs := ([rd l0 0, wrap64 ((rd l0 1) - 1)] : List Int)) (inner := [.int .i64 (rd l0 0), .int .i64 (wrap64 ((rd l0 1) - 1))]) (ok := fun _ => True) (okp := fun _ => True) ?hr ?hp (fun _ hk => hk) trivial (Below.refl _ _) (Nat.le_refl _) (by simp) ?_; (case hd => rfl); (case hg => rfl); (case hr => first | (go_simp; done) | (go_simp; rfl)); (case hp => exact (Reps.one (show Kd.M (Kd.int .i64) _ _ _ (rd l0 0) [.int .i64 (rd l0 0)] from rfl) (Reps.one (show Kd.M (Kd.int .i64) _ _ _ (wrap64 ((rd l0 1) - 1)) [.int .i64 (wrap64 ((rd l0 1) - 1))] from rfl) (Reps.none _ _))))
        intro v217 w22 ho23 hb hg_ hnew_
        clear hg_ hnew_
        (first | rw [← Ny216.out] at ho23 | (simp only [Int.reduceToNat] at ho23; rw [← Ny216.out] at ho23))
        have n0_ := Aside0.mk (Kd.R_lower ho23 (below_size (by repeat (first | (with_reducible first | exact HB.out | apply below_alloc | apply pw_below_drewN | apply below_drew1) | exact HB.out))))
        have n1_ := Aside0.mk (below_step (by repeat (first | (with_reducible first | exact HB.out | apply below_alloc | apply pw_below_drewN | apply below_drew1) | exact HB.out)) hb)
        clear HB
        have HO218 := n0_
        have HB := n1_
        clear n0_ n1_
        clear hb ho23
        refine hK.out _ _ ⟨((HB.out.cell (World.block_lt_of_cell? w _ hw214_0)).trans hw214_0), ((HB.out.cell (World.block_lt_of_cell? w _ hw215_0)).trans hw215_0)⟩ (fun hHeld => ?_)
        clear hK K
        refine norm_ (a' := ?_) ?_ ?_
        rotate_left
        ·show Act.put _ (some 36) _ = _
         simp only [Act.put, List.setIfInBounds_toArray, List.set_cons_zero, List.set_cons_succ, i64_w, i32_w]
         rfl
        refine pure_ (i := 8) (N := some 4) (v := ?_) (a' := ?_) #[true, true, true, true, true, true, true, true, true] rfl rfl (any_of HT_.out (by kernel_rfl)) (fun _ _ _ h => h) (Or.inl ⟨by rfl, ?_⟩) ?_ ?_
        rotate_left
        ·intro w'
         go_simp
         with_reducible rfl
        rotate_left
        ·simp only [Act.put, List.setIfInBounds_toArray, List.set_cons_zero, List.set_cons_succ, i64_w, i32_w]
         rfl
        refine done_ (done_of HT_.out (by kernel_rfl)) ?_
        try go_wp2
        go_ret
        exact ⟨_, by first | rfl | (simp [errW_none, errW_some] <;> rfl) | (simp [*, errW_none, errW_some] <;> rfl), by (with_reducible repeat (first | apply Kd.R_alloc | apply Kd.R_drewN | apply Kd.R_drew)); exact HO218.out, by repeat (first | (with_reducible first | exact HB.out | apply below_alloc | apply pw_below_drewN | apply below_drew1) | exact HB.out)⟩
       ·rw [if_neg c20] at H
        exact absurd H (by simp)
      ·rw [if_neg c19] at H
       exact absurd H (by simp)
     ·rw [if_neg c18] at H
      have c18b0 : ((bt (⟨#[101, 110, 115, 119]⟩ : ByteArray) a1) == 115) = false := beq_eq_false_iff_ne.mpr c18
      have c18b1 : ((bt (⟨#[101, 110, 115, 119]⟩ : ByteArray) a1) != 115) = true := bne_iff_ne.mpr c18
      by_cases c24 : 0 < (l0.length : Int)
      ·rw [if_pos c24] at H
       have c24b0 : decide (0 < (l0.length : Int)) = true := decide_eq_true c24
       have c24b1 : decide (0 < l0.length) = true := decide_eq_true (by omega)
       clear c24
       by_cases c25 : 1 < (l0.length : Int)
       ·rw [if_pos c25] at H
        have c25b0 : decide (1 < (l0.length : Int)) = true := decide_eq_true c25
        have c25b1 : decide (1 < l0.length) = true := decide_eq_true (by omega)
        clear c25
        obtain ⟨y221, hy221⟩ : ∃ y_ : List Int, y_ = (([wrap64 ((rd l0 0) - 1), rd l0 1] : List Int)) := ⟨_, rfl⟩
        replace H : (some y221) = some r := by first | (rw [hy221]; with_reducible exact H) | (have H2_ := (Option.bind_some _ _).symm.trans H; rw [hy221]; with_reducible exact H2_) | (have H2_ := (Option.bind_some _ _).symm.trans H; with_reducible exact H2_) | with_reducible exact H | (rw [hy221]; exact H) | exact H
        have Ny221 := Aside0.mk hy221
        clear hy221
        obtain rfl := Option.some.inj H
        have p5 : 0 ≤ (a1 : Int) := of_decide_eq_true (by first | (with_reducible assumption) | assumption)
        have q5 : a1 < (4 : Int) := of_decide_eq_true (by first | (with_reducible assumption) | assumption)
        have hx5 := bt_at (⟨#[101, 110, 115, 119]⟩ : ByteArray) a1
        replace p5 := eq_true p5
        replace q5 := eq_true q5
        go_enter Try.func72, Try.ntmps72
        try go_wp2
        have n0_ := Aside0.mk (below_drew1 HB.out)
        clear HB
        have HB := n0_
        clear n0_
        have p219 : 0 ≤ (0 : Int) := (by omega)
        have q219 : 0 < (l0.length : Int) := of_decide_eq_true (by first | (with_reducible assumption) | assumption)
        obtain ⟨ad219, e219, hx219_0⟩ := Kd.at_int HR0.out 0 p219 q219
        have hw219_0 := hx219_0
        (try rw [show ((0 : Int)).toNat = 0 from rfl] at hw219_0)
        (try rw [show 0 * 1 = 0 from rfl] at hw219_0)
        (try rw [Addr.add_zero'] at hw219_0)
        cases e219
        have qi219 : (0 < l0.length) = True := eq_true (by omega)
        (try rw [show ((0 : Int)).toNat = 0 from rfl] at hx219_0)
        (try rw [Addr.add_zero'] at hx219_0)
        replace hx219_0 := (HB.out.cell (World.block_lt_of_cell? w _ hx219_0)).trans hx219_0
        replace p219 := eq_true p219
        replace q219 := eq_true q219
        have p220 : 0 ≤ (1 : Int) := (by omega)
        have q220 : 1 < (l0.length : Int) := of_decide_eq_true (by first | (with_reducible assumption) | assumption)
        obtain ⟨ad220, e220, hx220_0⟩ := Kd.at_int HR0.out 1 p220 q220
        have hw220_0 := hx220_0
        (try rw [show ((1 : Int)).toNat = 1 from rfl] at hw220_0)
        (try rw [show 1 * 1 = 1 from rfl] at hw220_0)
        (try simp only [Nat.reduceMul, Nat.reduceEqDiff, Go.Addr.add, ↓reduceIte] at hw220_0)
        obtain rfl : ad219 = ad220 := (by injection e220)
        (try simp only [show (1 : Int).toNat = 1 from rfl, Nat.reduceMul, Nat.reduceEqDiff, Go.Addr.add, ↓reduceIte] at hx220_0)
        have qi220 : (1 < l0.length) = True := eq_true (by omega)
        (try rw [show ((1 : Int)).toNat = 1 from rfl] at hx220_0)
        replace hx220_0 := (HB.out.cell (World.block_lt_of_cell? w _ hx220_0)).trans hx220_0
        replace p220 := eq_true p220
        replace q220 := eq_true q220
        refine start_ (n := 9) (S := fun w' => w'.cell? ad219 = some (.int .i64 (rd l0 0)) ∧ w'.cell? ⟨ad219.block, ad219.off + 1, none⟩ = some (.int .i64 (rd l0 1))) (ds := []) #[false, false, false, false, false, false, false, false, false] (by kernel_rfl) rfl rfl ⟨((HB.out.cell (World.block_lt_of_cell? w _ hw219_0)).trans hw219_0), ((HB.out.cell (World.block_lt_of_cell? w _ hw220_0)).trans hw220_0)⟩ (fun hHeld => ?_); refine with_tabW impl_moved.tab8 impl_moved.bits8 (fun HT_ HW_ => ?_)
        generalize w.drew = w26 at HB hx219_0 hx220_0 hHeld ⊢
        refine pure_ (i := 0) (N := some 37) (v := ?_) (a' := ?_) #[true, false, false, false, false, false, false, false, false] rfl rfl (any_of HT_.out (by kernel_rfl)) (fun _ _ _ h => h) (Or.inl ⟨by rfl, ?_⟩) ?_ ?_
        rotate_left
        ·intro w'
         go_simp
         with_reducible rfl
        rotate_left
        ·simp only [Act.put, List.setIfInBounds_toArray, List.set_cons_zero, List.set_cons_succ, i64_w, i32_w]
         rfl
        refine pure_ (i := 1) (N := some 38) (v := ?_) (a' := ?_) #[true, true, false, false, false, false, false, false, false] rfl rfl (any_of HT_.out (by kernel_rfl)) (fun _ _ _ h => h) (Or.inl ⟨by rfl, ?_⟩) ?_ ?_
        rotate_left
        ·intro w'
         go_simp
         with_reducible rfl
        rotate_left
        ·simp only [Act.put, List.setIfInBounds_toArray, List.set_cons_zero, List.set_cons_succ, i64_w, i32_w]
         rfl
        refine pure_ (i := 4) (N := some 41) (v := ?_) (a' := ?_) #[true, true, false, false, true, false, false, false, false] rfl rfl (any_of HT_.out (by kernel_rfl)) (fun _ _ _ h => h) (Or.inl ⟨by rfl, ?_⟩) ?_ ?_
        rotate_left
        ·intro w'
         go_simp
         with_reducible rfl
        rotate_left
        ·simp only [Act.put, List.setIfInBounds_toArray, List.set_cons_zero, List.set_cons_succ, i64_w, i32_w]
         rfl
        refine pure_ (i := 5) (N := some 42) (v := ?_) (a' := ?_) #[true, true, false, false, true, true, false, false, false] rfl rfl (any_of HT_.out (by kernel_rfl)) (fun _ _ _ h => h) (Or.inl ⟨by rfl, ?_⟩) ?_ ?_
        rotate_left
        ·intro w'
         go_simp
         with_reducible rfl
        rotate_left
        ·simp only [Act.put, List.setIfInBounds_toArray, List.set_cons_zero, List.set_cons_succ, i64_w, i32_w]
         rfl
        refine take_ (i := 2) (N := some 39) (v := ?_) (a' := ?_) #[true, true, true, false, true, true, false, false, false] rfl rfl (take_ofW HT_.out HW_.out (by kernel_rfl)) (fun _ _ _ h => h) (Or.inl ⟨by rfl, ?_⟩) hHeld ?_ ?_
        rotate_left
        ·rintro w' ⟨s0, s1⟩
         go_simp
         with_reducible rfl
        rotate_left
        ·simp only [Act.put, List.setIfInBounds_toArray, List.set_cons_zero, List.set_cons_succ, i64_w, i32_w]
         rfl
        refine pure_ (i := 3) (N := some 40) (v := ?_) (a' := ?_) #[true, true, true, true, true, true, false, false, false] rfl rfl (any_of HT_.out (by kernel_rfl)) (fun _ _ _ h => h) (Or.inl ⟨by rfl, ?_⟩) ?_ ?_
        rotate_left
        ·intro w'
         go_simp
         with_reducible rfl
        rotate_left
        ·simp only [Act.put, List.setIfInBounds_toArray, List.set_cons_zero, List.set_cons_succ, i64_w, i32_w]
         rfl
        refine take_ (i := 6) (N := some 43) (v := ?_) (a' := ?_) #[true, true, true, true, true, true, true, false, false] rfl rfl (take_ofW HT_.out HW_.out (by kernel_rfl)) (fun _ _ _ h => h) (Or.inl ⟨by rfl, ?_⟩) hHeld ?_ ?_
        rotate_left
        ·rintro w' ⟨s0, s1⟩
         go_simp
         with_reducible rfl
        rotate_left
        ·simp only [Act.put, List.setIfInBounds_toArray, List.set_cons_zero, List.set_cons_succ, i64_w, i32_w]
         rfl
        refine one_ (i := 7) (N := some 44) #[true, true, true, true, true, true, true, true, false] rfl rfl (one_of HT_.out (by kernel_rfl)) (by decide) (fun K hK => ?_)
        refine Kd.R_lit_step (Kd.int .i64) _ 3 ?hg (N := 44) ?hd (xs := ([wrap64 ((rd l0 0) - 1), rd l0 1] : List Int)) (inner := [.int .i64 (wrap64 ((rd l0 0) - 1)), .int .i64 (rd l0 1)]) (ok := fun _ => True) (okp := fun _ => True) ?hr ?hp (fun _ hk => hk) trivial (Below.refl _ _) (Nat.le_refl _) (by simp) ?_; (case hd => rfl); (case hg => rfl); (case hr => first | (go_simp; done) | (go_simp; rfl)); (case hp => exact (Reps.one (show Kd.M (Kd.int .i64) _ _ _ (wrap64 ((rd l0 0) - 1)) [.int .i64 (wrap64 ((rd l0 0) - 1))] from rfl) (Reps.one (show Kd.M (Kd.int .i64) _ _ _ (rd l0 1) [.int .i64 (rd l0 1)] from rfl) (Reps.none _ _))))
        intro v222 w27 ho28 hb hg_ hnew_
        clear hg_ hnew_
        (first | rw [← Ny221.out] at ho28 | (simp only [Int.reduceToNat] at ho28; rw [← Ny221.out] at ho28))
        have n0_ := Aside0.mk (Kd.R_lower ho28 (below_size (by repeat (first | (with_reducible first | exact HB.out | apply below_alloc | apply pw_below_drewN | apply below_drew1) | exact HB.out))))
        have n1_ := Aside0.mk (below_step (by repeat (first | (with_reducible first | exact HB.out | apply below_alloc | apply pw_below_drewN | apply below_drew1) | exact HB.out)) hb)
        clear HB
        have HO223 := n0_
        have HB := n1_
        clear n0_ n1_
        clear hb ho28
        refine hK.out _ _ ⟨((HB.out.cell (World.block_lt_of_cell? w _ hw219_0)).trans hw219_0), ((HB.out.cell (World.block_lt_of_cell? w _ hw220_0)).trans hw220_0)⟩ (fun hHeld => ?_)
        clear hK K
        refine norm_ (a' := ?_) ?_ ?_
        rotate_left
        ·show Act.put _ (some 44) _ = _
         simp only [Act.put, List.setIfInBounds_toArray, List.set_cons_zero, List.set_cons_succ, i64_w, i32_w]
         rfl
        refine pure_ (i := 8) (N := some 4) (v := ?_) (a' := ?_) #[true, true, true, true, true, true, true, true, true] rfl rfl (any_of HT_.out (by kernel_rfl)) (fun _ _ _ h => h) (Or.inl ⟨by rfl, ?_⟩) ?_ ?_
        rotate_left
        ·intro w'
         go_simp
         with_reducible rfl
        rotate_left
        ·simp only [Act.put, List.setIfInBounds_toArray, List.set_cons_zero, List.set_cons_succ, i64_w, i32_w]
         rfl
        refine done_ (done_of HT_.out (by kernel_rfl)) ?_
        try go_wp2
        go_ret
        exact ⟨_, by first | rfl | (simp [errW_none, errW_some] <;> rfl) | (simp [*, errW_none, errW_some] <;> rfl), by (with_reducible repeat (first | apply Kd.R_alloc | apply Kd.R_drewN | apply Kd.R_drew)); exact HO223.out, by repeat (first | (with_reducible first | exact HB.out | apply below_alloc | apply pw_below_drewN | apply below_drew1) | exact HB.out)⟩
       ·rw [if_neg c25] at H
        exact absurd H (by simp)
      ·rw [if_neg c24] at H
       exact absurd H (by simp)
  ·rw [if_neg c4] at H
   exact absurd H (by simp)
 ·rw [if_neg c3] at H
  exact absurd H (by simp)
def impl_stepIn.in_ (a0_0 a0_1 x y : Int) : Bool := decide (0 ≤ x ∧ x ≤ wrap64 (a0_0 - 1)) && decide (0 ≤ y ∧ y ≤ wrap64 (a0_1 - 1))
def impl_stepIn.can (k : Nat) (a0_0 a0_1 : Int) (l : List S58) (a : List Int) (s : Int) : Option Bool := (impl_moved.f a s).bind fun b => if impl_stepIn.in_ a0_0 a0_1 (rd b 0) (rd b 1) = true then (impl_isClosed.f k a0_0 a0_1 l (mn (rd a 0) (rd b 0)) (mn (rd a 1) (rd b 1)) (rd a 0 == rd b 0)).bind fun t => some (!t) else some false
theorem impl_stepIn.can_mono (k : Nat) (a0_0 a0_1 : Int) (l : List S58) (a : List Int) (s : Int) : LeO (impl_stepIn.can k a0_0 a0_1 l a s) (impl_stepIn.can (k + 1) a0_0 a0_1 l a s) := LeO.bind (LeO.refl _) (fun _ => LeO.ite (LeO.bind (impl_isClosed.mono _ _ _ _ _ _ _) (fun _ => LeO.refl _)) (LeO.refl _))
theorem impl_stepIn.within_f (a b c : Int) : impl_within.f a b c = some (decide (b ≤ a ∧ a ≤ c)) := by
 unfold impl_within.f
 by_cases h : a ≥ b
 ·rw [if_pos h]
  have : b ≤ a := h
  simp [this]
 ·rw [if_neg h]
  have : ¬ b ≤ a := h
  simp [this]
theorem impl_stepIn.within_t {a b c : Int} (h : b ≤ a ∧ a ≤ c) (w : World) (n : Nat) : Calls Try.prog 61 #[.int .i64 a, .int .i64 b, .int .i64 c] (w.drewN n) fun e w' => e = .returned (.bool true) ∧ ∃ m, w' = w.drewN m := by
 refine Calls.quiet_of ((impl_within.calls a b c true _ (by rw [impl_stepIn.within_f, decide_eq_true h])).mono ?_)
 rintro e w' ⟨he, hd⟩
 exact ⟨he, hd.out⟩
theorem impl_stepIn.within_n {a b c : Int} (h : ¬ (b ≤ a ∧ a ≤ c)) (w : World) (n : Nat) : Calls Try.prog 61 #[.int .i64 a, .int .i64 b, .int .i64 c] (w.drewN n) fun e w' => e = .returned (.bool false) ∧ ∃ m, w' = w.drewN m := by
 refine Calls.quiet_of ((impl_within.calls a b c false _ (by rw [impl_stepIn.within_f, decide_eq_false h])).mono ?_)
 rintro e w' ⟨he, hd⟩
 exact ⟨he, hd.out⟩
theorem impl_stepIn.two {w : World} {A : Option Addr} {n : Nat} {x y : Int} (h : Kd.C (Kd.int .i64) w A n [x, y]) : ∃ ad, A = some ad ∧ n = 2 ∧ w.cell? ad = some (.int .i64 x) ∧ w.cell? ⟨ad.block, ad.off + 1, none⟩ = some (.int .i64 y) := by
 obtain rfl : n = 2 := h.1.symm
 obtain ⟨ad, rfl, hx⟩ := Kd.at_int h 0 (by decide) (by decide)
 obtain ⟨ad', e', hy⟩ := Kd.at_int h 1 (by decide) (by decide)
 obtain rfl := Option.some.inj e'
 refine ⟨ad, rfl, rfl, ?_, ?_⟩
 ·have h0 : w.cell? (ad.add 0) = some (.int .i64 x) := hx
  rwa [show ad.add 0 = ad by simp [Addr.add]] at h0
 ·have h0 : w.cell? (ad.add 1) = some (.int .i64 y) := hy
  rwa [show ad.add 1 = ⟨ad.block, ad.off + 1, none⟩ by simp [Addr.add]] at h0
set_option maxHeartbeats 4000000 in
set_option maxRecDepth 100000 in
theorem impl_stepIn.clo (k : Nat) (a0_0 a0_1 : Int) (AL : Option Addr) (cL : Nat) (l : List S58) (B : Nat) (A : Option Addr) (c : Nat) (x y s : Int) (r : Bool) (w : World) (hB : w.heap[B]? = some (.cells #[.int .i64 a0_0, .int .i64 a0_1, .slice AL l.length cL] 31 (0, 0))) (hL : Kd.C k58 w AL l.length l) (hcL : l.length ≤ cL) (hr : Kd.C (Kd.int .i64) w A 2 [x, y]) (hc : 2 ≤ c) (h : impl_stepIn.can k a0_0 a0_1 l [x, y] s = some r) :
  Calls Try.prog 74 #[.slice A 2 c, .int .i64 s, .pointer (some ⟨B, 0, none⟩)] w fun e w' => e = .returned (.bool r) ∧ Below w.heap.size w w' := by
 have hu := Try.underlying31
 have hub := Try.underlying58
 unfold impl_stepIn.can at h
 obtain ⟨b, hb, h⟩ := Option.bind_eq_some_iff.mp h
 obtain ⟨x', y', rfl⟩ : ∃ x' y', b = [x', y'] := by
  unfold impl_moved.f at hb
  repeat' split at hb
  all_goals first | exact ⟨_, _, (Option.some.inj hb).symm⟩ | cases hb
 change (if impl_stepIn.in_ a0_0 a0_1 x' y' = true then (impl_isClosed.f k a0_0 a0_1 l (mn x x') (mn y y') (x == x')).bind fun t => some (!t) else some false) = some r at h
 have hmv := impl_moved.calls A c [x, y] s [x', y'] w hr hc hb
 have HMV := Lib.hid hmv
 have HB := Lib.hid hB
 have HL := Lib.hid hL
 have HA := Lib.hid hr
 obtain ⟨m0, hm0⟩ : ∃ m0, IntKind.i64.wrap (a0_0 - 1) = m0 := ⟨_, rfl⟩
 obtain ⟨m1, hm1⟩ : ∃ m1, IntKind.i64.wrap (a0_1 - 1) = m1 := ⟨_, rfl⟩
 have HM0 : wrap64 (a0_0 - 1) = m0 := (IntWalk.i64_left _).symm.trans hm0
 have HM1 : wrap64 (a0_1 - 1) = m1 := (IntWalk.i64_left _).symm.trans hm1
 unfold impl_stepIn.in_ at h
 rw [HM0, HM1] at h
 clear HM0 HM1 hmv hb hr hB hL hc
 by_cases h1 : 0 ≤ x' ∧ x' ≤ m0
 ·by_cases h3 : 0 ≤ y' ∧ y' ≤ m1
  ·rw [decide_eq_true h1, decide_eq_true h3] at h
   have H1 := Lib.hid h1
   have H3 := Lib.hid h3
   clear h1 h3
   change ((impl_isClosed.f k a0_0 a0_1 l (mn x x') (mn y y') (x == x')).bind fun t => some (!t)) = some r at h
   obtain ⟨t, ht, h⟩ := Option.bind_eq_some_iff.mp h
   obtain rfl := Option.some.inj h
   clear h
   by_cases cx : x' < x
   ·rw [show mn x x' = x' by unfold mn; split <;> omega] at ht
    by_cases cy : y' < y
    ·rw [show mn y y' = y' by unfold mn; split <;> omega] at ht
     have H := Lib.hid ht
     clear ht
     go_enter Try.func74, Try.ntmps74
     go_wp2_with (go_at_call 72; refine HMV.out.mono ?_; rintro e w1 ⟨v1, rfl, hR1, hb1⟩; obtain ⟨A1, c1, rfl, hl1, hC1⟩ := Kd.R_reads hR1; obtain ⟨ad1, rfl, _, hx1, hy1⟩ := impl_stepIn.two hC1; have hcz0 : w1.cell? ⟨B, 0, none⟩ = some (.int .i64 a0_0) := (blk_cell ((hb1.block _ (blk_lt HB.out)).trans HB.out) 0).trans rfl; have hcz1 : w1.cell? ⟨B, 1, none⟩ = some (.int .i64 a0_1) := (blk_cell ((hb1.block _ (blk_lt HB.out)).trans HB.out) 1).trans rfl; have hcz2 : w1.cell? ⟨B, 2, none⟩ = some (.slice AL l.length cL) := (blk_cell ((hb1.block _ (blk_lt HB.out)).trans HB.out) 2).trans rfl; obtain ⟨ad, hadA, _, hx, hy⟩ := impl_stepIn.two (Kd.C_below HA.out hb1); subst hadA; have HB1 := Lib.hid hb1; clear hb1 hR1 hC1)
     go_quiet ((first | (go_at_call 61; (with_reducible exact impl_stepIn.within_t H1.out w1 _)) | (go_at_call 61; (with_reducible exact impl_stepIn.within_t H3.out w1 _))))
     go_wp2
     obtain ⟨W2, hW2⟩ : ∃ W2, W2 = w1.drewN nq := ⟨_, rfl⟩
     rw [← hW2]
     have hx2 : W2.cell? ad = some (.int .i64 x) := by rw [hW2]; exact hx
     have hy2 : W2.cell? ⟨ad.block, ad.off + 1, none⟩ = some (.int .i64 y) := by rw [hW2]; exact hy
     have hx3 : W2.cell? ad1 = some (.int .i64 x') := by rw [hW2]; exact hx1
     have hy3 : W2.cell? ⟨ad1.block, ad1.off + 1, none⟩ = some (.int .i64 y') := by rw [hW2]; exact hy1
     have hz0 : W2.cell? ⟨B, 0, none⟩ = some (.int .i64 a0_0) := by rw [hW2]; exact hcz0
     have hz1 : W2.cell? ⟨B, 1, none⟩ = some (.int .i64 a0_1) := by rw [hW2]; exact hcz1
     have hz2 : W2.cell? ⟨B, 2, none⟩ = some (.slice AL l.length cL) := by rw [hW2]; exact hcz2
     have HB2 := Lib.hid (show Below w.heap.size w W2 by rw [hW2]; exact pw_below_drewN HB1.out nq)
     clear hW2 hx hy hx1 hy1 hcz0 hcz1 hcz2
     go_still_tail 23, (by kernel_rfl)
     change wpList _ _ _ _ _ W2.drew
     go_wp2_with (go_at_call 54; refine (impl_isClosed.calls k a0_0 a0_1 AL cL l (x') (y') (x == x') _ _ (Kd.C_below HL.out (below_drew HB2.out)) hcL H.out).mono ?_; rintro e w4 ⟨rfl, hb4⟩)
     all_goals (go_wp2; go_ret; exact ⟨rfl, below_then (below_drew HB2.out) HB2.out.size hb4⟩)
    ·rw [show mn y y' = y by unfold mn; split <;> omega] at ht
     have H := Lib.hid ht
     clear ht
     go_enter Try.func74, Try.ntmps74
     go_wp2_with (go_at_call 72; refine HMV.out.mono ?_; rintro e w1 ⟨v1, rfl, hR1, hb1⟩; obtain ⟨A1, c1, rfl, hl1, hC1⟩ := Kd.R_reads hR1; obtain ⟨ad1, rfl, _, hx1, hy1⟩ := impl_stepIn.two hC1; have hcz0 : w1.cell? ⟨B, 0, none⟩ = some (.int .i64 a0_0) := (blk_cell ((hb1.block _ (blk_lt HB.out)).trans HB.out) 0).trans rfl; have hcz1 : w1.cell? ⟨B, 1, none⟩ = some (.int .i64 a0_1) := (blk_cell ((hb1.block _ (blk_lt HB.out)).trans HB.out) 1).trans rfl; have hcz2 : w1.cell? ⟨B, 2, none⟩ = some (.slice AL l.length cL) := (blk_cell ((hb1.block _ (blk_lt HB.out)).trans HB.out) 2).trans rfl; obtain ⟨ad, hadA, _, hx, hy⟩ := impl_stepIn.two (Kd.C_below HA.out hb1); subst hadA; have HB1 := Lib.hid hb1; clear hb1 hR1 hC1)
     go_quiet ((first | (go_at_call 61; (with_reducible exact impl_stepIn.within_t H1.out w1 _)) | (go_at_call 61; (with_reducible exact impl_stepIn.within_t H3.out w1 _))))
     go_wp2
     obtain ⟨W2, hW2⟩ : ∃ W2, W2 = w1.drewN nq := ⟨_, rfl⟩
     rw [← hW2]
     have hx2 : W2.cell? ad = some (.int .i64 x) := by rw [hW2]; exact hx
     have hy2 : W2.cell? ⟨ad.block, ad.off + 1, none⟩ = some (.int .i64 y) := by rw [hW2]; exact hy
     have hx3 : W2.cell? ad1 = some (.int .i64 x') := by rw [hW2]; exact hx1
     have hy3 : W2.cell? ⟨ad1.block, ad1.off + 1, none⟩ = some (.int .i64 y') := by rw [hW2]; exact hy1
     have hz0 : W2.cell? ⟨B, 0, none⟩ = some (.int .i64 a0_0) := by rw [hW2]; exact hcz0
     have hz1 : W2.cell? ⟨B, 1, none⟩ = some (.int .i64 a0_1) := by rw [hW2]; exact hcz1
     have hz2 : W2.cell? ⟨B, 2, none⟩ = some (.slice AL l.length cL) := by rw [hW2]; exact hcz2
     have HB2 := Lib.hid (show Below w.heap.size w W2 by rw [hW2]; exact pw_below_drewN HB1.out nq)
     clear hW2 hx hy hx1 hy1 hcz0 hcz1 hcz2
     go_still_tail 23, (by kernel_rfl)
     change wpList _ _ _ _ _ W2.drew
     go_wp2_with (go_at_call 54; refine (impl_isClosed.calls k a0_0 a0_1 AL cL l (x') (y) (x == x') _ _ (Kd.C_below HL.out (below_drew HB2.out)) hcL H.out).mono ?_; rintro e w4 ⟨rfl, hb4⟩)
     all_goals (go_wp2; go_ret; exact ⟨rfl, below_then (below_drew HB2.out) HB2.out.size hb4⟩)
   ·rw [show mn x x' = x by unfold mn; split <;> omega] at ht
    by_cases cy : y' < y
    ·rw [show mn y y' = y' by unfold mn; split <;> omega] at ht
     have H := Lib.hid ht
     clear ht
     go_enter Try.func74, Try.ntmps74
     go_wp2_with (go_at_call 72; refine HMV.out.mono ?_; rintro e w1 ⟨v1, rfl, hR1, hb1⟩; obtain ⟨A1, c1, rfl, hl1, hC1⟩ := Kd.R_reads hR1; obtain ⟨ad1, rfl, _, hx1, hy1⟩ := impl_stepIn.two hC1; have hcz0 : w1.cell? ⟨B, 0, none⟩ = some (.int .i64 a0_0) := (blk_cell ((hb1.block _ (blk_lt HB.out)).trans HB.out) 0).trans rfl; have hcz1 : w1.cell? ⟨B, 1, none⟩ = some (.int .i64 a0_1) := (blk_cell ((hb1.block _ (blk_lt HB.out)).trans HB.out) 1).trans rfl; have hcz2 : w1.cell? ⟨B, 2, none⟩ = some (.slice AL l.length cL) := (blk_cell ((hb1.block _ (blk_lt HB.out)).trans HB.out) 2).trans rfl; obtain ⟨ad, hadA, _, hx, hy⟩ := impl_stepIn.two (Kd.C_below HA.out hb1); subst hadA; have HB1 := Lib.hid hb1; clear hb1 hR1 hC1)
     go_quiet ((first | (go_at_call 61; (with_reducible exact impl_stepIn.within_t H1.out w1 _)) | (go_at_call 61; (with_reducible exact impl_stepIn.within_t H3.out w1 _))))
     go_wp2
     obtain ⟨W2, hW2⟩ : ∃ W2, W2 = w1.drewN nq := ⟨_, rfl⟩
     rw [← hW2]
     have hx2 : W2.cell? ad = some (.int .i64 x) := by rw [hW2]; exact hx
     have hy2 : W2.cell? ⟨ad.block, ad.off + 1, none⟩ = some (.int .i64 y) := by rw [hW2]; exact hy
     have hx3 : W2.cell? ad1 = some (.int .i64 x') := by rw [hW2]; exact hx1
     have hy3 : W2.cell? ⟨ad1.block, ad1.off + 1, none⟩ = some (.int .i64 y') := by rw [hW2]; exact hy1
     have hz0 : W2.cell? ⟨B, 0, none⟩ = some (.int .i64 a0_0) := by rw [hW2]; exact hcz0
     have hz1 : W2.cell? ⟨B, 1, none⟩ = some (.int .i64 a0_1) := by rw [hW2]; exact hcz1
     have hz2 : W2.cell? ⟨B, 2, none⟩ = some (.slice AL l.length cL) := by rw [hW2]; exact hcz2
     have HB2 := Lib.hid (show Below w.heap.size w W2 by rw [hW2]; exact pw_below_drewN HB1.out nq)
     clear hW2 hx hy hx1 hy1 hcz0 hcz1 hcz2
     go_still_tail 23, (by kernel_rfl)
     change wpList _ _ _ _ _ W2.drew
     go_wp2_with (go_at_call 54; refine (impl_isClosed.calls k a0_0 a0_1 AL cL l (x) (y') (x == x') _ _ (Kd.C_below HL.out (below_drew HB2.out)) hcL H.out).mono ?_; rintro e w4 ⟨rfl, hb4⟩)
     all_goals (go_wp2; go_ret; exact ⟨rfl, below_then (below_drew HB2.out) HB2.out.size hb4⟩)
    ·rw [show mn y y' = y by unfold mn; split <;> omega] at ht
     have H := Lib.hid ht
     clear ht
     go_enter Try.func74, Try.ntmps74
     go_wp2_with (go_at_call 72; refine HMV.out.mono ?_; rintro e w1 ⟨v1, rfl, hR1, hb1⟩; obtain ⟨A1, c1, rfl, hl1, hC1⟩ := Kd.R_reads hR1; obtain ⟨ad1, rfl, _, hx1, hy1⟩ := impl_stepIn.two hC1; have hcz0 : w1.cell? ⟨B, 0, none⟩ = some (.int .i64 a0_0) := (blk_cell ((hb1.block _ (blk_lt HB.out)).trans HB.out) 0).trans rfl; have hcz1 : w1.cell? ⟨B, 1, none⟩ = some (.int .i64 a0_1) := (blk_cell ((hb1.block _ (blk_lt HB.out)).trans HB.out) 1).trans rfl; have hcz2 : w1.cell? ⟨B, 2, none⟩ = some (.slice AL l.length cL) := (blk_cell ((hb1.block _ (blk_lt HB.out)).trans HB.out) 2).trans rfl; obtain ⟨ad, hadA, _, hx, hy⟩ := impl_stepIn.two (Kd.C_below HA.out hb1); subst hadA; have HB1 := Lib.hid hb1; clear hb1 hR1 hC1)
     go_quiet ((first | (go_at_call 61; (with_reducible exact impl_stepIn.within_t H1.out w1 _)) | (go_at_call 61; (with_reducible exact impl_stepIn.within_t H3.out w1 _))))
     go_wp2
     obtain ⟨W2, hW2⟩ : ∃ W2, W2 = w1.drewN nq := ⟨_, rfl⟩
     rw [← hW2]
     have hx2 : W2.cell? ad = some (.int .i64 x) := by rw [hW2]; exact hx
     have hy2 : W2.cell? ⟨ad.block, ad.off + 1, none⟩ = some (.int .i64 y) := by rw [hW2]; exact hy
     have hx3 : W2.cell? ad1 = some (.int .i64 x') := by rw [hW2]; exact hx1
     have hy3 : W2.cell? ⟨ad1.block, ad1.off + 1, none⟩ = some (.int .i64 y') := by rw [hW2]; exact hy1
     have hz0 : W2.cell? ⟨B, 0, none⟩ = some (.int .i64 a0_0) := by rw [hW2]; exact hcz0
     have hz1 : W2.cell? ⟨B, 1, none⟩ = some (.int .i64 a0_1) := by rw [hW2]; exact hcz1
     have hz2 : W2.cell? ⟨B, 2, none⟩ = some (.slice AL l.length cL) := by rw [hW2]; exact hcz2
     have HB2 := Lib.hid (show Below w.heap.size w W2 by rw [hW2]; exact pw_below_drewN HB1.out nq)
     clear hW2 hx hy hx1 hy1 hcz0 hcz1 hcz2
     go_still_tail 23, (by kernel_rfl)
     change wpList _ _ _ _ _ W2.drew
     go_wp2_with (go_at_call 54; refine (impl_isClosed.calls k a0_0 a0_1 AL cL l (x) (y) (x == x') _ _ (Kd.C_below HL.out (below_drew HB2.out)) hcL H.out).mono ?_; rintro e w4 ⟨rfl, hb4⟩)
     all_goals (go_wp2; go_ret; exact ⟨rfl, below_then (below_drew HB2.out) HB2.out.size hb4⟩)
  ·rw [decide_eq_true h1, decide_eq_false h3] at h
   obtain rfl := Option.some.inj h
   have H1 := Lib.hid h1
   have H3 := Lib.hid h3
   clear h1 h3 h
   go_enter Try.func74, Try.ntmps74
   go_wp2_with (go_at_call 72; refine HMV.out.mono ?_; rintro e w1 ⟨v1, rfl, hR1, hb1⟩; obtain ⟨A1, c1, rfl, hl1, hC1⟩ := Kd.R_reads hR1; obtain ⟨ad1, rfl, _, hx1, hy1⟩ := impl_stepIn.two hC1; have hcz0 : w1.cell? ⟨B, 0, none⟩ = some (.int .i64 a0_0) := (blk_cell ((hb1.block _ (blk_lt HB.out)).trans HB.out) 0).trans rfl; have hcz1 : w1.cell? ⟨B, 1, none⟩ = some (.int .i64 a0_1) := (blk_cell ((hb1.block _ (blk_lt HB.out)).trans HB.out) 1).trans rfl; have hcz2 : w1.cell? ⟨B, 2, none⟩ = some (.slice AL l.length cL) := (blk_cell ((hb1.block _ (blk_lt HB.out)).trans HB.out) 2).trans rfl; obtain ⟨ad, hadA, _, hx, hy⟩ := impl_stepIn.two (Kd.C_below HA.out hb1); subst hadA; have HB1 := Lib.hid hb1; clear hb1 hR1 hC1)
   go_quiet ((first | (go_at_call 61; (with_reducible exact impl_stepIn.within_t H1.out w1 _)) | (go_at_call 61; (with_reducible exact impl_stepIn.within_n H3.out w1 _))))
   go_wp2
   go_ret
   exact ⟨rfl, pw_below_drewN HB1.out _⟩
 ·rw [decide_eq_false h1] at h
  obtain rfl := Option.some.inj h
  have H1 := Lib.hid h1
  clear h1 h
  go_enter Try.func74, Try.ntmps74
  go_wp2_with (go_at_call 72; refine HMV.out.mono ?_; rintro e w1 ⟨v1, rfl, hR1, hb1⟩; obtain ⟨A1, c1, rfl, hl1, hC1⟩ := Kd.R_reads hR1; obtain ⟨ad1, rfl, _, hx1, hy1⟩ := impl_stepIn.two hC1; have hcz0 : w1.cell? ⟨B, 0, none⟩ = some (.int .i64 a0_0) := (blk_cell ((hb1.block _ (blk_lt HB.out)).trans HB.out) 0).trans rfl; have hcz1 : w1.cell? ⟨B, 1, none⟩ = some (.int .i64 a0_1) := (blk_cell ((hb1.block _ (blk_lt HB.out)).trans HB.out) 1).trans rfl; have hcz2 : w1.cell? ⟨B, 2, none⟩ = some (.slice AL l.length cL) := (blk_cell ((hb1.block _ (blk_lt HB.out)).trans HB.out) 2).trans rfl; obtain ⟨ad, hadA, _, hx, hy⟩ := impl_stepIn.two (Kd.C_below HA.out hb1); subst hadA; have HB1 := Lib.hid hb1; clear hb1 hR1 hC1)
  go_quiet ((go_at_call 61; (with_reducible exact impl_stepIn.within_n H1.out w1 _)))
  go_wp2
  go_ret
  exact ⟨rfl, pw_below_drewN HB1.out _⟩
def bits_Mul32.f (a0 : Int) (a1 : Int) : Option (Int × Int) := some (((IntKind.u64.wrap ((IntKind.u64.wrap (a0)) * (IntKind.u64.wrap (a1)))) / 4294967296) % 4294967296, (IntKind.u64.wrap ((IntKind.u64.wrap (a0)) * (IntKind.u64.wrap (a1)))) % 4294967296)
set_option maxHeartbeats 8000000 in
set_option maxRecDepth 100000 in
theorem bits_Mul32.calls (a0 : Int) (a1 : Int) (r1 : Int) (r2 : Int) (w : World) (h : bits_Mul32.f a0 a1 = some (r1, r2)) :
  Calls Try.prog 96 #[.int .u32 a0, .int .u32 a1] w fun e w' => e = .returned (.tuple #[.int .u32 r1, .int .u32 r2]) ∧ Drawn0 w w' := by
 have H : (some (((IntKind.u64.wrap ((IntKind.u64.wrap (a0)) * (IntKind.u64.wrap (a1)))) / 4294967296) % 4294967296, (IntKind.u64.wrap ((IntKind.u64.wrap (a0)) * (IntKind.u64.wrap (a1)))) % 4294967296)) = some (r1, r2) := h
 clear h
 simp only [Option.some.injEq, Prod.mk.injEq] at H
 obtain ⟨rfl, rfl⟩ := H
 go_enter Try.func96, Try.ntmps96
 go_wp2
 go_ret2
 exact ⟨by first | rfl | (simp; done) | (simp [*]; done), by repeat (first | exact Drawn0.refl _ | apply Drawn0.step)⟩
def bits_Mul64.f (a0 : Int) (a1 : Int) : Option (Int × Int) := some (IntKind.u64.wrap ((IntKind.u64.wrap ((IntKind.u64.wrap ((a0 / 4294967296) * (a1 / 4294967296))) + ((IntKind.u64.wrap ((IntKind.u64.wrap ((a0 / 4294967296) * (Go.bits .and .u64 a1 4294967295))) + ((IntKind.u64.wrap ((Go.bits .and .u64 a0 4294967295) * (Go.bits .and .u64 a1 4294967295))) / 4294967296))) / 4294967296))) + ((IntKind.u64.wrap ((Go.bits .and .u64 (IntKind.u64.wrap ((IntKind.u64.wrap ((a0 / 4294967296) * (Go.bits .and .u64 a1 4294967295))) + ((IntKind.u64.wrap ((Go.bits .and .u64 a0 4294967295) * (Go.bits .and .u64 a1 4294967295))) / 4294967296))) 4294967295) + (IntKind.u64.wrap ((Go.bits .and .u64 a0 4294967295) * (a1 / 4294967296))))) / 4294967296)), IntKind.u64.wrap (a0 * a1))
set_option maxHeartbeats 8000000 in
set_option maxRecDepth 100000 in
theorem bits_Mul64.calls (a0 : Int) (a1 : Int) (r1 : Int) (r2 : Int) (w : World) (h : bits_Mul64.f a0 a1 = some (r1, r2)) :
  Calls Try.prog 97 #[.int .u64 a0, .int .u64 a1] w fun e w' => e = .returned (.tuple #[.int .u64 r1, .int .u64 r2]) ∧ Drawn0 w w' := by
 have H : (some (IntKind.u64.wrap ((IntKind.u64.wrap ((IntKind.u64.wrap ((a0 / 4294967296) * (a1 / 4294967296))) + ((IntKind.u64.wrap ((IntKind.u64.wrap ((a0 / 4294967296) * (Go.bits .and .u64 a1 4294967295))) + ((IntKind.u64.wrap ((Go.bits .and .u64 a0 4294967295) * (Go.bits .and .u64 a1 4294967295))) / 4294967296))) / 4294967296))) + ((IntKind.u64.wrap ((Go.bits .and .u64 (IntKind.u64.wrap ((IntKind.u64.wrap ((a0 / 4294967296) * (Go.bits .and .u64 a1 4294967295))) + ((IntKind.u64.wrap ((Go.bits .and .u64 a0 4294967295) * (Go.bits .and .u64 a1 4294967295))) / 4294967296))) 4294967295) + (IntKind.u64.wrap ((Go.bits .and .u64 a0 4294967295) * (a1 / 4294967296))))) / 4294967296)), IntKind.u64.wrap (a0 * a1))) = some (r1, r2) := h
 clear h
 simp only [Option.some.injEq, Prod.mk.injEq] at H
 obtain ⟨rfl, rfl⟩ := H
 go_enter Try.func97, Try.ntmps97
 go_wp2
 go_ret2
 exact ⟨by first | rfl | (simp; done) | (simp [*]; done), by repeat (first | exact Drawn0.refl _ | apply Drawn0.step)⟩
def bits_Mul.f (a0 : Int) (a1 : Int) : Option (Int × Int) := (bits_Mul64.f a0 a1).bind fun bt224 => (some (bt224.1, bt224.2))
set_option maxHeartbeats 8000000 in
set_option maxRecDepth 100000 in
theorem bits_Mul.calls (a0 : Int) (a1 : Int) (r1 : Int) (r2 : Int) (w : World) (h : bits_Mul.f a0 a1 = some (r1, r2)) :
  Calls Try.prog 84 #[.int .u64 a0, .int .u64 a1] w fun e w' => e = .returned (.tuple #[.int .u64 r1, .int .u64 r2]) ∧ Drawn0 w w' := by
 have H : ((bits_Mul64.f a0 a1).bind fun bt224 => (some (bt224.1, bt224.2))) = some (r1, r2) := h
 clear h
 replace H := Option.bind_eq_some_iff.mp H
 obtain ⟨⟨t224, t225⟩, A30, H⟩ := H
 replace H : (some (t224, t225)) = some (r1, r2) := H
 have A3 := Aside0.mk A30
 clear A30
 simp only [Option.some.injEq, Prod.mk.injEq] at H
 obtain ⟨rfl, rfl⟩ := H
 go_enter Try.func84, Try.ntmps84
 go_wp2_with (first | ((with_reducible refine gate_callee (f := 97) rfl ?_); refine goesL_ (some 25) rfl rfl Try.func97 (by kernel_rfl) rfl #[.int .u64 a0, .int .u64 a1] rfl (by (try simp only [List.map_toArray, List.map_cons, List.map_nil]); first | done | rfl | (simp only [List.length_drop, List.length_take]; rfl)) ?_; (with_reducible refine (bits_Mul64.calls a0 a1 t224 t225 _ A3.out).mono ?_); rintro e w' ⟨rfl, ⟨nd, rfl⟩⟩; refine ⟨_, rfl, ?_⟩))
 go_ret2
 exact ⟨by first | rfl | (simp; done) | (simp [*]; done), by repeat (first | exact Drawn0.refl _ | apply Drawn0.step)⟩
end Go.Proofs.Ytpedofomfhmnfaa.PFnExactCountShortestWays
