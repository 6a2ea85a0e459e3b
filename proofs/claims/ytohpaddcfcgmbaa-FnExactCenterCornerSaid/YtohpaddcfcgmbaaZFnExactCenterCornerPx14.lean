/- Cut by wip/cut.py out of the texts of this claim (printed by the kit's printer, or this session's own): what the row's theorem does not reach is struck. Not trusted: Lean checks it. -/
import Derived.Test.YtohpaddcfcgmbaaZFnExactCenterCornerPx0
import Derived.Test.YtohpaddcfcgmbaaZFnExactCenterCornerPx11
import Derived.Test.YtohpaddcfcgmbaaZFnExactCenterCornerPx13
namespace Go.Proofs.Ytohpaddcfcgmbaa.PFnExactCenterCorner
open Go.RowKit Go.Proofs.YtohpaddcfcgmbaaW.PrintWords Go.Proofs.YtohpaddcfcgmbaaW.PrintLast Go.Proofs.YtohpaddcfcgmbaaW.PrintMore
attribute [local go_sem] max2_int min2_int max_two min_two max_three min_three max_four min_four
set_option linter.unusedVariables false
set_option linter.unusedSimpArgs false
def impl_isWholeCity.f (k : Nat) (a0_0 : Int) (a0_1 : Int) (l0_2 : List (S38)) : Option (Bool) := (impl_distancesTo.f k a0_0 a0_1 l0_2 (([0, 0] : List Int))).bind fun t266 => ((impl_reachedIn.f k t266).bind fun t269 => (some (t269 == (wrap64 (a0_0 * a0_1)))))
theorem impl_isWholeCity.mono : ∀ a0 a1 a2 k, LeO (impl_isWholeCity.f k a0 a1 a2) (impl_isWholeCity.f (k + 1) a0 a1 a2) := by
 intro a0 a1 a2 k
 unfold impl_isWholeCity.f
 repeat' first
   | (with_reducible exact impl_distancesTo.mono _ _ _ _ _)
   | (with_reducible exact impl_reachedIn.mono _ _)
   | (with_reducible exact LeO.refl _)
   | (with_reducible exact LeO.none _)
   | (with_reducible refine LeO.ite ?_ ?_)
   | (with_reducible refine LeO.bind ?_ (fun _ => ?_))
   | exact impl_distancesTo.mono _ _ _ _ _
   | exact impl_reachedIn.mono _ _
   | exact LeO.none _
   | refine LeO.ite ?_ ?_
   | refine LeO.bind ?_ (fun _ => ?_)
def impl_isWholeCity.T1 : Bool × List (List Nat × List Nat) := (true, [([], []), ([], []), ([0, 1], [0, 1]), ([2, 2], [2]), ([], []), ([4], [4]), ([], []), ([6], [6]), ([5, 7], [5, 7]), ([3, 8], [3, 8]), ([9, 3, 0, 1, 2, 3, 4, 5, 6, 7, 8, 9], [9])])
def impl_isWholeCity.B1 : List Nat := [0, 0, 3, 7, 0, 16, 0, 64, 240, 511, 1023]
theorem impl_isWholeCity.tab1 : rtab .any (opsOf Try.f71 1) = impl_isWholeCity.T1 := by kernel_rfl
theorem impl_isWholeCity.bits1 : waitsOk impl_isWholeCity.T1.2 impl_isWholeCity.B1 = true := by kernel_rfl
set_option maxHeartbeats 8000000 in
set_option maxRecDepth 100000 in
theorem impl_isWholeCity.calls (k : Nat) (a0_0 : Int) (a0_1 : Int) (A0_2 : Option Addr) (c0_2 : Nat) (l0_2 : List (S38)) (r : Bool) (w : World) (hr0_2 : Kd.C k38 w A0_2 l0_2.length l0_2) (hc0_2 : l0_2.length ≤ c0_2) (h : impl_isWholeCity.f k a0_0 a0_1 l0_2 = some r) :
  Calls Try.prog 71 #[.agg #[.int .i64 a0_0, .int .i64 a0_1, .slice A0_2 l0_2.length c0_2]] w fun e w' => e = .returned (.bool r) ∧ Below w.heap.size w w' := by
 have hu30 := Try.underlying30
 have HR0_2 := Aside0.mk hr0_2
 have HC0_2 := Aside0.mk hc0_2
 clear hr0_2 hc0_2
 have HB := Aside0.mk (Below.refl w.heap.size w)
 have H : ((impl_distancesTo.f k a0_0 a0_1 l0_2 (([0, 0] : List Int))).bind fun t266 => ((impl_reachedIn.f k t266).bind fun t269 => (some (t269 == (wrap64 (a0_0 * a0_1)))))) = some r := h
 clear h
 obtain ⟨y263, hy263⟩ : ∃ y_ : List Int, y_ = (([0, 0] : List Int)) := ⟨_, rfl⟩
 replace H : ((impl_distancesTo.f k a0_0 a0_1 l0_2 y263).bind fun t266 => ((impl_reachedIn.f k t266).bind fun t269 => (some (t269 == (wrap64 (a0_0 * a0_1)))))) = some r := by first | (rw [hy263]; with_reducible exact H) | (have H2_ := (Option.bind_some _ _).symm.trans H; rw [hy263]; with_reducible exact H2_) | (have H2_ := (Option.bind_some _ _).symm.trans H; with_reducible exact H2_) | with_reducible exact H | (rw [hy263]; exact H) | exact H
 have Ny263 := Aside0.mk hy263
 clear hy263
 replace H := Option.bind_eq_some_iff.mp H
 obtain ⟨t266, A20, H⟩ := H
 replace H : ((impl_reachedIn.f k t266).bind fun t269 => (some (t269 == (wrap64 (a0_0 * a0_1))))) = some r := H
 have A2 := Aside0.mk A20
 clear A20
 replace H := Option.bind_eq_some_iff.mp H
 obtain ⟨t269, A30, H⟩ := H
 replace H : (some (t269 == (wrap64 (a0_0 * a0_1)))) = some r := H
 have A3 := Aside0.mk A30
 clear A30
 obtain rfl := Option.some.inj H
 go_enter Try.func71, Try.ntmps71
 try go_wp2_with (first | ((with_reducible refine gate_dst (N := 1) rfl ?_); refine box_event ?hg (N := 1) ?hd (cs := #[.int .i64 a0_0, .int .i64 a0_1, .slice A0_2 l0_2.length c0_2]) (t := 30) ?hr ?_; (case hd => rfl); (case hg => rfl); (case hr => first | (go_simp; done) | (go_simp; rfl)); intro gb262 hg w4 hbox hb; have n0_ := Aside0.mk (below_step (by repeat (first | (with_reducible first | exact HB.out | apply below_alloc | apply pw_below_drewN | apply below_drew1) | exact HB.out)) hb); have n1_ := Aside0.mk (hbox); have n2_ := Aside0.mk ((by rw [hg]; exact (below_size (by repeat (first | (with_reducible first | exact HB.out | apply below_alloc | apply pw_below_drewN | apply below_drew1) | exact HB.out))) : w.heap.size ≤ gb262)); have n3_ := Aside0.mk ((by rw [hg]; exact (below_size (by repeat (first | (with_reducible first | exact HB.out | apply below_alloc | apply pw_below_drewN | apply below_drew1) | exact HB.out))) : w.heap.size ≤ gb262)); clear HB; have HB := n0_; have BK262 := n1_; have GW262 := n2_; have GE262 := n3_; clear n0_ n1_ n2_ n3_; clear hb hbox hg))
 have n0_ := Aside0.mk (blk_drew BK262.out)
 have n1_ := Aside0.mk (below_drew1 HB.out)
 clear BK262
 clear HB
 have BK262 := n0_
 have HB := n1_
 clear n0_ n1_
 refine start_ (n := 11) (S := fun w' => w'.cell? ⟨gb262, 0, none⟩ = some (.int .i64 a0_0) ∧ w'.cell? ⟨gb262, 1, none⟩ = some (.int .i64 a0_1) ∧ w'.cell? ⟨gb262, 2, none⟩ = some (.slice A0_2 l0_2.length c0_2)) (ds := []) #[false, false, false, false, false, false, false, false, false, false, false] (by kernel_rfl) rfl rfl ⟨(blk_cell BK262.out 0).trans rfl, (blk_cell BK262.out 1).trans rfl, (blk_cell BK262.out 2).trans rfl⟩ (fun hHeld => ?_); refine with_tabW impl_isWholeCity.tab1 impl_isWholeCity.bits1 (fun HT_ HW_ => ?_)
 generalize w4.drew = w5 at BK262 HB hHeld ⊢
 refine pure_ (i := 4) (N := some 7) (v := ?_) (a' := ?_) #[false, false, false, false, true, false, false, false, false, false, false] rfl rfl (any_of HT_.out (by kernel_rfl)) (fun _ _ _ h => h) (Or.inl ⟨by rfl, ?_⟩) ?_ ?_
 rotate_left
 ·intro w'
  go_simp
  with_reducible rfl
 rotate_left
 ·simp only [Act.put, List.setIfInBounds_toArray, List.set_cons_zero, List.set_cons_succ, i64_w, i32_w]
  rfl
 refine pure_ (i := 6) (N := some 9) (v := ?_) (a' := ?_) #[false, false, false, false, true, false, true, false, false, false, false] rfl rfl (any_of HT_.out (by kernel_rfl)) (fun _ _ _ h => h) (Or.inl ⟨by rfl, ?_⟩) ?_ ?_
 rotate_left
 ·intro w'
  go_simp
  with_reducible rfl
 rotate_left
 ·simp only [Act.put, List.setIfInBounds_toArray, List.set_cons_zero, List.set_cons_succ, i64_w, i32_w]
  rfl
 refine take_ (i := 0) (N := some 3) (v := ?_) (a' := ?_) #[true, false, false, false, true, false, true, false, false, false, false] rfl rfl (take_ofW HT_.out HW_.out (by kernel_rfl)) (fun _ _ _ h => h) (Or.inl ⟨by rfl, ?_⟩) hHeld ?_ ?_
 rotate_left
 ·rintro w' ⟨s0, s1, s2⟩
  go_simp
  with_reducible rfl
 rotate_left
 ·simp only [Act.put, List.setIfInBounds_toArray, List.set_cons_zero, List.set_cons_succ, i64_w, i32_w]
  rfl
 refine take_ (i := 5) (N := some 8) (v := ?_) (a' := ?_) #[true, false, false, false, true, true, true, false, false, false, false] rfl rfl (take_ofW HT_.out HW_.out (by kernel_rfl)) (fun _ _ _ h => h) (Or.inl ⟨by rfl, ?_⟩) hHeld ?_ ?_
 rotate_left
 ·rintro w' ⟨s0, s1, s2⟩
  go_simp
  with_reducible rfl
 rotate_left
 ·simp only [Act.put, List.setIfInBounds_toArray, List.set_cons_zero, List.set_cons_succ, i64_w, i32_w]
  rfl
 refine take_ (i := 7) (N := some 10) (v := ?_) (a' := ?_) #[true, false, false, false, true, true, true, true, false, false, false] rfl rfl (take_ofW HT_.out HW_.out (by kernel_rfl)) (fun _ _ _ h => h) (Or.inl ⟨by rfl, ?_⟩) hHeld ?_ ?_
 rotate_left
 ·rintro w' ⟨s0, s1, s2⟩
  go_simp
  with_reducible rfl
 rotate_left
 ·simp only [Act.put, List.setIfInBounds_toArray, List.set_cons_zero, List.set_cons_succ, i64_w, i32_w]
  rfl
 refine pure_ (i := 8) (N := some 11) (v := ?_) (a' := ?_) #[true, false, false, false, true, true, true, true, true, false, false] rfl rfl (any_of HT_.out (by kernel_rfl)) (fun _ _ _ h => h) (Or.inl ⟨by rfl, ?_⟩) ?_ ?_
 rotate_left
 ·intro w'
  go_simp
  with_reducible rfl
 rotate_left
 ·simp only [Act.put, List.setIfInBounds_toArray, List.set_cons_zero, List.set_cons_succ, i64_w, i32_w]
  rfl
 refine one_ (i := 1) (N := some 4) #[true, true, false, false, true, true, true, true, true, false, false] rfl rfl (one_of HT_.out (by kernel_rfl)) (by decide) (fun K hK => ?_)
 refine Kd.R_lit_step (Kd.int .i64) _ 3 ?hg (N := 4) ?hd (xs := ([0, 0] : List Int)) (inner := [.int .i64 0, .int .i64 0]) (ok := fun _ => True) (okp := fun _ => True) ?hr ?hp (fun _ hk => hk) trivial (Below.refl _ _) (Nat.le_refl _) (by simp) ?_; (case hd => rfl); (case hg => rfl); (case hr => first | (go_simp; done) | (go_simp; rfl)); (case hp => exact (Reps.one (show Kd.M (Kd.int .i64) _ _ _ 0 [.int .i64 0] from rfl) (Reps.one (show Kd.M (Kd.int .i64) _ _ _ 0 [.int .i64 0] from rfl) (Reps.none _ _))))
 intro v264 w6 ho7 hb hg_ hnew_
 clear hg_ hnew_
 (first | rw [← Ny263.out] at ho7 | (simp only [Int.reduceToNat] at ho7; rw [← Ny263.out] at ho7))
 have n0_ := Aside0.mk (Kd.R_lower ho7 (below_size (by repeat (first | (with_reducible first | exact HB.out | apply below_alloc | apply pw_below_drewN | apply below_drew1 | refine below_set ?_ GE262.out) | exact HB.out))))
 have n1_ := Aside0.mk (blk_below (g := gb262) (o := .cells #[.int .i64 a0_0, .int .i64 a0_1, .slice A0_2 l0_2.length c0_2] 30 (0, 0)) (by (with_reducible repeat (first | refine blk_drewN ?_ _ | refine blk_drew ?_ | refine blk_alloc ?_ _)); exact BK262.out) hb)
 have n2_ := Aside0.mk (below_step (by repeat (first | (with_reducible first | exact HB.out | apply below_alloc | apply pw_below_drewN | apply below_drew1 | refine below_set ?_ GE262.out) | exact HB.out)) hb)
 clear BK262
 clear HB
 have HO265 := n0_
 have BK262 := n1_
 have HB := n2_
 clear n0_ n1_ n2_
 clear hb ho7
 obtain ⟨Ao8, co8, eo8⟩ := Kd.R_slice HO265.out
 (first | subst eo8 | (injection eo8 with f1_ f2_ f3_; have f4_ := f1_.symm; have f5_ := f3_.symm; clear f1_ f2_ f3_; subst f4_; subst f5_))
 refine hK.out _ _ ⟨(blk_cell BK262.out 0).trans rfl, (blk_cell BK262.out 1).trans rfl, (blk_cell BK262.out 2).trans rfl⟩ (fun hHeld => ?_)
 clear hK K
 refine norm_ (a' := ?_) ?_ ?_
 rotate_left
 ·show Act.put _ (some 4) _ = _
  simp only [Act.put, List.setIfInBounds_toArray, List.set_cons_zero, List.set_cons_succ, i64_w, i32_w]
  rfl
 refine one_ (i := 2) (N := some 5) #[true, true, true, false, true, true, true, true, true, false, false] rfl rfl (one_of HT_.out (by kernel_rfl)) (by decide) (fun K hK => ?_)
 refine goes_ Try.func86 (by kernel_rfl) rfl #[.agg #[.int .i64 a0_0, .int .i64 a0_1, .slice A0_2 l0_2.length c0_2], .slice Ao8 y263.length co8] (by rfl) rfl rfl (by (try simp only [List.map_toArray, List.map_cons, List.map_nil]); first | done | rfl | (simp only [List.length_drop, List.length_take]; rfl)) ?_
 with_reducible refine (impl_distancesTo.calls k a0_0 a0_1 _ _ l0_2 _ _ y263 t266 _ ?side1 ?side2 ?side3 ?side4 A2.out).mono ?_
 (case side1 => repeat (first | exact (Kd.C_below HR0_2.out HB.out) | (with_reducible refine Kd.C_alloc ?_ _) | (with_reducible refine Kd.C_drewN ?_ _) | (with_reducible refine Kd.C_drew ?_)))
 (case side2 => exact HC0_2.out)
 (case side3 => repeat (first | exact (Kd.R_reads' HO265.out).2.2 | (with_reducible refine Kd.C_alloc ?_ _) | (with_reducible refine Kd.C_drewN ?_ _) | (with_reducible refine Kd.C_drew ?_)))
 (case side4 => exact (Kd.R_reads' HO265.out).2.1)
 rintro e w9 ⟨v267, rfl, ho0, hb⟩
 refine ⟨_, rfl, ?_⟩
 have n0_ := Aside0.mk (Kd.R_below (by (with_reducible repeat (first | apply Kd.R_alloc | apply Kd.R_drewN | apply Kd.R_drew)); exact HO265.out) hb)
 have n1_ := Aside0.mk (Kd.S_lower (Kd.S_new' ho0 (Kd.R_lt (by (with_reducible repeat (first | apply Kd.R_alloc | apply Kd.R_drewN | apply Kd.R_drew)); exact HO265.out))) (below_size (by repeat (first | (with_reducible first | exact HB.out | apply below_alloc | apply pw_below_drewN | apply below_drew1 | refine below_set ?_ GE262.out) | exact HB.out))))
 have n2_ := Aside0.mk (blk_below (g := gb262) (o := .cells #[.int .i64 a0_0, .int .i64 a0_1, .slice A0_2 l0_2.length c0_2] 30 (0, 0)) (by (with_reducible repeat (first | refine blk_drewN ?_ _ | refine blk_drew ?_ | refine blk_alloc ?_ _)); exact BK262.out) hb)
 have n3_ := Aside0.mk (below_step (by repeat (first | (with_reducible first | exact HB.out | apply below_alloc | apply pw_below_drewN | apply below_drew1 | refine below_set ?_ GE262.out) | exact HB.out)) hb)
 clear HO265
 clear BK262
 clear HB
 have HO265 := n0_
 have HO268 := n1_
 have BK262 := n2_
 have HB := n3_
 clear n0_ n1_ n2_ n3_
 (try clear hb)
 (try clear hb2)
 (try clear hk)
 (try clear hi)
 (try clear ho0)
 obtain ⟨Ao10, co10, eo10⟩ := Kd.S_slice HO268.out
 (first | subst eo10 | (injection eo10 with f1_ f2_ f3_; have f4_ := f1_.symm; have f5_ := f3_.symm; clear f1_ f2_ f3_; subst f4_; subst f5_))
 refine hK.out _ _ ⟨(blk_cell BK262.out 0).trans rfl, (blk_cell BK262.out 1).trans rfl, (blk_cell BK262.out 2).trans rfl⟩ (fun hHeld => ?_)
 clear hK K
 refine norm_ (a' := ?_) ?_ ?_
 rotate_left
 ·show Act.put _ (some 5) _ = _
  simp only [Act.put, List.setIfInBounds_toArray, List.set_cons_zero, List.set_cons_succ, i64_w, i32_w]
  rfl
 refine one_ (i := 3) (N := some 6) #[true, true, true, true, true, true, true, true, true, false, false] rfl rfl (one_of HT_.out (by kernel_rfl)) (by decide) (fun K hK => ?_)
 refine goes_ Try.func85 (by kernel_rfl) rfl #[.slice Ao10 t266.length co10] (by rfl) rfl rfl (by (try simp only [List.map_toArray, List.map_cons, List.map_nil]); first | done | rfl | (simp only [List.length_drop, List.length_take]; rfl)) ?_
 with_reducible refine (impl_reachedIn.calls k _ _ t266 t269 _ ?side1 ?side2 A3.out).mono ?_
 (case side1 => repeat (first | exact (Kd.S_reads' HO268.out).2.2 | (with_reducible refine Kd.C_alloc ?_ _) | (with_reducible refine Kd.C_drewN ?_ _) | (with_reducible refine Kd.C_drew ?_)))
 (case side2 => exact (Kd.S_reads' HO268.out).2.1)
 rintro e w' ⟨rfl, ⟨nd, rfl⟩⟩
 refine ⟨_, rfl, ?_⟩
 refine hK.out _ _ ⟨(blk_cell BK262.out 0).trans rfl, (blk_cell BK262.out 1).trans rfl, (blk_cell BK262.out 2).trans rfl⟩ (fun hHeld => ?_)
 clear hK K
 refine norm_ (a' := ?_) ?_ ?_
 rotate_left
 ·show Act.put _ (some 6) _ = _
  simp only [Act.put, List.setIfInBounds_toArray, List.set_cons_zero, List.set_cons_succ, i64_w, i32_w]
  rfl
 refine pure_ (i := 9) (N := some 12) (v := ?_) (a' := ?_) #[true, true, true, true, true, true, true, true, true, true, false] rfl rfl (any_of HT_.out (by kernel_rfl)) (fun _ _ _ h => h) (Or.inl ⟨by rfl, ?_⟩) ?_ ?_
 rotate_left
 ·intro w'
  go_simp
  with_reducible rfl
 rotate_left
 ·simp only [Act.put, List.setIfInBounds_toArray, List.set_cons_zero, List.set_cons_succ, i64_w, i32_w]
  rfl
 refine pure_ (i := 10) (N := some 2) (v := ?_) (a' := ?_) #[true, true, true, true, true, true, true, true, true, true, true] rfl rfl (any_of HT_.out (by kernel_rfl)) (fun _ _ _ h => h) (Or.inl ⟨by rfl, ?_⟩) ?_ ?_
 rotate_left
 ·intro w'
  go_simp
  with_reducible rfl
 rotate_left
 ·simp only [Act.put, List.setIfInBounds_toArray, List.set_cons_zero, List.set_cons_succ, i64_w, i32_w]
  rfl
 refine done_ (done_of HT_.out (by kernel_rfl)) ?_
 try go_wp2
 go_ret
 exact ⟨by first | rfl | (simp [errW_none, errW_some] <;> rfl) | (simp [*, errW_none, errW_some] <;> rfl), by repeat (first | (with_reducible first | exact HB.out | apply below_alloc | apply pw_below_drewN | apply below_drew1 | refine below_set ?_ GE262.out) | exact HB.out)⟩
mutual
def impl_farthest.l0 : Nat → List Int → Int → List (List Int) → Int → Int → Option (List Int × Int)
 | 0, _, _, _, _, _ => none
 | k + 1, x4, x5, x10, x11, x12 => if x12 < x11 then (if 0 ≤ x12 then (if x12 < (x10.length : Int) then (impl_farthest.l1 k x4 x5 x12 x10 x11 x12 (rd_L6 x10 x12) ((rd_L6 x10 x12).length : Int) 0) else (none)) else (none)) else (some (x4, x5))
def impl_farthest.l1 : Nat → List Int → Int → Int → List (List Int) → Int → Int → List Int → Int → Int → Option (List Int × Int)
 | 0, _, _, _, _, _, _, _, _, _ => none
 | k + 1, x4, x5, x6, x10, x11, x12, x17, x18, x19 => if x19 < x18 then (if 0 ≤ x19 then (if x19 < (x17.length : Int) then (if (rd x17 x19) > x5 then (impl_farthest.l1 k (([x6, x19] : List Int)) (rd x17 x19) x6 x10 x11 x12 x17 x18 (wrap64 (x19 + 1))) else (impl_farthest.l1 k x4 x5 x6 x10 x11 x12 x17 x18 (wrap64 (x19 + 1)))) else (none)) else (none)) else (impl_farthest.l0 k x4 x5 x10 x11 (wrap64 (x12 + 1)))
end
def impl_farthest.f (k : Nat) (l0 : List (List Int)) : Option (List Int × Int) := impl_farthest.l0 k ([] : List Int) (-1) l0 (l0.length : Int) 0
theorem impl_farthest.mono_l : ∀ k, (∀ y0 y1 y2 y3 y4, LeO (impl_farthest.l0 k y0 y1 y2 y3 y4) (impl_farthest.l0 (k + 1) y0 y1 y2 y3 y4)) ∧ (∀ y0 y1 y2 y3 y4 y5 y6 y7 y8, LeO (impl_farthest.l1 k y0 y1 y2 y3 y4 y5 y6 y7 y8) (impl_farthest.l1 (k + 1) y0 y1 y2 y3 y4 y5 y6 y7 y8))
 | 0 => ⟨fun _ _ _ _ _ r h => by simp [impl_farthest.l0] at h, fun _ _ _ _ _ _ _ _ _ r h => by simp [impl_farthest.l1] at h⟩
 | k + 1 => by
  obtain ⟨ih0, ih1⟩ := impl_farthest.mono_l k
  refine ⟨?_, ?_⟩
  ·intro y0 y1 y2 y3 y4
   unfold impl_farthest.l0
   repeat' first
   | (with_reducible exact ih0 _ _ _ _ _)
   | (with_reducible exact ih1 _ _ _ _ _ _ _ _ _)
   | (with_reducible exact LeO.refl _)
   | (with_reducible exact LeO.none _)
   | (with_reducible refine LeO.ite ?_ ?_)
   | (with_reducible refine LeO.bind ?_ (fun _ => ?_))
   | exact ih0 _ _ _ _ _
   | exact ih1 _ _ _ _ _ _ _ _ _
   | exact LeO.none _
   | refine LeO.ite ?_ ?_
   | refine LeO.bind ?_ (fun _ => ?_)
  ·intro y0 y1 y2 y3 y4 y5 y6 y7 y8
   unfold impl_farthest.l1
   repeat' first
   | (with_reducible exact ih0 _ _ _ _ _)
   | (with_reducible exact ih1 _ _ _ _ _ _ _ _ _)
   | (with_reducible exact LeO.refl _)
   | (with_reducible exact LeO.none _)
   | (with_reducible refine LeO.ite ?_ ?_)
   | (with_reducible refine LeO.bind ?_ (fun _ => ?_))
   | exact ih0 _ _ _ _ _
   | exact ih1 _ _ _ _ _ _ _ _ _
   | exact LeO.none _
   | refine LeO.ite ?_ ?_
   | refine LeO.bind ?_ (fun _ => ?_)
theorem impl_farthest.mono : ∀ a0 k, LeO (impl_farthest.f k a0) (impl_farthest.f (k + 1) a0) := by
 intro a0 k
 obtain ⟨ih0, ih1⟩ := impl_farthest.mono_l k
 unfold impl_farthest.f
 repeat' first
   | (with_reducible exact ih0 _ _ _ _ _)
   | (with_reducible exact ih1 _ _ _ _ _ _ _ _ _)
   | (with_reducible exact LeO.refl _)
   | (with_reducible exact LeO.none _)
   | (with_reducible refine LeO.ite ?_ ?_)
   | (with_reducible refine LeO.bind ?_ (fun _ => ?_))
   | exact ih0 _ _ _ _ _
   | exact ih1 _ _ _ _ _ _ _ _ _
   | exact LeO.none _
   | refine LeO.ite ?_ ?_
   | refine LeO.bind ?_ (fun _ => ?_)
set_option maxHeartbeats 8000000 in
set_option maxRecDepth 100000 in
theorem impl_farthest.calls (k : Nat) (A0 : Option Addr) (c0 : Nat) (l0 : List (List Int)) (r1 : List Int) (r2 : Int) (w : World) (hr0 : Kd.C (Kd.slice 3 (Kd.int .i64)) w A0 l0.length l0) (hc0 : l0.length ≤ c0) (h : impl_farthest.f k l0 = some (r1, r2)) :
  Calls Try.prog 92 #[.slice A0 l0.length c0] w fun e w' => ∃ v0_ : Value, e = .returned (.tuple #[v0_, .int .i64 r2]) ∧ Kd.R (Kd.int .i64) 3 w' w.heap.size (fun _ => True) v0_ r1 ∧ Below w.heap.size w w' := by
 have HR0 := Aside0.mk hr0
 have HC0 := Aside0.mk hc0
 clear hr0 hc0
 have HB := Aside0.mk (Below.refl w.heap.size w)
 have H : (impl_farthest.l0 k ([] : List Int) (-1) l0 (l0.length : Int) 0) = some (r1, r2) := h
 clear h
 have H' := Aside0.mk H
 clear H
 go_enter Try.func92, Try.ntmps92
 go_wp2
 go_loopg [4, 5, 12] k (fun kq v4 v5 v12 w' => ∃ (x4_1 : List Int) (x5_1 : Int) (x12_1 : Int), v5 = .int .i64 x5_1 ∧ v12 = .int .i64 x12_1 ∧ Aside0 (impl_farthest.l0 kq x4_1 x5_1 l0 (l0.length : Int) x12_1 = some (r1, r2)) ∧ Aside0 (kq ≤ k) ∧ Aside0 (Kd.R (Kd.int .i64) 3 w' w.heap.size (fun _ => True) v4 x4_1) ∧ Aside0 (Below w.heap.size w w'))
 case atStart => exact ⟨(([] : List Int)), ((-1)), (0), (by first | rfl | (simp; done) | (simp [*]; done)), (by first | rfl | (simp; done) | (simp [*]; done)), H', ⟨Nat.le_refl _⟩, ⟨by first | exact Kd.R_nil _ _ _ _ _ | exact Kd.N_nil _ _ _ _ _ | exact Kd.V_nil _ _ _ _ _ | exact Kd.Q_nil _ _ _ _ _ | exact Kd.S_nil _ _ _ _ _⟩, ⟨by repeat (first | (with_reducible first | exact HB.out | apply below_alloc | apply pw_below_drewN | apply below_drew1) | exact HB.out)⟩⟩
 case round =>
  clear H'
  obtain ⟨x4_1, x5_1, x12_1, rfl, rfl, HA, HK1, HO_4, HB⟩ := hrel
  cases gk with
  | zero => exact absurd HA.out (by simp [impl_farthest.l0])
  | succ k1 =>
   have H := HA.out
   clear HA
   simp only [impl_farthest.l0] at H
   by_cases c2 : x12_1 < (l0.length : Int)
   ·rw [if_pos c2] at H
    have c2b0 : decide (x12_1 < (l0.length : Int)) = true := decide_eq_true c2
    clear c2
    by_cases c3 : 0 ≤ x12_1
    ·rw [if_pos c3] at H
     have c3b0 : decide (0 ≤ x12_1) = true := decide_eq_true c3
     clear c3
     by_cases c4 : x12_1 < (l0.length : Int)
     ·rw [if_pos c4] at H
      have c4b0 : decide (x12_1 < (l0.length : Int)) = true := decide_eq_true c4
      clear c4
      have H' := Aside0.mk H
      clear H
      have p270 : 0 ≤ (x12_1 : Int) := of_decide_eq_true (by first | (with_reducible assumption) | assumption)
      have q270 : x12_1 < (l0.length : Int) := of_decide_eq_true (by first | (with_reducible assumption) | assumption)
      obtain ⟨ad270, A270_0, c270_0, e270, hx270_0, hl270_0, hi270_0⟩ := at_L6 HR0.out x12_1 p270 q270
      cases e270
      replace hx270_0 := (HB.out.cell (World.block_lt_of_cell? w _ hx270_0)).trans hx270_0
      have HR270_0 := Aside0.mk hi270_0
      have HC270_0 := Aside0.mk hl270_0
      clear hi270_0 hl270_0
      replace p270 := eq_true p270
      replace q270 := eq_true q270
      go_wp2
      go_loopg [4, 5, 19] k1 (fun kq v4 v5 v19 w' => ∃ (x4_2 : List Int) (x5_2 : Int) (x19_2 : Int), v5 = .int .i64 x5_2 ∧ v19 = .int .i64 x19_2 ∧ Aside0 (impl_farthest.l1 kq x4_2 x5_2 x12_1 l0 (l0.length : Int) x12_1 (rd_L6 l0 x12_1) ((rd_L6 l0 x12_1).length : Int) x19_2 = some (r1, r2)) ∧ Aside0 (kq ≤ k1) ∧ Aside0 (Kd.R (Kd.int .i64) 3 w' w.heap.size (fun _ => True) v4 x4_2) ∧ Aside0 (Below w.heap.size w w'))
      case atStart => exact ⟨(x4_1), (x5_1), (0), (by first | rfl | (simp; done) | (simp [*]; done)), (by first | rfl | (simp; done) | (simp [*]; done)), H', ⟨Nat.le_refl _⟩, ⟨by (with_reducible repeat (first | apply Kd.R_alloc | apply Kd.R_drewN | apply Kd.R_drew)); exact HO_4.out⟩, ⟨by repeat (first | (with_reducible first | exact HB.out | apply below_alloc | apply pw_below_drewN | apply below_drew1) | exact HB.out)⟩⟩
      case round =>
       clear H'
       try clear c2
       try clear c2b0
       try clear p2
       try clear q2
       try clear hx2
       try clear c3
       try clear c3b0
       try clear c4
       try clear c4b0
       try clear hx270_0
       try clear p270
       try clear q270
       obtain ⟨x4_2, x5_2, x19_2, rfl, rfl, HA, HK2, HO_4, HB⟩ := hrel
       cases gk with
       | zero => exact absurd HA.out (by simp [impl_farthest.l1])
       | succ k2 =>
        have H := HA.out
        clear HA
        simp only [impl_farthest.l1] at H
        by_cases c5 : x19_2 < ((rd_L6 l0 x12_1).length : Int)
        ·rw [if_pos c5] at H
         have c5b0 : decide (x19_2 < ((rd_L6 l0 x12_1).length : Int)) = true := decide_eq_true c5
         clear c5
         by_cases c6 : 0 ≤ x19_2
         ·rw [if_pos c6] at H
          have c6b0 : decide (0 ≤ x19_2) = true := decide_eq_true c6
          clear c6
          by_cases c7 : x19_2 < ((rd_L6 l0 x12_1).length : Int)
          ·rw [if_pos c7] at H
           have c7b0 : decide (x19_2 < ((rd_L6 l0 x12_1).length : Int)) = true := decide_eq_true c7
           clear c7
           by_cases c8 : (rd (rd_L6 l0 x12_1) x19_2) > x5_2
           ·rw [if_pos c8] at H
            have c8b0 : decide (x5_2 < (rd (rd_L6 l0 x12_1) x19_2)) = true := decide_eq_true c8
            clear c8
            obtain ⟨y272, hy272⟩ : ∃ y_ : List Int, y_ = (([x12_1, x19_2] : List Int)) := ⟨_, rfl⟩
            replace H : (impl_farthest.l1 k2 y272 (rd (rd_L6 l0 x12_1) x19_2) x12_1 l0 (l0.length : Int) x12_1 (rd_L6 l0 x12_1) ((rd_L6 l0 x12_1).length : Int) (wrap64 (x19_2 + 1))) = some (r1, r2) := by first | (rw [hy272]; with_reducible exact H) | (have H2_ := (Option.bind_some _ _).symm.trans H; rw [hy272]; with_reducible exact H2_) | (have H2_ := (Option.bind_some _ _).symm.trans H; with_reducible exact H2_) | with_reducible exact H | (rw [hy272]; exact H) | exact H
            have Ny272 := Aside0.mk hy272
            clear hy272
            have H' := Aside0.mk H
            clear H
            have p271 : 0 ≤ (x19_2 : Int) := of_decide_eq_true (by first | (with_reducible assumption) | assumption)
            have q271 : x19_2 < ((rd_L6 l0 x12_1).length : Int) := of_decide_eq_true (by first | (with_reducible assumption) | assumption)
            obtain ⟨ad271, e271, hx271_0⟩ := Kd.at_int HR270_0.out x19_2 p271 q271
            cases e271
            replace hx271_0 := (HB.out.cell (World.block_lt_of_cell? w _ hx271_0)).trans hx271_0
            replace p271 := eq_true p271
            replace q271 := eq_true q271
            go_wp2_with (first | ((with_reducible refine gate_dst (N := 29) rfl ?_); refine Kd.R_lit (Kd.int .i64) _ 3 ?hg (N := 29) ?hd (xs := ([x12_1, x19_2] : List Int)) (inner := [.int .i64 x12_1, .int .i64 x19_2]) (ok := fun _ => True) (okp := fun _ => True) ?hr ?hp (fun _ hk => hk) trivial (Below.refl _ _) (Nat.le_refl _) (by simp) ?_; (case hd => rfl); (case hg => rfl); (case hr => first | (go_simp; done) | (go_simp; rfl)); (case hp => exact (Reps.one (show Kd.M (Kd.int .i64) _ _ _ x12_1 [.int .i64 x12_1] from rfl) (Reps.one (show Kd.M (Kd.int .i64) _ _ _ x19_2 [.int .i64 x19_2] from rfl) (Reps.none _ _)))); intro v273 w9 ho10 hb hg_ hnew_; clear hg_ hnew_; (first | rw [← Ny272.out] at ho10 | (simp only [Int.reduceToNat] at ho10; rw [← Ny272.out] at ho10)); have n0_ := Aside0.mk (Kd.R_elder' (by (with_reducible repeat (first | apply Kd.R_alloc | apply Kd.R_drewN | apply Kd.R_drew)); exact HO_4.out) (Kd.R_base ho10) hb); have n1_ := Aside0.mk (Kd.R_lower (Kd.R_new' ho10 (Kd.R_lt (by (with_reducible repeat (first | apply Kd.R_alloc | apply Kd.R_drewN | apply Kd.R_drew)); exact HO_4.out))) (below_size (by repeat (first | (with_reducible first | exact HB.out | apply below_alloc | apply pw_below_drewN | apply below_drew1) | exact HB.out)))); have n2_ := Aside0.mk (below_step (by repeat (first | (with_reducible first | exact HB.out | apply below_alloc | apply pw_below_drewN | apply below_drew1) | exact HB.out)) hb); clear HO_4; clear HB; have HO_4 := n0_; have HO274 := n1_; have HB := n2_; clear n0_ n1_ n2_; clear hb ho10))
            go_roundg k2
            case measure => have := HK1.out; have := HK2.out; omega
            case rel => exact ⟨(y272), (rd (rd_L6 l0 x12_1) x19_2), (wrap64 (x19_2 + 1)), (by first | rfl | (simp; done) | (simp [*]; done)), (by first | rfl | (simp; done) | (simp [*]; done)), H', ⟨by have := HK1.out; have := HK2.out; omega⟩, ⟨by (with_reducible repeat (first | apply Kd.R_alloc | apply Kd.R_drewN | apply Kd.R_drew)); exact Kd.R_mono HO274.out (fun _ hk => trivial)⟩, ⟨by repeat (first | (with_reducible first | exact HB.out | apply below_alloc | apply pw_below_drewN | apply below_drew1) | exact HB.out)⟩⟩
           ·rw [if_neg c8] at H
            have c8b0 : decide (x5_2 < (rd (rd_L6 l0 x12_1) x19_2)) = false := decide_eq_false c8
            clear c8
            have H' := Aside0.mk H
            clear H
            have p271 : 0 ≤ (x19_2 : Int) := of_decide_eq_true (by first | (with_reducible assumption) | assumption)
            have q271 : x19_2 < ((rd_L6 l0 x12_1).length : Int) := of_decide_eq_true (by first | (with_reducible assumption) | assumption)
            obtain ⟨ad271, e271, hx271_0⟩ := Kd.at_int HR270_0.out x19_2 p271 q271
            cases e271
            replace hx271_0 := (HB.out.cell (World.block_lt_of_cell? w _ hx271_0)).trans hx271_0
            replace p271 := eq_true p271
            replace q271 := eq_true q271
            go_wp2
            go_roundg k2
            case measure => have := HK1.out; have := HK2.out; omega
            case rel => exact ⟨(x4_2), (x5_2), (wrap64 (x19_2 + 1)), (by first | rfl | (simp; done) | (simp [*]; done)), (by first | rfl | (simp; done) | (simp [*]; done)), H', ⟨by have := HK1.out; have := HK2.out; omega⟩, ⟨by (with_reducible repeat (first | apply Kd.R_alloc | apply Kd.R_drewN | apply Kd.R_drew)); exact HO_4.out⟩, ⟨by repeat (first | (with_reducible first | exact HB.out | apply below_alloc | apply pw_below_drewN | apply below_drew1) | exact HB.out)⟩⟩
          ·rw [if_neg c7] at H
           exact absurd H (by simp)
         ·rw [if_neg c6] at H
          exact absurd H (by simp)
        ·rw [if_neg c5] at H
         have c5b0 : decide (x19_2 < ((rd_L6 l0 x12_1).length : Int)) = false := decide_eq_false c5
         clear c5
         have H' := Aside0.mk H
         clear H
         go_wp2
         go_roundg k2
         case measure => have := HK1.out; have := HK2.out; omega
         case rel => exact ⟨(x4_2), (x5_2), (wrap64 (x12_1 + 1)), (by first | rfl | (simp; done) | (simp [*]; done)), (by first | rfl | (simp; done) | (simp [*]; done)), H', ⟨by have := HK1.out; have := HK2.out; omega⟩, ⟨by (with_reducible repeat (first | apply Kd.R_alloc | apply Kd.R_drewN | apply Kd.R_drew)); exact HO_4.out⟩, ⟨by repeat (first | (with_reducible first | exact HB.out | apply below_alloc | apply pw_below_drewN | apply below_drew1) | exact HB.out)⟩⟩
     ·rw [if_neg c4] at H
      exact absurd H (by simp)
    ·rw [if_neg c3] at H
     exact absurd H (by simp)
   ·rw [if_neg c2] at H
    have c2b0 : decide (x12_1 < (l0.length : Int)) = false := decide_eq_false c2
    clear c2
    simp only [Option.some.injEq, Prod.mk.injEq] at H
    obtain ⟨rfl, rfl⟩ := H
    go_wp2
    go_ret2
    exact ⟨_, by first | rfl | (simp [errW_none, errW_some] <;> rfl) | (simp [*, errW_none, errW_some] <;> rfl), by (with_reducible repeat (first | apply Kd.R_alloc | apply Kd.R_drewN | apply Kd.R_drew)); exact HO_4.out, by repeat (first | (with_reducible first | exact HB.out | apply below_alloc | apply pw_below_drewN | apply below_drew1) | exact HB.out)⟩
mutual
def impl_leastIn.l0 : Nat → List Int → Int → List (List Int) → Int → Option (List Int × Int × Bool)
 | 0, _, _, _, _ => none
 | k + 1, x4, x5, x10, x12 => if x12 < (x10.length : Int) then (if 0 ≤ x12 then impl_leastIn.l1 k x4 x5 x10 x12 (rd_L6 x10 x12) 0 else none) else some (x4, x5, !x4.isEmpty)
def impl_leastIn.l1 : Nat → List Int → Int → List (List Int) → Int → List Int → Int → Option (List Int × Int × Bool)
 | 0, _, _, _, _, _, _ => none
 | k + 1, x4, x5, x10, x12, x17, x19 => if x19 < (x17.length : Int) then (if 0 ≤ x19 then (if 0 ≤ rd x17 x19 ∧ (x4 = [] ∨ rd x17 x19 < x5) then impl_leastIn.l1 k [x12, x19] (rd x17 x19) x10 x12 x17 (wrap64 (x19 + 1)) else impl_leastIn.l1 k x4 x5 x10 x12 x17 (wrap64 (x19 + 1))) else none) else impl_leastIn.l0 k x4 x5 x10 (wrap64 (x12 + 1))
end
def impl_leastIn.f (k : Nat) (l0 : List (List Int)) : Option (List Int × Int × Bool) := impl_leastIn.l0 k [] 0 l0 0
theorem impl_leastIn.mono_l : ∀ k, (∀ y0 y1 y2 y3, LeO (impl_leastIn.l0 k y0 y1 y2 y3) (impl_leastIn.l0 (k + 1) y0 y1 y2 y3)) ∧ (∀ y0 y1 y2 y3 y4 y5, LeO (impl_leastIn.l1 k y0 y1 y2 y3 y4 y5) (impl_leastIn.l1 (k + 1) y0 y1 y2 y3 y4 y5))
 | 0 => ⟨fun _ _ _ _ r h => by simp [impl_leastIn.l0] at h, fun _ _ _ _ _ _ r h => by simp [impl_leastIn.l1] at h⟩
 | k + 1 => by
  obtain ⟨ih0, ih1⟩ := impl_leastIn.mono_l k
  refine ⟨fun y0 y1 y2 y3 => ?_, fun y0 y1 y2 y3 y4 y5 => ?_⟩
  ·unfold impl_leastIn.l0
   exact LeO.ite (LeO.ite (ih1 _ _ _ _ _ _) (LeO.refl _)) (LeO.refl _)
  ·unfold impl_leastIn.l1
   exact LeO.ite (LeO.ite (LeO.ite (ih1 _ _ _ _ _ _) (ih1 _ _ _ _ _ _)) (LeO.refl _)) (ih0 _ _ _ _)
theorem impl_leastIn.mono : ∀ a0 k, LeO (impl_leastIn.f k a0) (impl_leastIn.f (k + 1) a0) := fun a0 k => (impl_leastIn.mono_l k).1 _ _ _ _
set_option maxHeartbeats 8000000 in
set_option maxRecDepth 100000 in
theorem impl_leastIn.calls (k : Nat) (A0 : Option Addr) (c0 : Nat) (l0 : List (List Int)) (r1 : List Int) (r2 : Int) (r3 : Bool) (w : World) (hr0 : Kd.C (Kd.slice 3 (Kd.int .i64)) w A0 l0.length l0) (hc0 : l0.length ≤ c0) (h : impl_leastIn.f k l0 = some (r1, r2, r3)) :
  Calls Try.prog 94 #[.slice A0 l0.length c0] w fun e w' => ∃ v0_ : Value, e = .returned (.tuple #[v0_, .int .i64 r2, .bool r3]) ∧ Kd.R (Kd.int .i64) 3 w' w.heap.size (fun _ => True) v0_ r1 ∧ Below w.heap.size w w' := by
 have q1 : ∀ (w : World) (a : Option Addr) (n c n' c' : Nat), (binOp .eql 42 (.slice a n c) (.slice none n' c')).run Try.prog w = .ok (.bool a.isNone) w := fun w a n c n' c' => Lib.run_eql_slice_nil w _ _ a n c n' c' Try.underlying42
 have q2 : ∀ (w : World) (a : Option Addr) (n c n' c' : Nat), (binOp .neq 42 (.slice a n c) (.slice none n' c')).run Try.prog w = .ok (.bool (!a.isNone)) w := fun w a n c n' c' => by
  have h0 := Lib.run_eql_slice_nil w _ _ a n c n' c' Try.underlying42
  revert h0
  cases a <;> simp [binOp, Try.underlying42] <;> (generalize Sem.run _ (Op.equal _ _ _) _ = X; cases X <;> simp [Result.andThen]; try (rintro rfl rfl; simp))
 have HR0 := Lib.hid hr0
 have HH := Lib.hid h
 clear hr0 h
 go_enter Try.func94, Try.ntmps94
 go_wp2
 go_loopg [5, 6, 13] k (fun kq v5 v6 v13 wr => ∃ (x4 : List Int) (x5 x12 : Int), v6 = .int .i64 x5 ∧ v13 = .int .i64 x12 ∧ Hid (impl_leastIn.l0 kq x4 x5 l0 x12 = some (r1, r2, r3)) ∧ Hid (kq ≤ k) ∧ Hid (x4 = [] → v5 = .slice none 0 0) ∧ Hid (Kd.R (Kd.int .i64) 3 wr w.heap.size (fun _ => True) v5 x4) ∧ Hid (Below w.heap.size w wr))
 case atStart => exact ⟨[], 0, 0, rfl, rfl, HH, Lib.hid (Nat.le_refl _), Lib.hid (fun _ => rfl), Lib.hid (Kd.R_nil _ _ _ _ _), Lib.hid (Below.refl _ _)⟩
 case round =>
  clear HH
  obtain ⟨x4, x5, x12, rfl, rfl, HA, HK1, HN, HO, HB⟩ := hrel
  cases gk with
  | zero => exact absurd HA.out (by simp [impl_leastIn.l0])
  | succ k1 =>
   have h := HA.out
   clear HA
   simp only [impl_leastIn.l0] at h
   by_cases c2 : x12 < (l0.length : Int)
   ·rw [if_pos c2] at h
    have c2b : decide (x12 < (l0.length : Int)) = true := decide_eq_true c2
    by_cases c3 : 0 ≤ x12
    ·rw [if_pos c3] at h
     have H' := Lib.hid h
     clear h
     obtain ⟨ad253, A1, cc1, e253, hx253, hl253, hi253⟩ := at_L6 HR0.out x12 c3 c2
     cases e253
     replace hx253 := (HB.out.cell (World.block_lt_of_cell? w _ hx253)).trans hx253
     have HRW := Lib.hid hi253
     clear hi253 hl253
     have p253 := eq_true c3
     have q253 := eq_true c2
     clear c2 c3
     go_wp2
     go_loopg [5, 6, 20] k1 (fun kq v5 v6 v20 wr => ∃ (x4 : List Int) (x5 x19 : Int), v6 = .int .i64 x5 ∧ v20 = .int .i64 x19 ∧ Hid (impl_leastIn.l1 kq x4 x5 l0 x12 (rd_L6 l0 x12) x19 = some (r1, r2, r3)) ∧ Hid (kq ≤ k1) ∧ Hid (x4 = [] → v5 = .slice none 0 0) ∧ Hid (Kd.R (Kd.int .i64) 3 wr w.heap.size (fun _ => True) v5 x4) ∧ Hid (Below w.heap.size w wr))
     case atStart => exact ⟨x4, x5, 0, rfl, rfl, H', Lib.hid (Nat.le_refl _), HN, HO, HB⟩
     case round =>
      clear H' HN HO HB hx253 p253 q253 c2b
      obtain ⟨x4, x5, x19, rfl, rfl, HA, HK2, HN, HO, HB⟩ := hrel
      cases gk with
      | zero => exact absurd HA.out (by simp [impl_leastIn.l1])
      | succ k2 =>
       have h := HA.out
       clear HA
       simp only [impl_leastIn.l1] at h
       by_cases d1 : x19 < ((rd_L6 l0 x12).length : Int)
       ·rw [if_pos d1] at h
        have d1b : decide (x19 < ((rd_L6 l0 x12).length : Int)) = true := decide_eq_true d1
        by_cases d0 : 0 ≤ x19
        ·rw [if_pos d0] at h
         obtain ⟨ad254, e254, hx254⟩ := Kd.at_int HRW.out x19 d0 d1
         cases e254
         replace hx254 := (HB.out.cell (World.block_lt_of_cell? w _ hx254)).trans hx254
         have p254 := eq_true d0
         have q254 := eq_true d1
         clear d0 d1
         obtain ⟨D, hD⟩ : ∃ D, rd (rd_L6 l0 x12) x19 = D := ⟨_, rfl⟩
         rw [hD] at h hx254
         clear hD
         by_cases e0 : 0 ≤ D
         ·have e0b : decide (0 ≤ D) = true := decide_eq_true e0
          by_cases e1 : x4 = []
          ·rw [if_pos ⟨e0, Or.inl e1⟩] at h
           have HE := HN.out e1
           subst HE
           have H' := Lib.hid h
           clear h e0 e1
           (go_wp2_with ((with_reducible refine gate_dst (N := 38) rfl ?_); refine Kd.R_lit (Kd.int .i64) _ 3 ?hg (N := 38) ?hd (xs := ([x12, x19] : List Int)) (inner := [.int .i64 x12, .int .i64 x19]) (ok := fun _ => True) (okp := fun _ => True) ?hr ?hp (fun _ hk => hk) trivial (Below.refl _ _) (Nat.le_refl _) (by simp) ?_; (case hd => rfl); (case hg => rfl); (case hr => first | (go_simp; done) | (go_simp; rfl)); (case hp => exact (Reps.one (show Kd.M (Kd.int .i64) _ _ _ x12 [.int .i64 x12] from rfl) (Reps.one (show Kd.M (Kd.int .i64) _ _ _ x19 [.int .i64 x19] from rfl) (Reps.none _ _)))); intro v256 w9 ho10 hb hg_ hnew_; clear hg_ hnew_; have HO9 := Lib.hid (Kd.R_lower ho10 (below_size HB.out)); have HB9 := Lib.hid (below_step HB.out hb); clear hb ho10))
           go_roundg k2
           case measure => have := HK1.out; have := HK2.out; omega
           case rel => exact ⟨_, D, wrap64 (x19 + 1), rfl, (by first | rfl | (simp; done)), H', Lib.hid (by have := HK2.out; omega), Lib.hid (fun e => by cases e), HO9, HB9⟩
          ·obtain ⟨g5, c5, e5, _, _, _⟩ := Kd.R_form HO.out (by cases x4 with | nil => exact absurd rfl e1 | cons a b => simp)
           subst e5
           by_cases e2 : D < x5
           ·have e2b : decide (D < x5) = true := decide_eq_true e2
            rw [if_pos ⟨e0, Or.inr e2⟩] at h
            have H' := Lib.hid h
            clear h e0 e1 e2
            (go_wp2_with ((with_reducible refine gate_dst (N := 38) rfl ?_); refine Kd.R_lit (Kd.int .i64) _ 3 ?hg (N := 38) ?hd (xs := ([x12, x19] : List Int)) (inner := [.int .i64 x12, .int .i64 x19]) (ok := fun _ => True) (okp := fun _ => True) ?hr ?hp (fun _ hk => hk) trivial (Below.refl _ _) (Nat.le_refl _) (by simp) ?_; (case hd => rfl); (case hg => rfl); (case hr => first | (go_simp; done) | (go_simp; rfl)); (case hp => exact (Reps.one (show Kd.M (Kd.int .i64) _ _ _ x12 [.int .i64 x12] from rfl) (Reps.one (show Kd.M (Kd.int .i64) _ _ _ x19 [.int .i64 x19] from rfl) (Reps.none _ _)))); intro v256 w9 ho10 hb hg_ hnew_; clear hg_ hnew_; have HO9 := Lib.hid (Kd.R_lower ho10 (below_size HB.out)); have HB9 := Lib.hid (below_step HB.out hb); clear hb ho10))
            go_roundg k2
            case measure => have := HK1.out; have := HK2.out; omega
            case rel => exact ⟨_, D, wrap64 (x19 + 1), rfl, (by first | rfl | (simp; done)), H', Lib.hid (by have := HK2.out; omega), Lib.hid (fun e => by cases e), HO9, HB9⟩
           ·have e2b : decide (D < x5) = false := decide_eq_false e2
            rw [if_neg (fun hh => hh.2.elim e1 e2)] at h
            have H' := Lib.hid h
            clear h e0 e1 e2
            go_wp2
            go_roundg k2
            case measure => have := HK1.out; have := HK2.out; omega
            case rel => exact ⟨x4, x5, wrap64 (x19 + 1), rfl, (by first | rfl | (simp; done)), H', Lib.hid (by have := HK2.out; omega), HN, HO, HB⟩
         ·have e0b : decide (0 ≤ D) = false := decide_eq_false e0
          rw [if_neg (fun hh => e0 hh.1)] at h
          have H' := Lib.hid h
          clear h e0
          go_wp2
          go_roundg k2
          case measure => have := HK1.out; have := HK2.out; omega
          case rel => exact ⟨x4, x5, wrap64 (x19 + 1), rfl, (by first | rfl | (simp; done)), H', Lib.hid (by have := HK2.out; omega), HN, HO, HB⟩
        ·rw [if_neg d0] at h; cases h
       ·rw [if_neg d1] at h
        have d1b : decide (x19 < ((rd_L6 l0 x12).length : Int)) = false := decide_eq_false d1
        have H' := Lib.hid h
        clear h d1
        go_wp2
        go_roundg k2
        case measure => have := HK1.out; have := HK2.out; omega
        case rel => exact ⟨x4, x5, wrap64 (x12 + 1), rfl, (by first | rfl | (simp; done)), H', Lib.hid (by have := HK1.out; have := HK2.out; omega), HN, HO, HB⟩
    ·rw [if_neg c3] at h; cases h
   ·rw [if_neg c2] at h
    have c2b : decide (x12 < (l0.length : Int)) = false := decide_eq_false c2
    simp only [Option.some.injEq, Prod.mk.injEq] at h
    obtain ⟨rfl, rfl, e3⟩ := h
    by_cases e1 : x4 = []
    ·have HE := HN.out e1
     subst HE
     subst e1
     obtain rfl : r3 = false := e3.symm
     clear e3
     go_wp2
     go_ret3
     exact ⟨_, rfl, HO.out, HB.out⟩
    ·obtain ⟨g5, c5, e5, _, _, _⟩ := Kd.R_form HO.out (by cases x4 with | nil => exact absurd rfl e1 | cons a b => simp)
     subst e5
     obtain rfl : r3 = true := by cases x4 with | nil => exact absurd rfl e1 | cons a b => exact e3.symm
     clear e3
     go_wp2
     go_ret3
     exact ⟨_, rfl, HO.out, HB.out⟩
end Go.Proofs.Ytohpaddcfcgmbaa.PFnExactCenterCorner
