/- Cut by wip/cut.py out of the texts of this claim (printed by the kit's printer, or this session's own): what the row's theorem does not reach is struck. Not trusted: Lean checks it. -/
import Derived.Test.YtpedofomfhmnfaaZFnExactCloseBlockPx0
import Derived.Test.YtpedofomfhmnfaaZFnExactCloseBlockPx6
namespace Go.Proofs.Ytpedofomfhmnfaa.PFnExactCloseBlock
open Go.RowKit Go.Proofs.YtpedofomfhmnfaaW.PrintWords Go.Proofs.YtpedofomfhmnfaaW.PrintLast Go.Proofs.YtpedofomfhmnfaaW.PrintMore
attribute [local go_sem] max2_int min2_int max_two min_two max_three min_three max_four min_four
set_option linter.unusedVariables false
set_option linter.unusedSimpArgs false
def impl_compareBlocks.f (k : Nat) (a0_0 : Int) (a0_1 : Int) (a0_2 : Bool) (a1_0 : Int) (a1_1 : Int) (a1_2 : Bool) : Option (Int) := if (a0_2 != a1_2) = true then (if a1_2 = true then ((cmp_Compare_int.f a0_0 a1_0).bind fun t230 => ((cmp_Compare_int.f a0_1 a1_1).bind fun t231 => ((cmp_Or_int.f k (([t230, t231, (-1)] : List Int))).bind fun t235 => (some t235)))) else ((cmp_Compare_int.f a0_0 a1_0).bind fun t236 => ((cmp_Compare_int.f a0_1 a1_1).bind fun t237 => ((cmp_Or_int.f k (([t236, t237, 1] : List Int))).bind fun t241 => (some t241))))) else ((cmp_Compare_int.f a0_0 a1_0).bind fun t242 => ((cmp_Compare_int.f a0_1 a1_1).bind fun t243 => ((cmp_Or_int.f k (([t242, t243, 0] : List Int))).bind fun t247 => (some t247))))
theorem impl_compareBlocks.mono : ∀ a0 a1 a2 a3 a4 a5 k, LeO (impl_compareBlocks.f k a0 a1 a2 a3 a4 a5) (impl_compareBlocks.f (k + 1) a0 a1 a2 a3 a4 a5) := by
 intro a0 a1 a2 a3 a4 a5 k
 unfold impl_compareBlocks.f
 repeat' first
   | (with_reducible exact cmp_Or_int.mono _ _)
   | (with_reducible exact LeO.refl _)
   | (with_reducible exact LeO.none _)
   | (with_reducible refine LeO.ite ?_ ?_)
   | (with_reducible refine LeO.bind ?_ (fun _ => ?_))
   | exact cmp_Or_int.mono _ _
   | exact LeO.none _
   | refine LeO.ite ?_ ?_
   | refine LeO.bind ?_ (fun _ => ?_)
def impl_compareBlocks.T6 : Bool × List (List Nat × List Nat) := (true, [([], []), ([0], [0]), ([], []), ([2], [2]), ([1, 3], [1, 3]), ([], []), ([5], [5]), ([], []), ([7], [7]), ([6, 8, 4], [6, 8]), ([], []), ([4, 9, 10], [4, 9, 10]), ([11, 9], [11]), ([12, 12, 0, 1, 2, 3, 4, 5, 6, 7, 8, 9, 10, 11, 12], [12])])
def impl_compareBlocks.B6 : List Nat := [0, 1, 0, 4, 15, 0, 32, 0, 128, 511, 0, 2047, 4095, 8191]
theorem impl_compareBlocks.tab6 : rtab .any (opsOf Try.f67 6) = impl_compareBlocks.T6 := by kernel_rfl
theorem impl_compareBlocks.bits6 : waitsOk impl_compareBlocks.T6.2 impl_compareBlocks.B6 = true := by kernel_rfl
set_option maxHeartbeats 8000000 in
set_option maxRecDepth 100000 in
theorem impl_compareBlocks.calls (k : Nat) (a0_0 : Int) (a0_1 : Int) (a0_2 : Bool) (a1_0 : Int) (a1_1 : Int) (a1_2 : Bool) (r : Int) (w : World) (h : impl_compareBlocks.f k a0_0 a0_1 a0_2 a1_0 a1_1 a1_2 = some r) :
  Calls Try.prog 67 #[.agg #[.int .i64 a0_0, .int .i64 a0_1, .bool a0_2], .agg #[.int .i64 a1_0, .int .i64 a1_1, .bool a1_2]] w fun e w' => e = .returned (.int .i64 r) ∧ Below w.heap.size w w' := by
 have hu58 := Try.underlying58
 have HB := qb.mk (Below.refl w.heap.size w)
 have H : (if (a0_2 != a1_2) = true then (if a1_2 = true then ((cmp_Compare_int.f a0_0 a1_0).bind fun t230 => ((cmp_Compare_int.f a0_1 a1_1).bind fun t231 => ((cmp_Or_int.f k (([t230, t231, (-1)] : List Int))).bind fun t235 => (some t235)))) else ((cmp_Compare_int.f a0_0 a1_0).bind fun t236 => ((cmp_Compare_int.f a0_1 a1_1).bind fun t237 => ((cmp_Or_int.f k (([t236, t237, 1] : List Int))).bind fun t241 => (some t241))))) else ((cmp_Compare_int.f a0_0 a1_0).bind fun t242 => ((cmp_Compare_int.f a0_1 a1_1).bind fun t243 => ((cmp_Or_int.f k (([t242, t243, 0] : List Int))).bind fun t247 => (some t247))))) = some r := h
 clear h
 by_cases c3 : (a0_2 != a1_2) = true
 ·rw [if_pos c3] at H
  have c3b0 : (a0_2 != a1_2) = true := c3
  (try (have c3b1 : decide (a0_2 = a1_2) = false := by simpa using c3))
  (try (have c3b2 : (a0_2 == a1_2) = false := by simpa using c3))
  (try (have c3b3 : ¬ (a0_2 = a1_2) := by simpa using c3))
  clear c3
  by_cases c4 : a1_2 = true
  ·subst c4
   have H1 : ((cmp_Compare_int.f a0_0 a1_0).bind fun t230 => ((cmp_Compare_int.f a0_1 a1_1).bind fun t231 => ((cmp_Or_int.f k (([t230, t231, (-1)] : List Int))).bind fun t235 => (some t235)))) = some r := by rw [if_pos rfl] at H; exact H
   clear H
   have H := H1
   clear H1
   replace H := Option.bind_eq_some_iff.mp H
   obtain ⟨t230, A50, H⟩ := H
   replace H : ((cmp_Compare_int.f a0_1 a1_1).bind fun t231 => ((cmp_Or_int.f k (([t230, t231, (-1)] : List Int))).bind fun t235 => (some t235))) = some r := H
   have A5 := qb.mk A50
   clear A50
   replace H := Option.bind_eq_some_iff.mp H
   obtain ⟨t231, A60, H⟩ := H
   replace H : ((cmp_Or_int.f k (([t230, t231, (-1)] : List Int))).bind fun t235 => (some t235)) = some r := H
   have A6 := qb.mk A60
   clear A60
   obtain ⟨y232, hy232⟩ : ∃ y_ : List Int, y_ = (([t230, t231, (-1)] : List Int)) := ⟨_, rfl⟩
   replace H : ((cmp_Or_int.f k y232).bind fun t235 => (some t235)) = some r := by first | (rw [hy232]; with_reducible exact H) | (have H2_ := (Option.bind_some _ _).symm.trans H; rw [hy232]; with_reducible exact H2_) | (have H2_ := (Option.bind_some _ _).symm.trans H; with_reducible exact H2_) | with_reducible exact H | (rw [hy232]; exact H) | exact H
   have Ny232 := qb.mk hy232
   clear hy232
   replace H := Option.bind_eq_some_iff.mp H
   obtain ⟨t235, A70, H⟩ := H
   replace H : (some t235) = some r := H
   have A7 := qb.mk A70
   clear A70
   obtain rfl := Option.some.inj H
   go_enter Try.func67, Try.ntmps67
   try go_wp2_with (first | ((with_reducible refine qz (N := 2) rfl ?_); refine qx ?hg (N := 2) ?hd (cs := #[.int .i64 a0_0, .int .i64 a0_1, .bool a0_2]) (t := 58) ?hr ?_; (case hd => rfl); (case hg => rfl); (case hr => first | (go_simp; done) | (go_simp; rfl)); intro gb228 hg w8 hbox hb; have n0_ := qb.mk (qp (be0_ HB) hb); have n1_ := qb.mk (hbox); have n2_ := qb.mk ((by rw [hg]; exact (qm (be0_ HB)) : w.heap.size ≤ gb228)); have n3_ := qb.mk ((by rw [hg]; exact (qm (be0_ HB)) : w.heap.size ≤ gb228)); clear HB; have HB := n0_; have BK228 := n1_; have GW228 := n2_; have GE228 := n3_; clear n0_ n1_ n2_ n3_; clear hb hbox hg) | ((with_reducible refine qz (N := 3) rfl ?_); refine qx ?hg (N := 3) ?hd (cs := #[.int .i64 a1_0, .int .i64 a1_1, .bool true]) (t := 58) ?hr ?_; (case hd => rfl); (case hg => rfl); (case hr => first | (go_simp; done) | (go_simp; rfl)); intro gb229 hg w9 hbox hb; have n0_ := qb.mk (qk (g := gb228) (o := .cells #[.int .i64 a0_0, .int .i64 a0_1, .bool a0_2] 58 (0, 0)) (bk_ BK228) hb); have n1_ := qb.mk (qp (be1_ HB GE228) hb); have n2_ := qb.mk (hbox); have n3_ := qb.mk ((by rw [hg]; exact (qm (be1_ HB GE228)) : w.heap.size ≤ gb229)); have n4_ := qb.mk ((by rw [hg]; exact (qm (be1_ HB GE228)) : w.heap.size ≤ gb229)); have n5_ := qb.mk ((by rw [hg]; exact Nat.ne_of_lt (qw (g := gb228) (o := .cells #[.int .i64 a0_0, .int .i64 a0_1, .bool a0_2] 58 (0, 0)) (bk_ BK228)) : gb228 ≠ gb229)); have n6_ := qb.mk ((by rw [hg]; exact Nat.ne_of_gt (qw (g := gb228) (o := .cells #[.int .i64 a0_0, .int .i64 a0_1, .bool a0_2] 58 (0, 0)) (bk_ BK228)) : gb229 ≠ gb228)); clear BK228; clear HB; have BK228 := n0_; have HB := n1_; have BK229 := n2_; have GW229 := n3_; have GE229 := n4_; have NB228_229 := n5_; have NB229_228 := n6_; clear n0_ n1_ n2_ n3_ n4_ n5_ n6_; clear hb hbox hg; have hnb10 := NB228_229.out; have hnc10 := NB229_228.out; have hcz11_0 : w9.cell? ⟨gb228, 0, none⟩ = some (.int .i64 a0_0) := (qf BK228.out 0).trans rfl; have hcz11_1 : w9.cell? ⟨gb228, 1, none⟩ = some (.int .i64 a0_1) := (qf BK228.out 1).trans rfl; have hcz11_2 : w9.cell? ⟨gb228, 2, none⟩ = some (.bool a0_2) := (qf BK228.out 2).trans rfl; have hfz11_0 := qj BK228.out 0; have hfz11_1 := qj BK228.out 1; have hfz11_2 := qj BK228.out 2; have hcz12_0 : w9.cell? ⟨gb229, 0, none⟩ = some (.int .i64 a1_0) := (qf BK229.out 0).trans rfl; have hcz12_1 : w9.cell? ⟨gb229, 1, none⟩ = some (.int .i64 a1_1) := (qf BK229.out 1).trans rfl; have hcz12_2 : w9.cell? ⟨gb229, 2, none⟩ = some (.bool true) := (qf BK229.out 2).trans rfl; have hfz12_0 := qj BK229.out 0; have hfz12_1 := qj BK229.out 1; have hfz12_2 := qj BK229.out 2))
   have n0_ := qb.mk (qg BK228.out)
   have n1_ := qb.mk (qg BK229.out)
   have n2_ := qb.mk (qh HB.out)
   clear BK228
   clear BK229
   clear HB
   have BK228 := n0_
   have BK229 := n1_
   have HB := n2_
   clear n0_ n1_ n2_
   refine jd (n := 14) (S := fun w' => w'.cell? ⟨gb228, 0, none⟩ = some (.int .i64 a0_0) ∧ w'.cell? ⟨gb228, 1, none⟩ = some (.int .i64 a0_1) ∧ w'.cell? ⟨gb228, 2, none⟩ = some (.bool a0_2) ∧ w'.cell? ⟨gb229, 0, none⟩ = some (.int .i64 a1_0) ∧ w'.cell? ⟨gb229, 1, none⟩ = some (.int .i64 a1_1) ∧ w'.cell? ⟨gb229, 2, none⟩ = some (.bool true)) (ds := []) #[false, false, false, false, false, false, false, false, false, false, false, false, false, false] (by kernel_rfl) rfl rfl ⟨(qf BK228.out 0).trans rfl, (qf BK228.out 1).trans rfl, (qf BK228.out 2).trans rfl, (qf BK229.out 0).trans rfl, (qf BK229.out 1).trans rfl, (qf BK229.out 2).trans rfl⟩ (fun hHeld => ?_); refine zx impl_compareBlocks.tab6 impl_compareBlocks.bits6 (fun HT_ HW_ => ?_)
   generalize w9.drew = w13 at BK228 BK229 HB hHeld ⊢
   refine pure_ (i := 0) (N := some 13) (v := ?_) (a' := ?_) #[true, false, false, false, false, false, false, false, false, false, false, false, false, false] rfl rfl (qt HT_.out (by kernel_rfl)) (fun _ _ _ h => h) (Or.inl ⟨by rfl, ?_⟩) ?_ ?_
   rotate_left
   ·intro w'
    go_simp
    with_reducible rfl
   rotate_left
   ·simp only [Act.put, sA_, sB_, sC_, i64_w, i32_w]
    rfl
   refine pure_ (i := 2) (N := some 15) (v := ?_) (a' := ?_) #[true, false, true, false, false, false, false, false, false, false, false, false, false, false] rfl rfl (qt HT_.out (by kernel_rfl)) (fun _ _ _ h => h) (Or.inl ⟨by rfl, ?_⟩) ?_ ?_
   rotate_left
   ·intro w'
    go_simp
    with_reducible rfl
   rotate_left
   ·simp only [Act.put, sA_, sB_, sC_, i64_w, i32_w]
    rfl
   refine pure_ (i := 5) (N := some 18) (v := ?_) (a' := ?_) #[true, false, true, false, false, true, false, false, false, false, false, false, false, false] rfl rfl (qt HT_.out (by kernel_rfl)) (fun _ _ _ h => h) (Or.inl ⟨by rfl, ?_⟩) ?_ ?_
   rotate_left
   ·intro w'
    go_simp
    with_reducible rfl
   rotate_left
   ·simp only [Act.put, sA_, sB_, sC_, i64_w, i32_w]
    rfl
   refine pure_ (i := 7) (N := some 20) (v := ?_) (a' := ?_) #[true, false, true, false, false, true, false, true, false, false, false, false, false, false] rfl rfl (qt HT_.out (by kernel_rfl)) (fun _ _ _ h => h) (Or.inl ⟨by rfl, ?_⟩) ?_ ?_
   rotate_left
   ·intro w'
    go_simp
    with_reducible rfl
   rotate_left
   ·simp only [Act.put, sA_, sB_, sC_, i64_w, i32_w]
    rfl
   refine pure_ (i := 10) (N := some 23) (v := ?_) (a' := ?_) #[true, false, true, false, false, true, false, true, false, false, true, false, false, false] rfl rfl (qt HT_.out (by kernel_rfl)) (fun _ _ _ h => h) (Or.inl ⟨by rfl, ?_⟩) ?_ ?_
   rotate_left
   ·intro w'
    go_simp
    with_reducible rfl
   rotate_left
   ·simp only [Act.put, sA_, sB_, sC_, i64_w, i32_w]
    rfl
   refine take_ (i := 1) (N := some 14) (v := ?_) (a' := ?_) #[true, true, true, false, false, true, false, true, false, false, true, false, false, false] rfl rfl (ze HT_.out HW_.out (by kernel_rfl)) (fun _ _ _ h => h) (Or.inl ⟨by rfl, ?_⟩) hHeld ?_ ?_
   rotate_left
   ·rintro w' ⟨s0, s1, s2, s3, s4, s5⟩
    go_simp
    with_reducible rfl
   rotate_left
   ·simp only [Act.put, sA_, sB_, sC_, i64_w, i32_w]
    rfl
   refine take_ (i := 3) (N := some 16) (v := ?_) (a' := ?_) #[true, true, true, true, false, true, false, true, false, false, true, false, false, false] rfl rfl (ze HT_.out HW_.out (by kernel_rfl)) (fun _ _ _ h => h) (Or.inl ⟨by rfl, ?_⟩) hHeld ?_ ?_
   rotate_left
   ·rintro w' ⟨s0, s1, s2, s3, s4, s5⟩
    go_simp
    with_reducible rfl
   rotate_left
   ·simp only [Act.put, sA_, sB_, sC_, i64_w, i32_w]
    rfl
   refine take_ (i := 6) (N := some 19) (v := ?_) (a' := ?_) #[true, true, true, true, false, true, true, true, false, false, true, false, false, false] rfl rfl (ze HT_.out HW_.out (by kernel_rfl)) (fun _ _ _ h => h) (Or.inl ⟨by rfl, ?_⟩) hHeld ?_ ?_
   rotate_left
   ·rintro w' ⟨s0, s1, s2, s3, s4, s5⟩
    go_simp
    with_reducible rfl
   rotate_left
   ·simp only [Act.put, sA_, sB_, sC_, i64_w, i32_w]
    rfl
   refine take_ (i := 8) (N := some 21) (v := ?_) (a' := ?_) #[true, true, true, true, false, true, true, true, true, false, true, false, false, false] rfl rfl (ze HT_.out HW_.out (by kernel_rfl)) (fun _ _ _ h => h) (Or.inl ⟨by rfl, ?_⟩) hHeld ?_ ?_
   rotate_left
   ·rintro w' ⟨s0, s1, s2, s3, s4, s5⟩
    go_simp
    with_reducible rfl
   rotate_left
   ·simp only [Act.put, sA_, sB_, sC_, i64_w, i32_w]
    rfl
   refine one_ (i := 4) (N := some 17) #[true, true, true, true, true, true, true, true, true, false, true, false, false, false] rfl rfl (zl HT_.out (by kernel_rfl)) (by decide) (fun K hK => ?_)
   refine goes_ Try.func81 (by kernel_rfl) rfl #[.int .i64 a0_0, .int .i64 a1_0] (by rfl) rfl rfl (by (try simp only [List.map_toArray, List.map_cons, List.map_nil]); first | done | rfl | (simp only [List.length_drop, List.length_take]; rfl)) ?_
   with_reducible refine (cmp_Compare_int.calls a0_0 a1_0 t230 _ A5.out).mono ?_
   rintro e w' ⟨rfl, ⟨nd, rfl⟩⟩
   refine ⟨_, rfl, ?_⟩
   refine hK.out _ _ ⟨(qf BK228.out 0).trans rfl, (qf BK228.out 1).trans rfl, (qf BK228.out 2).trans rfl, (qf BK229.out 0).trans rfl, (qf BK229.out 1).trans rfl, (qf BK229.out 2).trans rfl⟩ (fun hHeld => ?_)
   clear hK K
   refine norm_ (a' := ?_) ?_ ?_
   rotate_left
   ·show Act.put _ (some 17) _ = _
    simp only [Act.put, sA_, sB_, sC_, i64_w, i32_w]
    rfl
   refine one_ (i := 9) (N := some 22) #[true, true, true, true, true, true, true, true, true, true, true, false, false, false] rfl rfl (zl HT_.out (by kernel_rfl)) (by decide) (fun K hK => ?_)
   refine goes_ Try.func81 (by kernel_rfl) rfl #[.int .i64 a0_1, .int .i64 a1_1] (by rfl) rfl rfl (by (try simp only [List.map_toArray, List.map_cons, List.map_nil]); first | done | rfl | (simp only [List.length_drop, List.length_take]; rfl)) ?_
   with_reducible refine (cmp_Compare_int.calls a0_1 a1_1 t231 _ A6.out).mono ?_
   rintro e w' ⟨rfl, ⟨nd, rfl⟩⟩
   refine ⟨_, rfl, ?_⟩
   refine hK.out _ _ ⟨(qf BK228.out 0).trans rfl, (qf BK228.out 1).trans rfl, (qf BK228.out 2).trans rfl, (qf BK229.out 0).trans rfl, (qf BK229.out 1).trans rfl, (qf BK229.out 2).trans rfl⟩ (fun hHeld => ?_)
   clear hK K
   refine norm_ (a' := ?_) ?_ ?_
   rotate_left
   ·show Act.put _ (some 22) _ = _
    simp only [Act.put, sA_, sB_, sC_, i64_w, i32_w]
    rfl
   refine one_ (i := 11) (N := some 24) #[true, true, true, true, true, true, true, true, true, true, true, true, false, false] rfl rfl (zl HT_.out (by kernel_rfl)) (by decide) (fun K hK => ?_)
   refine Kd.R_lit_step (Kd.int .i64) _ 3 ?hg (N := 24) ?hd (xs := ([t230, t231, (-1)] : List Int)) (inner := [.int .i64 t230, .int .i64 t231, .int .i64 (-1)]) (ok := fun _ => True) (okp := fun _ => True) ?hr ?hp (fun _ hk => hk) trivial (Below.refl _ _) (Nat.le_refl _) (by simp) ?_; (case hd => rfl); (case hg => rfl); (case hr => first | (go_simp; done) | (go_simp; rfl)); (case hp => exact (Reps.one (show Kd.M (Kd.int .i64) _ _ _ t230 [.int .i64 t230] from rfl) (Reps.one (show Kd.M (Kd.int .i64) _ _ _ t231 [.int .i64 t231] from rfl) (Reps.one (show Kd.M (Kd.int .i64) _ _ _ (-1) [.int .i64 (-1)] from rfl) (Reps.none _ _)))))
   intro v233 w14 ho15 hb hg_ hnew_
   clear hg_ hnew_
   (first | rw [← Ny232.out] at ho15 | (simp only [Int.reduceToNat] at ho15; rw [← Ny232.out] at ho15))
   have n0_ := qb.mk (Kd.zq ho15 (qm (be2_ HB GE228 GE229)))
   have n1_ := qb.mk (qk (g := gb228) (o := .cells #[.int .i64 a0_0, .int .i64 a0_1, .bool a0_2] 58 (0, 0)) (bk_ BK228) hb)
   have n2_ := qb.mk (qk (g := gb229) (o := .cells #[.int .i64 a1_0, .int .i64 a1_1, .bool true] 58 (0, 0)) (bk_ BK229) hb)
   have n3_ := qb.mk (qp (be2_ HB GE228 GE229) hb)
   clear BK228
   clear BK229
   clear HB
   have HO234 := n0_
   have BK228 := n1_
   have BK229 := n2_
   have HB := n3_
   clear n0_ n1_ n2_ n3_
   clear hb ho15
   obtain ⟨Ao16, co16, eo16⟩ := Kd.zy HO234.out
   (first | subst eo16 | (injection eo16 with f1_ f2_ f3_; have f4_ := f1_.symm; have f5_ := f3_.symm; clear f1_ f2_ f3_; subst f4_; subst f5_))
   refine hK.out _ _ ⟨(qf BK228.out 0).trans rfl, (qf BK228.out 1).trans rfl, (qf BK228.out 2).trans rfl, (qf BK229.out 0).trans rfl, (qf BK229.out 1).trans rfl, (qf BK229.out 2).trans rfl⟩ (fun hHeld => ?_)
   clear hK K
   refine norm_ (a' := ?_) ?_ ?_
   rotate_left
   ·show Act.put _ (some 24) _ = _
    simp only [Act.put, sA_, sB_, sC_, i64_w, i32_w]
    rfl
   refine one_ (i := 12) (N := some 25) #[true, true, true, true, true, true, true, true, true, true, true, true, true, false] rfl rfl (zl HT_.out (by kernel_rfl)) (by decide) (fun K hK => ?_)
   refine goes_ Try.func80 (by kernel_rfl) rfl #[.slice Ao16 y232.length co16] (by rfl) rfl rfl (by (try simp only [List.map_toArray, List.map_cons, List.map_nil]); first | done | rfl | (simp only [List.length_drop, List.length_take]; rfl)) ?_
   with_reducible refine (cmp_Or_int.calls k _ _ y232 t235 _ ?side1 ?side2 A7.out).mono ?_
   (case side1 => repeat (first | exact (Kd.za HO234.out).2.2 | (with_reducible refine Kd.zg ?_ _) | (with_reducible refine Kd.zh ?_ _) | (with_reducible refine Kd.zk ?_)))
   (case side2 => exact (Kd.za HO234.out).2.1)
   rintro e w' ⟨rfl, ⟨nd, rfl⟩⟩
   refine ⟨_, rfl, ?_⟩
   refine hK.out _ _ ⟨(qf BK228.out 0).trans rfl, (qf BK228.out 1).trans rfl, (qf BK228.out 2).trans rfl, (qf BK229.out 0).trans rfl, (qf BK229.out 1).trans rfl, (qf BK229.out 2).trans rfl⟩ (fun hHeld => ?_)
   clear hK K
   refine norm_ (a' := ?_) ?_ ?_
   rotate_left
   ·show Act.put _ (some 25) _ = _
    simp only [Act.put, sA_, sB_, sC_, i64_w, i32_w]
    rfl
   refine pure_ (i := 13) (N := some 4) (v := ?_) (a' := ?_) #[true, true, true, true, true, true, true, true, true, true, true, true, true, true] rfl rfl (qt HT_.out (by kernel_rfl)) (fun _ _ _ h => h) (Or.inl ⟨by rfl, ?_⟩) ?_ ?_
   rotate_left
   ·intro w'
    go_simp
    with_reducible rfl
   rotate_left
   ·simp only [Act.put, sA_, sB_, sC_, i64_w, i32_w]
    rfl
   refine done_ (jc HT_.out (by kernel_rfl)) ?_
   try go_wp2
   go_ret
   exact ⟨by first | rfl | (simp [qv, qu] <;> rfl) | (simp [*, qv, qu] <;> rfl), be2_ HB GE228 GE229⟩
  ·replace c4 := Bool.eq_false_iff.mpr c4
   subst c4
   have H1 : ((cmp_Compare_int.f a0_0 a1_0).bind fun t236 => ((cmp_Compare_int.f a0_1 a1_1).bind fun t237 => ((cmp_Or_int.f k (([t236, t237, 1] : List Int))).bind fun t241 => (some t241)))) = some r := by rw [if_neg (show ¬ (false = true) by decide)] at H; exact H
   clear H
   have H := H1
   clear H1
   replace H := Option.bind_eq_some_iff.mp H
   obtain ⟨t236, A170, H⟩ := H
   replace H : ((cmp_Compare_int.f a0_1 a1_1).bind fun t237 => ((cmp_Or_int.f k (([t236, t237, 1] : List Int))).bind fun t241 => (some t241))) = some r := H
   have A17 := qb.mk A170
   clear A170
   replace H := Option.bind_eq_some_iff.mp H
   obtain ⟨t237, A180, H⟩ := H
   replace H : ((cmp_Or_int.f k (([t236, t237, 1] : List Int))).bind fun t241 => (some t241)) = some r := H
   have A18 := qb.mk A180
   clear A180
   obtain ⟨y238, hy238⟩ : ∃ y_ : List Int, y_ = (([t236, t237, 1] : List Int)) := ⟨_, rfl⟩
   replace H : ((cmp_Or_int.f k y238).bind fun t241 => (some t241)) = some r := by first | (rw [hy238]; with_reducible exact H) | (have H2_ := (Option.bind_some _ _).symm.trans H; rw [hy238]; with_reducible exact H2_) | (have H2_ := (Option.bind_some _ _).symm.trans H; with_reducible exact H2_) | with_reducible exact H | (rw [hy238]; exact H) | exact H
   have Ny238 := qb.mk hy238
   clear hy238
   replace H := Option.bind_eq_some_iff.mp H
   obtain ⟨t241, A190, H⟩ := H
   replace H : (some t241) = some r := H
   have A19 := qb.mk A190
   clear A190
   obtain rfl := Option.some.inj H
   go_enter Try.func67, Try.ntmps67
   try go_wp2_with (first | ((with_reducible refine qz (N := 2) rfl ?_); refine qx ?hg (N := 2) ?hd (cs := #[.int .i64 a0_0, .int .i64 a0_1, .bool a0_2]) (t := 58) ?hr ?_; (case hd => rfl); (case hg => rfl); (case hr => first | (go_simp; done) | (go_simp; rfl)); intro gb228 hg w20 hbox hb; have n0_ := qb.mk (qp (be0_ HB) hb); have n1_ := qb.mk (hbox); have n2_ := qb.mk ((by rw [hg]; exact (qm (be0_ HB)) : w.heap.size ≤ gb228)); have n3_ := qb.mk ((by rw [hg]; exact (qm (be0_ HB)) : w.heap.size ≤ gb228)); clear HB; have HB := n0_; have BK228 := n1_; have GW228 := n2_; have GE228 := n3_; clear n0_ n1_ n2_ n3_; clear hb hbox hg) | ((with_reducible refine qz (N := 3) rfl ?_); refine qx ?hg (N := 3) ?hd (cs := #[.int .i64 a1_0, .int .i64 a1_1, .bool false]) (t := 58) ?hr ?_; (case hd => rfl); (case hg => rfl); (case hr => first | (go_simp; done) | (go_simp; rfl)); intro gb229 hg w21 hbox hb; have n0_ := qb.mk (qk (g := gb228) (o := .cells #[.int .i64 a0_0, .int .i64 a0_1, .bool a0_2] 58 (0, 0)) (bk_ BK228) hb); have n1_ := qb.mk (qp (be1_ HB GE228) hb); have n2_ := qb.mk (hbox); have n3_ := qb.mk ((by rw [hg]; exact (qm (be1_ HB GE228)) : w.heap.size ≤ gb229)); have n4_ := qb.mk ((by rw [hg]; exact (qm (be1_ HB GE228)) : w.heap.size ≤ gb229)); have n5_ := qb.mk ((by rw [hg]; exact Nat.ne_of_lt (qw (g := gb228) (o := .cells #[.int .i64 a0_0, .int .i64 a0_1, .bool a0_2] 58 (0, 0)) (bk_ BK228)) : gb228 ≠ gb229)); have n6_ := qb.mk ((by rw [hg]; exact Nat.ne_of_gt (qw (g := gb228) (o := .cells #[.int .i64 a0_0, .int .i64 a0_1, .bool a0_2] 58 (0, 0)) (bk_ BK228)) : gb229 ≠ gb228)); clear BK228; clear HB; have BK228 := n0_; have HB := n1_; have BK229 := n2_; have GW229 := n3_; have GE229 := n4_; have NB228_229 := n5_; have NB229_228 := n6_; clear n0_ n1_ n2_ n3_ n4_ n5_ n6_; clear hb hbox hg; have hnb22 := NB228_229.out; have hnc22 := NB229_228.out; have hcz23_0 : w21.cell? ⟨gb228, 0, none⟩ = some (.int .i64 a0_0) := (qf BK228.out 0).trans rfl; have hcz23_1 : w21.cell? ⟨gb228, 1, none⟩ = some (.int .i64 a0_1) := (qf BK228.out 1).trans rfl; have hcz23_2 : w21.cell? ⟨gb228, 2, none⟩ = some (.bool a0_2) := (qf BK228.out 2).trans rfl; have hfz23_0 := qj BK228.out 0; have hfz23_1 := qj BK228.out 1; have hfz23_2 := qj BK228.out 2; have hcz24_0 : w21.cell? ⟨gb229, 0, none⟩ = some (.int .i64 a1_0) := (qf BK229.out 0).trans rfl; have hcz24_1 : w21.cell? ⟨gb229, 1, none⟩ = some (.int .i64 a1_1) := (qf BK229.out 1).trans rfl; have hcz24_2 : w21.cell? ⟨gb229, 2, none⟩ = some (.bool false) := (qf BK229.out 2).trans rfl; have hfz24_0 := qj BK229.out 0; have hfz24_1 := qj BK229.out 1; have hfz24_2 := qj BK229.out 2))
   have n0_ := qb.mk (qg BK228.out)
   have n1_ := qb.mk (qg BK229.out)
   have n2_ := qb.mk (qh HB.out)
   clear BK228
   clear BK229
   clear HB
   have BK228 := n0_
   have BK229 := n1_
   have HB := n2_
   clear n0_ n1_ n2_
   refine jd (n := 14) (S := fun w' => w'.cell? ⟨gb228, 0, none⟩ = some (.int .i64 a0_0) ∧ w'.cell? ⟨gb228, 1, none⟩ = some (.int .i64 a0_1) ∧ w'.cell? ⟨gb228, 2, none⟩ = some (.bool a0_2) ∧ w'.cell? ⟨gb229, 0, none⟩ = some (.int .i64 a1_0) ∧ w'.cell? ⟨gb229, 1, none⟩ = some (.int .i64 a1_1) ∧ w'.cell? ⟨gb229, 2, none⟩ = some (.bool false)) (ds := []) #[false, false, false, false, false, false, false, false, false, false, false, false, false, false] (by kernel_rfl) rfl rfl ⟨(qf BK228.out 0).trans rfl, (qf BK228.out 1).trans rfl, (qf BK228.out 2).trans rfl, (qf BK229.out 0).trans rfl, (qf BK229.out 1).trans rfl, (qf BK229.out 2).trans rfl⟩ (fun hHeld => ?_); refine zx impl_compareBlocks.tab6 impl_compareBlocks.bits6 (fun HT_ HW_ => ?_)
   generalize w21.drew = w25 at BK228 BK229 HB hHeld ⊢
   refine pure_ (i := 0) (N := some 13) (v := ?_) (a' := ?_) #[true, false, false, false, false, false, false, false, false, false, false, false, false, false] rfl rfl (qt HT_.out (by kernel_rfl)) (fun _ _ _ h => h) (Or.inl ⟨by rfl, ?_⟩) ?_ ?_
   rotate_left
   ·intro w'
    go_simp
    with_reducible rfl
   rotate_left
   ·simp only [Act.put, sA_, sB_, sC_, i64_w, i32_w]
    rfl
   refine pure_ (i := 2) (N := some 15) (v := ?_) (a' := ?_) #[true, false, true, false, false, false, false, false, false, false, false, false, false, false] rfl rfl (qt HT_.out (by kernel_rfl)) (fun _ _ _ h => h) (Or.inl ⟨by rfl, ?_⟩) ?_ ?_
   rotate_left
   ·intro w'
    go_simp
    with_reducible rfl
   rotate_left
   ·simp only [Act.put, sA_, sB_, sC_, i64_w, i32_w]
    rfl
   refine pure_ (i := 5) (N := some 18) (v := ?_) (a' := ?_) #[true, false, true, false, false, true, false, false, false, false, false, false, false, false] rfl rfl (qt HT_.out (by kernel_rfl)) (fun _ _ _ h => h) (Or.inl ⟨by rfl, ?_⟩) ?_ ?_
   rotate_left
   ·intro w'
    go_simp
    with_reducible rfl
   rotate_left
   ·simp only [Act.put, sA_, sB_, sC_, i64_w, i32_w]
    rfl
   refine pure_ (i := 7) (N := some 20) (v := ?_) (a' := ?_) #[true, false, true, false, false, true, false, true, false, false, false, false, false, false] rfl rfl (qt HT_.out (by kernel_rfl)) (fun _ _ _ h => h) (Or.inl ⟨by rfl, ?_⟩) ?_ ?_
   rotate_left
   ·intro w'
    go_simp
    with_reducible rfl
   rotate_left
   ·simp only [Act.put, sA_, sB_, sC_, i64_w, i32_w]
    rfl
   refine pure_ (i := 10) (N := some 23) (v := ?_) (a' := ?_) #[true, false, true, false, false, true, false, true, false, false, true, false, false, false] rfl rfl (qt HT_.out (by kernel_rfl)) (fun _ _ _ h => h) (Or.inl ⟨by rfl, ?_⟩) ?_ ?_
   rotate_left
   ·intro w'
    go_simp
    with_reducible rfl
   rotate_left
   ·simp only [Act.put, sA_, sB_, sC_, i64_w, i32_w]
    rfl
   refine take_ (i := 1) (N := some 14) (v := ?_) (a' := ?_) #[true, true, true, false, false, true, false, true, false, false, true, false, false, false] rfl rfl (ze HT_.out HW_.out (by kernel_rfl)) (fun _ _ _ h => h) (Or.inl ⟨by rfl, ?_⟩) hHeld ?_ ?_
   rotate_left
   ·rintro w' ⟨s0, s1, s2, s3, s4, s5⟩
    go_simp
    with_reducible rfl
   rotate_left
   ·simp only [Act.put, sA_, sB_, sC_, i64_w, i32_w]
    rfl
   refine take_ (i := 3) (N := some 16) (v := ?_) (a' := ?_) #[true, true, true, true, false, true, false, true, false, false, true, false, false, false] rfl rfl (ze HT_.out HW_.out (by kernel_rfl)) (fun _ _ _ h => h) (Or.inl ⟨by rfl, ?_⟩) hHeld ?_ ?_
   rotate_left
   ·rintro w' ⟨s0, s1, s2, s3, s4, s5⟩
    go_simp
    with_reducible rfl
   rotate_left
   ·simp only [Act.put, sA_, sB_, sC_, i64_w, i32_w]
    rfl
   refine take_ (i := 6) (N := some 19) (v := ?_) (a' := ?_) #[true, true, true, true, false, true, true, true, false, false, true, false, false, false] rfl rfl (ze HT_.out HW_.out (by kernel_rfl)) (fun _ _ _ h => h) (Or.inl ⟨by rfl, ?_⟩) hHeld ?_ ?_
   rotate_left
   ·rintro w' ⟨s0, s1, s2, s3, s4, s5⟩
    go_simp
    with_reducible rfl
   rotate_left
   ·simp only [Act.put, sA_, sB_, sC_, i64_w, i32_w]
    rfl
   refine take_ (i := 8) (N := some 21) (v := ?_) (a' := ?_) #[true, true, true, true, false, true, true, true, true, false, true, false, false, false] rfl rfl (ze HT_.out HW_.out (by kernel_rfl)) (fun _ _ _ h => h) (Or.inl ⟨by rfl, ?_⟩) hHeld ?_ ?_
   rotate_left
   ·rintro w' ⟨s0, s1, s2, s3, s4, s5⟩
    go_simp
    with_reducible rfl
   rotate_left
   ·simp only [Act.put, sA_, sB_, sC_, i64_w, i32_w]
    rfl
   refine one_ (i := 4) (N := some 17) #[true, true, true, true, true, true, true, true, true, false, true, false, false, false] rfl rfl (zl HT_.out (by kernel_rfl)) (by decide) (fun K hK => ?_)
   refine goes_ Try.func81 (by kernel_rfl) rfl #[.int .i64 a0_0, .int .i64 a1_0] (by rfl) rfl rfl (by (try simp only [List.map_toArray, List.map_cons, List.map_nil]); first | done | rfl | (simp only [List.length_drop, List.length_take]; rfl)) ?_
   with_reducible refine (cmp_Compare_int.calls a0_0 a1_0 t236 _ A17.out).mono ?_
   rintro e w' ⟨rfl, ⟨nd, rfl⟩⟩
   refine ⟨_, rfl, ?_⟩
   refine hK.out _ _ ⟨(qf BK228.out 0).trans rfl, (qf BK228.out 1).trans rfl, (qf BK228.out 2).trans rfl, (qf BK229.out 0).trans rfl, (qf BK229.out 1).trans rfl, (qf BK229.out 2).trans rfl⟩ (fun hHeld => ?_)
   clear hK K
   refine norm_ (a' := ?_) ?_ ?_
   rotate_left
   ·show Act.put _ (some 17) _ = _
    simp only [Act.put, sA_, sB_, sC_, i64_w, i32_w]
    rfl
   refine one_ (i := 9) (N := some 22) #[true, true, true, true, true, true, true, true, true, true, true, false, false, false] rfl rfl (zl HT_.out (by kernel_rfl)) (by decide) (fun K hK => ?_)
   refine goes_ Try.func81 (by kernel_rfl) rfl #[.int .i64 a0_1, .int .i64 a1_1] (by rfl) rfl rfl (by (try simp only [List.map_toArray, List.map_cons, List.map_nil]); first | done | rfl | (simp only [List.length_drop, List.length_take]; rfl)) ?_
   with_reducible refine (cmp_Compare_int.calls a0_1 a1_1 t237 _ A18.out).mono ?_
   rintro e w' ⟨rfl, ⟨nd, rfl⟩⟩
   refine ⟨_, rfl, ?_⟩
   refine hK.out _ _ ⟨(qf BK228.out 0).trans rfl, (qf BK228.out 1).trans rfl, (qf BK228.out 2).trans rfl, (qf BK229.out 0).trans rfl, (qf BK229.out 1).trans rfl, (qf BK229.out 2).trans rfl⟩ (fun hHeld => ?_)
   clear hK K
   refine norm_ (a' := ?_) ?_ ?_
   rotate_left
   ·show Act.put _ (some 22) _ = _
    simp only [Act.put, sA_, sB_, sC_, i64_w, i32_w]
    rfl
   refine one_ (i := 11) (N := some 24) #[true, true, true, true, true, true, true, true, true, true, true, true, false, false] rfl rfl (zl HT_.out (by kernel_rfl)) (by decide) (fun K hK => ?_)
   refine Kd.R_lit_step (Kd.int .i64) _ 3 ?hg (N := 24) ?hd (xs := ([t236, t237, 1] : List Int)) (inner := [.int .i64 t236, .int .i64 t237, .int .i64 1]) (ok := fun _ => True) (okp := fun _ => True) ?hr ?hp (fun _ hk => hk) trivial (Below.refl _ _) (Nat.le_refl _) (by simp) ?_; (case hd => rfl); (case hg => rfl); (case hr => first | (go_simp; done) | (go_simp; rfl)); (case hp => exact (Reps.one (show Kd.M (Kd.int .i64) _ _ _ t236 [.int .i64 t236] from rfl) (Reps.one (show Kd.M (Kd.int .i64) _ _ _ t237 [.int .i64 t237] from rfl) (Reps.one (show Kd.M (Kd.int .i64) _ _ _ 1 [.int .i64 1] from rfl) (Reps.none _ _)))))
   intro v239 w26 ho27 hb hg_ hnew_
   clear hg_ hnew_
   (first | rw [← Ny238.out] at ho27 | (simp only [Int.reduceToNat] at ho27; rw [← Ny238.out] at ho27))
   have n0_ := qb.mk (Kd.zq ho27 (qm (be2_ HB GE228 GE229)))
   have n1_ := qb.mk (qk (g := gb228) (o := .cells #[.int .i64 a0_0, .int .i64 a0_1, .bool a0_2] 58 (0, 0)) (bk_ BK228) hb)
   have n2_ := qb.mk (qk (g := gb229) (o := .cells #[.int .i64 a1_0, .int .i64 a1_1, .bool false] 58 (0, 0)) (bk_ BK229) hb)
   have n3_ := qb.mk (qp (be2_ HB GE228 GE229) hb)
   clear BK228
   clear BK229
   clear HB
   have HO240 := n0_
   have BK228 := n1_
   have BK229 := n2_
   have HB := n3_
   clear n0_ n1_ n2_ n3_
   clear hb ho27
   obtain ⟨Ao28, co28, eo28⟩ := Kd.zy HO240.out
   (first | subst eo28 | (injection eo28 with f1_ f2_ f3_; have f4_ := f1_.symm; have f5_ := f3_.symm; clear f1_ f2_ f3_; subst f4_; subst f5_))
   refine hK.out _ _ ⟨(qf BK228.out 0).trans rfl, (qf BK228.out 1).trans rfl, (qf BK228.out 2).trans rfl, (qf BK229.out 0).trans rfl, (qf BK229.out 1).trans rfl, (qf BK229.out 2).trans rfl⟩ (fun hHeld => ?_)
   clear hK K
   refine norm_ (a' := ?_) ?_ ?_
   rotate_left
   ·show Act.put _ (some 24) _ = _
    simp only [Act.put, sA_, sB_, sC_, i64_w, i32_w]
    rfl
   refine one_ (i := 12) (N := some 25) #[true, true, true, true, true, true, true, true, true, true, true, true, true, false] rfl rfl (zl HT_.out (by kernel_rfl)) (by decide) (fun K hK => ?_)
   refine goes_ Try.func80 (by kernel_rfl) rfl #[.slice Ao28 y238.length co28] (by rfl) rfl rfl (by (try simp only [List.map_toArray, List.map_cons, List.map_nil]); first | done | rfl | (simp only [List.length_drop, List.length_take]; rfl)) ?_
   with_reducible refine (cmp_Or_int.calls k _ _ y238 t241 _ ?side1 ?side2 A19.out).mono ?_
   (case side1 => repeat (first | exact (Kd.za HO240.out).2.2 | (with_reducible refine Kd.zg ?_ _) | (with_reducible refine Kd.zh ?_ _) | (with_reducible refine Kd.zk ?_)))
   (case side2 => exact (Kd.za HO240.out).2.1)
   rintro e w' ⟨rfl, ⟨nd, rfl⟩⟩
   refine ⟨_, rfl, ?_⟩
   refine hK.out _ _ ⟨(qf BK228.out 0).trans rfl, (qf BK228.out 1).trans rfl, (qf BK228.out 2).trans rfl, (qf BK229.out 0).trans rfl, (qf BK229.out 1).trans rfl, (qf BK229.out 2).trans rfl⟩ (fun hHeld => ?_)
   clear hK K
   refine norm_ (a' := ?_) ?_ ?_
   rotate_left
   ·show Act.put _ (some 25) _ = _
    simp only [Act.put, sA_, sB_, sC_, i64_w, i32_w]
    rfl
   refine pure_ (i := 13) (N := some 4) (v := ?_) (a' := ?_) #[true, true, true, true, true, true, true, true, true, true, true, true, true, true] rfl rfl (qt HT_.out (by kernel_rfl)) (fun _ _ _ h => h) (Or.inl ⟨by rfl, ?_⟩) ?_ ?_
   rotate_left
   ·intro w'
    go_simp
    with_reducible rfl
   rotate_left
   ·simp only [Act.put, sA_, sB_, sC_, i64_w, i32_w]
    rfl
   refine done_ (jc HT_.out (by kernel_rfl)) ?_
   try go_wp2
   go_ret
   exact ⟨by first | rfl | (simp [qv, qu] <;> rfl) | (simp [*, qv, qu] <;> rfl), be2_ HB GE228 GE229⟩
 ·rw [if_neg c3] at H
  have c3b0 : (a0_2 != a1_2) = false := by simpa using c3
  (try (have c3b1 : decide (a0_2 = a1_2) = true := by simpa using c3))
  (try (have c3b2 : (a0_2 == a1_2) = true := by simpa using c3))
  clear c3
  replace H := Option.bind_eq_some_iff.mp H
  obtain ⟨t242, A290, H⟩ := H
  replace H : ((cmp_Compare_int.f a0_1 a1_1).bind fun t243 => ((cmp_Or_int.f k (([t242, t243, 0] : List Int))).bind fun t247 => (some t247))) = some r := H
  have A29 := qb.mk A290
  clear A290
  replace H := Option.bind_eq_some_iff.mp H
  obtain ⟨t243, A300, H⟩ := H
  replace H : ((cmp_Or_int.f k (([t242, t243, 0] : List Int))).bind fun t247 => (some t247)) = some r := H
  have A30 := qb.mk A300
  clear A300
  obtain ⟨y244, hy244⟩ : ∃ y_ : List Int, y_ = (([t242, t243, 0] : List Int)) := ⟨_, rfl⟩
  replace H : ((cmp_Or_int.f k y244).bind fun t247 => (some t247)) = some r := by first | (rw [hy244]; with_reducible exact H) | (have H2_ := (Option.bind_some _ _).symm.trans H; rw [hy244]; with_reducible exact H2_) | (have H2_ := (Option.bind_some _ _).symm.trans H; with_reducible exact H2_) | with_reducible exact H | (rw [hy244]; exact H) | exact H
  have Ny244 := qb.mk hy244
  clear hy244
  replace H := Option.bind_eq_some_iff.mp H
  obtain ⟨t247, A310, H⟩ := H
  replace H : (some t247) = some r := H
  have A31 := qb.mk A310
  clear A310
  obtain rfl := Option.some.inj H
  go_enter Try.func67, Try.ntmps67
  try go_wp2_with (first | ((with_reducible refine qz (N := 2) rfl ?_); refine qx ?hg (N := 2) ?hd (cs := #[.int .i64 a0_0, .int .i64 a0_1, .bool a0_2]) (t := 58) ?hr ?_; (case hd => rfl); (case hg => rfl); (case hr => first | (go_simp; done) | (go_simp; rfl)); intro gb228 hg w32 hbox hb; have n0_ := qb.mk (qp (be0_ HB) hb); have n1_ := qb.mk (hbox); have n2_ := qb.mk ((by rw [hg]; exact (qm (be0_ HB)) : w.heap.size ≤ gb228)); have n3_ := qb.mk ((by rw [hg]; exact (qm (be0_ HB)) : w.heap.size ≤ gb228)); clear HB; have HB := n0_; have BK228 := n1_; have GW228 := n2_; have GE228 := n3_; clear n0_ n1_ n2_ n3_; clear hb hbox hg) | ((with_reducible refine qz (N := 3) rfl ?_); refine qx ?hg (N := 3) ?hd (cs := #[.int .i64 a1_0, .int .i64 a1_1, .bool a1_2]) (t := 58) ?hr ?_; (case hd => rfl); (case hg => rfl); (case hr => first | (go_simp; done) | (go_simp; rfl)); intro gb229 hg w33 hbox hb; have n0_ := qb.mk (qk (g := gb228) (o := .cells #[.int .i64 a0_0, .int .i64 a0_1, .bool a0_2] 58 (0, 0)) (bk_ BK228) hb); have n1_ := qb.mk (qp (be1_ HB GE228) hb); have n2_ := qb.mk (hbox); have n3_ := qb.mk ((by rw [hg]; exact (qm (be1_ HB GE228)) : w.heap.size ≤ gb229)); have n4_ := qb.mk ((by rw [hg]; exact (qm (be1_ HB GE228)) : w.heap.size ≤ gb229)); have n5_ := qb.mk ((by rw [hg]; exact Nat.ne_of_lt (qw (g := gb228) (o := .cells #[.int .i64 a0_0, .int .i64 a0_1, .bool a0_2] 58 (0, 0)) (bk_ BK228)) : gb228 ≠ gb229)); have n6_ := qb.mk ((by rw [hg]; exact Nat.ne_of_gt (qw (g := gb228) (o := .cells #[.int .i64 a0_0, .int .i64 a0_1, .bool a0_2] 58 (0, 0)) (bk_ BK228)) : gb229 ≠ gb228)); clear BK228; clear HB; have BK228 := n0_; have HB := n1_; have BK229 := n2_; have GW229 := n3_; have GE229 := n4_; have NB228_229 := n5_; have NB229_228 := n6_; clear n0_ n1_ n2_ n3_ n4_ n5_ n6_; clear hb hbox hg; have hnb34 := NB228_229.out; have hnc34 := NB229_228.out; have hcz35_0 : w33.cell? ⟨gb228, 0, none⟩ = some (.int .i64 a0_0) := (qf BK228.out 0).trans rfl; have hcz35_1 : w33.cell? ⟨gb228, 1, none⟩ = some (.int .i64 a0_1) := (qf BK228.out 1).trans rfl; have hcz35_2 : w33.cell? ⟨gb228, 2, none⟩ = some (.bool a0_2) := (qf BK228.out 2).trans rfl; have hfz35_0 := qj BK228.out 0; have hfz35_1 := qj BK228.out 1; have hfz35_2 := qj BK228.out 2; have hcz36_0 : w33.cell? ⟨gb229, 0, none⟩ = some (.int .i64 a1_0) := (qf BK229.out 0).trans rfl; have hcz36_1 : w33.cell? ⟨gb229, 1, none⟩ = some (.int .i64 a1_1) := (qf BK229.out 1).trans rfl; have hcz36_2 : w33.cell? ⟨gb229, 2, none⟩ = some (.bool a1_2) := (qf BK229.out 2).trans rfl; have hfz36_0 := qj BK229.out 0; have hfz36_1 := qj BK229.out 1; have hfz36_2 := qj BK229.out 2))
  have n0_ := qb.mk (qg BK228.out)
  have n1_ := qb.mk (qg BK229.out)
  have n2_ := qb.mk (qh HB.out)
  clear BK228
  clear BK229
  clear HB
  have BK228 := n0_
  have BK229 := n1_
  have HB := n2_
  clear n0_ n1_ n2_
  refine jd (n := 14) (S := fun w' => w'.cell? ⟨gb228, 0, none⟩ = some (.int .i64 a0_0) ∧ w'.cell? ⟨gb228, 1, none⟩ = some (.int .i64 a0_1) ∧ w'.cell? ⟨gb228, 2, none⟩ = some (.bool a0_2) ∧ w'.cell? ⟨gb229, 0, none⟩ = some (.int .i64 a1_0) ∧ w'.cell? ⟨gb229, 1, none⟩ = some (.int .i64 a1_1) ∧ w'.cell? ⟨gb229, 2, none⟩ = some (.bool a1_2)) (ds := []) #[false, false, false, false, false, false, false, false, false, false, false, false, false, false] (by kernel_rfl) rfl rfl ⟨(qf BK228.out 0).trans rfl, (qf BK228.out 1).trans rfl, (qf BK228.out 2).trans rfl, (qf BK229.out 0).trans rfl, (qf BK229.out 1).trans rfl, (qf BK229.out 2).trans rfl⟩ (fun hHeld => ?_); refine zx impl_compareBlocks.tab6 impl_compareBlocks.bits6 (fun HT_ HW_ => ?_)
  generalize w33.drew = w37 at BK228 BK229 HB hHeld ⊢
  refine pure_ (i := 0) (N := some 13) (v := ?_) (a' := ?_) #[true, false, false, false, false, false, false, false, false, false, false, false, false, false] rfl rfl (qt HT_.out (by kernel_rfl)) (fun _ _ _ h => h) (Or.inl ⟨by rfl, ?_⟩) ?_ ?_
  rotate_left
  ·intro w'
   go_simp
   with_reducible rfl
  rotate_left
  ·simp only [Act.put, sA_, sB_, sC_, i64_w, i32_w]
   rfl
  refine pure_ (i := 2) (N := some 15) (v := ?_) (a' := ?_) #[true, false, true, false, false, false, false, false, false, false, false, false, false, false] rfl rfl (qt HT_.out (by kernel_rfl)) (fun _ _ _ h => h) (Or.inl ⟨by rfl, ?_⟩) ?_ ?_
  rotate_left
  ·intro w'
   go_simp
   with_reducible rfl
  rotate_left
  ·simp only [Act.put, sA_, sB_, sC_, i64_w, i32_w]
   rfl
  refine pure_ (i := 5) (N := some 18) (v := ?_) (a' := ?_) #[true, false, true, false, false, true, false, false, false, false, false, false, false, false] rfl rfl (qt HT_.out (by kernel_rfl)) (fun _ _ _ h => h) (Or.inl ⟨by rfl, ?_⟩) ?_ ?_
  rotate_left
  ·intro w'
   go_simp
   with_reducible rfl
  rotate_left
  ·simp only [Act.put, sA_, sB_, sC_, i64_w, i32_w]
   rfl
  refine pure_ (i := 7) (N := some 20) (v := ?_) (a' := ?_) #[true, false, true, false, false, true, false, true, false, false, false, false, false, false] rfl rfl (qt HT_.out (by kernel_rfl)) (fun _ _ _ h => h) (Or.inl ⟨by rfl, ?_⟩) ?_ ?_
  rotate_left
  ·intro w'
   go_simp
   with_reducible rfl
  rotate_left
  ·simp only [Act.put, sA_, sB_, sC_, i64_w, i32_w]
   rfl
  refine pure_ (i := 10) (N := some 23) (v := ?_) (a' := ?_) #[true, false, true, false, false, true, false, true, false, false, true, false, false, false] rfl rfl (qt HT_.out (by kernel_rfl)) (fun _ _ _ h => h) (Or.inl ⟨by rfl, ?_⟩) ?_ ?_
  rotate_left
  ·intro w'
   go_simp
   with_reducible rfl
  rotate_left
  ·simp only [Act.put, sA_, sB_, sC_, i64_w, i32_w]
   rfl
  refine take_ (i := 1) (N := some 14) (v := ?_) (a' := ?_) #[true, true, true, false, false, true, false, true, false, false, true, false, false, false] rfl rfl (ze HT_.out HW_.out (by kernel_rfl)) (fun _ _ _ h => h) (Or.inl ⟨by rfl, ?_⟩) hHeld ?_ ?_
  rotate_left
  ·rintro w' ⟨s0, s1, s2, s3, s4, s5⟩
   go_simp
   with_reducible rfl
  rotate_left
  ·simp only [Act.put, sA_, sB_, sC_, i64_w, i32_w]
   rfl
  refine take_ (i := 3) (N := some 16) (v := ?_) (a' := ?_) #[true, true, true, true, false, true, false, true, false, false, true, false, false, false] rfl rfl (ze HT_.out HW_.out (by kernel_rfl)) (fun _ _ _ h => h) (Or.inl ⟨by rfl, ?_⟩) hHeld ?_ ?_
  rotate_left
  ·rintro w' ⟨s0, s1, s2, s3, s4, s5⟩
   go_simp
   with_reducible rfl
  rotate_left
  ·simp only [Act.put, sA_, sB_, sC_, i64_w, i32_w]
   rfl
  refine take_ (i := 6) (N := some 19) (v := ?_) (a' := ?_) #[true, true, true, true, false, true, true, true, false, false, true, false, false, false] rfl rfl (ze HT_.out HW_.out (by kernel_rfl)) (fun _ _ _ h => h) (Or.inl ⟨by rfl, ?_⟩) hHeld ?_ ?_
  rotate_left
  ·rintro w' ⟨s0, s1, s2, s3, s4, s5⟩
   go_simp
   with_reducible rfl
  rotate_left
  ·simp only [Act.put, sA_, sB_, sC_, i64_w, i32_w]
   rfl
  refine take_ (i := 8) (N := some 21) (v := ?_) (a' := ?_) #[true, true, true, true, false, true, true, true, true, false, true, false, false, false] rfl rfl (ze HT_.out HW_.out (by kernel_rfl)) (fun _ _ _ h => h) (Or.inl ⟨by rfl, ?_⟩) hHeld ?_ ?_
  rotate_left
  ·rintro w' ⟨s0, s1, s2, s3, s4, s5⟩
   go_simp
   with_reducible rfl
  rotate_left
  ·simp only [Act.put, sA_, sB_, sC_, i64_w, i32_w]
   rfl
  refine one_ (i := 4) (N := some 17) #[true, true, true, true, true, true, true, true, true, false, true, false, false, false] rfl rfl (zl HT_.out (by kernel_rfl)) (by decide) (fun K hK => ?_)
  refine goes_ Try.func81 (by kernel_rfl) rfl #[.int .i64 a0_0, .int .i64 a1_0] (by rfl) rfl rfl (by (try simp only [List.map_toArray, List.map_cons, List.map_nil]); first | done | rfl | (simp only [List.length_drop, List.length_take]; rfl)) ?_
  with_reducible refine (cmp_Compare_int.calls a0_0 a1_0 t242 _ A29.out).mono ?_
  rintro e w' ⟨rfl, ⟨nd, rfl⟩⟩
  refine ⟨_, rfl, ?_⟩
  refine hK.out _ _ ⟨(qf BK228.out 0).trans rfl, (qf BK228.out 1).trans rfl, (qf BK228.out 2).trans rfl, (qf BK229.out 0).trans rfl, (qf BK229.out 1).trans rfl, (qf BK229.out 2).trans rfl⟩ (fun hHeld => ?_)
  clear hK K
  refine norm_ (a' := ?_) ?_ ?_
  rotate_left
  ·show Act.put _ (some 17) _ = _
   simp only [Act.put, sA_, sB_, sC_, i64_w, i32_w]
   rfl
  refine one_ (i := 9) (N := some 22) #[true, true, true, true, true, true, true, true, true, true, true, false, false, false] rfl rfl (zl HT_.out (by kernel_rfl)) (by decide) (fun K hK => ?_)
  refine goes_ Try.func81 (by kernel_rfl) rfl #[.int .i64 a0_1, .int .i64 a1_1] (by rfl) rfl rfl (by (try simp only [List.map_toArray, List.map_cons, List.map_nil]); first | done | rfl | (simp only [List.length_drop, List.length_take]; rfl)) ?_
  with_reducible refine (cmp_Compare_int.calls a0_1 a1_1 t243 _ A30.out).mono ?_
  rintro e w' ⟨rfl, ⟨nd, rfl⟩⟩
  refine ⟨_, rfl, ?_⟩
  refine hK.out _ _ ⟨(qf BK228.out 0).trans rfl, (qf BK228.out 1).trans rfl, (qf BK228.out 2).trans rfl, (qf BK229.out 0).trans rfl, (qf BK229.out 1).trans rfl, (qf BK229.out 2).trans rfl⟩ (fun hHeld => ?_)
  clear hK K
  refine norm_ (a' := ?_) ?_ ?_
  rotate_left
  ·show Act.put _ (some 22) _ = _
   simp only [Act.put, sA_, sB_, sC_, i64_w, i32_w]
   rfl
  refine one_ (i := 11) (N := some 24) #[true, true, true, true, true, true, true, true, true, true, true, true, false, false] rfl rfl (zl HT_.out (by kernel_rfl)) (by decide) (fun K hK => ?_)
  refine Kd.R_lit_step (Kd.int .i64) _ 3 ?hg (N := 24) ?hd (xs := ([t242, t243, 0] : List Int)) (inner := [.int .i64 t242, .int .i64 t243, .int .i64 0]) (ok := fun _ => True) (okp := fun _ => True) ?hr ?hp (fun _ hk => hk) trivial (Below.refl _ _) (Nat.le_refl _) (by simp) ?_; (case hd => rfl); (case hg => rfl); (case hr => first | (go_simp; done) | (go_simp; rfl)); (case hp => exact (Reps.one (show Kd.M (Kd.int .i64) _ _ _ t242 [.int .i64 t242] from rfl) (Reps.one (show Kd.M (Kd.int .i64) _ _ _ t243 [.int .i64 t243] from rfl) (Reps.one (show Kd.M (Kd.int .i64) _ _ _ 0 [.int .i64 0] from rfl) (Reps.none _ _)))))
  intro v245 w38 ho39 hb hg_ hnew_
  clear hg_ hnew_
  (first | rw [← Ny244.out] at ho39 | (simp only [Int.reduceToNat] at ho39; rw [← Ny244.out] at ho39))
  have n0_ := qb.mk (Kd.zq ho39 (qm (be2_ HB GE228 GE229)))
  have n1_ := qb.mk (qk (g := gb228) (o := .cells #[.int .i64 a0_0, .int .i64 a0_1, .bool a0_2] 58 (0, 0)) (bk_ BK228) hb)
  have n2_ := qb.mk (qk (g := gb229) (o := .cells #[.int .i64 a1_0, .int .i64 a1_1, .bool a1_2] 58 (0, 0)) (bk_ BK229) hb)
  have n3_ := qb.mk (qp (be2_ HB GE228 GE229) hb)
  clear BK228
  clear BK229
  clear HB
  have HO246 := n0_
  have BK228 := n1_
  have BK229 := n2_
  have HB := n3_
  clear n0_ n1_ n2_ n3_
  clear hb ho39
  obtain ⟨Ao40, co40, eo40⟩ := Kd.zy HO246.out
  (first | subst eo40 | (injection eo40 with f1_ f2_ f3_; have f4_ := f1_.symm; have f5_ := f3_.symm; clear f1_ f2_ f3_; subst f4_; subst f5_))
  refine hK.out _ _ ⟨(qf BK228.out 0).trans rfl, (qf BK228.out 1).trans rfl, (qf BK228.out 2).trans rfl, (qf BK229.out 0).trans rfl, (qf BK229.out 1).trans rfl, (qf BK229.out 2).trans rfl⟩ (fun hHeld => ?_)
  clear hK K
  refine norm_ (a' := ?_) ?_ ?_
  rotate_left
  ·show Act.put _ (some 24) _ = _
   simp only [Act.put, sA_, sB_, sC_, i64_w, i32_w]
   rfl
  refine one_ (i := 12) (N := some 25) #[true, true, true, true, true, true, true, true, true, true, true, true, true, false] rfl rfl (zl HT_.out (by kernel_rfl)) (by decide) (fun K hK => ?_)
  refine goes_ Try.func80 (by kernel_rfl) rfl #[.slice Ao40 y244.length co40] (by rfl) rfl rfl (by (try simp only [List.map_toArray, List.map_cons, List.map_nil]); first | done | rfl | (simp only [List.length_drop, List.length_take]; rfl)) ?_
  with_reducible refine (cmp_Or_int.calls k _ _ y244 t247 _ ?side1 ?side2 A31.out).mono ?_
  (case side1 => repeat (first | exact (Kd.za HO246.out).2.2 | (with_reducible refine Kd.zg ?_ _) | (with_reducible refine Kd.zh ?_ _) | (with_reducible refine Kd.zk ?_)))
  (case side2 => exact (Kd.za HO246.out).2.1)
  rintro e w' ⟨rfl, ⟨nd, rfl⟩⟩
  refine ⟨_, rfl, ?_⟩
  refine hK.out _ _ ⟨(qf BK228.out 0).trans rfl, (qf BK228.out 1).trans rfl, (qf BK228.out 2).trans rfl, (qf BK229.out 0).trans rfl, (qf BK229.out 1).trans rfl, (qf BK229.out 2).trans rfl⟩ (fun hHeld => ?_)
  clear hK K
  refine norm_ (a' := ?_) ?_ ?_
  rotate_left
  ·show Act.put _ (some 25) _ = _
   simp only [Act.put, sA_, sB_, sC_, i64_w, i32_w]
   rfl
  refine pure_ (i := 13) (N := some 4) (v := ?_) (a' := ?_) #[true, true, true, true, true, true, true, true, true, true, true, true, true, true] rfl rfl (qt HT_.out (by kernel_rfl)) (fun _ _ _ h => h) (Or.inl ⟨by rfl, ?_⟩) ?_ ?_
  rotate_left
  ·intro w'
   go_simp
   with_reducible rfl
  rotate_left
  ·simp only [Act.put, sA_, sB_, sC_, i64_w, i32_w]
   rfl
  refine done_ (jc HT_.out (by kernel_rfl)) ?_
  try go_wp2
  go_ret
  exact ⟨by first | rfl | (simp [qv, qu] <;> rfl) | (simp [*, qv, qu] <;> rfl), be2_ HB GE228 GE229⟩
def impl_isBlock.f (a0_0 : Int) (a0_1 : Int) (l0_2 : List (S58)) (a1_0 : Int) (a1_1 : Int) (a1_2 : Bool) : Option (Bool) := if a1_2 = true then ((impl_within.f a1_0 0 (wrap64 (a0_0 - 1))).bind fun t250 => (if t250 = true then ((impl_within.f a1_1 0 (wrap64 (a0_1 - 2))).bind fun t251 => (some t251)) else (some false))) else ((impl_within.f a1_0 0 (wrap64 (a0_0 - 2))).bind fun t252 => (if t252 = true then ((impl_within.f a1_1 0 (wrap64 (a0_1 - 1))).bind fun t253 => (some t253)) else (some false)))
set_option maxHeartbeats 8000000 in
set_option maxRecDepth 100000 in
theorem impl_isBlock.calls (a0_0 : Int) (a0_1 : Int) (A0_2 : Option Addr) (c0_2 : Nat) (l0_2 : List (S58)) (a1_0 : Int) (a1_1 : Int) (a1_2 : Bool) (r : Bool) (w : World) (hr0_2 : Kd.C k58 w A0_2 l0_2.length l0_2) (hc0_2 : l0_2.length ≤ c0_2) (h : impl_isBlock.f a0_0 a0_1 l0_2 a1_0 a1_1 a1_2 = some r) :
  Calls Try.prog 68 #[.agg #[.int .i64 a0_0, .int .i64 a0_1, .slice A0_2 l0_2.length c0_2], .agg #[.int .i64 a1_0, .int .i64 a1_1, .bool a1_2]] w fun e w' => e = .returned (.bool r) ∧ Below w.heap.size w w' := by
 have hu31 := Try.underlying31
 have hu58 := Try.underlying58
 have HR0_2 := qb.mk hr0_2
 have HC0_2 := qb.mk hc0_2
 clear hr0_2 hc0_2
 have HB := qb.mk (Below.refl w.heap.size w)
 have H : (if a1_2 = true then ((impl_within.f a1_0 0 (wrap64 (a0_0 - 1))).bind fun t250 => (if t250 = true then ((impl_within.f a1_1 0 (wrap64 (a0_1 - 2))).bind fun t251 => (some t251)) else (some false))) else ((impl_within.f a1_0 0 (wrap64 (a0_0 - 2))).bind fun t252 => (if t252 = true then ((impl_within.f a1_1 0 (wrap64 (a0_1 - 1))).bind fun t253 => (some t253)) else (some false)))) = some r := h
 clear h
 by_cases c3 : a1_2 = true
 ·subst c3
  have H1 : ((impl_within.f a1_0 0 (wrap64 (a0_0 - 1))).bind fun t250 => (if t250 = true then ((impl_within.f a1_1 0 (wrap64 (a0_1 - 2))).bind fun t251 => (some t251)) else (some false))) = some r := by rw [if_pos rfl] at H; exact H
  clear H
  have H := H1
  clear H1
  replace H := Option.bind_eq_some_iff.mp H
  obtain ⟨t250, A40, H⟩ := H
  replace H : (if t250 = true then ((impl_within.f a1_1 0 (wrap64 (a0_1 - 2))).bind fun t251 => (some t251)) else (some false)) = some r := H
  have A4 := qb.mk A40
  clear A40
  by_cases c5 : t250 = true
  ·subst c5
   have H1 : ((impl_within.f a1_1 0 (wrap64 (a0_1 - 2))).bind fun t251 => (some t251)) = some r := by rw [if_pos rfl] at H; exact H
   clear H
   have H := H1
   clear H1
   replace H := Option.bind_eq_some_iff.mp H
   obtain ⟨t251, A60, H⟩ := H
   replace H : (some t251) = some r := H
   have A6 := qb.mk A60
   clear A60
   obtain rfl := Option.some.inj H
   go_enter Try.func68, Try.ntmps68
   go_wp2_with (first | ((with_reducible refine qz (N := 2) rfl ?_); refine qx ?hg (N := 2) ?hd (cs := #[.int .i64 a0_0, .int .i64 a0_1, .slice A0_2 l0_2.length c0_2]) (t := 31) ?hr ?_; (case hd => rfl); (case hg => rfl); (case hr => first | (go_simp; done) | (go_simp; rfl)); intro gb248 hg w7 hbox hb; have n0_ := qb.mk (qp (be0_ HB) hb); have n1_ := qb.mk (hbox); have n2_ := qb.mk ((by rw [hg]; exact (qm (be0_ HB)) : w.heap.size ≤ gb248)); have n3_ := qb.mk ((by rw [hg]; exact (qm (be0_ HB)) : w.heap.size ≤ gb248)); clear HB; have HB := n0_; have BK248 := n1_; have GW248 := n2_; have GE248 := n3_; clear n0_ n1_ n2_ n3_; clear hb hbox hg) | ((with_reducible refine qz (N := 3) rfl ?_); refine qx ?hg (N := 3) ?hd (cs := #[.int .i64 a1_0, .int .i64 a1_1, .bool true]) (t := 58) ?hr ?_; (case hd => rfl); (case hg => rfl); (case hr => first | (go_simp; done) | (go_simp; rfl)); intro gb249 hg w8 hbox hb; have n0_ := qb.mk (qk (g := gb248) (o := .cells #[.int .i64 a0_0, .int .i64 a0_1, .slice A0_2 l0_2.length c0_2] 31 (0, 0)) (bk_ BK248) hb); have n1_ := qb.mk (qp (be1_ HB GE248) hb); have n2_ := qb.mk (hbox); have n3_ := qb.mk ((by rw [hg]; exact (qm (be1_ HB GE248)) : w.heap.size ≤ gb249)); have n4_ := qb.mk ((by rw [hg]; exact (qm (be1_ HB GE248)) : w.heap.size ≤ gb249)); have n5_ := qb.mk ((by rw [hg]; exact Nat.ne_of_lt (qw (g := gb248) (o := .cells #[.int .i64 a0_0, .int .i64 a0_1, .slice A0_2 l0_2.length c0_2] 31 (0, 0)) (bk_ BK248)) : gb248 ≠ gb249)); have n6_ := qb.mk ((by rw [hg]; exact Nat.ne_of_gt (qw (g := gb248) (o := .cells #[.int .i64 a0_0, .int .i64 a0_1, .slice A0_2 l0_2.length c0_2] 31 (0, 0)) (bk_ BK248)) : gb249 ≠ gb248)); clear BK248; clear HB; have BK248 := n0_; have HB := n1_; have BK249 := n2_; have GW249 := n3_; have GE249 := n4_; have NB248_249 := n5_; have NB249_248 := n6_; clear n0_ n1_ n2_ n3_ n4_ n5_ n6_; clear hb hbox hg; have hnb9 := NB249_248.out; have hnc9 := NB248_249.out; have hcz10_0 : w8.cell? ⟨gb249, 0, none⟩ = some (.int .i64 a1_0) := (qf BK249.out 0).trans rfl; have hcz10_1 : w8.cell? ⟨gb249, 1, none⟩ = some (.int .i64 a1_1) := (qf BK249.out 1).trans rfl; have hcz10_2 : w8.cell? ⟨gb249, 2, none⟩ = some (.bool true) := (qf BK249.out 2).trans rfl; have hfz10_0 := qj BK249.out 0; have hfz10_1 := qj BK249.out 1; have hfz10_2 := qj BK249.out 2; have hcz11_0 : w8.cell? ⟨gb248, 0, none⟩ = some (.int .i64 a0_0) := (qf BK248.out 0).trans rfl; have hcz11_1 : w8.cell? ⟨gb248, 1, none⟩ = some (.int .i64 a0_1) := (qf BK248.out 1).trans rfl; have hcz11_2 : w8.cell? ⟨gb248, 2, none⟩ = some (.slice A0_2 l0_2.length c0_2) := (qf BK248.out 2).trans rfl; have hfz11_0 := qj BK248.out 0; have hfz11_1 := qj BK248.out 1; have hfz11_2 := qj BK248.out 2) | ((with_reducible refine zd (f := 61) rfl ?_); refine zn (some 12) rfl rfl Try.func61 (by kernel_rfl) rfl #[.int .i64 a1_0, .int .i64 0, .int .i64 (wrap64 (a0_0 - 1))] rfl (by (try simp only [List.map_toArray, List.map_cons, List.map_nil]); first | done | rfl | (simp only [List.length_drop, List.length_take]; rfl)) ?_; (with_reducible refine (impl_within.calls a1_0 0 (wrap64 (a0_0 - 1)) true _ A4.out).mono ?_); rintro e w' ⟨rfl, ⟨nd, rfl⟩⟩; refine ⟨_, rfl, ?_⟩) | (go_at_call 61; (with_reducible refine (impl_within.calls a1_1 0 (wrap64 (a0_1 - 2)) t251 _ A6.out).mono ?_); rintro e w' ⟨rfl, ⟨nd, rfl⟩⟩))
   go_ret
   exact ⟨by first | rfl | (simp [qv, qu] <;> rfl) | (simp [*, qv, qu] <;> rfl), be2_ HB GE248 GE249⟩
  ·replace c5 := Bool.eq_false_iff.mpr c5
   subst c5
   have H1 : (some false) = some r := by rw [if_neg (show ¬ (false = true) by decide)] at H; exact H
   clear H
   have H := H1
   clear H1
   obtain rfl := Option.some.inj H
   go_enter Try.func68, Try.ntmps68
   go_wp2_with (first | ((with_reducible refine qz (N := 2) rfl ?_); refine qx ?hg (N := 2) ?hd (cs := #[.int .i64 a0_0, .int .i64 a0_1, .slice A0_2 l0_2.length c0_2]) (t := 31) ?hr ?_; (case hd => rfl); (case hg => rfl); (case hr => first | (go_simp; done) | (go_simp; rfl)); intro gb248 hg w12 hbox hb; have n0_ := qb.mk (qp (be0_ HB) hb); have n1_ := qb.mk (hbox); have n2_ := qb.mk ((by rw [hg]; exact (qm (be0_ HB)) : w.heap.size ≤ gb248)); have n3_ := qb.mk ((by rw [hg]; exact (qm (be0_ HB)) : w.heap.size ≤ gb248)); clear HB; have HB := n0_; have BK248 := n1_; have GW248 := n2_; have GE248 := n3_; clear n0_ n1_ n2_ n3_; clear hb hbox hg) | ((with_reducible refine qz (N := 3) rfl ?_); refine qx ?hg (N := 3) ?hd (cs := #[.int .i64 a1_0, .int .i64 a1_1, .bool true]) (t := 58) ?hr ?_; (case hd => rfl); (case hg => rfl); (case hr => first | (go_simp; done) | (go_simp; rfl)); intro gb249 hg w13 hbox hb; have n0_ := qb.mk (qk (g := gb248) (o := .cells #[.int .i64 a0_0, .int .i64 a0_1, .slice A0_2 l0_2.length c0_2] 31 (0, 0)) (bk_ BK248) hb); have n1_ := qb.mk (qp (be1_ HB GE248) hb); have n2_ := qb.mk (hbox); have n3_ := qb.mk ((by rw [hg]; exact (qm (be1_ HB GE248)) : w.heap.size ≤ gb249)); have n4_ := qb.mk ((by rw [hg]; exact (qm (be1_ HB GE248)) : w.heap.size ≤ gb249)); have n5_ := qb.mk ((by rw [hg]; exact Nat.ne_of_lt (qw (g := gb248) (o := .cells #[.int .i64 a0_0, .int .i64 a0_1, .slice A0_2 l0_2.length c0_2] 31 (0, 0)) (bk_ BK248)) : gb248 ≠ gb249)); have n6_ := qb.mk ((by rw [hg]; exact Nat.ne_of_gt (qw (g := gb248) (o := .cells #[.int .i64 a0_0, .int .i64 a0_1, .slice A0_2 l0_2.length c0_2] 31 (0, 0)) (bk_ BK248)) : gb249 ≠ gb248)); clear BK248; clear HB; have BK248 := n0_; have HB := n1_; have BK249 := n2_; have GW249 := n3_; have GE249 := n4_; have NB248_249 := n5_; have NB249_248 := n6_; clear n0_ n1_ n2_ n3_ n4_ n5_ n6_; clear hb hbox hg; have hnb14 := NB249_248.out; have hnc14 := NB248_249.out; have hcz15_0 : w13.cell? ⟨gb249, 0, none⟩ = some (.int .i64 a1_0) := (qf BK249.out 0).trans rfl; have hcz15_1 : w13.cell? ⟨gb249, 1, none⟩ = some (.int .i64 a1_1) := (qf BK249.out 1).trans rfl; have hcz15_2 : w13.cell? ⟨gb249, 2, none⟩ = some (.bool true) := (qf BK249.out 2).trans rfl; have hfz15_0 := qj BK249.out 0; have hfz15_1 := qj BK249.out 1; have hfz15_2 := qj BK249.out 2; have hcz16_0 : w13.cell? ⟨gb248, 0, none⟩ = some (.int .i64 a0_0) := (qf BK248.out 0).trans rfl; have hcz16_1 : w13.cell? ⟨gb248, 1, none⟩ = some (.int .i64 a0_1) := (qf BK248.out 1).trans rfl; have hcz16_2 : w13.cell? ⟨gb248, 2, none⟩ = some (.slice A0_2 l0_2.length c0_2) := (qf BK248.out 2).trans rfl; have hfz16_0 := qj BK248.out 0; have hfz16_1 := qj BK248.out 1; have hfz16_2 := qj BK248.out 2) | ((with_reducible refine zd (f := 61) rfl ?_); refine zn (some 12) rfl rfl Try.func61 (by kernel_rfl) rfl #[.int .i64 a1_0, .int .i64 0, .int .i64 (wrap64 (a0_0 - 1))] rfl (by (try simp only [List.map_toArray, List.map_cons, List.map_nil]); first | done | rfl | (simp only [List.length_drop, List.length_take]; rfl)) ?_; (with_reducible refine (impl_within.calls a1_0 0 (wrap64 (a0_0 - 1)) false _ A4.out).mono ?_); rintro e w' ⟨rfl, ⟨nd, rfl⟩⟩; refine ⟨_, rfl, ?_⟩))
   go_ret
   exact ⟨by first | rfl | (simp [qv, qu] <;> rfl) | (simp [*, qv, qu] <;> rfl), be2_ HB GE248 GE249⟩
 ·replace c3 := Bool.eq_false_iff.mpr c3
  subst c3
  have H1 : ((impl_within.f a1_0 0 (wrap64 (a0_0 - 2))).bind fun t252 => (if t252 = true then ((impl_within.f a1_1 0 (wrap64 (a0_1 - 1))).bind fun t253 => (some t253)) else (some false))) = some r := by rw [if_neg (show ¬ (false = true) by decide)] at H; exact H
  clear H
  have H := H1
  clear H1
  replace H := Option.bind_eq_some_iff.mp H
  obtain ⟨t252, A170, H⟩ := H
  replace H : (if t252 = true then ((impl_within.f a1_1 0 (wrap64 (a0_1 - 1))).bind fun t253 => (some t253)) else (some false)) = some r := H
  have A17 := qb.mk A170
  clear A170
  by_cases c18 : t252 = true
  ·subst c18
   have H1 : ((impl_within.f a1_1 0 (wrap64 (a0_1 - 1))).bind fun t253 => (some t253)) = some r := by rw [if_pos rfl] at H; exact H
   clear H
   have H := H1
   clear H1
   replace H := Option.bind_eq_some_iff.mp H
   obtain ⟨t253, A190, H⟩ := H
   replace H : (some t253) = some r := H
   have A19 := qb.mk A190
   clear A190
   obtain rfl := Option.some.inj H
   go_enter Try.func68, Try.ntmps68
   go_wp2_with (first | ((with_reducible refine qz (N := 2) rfl ?_); refine qx ?hg (N := 2) ?hd (cs := #[.int .i64 a0_0, .int .i64 a0_1, .slice A0_2 l0_2.length c0_2]) (t := 31) ?hr ?_; (case hd => rfl); (case hg => rfl); (case hr => first | (go_simp; done) | (go_simp; rfl)); intro gb248 hg w20 hbox hb; have n0_ := qb.mk (qp (be0_ HB) hb); have n1_ := qb.mk (hbox); have n2_ := qb.mk ((by rw [hg]; exact (qm (be0_ HB)) : w.heap.size ≤ gb248)); have n3_ := qb.mk ((by rw [hg]; exact (qm (be0_ HB)) : w.heap.size ≤ gb248)); clear HB; have HB := n0_; have BK248 := n1_; have GW248 := n2_; have GE248 := n3_; clear n0_ n1_ n2_ n3_; clear hb hbox hg) | ((with_reducible refine qz (N := 3) rfl ?_); refine qx ?hg (N := 3) ?hd (cs := #[.int .i64 a1_0, .int .i64 a1_1, .bool false]) (t := 58) ?hr ?_; (case hd => rfl); (case hg => rfl); (case hr => first | (go_simp; done) | (go_simp; rfl)); intro gb249 hg w21 hbox hb; have n0_ := qb.mk (qk (g := gb248) (o := .cells #[.int .i64 a0_0, .int .i64 a0_1, .slice A0_2 l0_2.length c0_2] 31 (0, 0)) (bk_ BK248) hb); have n1_ := qb.mk (qp (be1_ HB GE248) hb); have n2_ := qb.mk (hbox); have n3_ := qb.mk ((by rw [hg]; exact (qm (be1_ HB GE248)) : w.heap.size ≤ gb249)); have n4_ := qb.mk ((by rw [hg]; exact (qm (be1_ HB GE248)) : w.heap.size ≤ gb249)); have n5_ := qb.mk ((by rw [hg]; exact Nat.ne_of_lt (qw (g := gb248) (o := .cells #[.int .i64 a0_0, .int .i64 a0_1, .slice A0_2 l0_2.length c0_2] 31 (0, 0)) (bk_ BK248)) : gb248 ≠ gb249)); have n6_ := qb.mk ((by rw [hg]; exact Nat.ne_of_gt (qw (g := gb248) (o := .cells #[.int .i64 a0_0, .int .i64 a0_1, .slice A0_2 l0_2.length c0_2] 31 (0, 0)) (bk_ BK248)) : gb249 ≠ gb248)); clear BK248; clear HB; have BK248 := n0_; have HB := n1_; have BK249 := n2_; have GW249 := n3_; have GE249 := n4_; have NB248_249 := n5_; have NB249_248 := n6_; clear n0_ n1_ n2_ n3_ n4_ n5_ n6_; clear hb hbox hg; have hnb22 := NB249_248.out; have hnc22 := NB248_249.out; have hcz23_0 : w21.cell? ⟨gb249, 0, none⟩ = some (.int .i64 a1_0) := (qf BK249.out 0).trans rfl; have hcz23_1 : w21.cell? ⟨gb249, 1, none⟩ = some (.int .i64 a1_1) := (qf BK249.out 1).trans rfl; have hcz23_2 : w21.cell? ⟨gb249, 2, none⟩ = some (.bool false) := (qf BK249.out 2).trans rfl; have hfz23_0 := qj BK249.out 0; have hfz23_1 := qj BK249.out 1; have hfz23_2 := qj BK249.out 2; have hcz24_0 : w21.cell? ⟨gb248, 0, none⟩ = some (.int .i64 a0_0) := (qf BK248.out 0).trans rfl; have hcz24_1 : w21.cell? ⟨gb248, 1, none⟩ = some (.int .i64 a0_1) := (qf BK248.out 1).trans rfl; have hcz24_2 : w21.cell? ⟨gb248, 2, none⟩ = some (.slice A0_2 l0_2.length c0_2) := (qf BK248.out 2).trans rfl; have hfz24_0 := qj BK248.out 0; have hfz24_1 := qj BK248.out 1; have hfz24_2 := qj BK248.out 2) | ((with_reducible refine zd (f := 61) rfl ?_); refine zn (some 26) rfl rfl Try.func61 (by kernel_rfl) rfl #[.int .i64 a1_0, .int .i64 0, .int .i64 (wrap64 (a0_0 - 2))] rfl (by (try simp only [List.map_toArray, List.map_cons, List.map_nil]); first | done | rfl | (simp only [List.length_drop, List.length_take]; rfl)) ?_; (with_reducible refine (impl_within.calls a1_0 0 (wrap64 (a0_0 - 2)) true _ A17.out).mono ?_); rintro e w' ⟨rfl, ⟨nd, rfl⟩⟩; refine ⟨_, rfl, ?_⟩) | (go_at_call 61; (with_reducible refine (impl_within.calls a1_1 0 (wrap64 (a0_1 - 1)) t253 _ A19.out).mono ?_); rintro e w' ⟨rfl, ⟨nd, rfl⟩⟩))
   go_ret
   exact ⟨by first | rfl | (simp [qv, qu] <;> rfl) | (simp [*, qv, qu] <;> rfl), be2_ HB GE248 GE249⟩
  ·replace c18 := Bool.eq_false_iff.mpr c18
   subst c18
   have H1 : (some false) = some r := by rw [if_neg (show ¬ (false = true) by decide)] at H; exact H
   clear H
   have H := H1
   clear H1
   obtain rfl := Option.some.inj H
   go_enter Try.func68, Try.ntmps68
   go_wp2_with (first | ((with_reducible refine qz (N := 2) rfl ?_); refine qx ?hg (N := 2) ?hd (cs := #[.int .i64 a0_0, .int .i64 a0_1, .slice A0_2 l0_2.length c0_2]) (t := 31) ?hr ?_; (case hd => rfl); (case hg => rfl); (case hr => first | (go_simp; done) | (go_simp; rfl)); intro gb248 hg w25 hbox hb; have n0_ := qb.mk (qp (be0_ HB) hb); have n1_ := qb.mk (hbox); have n2_ := qb.mk ((by rw [hg]; exact (qm (be0_ HB)) : w.heap.size ≤ gb248)); have n3_ := qb.mk ((by rw [hg]; exact (qm (be0_ HB)) : w.heap.size ≤ gb248)); clear HB; have HB := n0_; have BK248 := n1_; have GW248 := n2_; have GE248 := n3_; clear n0_ n1_ n2_ n3_; clear hb hbox hg) | ((with_reducible refine qz (N := 3) rfl ?_); refine qx ?hg (N := 3) ?hd (cs := #[.int .i64 a1_0, .int .i64 a1_1, .bool false]) (t := 58) ?hr ?_; (case hd => rfl); (case hg => rfl); (case hr => first | (go_simp; done) | (go_simp; rfl)); intro gb249 hg w26 hbox hb; have n0_ := qb.mk (qk (g := gb248) (o := .cells #[.int .i64 a0_0, .int .i64 a0_1, .slice A0_2 l0_2.length c0_2] 31 (0, 0)) (bk_ BK248) hb); have n1_ := qb.mk (qp (be1_ HB GE248) hb); have n2_ := qb.mk (hbox); have n3_ := qb.mk ((by rw [hg]; exact (qm (be1_ HB GE248)) : w.heap.size ≤ gb249)); have n4_ := qb.mk ((by rw [hg]; exact (qm (be1_ HB GE248)) : w.heap.size ≤ gb249)); have n5_ := qb.mk ((by rw [hg]; exact Nat.ne_of_lt (qw (g := gb248) (o := .cells #[.int .i64 a0_0, .int .i64 a0_1, .slice A0_2 l0_2.length c0_2] 31 (0, 0)) (bk_ BK248)) : gb248 ≠ gb249)); have n6_ := qb.mk ((by rw [hg]; exact Nat.ne_of_gt (qw (g := gb248) (o := .cells #[.int .i64 a0_0, .int .i64 a0_1, .slice A0_2 l0_2.length c0_2] 31 (0, 0)) (bk_ BK248)) : gb249 ≠ gb248)); clear BK248; clear HB; have BK248 := n0_; have HB := n1_; have BK249 := n2_; have GW249 := n3_; have GE249 := n4_; have NB248_249 := n5_; have NB249_248 := n6_; clear n0_ n1_ n2_ n3_ n4_ n5_ n6_; clear hb hbox hg; have hnb27 := NB249_248.out; have hnc27 := NB248_249.out; have hcz28_0 : w26.cell? ⟨gb249, 0, none⟩ = some (.int .i64 a1_0) := (qf BK249.out 0).trans rfl; have hcz28_1 : w26.cell? ⟨gb249, 1, none⟩ = some (.int .i64 a1_1) := (qf BK249.out 1).trans rfl; have hcz28_2 : w26.cell? ⟨gb249, 2, none⟩ = some (.bool false) := (qf BK249.out 2).trans rfl; have hfz28_0 := qj BK249.out 0; have hfz28_1 := qj BK249.out 1; have hfz28_2 := qj BK249.out 2; have hcz29_0 : w26.cell? ⟨gb248, 0, none⟩ = some (.int .i64 a0_0) := (qf BK248.out 0).trans rfl; have hcz29_1 : w26.cell? ⟨gb248, 1, none⟩ = some (.int .i64 a0_1) := (qf BK248.out 1).trans rfl; have hcz29_2 : w26.cell? ⟨gb248, 2, none⟩ = some (.slice A0_2 l0_2.length c0_2) := (qf BK248.out 2).trans rfl; have hfz29_0 := qj BK248.out 0; have hfz29_1 := qj BK248.out 1; have hfz29_2 := qj BK248.out 2) | ((with_reducible refine zd (f := 61) rfl ?_); refine zn (some 26) rfl rfl Try.func61 (by kernel_rfl) rfl #[.int .i64 a1_0, .int .i64 0, .int .i64 (wrap64 (a0_0 - 2))] rfl (by (try simp only [List.map_toArray, List.map_cons, List.map_nil]); first | done | rfl | (simp only [List.length_drop, List.length_take]; rfl)) ?_; (with_reducible refine (impl_within.calls a1_0 0 (wrap64 (a0_0 - 2)) false _ A17.out).mono ?_); rintro e w' ⟨rfl, ⟨nd, rfl⟩⟩; refine ⟨_, rfl, ?_⟩))
   go_ret
   exact ⟨by first | rfl | (simp [qv, qu] <;> rfl) | (simp [*, qv, qu] <;> rfl), be2_ HB GE248 GE249⟩
end Go.Proofs.Ytpedofomfhmnfaa.PFnExactCloseBlock
