/- Cut by wip/cut.py out of the texts of this claim (printed by the kit's printer, or this session's own): what the row's theorem does not reach is struck. Not trusted: Lean checks it. -/
import Derived.Test.YtbnbdaommbnecacDoorZFnExactParseCityPx0
import Derived.Test.YtbnbdaommbnecacDoorZFnExactParseCityPx7
namespace Go.Proofs.YtbnbdaommbnecacDoor.PFnExactParseCity
open Go.RowKit Go.Proofs.YtbnbdaommbnecacDoorW.PrintWords Go.Proofs.YtbnbdaommbnecacDoorW.PrintLast Go.Proofs.YtbnbdaommbnecacDoorW.PrintMore
attribute [local go_sem] max2_int min2_int max_two min_two max_three min_three max_four min_four
set_option linter.unusedVariables false
set_option linter.unusedSimpArgs false
def impl_compareBlocks.f (k : Nat) (a0_0 : Int) (a0_1 : Int) (a0_2 : Bool) (a1_0 : Int) (a1_1 : Int) (a1_2 : Bool) : Option (Int) := if (a0_2 != a1_2) = true then (if a1_2 = true then ((cmp_Compare_int.f a0_0 a1_0).bind fun t191 => ((cmp_Compare_int.f a0_1 a1_1).bind fun t192 => ((cmp_Or_int.f k (([t191, t192, (-1)] : List Int))).bind fun t196 => (some t196)))) else ((cmp_Compare_int.f a0_0 a1_0).bind fun t197 => ((cmp_Compare_int.f a0_1 a1_1).bind fun t198 => ((cmp_Or_int.f k (([t197, t198, 1] : List Int))).bind fun t202 => (some t202))))) else ((cmp_Compare_int.f a0_0 a1_0).bind fun t203 => ((cmp_Compare_int.f a0_1 a1_1).bind fun t204 => ((cmp_Or_int.f k (([t203, t204, 0] : List Int))).bind fun t208 => (some t208))))
theorem impl_compareBlocks.mono : ∀ a0 a1 a2 a3 a4 a5 k, LeO (impl_compareBlocks.f k a0 a1 a2 a3 a4 a5) (impl_compareBlocks.f (k + 1) a0 a1 a2 a3 a4 a5) := by
 intro a0 a1 a2 a3 a4 a5 k
 unfold impl_compareBlocks.f
 repeat' first | (with_reducible first | exact cmp_Or_int.mono _ _ | exact LeO.refl _ | exact LeO.none _ | refine LeO.ite ?_ ?_ | refine LeO.bind ?_ (fun _ => ?_)) | exact cmp_Or_int.mono _ _ | exact LeO.none _ | refine LeO.ite ?_ ?_ | refine LeO.bind ?_ (fun _ => ?_)
def impl_compareBlocks.T6 : Bool × List (List Nat × List Nat) := (true, [([], []), ([0], [0]), ([], []), ([2], [2]), ([1, 3], [1, 3]), ([], []), ([5], [5]), ([], []), ([7], [7]), ([6, 8, 4], [6, 8]), ([], []), ([4, 9, 10], [4, 9, 10]), ([11, 9], [11]), ([12, 12, 0, 1, 2, 3, 4, 5, 6, 7, 8, 9, 10, 11, 12], [12])])
def impl_compareBlocks.B6 : List Nat := [0, 1, 0, 4, 15, 0, 32, 0, 128, 511, 0, 2047, 4095, 8191]
theorem impl_compareBlocks.tab6 : rtab .any (opsOf Tryd.f29 6) = impl_compareBlocks.T6 := by kernel_rfl
theorem impl_compareBlocks.bits6 : waitsOk impl_compareBlocks.T6.2 impl_compareBlocks.B6 = true := by kernel_rfl
set_option maxHeartbeats 8000000 in
set_option maxRecDepth 100000 in
theorem impl_compareBlocks.calls (k : Nat) (a0_0 : Int) (a0_1 : Int) (a0_2 : Bool) (a1_0 : Int) (a1_1 : Int) (a1_2 : Bool) (r : Int) (w : World) (h : impl_compareBlocks.f k a0_0 a0_1 a0_2 a1_0 a1_1 a1_2 = some r) :
  Calls Tryd.prog 29 #[.agg #[.int .i64 a0_0, .int .i64 a0_1, .bool a0_2], .agg #[.int .i64 a1_0, .int .i64 a1_1, .bool a1_2]] w fun e w' => e = .returned (.int .i64 r) ∧ Below w.heap.size w w' := by
 have hu39 := Tryd.underlying39
 have HB := qb.mk (Below.refl w.heap.size w)
 have H : (if (a0_2 != a1_2) = true then (if a1_2 = true then ((cmp_Compare_int.f a0_0 a1_0).bind fun t191 => ((cmp_Compare_int.f a0_1 a1_1).bind fun t192 => ((cmp_Or_int.f k (([t191, t192, (-1)] : List Int))).bind fun t196 => (some t196)))) else ((cmp_Compare_int.f a0_0 a1_0).bind fun t197 => ((cmp_Compare_int.f a0_1 a1_1).bind fun t198 => ((cmp_Or_int.f k (([t197, t198, 1] : List Int))).bind fun t202 => (some t202))))) else ((cmp_Compare_int.f a0_0 a1_0).bind fun t203 => ((cmp_Compare_int.f a0_1 a1_1).bind fun t204 => ((cmp_Or_int.f k (([t203, t204, 0] : List Int))).bind fun t208 => (some t208))))) = some r := h
 clear h
 by_cases c3 : (a0_2 != a1_2) = true
 ·rw [if_pos c3] at H
  have c3b0 : (a0_2 != a1_2) = true := c3
  (try (have c3b1 : decide (a0_2 = a1_2) = false := by simpa using c3))
  (try (have c3b2 : (a0_2 == a1_2) = false := by simpa using c3))
  (try (have c3b3 : ¬ (a0_2 = a1_2) := by simpa using c3))
  clear c3
  by_cases c4 : a1_2 = true
  ·subst c4
   have H1 : ((cmp_Compare_int.f a0_0 a1_0).bind fun t191 => ((cmp_Compare_int.f a0_1 a1_1).bind fun t192 => ((cmp_Or_int.f k (([t191, t192, (-1)] : List Int))).bind fun t196 => (some t196)))) = some r := by rw [if_pos rfl] at H; exact H
   clear H
   have H := H1
   clear H1
   replace H := Option.bind_eq_some_iff.mp H
   obtain ⟨t191, A50, H⟩ := H
   replace H : ((cmp_Compare_int.f a0_1 a1_1).bind fun t192 => ((cmp_Or_int.f k (([t191, t192, (-1)] : List Int))).bind fun t196 => (some t196))) = some r := H
   have A5 := qb.mk A50
   clear A50
   replace H := Option.bind_eq_some_iff.mp H
   obtain ⟨t192, A60, H⟩ := H
   replace H : ((cmp_Or_int.f k (([t191, t192, (-1)] : List Int))).bind fun t196 => (some t196)) = some r := H
   have A6 := qb.mk A60
   clear A60
   obtain ⟨y193, hy193⟩ : ∃ y_ : List Int, y_ = (([t191, t192, (-1)] : List Int)) := ⟨_, rfl⟩
   replace H : ((cmp_Or_int.f k y193).bind fun t196 => (some t196)) = some r := by first | (rw [hy193]; with_reducible exact H) | (have H2_ := (Option.bind_some _ _).symm.trans H; rw [hy193]; with_reducible exact H2_) | (have H2_ := (Option.bind_some _ _).symm.trans H; with_reducible exact H2_) | with_reducible exact H | (rw [hy193]; exact H) | exact H
   have Ny193 := qb.mk hy193
   clear hy193
   replace H := Option.bind_eq_some_iff.mp H
   obtain ⟨t196, A70, H⟩ := H
   replace H : (some t196) = some r := H
   have A7 := qb.mk A70
   clear A70
   obtain rfl := Option.some.inj H
   go_enter Tryd.func29, Tryd.ntmps29
   try go_wp2_with (first | ((with_reducible refine zc (N := 2) rfl ?_); refine zb ?hg (N := 2) ?hd (cs := #[.int .i64 a0_0, .int .i64 a0_1, .bool a0_2]) (t := 39) ?hr ?_; (case hd => rfl); (case hg => rfl); (case hr => first | (go_simp; done) | (go_simp; rfl)); intro gb189 hg w8 hbox hb; have n0_ := qb.mk (qm (be0_ HB) hb); have n1_ := qb.mk (hbox); have n2_ := qb.mk ((by rw [hg]; exact (ql (be0_ HB)) : w.heap.size ≤ gb189)); have n3_ := qb.mk ((by rw [hg]; exact (ql (be0_ HB)) : w.heap.size ≤ gb189)); clear HB; have HB := n0_; have BK189 := n1_; have GW189 := n2_; have GE189 := n3_; clear n0_ n1_ n2_ n3_; clear hb hbox hg) | ((with_reducible refine zc (N := 3) rfl ?_); refine zb ?hg (N := 3) ?hd (cs := #[.int .i64 a1_0, .int .i64 a1_1, .bool true]) (t := 39) ?hr ?_; (case hd => rfl); (case hg => rfl); (case hr => first | (go_simp; done) | (go_simp; rfl)); intro gb190 hg w9 hbox hb; have n0_ := qb.mk (qn (g := gb189) (o := .cells #[.int .i64 a0_0, .int .i64 a0_1, .bool a0_2] 39 (0, 0)) (bk_ BK189) hb); have n1_ := qb.mk (qm (be1_ HB GE189) hb); have n2_ := qb.mk (hbox); have n3_ := qb.mk ((by rw [hg]; exact (ql (be1_ HB GE189)) : w.heap.size ≤ gb190)); have n4_ := qb.mk ((by rw [hg]; exact (ql (be1_ HB GE189)) : w.heap.size ≤ gb190)); have n5_ := qb.mk ((by rw [hg]; exact Nat.ne_of_lt (zd (g := gb189) (o := .cells #[.int .i64 a0_0, .int .i64 a0_1, .bool a0_2] 39 (0, 0)) (bk_ BK189)) : gb189 ≠ gb190)); have n6_ := qb.mk ((by rw [hg]; exact Nat.ne_of_gt (zd (g := gb189) (o := .cells #[.int .i64 a0_0, .int .i64 a0_1, .bool a0_2] 39 (0, 0)) (bk_ BK189)) : gb190 ≠ gb189)); clear BK189; clear HB; have BK189 := n0_; have HB := n1_; have BK190 := n2_; have GW190 := n3_; have GE190 := n4_; have NB189_190 := n5_; have NB190_189 := n6_; clear n0_ n1_ n2_ n3_ n4_ n5_ n6_; clear hb hbox hg; have hnb10 := NB189_190.out; have hnc10 := NB190_189.out; have hcz11_0 : w9.cell? ⟨gb189, 0, none⟩ = some (.int .i64 a0_0) := (qg BK189.out 0).trans rfl; have hcz11_1 : w9.cell? ⟨gb189, 1, none⟩ = some (.int .i64 a0_1) := (qg BK189.out 1).trans rfl; have hcz11_2 : w9.cell? ⟨gb189, 2, none⟩ = some (.bool a0_2) := (qg BK189.out 2).trans rfl; have hfz11_0 := qj BK189.out 0; have hfz11_1 := qj BK189.out 1; have hfz11_2 := qj BK189.out 2; have hcz12_0 : w9.cell? ⟨gb190, 0, none⟩ = some (.int .i64 a1_0) := (qg BK190.out 0).trans rfl; have hcz12_1 : w9.cell? ⟨gb190, 1, none⟩ = some (.int .i64 a1_1) := (qg BK190.out 1).trans rfl; have hcz12_2 : w9.cell? ⟨gb190, 2, none⟩ = some (.bool true) := (qg BK190.out 2).trans rfl; have hfz12_0 := qj BK190.out 0; have hfz12_1 := qj BK190.out 1; have hfz12_2 := qj BK190.out 2))
   have n0_ := qb.mk (qi BK189.out)
   have n1_ := qb.mk (qi BK190.out)
   have n2_ := qb.mk (qc HB.out)
   clear BK189
   clear BK190
   clear HB
   have BK189 := n0_
   have BK190 := n1_
   have HB := n2_
   clear n0_ n1_ n2_
   refine zu (n := 14) (S := fun w' => w'.cell? ⟨gb189, 0, none⟩ = some (.int .i64 a0_0) ∧ w'.cell? ⟨gb189, 1, none⟩ = some (.int .i64 a0_1) ∧ w'.cell? ⟨gb189, 2, none⟩ = some (.bool a0_2) ∧ w'.cell? ⟨gb190, 0, none⟩ = some (.int .i64 a1_0) ∧ w'.cell? ⟨gb190, 1, none⟩ = some (.int .i64 a1_1) ∧ w'.cell? ⟨gb190, 2, none⟩ = some (.bool true)) (ds := []) #[false, false, false, false, false, false, false, false, false, false, false, false, false, false] (by kernel_rfl) rfl rfl ⟨(qg BK189.out 0).trans rfl, (qg BK189.out 1).trans rfl, (qg BK189.out 2).trans rfl, (qg BK190.out 0).trans rfl, (qg BK190.out 1).trans rfl, (qg BK190.out 2).trans rfl⟩ (fun hHeld => ?_); refine zl impl_compareBlocks.tab6 impl_compareBlocks.bits6 (fun HT_ HW_ => ?_)
   generalize w9.drew = w13 at BK189 BK190 HB hHeld ⊢
   refine pure_ (i := 0) (N := some 13) (v := ?_) (a' := ?_) #[true, false, false, false, false, false, false, false, false, false, false, false, false, false] rfl rfl (qq HT_.out (by kernel_rfl)) (fun _ _ _ h => h) (Or.inl ⟨by rfl, ?_⟩) ?_ ?_
   rotate_left
   ·intro w'
    go_simp
    with_reducible rfl
   rotate_left
   ·simp only [Act.put, sA_, sB_, sC_, i64_w, i32_w]
    rfl
   refine pure_ (i := 2) (N := some 15) (v := ?_) (a' := ?_) #[true, false, true, false, false, false, false, false, false, false, false, false, false, false] rfl rfl (qq HT_.out (by kernel_rfl)) (fun _ _ _ h => h) (Or.inl ⟨by rfl, ?_⟩) ?_ ?_
   rotate_left
   ·intro w'
    go_simp
    with_reducible rfl
   rotate_left
   ·simp only [Act.put, sA_, sB_, sC_, i64_w, i32_w]
    rfl
   refine pure_ (i := 5) (N := some 18) (v := ?_) (a' := ?_) #[true, false, true, false, false, true, false, false, false, false, false, false, false, false] rfl rfl (qq HT_.out (by kernel_rfl)) (fun _ _ _ h => h) (Or.inl ⟨by rfl, ?_⟩) ?_ ?_
   rotate_left
   ·intro w'
    go_simp
    with_reducible rfl
   rotate_left
   ·simp only [Act.put, sA_, sB_, sC_, i64_w, i32_w]
    rfl
   refine pure_ (i := 7) (N := some 20) (v := ?_) (a' := ?_) #[true, false, true, false, false, true, false, true, false, false, false, false, false, false] rfl rfl (qq HT_.out (by kernel_rfl)) (fun _ _ _ h => h) (Or.inl ⟨by rfl, ?_⟩) ?_ ?_
   rotate_left
   ·intro w'
    go_simp
    with_reducible rfl
   rotate_left
   ·simp only [Act.put, sA_, sB_, sC_, i64_w, i32_w]
    rfl
   refine pure_ (i := 10) (N := some 23) (v := ?_) (a' := ?_) #[true, false, true, false, false, true, false, true, false, false, true, false, false, false] rfl rfl (qq HT_.out (by kernel_rfl)) (fun _ _ _ h => h) (Or.inl ⟨by rfl, ?_⟩) ?_ ?_
   rotate_left
   ·intro w'
    go_simp
    with_reducible rfl
   rotate_left
   ·simp only [Act.put, sA_, sB_, sC_, i64_w, i32_w]
    rfl
   refine take_ (i := 1) (N := some 14) (v := ?_) (a' := ?_) #[true, true, true, false, false, true, false, true, false, false, true, false, false, false] rfl rfl (qz HT_.out HW_.out (by kernel_rfl)) (fun _ _ _ h => h) (Or.inl ⟨by rfl, ?_⟩) hHeld ?_ ?_
   rotate_left
   ·rintro w' ⟨s0, s1, s2, s3, s4, s5⟩
    go_simp
    with_reducible rfl
   rotate_left
   ·simp only [Act.put, sA_, sB_, sC_, i64_w, i32_w]
    rfl
   refine take_ (i := 3) (N := some 16) (v := ?_) (a' := ?_) #[true, true, true, true, false, true, false, true, false, false, true, false, false, false] rfl rfl (qz HT_.out HW_.out (by kernel_rfl)) (fun _ _ _ h => h) (Or.inl ⟨by rfl, ?_⟩) hHeld ?_ ?_
   rotate_left
   ·rintro w' ⟨s0, s1, s2, s3, s4, s5⟩
    go_simp
    with_reducible rfl
   rotate_left
   ·simp only [Act.put, sA_, sB_, sC_, i64_w, i32_w]
    rfl
   refine take_ (i := 6) (N := some 19) (v := ?_) (a' := ?_) #[true, true, true, true, false, true, true, true, false, false, true, false, false, false] rfl rfl (qz HT_.out HW_.out (by kernel_rfl)) (fun _ _ _ h => h) (Or.inl ⟨by rfl, ?_⟩) hHeld ?_ ?_
   rotate_left
   ·rintro w' ⟨s0, s1, s2, s3, s4, s5⟩
    go_simp
    with_reducible rfl
   rotate_left
   ·simp only [Act.put, sA_, sB_, sC_, i64_w, i32_w]
    rfl
   refine take_ (i := 8) (N := some 21) (v := ?_) (a' := ?_) #[true, true, true, true, false, true, true, true, true, false, true, false, false, false] rfl rfl (qz HT_.out HW_.out (by kernel_rfl)) (fun _ _ _ h => h) (Or.inl ⟨by rfl, ?_⟩) hHeld ?_ ?_
   rotate_left
   ·rintro w' ⟨s0, s1, s2, s3, s4, s5⟩
    go_simp
    with_reducible rfl
   rotate_left
   ·simp only [Act.put, sA_, sB_, sC_, i64_w, i32_w]
    rfl
   refine one_ (i := 4) (N := some 17) #[true, true, true, true, true, true, true, true, true, false, true, false, false, false] rfl rfl (zh HT_.out (by kernel_rfl)) (by decide) (fun K hK => ?_)
   refine goes_ Tryd.func44 (by kernel_rfl) rfl #[.int .i64 a0_0, .int .i64 a1_0] (by rfl) rfl rfl al_ ?_
   with_reducible refine (cmp_Compare_int.calls a0_0 a1_0 t191 _ A5.out).mono ?_
   rintro e w' ⟨rfl, ⟨nd, rfl⟩⟩
   refine ⟨_, rfl, ?_⟩
   refine hK.out _ _ ⟨(qg BK189.out 0).trans rfl, (qg BK189.out 1).trans rfl, (qg BK189.out 2).trans rfl, (qg BK190.out 0).trans rfl, (qg BK190.out 1).trans rfl, (qg BK190.out 2).trans rfl⟩ (fun hHeld => ?_)
   clear hK K
   refine norm_ (a' := ?_) ?_ ?_
   rotate_left
   ·show Act.put _ (some 17) _ = _
    simp only [Act.put, sA_, sB_, sC_, i64_w, i32_w]
    rfl
   refine one_ (i := 9) (N := some 22) #[true, true, true, true, true, true, true, true, true, true, true, false, false, false] rfl rfl (zh HT_.out (by kernel_rfl)) (by decide) (fun K hK => ?_)
   refine goes_ Tryd.func44 (by kernel_rfl) rfl #[.int .i64 a0_1, .int .i64 a1_1] (by rfl) rfl rfl al_ ?_
   with_reducible refine (cmp_Compare_int.calls a0_1 a1_1 t192 _ A6.out).mono ?_
   rintro e w' ⟨rfl, ⟨nd, rfl⟩⟩
   refine ⟨_, rfl, ?_⟩
   refine hK.out _ _ ⟨(qg BK189.out 0).trans rfl, (qg BK189.out 1).trans rfl, (qg BK189.out 2).trans rfl, (qg BK190.out 0).trans rfl, (qg BK190.out 1).trans rfl, (qg BK190.out 2).trans rfl⟩ (fun hHeld => ?_)
   clear hK K
   refine norm_ (a' := ?_) ?_ ?_
   rotate_left
   ·show Act.put _ (some 22) _ = _
    simp only [Act.put, sA_, sB_, sC_, i64_w, i32_w]
    rfl
   refine one_ (i := 11) (N := some 24) #[true, true, true, true, true, true, true, true, true, true, true, true, false, false] rfl rfl (zh HT_.out (by kernel_rfl)) (by decide) (fun K hK => ?_)
   refine Kd.R_lit_step (Kd.int .i64) _ 3 ?hg (N := 24) ?hd (xs := ([t191, t192, (-1)] : List Int)) (inner := [.int .i64 t191, .int .i64 t192, .int .i64 (-1)]) (ok := fun _ => True) (okp := fun _ => True) ?hr ?hp (fun _ hk => hk) trivial (Below.refl _ _) (Nat.le_refl _) (by simp) ?_; (case hd => rfl); (case hg => rfl); (case hr => first | (go_simp; done) | (go_simp; rfl)); (case hp => exact (Reps.one (show Kd.M (Kd.int .i64) _ _ _ t191 [.int .i64 t191] from rfl) (Reps.one (show Kd.M (Kd.int .i64) _ _ _ t192 [.int .i64 t192] from rfl) (Reps.one (show Kd.M (Kd.int .i64) _ _ _ (-1) [.int .i64 (-1)] from rfl) (Reps.none _ _)))))
   intro v194 w14 ho15 hb hg_ hnew_
   clear hg_ hnew_
   (first | rw [← Ny193.out] at ho15 | (simp only [Int.reduceToNat] at ho15; rw [← Ny193.out] at ho15))
   have n0_ := qb.mk (Kd.zr ho15 (ql (be2_ HB GE189 GE190)))
   have n1_ := qb.mk (qn (g := gb189) (o := .cells #[.int .i64 a0_0, .int .i64 a0_1, .bool a0_2] 39 (0, 0)) (bk_ BK189) hb)
   have n2_ := qb.mk (qn (g := gb190) (o := .cells #[.int .i64 a1_0, .int .i64 a1_1, .bool true] 39 (0, 0)) (bk_ BK190) hb)
   have n3_ := qb.mk (qm (be2_ HB GE189 GE190) hb)
   clear BK189
   clear BK190
   clear HB
   have HO195 := n0_
   have BK189 := n1_
   have BK190 := n2_
   have HB := n3_
   clear n0_ n1_ n2_ n3_
   clear hb ho15
   obtain ⟨Ao16, co16, eo16⟩ := Kd.zj HO195.out
   (first | subst eo16 | (injection eo16 with f1_ f2_ f3_; have f4_ := f1_.symm; have f5_ := f3_.symm; clear f1_ f2_ f3_; subst f4_; subst f5_))
   refine hK.out _ _ ⟨(qg BK189.out 0).trans rfl, (qg BK189.out 1).trans rfl, (qg BK189.out 2).trans rfl, (qg BK190.out 0).trans rfl, (qg BK190.out 1).trans rfl, (qg BK190.out 2).trans rfl⟩ (fun hHeld => ?_)
   clear hK K
   refine norm_ (a' := ?_) ?_ ?_
   rotate_left
   ·show Act.put _ (some 24) _ = _
    simp only [Act.put, sA_, sB_, sC_, i64_w, i32_w]
    rfl
   refine one_ (i := 12) (N := some 25) #[true, true, true, true, true, true, true, true, true, true, true, true, true, false] rfl rfl (zh HT_.out (by kernel_rfl)) (by decide) (fun K hK => ?_)
   refine goes_ Tryd.func43 (by kernel_rfl) rfl #[.slice Ao16 y193.length co16] (by rfl) rfl rfl al_ ?_
   with_reducible refine (cmp_Or_int.calls k _ _ y193 t196 _ ?side1 ?side2 A7.out).mono ?_
   (case side1 => repeat (first | exact (Kd.qw HO195.out).2.2 | (with_reducible refine Kd.zp ?_ _) | (with_reducible refine Kd.zo ?_ _) | (with_reducible refine Kd.zt ?_)))
   (case side2 => exact (Kd.qw HO195.out).2.1)
   rintro e w' ⟨rfl, ⟨nd, rfl⟩⟩
   refine ⟨_, rfl, ?_⟩
   refine hK.out _ _ ⟨(qg BK189.out 0).trans rfl, (qg BK189.out 1).trans rfl, (qg BK189.out 2).trans rfl, (qg BK190.out 0).trans rfl, (qg BK190.out 1).trans rfl, (qg BK190.out 2).trans rfl⟩ (fun hHeld => ?_)
   clear hK K
   refine norm_ (a' := ?_) ?_ ?_
   rotate_left
   ·show Act.put _ (some 25) _ = _
    simp only [Act.put, sA_, sB_, sC_, i64_w, i32_w]
    rfl
   refine pure_ (i := 13) (N := some 4) (v := ?_) (a' := ?_) #[true, true, true, true, true, true, true, true, true, true, true, true, true, true] rfl rfl (qq HT_.out (by kernel_rfl)) (fun _ _ _ h => h) (Or.inl ⟨by rfl, ?_⟩) ?_ ?_
   rotate_left
   ·intro w'
    go_simp
    with_reducible rfl
   rotate_left
   ·simp only [Act.put, sA_, sB_, sC_, i64_w, i32_w]
    rfl
   refine done_ (zq HT_.out (by kernel_rfl)) ?_
   try go_wp2
   go_ret
   exact ⟨er_, be2_ HB GE189 GE190⟩
  ·replace c4 := Bool.eq_false_iff.mpr c4
   subst c4
   have H1 : ((cmp_Compare_int.f a0_0 a1_0).bind fun t197 => ((cmp_Compare_int.f a0_1 a1_1).bind fun t198 => ((cmp_Or_int.f k (([t197, t198, 1] : List Int))).bind fun t202 => (some t202)))) = some r := by rw [if_neg (show ¬ (false = true) by decide)] at H; exact H
   clear H
   have H := H1
   clear H1
   replace H := Option.bind_eq_some_iff.mp H
   obtain ⟨t197, A170, H⟩ := H
   replace H : ((cmp_Compare_int.f a0_1 a1_1).bind fun t198 => ((cmp_Or_int.f k (([t197, t198, 1] : List Int))).bind fun t202 => (some t202))) = some r := H
   have A17 := qb.mk A170
   clear A170
   replace H := Option.bind_eq_some_iff.mp H
   obtain ⟨t198, A180, H⟩ := H
   replace H : ((cmp_Or_int.f k (([t197, t198, 1] : List Int))).bind fun t202 => (some t202)) = some r := H
   have A18 := qb.mk A180
   clear A180
   obtain ⟨y199, hy199⟩ : ∃ y_ : List Int, y_ = (([t197, t198, 1] : List Int)) := ⟨_, rfl⟩
   replace H : ((cmp_Or_int.f k y199).bind fun t202 => (some t202)) = some r := by first | (rw [hy199]; with_reducible exact H) | (have H2_ := (Option.bind_some _ _).symm.trans H; rw [hy199]; with_reducible exact H2_) | (have H2_ := (Option.bind_some _ _).symm.trans H; with_reducible exact H2_) | with_reducible exact H | (rw [hy199]; exact H) | exact H
   have Ny199 := qb.mk hy199
   clear hy199
   replace H := Option.bind_eq_some_iff.mp H
   obtain ⟨t202, A190, H⟩ := H
   replace H : (some t202) = some r := H
   have A19 := qb.mk A190
   clear A190
   obtain rfl := Option.some.inj H
   go_enter Tryd.func29, Tryd.ntmps29
   try go_wp2_with (first | ((with_reducible refine zc (N := 2) rfl ?_); refine zb ?hg (N := 2) ?hd (cs := #[.int .i64 a0_0, .int .i64 a0_1, .bool a0_2]) (t := 39) ?hr ?_; (case hd => rfl); (case hg => rfl); (case hr => first | (go_simp; done) | (go_simp; rfl)); intro gb189 hg w20 hbox hb; have n0_ := qb.mk (qm (be0_ HB) hb); have n1_ := qb.mk (hbox); have n2_ := qb.mk ((by rw [hg]; exact (ql (be0_ HB)) : w.heap.size ≤ gb189)); have n3_ := qb.mk ((by rw [hg]; exact (ql (be0_ HB)) : w.heap.size ≤ gb189)); clear HB; have HB := n0_; have BK189 := n1_; have GW189 := n2_; have GE189 := n3_; clear n0_ n1_ n2_ n3_; clear hb hbox hg) | ((with_reducible refine zc (N := 3) rfl ?_); refine zb ?hg (N := 3) ?hd (cs := #[.int .i64 a1_0, .int .i64 a1_1, .bool false]) (t := 39) ?hr ?_; (case hd => rfl); (case hg => rfl); (case hr => first | (go_simp; done) | (go_simp; rfl)); intro gb190 hg w21 hbox hb; have n0_ := qb.mk (qn (g := gb189) (o := .cells #[.int .i64 a0_0, .int .i64 a0_1, .bool a0_2] 39 (0, 0)) (bk_ BK189) hb); have n1_ := qb.mk (qm (be1_ HB GE189) hb); have n2_ := qb.mk (hbox); have n3_ := qb.mk ((by rw [hg]; exact (ql (be1_ HB GE189)) : w.heap.size ≤ gb190)); have n4_ := qb.mk ((by rw [hg]; exact (ql (be1_ HB GE189)) : w.heap.size ≤ gb190)); have n5_ := qb.mk ((by rw [hg]; exact Nat.ne_of_lt (zd (g := gb189) (o := .cells #[.int .i64 a0_0, .int .i64 a0_1, .bool a0_2] 39 (0, 0)) (bk_ BK189)) : gb189 ≠ gb190)); have n6_ := qb.mk ((by rw [hg]; exact Nat.ne_of_gt (zd (g := gb189) (o := .cells #[.int .i64 a0_0, .int .i64 a0_1, .bool a0_2] 39 (0, 0)) (bk_ BK189)) : gb190 ≠ gb189)); clear BK189; clear HB; have BK189 := n0_; have HB := n1_; have BK190 := n2_; have GW190 := n3_; have GE190 := n4_; have NB189_190 := n5_; have NB190_189 := n6_; clear n0_ n1_ n2_ n3_ n4_ n5_ n6_; clear hb hbox hg; have hnb22 := NB189_190.out; have hnc22 := NB190_189.out; have hcz23_0 : w21.cell? ⟨gb189, 0, none⟩ = some (.int .i64 a0_0) := (qg BK189.out 0).trans rfl; have hcz23_1 : w21.cell? ⟨gb189, 1, none⟩ = some (.int .i64 a0_1) := (qg BK189.out 1).trans rfl; have hcz23_2 : w21.cell? ⟨gb189, 2, none⟩ = some (.bool a0_2) := (qg BK189.out 2).trans rfl; have hfz23_0 := qj BK189.out 0; have hfz23_1 := qj BK189.out 1; have hfz23_2 := qj BK189.out 2; have hcz24_0 : w21.cell? ⟨gb190, 0, none⟩ = some (.int .i64 a1_0) := (qg BK190.out 0).trans rfl; have hcz24_1 : w21.cell? ⟨gb190, 1, none⟩ = some (.int .i64 a1_1) := (qg BK190.out 1).trans rfl; have hcz24_2 : w21.cell? ⟨gb190, 2, none⟩ = some (.bool false) := (qg BK190.out 2).trans rfl; have hfz24_0 := qj BK190.out 0; have hfz24_1 := qj BK190.out 1; have hfz24_2 := qj BK190.out 2))
   have n0_ := qb.mk (qi BK189.out)
   have n1_ := qb.mk (qi BK190.out)
   have n2_ := qb.mk (qc HB.out)
   clear BK189
   clear BK190
   clear HB
   have BK189 := n0_
   have BK190 := n1_
   have HB := n2_
   clear n0_ n1_ n2_
   refine zu (n := 14) (S := fun w' => w'.cell? ⟨gb189, 0, none⟩ = some (.int .i64 a0_0) ∧ w'.cell? ⟨gb189, 1, none⟩ = some (.int .i64 a0_1) ∧ w'.cell? ⟨gb189, 2, none⟩ = some (.bool a0_2) ∧ w'.cell? ⟨gb190, 0, none⟩ = some (.int .i64 a1_0) ∧ w'.cell? ⟨gb190, 1, none⟩ = some (.int .i64 a1_1) ∧ w'.cell? ⟨gb190, 2, none⟩ = some (.bool false)) (ds := []) #[false, false, false, false, false, false, false, false, false, false, false, false, false, false] (by kernel_rfl) rfl rfl ⟨(qg BK189.out 0).trans rfl, (qg BK189.out 1).trans rfl, (qg BK189.out 2).trans rfl, (qg BK190.out 0).trans rfl, (qg BK190.out 1).trans rfl, (qg BK190.out 2).trans rfl⟩ (fun hHeld => ?_); refine zl impl_compareBlocks.tab6 impl_compareBlocks.bits6 (fun HT_ HW_ => ?_)
   generalize w21.drew = w25 at BK189 BK190 HB hHeld ⊢
   refine pure_ (i := 0) (N := some 13) (v := ?_) (a' := ?_) #[true, false, false, false, false, false, false, false, false, false, false, false, false, false] rfl rfl (qq HT_.out (by kernel_rfl)) (fun _ _ _ h => h) (Or.inl ⟨by rfl, ?_⟩) ?_ ?_
   rotate_left
   ·intro w'
    go_simp
    with_reducible rfl
   rotate_left
   ·simp only [Act.put, sA_, sB_, sC_, i64_w, i32_w]
    rfl
   refine pure_ (i := 2) (N := some 15) (v := ?_) (a' := ?_) #[true, false, true, false, false, false, false, false, false, false, false, false, false, false] rfl rfl (qq HT_.out (by kernel_rfl)) (fun _ _ _ h => h) (Or.inl ⟨by rfl, ?_⟩) ?_ ?_
   rotate_left
   ·intro w'
    go_simp
    with_reducible rfl
   rotate_left
   ·simp only [Act.put, sA_, sB_, sC_, i64_w, i32_w]
    rfl
   refine pure_ (i := 5) (N := some 18) (v := ?_) (a' := ?_) #[true, false, true, false, false, true, false, false, false, false, false, false, false, false] rfl rfl (qq HT_.out (by kernel_rfl)) (fun _ _ _ h => h) (Or.inl ⟨by rfl, ?_⟩) ?_ ?_
   rotate_left
   ·intro w'
    go_simp
    with_reducible rfl
   rotate_left
   ·simp only [Act.put, sA_, sB_, sC_, i64_w, i32_w]
    rfl
   refine pure_ (i := 7) (N := some 20) (v := ?_) (a' := ?_) #[true, false, true, false, false, true, false, true, false, false, false, false, false, false] rfl rfl (qq HT_.out (by kernel_rfl)) (fun _ _ _ h => h) (Or.inl ⟨by rfl, ?_⟩) ?_ ?_
   rotate_left
   ·intro w'
    go_simp
    with_reducible rfl
   rotate_left
   ·simp only [Act.put, sA_, sB_, sC_, i64_w, i32_w]
    rfl
   refine pure_ (i := 10) (N := some 23) (v := ?_) (a' := ?_) #[true, false, true, false, false, true, false, true, false, false, true, false, false, false] rfl rfl (qq HT_.out (by kernel_rfl)) (fun _ _ _ h => h) (Or.inl ⟨by rfl, ?_⟩) ?_ ?_
   rotate_left
   ·intro w'
    go_simp
    with_reducible rfl
   rotate_left
   ·simp only [Act.put, sA_, sB_, sC_, i64_w, i32_w]
    rfl
   refine take_ (i := 1) (N := some 14) (v := ?_) (a' := ?_) #[true, true, true, false, false, true, false, true, false, false, true, false, false, false] rfl rfl (qz HT_.out HW_.out (by kernel_rfl)) (fun _ _ _ h => h) (Or.inl ⟨by rfl, ?_⟩) hHeld ?_ ?_
   rotate_left
   ·rintro w' ⟨s0, s1, s2, s3, s4, s5⟩
    go_simp
    with_reducible rfl
   rotate_left
   ·simp only [Act.put, sA_, sB_, sC_, i64_w, i32_w]
    rfl
   refine take_ (i := 3) (N := some 16) (v := ?_) (a' := ?_) #[true, true, true, true, false, true, false, true, false, false, true, false, false, false] rfl rfl (qz HT_.out HW_.out (by kernel_rfl)) (fun _ _ _ h => h) (Or.inl ⟨by rfl, ?_⟩) hHeld ?_ ?_
   rotate_left
   ·rintro w' ⟨s0, s1, s2, s3, s4, s5⟩
    go_simp
    with_reducible rfl
   rotate_left
   ·simp only [Act.put, sA_, sB_, sC_, i64_w, i32_w]
    rfl
   refine take_ (i := 6) (N := some 19) (v := ?_) (a' := ?_) #[true, true, true, true, false, true, true, true, false, false, true, false, false, false] rfl rfl (qz HT_.out HW_.out (by kernel_rfl)) (fun _ _ _ h => h) (Or.inl ⟨by rfl, ?_⟩) hHeld ?_ ?_
   rotate_left
   ·rintro w' ⟨s0, s1, s2, s3, s4, s5⟩
    go_simp
    with_reducible rfl
   rotate_left
   ·simp only [Act.put, sA_, sB_, sC_, i64_w, i32_w]
    rfl
   refine take_ (i := 8) (N := some 21) (v := ?_) (a' := ?_) #[true, true, true, true, false, true, true, true, true, false, true, false, false, false] rfl rfl (qz HT_.out HW_.out (by kernel_rfl)) (fun _ _ _ h => h) (Or.inl ⟨by rfl, ?_⟩) hHeld ?_ ?_
   rotate_left
   ·rintro w' ⟨s0, s1, s2, s3, s4, s5⟩
    go_simp
    with_reducible rfl
   rotate_left
   ·simp only [Act.put, sA_, sB_, sC_, i64_w, i32_w]
    rfl
   refine one_ (i := 4) (N := some 17) #[true, true, true, true, true, true, true, true, true, false, true, false, false, false] rfl rfl (zh HT_.out (by kernel_rfl)) (by decide) (fun K hK => ?_)
   refine goes_ Tryd.func44 (by kernel_rfl) rfl #[.int .i64 a0_0, .int .i64 a1_0] (by rfl) rfl rfl al_ ?_
   with_reducible refine (cmp_Compare_int.calls a0_0 a1_0 t197 _ A17.out).mono ?_
   rintro e w' ⟨rfl, ⟨nd, rfl⟩⟩
   refine ⟨_, rfl, ?_⟩
   refine hK.out _ _ ⟨(qg BK189.out 0).trans rfl, (qg BK189.out 1).trans rfl, (qg BK189.out 2).trans rfl, (qg BK190.out 0).trans rfl, (qg BK190.out 1).trans rfl, (qg BK190.out 2).trans rfl⟩ (fun hHeld => ?_)
   clear hK K
   refine norm_ (a' := ?_) ?_ ?_
   rotate_left
   ·show Act.put _ (some 17) _ = _
    simp only [Act.put, sA_, sB_, sC_, i64_w, i32_w]
    rfl
   refine one_ (i := 9) (N := some 22) #[true, true, true, true, true, true, true, true, true, true, true, false, false, false] rfl rfl (zh HT_.out (by kernel_rfl)) (by decide) (fun K hK => ?_)
   refine goes_ Tryd.func44 (by kernel_rfl) rfl #[.int .i64 a0_1, .int .i64 a1_1] (by rfl) rfl rfl al_ ?_
   with_reducible refine (cmp_Compare_int.calls a0_1 a1_1 t198 _ A18.out).mono ?_
   rintro e w' ⟨rfl, ⟨nd, rfl⟩⟩
   refine ⟨_, rfl, ?_⟩
   refine hK.out _ _ ⟨(qg BK189.out 0).trans rfl, (qg BK189.out 1).trans rfl, (qg BK189.out 2).trans rfl, (qg BK190.out 0).trans rfl, (qg BK190.out 1).trans rfl, (qg BK190.out 2).trans rfl⟩ (fun hHeld => ?_)
   clear hK K
   refine norm_ (a' := ?_) ?_ ?_
   rotate_left
   ·show Act.put _ (some 22) _ = _
    simp only [Act.put, sA_, sB_, sC_, i64_w, i32_w]
    rfl
   refine one_ (i := 11) (N := some 24) #[true, true, true, true, true, true, true, true, true, true, true, true, false, false] rfl rfl (zh HT_.out (by kernel_rfl)) (by decide) (fun K hK => ?_)
   refine Kd.R_lit_step (Kd.int .i64) _ 3 ?hg (N := 24) ?hd (xs := ([t197, t198, 1] : List Int)) (inner := [.int .i64 t197, .int .i64 t198, .int .i64 1]) (ok := fun _ => True) (okp := fun _ => True) ?hr ?hp (fun _ hk => hk) trivial (Below.refl _ _) (Nat.le_refl _) (by simp) ?_; (case hd => rfl); (case hg => rfl); (case hr => first | (go_simp; done) | (go_simp; rfl)); (case hp => exact (Reps.one (show Kd.M (Kd.int .i64) _ _ _ t197 [.int .i64 t197] from rfl) (Reps.one (show Kd.M (Kd.int .i64) _ _ _ t198 [.int .i64 t198] from rfl) (Reps.one (show Kd.M (Kd.int .i64) _ _ _ 1 [.int .i64 1] from rfl) (Reps.none _ _)))))
   intro v200 w26 ho27 hb hg_ hnew_
   clear hg_ hnew_
   (first | rw [← Ny199.out] at ho27 | (simp only [Int.reduceToNat] at ho27; rw [← Ny199.out] at ho27))
   have n0_ := qb.mk (Kd.zr ho27 (ql (be2_ HB GE189 GE190)))
   have n1_ := qb.mk (qn (g := gb189) (o := .cells #[.int .i64 a0_0, .int .i64 a0_1, .bool a0_2] 39 (0, 0)) (bk_ BK189) hb)
   have n2_ := qb.mk (qn (g := gb190) (o := .cells #[.int .i64 a1_0, .int .i64 a1_1, .bool false] 39 (0, 0)) (bk_ BK190) hb)
   have n3_ := qb.mk (qm (be2_ HB GE189 GE190) hb)
   clear BK189
   clear BK190
   clear HB
   have HO201 := n0_
   have BK189 := n1_
   have BK190 := n2_
   have HB := n3_
   clear n0_ n1_ n2_ n3_
   clear hb ho27
   obtain ⟨Ao28, co28, eo28⟩ := Kd.zj HO201.out
   (first | subst eo28 | (injection eo28 with f1_ f2_ f3_; have f4_ := f1_.symm; have f5_ := f3_.symm; clear f1_ f2_ f3_; subst f4_; subst f5_))
   refine hK.out _ _ ⟨(qg BK189.out 0).trans rfl, (qg BK189.out 1).trans rfl, (qg BK189.out 2).trans rfl, (qg BK190.out 0).trans rfl, (qg BK190.out 1).trans rfl, (qg BK190.out 2).trans rfl⟩ (fun hHeld => ?_)
   clear hK K
   refine norm_ (a' := ?_) ?_ ?_
   rotate_left
   ·show Act.put _ (some 24) _ = _
    simp only [Act.put, sA_, sB_, sC_, i64_w, i32_w]
    rfl
   refine one_ (i := 12) (N := some 25) #[true, true, true, true, true, true, true, true, true, true, true, true, true, false] rfl rfl (zh HT_.out (by kernel_rfl)) (by decide) (fun K hK => ?_)
   refine goes_ Tryd.func43 (by kernel_rfl) rfl #[.slice Ao28 y199.length co28] (by rfl) rfl rfl al_ ?_
   with_reducible refine (cmp_Or_int.calls k _ _ y199 t202 _ ?side1 ?side2 A19.out).mono ?_
   (case side1 => repeat (first | exact (Kd.qw HO201.out).2.2 | (with_reducible refine Kd.zp ?_ _) | (with_reducible refine Kd.zo ?_ _) | (with_reducible refine Kd.zt ?_)))
   (case side2 => exact (Kd.qw HO201.out).2.1)
   rintro e w' ⟨rfl, ⟨nd, rfl⟩⟩
   refine ⟨_, rfl, ?_⟩
   refine hK.out _ _ ⟨(qg BK189.out 0).trans rfl, (qg BK189.out 1).trans rfl, (qg BK189.out 2).trans rfl, (qg BK190.out 0).trans rfl, (qg BK190.out 1).trans rfl, (qg BK190.out 2).trans rfl⟩ (fun hHeld => ?_)
   clear hK K
   refine norm_ (a' := ?_) ?_ ?_
   rotate_left
   ·show Act.put _ (some 25) _ = _
    simp only [Act.put, sA_, sB_, sC_, i64_w, i32_w]
    rfl
   refine pure_ (i := 13) (N := some 4) (v := ?_) (a' := ?_) #[true, true, true, true, true, true, true, true, true, true, true, true, true, true] rfl rfl (qq HT_.out (by kernel_rfl)) (fun _ _ _ h => h) (Or.inl ⟨by rfl, ?_⟩) ?_ ?_
   rotate_left
   ·intro w'
    go_simp
    with_reducible rfl
   rotate_left
   ·simp only [Act.put, sA_, sB_, sC_, i64_w, i32_w]
    rfl
   refine done_ (zq HT_.out (by kernel_rfl)) ?_
   try go_wp2
   go_ret
   exact ⟨er_, be2_ HB GE189 GE190⟩
 ·rw [if_neg c3] at H
  have c3b0 : (a0_2 != a1_2) = false := by simpa using c3
  (try (have c3b1 : decide (a0_2 = a1_2) = true := by simpa using c3))
  (try (have c3b2 : (a0_2 == a1_2) = true := by simpa using c3))
  clear c3
  replace H := Option.bind_eq_some_iff.mp H
  obtain ⟨t203, A290, H⟩ := H
  replace H : ((cmp_Compare_int.f a0_1 a1_1).bind fun t204 => ((cmp_Or_int.f k (([t203, t204, 0] : List Int))).bind fun t208 => (some t208))) = some r := H
  have A29 := qb.mk A290
  clear A290
  replace H := Option.bind_eq_some_iff.mp H
  obtain ⟨t204, A300, H⟩ := H
  replace H : ((cmp_Or_int.f k (([t203, t204, 0] : List Int))).bind fun t208 => (some t208)) = some r := H
  have A30 := qb.mk A300
  clear A300
  obtain ⟨y205, hy205⟩ : ∃ y_ : List Int, y_ = (([t203, t204, 0] : List Int)) := ⟨_, rfl⟩
  replace H : ((cmp_Or_int.f k y205).bind fun t208 => (some t208)) = some r := by first | (rw [hy205]; with_reducible exact H) | (have H2_ := (Option.bind_some _ _).symm.trans H; rw [hy205]; with_reducible exact H2_) | (have H2_ := (Option.bind_some _ _).symm.trans H; with_reducible exact H2_) | with_reducible exact H | (rw [hy205]; exact H) | exact H
  have Ny205 := qb.mk hy205
  clear hy205
  replace H := Option.bind_eq_some_iff.mp H
  obtain ⟨t208, A310, H⟩ := H
  replace H : (some t208) = some r := H
  have A31 := qb.mk A310
  clear A310
  obtain rfl := Option.some.inj H
  go_enter Tryd.func29, Tryd.ntmps29
  try go_wp2_with (first | ((with_reducible refine zc (N := 2) rfl ?_); refine zb ?hg (N := 2) ?hd (cs := #[.int .i64 a0_0, .int .i64 a0_1, .bool a0_2]) (t := 39) ?hr ?_; (case hd => rfl); (case hg => rfl); (case hr => first | (go_simp; done) | (go_simp; rfl)); intro gb189 hg w32 hbox hb; have n0_ := qb.mk (qm (be0_ HB) hb); have n1_ := qb.mk (hbox); have n2_ := qb.mk ((by rw [hg]; exact (ql (be0_ HB)) : w.heap.size ≤ gb189)); have n3_ := qb.mk ((by rw [hg]; exact (ql (be0_ HB)) : w.heap.size ≤ gb189)); clear HB; have HB := n0_; have BK189 := n1_; have GW189 := n2_; have GE189 := n3_; clear n0_ n1_ n2_ n3_; clear hb hbox hg) | ((with_reducible refine zc (N := 3) rfl ?_); refine zb ?hg (N := 3) ?hd (cs := #[.int .i64 a1_0, .int .i64 a1_1, .bool a1_2]) (t := 39) ?hr ?_; (case hd => rfl); (case hg => rfl); (case hr => first | (go_simp; done) | (go_simp; rfl)); intro gb190 hg w33 hbox hb; have n0_ := qb.mk (qn (g := gb189) (o := .cells #[.int .i64 a0_0, .int .i64 a0_1, .bool a0_2] 39 (0, 0)) (bk_ BK189) hb); have n1_ := qb.mk (qm (be1_ HB GE189) hb); have n2_ := qb.mk (hbox); have n3_ := qb.mk ((by rw [hg]; exact (ql (be1_ HB GE189)) : w.heap.size ≤ gb190)); have n4_ := qb.mk ((by rw [hg]; exact (ql (be1_ HB GE189)) : w.heap.size ≤ gb190)); have n5_ := qb.mk ((by rw [hg]; exact Nat.ne_of_lt (zd (g := gb189) (o := .cells #[.int .i64 a0_0, .int .i64 a0_1, .bool a0_2] 39 (0, 0)) (bk_ BK189)) : gb189 ≠ gb190)); have n6_ := qb.mk ((by rw [hg]; exact Nat.ne_of_gt (zd (g := gb189) (o := .cells #[.int .i64 a0_0, .int .i64 a0_1, .bool a0_2] 39 (0, 0)) (bk_ BK189)) : gb190 ≠ gb189)); clear BK189; clear HB; have BK189 := n0_; have HB := n1_; have BK190 := n2_; have GW190 := n3_; have GE190 := n4_; have NB189_190 := n5_; have NB190_189 := n6_; clear n0_ n1_ n2_ n3_ n4_ n5_ n6_; clear hb hbox hg; have hnb34 := NB189_190.out; have hnc34 := NB190_189.out; have hcz35_0 : w33.cell? ⟨gb189, 0, none⟩ = some (.int .i64 a0_0) := (qg BK189.out 0).trans rfl; have hcz35_1 : w33.cell? ⟨gb189, 1, none⟩ = some (.int .i64 a0_1) := (qg BK189.out 1).trans rfl; have hcz35_2 : w33.cell? ⟨gb189, 2, none⟩ = some (.bool a0_2) := (qg BK189.out 2).trans rfl; have hfz35_0 := qj BK189.out 0; have hfz35_1 := qj BK189.out 1; have hfz35_2 := qj BK189.out 2; have hcz36_0 : w33.cell? ⟨gb190, 0, none⟩ = some (.int .i64 a1_0) := (qg BK190.out 0).trans rfl; have hcz36_1 : w33.cell? ⟨gb190, 1, none⟩ = some (.int .i64 a1_1) := (qg BK190.out 1).trans rfl; have hcz36_2 : w33.cell? ⟨gb190, 2, none⟩ = some (.bool a1_2) := (qg BK190.out 2).trans rfl; have hfz36_0 := qj BK190.out 0; have hfz36_1 := qj BK190.out 1; have hfz36_2 := qj BK190.out 2))
  have n0_ := qb.mk (qi BK189.out)
  have n1_ := qb.mk (qi BK190.out)
  have n2_ := qb.mk (qc HB.out)
  clear BK189
  clear BK190
  clear HB
  have BK189 := n0_
  have BK190 := n1_
  have HB := n2_
  clear n0_ n1_ n2_
  refine zu (n := 14) (S := fun w' => w'.cell? ⟨gb189, 0, none⟩ = some (.int .i64 a0_0) ∧ w'.cell? ⟨gb189, 1, none⟩ = some (.int .i64 a0_1) ∧ w'.cell? ⟨gb189, 2, none⟩ = some (.bool a0_2) ∧ w'.cell? ⟨gb190, 0, none⟩ = some (.int .i64 a1_0) ∧ w'.cell? ⟨gb190, 1, none⟩ = some (.int .i64 a1_1) ∧ w'.cell? ⟨gb190, 2, none⟩ = some (.bool a1_2)) (ds := []) #[false, false, false, false, false, false, false, false, false, false, false, false, false, false] (by kernel_rfl) rfl rfl ⟨(qg BK189.out 0).trans rfl, (qg BK189.out 1).trans rfl, (qg BK189.out 2).trans rfl, (qg BK190.out 0).trans rfl, (qg BK190.out 1).trans rfl, (qg BK190.out 2).trans rfl⟩ (fun hHeld => ?_); refine zl impl_compareBlocks.tab6 impl_compareBlocks.bits6 (fun HT_ HW_ => ?_)
  generalize w33.drew = w37 at BK189 BK190 HB hHeld ⊢
  refine pure_ (i := 0) (N := some 13) (v := ?_) (a' := ?_) #[true, false, false, false, false, false, false, false, false, false, false, false, false, false] rfl rfl (qq HT_.out (by kernel_rfl)) (fun _ _ _ h => h) (Or.inl ⟨by rfl, ?_⟩) ?_ ?_
  rotate_left
  ·intro w'
   go_simp
   with_reducible rfl
  rotate_left
  ·simp only [Act.put, sA_, sB_, sC_, i64_w, i32_w]
   rfl
  refine pure_ (i := 2) (N := some 15) (v := ?_) (a' := ?_) #[true, false, true, false, false, false, false, false, false, false, false, false, false, false] rfl rfl (qq HT_.out (by kernel_rfl)) (fun _ _ _ h => h) (Or.inl ⟨by rfl, ?_⟩) ?_ ?_
  rotate_left
  ·intro w'
   go_simp
   with_reducible rfl
  rotate_left
  ·simp only [Act.put, sA_, sB_, sC_, i64_w, i32_w]
   rfl
  refine pure_ (i := 5) (N := some 18) (v := ?_) (a' := ?_) #[true, false, true, false, false, true, false, false, false, false, false, false, false, false] rfl rfl (qq HT_.out (by kernel_rfl)) (fun _ _ _ h => h) (Or.inl ⟨by rfl, ?_⟩) ?_ ?_
  rotate_left
  ·intro w'
   go_simp
   with_reducible rfl
  rotate_left
  ·simp only [Act.put, sA_, sB_, sC_, i64_w, i32_w]
   rfl
  refine pure_ (i := 7) (N := some 20) (v := ?_) (a' := ?_) #[true, false, true, false, false, true, false, true, false, false, false, false, false, false] rfl rfl (qq HT_.out (by kernel_rfl)) (fun _ _ _ h => h) (Or.inl ⟨by rfl, ?_⟩) ?_ ?_
  rotate_left
  ·intro w'
   go_simp
   with_reducible rfl
  rotate_left
  ·simp only [Act.put, sA_, sB_, sC_, i64_w, i32_w]
   rfl
  refine pure_ (i := 10) (N := some 23) (v := ?_) (a' := ?_) #[true, false, true, false, false, true, false, true, false, false, true, false, false, false] rfl rfl (qq HT_.out (by kernel_rfl)) (fun _ _ _ h => h) (Or.inl ⟨by rfl, ?_⟩) ?_ ?_
  rotate_left
  ·intro w'
   go_simp
   with_reducible rfl
  rotate_left
  ·simp only [Act.put, sA_, sB_, sC_, i64_w, i32_w]
   rfl
  refine take_ (i := 1) (N := some 14) (v := ?_) (a' := ?_) #[true, true, true, false, false, true, false, true, false, false, true, false, false, false] rfl rfl (qz HT_.out HW_.out (by kernel_rfl)) (fun _ _ _ h => h) (Or.inl ⟨by rfl, ?_⟩) hHeld ?_ ?_
  rotate_left
  ·rintro w' ⟨s0, s1, s2, s3, s4, s5⟩
   go_simp
   with_reducible rfl
  rotate_left
  ·simp only [Act.put, sA_, sB_, sC_, i64_w, i32_w]
   rfl
  refine take_ (i := 3) (N := some 16) (v := ?_) (a' := ?_) #[true, true, true, true, false, true, false, true, false, false, true, false, false, false] rfl rfl (qz HT_.out HW_.out (by kernel_rfl)) (fun _ _ _ h => h) (Or.inl ⟨by rfl, ?_⟩) hHeld ?_ ?_
  rotate_left
  ·rintro w' ⟨s0, s1, s2, s3, s4, s5⟩
   go_simp
   with_reducible rfl
  rotate_left
  ·simp only [Act.put, sA_, sB_, sC_, i64_w, i32_w]
   rfl
  refine take_ (i := 6) (N := some 19) (v := ?_) (a' := ?_) #[true, true, true, true, false, true, true, true, false, false, true, false, false, false] rfl rfl (qz HT_.out HW_.out (by kernel_rfl)) (fun _ _ _ h => h) (Or.inl ⟨by rfl, ?_⟩) hHeld ?_ ?_
  rotate_left
  ·rintro w' ⟨s0, s1, s2, s3, s4, s5⟩
   go_simp
   with_reducible rfl
  rotate_left
  ·simp only [Act.put, sA_, sB_, sC_, i64_w, i32_w]
   rfl
  refine take_ (i := 8) (N := some 21) (v := ?_) (a' := ?_) #[true, true, true, true, false, true, true, true, true, false, true, false, false, false] rfl rfl (qz HT_.out HW_.out (by kernel_rfl)) (fun _ _ _ h => h) (Or.inl ⟨by rfl, ?_⟩) hHeld ?_ ?_
  rotate_left
  ·rintro w' ⟨s0, s1, s2, s3, s4, s5⟩
   go_simp
   with_reducible rfl
  rotate_left
  ·simp only [Act.put, sA_, sB_, sC_, i64_w, i32_w]
   rfl
  refine one_ (i := 4) (N := some 17) #[true, true, true, true, true, true, true, true, true, false, true, false, false, false] rfl rfl (zh HT_.out (by kernel_rfl)) (by decide) (fun K hK => ?_)
  refine goes_ Tryd.func44 (by kernel_rfl) rfl #[.int .i64 a0_0, .int .i64 a1_0] (by rfl) rfl rfl al_ ?_
  with_reducible refine (cmp_Compare_int.calls a0_0 a1_0 t203 _ A29.out).mono ?_
  rintro e w' ⟨rfl, ⟨nd, rfl⟩⟩
  refine ⟨_, rfl, ?_⟩
  refine hK.out _ _ ⟨(qg BK189.out 0).trans rfl, (qg BK189.out 1).trans rfl, (qg BK189.out 2).trans rfl, (qg BK190.out 0).trans rfl, (qg BK190.out 1).trans rfl, (qg BK190.out 2).trans rfl⟩ (fun hHeld => ?_)
  clear hK K
  refine norm_ (a' := ?_) ?_ ?_
  rotate_left
  ·show Act.put _ (some 17) _ = _
   simp only [Act.put, sA_, sB_, sC_, i64_w, i32_w]
   rfl
  refine one_ (i := 9) (N := some 22) #[true, true, true, true, true, true, true, true, true, true, true, false, false, false] rfl rfl (zh HT_.out (by kernel_rfl)) (by decide) (fun K hK => ?_)
  refine goes_ Tryd.func44 (by kernel_rfl) rfl #[.int .i64 a0_1, .int .i64 a1_1] (by rfl) rfl rfl al_ ?_
  with_reducible refine (cmp_Compare_int.calls a0_1 a1_1 t204 _ A30.out).mono ?_
  rintro e w' ⟨rfl, ⟨nd, rfl⟩⟩
  refine ⟨_, rfl, ?_⟩
  refine hK.out _ _ ⟨(qg BK189.out 0).trans rfl, (qg BK189.out 1).trans rfl, (qg BK189.out 2).trans rfl, (qg BK190.out 0).trans rfl, (qg BK190.out 1).trans rfl, (qg BK190.out 2).trans rfl⟩ (fun hHeld => ?_)
  clear hK K
  refine norm_ (a' := ?_) ?_ ?_
  rotate_left
  ·show Act.put _ (some 22) _ = _
   simp only [Act.put, sA_, sB_, sC_, i64_w, i32_w]
   rfl
  refine one_ (i := 11) (N := some 24) #[true, true, true, true, true, true, true, true, true, true, true, true, false, false] rfl rfl (zh HT_.out (by kernel_rfl)) (by decide) (fun K hK => ?_)
  refine Kd.R_lit_step (Kd.int .i64) _ 3 ?hg (N := 24) ?hd (xs := ([t203, t204, 0] : List Int)) (inner := [.int .i64 t203, .int .i64 t204, .int .i64 0]) (ok := fun _ => True) (okp := fun _ => True) ?hr ?hp (fun _ hk => hk) trivial (Below.refl _ _) (Nat.le_refl _) (by simp) ?_; (case hd => rfl); (case hg => rfl); (case hr => first | (go_simp; done) | (go_simp; rfl)); (case hp => exact (Reps.one (show Kd.M (Kd.int .i64) _ _ _ t203 [.int .i64 t203] from rfl) (Reps.one (show Kd.M (Kd.int .i64) _ _ _ t204 [.int .i64 t204] from rfl) (Reps.one (show Kd.M (Kd.int .i64) _ _ _ 0 [.int .i64 0] from rfl) (Reps.none _ _)))))
  intro v206 w38 ho39 hb hg_ hnew_
  clear hg_ hnew_
  (first | rw [← Ny205.out] at ho39 | (simp only [Int.reduceToNat] at ho39; rw [← Ny205.out] at ho39))
  have n0_ := qb.mk (Kd.zr ho39 (ql (be2_ HB GE189 GE190)))
  have n1_ := qb.mk (qn (g := gb189) (o := .cells #[.int .i64 a0_0, .int .i64 a0_1, .bool a0_2] 39 (0, 0)) (bk_ BK189) hb)
  have n2_ := qb.mk (qn (g := gb190) (o := .cells #[.int .i64 a1_0, .int .i64 a1_1, .bool a1_2] 39 (0, 0)) (bk_ BK190) hb)
  have n3_ := qb.mk (qm (be2_ HB GE189 GE190) hb)
  clear BK189
  clear BK190
  clear HB
  have HO207 := n0_
  have BK189 := n1_
  have BK190 := n2_
  have HB := n3_
  clear n0_ n1_ n2_ n3_
  clear hb ho39
  obtain ⟨Ao40, co40, eo40⟩ := Kd.zj HO207.out
  (first | subst eo40 | (injection eo40 with f1_ f2_ f3_; have f4_ := f1_.symm; have f5_ := f3_.symm; clear f1_ f2_ f3_; subst f4_; subst f5_))
  refine hK.out _ _ ⟨(qg BK189.out 0).trans rfl, (qg BK189.out 1).trans rfl, (qg BK189.out 2).trans rfl, (qg BK190.out 0).trans rfl, (qg BK190.out 1).trans rfl, (qg BK190.out 2).trans rfl⟩ (fun hHeld => ?_)
  clear hK K
  refine norm_ (a' := ?_) ?_ ?_
  rotate_left
  ·show Act.put _ (some 24) _ = _
   simp only [Act.put, sA_, sB_, sC_, i64_w, i32_w]
   rfl
  refine one_ (i := 12) (N := some 25) #[true, true, true, true, true, true, true, true, true, true, true, true, true, false] rfl rfl (zh HT_.out (by kernel_rfl)) (by decide) (fun K hK => ?_)
  refine goes_ Tryd.func43 (by kernel_rfl) rfl #[.slice Ao40 y205.length co40] (by rfl) rfl rfl al_ ?_
  with_reducible refine (cmp_Or_int.calls k _ _ y205 t208 _ ?side1 ?side2 A31.out).mono ?_
  (case side1 => repeat (first | exact (Kd.qw HO207.out).2.2 | (with_reducible refine Kd.zp ?_ _) | (with_reducible refine Kd.zo ?_ _) | (with_reducible refine Kd.zt ?_)))
  (case side2 => exact (Kd.qw HO207.out).2.1)
  rintro e w' ⟨rfl, ⟨nd, rfl⟩⟩
  refine ⟨_, rfl, ?_⟩
  refine hK.out _ _ ⟨(qg BK189.out 0).trans rfl, (qg BK189.out 1).trans rfl, (qg BK189.out 2).trans rfl, (qg BK190.out 0).trans rfl, (qg BK190.out 1).trans rfl, (qg BK190.out 2).trans rfl⟩ (fun hHeld => ?_)
  clear hK K
  refine norm_ (a' := ?_) ?_ ?_
  rotate_left
  ·show Act.put _ (some 25) _ = _
   simp only [Act.put, sA_, sB_, sC_, i64_w, i32_w]
   rfl
  refine pure_ (i := 13) (N := some 4) (v := ?_) (a' := ?_) #[true, true, true, true, true, true, true, true, true, true, true, true, true, true] rfl rfl (qq HT_.out (by kernel_rfl)) (fun _ _ _ h => h) (Or.inl ⟨by rfl, ?_⟩) ?_ ?_
  rotate_left
  ·intro w'
   go_simp
   with_reducible rfl
  rotate_left
  ·simp only [Act.put, sA_, sB_, sC_, i64_w, i32_w]
   rfl
  refine done_ (zq HT_.out (by kernel_rfl)) ?_
  try go_wp2
  go_ret
  exact ⟨er_, be2_ HB GE189 GE190⟩
end Go.Proofs.YtbnbdaommbnecacDoor.PFnExactParseCity
