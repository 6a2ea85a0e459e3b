/- Cut by wip/cut.py out of the texts of this claim (printed by the kit's printer, or this session's own): what the row's theorem does not reach is struck. Not trusted: Lean checks it. -/
import Derived.Test.YtohpaddcfcgmbaaZFnExactBestToOpenPx0
import Derived.Test.YtohpaddcfcgmbaaZFnExactBestToOpenPx7
namespace Go.Proofs.Ytohpaddcfcgmbaa.PFnExactBestToOpen
open Go.RowKit Go.Proofs.YtohpaddcfcgmbaaW.PrintWords Go.Proofs.YtohpaddcfcgmbaaW.PrintLast Go.Proofs.YtohpaddcfcgmbaaW.PrintMore
attribute [local go_sem] max2_int min2_int max_two min_two max_three min_three max_four min_four
set_option linter.unusedVariables false
set_option linter.unusedSimpArgs false
def impl_compareBlocks.f (k : Nat) (a0_0 : Int) (a0_1 : Int) (a0_2 : Bool) (a1_0 : Int) (a1_1 : Int) (a1_2 : Bool) : Option (Int) := if (a0_2 != a1_2) = true then (if a1_2 = true then ((cmp_Compare_int.f a0_0 a1_0).bind fun t186 => ((cmp_Compare_int.f a0_1 a1_1).bind fun t187 => ((cmp_Or_int.f k (([t186, t187, (-1)] : List Int))).bind fun t191 => (some t191)))) else ((cmp_Compare_int.f a0_0 a1_0).bind fun t192 => ((cmp_Compare_int.f a0_1 a1_1).bind fun t193 => ((cmp_Or_int.f k (([t192, t193, 1] : List Int))).bind fun t197 => (some t197))))) else ((cmp_Compare_int.f a0_0 a1_0).bind fun t198 => ((cmp_Compare_int.f a0_1 a1_1).bind fun t199 => ((cmp_Or_int.f k (([t198, t199, 0] : List Int))).bind fun t203 => (some t203))))
theorem impl_compareBlocks.mono : ∀ a0 a1 a2 a3 a4 a5 k, LeO (impl_compareBlocks.f k a0 a1 a2 a3 a4 a5) (impl_compareBlocks.f (k + 1) a0 a1 a2 a3 a4 a5) := by
 intro a0 a1 a2 a3 a4 a5 k
 unfold impl_compareBlocks.f
 repeat' first
   | (with_reducible exact cmp_Or_int.mono _ _)
   | (with_reducible exact LeO.refl _)
   | (with_reducible exact LeO.none _)
   | (with_reducible refine LeO.ite ?_ ?_)
   | (with_reducible refine LeO.bind ?_ (fun _ => ?_))
   | exact cmp_Or_int.mono _ _
   | exact LeO.none _
   | refine LeO.ite ?_ ?_
   | refine LeO.bind ?_ (fun _ => ?_)
def impl_compareBlocks.T6 : Bool × List (List Nat × List Nat) := (true, [([], []), ([0], [0]), ([], []), ([2], [2]), ([1, 3], [1, 3]), ([], []), ([5], [5]), ([], []), ([7], [7]), ([6, 8, 4], [6, 8]), ([], []), ([4, 9, 10], [4, 9, 10]), ([11, 9], [11]), ([12, 12, 0, 1, 2, 3, 4, 5, 6, 7, 8, 9, 10, 11, 12], [12])])
def impl_compareBlocks.B6 : List Nat := [0, 1, 0, 4, 15, 0, 32, 0, 128, 511, 0, 2047, 4095, 8191]
theorem impl_compareBlocks.tab6 : rtab .any (opsOf Try.f104 6) = impl_compareBlocks.T6 := by kernel_rfl
theorem impl_compareBlocks.bits6 : waitsOk impl_compareBlocks.T6.2 impl_compareBlocks.B6 = true := by kernel_rfl
set_option maxHeartbeats 8000000 in
set_option maxRecDepth 100000 in
theorem impl_compareBlocks.calls (k : Nat) (a0_0 : Int) (a0_1 : Int) (a0_2 : Bool) (a1_0 : Int) (a1_1 : Int) (a1_2 : Bool) (r : Int) (w : World) (h : impl_compareBlocks.f k a0_0 a0_1 a0_2 a1_0 a1_1 a1_2 = some r) :
  Calls Try.prog 104 #[.agg #[.int .i64 a0_0, .int .i64 a0_1, .bool a0_2], .agg #[.int .i64 a1_0, .int .i64 a1_1, .bool a1_2]] w fun e w' => e = .returned (.int .i64 r) ∧ Below w.heap.size w w' := by
 have hu38 := Try.underlying38
 have HB := qd.mk (Below.refl w.heap.size w)
 have H : (if (a0_2 != a1_2) = true then (if a1_2 = true then ((cmp_Compare_int.f a0_0 a1_0).bind fun t186 => ((cmp_Compare_int.f a0_1 a1_1).bind fun t187 => ((cmp_Or_int.f k (([t186, t187, (-1)] : List Int))).bind fun t191 => (some t191)))) else ((cmp_Compare_int.f a0_0 a1_0).bind fun t192 => ((cmp_Compare_int.f a0_1 a1_1).bind fun t193 => ((cmp_Or_int.f k (([t192, t193, 1] : List Int))).bind fun t197 => (some t197))))) else ((cmp_Compare_int.f a0_0 a1_0).bind fun t198 => ((cmp_Compare_int.f a0_1 a1_1).bind fun t199 => ((cmp_Or_int.f k (([t198, t199, 0] : List Int))).bind fun t203 => (some t203))))) = some r := h
 clear h
 by_cases c3 : (a0_2 != a1_2) = true
 ·rw [if_pos c3] at H
  have c3b0 : (a0_2 != a1_2) = true := c3
  (try (have c3b1 : decide (a0_2 = a1_2) = false := by simpa using c3))
  (try (have c3b2 : (a0_2 == a1_2) = false := by simpa using c3))
  (try (have c3b3 : ¬ (a0_2 = a1_2) := by simpa using c3))
  clear c3
  by_cases c4 : a1_2 = true
  ·subst c4
   have H1 : ((cmp_Compare_int.f a0_0 a1_0).bind fun t186 => ((cmp_Compare_int.f a0_1 a1_1).bind fun t187 => ((cmp_Or_int.f k (([t186, t187, (-1)] : List Int))).bind fun t191 => (some t191)))) = some r := by rw [if_pos rfl] at H; exact H
   clear H
   have H := H1
   clear H1
   replace H := Option.bind_eq_some_iff.mp H
   obtain ⟨t186, A50, H⟩ := H
   replace H : ((cmp_Compare_int.f a0_1 a1_1).bind fun t187 => ((cmp_Or_int.f k (([t186, t187, (-1)] : List Int))).bind fun t191 => (some t191))) = some r := H
   have A5 := qd.mk A50
   clear A50
   replace H := Option.bind_eq_some_iff.mp H
   obtain ⟨t187, A60, H⟩ := H
   replace H : ((cmp_Or_int.f k (([t186, t187, (-1)] : List Int))).bind fun t191 => (some t191)) = some r := H
   have A6 := qd.mk A60
   clear A60
   obtain ⟨y188, hy188⟩ : ∃ y_ : List Int, y_ = (([t186, t187, (-1)] : List Int)) := ⟨_, rfl⟩
   replace H : ((cmp_Or_int.f k y188).bind fun t191 => (some t191)) = some r := by first | (rw [hy188]; with_reducible exact H) | (have H2_ := (Option.bind_some _ _).symm.trans H; rw [hy188]; with_reducible exact H2_) | (have H2_ := (Option.bind_some _ _).symm.trans H; with_reducible exact H2_) | with_reducible exact H | (rw [hy188]; exact H) | exact H
   have Ny188 := qd.mk hy188
   clear hy188
   replace H := Option.bind_eq_some_iff.mp H
   obtain ⟨t191, A70, H⟩ := H
   replace H : (some t191) = some r := H
   have A7 := qd.mk A70
   clear A70
   obtain rfl := Option.some.inj H
   go_enter Try.func104, Try.ntmps104
   try go_wp2_with (first | ((with_reducible refine za (N := 2) rfl ?_); refine qy ?hg (N := 2) ?hd (cs := #[.int .i64 a0_0, .int .i64 a0_1, .bool a0_2]) (t := 38) ?hr ?_; (case hd => rfl); (case hg => rfl); (case hr => first | (go_simp; done) | (go_simp; rfl)); intro gb184 hg w8 hbox hb; have n0_ := qd.mk (qn (be0_ HB) hb); have n1_ := qd.mk (hbox); have n2_ := qd.mk ((by rw [hg]; exact (qm (be0_ HB)) : w.heap.size ≤ gb184)); have n3_ := qd.mk ((by rw [hg]; exact (qm (be0_ HB)) : w.heap.size ≤ gb184)); clear HB; have HB := n0_; have BK184 := n1_; have GW184 := n2_; have GE184 := n3_; clear n0_ n1_ n2_ n3_; clear hb hbox hg) | ((with_reducible refine za (N := 3) rfl ?_); refine qy ?hg (N := 3) ?hd (cs := #[.int .i64 a1_0, .int .i64 a1_1, .bool true]) (t := 38) ?hr ?_; (case hd => rfl); (case hg => rfl); (case hr => first | (go_simp; done) | (go_simp; rfl)); intro gb185 hg w9 hbox hb; have n0_ := qd.mk (ql (g := gb184) (o := .cells #[.int .i64 a0_0, .int .i64 a0_1, .bool a0_2] 38 (0, 0)) (bk_ BK184) hb); have n1_ := qd.mk (qn (be1_ HB GE184) hb); have n2_ := qd.mk (hbox); have n3_ := qd.mk ((by rw [hg]; exact (qm (be1_ HB GE184)) : w.heap.size ≤ gb185)); have n4_ := qd.mk ((by rw [hg]; exact (qm (be1_ HB GE184)) : w.heap.size ≤ gb185)); have n5_ := qd.mk ((by rw [hg]; exact Nat.ne_of_lt (qr (g := gb184) (o := .cells #[.int .i64 a0_0, .int .i64 a0_1, .bool a0_2] 38 (0, 0)) (bk_ BK184)) : gb184 ≠ gb185)); have n6_ := qd.mk ((by rw [hg]; exact Nat.ne_of_gt (qr (g := gb184) (o := .cells #[.int .i64 a0_0, .int .i64 a0_1, .bool a0_2] 38 (0, 0)) (bk_ BK184)) : gb185 ≠ gb184)); clear BK184; clear HB; have BK184 := n0_; have HB := n1_; have BK185 := n2_; have GW185 := n3_; have GE185 := n4_; have NB184_185 := n5_; have NB185_184 := n6_; clear n0_ n1_ n2_ n3_ n4_ n5_ n6_; clear hb hbox hg; have hnb10 := NB184_185.out; have hnc10 := NB185_184.out; have hcz11_0 : w9.cell? ⟨gb184, 0, none⟩ = some (.int .i64 a0_0) := (qi BK184.out 0).trans rfl; have hcz11_1 : w9.cell? ⟨gb184, 1, none⟩ = some (.int .i64 a0_1) := (qi BK184.out 1).trans rfl; have hcz11_2 : w9.cell? ⟨gb184, 2, none⟩ = some (.bool a0_2) := (qi BK184.out 2).trans rfl; have hfz11_0 := qj BK184.out 0; have hfz11_1 := qj BK184.out 1; have hfz11_2 := qj BK184.out 2; have hcz12_0 : w9.cell? ⟨gb185, 0, none⟩ = some (.int .i64 a1_0) := (qi BK185.out 0).trans rfl; have hcz12_1 : w9.cell? ⟨gb185, 1, none⟩ = some (.int .i64 a1_1) := (qi BK185.out 1).trans rfl; have hcz12_2 : w9.cell? ⟨gb185, 2, none⟩ = some (.bool true) := (qi BK185.out 2).trans rfl; have hfz12_0 := qj BK185.out 0; have hfz12_1 := qj BK185.out 1; have hfz12_2 := qj BK185.out 2))
   have n0_ := qd.mk (qe BK184.out)
   have n1_ := qd.mk (qe BK185.out)
   have n2_ := qd.mk (qh HB.out)
   clear BK184
   clear BK185
   clear HB
   have BK184 := n0_
   have BK185 := n1_
   have HB := n2_
   clear n0_ n1_ n2_
   refine jj (n := 14) (S := fun w' => w'.cell? ⟨gb184, 0, none⟩ = some (.int .i64 a0_0) ∧ w'.cell? ⟨gb184, 1, none⟩ = some (.int .i64 a0_1) ∧ w'.cell? ⟨gb184, 2, none⟩ = some (.bool a0_2) ∧ w'.cell? ⟨gb185, 0, none⟩ = some (.int .i64 a1_0) ∧ w'.cell? ⟨gb185, 1, none⟩ = some (.int .i64 a1_1) ∧ w'.cell? ⟨gb185, 2, none⟩ = some (.bool true)) (ds := []) #[false, false, false, false, false, false, false, false, false, false, false, false, false, false] (by kernel_rfl) rfl rfl ⟨(qi BK184.out 0).trans rfl, (qi BK184.out 1).trans rfl, (qi BK184.out 2).trans rfl, (qi BK185.out 0).trans rfl, (qi BK185.out 1).trans rfl, (qi BK185.out 2).trans rfl⟩ (fun hHeld => ?_); refine with_tabW impl_compareBlocks.tab6 impl_compareBlocks.bits6 (fun HT_ HW_ => ?_)
   generalize w9.drew = w13 at BK184 BK185 HB hHeld ⊢
   refine pure_ (i := 0) (N := some 13) (v := ?_) (a' := ?_) #[true, false, false, false, false, false, false, false, false, false, false, false, false, false] rfl rfl (qz HT_.out (by kernel_rfl)) (fun _ _ _ h => h) (Or.inl ⟨by rfl, ?_⟩) ?_ ?_
   rotate_left
   ·intro w'
    go_simp
    with_reducible rfl
   rotate_left
   ·simp only [Act.put, sA_, sB_, sC_, i64_w, i32_w]
    rfl
   refine pure_ (i := 2) (N := some 15) (v := ?_) (a' := ?_) #[true, false, true, false, false, false, false, false, false, false, false, false, false, false] rfl rfl (qz HT_.out (by kernel_rfl)) (fun _ _ _ h => h) (Or.inl ⟨by rfl, ?_⟩) ?_ ?_
   rotate_left
   ·intro w'
    go_simp
    with_reducible rfl
   rotate_left
   ·simp only [Act.put, sA_, sB_, sC_, i64_w, i32_w]
    rfl
   refine pure_ (i := 5) (N := some 18) (v := ?_) (a' := ?_) #[true, false, true, false, false, true, false, false, false, false, false, false, false, false] rfl rfl (qz HT_.out (by kernel_rfl)) (fun _ _ _ h => h) (Or.inl ⟨by rfl, ?_⟩) ?_ ?_
   rotate_left
   ·intro w'
    go_simp
    with_reducible rfl
   rotate_left
   ·simp only [Act.put, sA_, sB_, sC_, i64_w, i32_w]
    rfl
   refine pure_ (i := 7) (N := some 20) (v := ?_) (a' := ?_) #[true, false, true, false, false, true, false, true, false, false, false, false, false, false] rfl rfl (qz HT_.out (by kernel_rfl)) (fun _ _ _ h => h) (Or.inl ⟨by rfl, ?_⟩) ?_ ?_
   rotate_left
   ·intro w'
    go_simp
    with_reducible rfl
   rotate_left
   ·simp only [Act.put, sA_, sB_, sC_, i64_w, i32_w]
    rfl
   refine pure_ (i := 10) (N := some 23) (v := ?_) (a' := ?_) #[true, false, true, false, false, true, false, true, false, false, true, false, false, false] rfl rfl (qz HT_.out (by kernel_rfl)) (fun _ _ _ h => h) (Or.inl ⟨by rfl, ?_⟩) ?_ ?_
   rotate_left
   ·intro w'
    go_simp
    with_reducible rfl
   rotate_left
   ·simp only [Act.put, sA_, sB_, sC_, i64_w, i32_w]
    rfl
   refine take_ (i := 1) (N := some 14) (v := ?_) (a' := ?_) #[true, true, true, false, false, true, false, true, false, false, true, false, false, false] rfl rfl (zi HT_.out HW_.out (by kernel_rfl)) (fun _ _ _ h => h) (Or.inl ⟨by rfl, ?_⟩) hHeld ?_ ?_
   rotate_left
   ·rintro w' ⟨s0, s1, s2, s3, s4, s5⟩
    go_simp
    with_reducible rfl
   rotate_left
   ·simp only [Act.put, sA_, sB_, sC_, i64_w, i32_w]
    rfl
   refine take_ (i := 3) (N := some 16) (v := ?_) (a' := ?_) #[true, true, true, true, false, true, false, true, false, false, true, false, false, false] rfl rfl (zi HT_.out HW_.out (by kernel_rfl)) (fun _ _ _ h => h) (Or.inl ⟨by rfl, ?_⟩) hHeld ?_ ?_
   rotate_left
   ·rintro w' ⟨s0, s1, s2, s3, s4, s5⟩
    go_simp
    with_reducible rfl
   rotate_left
   ·simp only [Act.put, sA_, sB_, sC_, i64_w, i32_w]
    rfl
   refine take_ (i := 6) (N := some 19) (v := ?_) (a' := ?_) #[true, true, true, true, false, true, true, true, false, false, true, false, false, false] rfl rfl (zi HT_.out HW_.out (by kernel_rfl)) (fun _ _ _ h => h) (Or.inl ⟨by rfl, ?_⟩) hHeld ?_ ?_
   rotate_left
   ·rintro w' ⟨s0, s1, s2, s3, s4, s5⟩
    go_simp
    with_reducible rfl
   rotate_left
   ·simp only [Act.put, sA_, sB_, sC_, i64_w, i32_w]
    rfl
   refine take_ (i := 8) (N := some 21) (v := ?_) (a' := ?_) #[true, true, true, true, false, true, true, true, true, false, true, false, false, false] rfl rfl (zi HT_.out HW_.out (by kernel_rfl)) (fun _ _ _ h => h) (Or.inl ⟨by rfl, ?_⟩) hHeld ?_ ?_
   rotate_left
   ·rintro w' ⟨s0, s1, s2, s3, s4, s5⟩
    go_simp
    with_reducible rfl
   rotate_left
   ·simp only [Act.put, sA_, sB_, sC_, i64_w, i32_w]
    rfl
   refine one_ (i := 4) (N := some 17) #[true, true, true, true, true, true, true, true, true, false, true, false, false, false] rfl rfl (jf HT_.out (by kernel_rfl)) (by decide) (fun K hK => ?_)
   refine goes_ Try.func124 (by kernel_rfl) rfl #[.int .i64 a0_0, .int .i64 a1_0] (by rfl) rfl rfl (by (try simp only [List.map_toArray, List.map_cons, List.map_nil]); first | done | rfl | (simp only [List.length_drop, List.length_take]; rfl)) ?_
   with_reducible refine (cmp_Compare_int.calls a0_0 a1_0 t186 _ A5.out).mono ?_
   rintro e w' ⟨rfl, ⟨nd, rfl⟩⟩
   refine ⟨_, rfl, ?_⟩
   refine hK.out _ _ ⟨(qi BK184.out 0).trans rfl, (qi BK184.out 1).trans rfl, (qi BK184.out 2).trans rfl, (qi BK185.out 0).trans rfl, (qi BK185.out 1).trans rfl, (qi BK185.out 2).trans rfl⟩ (fun hHeld => ?_)
   clear hK K
   refine norm_ (a' := ?_) ?_ ?_
   rotate_left
   ·show Act.put _ (some 17) _ = _
    simp only [Act.put, sA_, sB_, sC_, i64_w, i32_w]
    rfl
   refine one_ (i := 9) (N := some 22) #[true, true, true, true, true, true, true, true, true, true, true, false, false, false] rfl rfl (jf HT_.out (by kernel_rfl)) (by decide) (fun K hK => ?_)
   refine goes_ Try.func124 (by kernel_rfl) rfl #[.int .i64 a0_1, .int .i64 a1_1] (by rfl) rfl rfl (by (try simp only [List.map_toArray, List.map_cons, List.map_nil]); first | done | rfl | (simp only [List.length_drop, List.length_take]; rfl)) ?_
   with_reducible refine (cmp_Compare_int.calls a0_1 a1_1 t187 _ A6.out).mono ?_
   rintro e w' ⟨rfl, ⟨nd, rfl⟩⟩
   refine ⟨_, rfl, ?_⟩
   refine hK.out _ _ ⟨(qi BK184.out 0).trans rfl, (qi BK184.out 1).trans rfl, (qi BK184.out 2).trans rfl, (qi BK185.out 0).trans rfl, (qi BK185.out 1).trans rfl, (qi BK185.out 2).trans rfl⟩ (fun hHeld => ?_)
   clear hK K
   refine norm_ (a' := ?_) ?_ ?_
   rotate_left
   ·show Act.put _ (some 22) _ = _
    simp only [Act.put, sA_, sB_, sC_, i64_w, i32_w]
    rfl
   refine one_ (i := 11) (N := some 24) #[true, true, true, true, true, true, true, true, true, true, true, true, false, false] rfl rfl (jf HT_.out (by kernel_rfl)) (by decide) (fun K hK => ?_)
   refine Kd.R_lit_step (Kd.int .i64) _ 3 ?hg (N := 24) ?hd (xs := ([t186, t187, (-1)] : List Int)) (inner := [.int .i64 t186, .int .i64 t187, .int .i64 (-1)]) (ok := fun _ => True) (okp := fun _ => True) ?hr ?hp (fun _ hk => hk) trivial (Below.refl _ _) (Nat.le_refl _) (by simp) ?_; (case hd => rfl); (case hg => rfl); (case hr => first | (go_simp; done) | (go_simp; rfl)); (case hp => exact (Reps.one (show Kd.M (Kd.int .i64) _ _ _ t186 [.int .i64 t186] from rfl) (Reps.one (show Kd.M (Kd.int .i64) _ _ _ t187 [.int .i64 t187] from rfl) (Reps.one (show Kd.M (Kd.int .i64) _ _ _ (-1) [.int .i64 (-1)] from rfl) (Reps.none _ _)))))
   intro v189 w14 ho15 hb hg_ hnew_
   clear hg_ hnew_
   (first | rw [← Ny188.out] at ho15 | (simp only [Int.reduceToNat] at ho15; rw [← Ny188.out] at ho15))
   have n0_ := qd.mk (Kd.zq ho15 (qm (be2_ HB GE184 GE185)))
   have n1_ := qd.mk (ql (g := gb184) (o := .cells #[.int .i64 a0_0, .int .i64 a0_1, .bool a0_2] 38 (0, 0)) (bk_ BK184) hb)
   have n2_ := qd.mk (ql (g := gb185) (o := .cells #[.int .i64 a1_0, .int .i64 a1_1, .bool true] 38 (0, 0)) (bk_ BK185) hb)
   have n3_ := qd.mk (qn (be2_ HB GE184 GE185) hb)
   clear BK184
   clear BK185
   clear HB
   have HO190 := n0_
   have BK184 := n1_
   have BK185 := n2_
   have HB := n3_
   clear n0_ n1_ n2_ n3_
   clear hb ho15
   obtain ⟨Ao16, co16, eo16⟩ := Kd.zr HO190.out
   (first | subst eo16 | (injection eo16 with f1_ f2_ f3_; have f4_ := f1_.symm; have f5_ := f3_.symm; clear f1_ f2_ f3_; subst f4_; subst f5_))
   refine hK.out _ _ ⟨(qi BK184.out 0).trans rfl, (qi BK184.out 1).trans rfl, (qi BK184.out 2).trans rfl, (qi BK185.out 0).trans rfl, (qi BK185.out 1).trans rfl, (qi BK185.out 2).trans rfl⟩ (fun hHeld => ?_)
   clear hK K
   refine norm_ (a' := ?_) ?_ ?_
   rotate_left
   ·show Act.put _ (some 24) _ = _
    simp only [Act.put, sA_, sB_, sC_, i64_w, i32_w]
    rfl
   refine one_ (i := 12) (N := some 25) #[true, true, true, true, true, true, true, true, true, true, true, true, true, false] rfl rfl (jf HT_.out (by kernel_rfl)) (by decide) (fun K hK => ?_)
   refine goes_ Try.func123 (by kernel_rfl) rfl #[.slice Ao16 y188.length co16] (by rfl) rfl rfl (by (try simp only [List.map_toArray, List.map_cons, List.map_nil]); first | done | rfl | (simp only [List.length_drop, List.length_take]; rfl)) ?_
   with_reducible refine (cmp_Or_int.calls k _ _ y188 t191 _ ?side1 ?side2 A7.out).mono ?_
   (case side1 => repeat (first | exact (Kd.zb HO190.out).2.2 | (with_reducible refine Kd.ze ?_ _) | (with_reducible refine Kd.zd ?_ _) | (with_reducible refine Kd.zh ?_)))
   (case side2 => exact (Kd.zb HO190.out).2.1)
   rintro e w' ⟨rfl, ⟨nd, rfl⟩⟩
   refine ⟨_, rfl, ?_⟩
   refine hK.out _ _ ⟨(qi BK184.out 0).trans rfl, (qi BK184.out 1).trans rfl, (qi BK184.out 2).trans rfl, (qi BK185.out 0).trans rfl, (qi BK185.out 1).trans rfl, (qi BK185.out 2).trans rfl⟩ (fun hHeld => ?_)
   clear hK K
   refine norm_ (a' := ?_) ?_ ?_
   rotate_left
   ·show Act.put _ (some 25) _ = _
    simp only [Act.put, sA_, sB_, sC_, i64_w, i32_w]
    rfl
   refine pure_ (i := 13) (N := some 4) (v := ?_) (a' := ?_) #[true, true, true, true, true, true, true, true, true, true, true, true, true, true] rfl rfl (qz HT_.out (by kernel_rfl)) (fun _ _ _ h => h) (Or.inl ⟨by rfl, ?_⟩) ?_ ?_
   rotate_left
   ·intro w'
    go_simp
    with_reducible rfl
   rotate_left
   ·simp only [Act.put, sA_, sB_, sC_, i64_w, i32_w]
    rfl
   refine done_ (done_of HT_.out (by kernel_rfl)) ?_
   try go_wp2
   go_ret
   exact ⟨by first | rfl | (simp [qq, qp] <;> rfl) | (simp [*, qq, qp] <;> rfl), be2_ HB GE184 GE185⟩
  ·replace c4 := Bool.eq_false_iff.mpr c4
   subst c4
   have H1 : ((cmp_Compare_int.f a0_0 a1_0).bind fun t192 => ((cmp_Compare_int.f a0_1 a1_1).bind fun t193 => ((cmp_Or_int.f k (([t192, t193, 1] : List Int))).bind fun t197 => (some t197)))) = some r := by rw [if_neg (show ¬ (false = true) by decide)] at H; exact H
   clear H
   have H := H1
   clear H1
   replace H := Option.bind_eq_some_iff.mp H
   obtain ⟨t192, A170, H⟩ := H
   replace H : ((cmp_Compare_int.f a0_1 a1_1).bind fun t193 => ((cmp_Or_int.f k (([t192, t193, 1] : List Int))).bind fun t197 => (some t197))) = some r := H
   have A17 := qd.mk A170
   clear A170
   replace H := Option.bind_eq_some_iff.mp H
   obtain ⟨t193, A180, H⟩ := H
   replace H : ((cmp_Or_int.f k (([t192, t193, 1] : List Int))).bind fun t197 => (some t197)) = some r := H
   have A18 := qd.mk A180
   clear A180
   obtain ⟨y194, hy194⟩ : ∃ y_ : List Int, y_ = (([t192, t193, 1] : List Int)) := ⟨_, rfl⟩
   replace H : ((cmp_Or_int.f k y194).bind fun t197 => (some t197)) = some r := by first | (rw [hy194]; with_reducible exact H) | (have H2_ := (Option.bind_some _ _).symm.trans H; rw [hy194]; with_reducible exact H2_) | (have H2_ := (Option.bind_some _ _).symm.trans H; with_reducible exact H2_) | with_reducible exact H | (rw [hy194]; exact H) | exact H
   have Ny194 := qd.mk hy194
   clear hy194
   replace H := Option.bind_eq_some_iff.mp H
   obtain ⟨t197, A190, H⟩ := H
   replace H : (some t197) = some r := H
   have A19 := qd.mk A190
   clear A190
   obtain rfl := Option.some.inj H
   go_enter Try.func104, Try.ntmps104
   try go_wp2_with (first | ((with_reducible refine za (N := 2) rfl ?_); refine qy ?hg (N := 2) ?hd (cs := #[.int .i64 a0_0, .int .i64 a0_1, .bool a0_2]) (t := 38) ?hr ?_; (case hd => rfl); (case hg => rfl); (case hr => first | (go_simp; done) | (go_simp; rfl)); intro gb184 hg w20 hbox hb; have n0_ := qd.mk (qn (be0_ HB) hb); have n1_ := qd.mk (hbox); have n2_ := qd.mk ((by rw [hg]; exact (qm (be0_ HB)) : w.heap.size ≤ gb184)); have n3_ := qd.mk ((by rw [hg]; exact (qm (be0_ HB)) : w.heap.size ≤ gb184)); clear HB; have HB := n0_; have BK184 := n1_; have GW184 := n2_; have GE184 := n3_; clear n0_ n1_ n2_ n3_; clear hb hbox hg) | ((with_reducible refine za (N := 3) rfl ?_); refine qy ?hg (N := 3) ?hd (cs := #[.int .i64 a1_0, .int .i64 a1_1, .bool false]) (t := 38) ?hr ?_; (case hd => rfl); (case hg => rfl); (case hr => first | (go_simp; done) | (go_simp; rfl)); intro gb185 hg w21 hbox hb; have n0_ := qd.mk (ql (g := gb184) (o := .cells #[.int .i64 a0_0, .int .i64 a0_1, .bool a0_2] 38 (0, 0)) (bk_ BK184) hb); have n1_ := qd.mk (qn (be1_ HB GE184) hb); have n2_ := qd.mk (hbox); have n3_ := qd.mk ((by rw [hg]; exact (qm (be1_ HB GE184)) : w.heap.size ≤ gb185)); have n4_ := qd.mk ((by rw [hg]; exact (qm (be1_ HB GE184)) : w.heap.size ≤ gb185)); have n5_ := qd.mk ((by rw [hg]; exact Nat.ne_of_lt (qr (g := gb184) (o := .cells #[.int .i64 a0_0, .int .i64 a0_1, .bool a0_2] 38 (0, 0)) (bk_ BK184)) : gb184 ≠ gb185)); have n6_ := qd.mk ((by rw [hg]; exact Nat.ne_of_gt (qr (g := gb184) (o := .cells #[.int .i64 a0_0, .int .i64 a0_1, .bool a0_2] 38 (0, 0)) (bk_ BK184)) : gb185 ≠ gb184)); clear BK184; clear HB; have BK184 := n0_; have HB := n1_; have BK185 := n2_; have GW185 := n3_; have GE185 := n4_; have NB184_185 := n5_; have NB185_184 := n6_; clear n0_ n1_ n2_ n3_ n4_ n5_ n6_; clear hb hbox hg; have hnb22 := NB184_185.out; have hnc22 := NB185_184.out; have hcz23_0 : w21.cell? ⟨gb184, 0, none⟩ = some (.int .i64 a0_0) := (qi BK184.out 0).trans rfl; have hcz23_1 : w21.cell? ⟨gb184, 1, none⟩ = some (.int .i64 a0_1) := (qi BK184.out 1).trans rfl; have hcz23_2 : w21.cell? ⟨gb184, 2, none⟩ = some (.bool a0_2) := (qi BK184.out 2).trans rfl; have hfz23_0 := qj BK184.out 0; have hfz23_1 := qj BK184.out 1; have hfz23_2 := qj BK184.out 2; have hcz24_0 : w21.cell? ⟨gb185, 0, none⟩ = some (.int .i64 a1_0) := (qi BK185.out 0).trans rfl; have hcz24_1 : w21.cell? ⟨gb185, 1, none⟩ = some (.int .i64 a1_1) := (qi BK185.out 1).trans rfl; have hcz24_2 : w21.cell? ⟨gb185, 2, none⟩ = some (.bool false) := (qi BK185.out 2).trans rfl; have hfz24_0 := qj BK185.out 0; have hfz24_1 := qj BK185.out 1; have hfz24_2 := qj BK185.out 2))
   have n0_ := qd.mk (qe BK184.out)
   have n1_ := qd.mk (qe BK185.out)
   have n2_ := qd.mk (qh HB.out)
   clear BK184
   clear BK185
   clear HB
   have BK184 := n0_
   have BK185 := n1_
   have HB := n2_
   clear n0_ n1_ n2_
   refine jj (n := 14) (S := fun w' => w'.cell? ⟨gb184, 0, none⟩ = some (.int .i64 a0_0) ∧ w'.cell? ⟨gb184, 1, none⟩ = some (.int .i64 a0_1) ∧ w'.cell? ⟨gb184, 2, none⟩ = some (.bool a0_2) ∧ w'.cell? ⟨gb185, 0, none⟩ = some (.int .i64 a1_0) ∧ w'.cell? ⟨gb185, 1, none⟩ = some (.int .i64 a1_1) ∧ w'.cell? ⟨gb185, 2, none⟩ = some (.bool false)) (ds := []) #[false, false, false, false, false, false, false, false, false, false, false, false, false, false] (by kernel_rfl) rfl rfl ⟨(qi BK184.out 0).trans rfl, (qi BK184.out 1).trans rfl, (qi BK184.out 2).trans rfl, (qi BK185.out 0).trans rfl, (qi BK185.out 1).trans rfl, (qi BK185.out 2).trans rfl⟩ (fun hHeld => ?_); refine with_tabW impl_compareBlocks.tab6 impl_compareBlocks.bits6 (fun HT_ HW_ => ?_)
   generalize w21.drew = w25 at BK184 BK185 HB hHeld ⊢
   refine pure_ (i := 0) (N := some 13) (v := ?_) (a' := ?_) #[true, false, false, false, false, false, false, false, false, false, false, false, false, false] rfl rfl (qz HT_.out (by kernel_rfl)) (fun _ _ _ h => h) (Or.inl ⟨by rfl, ?_⟩) ?_ ?_
   rotate_left
   ·intro w'
    go_simp
    with_reducible rfl
   rotate_left
   ·simp only [Act.put, sA_, sB_, sC_, i64_w, i32_w]
    rfl
   refine pure_ (i := 2) (N := some 15) (v := ?_) (a' := ?_) #[true, false, true, false, false, false, false, false, false, false, false, false, false, false] rfl rfl (qz HT_.out (by kernel_rfl)) (fun _ _ _ h => h) (Or.inl ⟨by rfl, ?_⟩) ?_ ?_
   rotate_left
   ·intro w'
    go_simp
    with_reducible rfl
   rotate_left
   ·simp only [Act.put, sA_, sB_, sC_, i64_w, i32_w]
    rfl
   refine pure_ (i := 5) (N := some 18) (v := ?_) (a' := ?_) #[true, false, true, false, false, true, false, false, false, false, false, false, false, false] rfl rfl (qz HT_.out (by kernel_rfl)) (fun _ _ _ h => h) (Or.inl ⟨by rfl, ?_⟩) ?_ ?_
   rotate_left
   ·intro w'
    go_simp
    with_reducible rfl
   rotate_left
   ·simp only [Act.put, sA_, sB_, sC_, i64_w, i32_w]
    rfl
   refine pure_ (i := 7) (N := some 20) (v := ?_) (a' := ?_) #[true, false, true, false, false, true, false, true, false, false, false, false, false, false] rfl rfl (qz HT_.out (by kernel_rfl)) (fun _ _ _ h => h) (Or.inl ⟨by rfl, ?_⟩) ?_ ?_
   rotate_left
   ·intro w'
    go_simp
    with_reducible rfl
   rotate_left
   ·simp only [Act.put, sA_, sB_, sC_, i64_w, i32_w]
    rfl
   refine pure_ (i := 10) (N := some 23) (v := ?_) (a' := ?_) #[true, false, true, false, false, true, false, true, false, false, true, false, false, false] rfl rfl (qz HT_.out (by kernel_rfl)) (fun _ _ _ h => h) (Or.inl ⟨by rfl, ?_⟩) ?_ ?_
   rotate_left
   ·intro w'
    go_simp
    with_reducible rfl
   rotate_left
   ·simp only [Act.put, sA_, sB_, sC_, i64_w, i32_w]
    rfl
   refine take_ (i := 1) (N := some 14) (v := ?_) (a' := ?_) #[true, true, true, false, false, true, false, true, false, false, true, false, false, false] rfl rfl (zi HT_.out HW_.out (by kernel_rfl)) (fun _ _ _ h => h) (Or.inl ⟨by rfl, ?_⟩) hHeld ?_ ?_
   rotate_left
   ·rintro w' ⟨s0, s1, s2, s3, s4, s5⟩
    go_simp
    with_reducible rfl
   rotate_left
   ·simp only [Act.put, sA_, sB_, sC_, i64_w, i32_w]
    rfl
   refine take_ (i := 3) (N := some 16) (v := ?_) (a' := ?_) #[true, true, true, true, false, true, false, true, false, false, true, false, false, false] rfl rfl (zi HT_.out HW_.out (by kernel_rfl)) (fun _ _ _ h => h) (Or.inl ⟨by rfl, ?_⟩) hHeld ?_ ?_
   rotate_left
   ·rintro w' ⟨s0, s1, s2, s3, s4, s5⟩
    go_simp
    with_reducible rfl
   rotate_left
   ·simp only [Act.put, sA_, sB_, sC_, i64_w, i32_w]
    rfl
   refine take_ (i := 6) (N := some 19) (v := ?_) (a' := ?_) #[true, true, true, true, false, true, true, true, false, false, true, false, false, false] rfl rfl (zi HT_.out HW_.out (by kernel_rfl)) (fun _ _ _ h => h) (Or.inl ⟨by rfl, ?_⟩) hHeld ?_ ?_
   rotate_left
   ·rintro w' ⟨s0, s1, s2, s3, s4, s5⟩
    go_simp
    with_reducible rfl
   rotate_left
   ·simp only [Act.put, sA_, sB_, sC_, i64_w, i32_w]
    rfl
   refine take_ (i := 8) (N := some 21) (v := ?_) (a' := ?_) #[true, true, true, true, false, true, true, true, true, false, true, false, false, false] rfl rfl (zi HT_.out HW_.out (by kernel_rfl)) (fun _ _ _ h => h) (Or.inl ⟨by rfl, ?_⟩) hHeld ?_ ?_
   rotate_left
   ·rintro w' ⟨s0, s1, s2, s3, s4, s5⟩
    go_simp
    with_reducible rfl
   rotate_left
   ·simp only [Act.put, sA_, sB_, sC_, i64_w, i32_w]
    rfl
   refine one_ (i := 4) (N := some 17) #[true, true, true, true, true, true, true, true, true, false, true, false, false, false] rfl rfl (jf HT_.out (by kernel_rfl)) (by decide) (fun K hK => ?_)
   refine goes_ Try.func124 (by kernel_rfl) rfl #[.int .i64 a0_0, .int .i64 a1_0] (by rfl) rfl rfl (by (try simp only [List.map_toArray, List.map_cons, List.map_nil]); first | done | rfl | (simp only [List.length_drop, List.length_take]; rfl)) ?_
   with_reducible refine (cmp_Compare_int.calls a0_0 a1_0 t192 _ A17.out).mono ?_
   rintro e w' ⟨rfl, ⟨nd, rfl⟩⟩
   refine ⟨_, rfl, ?_⟩
   refine hK.out _ _ ⟨(qi BK184.out 0).trans rfl, (qi BK184.out 1).trans rfl, (qi BK184.out 2).trans rfl, (qi BK185.out 0).trans rfl, (qi BK185.out 1).trans rfl, (qi BK185.out 2).trans rfl⟩ (fun hHeld => ?_)
   clear hK K
   refine norm_ (a' := ?_) ?_ ?_
   rotate_left
   ·show Act.put _ (some 17) _ = _
    simp only [Act.put, sA_, sB_, sC_, i64_w, i32_w]
    rfl
   refine one_ (i := 9) (N := some 22) #[true, true, true, true, true, true, true, true, true, true, true, false, false, false] rfl rfl (jf HT_.out (by kernel_rfl)) (by decide) (fun K hK => ?_)
   refine goes_ Try.func124 (by kernel_rfl) rfl #[.int .i64 a0_1, .int .i64 a1_1] (by rfl) rfl rfl (by (try simp only [List.map_toArray, List.map_cons, List.map_nil]); first | done | rfl | (simp only [List.length_drop, List.length_take]; rfl)) ?_
   with_reducible refine (cmp_Compare_int.calls a0_1 a1_1 t193 _ A18.out).mono ?_
   rintro e w' ⟨rfl, ⟨nd, rfl⟩⟩
   refine ⟨_, rfl, ?_⟩
   refine hK.out _ _ ⟨(qi BK184.out 0).trans rfl, (qi BK184.out 1).trans rfl, (qi BK184.out 2).trans rfl, (qi BK185.out 0).trans rfl, (qi BK185.out 1).trans rfl, (qi BK185.out 2).trans rfl⟩ (fun hHeld => ?_)
   clear hK K
   refine norm_ (a' := ?_) ?_ ?_
   rotate_left
   ·show Act.put _ (some 22) _ = _
    simp only [Act.put, sA_, sB_, sC_, i64_w, i32_w]
    rfl
   refine one_ (i := 11) (N := some 24) #[true, true, true, true, true, true, true, true, true, true, true, true, false, false] rfl rfl (jf HT_.out (by kernel_rfl)) (by decide) (fun K hK => ?_)
   refine Kd.R_lit_step (Kd.int .i64) _ 3 ?hg (N := 24) ?hd (xs := ([t192, t193, 1] : List Int)) (inner := [.int .i64 t192, .int .i64 t193, .int .i64 1]) (ok := fun _ => True) (okp := fun _ => True) ?hr ?hp (fun _ hk => hk) trivial (Below.refl _ _) (Nat.le_refl _) (by simp) ?_; (case hd => rfl); (case hg => rfl); (case hr => first | (go_simp; done) | (go_simp; rfl)); (case hp => exact (Reps.one (show Kd.M (Kd.int .i64) _ _ _ t192 [.int .i64 t192] from rfl) (Reps.one (show Kd.M (Kd.int .i64) _ _ _ t193 [.int .i64 t193] from rfl) (Reps.one (show Kd.M (Kd.int .i64) _ _ _ 1 [.int .i64 1] from rfl) (Reps.none _ _)))))
   intro v195 w26 ho27 hb hg_ hnew_
   clear hg_ hnew_
   (first | rw [← Ny194.out] at ho27 | (simp only [Int.reduceToNat] at ho27; rw [← Ny194.out] at ho27))
   have n0_ := qd.mk (Kd.zq ho27 (qm (be2_ HB GE184 GE185)))
   have n1_ := qd.mk (ql (g := gb184) (o := .cells #[.int .i64 a0_0, .int .i64 a0_1, .bool a0_2] 38 (0, 0)) (bk_ BK184) hb)
   have n2_ := qd.mk (ql (g := gb185) (o := .cells #[.int .i64 a1_0, .int .i64 a1_1, .bool false] 38 (0, 0)) (bk_ BK185) hb)
   have n3_ := qd.mk (qn (be2_ HB GE184 GE185) hb)
   clear BK184
   clear BK185
   clear HB
   have HO196 := n0_
   have BK184 := n1_
   have BK185 := n2_
   have HB := n3_
   clear n0_ n1_ n2_ n3_
   clear hb ho27
   obtain ⟨Ao28, co28, eo28⟩ := Kd.zr HO196.out
   (first | subst eo28 | (injection eo28 with f1_ f2_ f3_; have f4_ := f1_.symm; have f5_ := f3_.symm; clear f1_ f2_ f3_; subst f4_; subst f5_))
   refine hK.out _ _ ⟨(qi BK184.out 0).trans rfl, (qi BK184.out 1).trans rfl, (qi BK184.out 2).trans rfl, (qi BK185.out 0).trans rfl, (qi BK185.out 1).trans rfl, (qi BK185.out 2).trans rfl⟩ (fun hHeld => ?_)
   clear hK K
   refine norm_ (a' := ?_) ?_ ?_
   rotate_left
   ·show Act.put _ (some 24) _ = _
    simp only [Act.put, sA_, sB_, sC_, i64_w, i32_w]
    rfl
   refine one_ (i := 12) (N := some 25) #[true, true, true, true, true, true, true, true, true, true, true, true, true, false] rfl rfl (jf HT_.out (by kernel_rfl)) (by decide) (fun K hK => ?_)
   refine goes_ Try.func123 (by kernel_rfl) rfl #[.slice Ao28 y194.length co28] (by rfl) rfl rfl (by (try simp only [List.map_toArray, List.map_cons, List.map_nil]); first | done | rfl | (simp only [List.length_drop, List.length_take]; rfl)) ?_
   with_reducible refine (cmp_Or_int.calls k _ _ y194 t197 _ ?side1 ?side2 A19.out).mono ?_
   (case side1 => repeat (first | exact (Kd.zb HO196.out).2.2 | (with_reducible refine Kd.ze ?_ _) | (with_reducible refine Kd.zd ?_ _) | (with_reducible refine Kd.zh ?_)))
   (case side2 => exact (Kd.zb HO196.out).2.1)
   rintro e w' ⟨rfl, ⟨nd, rfl⟩⟩
   refine ⟨_, rfl, ?_⟩
   refine hK.out _ _ ⟨(qi BK184.out 0).trans rfl, (qi BK184.out 1).trans rfl, (qi BK184.out 2).trans rfl, (qi BK185.out 0).trans rfl, (qi BK185.out 1).trans rfl, (qi BK185.out 2).trans rfl⟩ (fun hHeld => ?_)
   clear hK K
   refine norm_ (a' := ?_) ?_ ?_
   rotate_left
   ·show Act.put _ (some 25) _ = _
    simp only [Act.put, sA_, sB_, sC_, i64_w, i32_w]
    rfl
   refine pure_ (i := 13) (N := some 4) (v := ?_) (a' := ?_) #[true, true, true, true, true, true, true, true, true, true, true, true, true, true] rfl rfl (qz HT_.out (by kernel_rfl)) (fun _ _ _ h => h) (Or.inl ⟨by rfl, ?_⟩) ?_ ?_
   rotate_left
   ·intro w'
    go_simp
    with_reducible rfl
   rotate_left
   ·simp only [Act.put, sA_, sB_, sC_, i64_w, i32_w]
    rfl
   refine done_ (done_of HT_.out (by kernel_rfl)) ?_
   try go_wp2
   go_ret
   exact ⟨by first | rfl | (simp [qq, qp] <;> rfl) | (simp [*, qq, qp] <;> rfl), be2_ HB GE184 GE185⟩
 ·rw [if_neg c3] at H
  have c3b0 : (a0_2 != a1_2) = false := by simpa using c3
  (try (have c3b1 : decide (a0_2 = a1_2) = true := by simpa using c3))
  (try (have c3b2 : (a0_2 == a1_2) = true := by simpa using c3))
  clear c3
  replace H := Option.bind_eq_some_iff.mp H
  obtain ⟨t198, A290, H⟩ := H
  replace H : ((cmp_Compare_int.f a0_1 a1_1).bind fun t199 => ((cmp_Or_int.f k (([t198, t199, 0] : List Int))).bind fun t203 => (some t203))) = some r := H
  have A29 := qd.mk A290
  clear A290
  replace H := Option.bind_eq_some_iff.mp H
  obtain ⟨t199, A300, H⟩ := H
  replace H : ((cmp_Or_int.f k (([t198, t199, 0] : List Int))).bind fun t203 => (some t203)) = some r := H
  have A30 := qd.mk A300
  clear A300
  obtain ⟨y200, hy200⟩ : ∃ y_ : List Int, y_ = (([t198, t199, 0] : List Int)) := ⟨_, rfl⟩
  replace H : ((cmp_Or_int.f k y200).bind fun t203 => (some t203)) = some r := by first | (rw [hy200]; with_reducible exact H) | (have H2_ := (Option.bind_some _ _).symm.trans H; rw [hy200]; with_reducible exact H2_) | (have H2_ := (Option.bind_some _ _).symm.trans H; with_reducible exact H2_) | with_reducible exact H | (rw [hy200]; exact H) | exact H
  have Ny200 := qd.mk hy200
  clear hy200
  replace H := Option.bind_eq_some_iff.mp H
  obtain ⟨t203, A310, H⟩ := H
  replace H : (some t203) = some r := H
  have A31 := qd.mk A310
  clear A310
  obtain rfl := Option.some.inj H
  go_enter Try.func104, Try.ntmps104
  try go_wp2_with (first | ((with_reducible refine za (N := 2) rfl ?_); refine qy ?hg (N := 2) ?hd (cs := #[.int .i64 a0_0, .int .i64 a0_1, .bool a0_2]) (t := 38) ?hr ?_; (case hd => rfl); (case hg => rfl); (case hr => first | (go_simp; done) | (go_simp; rfl)); intro gb184 hg w32 hbox hb; have n0_ := qd.mk (qn (be0_ HB) hb); have n1_ := qd.mk (hbox); have n2_ := qd.mk ((by rw [hg]; exact (qm (be0_ HB)) : w.heap.size ≤ gb184)); have n3_ := qd.mk ((by rw [hg]; exact (qm (be0_ HB)) : w.heap.size ≤ gb184)); clear HB; have HB := n0_; have BK184 := n1_; have GW184 := n2_; have GE184 := n3_; clear n0_ n1_ n2_ n3_; clear hb hbox hg) | ((with_reducible refine za (N := 3) rfl ?_); refine qy ?hg (N := 3) ?hd (cs := #[.int .i64 a1_0, .int .i64 a1_1, .bool a1_2]) (t := 38) ?hr ?_; (case hd => rfl); (case hg => rfl); (case hr => first | (go_simp; done) | (go_simp; rfl)); intro gb185 hg w33 hbox hb; have n0_ := qd.mk (ql (g := gb184) (o := .cells #[.int .i64 a0_0, .int .i64 a0_1, .bool a0_2] 38 (0, 0)) (bk_ BK184) hb); have n1_ := qd.mk (qn (be1_ HB GE184) hb); have n2_ := qd.mk (hbox); have n3_ := qd.mk ((by rw [hg]; exact (qm (be1_ HB GE184)) : w.heap.size ≤ gb185)); have n4_ := qd.mk ((by rw [hg]; exact (qm (be1_ HB GE184)) : w.heap.size ≤ gb185)); have n5_ := qd.mk ((by rw [hg]; exact Nat.ne_of_lt (qr (g := gb184) (o := .cells #[.int .i64 a0_0, .int .i64 a0_1, .bool a0_2] 38 (0, 0)) (bk_ BK184)) : gb184 ≠ gb185)); have n6_ := qd.mk ((by rw [hg]; exact Nat.ne_of_gt (qr (g := gb184) (o := .cells #[.int .i64 a0_0, .int .i64 a0_1, .bool a0_2] 38 (0, 0)) (bk_ BK184)) : gb185 ≠ gb184)); clear BK184; clear HB; have BK184 := n0_; have HB := n1_; have BK185 := n2_; have GW185 := n3_; have GE185 := n4_; have NB184_185 := n5_; have NB185_184 := n6_; clear n0_ n1_ n2_ n3_ n4_ n5_ n6_; clear hb hbox hg; have hnb34 := NB184_185.out; have hnc34 := NB185_184.out; have hcz35_0 : w33.cell? ⟨gb184, 0, none⟩ = some (.int .i64 a0_0) := (qi BK184.out 0).trans rfl; have hcz35_1 : w33.cell? ⟨gb184, 1, none⟩ = some (.int .i64 a0_1) := (qi BK184.out 1).trans rfl; have hcz35_2 : w33.cell? ⟨gb184, 2, none⟩ = some (.bool a0_2) := (qi BK184.out 2).trans rfl; have hfz35_0 := qj BK184.out 0; have hfz35_1 := qj BK184.out 1; have hfz35_2 := qj BK184.out 2; have hcz36_0 : w33.cell? ⟨gb185, 0, none⟩ = some (.int .i64 a1_0) := (qi BK185.out 0).trans rfl; have hcz36_1 : w33.cell? ⟨gb185, 1, none⟩ = some (.int .i64 a1_1) := (qi BK185.out 1).trans rfl; have hcz36_2 : w33.cell? ⟨gb185, 2, none⟩ = some (.bool a1_2) := (qi BK185.out 2).trans rfl; have hfz36_0 := qj BK185.out 0; have hfz36_1 := qj BK185.out 1; have hfz36_2 := qj BK185.out 2))
  have n0_ := qd.mk (qe BK184.out)
  have n1_ := qd.mk (qe BK185.out)
  have n2_ := qd.mk (qh HB.out)
  clear BK184
  clear BK185
  clear HB
  have BK184 := n0_
  have BK185 := n1_
  have HB := n2_
  clear n0_ n1_ n2_
  refine jj (n := 14) (S := fun w' => w'.cell? ⟨gb184, 0, none⟩ = some (.int .i64 a0_0) ∧ w'.cell? ⟨gb184, 1, none⟩ = some (.int .i64 a0_1) ∧ w'.cell? ⟨gb184, 2, none⟩ = some (.bool a0_2) ∧ w'.cell? ⟨gb185, 0, none⟩ = some (.int .i64 a1_0) ∧ w'.cell? ⟨gb185, 1, none⟩ = some (.int .i64 a1_1) ∧ w'.cell? ⟨gb185, 2, none⟩ = some (.bool a1_2)) (ds := []) #[false, false, false, false, false, false, false, false, false, false, false, false, false, false] (by kernel_rfl) rfl rfl ⟨(qi BK184.out 0).trans rfl, (qi BK184.out 1).trans rfl, (qi BK184.out 2).trans rfl, (qi BK185.out 0).trans rfl, (qi BK185.out 1).trans rfl, (qi BK185.out 2).trans rfl⟩ (fun hHeld => ?_); refine with_tabW impl_compareBlocks.tab6 impl_compareBlocks.bits6 (fun HT_ HW_ => ?_)
  generalize w33.drew = w37 at BK184 BK185 HB hHeld ⊢
  refine pure_ (i := 0) (N := some 13) (v := ?_) (a' := ?_) #[true, false, false, false, false, false, false, false, false, false, false, false, false, false] rfl rfl (qz HT_.out (by kernel_rfl)) (fun _ _ _ h => h) (Or.inl ⟨by rfl, ?_⟩) ?_ ?_
  rotate_left
  ·intro w'
   go_simp
   with_reducible rfl
  rotate_left
  ·simp only [Act.put, sA_, sB_, sC_, i64_w, i32_w]
   rfl
  refine pure_ (i := 2) (N := some 15) (v := ?_) (a' := ?_) #[true, false, true, false, false, false, false, false, false, false, false, false, false, false] rfl rfl (qz HT_.out (by kernel_rfl)) (fun _ _ _ h => h) (Or.inl ⟨by rfl, ?_⟩) ?_ ?_
  rotate_left
  ·intro w'
   go_simp
   with_reducible rfl
  rotate_left
  ·simp only [Act.put, sA_, sB_, sC_, i64_w, i32_w]
   rfl
  refine pure_ (i := 5) (N := some 18) (v := ?_) (a' := ?_) #[true, false, true, false, false, true, false, false, false, false, false, false, false, false] rfl rfl (qz HT_.out (by kernel_rfl)) (fun _ _ _ h => h) (Or.inl ⟨by rfl, ?_⟩) ?_ ?_
  rotate_left
  ·intro w'
   go_simp
   with_reducible rfl
  rotate_left
  ·simp only [Act.put, sA_, sB_, sC_, i64_w, i32_w]
   rfl
  refine pure_ (i := 7) (N := some 20) (v := ?_) (a' := ?_) #[true, false, true, false, false, true, false, true, false, false, false, false, false, false] rfl rfl (qz HT_.out (by kernel_rfl)) (fun _ _ _ h => h) (Or.inl ⟨by rfl, ?_⟩) ?_ ?_
  rotate_left
  ·intro w'
   go_simp
   with_reducible rfl
  rotate_left
  ·simp only [Act.put, sA_, sB_, sC_, i64_w, i32_w]
   rfl
  refine pure_ (i := 10) (N := some 23) (v := ?_) (a' := ?_) #[true, false, true, false, false, true, false, true, false, false, true, false, false, false] rfl rfl (qz HT_.out (by kernel_rfl)) (fun _ _ _ h => h) (Or.inl ⟨by rfl, ?_⟩) ?_ ?_
  rotate_left
  ·intro w'
   go_simp
   with_reducible rfl
  rotate_left
  ·simp only [Act.put, sA_, sB_, sC_, i64_w, i32_w]
   rfl
  refine take_ (i := 1) (N := some 14) (v := ?_) (a' := ?_) #[true, true, true, false, false, true, false, true, false, false, true, false, false, false] rfl rfl (zi HT_.out HW_.out (by kernel_rfl)) (fun _ _ _ h => h) (Or.inl ⟨by rfl, ?_⟩) hHeld ?_ ?_
  rotate_left
  ·rintro w' ⟨s0, s1, s2, s3, s4, s5⟩
   go_simp
   with_reducible rfl
  rotate_left
  ·simp only [Act.put, sA_, sB_, sC_, i64_w, i32_w]
   rfl
  refine take_ (i := 3) (N := some 16) (v := ?_) (a' := ?_) #[true, true, true, true, false, true, false, true, false, false, true, false, false, false] rfl rfl (zi HT_.out HW_.out (by kernel_rfl)) (fun _ _ _ h => h) (Or.inl ⟨by rfl, ?_⟩) hHeld ?_ ?_
  rotate_left
  ·rintro w' ⟨s0, s1, s2, s3, s4, s5⟩
   go_simp
   with_reducible rfl
  rotate_left
  ·simp only [Act.put, sA_, sB_, sC_, i64_w, i32_w]
   rfl
  refine take_ (i := 6) (N := some 19) (v := ?_) (a' := ?_) #[true, true, true, true, false, true, true, true, false, false, true, false, false, false] rfl rfl (zi HT_.out HW_.out (by kernel_rfl)) (fun _ _ _ h => h) (Or.inl ⟨by rfl, ?_⟩) hHeld ?_ ?_
  rotate_left
  ·rintro w' ⟨s0, s1, s2, s3, s4, s5⟩
   go_simp
   with_reducible rfl
  rotate_left
  ·simp only [Act.put, sA_, sB_, sC_, i64_w, i32_w]
   rfl
  refine take_ (i := 8) (N := some 21) (v := ?_) (a' := ?_) #[true, true, true, true, false, true, true, true, true, false, true, false, false, false] rfl rfl (zi HT_.out HW_.out (by kernel_rfl)) (fun _ _ _ h => h) (Or.inl ⟨by rfl, ?_⟩) hHeld ?_ ?_
  rotate_left
  ·rintro w' ⟨s0, s1, s2, s3, s4, s5⟩
   go_simp
   with_reducible rfl
  rotate_left
  ·simp only [Act.put, sA_, sB_, sC_, i64_w, i32_w]
   rfl
  refine one_ (i := 4) (N := some 17) #[true, true, true, true, true, true, true, true, true, false, true, false, false, false] rfl rfl (jf HT_.out (by kernel_rfl)) (by decide) (fun K hK => ?_)
  refine goes_ Try.func124 (by kernel_rfl) rfl #[.int .i64 a0_0, .int .i64 a1_0] (by rfl) rfl rfl (by (try simp only [List.map_toArray, List.map_cons, List.map_nil]); first | done | rfl | (simp only [List.length_drop, List.length_take]; rfl)) ?_
  with_reducible refine (cmp_Compare_int.calls a0_0 a1_0 t198 _ A29.out).mono ?_
  rintro e w' ⟨rfl, ⟨nd, rfl⟩⟩
  refine ⟨_, rfl, ?_⟩
  refine hK.out _ _ ⟨(qi BK184.out 0).trans rfl, (qi BK184.out 1).trans rfl, (qi BK184.out 2).trans rfl, (qi BK185.out 0).trans rfl, (qi BK185.out 1).trans rfl, (qi BK185.out 2).trans rfl⟩ (fun hHeld => ?_)
  clear hK K
  refine norm_ (a' := ?_) ?_ ?_
  rotate_left
  ·show Act.put _ (some 17) _ = _
   simp only [Act.put, sA_, sB_, sC_, i64_w, i32_w]
   rfl
  refine one_ (i := 9) (N := some 22) #[true, true, true, true, true, true, true, true, true, true, true, false, false, false] rfl rfl (jf HT_.out (by kernel_rfl)) (by decide) (fun K hK => ?_)
  refine goes_ Try.func124 (by kernel_rfl) rfl #[.int .i64 a0_1, .int .i64 a1_1] (by rfl) rfl rfl (by (try simp only [List.map_toArray, List.map_cons, List.map_nil]); first | done | rfl | (simp only [List.length_drop, List.length_take]; rfl)) ?_
  with_reducible refine (cmp_Compare_int.calls a0_1 a1_1 t199 _ A30.out).mono ?_
  rintro e w' ⟨rfl, ⟨nd, rfl⟩⟩
  refine ⟨_, rfl, ?_⟩
  refine hK.out _ _ ⟨(qi BK184.out 0).trans rfl, (qi BK184.out 1).trans rfl, (qi BK184.out 2).trans rfl, (qi BK185.out 0).trans rfl, (qi BK185.out 1).trans rfl, (qi BK185.out 2).trans rfl⟩ (fun hHeld => ?_)
  clear hK K
  refine norm_ (a' := ?_) ?_ ?_
  rotate_left
  ·show Act.put _ (some 22) _ = _
   simp only [Act.put, sA_, sB_, sC_, i64_w, i32_w]
   rfl
  refine one_ (i := 11) (N := some 24) #[true, true, true, true, true, true, true, true, true, true, true, true, false, false] rfl rfl (jf HT_.out (by kernel_rfl)) (by decide) (fun K hK => ?_)
  refine Kd.R_lit_step (Kd.int .i64) _ 3 ?hg (N := 24) ?hd (xs := ([t198, t199, 0] : List Int)) (inner := [.int .i64 t198, .int .i64 t199, .int .i64 0]) (ok := fun _ => True) (okp := fun _ => True) ?hr ?hp (fun _ hk => hk) trivial (Below.refl _ _) (Nat.le_refl _) (by simp) ?_; (case hd => rfl); (case hg => rfl); (case hr => first | (go_simp; done) | (go_simp; rfl)); (case hp => exact (Reps.one (show Kd.M (Kd.int .i64) _ _ _ t198 [.int .i64 t198] from rfl) (Reps.one (show Kd.M (Kd.int .i64) _ _ _ t199 [.int .i64 t199] from rfl) (Reps.one (show Kd.M (Kd.int .i64) _ _ _ 0 [.int .i64 0] from rfl) (Reps.none _ _)))))
  intro v201 w38 ho39 hb hg_ hnew_
  clear hg_ hnew_
  (first | rw [← Ny200.out] at ho39 | (simp only [Int.reduceToNat] at ho39; rw [← Ny200.out] at ho39))
  have n0_ := qd.mk (Kd.zq ho39 (qm (be2_ HB GE184 GE185)))
  have n1_ := qd.mk (ql (g := gb184) (o := .cells #[.int .i64 a0_0, .int .i64 a0_1, .bool a0_2] 38 (0, 0)) (bk_ BK184) hb)
  have n2_ := qd.mk (ql (g := gb185) (o := .cells #[.int .i64 a1_0, .int .i64 a1_1, .bool a1_2] 38 (0, 0)) (bk_ BK185) hb)
  have n3_ := qd.mk (qn (be2_ HB GE184 GE185) hb)
  clear BK184
  clear BK185
  clear HB
  have HO202 := n0_
  have BK184 := n1_
  have BK185 := n2_
  have HB := n3_
  clear n0_ n1_ n2_ n3_
  clear hb ho39
  obtain ⟨Ao40, co40, eo40⟩ := Kd.zr HO202.out
  (first | subst eo40 | (injection eo40 with f1_ f2_ f3_; have f4_ := f1_.symm; have f5_ := f3_.symm; clear f1_ f2_ f3_; subst f4_; subst f5_))
  refine hK.out _ _ ⟨(qi BK184.out 0).trans rfl, (qi BK184.out 1).trans rfl, (qi BK184.out 2).trans rfl, (qi BK185.out 0).trans rfl, (qi BK185.out 1).trans rfl, (qi BK185.out 2).trans rfl⟩ (fun hHeld => ?_)
  clear hK K
  refine norm_ (a' := ?_) ?_ ?_
  rotate_left
  ·show Act.put _ (some 24) _ = _
   simp only [Act.put, sA_, sB_, sC_, i64_w, i32_w]
   rfl
  refine one_ (i := 12) (N := some 25) #[true, true, true, true, true, true, true, true, true, true, true, true, true, false] rfl rfl (jf HT_.out (by kernel_rfl)) (by decide) (fun K hK => ?_)
  refine goes_ Try.func123 (by kernel_rfl) rfl #[.slice Ao40 y200.length co40] (by rfl) rfl rfl (by (try simp only [List.map_toArray, List.map_cons, List.map_nil]); first | done | rfl | (simp only [List.length_drop, List.length_take]; rfl)) ?_
  with_reducible refine (cmp_Or_int.calls k _ _ y200 t203 _ ?side1 ?side2 A31.out).mono ?_
  (case side1 => repeat (first | exact (Kd.zb HO202.out).2.2 | (with_reducible refine Kd.ze ?_ _) | (with_reducible refine Kd.zd ?_ _) | (with_reducible refine Kd.zh ?_)))
  (case side2 => exact (Kd.zb HO202.out).2.1)
  rintro e w' ⟨rfl, ⟨nd, rfl⟩⟩
  refine ⟨_, rfl, ?_⟩
  refine hK.out _ _ ⟨(qi BK184.out 0).trans rfl, (qi BK184.out 1).trans rfl, (qi BK184.out 2).trans rfl, (qi BK185.out 0).trans rfl, (qi BK185.out 1).trans rfl, (qi BK185.out 2).trans rfl⟩ (fun hHeld => ?_)
  clear hK K
  refine norm_ (a' := ?_) ?_ ?_
  rotate_left
  ·show Act.put _ (some 25) _ = _
   simp only [Act.put, sA_, sB_, sC_, i64_w, i32_w]
   rfl
  refine pure_ (i := 13) (N := some 4) (v := ?_) (a' := ?_) #[true, true, true, true, true, true, true, true, true, true, true, true, true, true] rfl rfl (qz HT_.out (by kernel_rfl)) (fun _ _ _ h => h) (Or.inl ⟨by rfl, ?_⟩) ?_ ?_
  rotate_left
  ·intro w'
   go_simp
   with_reducible rfl
  rotate_left
  ·simp only [Act.put, sA_, sB_, sC_, i64_w, i32_w]
   rfl
  refine done_ (done_of HT_.out (by kernel_rfl)) ?_
  try go_wp2
  go_ret
  exact ⟨by first | rfl | (simp [qq, qp] <;> rfl) | (simp [*, qq, qp] <;> rfl), be2_ HB GE184 GE185⟩
def impl_isBlock.f (a0_0 : Int) (a0_1 : Int) (l0_2 : List (S38)) (a1_0 : Int) (a1_1 : Int) (a1_2 : Bool) : Option (Bool) := if a1_2 = true then ((impl_within.f a1_0 0 (wrap64 (a0_0 - 1))).bind fun t206 => (if t206 = true then ((impl_within.f a1_1 0 (wrap64 (a0_1 - 2))).bind fun t207 => (some t207)) else (some false))) else ((impl_within.f a1_0 0 (wrap64 (a0_0 - 2))).bind fun t208 => (if t208 = true then ((impl_within.f a1_1 0 (wrap64 (a0_1 - 1))).bind fun t209 => (some t209)) else (some false)))
set_option maxHeartbeats 8000000 in
set_option maxRecDepth 100000 in
theorem impl_isBlock.calls (a0_0 : Int) (a0_1 : Int) (A0_2 : Option Addr) (c0_2 : Nat) (l0_2 : List (S38)) (a1_0 : Int) (a1_1 : Int) (a1_2 : Bool) (r : Bool) (w : World) (hr0_2 : Kd.C k38 w A0_2 l0_2.length l0_2) (hc0_2 : l0_2.length ≤ c0_2) (h : impl_isBlock.f a0_0 a0_1 l0_2 a1_0 a1_1 a1_2 = some r) :
  Calls Try.prog 105 #[.agg #[.int .i64 a0_0, .int .i64 a0_1, .slice A0_2 l0_2.length c0_2], .agg #[.int .i64 a1_0, .int .i64 a1_1, .bool a1_2]] w fun e w' => e = .returned (.bool r) ∧ Below w.heap.size w w' := by
 have hu30 := Try.underlying30
 have hu38 := Try.underlying38
 have HR0_2 := qd.mk hr0_2
 have HC0_2 := qd.mk hc0_2
 clear hr0_2 hc0_2
 have HB := qd.mk (Below.refl w.heap.size w)
 have H : (if a1_2 = true then ((impl_within.f a1_0 0 (wrap64 (a0_0 - 1))).bind fun t206 => (if t206 = true then ((impl_within.f a1_1 0 (wrap64 (a0_1 - 2))).bind fun t207 => (some t207)) else (some false))) else ((impl_within.f a1_0 0 (wrap64 (a0_0 - 2))).bind fun t208 => (if t208 = true then ((impl_within.f a1_1 0 (wrap64 (a0_1 - 1))).bind fun t209 => (some t209)) else (some false)))) = some r := h
 clear h
 by_cases c3 : a1_2 = true
 ·subst c3
  have H1 : ((impl_within.f a1_0 0 (wrap64 (a0_0 - 1))).bind fun t206 => (if t206 = true then ((impl_within.f a1_1 0 (wrap64 (a0_1 - 2))).bind fun t207 => (some t207)) else (some false))) = some r := by rw [if_pos rfl] at H; exact H
  clear H
  have H := H1
  clear H1
  replace H := Option.bind_eq_some_iff.mp H
  obtain ⟨t206, A40, H⟩ := H
  replace H : (if t206 = true then ((impl_within.f a1_1 0 (wrap64 (a0_1 - 2))).bind fun t207 => (some t207)) else (some false)) = some r := H
  have A4 := qd.mk A40
  clear A40
  by_cases c5 : t206 = true
  ·subst c5
   have H1 : ((impl_within.f a1_1 0 (wrap64 (a0_1 - 2))).bind fun t207 => (some t207)) = some r := by rw [if_pos rfl] at H; exact H
   clear H
   have H := H1
   clear H1
   replace H := Option.bind_eq_some_iff.mp H
   obtain ⟨t207, A60, H⟩ := H
   replace H : (some t207) = some r := H
   have A6 := qd.mk A60
   clear A60
   obtain rfl := Option.some.inj H
   go_enter Try.func105, Try.ntmps105
   go_wp2_with (first | ((with_reducible refine za (N := 2) rfl ?_); refine qy ?hg (N := 2) ?hd (cs := #[.int .i64 a0_0, .int .i64 a0_1, .slice A0_2 l0_2.length c0_2]) (t := 30) ?hr ?_; (case hd => rfl); (case hg => rfl); (case hr => first | (go_simp; done) | (go_simp; rfl)); intro gb204 hg w7 hbox hb; have n0_ := qd.mk (qn (be0_ HB) hb); have n1_ := qd.mk (hbox); have n2_ := qd.mk ((by rw [hg]; exact (qm (be0_ HB)) : w.heap.size ≤ gb204)); have n3_ := qd.mk ((by rw [hg]; exact (qm (be0_ HB)) : w.heap.size ≤ gb204)); clear HB; have HB := n0_; have BK204 := n1_; have GW204 := n2_; have GE204 := n3_; clear n0_ n1_ n2_ n3_; clear hb hbox hg) | ((with_reducible refine za (N := 3) rfl ?_); refine qy ?hg (N := 3) ?hd (cs := #[.int .i64 a1_0, .int .i64 a1_1, .bool true]) (t := 38) ?hr ?_; (case hd => rfl); (case hg => rfl); (case hr => first | (go_simp; done) | (go_simp; rfl)); intro gb205 hg w8 hbox hb; have n0_ := qd.mk (ql (g := gb204) (o := .cells #[.int .i64 a0_0, .int .i64 a0_1, .slice A0_2 l0_2.length c0_2] 30 (0, 0)) (bk_ BK204) hb); have n1_ := qd.mk (qn (be1_ HB GE204) hb); have n2_ := qd.mk (hbox); have n3_ := qd.mk ((by rw [hg]; exact (qm (be1_ HB GE204)) : w.heap.size ≤ gb205)); have n4_ := qd.mk ((by rw [hg]; exact (qm (be1_ HB GE204)) : w.heap.size ≤ gb205)); have n5_ := qd.mk ((by rw [hg]; exact Nat.ne_of_lt (qr (g := gb204) (o := .cells #[.int .i64 a0_0, .int .i64 a0_1, .slice A0_2 l0_2.length c0_2] 30 (0, 0)) (bk_ BK204)) : gb204 ≠ gb205)); have n6_ := qd.mk ((by rw [hg]; exact Nat.ne_of_gt (qr (g := gb204) (o := .cells #[.int .i64 a0_0, .int .i64 a0_1, .slice A0_2 l0_2.length c0_2] 30 (0, 0)) (bk_ BK204)) : gb205 ≠ gb204)); clear BK204; clear HB; have BK204 := n0_; have HB := n1_; have BK205 := n2_; have GW205 := n3_; have GE205 := n4_; have NB204_205 := n5_; have NB205_204 := n6_; clear n0_ n1_ n2_ n3_ n4_ n5_ n6_; clear hb hbox hg; have hnb9 := NB205_204.out; have hnc9 := NB204_205.out; have hcz10_0 : w8.cell? ⟨gb205, 0, none⟩ = some (.int .i64 a1_0) := (qi BK205.out 0).trans rfl; have hcz10_1 : w8.cell? ⟨gb205, 1, none⟩ = some (.int .i64 a1_1) := (qi BK205.out 1).trans rfl; have hcz10_2 : w8.cell? ⟨gb205, 2, none⟩ = some (.bool true) := (qi BK205.out 2).trans rfl; have hfz10_0 := qj BK205.out 0; have hfz10_1 := qj BK205.out 1; have hfz10_2 := qj BK205.out 2; have hcz11_0 : w8.cell? ⟨gb204, 0, none⟩ = some (.int .i64 a0_0) := (qi BK204.out 0).trans rfl; have hcz11_1 : w8.cell? ⟨gb204, 1, none⟩ = some (.int .i64 a0_1) := (qi BK204.out 1).trans rfl; have hcz11_2 : w8.cell? ⟨gb204, 2, none⟩ = some (.slice A0_2 l0_2.length c0_2) := (qi BK204.out 2).trans rfl; have hfz11_0 := qj BK204.out 0; have hfz11_1 := qj BK204.out 1; have hfz11_2 := qj BK204.out 2) | ((with_reducible refine qw (f := 101) rfl ?_); refine zj (some 12) rfl rfl Try.func101 (by kernel_rfl) rfl #[.int .i64 a1_0, .int .i64 0, .int .i64 (wrap64 (a0_0 - 1))] rfl (by (try simp only [List.map_toArray, List.map_cons, List.map_nil]); first | done | rfl | (simp only [List.length_drop, List.length_take]; rfl)) ?_; (with_reducible refine (impl_within.calls a1_0 0 (wrap64 (a0_0 - 1)) true _ A4.out).mono ?_); rintro e w' ⟨rfl, ⟨nd, rfl⟩⟩; refine ⟨_, rfl, ?_⟩) | (go_at_call 101; (with_reducible refine (impl_within.calls a1_1 0 (wrap64 (a0_1 - 2)) t207 _ A6.out).mono ?_); rintro e w' ⟨rfl, ⟨nd, rfl⟩⟩))
   go_ret
   exact ⟨by first | rfl | (simp [qq, qp] <;> rfl) | (simp [*, qq, qp] <;> rfl), be2_ HB GE204 GE205⟩
  ·replace c5 := Bool.eq_false_iff.mpr c5
   subst c5
   have H1 : (some false) = some r := by rw [if_neg (show ¬ (false = true) by decide)] at H; exact H
   clear H
   have H := H1
   clear H1
   obtain rfl := Option.some.inj H
   go_enter Try.func105, Try.ntmps105
   go_wp2_with (first | ((with_reducible refine za (N := 2) rfl ?_); refine qy ?hg (N := 2) ?hd (cs := #[.int .i64 a0_0, .int .i64 a0_1, .slice A0_2 l0_2.length c0_2]) (t := 30) ?hr ?_; (case hd => rfl); (case hg => rfl); (case hr => first | (go_simp; done) | (go_simp; rfl)); intro gb204 hg w12 hbox hb; have n0_ := qd.mk (qn (be0_ HB) hb); have n1_ := qd.mk (hbox); have n2_ := qd.mk ((by rw [hg]; exact (qm (be0_ HB)) : w.heap.size ≤ gb204)); have n3_ := qd.mk ((by rw [hg]; exact (qm (be0_ HB)) : w.heap.size ≤ gb204)); clear HB; have HB := n0_; have BK204 := n1_; have GW204 := n2_; have GE204 := n3_; clear n0_ n1_ n2_ n3_; clear hb hbox hg) | ((with_reducible refine za (N := 3) rfl ?_); refine qy ?hg (N := 3) ?hd (cs := #[.int .i64 a1_0, .int .i64 a1_1, .bool true]) (t := 38) ?hr ?_; (case hd => rfl); (case hg => rfl); (case hr => first | (go_simp; done) | (go_simp; rfl)); intro gb205 hg w13 hbox hb; have n0_ := qd.mk (ql (g := gb204) (o := .cells #[.int .i64 a0_0, .int .i64 a0_1, .slice A0_2 l0_2.length c0_2] 30 (0, 0)) (bk_ BK204) hb); have n1_ := qd.mk (qn (be1_ HB GE204) hb); have n2_ := qd.mk (hbox); have n3_ := qd.mk ((by rw [hg]; exact (qm (be1_ HB GE204)) : w.heap.size ≤ gb205)); have n4_ := qd.mk ((by rw [hg]; exact (qm (be1_ HB GE204)) : w.heap.size ≤ gb205)); have n5_ := qd.mk ((by rw [hg]; exact Nat.ne_of_lt (qr (g := gb204) (o := .cells #[.int .i64 a0_0, .int .i64 a0_1, .slice A0_2 l0_2.length c0_2] 30 (0, 0)) (bk_ BK204)) : gb204 ≠ gb205)); have n6_ := qd.mk ((by rw [hg]; exact Nat.ne_of_gt (qr (g := gb204) (o := .cells #[.int .i64 a0_0, .int .i64 a0_1, .slice A0_2 l0_2.length c0_2] 30 (0, 0)) (bk_ BK204)) : gb205 ≠ gb204)); clear BK204; clear HB; have BK204 := n0_; have HB := n1_; have BK205 := n2_; have GW205 := n3_; have GE205 := n4_; have NB204_205 := n5_; have NB205_204 := n6_; clear n0_ n1_ n2_ n3_ n4_ n5_ n6_; clear hb hbox hg; have hnb14 := NB205_204.out; have hnc14 := NB204_205.out; have hcz15_0 : w13.cell? ⟨gb205, 0, none⟩ = some (.int .i64 a1_0) := (qi BK205.out 0).trans rfl; have hcz15_1 : w13.cell? ⟨gb205, 1, none⟩ = some (.int .i64 a1_1) := (qi BK205.out 1).trans rfl; have hcz15_2 : w13.cell? ⟨gb205, 2, none⟩ = some (.bool true) := (qi BK205.out 2).trans rfl; have hfz15_0 := qj BK205.out 0; have hfz15_1 := qj BK205.out 1; have hfz15_2 := qj BK205.out 2; have hcz16_0 : w13.cell? ⟨gb204, 0, none⟩ = some (.int .i64 a0_0) := (qi BK204.out 0).trans rfl; have hcz16_1 : w13.cell? ⟨gb204, 1, none⟩ = some (.int .i64 a0_1) := (qi BK204.out 1).trans rfl; have hcz16_2 : w13.cell? ⟨gb204, 2, none⟩ = some (.slice A0_2 l0_2.length c0_2) := (qi BK204.out 2).trans rfl; have hfz16_0 := qj BK204.out 0; have hfz16_1 := qj BK204.out 1; have hfz16_2 := qj BK204.out 2) | ((with_reducible refine qw (f := 101) rfl ?_); refine zj (some 12) rfl rfl Try.func101 (by kernel_rfl) rfl #[.int .i64 a1_0, .int .i64 0, .int .i64 (wrap64 (a0_0 - 1))] rfl (by (try simp only [List.map_toArray, List.map_cons, List.map_nil]); first | done | rfl | (simp only [List.length_drop, List.length_take]; rfl)) ?_; (with_reducible refine (impl_within.calls a1_0 0 (wrap64 (a0_0 - 1)) false _ A4.out).mono ?_); rintro e w' ⟨rfl, ⟨nd, rfl⟩⟩; refine ⟨_, rfl, ?_⟩))
   go_ret
   exact ⟨by first | rfl | (simp [qq, qp] <;> rfl) | (simp [*, qq, qp] <;> rfl), be2_ HB GE204 GE205⟩
 ·replace c3 := Bool.eq_false_iff.mpr c3
  subst c3
  have H1 : ((impl_within.f a1_0 0 (wrap64 (a0_0 - 2))).bind fun t208 => (if t208 = true then ((impl_within.f a1_1 0 (wrap64 (a0_1 - 1))).bind fun t209 => (some t209)) else (some false))) = some r := by rw [if_neg (show ¬ (false = true) by decide)] at H; exact H
  clear H
  have H := H1
  clear H1
  replace H := Option.bind_eq_some_iff.mp H
  obtain ⟨t208, A170, H⟩ := H
  replace H : (if t208 = true then ((impl_within.f a1_1 0 (wrap64 (a0_1 - 1))).bind fun t209 => (some t209)) else (some false)) = some r := H
  have A17 := qd.mk A170
  clear A170
  by_cases c18 : t208 = true
  ·subst c18
   have H1 : ((impl_within.f a1_1 0 (wrap64 (a0_1 - 1))).bind fun t209 => (some t209)) = some r := by rw [if_pos rfl] at H; exact H
   clear H
   have H := H1
   clear H1
   replace H := Option.bind_eq_some_iff.mp H
   obtain ⟨t209, A190, H⟩ := H
   replace H : (some t209) = some r := H
   have A19 := qd.mk A190
   clear A190
   obtain rfl := Option.some.inj H
   go_enter Try.func105, Try.ntmps105
   go_wp2_with (first | ((with_reducible refine za (N := 2) rfl ?_); refine qy ?hg (N := 2) ?hd (cs := #[.int .i64 a0_0, .int .i64 a0_1, .slice A0_2 l0_2.length c0_2]) (t := 30) ?hr ?_; (case hd => rfl); (case hg => rfl); (case hr => first | (go_simp; done) | (go_simp; rfl)); intro gb204 hg w20 hbox hb; have n0_ := qd.mk (qn (be0_ HB) hb); have n1_ := qd.mk (hbox); have n2_ := qd.mk ((by rw [hg]; exact (qm (be0_ HB)) : w.heap.size ≤ gb204)); have n3_ := qd.mk ((by rw [hg]; exact (qm (be0_ HB)) : w.heap.size ≤ gb204)); clear HB; have HB := n0_; have BK204 := n1_; have GW204 := n2_; have GE204 := n3_; clear n0_ n1_ n2_ n3_; clear hb hbox hg) | ((with_reducible refine za (N := 3) rfl ?_); refine qy ?hg (N := 3) ?hd (cs := #[.int .i64 a1_0, .int .i64 a1_1, .bool false]) (t := 38) ?hr ?_; (case hd => rfl); (case hg => rfl); (case hr => first | (go_simp; done) | (go_simp; rfl)); intro gb205 hg w21 hbox hb; have n0_ := qd.mk (ql (g := gb204) (o := .cells #[.int .i64 a0_0, .int .i64 a0_1, .slice A0_2 l0_2.length c0_2] 30 (0, 0)) (bk_ BK204) hb); have n1_ := qd.mk (qn (be1_ HB GE204) hb); have n2_ := qd.mk (hbox); have n3_ := qd.mk ((by rw [hg]; exact (qm (be1_ HB GE204)) : w.heap.size ≤ gb205)); have n4_ := qd.mk ((by rw [hg]; exact (qm (be1_ HB GE204)) : w.heap.size ≤ gb205)); have n5_ := qd.mk ((by rw [hg]; exact Nat.ne_of_lt (qr (g := gb204) (o := .cells #[.int .i64 a0_0, .int .i64 a0_1, .slice A0_2 l0_2.length c0_2] 30 (0, 0)) (bk_ BK204)) : gb204 ≠ gb205)); have n6_ := qd.mk ((by rw [hg]; exact Nat.ne_of_gt (qr (g := gb204) (o := .cells #[.int .i64 a0_0, .int .i64 a0_1, .slice A0_2 l0_2.length c0_2] 30 (0, 0)) (bk_ BK204)) : gb205 ≠ gb204)); clear BK204; clear HB; have BK204 := n0_; have HB := n1_; have BK205 := n2_; have GW205 := n3_; have GE205 := n4_; have NB204_205 := n5_; have NB205_204 := n6_; clear n0_ n1_ n2_ n3_ n4_ n5_ n6_; clear hb hbox hg; have hnb22 := NB205_204.out; have hnc22 := NB204_205.out; have hcz23_0 : w21.cell? ⟨gb205, 0, none⟩ = some (.int .i64 a1_0) := (qi BK205.out 0).trans rfl; have hcz23_1 : w21.cell? ⟨gb205, 1, none⟩ = some (.int .i64 a1_1) := (qi BK205.out 1).trans rfl; have hcz23_2 : w21.cell? ⟨gb205, 2, none⟩ = some (.bool false) := (qi BK205.out 2).trans rfl; have hfz23_0 := qj BK205.out 0; have hfz23_1 := qj BK205.out 1; have hfz23_2 := qj BK205.out 2; have hcz24_0 : w21.cell? ⟨gb204, 0, none⟩ = some (.int .i64 a0_0) := (qi BK204.out 0).trans rfl; have hcz24_1 : w21.cell? ⟨gb204, 1, none⟩ = some (.int .i64 a0_1) := (qi BK204.out 1).trans rfl; have hcz24_2 : w21.cell? ⟨gb204, 2, none⟩ = some (.slice A0_2 l0_2.length c0_2) := (qi BK204.out 2).trans rfl; have hfz24_0 := qj BK204.out 0; have hfz24_1 := qj BK204.out 1; have hfz24_2 := qj BK204.out 2) | ((with_reducible refine qw (f := 101) rfl ?_); refine zj (some 26) rfl rfl Try.func101 (by kernel_rfl) rfl #[.int .i64 a1_0, .int .i64 0, .int .i64 (wrap64 (a0_0 - 2))] rfl (by (try simp only [List.map_toArray, List.map_cons, List.map_nil]); first | done | rfl | (simp only [List.length_drop, List.length_take]; rfl)) ?_; (with_reducible refine (impl_within.calls a1_0 0 (wrap64 (a0_0 - 2)) true _ A17.out).mono ?_); rintro e w' ⟨rfl, ⟨nd, rfl⟩⟩; refine ⟨_, rfl, ?_⟩) | (go_at_call 101; (with_reducible refine (impl_within.calls a1_1 0 (wrap64 (a0_1 - 1)) t209 _ A19.out).mono ?_); rintro e w' ⟨rfl, ⟨nd, rfl⟩⟩))
   go_ret
   exact ⟨by first | rfl | (simp [qq, qp] <;> rfl) | (simp [*, qq, qp] <;> rfl), be2_ HB GE204 GE205⟩
  ·replace c18 := Bool.eq_false_iff.mpr c18
   subst c18
   have H1 : (some false) = some r := by rw [if_neg (show ¬ (false = true) by decide)] at H; exact H
   clear H
   have H := H1
   clear H1
   obtain rfl := Option.some.inj H
   go_enter Try.func105, Try.ntmps105
   go_wp2_with (first | ((with_reducible refine za (N := 2) rfl ?_); refine qy ?hg (N := 2) ?hd (cs := #[.int .i64 a0_0, .int .i64 a0_1, .slice A0_2 l0_2.length c0_2]) (t := 30) ?hr ?_; (case hd => rfl); (case hg => rfl); (case hr => first | (go_simp; done) | (go_simp; rfl)); intro gb204 hg w25 hbox hb; have n0_ := qd.mk (qn (be0_ HB) hb); have n1_ := qd.mk (hbox); have n2_ := qd.mk ((by rw [hg]; exact (qm (be0_ HB)) : w.heap.size ≤ gb204)); have n3_ := qd.mk ((by rw [hg]; exact (qm (be0_ HB)) : w.heap.size ≤ gb204)); clear HB; have HB := n0_; have BK204 := n1_; have GW204 := n2_; have GE204 := n3_; clear n0_ n1_ n2_ n3_; clear hb hbox hg) | ((with_reducible refine za (N := 3) rfl ?_); refine qy ?hg (N := 3) ?hd (cs := #[.int .i64 a1_0, .int .i64 a1_1, .bool false]) (t := 38) ?hr ?_; (case hd => rfl); (case hg => rfl); (case hr => first | (go_simp; done) | (go_simp; rfl)); intro gb205 hg w26 hbox hb; have n0_ := qd.mk (ql (g := gb204) (o := .cells #[.int .i64 a0_0, .int .i64 a0_1, .slice A0_2 l0_2.length c0_2] 30 (0, 0)) (bk_ BK204) hb); have n1_ := qd.mk (qn (be1_ HB GE204) hb); have n2_ := qd.mk (hbox); have n3_ := qd.mk ((by rw [hg]; exact (qm (be1_ HB GE204)) : w.heap.size ≤ gb205)); have n4_ := qd.mk ((by rw [hg]; exact (qm (be1_ HB GE204)) : w.heap.size ≤ gb205)); have n5_ := qd.mk ((by rw [hg]; exact Nat.ne_of_lt (qr (g := gb204) (o := .cells #[.int .i64 a0_0, .int .i64 a0_1, .slice A0_2 l0_2.length c0_2] 30 (0, 0)) (bk_ BK204)) : gb204 ≠ gb205)); have n6_ := qd.mk ((by rw [hg]; exact Nat.ne_of_gt (qr (g := gb204) (o := .cells #[.int .i64 a0_0, .int .i64 a0_1, .slice A0_2 l0_2.length c0_2] 30 (0, 0)) (bk_ BK204)) : gb205 ≠ gb204)); clear BK204; clear HB; have BK204 := n0_; have HB := n1_; have BK205 := n2_; have GW205 := n3_; have GE205 := n4_; have NB204_205 := n5_; have NB205_204 := n6_; clear n0_ n1_ n2_ n3_ n4_ n5_ n6_; clear hb hbox hg; have hnb27 := NB205_204.out; have hnc27 := NB204_205.out; have hcz28_0 : w26.cell? ⟨gb205, 0, none⟩ = some (.int .i64 a1_0) := (qi BK205.out 0).trans rfl; have hcz28_1 : w26.cell? ⟨gb205, 1, none⟩ = some (.int .i64 a1_1) := (qi BK205.out 1).trans rfl; have hcz28_2 : w26.cell? ⟨gb205, 2, none⟩ = some (.bool false) := (qi BK205.out 2).trans rfl; have hfz28_0 := qj BK205.out 0; have hfz28_1 := qj BK205.out 1; have hfz28_2 := qj BK205.out 2; have hcz29_0 : w26.cell? ⟨gb204, 0, none⟩ = some (.int .i64 a0_0) := (qi BK204.out 0).trans rfl; have hcz29_1 : w26.cell? ⟨gb204, 1, none⟩ = some (.int .i64 a0_1) := (qi BK204.out 1).trans rfl; have hcz29_2 : w26.cell? ⟨gb204, 2, none⟩ = some (.slice A0_2 l0_2.length c0_2) := (qi BK204.out 2).trans rfl; have hfz29_0 := qj BK204.out 0; have hfz29_1 := qj BK204.out 1; have hfz29_2 := qj BK204.out 2) | ((with_reducible refine qw (f := 101) rfl ?_); refine zj (some 26) rfl rfl Try.func101 (by kernel_rfl) rfl #[.int .i64 a1_0, .int .i64 0, .int .i64 (wrap64 (a0_0 - 2))] rfl (by (try simp only [List.map_toArray, List.map_cons, List.map_nil]); first | done | rfl | (simp only [List.length_drop, List.length_take]; rfl)) ?_; (with_reducible refine (impl_within.calls a1_0 0 (wrap64 (a0_0 - 2)) false _ A17.out).mono ?_); rintro e w' ⟨rfl, ⟨nd, rfl⟩⟩; refine ⟨_, rfl, ?_⟩))
   go_ret
   exact ⟨by first | rfl | (simp [qq, qp] <;> rfl) | (simp [*, qq, qp] <;> rfl), be2_ HB GE204 GE205⟩
end Go.Proofs.Ytohpaddcfcgmbaa.PFnExactBestToOpen
