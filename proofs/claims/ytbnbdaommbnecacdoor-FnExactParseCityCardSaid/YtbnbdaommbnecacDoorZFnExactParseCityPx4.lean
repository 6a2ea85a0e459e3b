/- Cut by wip/cut.py out of the texts of this claim (printed by the kit's printer, or this session's own): what the row's theorem does not reach is struck. Not trusted: Lean checks it. -/
import Derived.Test.YtbnbdaommbnecacDoorZFnExactParseCityPx0
import Derived.Test.YtbnbdaommbnecacDoorZFnExactParseCityPx3
namespace Go.Proofs.YtbnbdaommbnecacDoor.PFnExactParseCity
open Go.RowKit Go.Proofs.YtbnbdaommbnecacDoorW.PrintWords Go.Proofs.YtbnbdaommbnecacDoorW.PrintLast Go.Proofs.YtbnbdaommbnecacDoorW.PrintMore
attribute [local go_sem] max2_int min2_int max_two min_two max_three min_three max_four min_four
set_option linter.unusedVariables false
set_option linter.unusedSimpArgs false
mutual
def spec_avText.l0 : Nat → ByteArray → List (S39) → Int → Int → Option (ByteArray)
 | 0, _, _, _, _ => none
 | k + 1, x3, x17, x18, x19 => if x19 < x18 then (if 0 ≤ x19 then (if x19 < (x17.length : Int) then (if x19 > 0 then (if x3.size + 1 ≤ 9223372036854775807 then (spec_avText.j1 k (x3 ++ (⟨#[44]⟩ : ByteArray)) x17 x18 x19 ((qk x17 x19).f0) ((qk x17 x19).f1) ((qk x17 x19).f2)) else (none)) else (spec_avText.j1 k x3 x17 x18 x19 ((qk x17 x19).f0) ((qk x17 x19).f1) ((qk x17 x19).f2))) else (none)) else (none)) else (some x3)
def spec_avText.j1 : Nat → ByteArray → List (S39) → Int → Int → Int → Int → Bool → Option (ByteArray)
 | 0, _, _, _, _, _, _, _ => none
 | k + 1, x3, x17, x18, x19, x133000, x133001, x133002 => if x133002 = true then ((spec_l1Num.f k x133000).bind fun t133 => (if t133.size + 1 ≤ 9223372036854775807 then ((spec_l1Num.f k x133001).bind fun t134 => (if (t133 ++ (⟨#[124]⟩ : ByteArray)).size + t134.size ≤ 9223372036854775807 then (if x3.size + ((t133 ++ (⟨#[124]⟩ : ByteArray)) ++ t134).size ≤ 9223372036854775807 then (spec_avText.l0 k (x3 ++ ((t133 ++ (⟨#[124]⟩ : ByteArray)) ++ t134)) x17 x18 (wrap64 (x19 + 1))) else (none)) else (none))) else (none))) else ((spec_l1Num.f k x133000).bind fun t135 => (if t135.size + 1 ≤ 9223372036854775807 then ((spec_l1Num.f k x133001).bind fun t136 => (if (t135 ++ (⟨#[45]⟩ : ByteArray)).size + t136.size ≤ 9223372036854775807 then (if x3.size + ((t135 ++ (⟨#[45]⟩ : ByteArray)) ++ t136).size ≤ 9223372036854775807 then (spec_avText.l0 k (x3 ++ ((t135 ++ (⟨#[45]⟩ : ByteArray)) ++ t136)) x17 x18 (wrap64 (x19 + 1))) else (none)) else (none))) else (none)))
end
def spec_avText.f (k : Nat) (a0_0 : Int) (a0_1 : Int) (l0_2 : List (S39)) : Option (ByteArray) := (spec_l1Num.f k a0_0).bind fun t129 => (if t129.size + 1 ≤ 9223372036854775807 then ((spec_l1Num.f k a0_1).bind fun t130 => (if (t129 ++ (⟨#[120]⟩ : ByteArray)).size + t130.size ≤ 9223372036854775807 then (if ((t129 ++ (⟨#[120]⟩ : ByteArray)) ++ t130).size + 1 ≤ 9223372036854775807 then (spec_avText.l0 k (((t129 ++ (⟨#[120]⟩ : ByteArray)) ++ t130) ++ (⟨#[58]⟩ : ByteArray)) l0_2 (l0_2.length : Int) 0) else (none)) else (none))) else (none))
theorem spec_avText.zn : ∀ k, (∀ y0 y1 y2 y3, LeO (spec_avText.l0 k y0 y1 y2 y3) (spec_avText.l0 (k + 1) y0 y1 y2 y3)) ∧ (∀ y0 y1 y2 y3 y4 y5 y6, LeO (spec_avText.j1 k y0 y1 y2 y3 y4 y5 y6) (spec_avText.j1 (k + 1) y0 y1 y2 y3 y4 y5 y6))
 | 0 => ⟨fun _ _ _ _ r h => by simp [spec_avText.l0] at h, fun _ _ _ _ _ _ _ r h => by simp [spec_avText.j1] at h⟩
 | k + 1 => by
  obtain ⟨ih0, ih1⟩ := spec_avText.zn k
  refine ⟨?_, ?_⟩
  all_goals first | (intro y0 y1 y2 y3; unfold spec_avText.l0) | (intro y0 y1 y2 y3 y4 y5 y6; unfold spec_avText.j1)
  all_goals (repeat' first | (with_reducible first | exact ih0 _ _ _ _ | exact ih1 _ _ _ _ _ _ _ | exact spec_l1Num.mono _ _ | exact LeO.refl _ | exact LeO.none _ | refine LeO.ite ?_ ?_ | refine LeO.bind ?_ (fun _ => ?_)) | exact ih0 _ _ _ _ | exact ih1 _ _ _ _ _ _ _ | exact spec_l1Num.mono _ _ | exact LeO.none _ | refine LeO.ite ?_ ?_ | refine LeO.bind ?_ (fun _ => ?_))
theorem spec_avText.mono : ∀ a0 a1 a2 k, LeO (spec_avText.f k a0 a1 a2) (spec_avText.f (k + 1) a0 a1 a2) := by
 intro a0 a1 a2 k
 obtain ⟨ih0, ih1⟩ := spec_avText.zn k
 unfold spec_avText.f
 repeat' first | (with_reducible first | exact ih0 _ _ _ _ | exact ih1 _ _ _ _ _ _ _ | exact spec_l1Num.mono _ _ | exact LeO.refl _ | exact LeO.none _ | refine LeO.ite ?_ ?_ | refine LeO.bind ?_ (fun _ => ?_)) | exact ih0 _ _ _ _ | exact ih1 _ _ _ _ _ _ _ | exact spec_l1Num.mono _ _ | exact LeO.none _ | refine LeO.ite ?_ ?_ | refine LeO.bind ?_ (fun _ => ?_)
def spec_avText.T1 : Bool × List (List Nat × List Nat) := (true, [([], []), ([0], [0]), ([1], [1]), ([2], [2]), ([], []), ([4], [4]), ([5, 2], [5]), ([3, 6], [3, 6]), ([7], [7]), ([8, 6, 0, 1, 2, 3, 4, 5, 6, 7, 8], [8])])
def spec_avText.B1 : List Nat := [0, 1, 3, 7, 0, 16, 55, 127, 255, 511]
theorem spec_avText.tab1 : rtab .any (opsOf Tryd.f22 1) = spec_avText.T1 := by kernel_rfl
theorem spec_avText.bits1 : waitsOk spec_avText.T1.2 spec_avText.B1 = true := by kernel_rfl
def spec_avText.T10 : Bool × List (List Nat × List Nat) := (true, [([], []), ([], []), ([1], [1]), ([2], [2]), ([], []), ([3, 4], [3, 4]), ([], []), ([6], [6]), ([7, 3], [7]), ([5, 8], [5, 8]), ([0, 9], [0, 9]), ([10, 8, 0, 1, 2, 3, 4, 5, 6, 7, 8, 9, 10], [0, 10])])
def spec_avText.B10 : List Nat := [0, 0, 2, 6, 0, 30, 0, 64, 206, 510, 1023, 2047]
theorem spec_avText.tab10 : rtab .any (opsOf Tryd.f22 10) = spec_avText.T10 := by kernel_rfl
theorem spec_avText.bits10 : waitsOk spec_avText.T10.2 spec_avText.B10 = true := by kernel_rfl
set_option maxHeartbeats 8000000 in
set_option maxRecDepth 100000 in
theorem spec_avText.calls (k : Nat) (a0_0 : Int) (a0_1 : Int) (A0_2 : Option Addr) (c0_2 : Nat) (l0_2 : List (S39)) (r : ByteArray) (w : World) (hr0_2 : Kd.C k39 w A0_2 l0_2.length l0_2) (hc0_2 : l0_2.length ≤ c0_2) (h : spec_avText.f k a0_0 a0_1 l0_2 = some r) :
  Calls Tryd.prog 22 #[.agg #[.int .i64 a0_0, .int .i64 a0_1, .slice A0_2 l0_2.length c0_2]] w fun e w' => e = .returned (.string r) ∧ Below w.heap.size w w' := by
 have hu24 := Tryd.underlying24
 have hu39 := Tryd.underlying39
 have HR0_2 := qb.mk hr0_2
 have HC0_2 := qb.mk hc0_2
 clear hr0_2 hc0_2
 have HB := qb.mk (Below.refl w.heap.size w)
 have H : ((spec_l1Num.f k a0_0).bind fun t129 => (if t129.size + 1 ≤ 9223372036854775807 then ((spec_l1Num.f k a0_1).bind fun t130 => (if (t129 ++ (⟨#[120]⟩ : ByteArray)).size + t130.size ≤ 9223372036854775807 then (if ((t129 ++ (⟨#[120]⟩ : ByteArray)) ++ t130).size + 1 ≤ 9223372036854775807 then (spec_avText.l0 k (((t129 ++ (⟨#[120]⟩ : ByteArray)) ++ t130) ++ (⟨#[58]⟩ : ByteArray)) l0_2 (l0_2.length : Int) 0) else (none)) else (none))) else (none))) = some r := h
 clear h
 replace H := Option.bind_eq_some_iff.mp H
 obtain ⟨t129, A20, H⟩ := H
 replace H : (if t129.size + 1 ≤ 9223372036854775807 then ((spec_l1Num.f k a0_1).bind fun t130 => (if (t129 ++ (⟨#[120]⟩ : ByteArray)).size + t130.size ≤ 9223372036854775807 then (if ((t129 ++ (⟨#[120]⟩ : ByteArray)) ++ t130).size + 1 ≤ 9223372036854775807 then (spec_avText.l0 k (((t129 ++ (⟨#[120]⟩ : ByteArray)) ++ t130) ++ (⟨#[58]⟩ : ByteArray)) l0_2 (l0_2.length : Int) 0) else (none)) else (none))) else (none)) = some r := H
 have A2 := qb.mk A20
 clear A20
 by_cases c3 : t129.size + 1 ≤ 9223372036854775807
 ·rw [if_pos c3] at H
  have c3b0 := eq_true c3
  have c3b1 : decide (t129.size + 1 ≤ 9223372036854775807) = true := decide_eq_true c3
  try have c3b2 : (9223372036854775807 < t129.size + 1) = False := eq_false (Nat.not_lt.2 c3)
  replace H := Option.bind_eq_some_iff.mp H
  obtain ⟨t130, A40, H⟩ := H
  replace H : (if (t129 ++ (⟨#[120]⟩ : ByteArray)).size + t130.size ≤ 9223372036854775807 then (if ((t129 ++ (⟨#[120]⟩ : ByteArray)) ++ t130).size + 1 ≤ 9223372036854775807 then (spec_avText.l0 k (((t129 ++ (⟨#[120]⟩ : ByteArray)) ++ t130) ++ (⟨#[58]⟩ : ByteArray)) l0_2 (l0_2.length : Int) 0) else (none)) else (none)) = some r := H
  have A4 := qb.mk A40
  clear A40
  by_cases c5 : (t129 ++ (⟨#[120]⟩ : ByteArray)).size + t130.size ≤ 9223372036854775807
  ·rw [if_pos c5] at H
   have c5b0 := eq_true c5
   have c5b1 : decide ((t129 ++ (⟨#[120]⟩ : ByteArray)).size + t130.size ≤ 9223372036854775807) = true := decide_eq_true c5
   try have c5b2 : (9223372036854775807 < (t129 ++ (⟨#[120]⟩ : ByteArray)).size + t130.size) = False := eq_false (Nat.not_lt.2 c5)
   try have c5z : (9223372036854775807 < t129.size + 1 + t130.size) = False := eq_false (Nat.not_lt.2 (by have h_ := c5; simp only [ByteArray.size_append] at h_; exact h_))
   by_cases c6 : ((t129 ++ (⟨#[120]⟩ : ByteArray)) ++ t130).size + 1 ≤ 9223372036854775807
   ·rw [if_pos c6] at H
    have c6b0 := eq_true c6
    have c6b1 : decide (((t129 ++ (⟨#[120]⟩ : ByteArray)) ++ t130).size + 1 ≤ 9223372036854775807) = true := decide_eq_true c6
    try have c6b2 : (9223372036854775807 < ((t129 ++ (⟨#[120]⟩ : ByteArray)) ++ t130).size + 1) = False := eq_false (Nat.not_lt.2 c6)
    try have c6z : (9223372036854775807 < t129.size + 1 + t130.size + 1) = False := eq_false (Nat.not_lt.2 (by have h_ := c6; simp only [ByteArray.size_append] at h_; exact h_))
    have H' := qb.mk H
    clear H
    go_enter Tryd.func22, Tryd.ntmps22
    try go_wp2_with (first | ((with_reducible refine zc (N := 1) rfl ?_); refine zb ?hg (N := 1) ?hd (cs := #[.int .i64 a0_0, .int .i64 a0_1, .slice A0_2 l0_2.length c0_2]) (t := 24) ?hr ?_; (case hd => rfl); (case hg => rfl); (case hr => first | (go_simp; done) | (go_simp; rfl)); intro gb128 hg w7 hbox hb; have n0_ := qb.mk (qm (be0_ HB) hb); have n1_ := qb.mk (hbox); have n2_ := qb.mk ((by rw [hg]; exact (ql (be0_ HB)) : w.heap.size ≤ gb128)); have n3_ := qb.mk ((by rw [hg]; exact (ql (be0_ HB)) : w.heap.size ≤ gb128)); clear HB; have HB := n0_; have BK128 := n1_; have GW128 := n2_; have GE128 := n3_; clear n0_ n1_ n2_ n3_; clear hb hbox hg))
    have n0_ := qb.mk (qi BK128.out)
    have n1_ := qb.mk (qc HB.out)
    clear BK128
    clear HB
    have BK128 := n0_
    have HB := n1_
    clear n0_ n1_
    refine zu (n := 10) (S := fun w' => w'.cell? ⟨gb128, 0, none⟩ = some (.int .i64 a0_0) ∧ w'.cell? ⟨gb128, 1, none⟩ = some (.int .i64 a0_1) ∧ w'.cell? ⟨gb128, 2, none⟩ = some (.slice A0_2 l0_2.length c0_2)) (ds := []) #[false, false, false, false, false, false, false, false, false, false] (by kernel_rfl) rfl rfl ⟨(qg BK128.out 0).trans rfl, (qg BK128.out 1).trans rfl, (qg BK128.out 2).trans rfl⟩ (fun hHeld => ?_); refine zl spec_avText.tab1 spec_avText.bits1 (fun HT_ HW_ => ?_)
    generalize w7.drew = w8 at BK128 HB hHeld ⊢
    refine pure_ (i := 0) (N := some 7) (v := ?_) (a' := ?_) #[true, false, false, false, false, false, false, false, false, false] rfl rfl (qq HT_.out (by kernel_rfl)) (fun _ _ _ h => h) (Or.inl ⟨by rfl, ?_⟩) ?_ ?_
    rotate_left
    ·intro w'
     go_simp
     with_reducible rfl
    rotate_left
    ·simp only [Act.put, sA_, sB_, sC_, i64_w, i32_w]
     rfl
    refine pure_ (i := 4) (N := some 11) (v := ?_) (a' := ?_) #[true, false, false, false, true, false, false, false, false, false] rfl rfl (qq HT_.out (by kernel_rfl)) (fun _ _ _ h => h) (Or.inl ⟨by rfl, ?_⟩) ?_ ?_
    rotate_left
    ·intro w'
     go_simp
     with_reducible rfl
    rotate_left
    ·simp only [Act.put, sA_, sB_, sC_, i64_w, i32_w]
     rfl
    refine take_ (i := 1) (N := some 8) (v := ?_) (a' := ?_) #[true, true, false, false, true, false, false, false, false, false] rfl rfl (qz HT_.out HW_.out (by kernel_rfl)) (fun _ _ _ h => h) (Or.inl ⟨by rfl, ?_⟩) hHeld ?_ ?_
    rotate_left
    ·rintro w' ⟨s0, s1, s2⟩
     go_simp
     with_reducible rfl
    rotate_left
    ·simp only [Act.put, sA_, sB_, sC_, i64_w, i32_w]
     rfl
    refine take_ (i := 5) (N := some 12) (v := ?_) (a' := ?_) #[true, true, false, false, true, true, false, false, false, false] rfl rfl (qz HT_.out HW_.out (by kernel_rfl)) (fun _ _ _ h => h) (Or.inl ⟨by rfl, ?_⟩) hHeld ?_ ?_
    rotate_left
    ·rintro w' ⟨s0, s1, s2⟩
     go_simp
     with_reducible rfl
    rotate_left
    ·simp only [Act.put, sA_, sB_, sC_, i64_w, i32_w]
     rfl
    refine one_ (i := 2) (N := some 9) #[true, true, true, false, true, true, false, false, false, false] rfl rfl (zh HT_.out (by kernel_rfl)) (by decide) (fun K hK => ?_)
    refine goes_ Tryd.func37 (by kernel_rfl) rfl #[.int .i64 a0_0] (by rfl) rfl rfl al_ ?_
    with_reducible refine (spec_l1Num.calls k a0_0 t129 _ A2.out).mono ?_
    rintro e w9 ⟨rfl, hb⟩
    refine ⟨_, rfl, ?_⟩
    have n0_ := qb.mk (qn (g := gb128) (o := .cells #[.int .i64 a0_0, .int .i64 a0_1, .slice A0_2 l0_2.length c0_2] 24 (0, 0)) (bk_ BK128) hb)
    have n1_ := qb.mk (qm (be1_ HB GE128) hb)
    clear BK128
    clear HB
    have BK128 := n0_
    have HB := n1_
    clear n0_ n1_
    (try clear hb)
    (try clear hb2)
    (try clear hk)
    (try clear hi)
    refine hK.out _ _ ⟨(qg BK128.out 0).trans rfl, (qg BK128.out 1).trans rfl, (qg BK128.out 2).trans rfl⟩ (fun hHeld => ?_)
    clear hK K
    refine norm_ (a' := ?_) ?_ ?_
    rotate_left
    ·show Act.put _ (some 9) _ = _
     simp only [Act.put, sA_, sB_, sC_, i64_w, i32_w]
     rfl
    refine pure_ (i := 3) (N := some 10) (v := ?_) (a' := ?_) #[true, true, true, true, true, true, false, false, false, false] rfl rfl (qq HT_.out (by kernel_rfl)) (fun _ _ _ h => h) (Or.inl ⟨by rfl, ?_⟩) ?_ ?_
    rotate_left
    ·intro w'
     go_simp
     with_reducible rfl
    rotate_left
    ·simp only [Act.put, sA_, sB_, sC_, i64_w, i32_w]
     rfl
    refine one_ (i := 6) (N := some 13) #[true, true, true, true, true, true, true, false, false, false] rfl rfl (zh HT_.out (by kernel_rfl)) (by decide) (fun K hK => ?_)
    refine goes_ Tryd.func37 (by kernel_rfl) rfl #[.int .i64 a0_1] (by rfl) rfl rfl al_ ?_
    with_reducible refine (spec_l1Num.calls k a0_1 t130 _ A4.out).mono ?_
    rintro e w10 ⟨rfl, hb⟩
    refine ⟨_, rfl, ?_⟩
    have n0_ := qb.mk (qn (g := gb128) (o := .cells #[.int .i64 a0_0, .int .i64 a0_1, .slice A0_2 l0_2.length c0_2] 24 (0, 0)) (bk_ BK128) hb)
    have n1_ := qb.mk (qm (be1_ HB GE128) hb)
    clear BK128
    clear HB
    have BK128 := n0_
    have HB := n1_
    clear n0_ n1_
    (try clear hb)
    (try clear hb2)
    (try clear hk)
    (try clear hi)
    refine hK.out _ _ ⟨(qg BK128.out 0).trans rfl, (qg BK128.out 1).trans rfl, (qg BK128.out 2).trans rfl⟩ (fun hHeld => ?_)
    clear hK K
    refine norm_ (a' := ?_) ?_ ?_
    rotate_left
    ·show Act.put _ (some 13) _ = _
     simp only [Act.put, sA_, sB_, sC_, i64_w, i32_w]
     rfl
    refine pure_ (i := 7) (N := some 14) (v := ?_) (a' := ?_) #[true, true, true, true, true, true, true, true, false, false] rfl rfl (qq HT_.out (by kernel_rfl)) (fun _ _ _ h => h) (Or.inl ⟨by rfl, ?_⟩) ?_ ?_
    rotate_left
    ·intro w'
     go_simp
     with_reducible rfl
    rotate_left
    ·simp only [Act.put, sA_, sB_, sC_, i64_w, i32_w]
     rfl
    refine pure_ (i := 8) (N := some 15) (v := ?_) (a' := ?_) #[true, true, true, true, true, true, true, true, true, false] rfl rfl (qq HT_.out (by kernel_rfl)) (fun _ _ _ h => h) (Or.inl ⟨by rfl, ?_⟩) ?_ ?_
    rotate_left
    ·intro w'
     go_simp
     with_reducible rfl
    rotate_left
    ·simp only [Act.put, sA_, sB_, sC_, i64_w, i32_w]
     rfl
    refine pure_ (i := 9) (N := some 3) (v := ?_) (a' := ?_) #[true, true, true, true, true, true, true, true, true, true] rfl rfl (qq HT_.out (by kernel_rfl)) (fun _ _ _ h => h) (Or.inl ⟨by rfl, ?_⟩) ?_ ?_
    rotate_left
    ·intro w'
     go_simp
     with_reducible rfl
    rotate_left
    ·simp only [Act.put, sA_, sB_, sC_, i64_w, i32_w]
     rfl
    refine done_ (zq HT_.out (by kernel_rfl)) ?_
    have hcz11_0 : w10.cell? ⟨gb128, 0, none⟩ = some (.int .i64 a0_0) := (qg BK128.out 0).trans rfl
    have hcz11_1 : w10.cell? ⟨gb128, 1, none⟩ = some (.int .i64 a0_1) := (qg BK128.out 1).trans rfl
    have hcz11_2 : w10.cell? ⟨gb128, 2, none⟩ = some (.slice A0_2 l0_2.length c0_2) := (qg BK128.out 2).trans rfl
    have hfz11_0 := qj BK128.out 0
    have hfz11_1 := qj BK128.out 1
    have hfz11_2 := qj BK128.out 2
    try go_wp2
    go_loopg [3, 19] k (fun kq v3 v19 w' => ∃ (x3_1 : ByteArray) (x19_1 : Int), v3 = .string x3_1 ∧ v19 = .int .i64 x19_1 ∧ qb (spec_avText.l0 kq x3_1 l0_2 (l0_2.length : Int) x19_1 = some r) ∧ qb (kq ≤ k) ∧ qb (w'.heap[gb128]? = some (.cells #[.int .i64 a0_0, .int .i64 a0_1, (.slice A0_2 l0_2.length c0_2)] 24 (0, 0))) ∧ qb (Below w.heap.size w w'))
    case atStart => exact ⟨(((t129 ++ (⟨#[120]⟩ : ByteArray)) ++ t130) ++ (⟨#[58]⟩ : ByteArray)), (0), es_, es_, H', ⟨Nat.le_refl _⟩, ⟨bk_ BK128⟩, ⟨be1_ HB GE128⟩⟩
    case round =>
     clear H'
     try clear c3
     try clear c3b0
     try clear c3b1
     try clear c3b2
     try clear c5
     try clear c5b0
     try clear c5b1
     try clear c5b2
     try clear c6
     try clear c6b0
     try clear c6b1
     try clear c6b2
     try clear hcz11_0
     try clear hcz11_1
     try clear hcz11_2
     try clear hfz11_0
     try clear hfz11_1
     try clear hfz11_2
     obtain ⟨x3_1, x19_1, rfl, rfl, HA, HK1, BK128, HB⟩ := hrel
     cases gk with
     | zero => exact absurd HA.out (by simp [spec_avText.l0])
     | succ k1 =>
      have H := HA.out
      clear HA
      simp only [spec_avText.l0] at H
      by_cases c12 : x19_1 < (l0_2.length : Int)
      ·rw [if_pos c12] at H
       have c12b0 : decide (x19_1 < (l0_2.length : Int)) = true := decide_eq_true c12
       clear c12
       by_cases c13 : 0 ≤ x19_1
       ·rw [if_pos c13] at H
        have c13b0 : decide (0 ≤ x19_1) = true := decide_eq_true c13
        clear c13
        by_cases c14 : x19_1 < (l0_2.length : Int)
        ·rw [if_pos c14] at H
         have c14b0 : decide (x19_1 < (l0_2.length : Int)) = true := decide_eq_true c14
         clear c14
         have HC15 := qb.mk H
         clear H
         have p131 : 0 ≤ (x19_1 : Int) := od_
         have q131 : x19_1 < (l0_2.length : Int) := od_
         obtain ⟨ad131, e131, hx131_0, hx131_1, hx131_2⟩ := zv HR0_2.out x19_1 p131 q131
         cases e131
         replace hx131_0 := (HB.out.cell (World.block_lt_of_cell? w _ hx131_0)).trans hx131_0
         replace hx131_1 := (HB.out.cell (World.block_lt_of_cell? w _ hx131_1)).trans hx131_1
         replace hx131_2 := (HB.out.cell (World.block_lt_of_cell? w _ hx131_2)).trans hx131_2
         replace p131 := eq_true p131
         replace q131 := eq_true q131
         go_upto_if 25 with (first | ((with_reducible refine zc (N := 5) rfl ?_); refine zb ?hg (N := 5) ?hd (cs := #[.int .i64 0, .int .i64 0, .bool false]) (t := 39) ?hr ?_; (case hd => rfl); (case hg => rfl); (case hr => first | (go_simp; done) | (go_simp; rfl)); intro gb132 hg w16 hbox hb; have n0_ := qb.mk (qn (g := gb128) (o := .cells #[.int .i64 a0_0, .int .i64 a0_1, .slice (some ad131) l0_2.length c0_2] 24 (0, 0)) (bk_ BK128) hb); have n1_ := qb.mk (qm (be1_ HB GE128) hb); have n2_ := qb.mk (hbox); have n3_ := qb.mk ((by rw [hg]; exact (ql (be1_ HB GE128)) : w.heap.size ≤ gb132)); have n4_ := qb.mk ((by rw [hg]; exact (ql (be1_ HB GE128)) : w.heap.size ≤ gb132)); have n5_ := qb.mk ((by rw [hg]; exact Nat.ne_of_lt (zd (g := gb128) (o := .cells #[.int .i64 a0_0, .int .i64 a0_1, .slice (some ad131) l0_2.length c0_2] 24 (0, 0)) (bk_ BK128)) : gb128 ≠ gb132)); have n6_ := qb.mk ((by rw [hg]; exact Nat.ne_of_gt (zd (g := gb128) (o := .cells #[.int .i64 a0_0, .int .i64 a0_1, .slice (some ad131) l0_2.length c0_2] 24 (0, 0)) (bk_ BK128)) : gb132 ≠ gb128)); clear BK128; clear HB; have BK128 := n0_; have HB := n1_; have BK132 := n2_; have GW132 := n3_; have GE132 := n4_; have NB128_132 := n5_; have NB132_128 := n6_; clear n0_ n1_ n2_ n3_ n4_ n5_ n6_; clear hb hbox hg; have hnb17 := NB132_128.out; have hnc17 := NB128_132.out; have hcz18_0 : w16.cell? ⟨gb132, 0, none⟩ = some (.int .i64 0) := (qg BK132.out 0).trans rfl; have hcz18_1 : w16.cell? ⟨gb132, 1, none⟩ = some (.int .i64 0) := (qg BK132.out 1).trans rfl; have hcz18_2 : w16.cell? ⟨gb132, 2, none⟩ = some (.bool false) := (qg BK132.out 2).trans rfl; have hfz18_0 := qj BK132.out 0; have hfz18_1 := qj BK132.out 1; have hfz18_2 := qj BK132.out 2))
         (try simp only [Act.put, sA_, sB_, sC_])
         go_cut [3] (fun v3 wc => ∃ (kq : Nat) (x3_14 : ByteArray), v3 = .string x3_14 ∧ qb (spec_avText.j1 kq x3_14 l0_2 (l0_2.length : Int) x19_1 ((qk l0_2 x19_1).f0) ((qk l0_2 x19_1).f1) ((qk l0_2 x19_1).f2) = some r) ∧ qb (kq ≤ k1) ∧ qb (wc.heap[gb128]? = some (.cells #[.int .i64 a0_0, .int .i64 a0_1, (.slice (some ad131) l0_2.length c0_2)] 24 (0, 0))) ∧ qb (wc.heap[gb132]? = some (.cells #[.int .i64 ((qk l0_2 x19_1).f0), .int .i64 ((qk l0_2 x19_1).f1), .bool ((qk l0_2 x19_1).f2)] 39 (0, 0))) ∧ qb (Below w.heap.size w wc))
         case first =>
          have H := HC15.out
          clear HC15
          by_cases c19 : x19_1 > 0
          ·rw [if_pos c19] at H
           have c19b0 : decide (0 < x19_1) = true := decide_eq_true c19
           clear c19
           (first | rw [c19b0] | (simp only [i64_w, i32_w]; rw [c19b0]) | skip)
           by_cases c20 : x3_1.size + 1 ≤ 9223372036854775807
           ·rw [if_pos c20] at H
            have c20b0 := eq_true c20
            have c20b1 : decide (x3_1.size + 1 ≤ 9223372036854775807) = true := decide_eq_true c20
            try have c20b2 : (9223372036854775807 < x3_1.size + 1) = False := eq_false (Nat.not_lt.2 c20)
            have H' := qb.mk H
            clear H
            go_wp2
            go_meet
            case rel => exact ⟨_, (x3_1 ++ (⟨#[44]⟩ : ByteArray)), es_, H', ⟨by have := HK1.out; first | omega | exact Nat.le_refl _⟩, ⟨by (with_reducible repeat (first | refine qf ?_ _ | refine qi ?_ | refine qe ?_ _)); refine ze ?_ NB128_132.out _; (with_reducible repeat (first | refine qf ?_ _ | refine qi ?_ | refine qe ?_ _)); refine ze ?_ NB128_132.out _; (with_reducible repeat (first | refine qf ?_ _ | refine qi ?_ | refine qe ?_ _)); refine ze ?_ NB128_132.out _; (with_reducible repeat (first | refine qf ?_ _ | refine qi ?_ | refine qe ?_ _)); exact BK128.out⟩, ⟨by (with_reducible repeat (first | refine qf ?_ _ | refine qi ?_ | refine qe ?_ _)); refine qx (cs := #[.int .i64 ((qk l0_2 x19_1).f0), .int .i64 ((qk l0_2 x19_1).f1), .bool false]) ?_ 2 _ rfl; (with_reducible repeat (first | refine qf ?_ _ | refine qi ?_ | refine qe ?_ _)); refine qx (cs := #[.int .i64 ((qk l0_2 x19_1).f0), .int .i64 0, .bool false]) ?_ 1 _ rfl; (with_reducible repeat (first | refine qf ?_ _ | refine qi ?_ | refine qe ?_ _)); refine qx (cs := #[.int .i64 0, .int .i64 0, .bool false]) ?_ 0 _ rfl; (with_reducible repeat (first | refine qf ?_ _ | refine qi ?_ | refine qe ?_ _)); exact BK132.out⟩, ⟨be2_ HB GE128 GE132⟩⟩
           ·rw [if_neg c20] at H
            exact absurd H (by simp)
          ·rw [if_neg c19] at H
           have c19b0 : decide (0 < x19_1) = false := decide_eq_false c19
           clear c19
           (first | rw [c19b0] | (simp only [i64_w, i32_w]; rw [c19b0]) | skip)
           have H' := qb.mk H
           clear H
           go_wp2
           go_meet
           case rel => exact ⟨_, (x3_1), es_, H', ⟨by have := HK1.out; first | omega | exact Nat.le_refl _⟩, ⟨by (with_reducible repeat (first | refine qf ?_ _ | refine qi ?_ | refine qe ?_ _)); refine ze ?_ NB128_132.out _; (with_reducible repeat (first | refine qf ?_ _ | refine qi ?_ | refine qe ?_ _)); refine ze ?_ NB128_132.out _; (with_reducible repeat (first | refine qf ?_ _ | refine qi ?_ | refine qe ?_ _)); refine ze ?_ NB128_132.out _; (with_reducible repeat (first | refine qf ?_ _ | refine qi ?_ | refine qe ?_ _)); exact BK128.out⟩, ⟨by (with_reducible repeat (first | refine qf ?_ _ | refine qi ?_ | refine qe ?_ _)); refine qx (cs := #[.int .i64 ((qk l0_2 x19_1).f0), .int .i64 ((qk l0_2 x19_1).f1), .bool false]) ?_ 2 _ rfl; (with_reducible repeat (first | refine qf ?_ _ | refine qi ?_ | refine qe ?_ _)); refine qx (cs := #[.int .i64 ((qk l0_2 x19_1).f0), .int .i64 0, .bool false]) ?_ 1 _ rfl; (with_reducible repeat (first | refine qf ?_ _ | refine qi ?_ | refine qe ?_ _)); refine qx (cs := #[.int .i64 0, .int .i64 0, .bool false]) ?_ 0 _ rfl; (with_reducible repeat (first | refine qf ?_ _ | refine qi ?_ | refine qe ?_ _)); exact BK132.out⟩, ⟨be2_ HB GE128 GE132⟩⟩
         case rest =>
          clear HC15
          try clear c3
          try clear c3b0
          try clear c3b1
          try clear c3b2
          try clear c5
          try clear c5b0
          try clear c5b1
          try clear c5b2
          try clear c6
          try clear c6b0
          try clear c6b1
          try clear c6b2
          try clear c12
          try clear c12b0
          try clear c13
          try clear c13b0
          try clear c14
          try clear c14b0
          try clear c19
          try clear c19b0
          try clear c20
          try clear c20b0
          try clear c20b1
          try clear c20b2
          try clear hcz11_0
          try clear hcz11_1
          try clear hcz11_2
          try clear hcz18_0
          try clear hcz18_1
          try clear hcz18_2
          try clear hfz11_0
          try clear hfz11_1
          try clear hfz11_2
          try clear hfz18_0
          try clear hfz18_1
          try clear hfz18_2
          try clear hx131_0
          try clear hx131_1
          try clear hx131_2
          try clear p131
          try clear q131
          obtain ⟨kq, x3_14, rfl, HA, HJ14, BK128, BK132, HB⟩ := hcut
          cases kq with
          | zero => exact absurd HA.out (by simp [spec_avText.j1])
          | succ kj14 =>
           have H := HA.out
           clear HA
           simp only [spec_avText.j1] at H
           by_cases c21 : ((qk l0_2 x19_1).f2) = true
           ·rw [if_pos c21] at H
            have c21b0 : ((qk l0_2 x19_1).f2) = true := c21
            clear c21
            replace H := Option.bind_eq_some_iff.mp H
            obtain ⟨t133, A220, H⟩ := H
            replace H : (if t133.size + 1 ≤ 9223372036854775807 then ((spec_l1Num.f kj14 ((qk l0_2 x19_1).f1)).bind fun t134 => (if (t133 ++ (⟨#[124]⟩ : ByteArray)).size + t134.size ≤ 9223372036854775807 then (if x3_14.size + ((t133 ++ (⟨#[124]⟩ : ByteArray)) ++ t134).size ≤ 9223372036854775807 then (spec_avText.l0 kj14 (x3_14 ++ ((t133 ++ (⟨#[124]⟩ : ByteArray)) ++ t134)) l0_2 (l0_2.length : Int) (wrap64 (x19_1 + 1))) else (none)) else (none))) else (none)) = some r := H
            have A22 := qb.mk A220
            clear A220
            by_cases c23 : t133.size + 1 ≤ 9223372036854775807
            ·rw [if_pos c23] at H
             have c23b0 := eq_true c23
             have c23b1 : decide (t133.size + 1 ≤ 9223372036854775807) = true := decide_eq_true c23
             try have c23b2 : (9223372036854775807 < t133.size + 1) = False := eq_false (Nat.not_lt.2 c23)
             replace H := Option.bind_eq_some_iff.mp H
             obtain ⟨t134, A240, H⟩ := H
             replace H : (if (t133 ++ (⟨#[124]⟩ : ByteArray)).size + t134.size ≤ 9223372036854775807 then (if x3_14.size + ((t133 ++ (⟨#[124]⟩ : ByteArray)) ++ t134).size ≤ 9223372036854775807 then (spec_avText.l0 kj14 (x3_14 ++ ((t133 ++ (⟨#[124]⟩ : ByteArray)) ++ t134)) l0_2 (l0_2.length : Int) (wrap64 (x19_1 + 1))) else (none)) else (none)) = some r := H
             have A24 := qb.mk A240
             clear A240
             by_cases c25 : (t133 ++ (⟨#[124]⟩ : ByteArray)).size + t134.size ≤ 9223372036854775807
             ·rw [if_pos c25] at H
              have c25b0 := eq_true c25
              have c25b1 : decide ((t133 ++ (⟨#[124]⟩ : ByteArray)).size + t134.size ≤ 9223372036854775807) = true := decide_eq_true c25
              try have c25b2 : (9223372036854775807 < (t133 ++ (⟨#[124]⟩ : ByteArray)).size + t134.size) = False := eq_false (Nat.not_lt.2 c25)
              try have c25z : (9223372036854775807 < t133.size + 1 + t134.size) = False := eq_false (Nat.not_lt.2 (by have h_ := c25; simp only [ByteArray.size_append] at h_; exact h_))
              by_cases c26 : x3_14.size + ((t133 ++ (⟨#[124]⟩ : ByteArray)) ++ t134).size ≤ 9223372036854775807
              ·rw [if_pos c26] at H
               have c26b0 := eq_true c26
               have c26b1 : decide (x3_14.size + ((t133 ++ (⟨#[124]⟩ : ByteArray)) ++ t134).size ≤ 9223372036854775807) = true := decide_eq_true c26
               try have c26b2 : (9223372036854775807 < x3_14.size + ((t133 ++ (⟨#[124]⟩ : ByteArray)) ++ t134).size) = False := eq_false (Nat.not_lt.2 c26)
               try have c26z : (9223372036854775807 < x3_14.size + (t133.size + 1 + t134.size)) = False := eq_false (Nat.not_lt.2 (by have h_ := c26; simp only [ByteArray.size_append] at h_; exact h_))
               have H' := qb.mk H
               clear H
               have hnb27 := NB132_128.out
               have hnc27 := NB128_132.out
               have hcz28_0 : wc.cell? ⟨gb132, 0, none⟩ = some (.int .i64 ((qk l0_2 x19_1).f0)) := (qg BK132.out 0).trans rfl
               have hcz28_1 : wc.cell? ⟨gb132, 1, none⟩ = some (.int .i64 ((qk l0_2 x19_1).f1)) := (qg BK132.out 1).trans rfl
               have hcz28_2 : wc.cell? ⟨gb132, 2, none⟩ = some (.bool ((qk l0_2 x19_1).f2)) := (qg BK132.out 2).trans rfl
               have hfz28_0 := qj BK132.out 0
               have hfz28_1 := qj BK132.out 1
               have hfz28_2 := qj BK132.out 2
               try go_wp2
               have n0_ := qb.mk (qi BK128.out)
               have n1_ := qb.mk (qi BK132.out)
               have n2_ := qb.mk (qc HB.out)
               clear BK128
               clear BK132
               clear HB
               have BK128 := n0_
               have BK132 := n1_
               have HB := n2_
               clear n0_ n1_ n2_
               refine zu (n := 12) (S := fun w' => w'.cell? ⟨gb132, 0, none⟩ = some (.int .i64 ((qk l0_2 x19_1).f0)) ∧ w'.cell? ⟨gb132, 1, none⟩ = some (.int .i64 ((qk l0_2 x19_1).f1)) ∧ w'.cell? ⟨gb132, 2, none⟩ = some (.bool ((qk l0_2 x19_1).f2))) (ds := []) #[false, false, false, false, false, false, false, false, false, false, false, false] (by kernel_rfl) rfl rfl ⟨(qg BK132.out 0).trans rfl, (qg BK132.out 1).trans rfl, (qg BK132.out 2).trans rfl⟩ (fun hHeld => ?_); refine zl spec_avText.tab10 spec_avText.bits10 (fun HT_ HW_ => ?_)
               generalize wc.drew = w29 at BK128 BK132 HB hHeld ⊢
               refine pure_ (i := 0) (N := some 30) (v := ?_) (a' := ?_) #[true, false, false, false, false, false, false, false, false, false, false, false] rfl rfl (qq HT_.out (by kernel_rfl)) (fun _ _ _ h => h) (Or.inl ⟨by rfl, ?_⟩) ?_ ?_
               rotate_left
               ·intro w'
                go_simp
                with_reducible rfl
               rotate_left
               ·simp only [Act.put, sA_, sB_, sC_, i64_w, i32_w]
                rfl
               refine pure_ (i := 1) (N := some 31) (v := ?_) (a' := ?_) #[true, true, false, false, false, false, false, false, false, false, false, false] rfl rfl (qq HT_.out (by kernel_rfl)) (fun _ _ _ h => h) (Or.inl ⟨by rfl, ?_⟩) ?_ ?_
               rotate_left
               ·intro w'
                go_simp
                with_reducible rfl
               rotate_left
               ·simp only [Act.put, sA_, sB_, sC_, i64_w, i32_w]
                rfl
               refine pure_ (i := 4) (N := some 34) (v := ?_) (a' := ?_) #[true, true, false, false, true, false, false, false, false, false, false, false] rfl rfl (qq HT_.out (by kernel_rfl)) (fun _ _ _ h => h) (Or.inl ⟨by rfl, ?_⟩) ?_ ?_
               rotate_left
               ·intro w'
                go_simp
                with_reducible rfl
               rotate_left
               ·simp only [Act.put, sA_, sB_, sC_, i64_w, i32_w]
                rfl
               refine pure_ (i := 6) (N := some 36) (v := ?_) (a' := ?_) #[true, true, false, false, true, false, true, false, false, false, false, false] rfl rfl (qq HT_.out (by kernel_rfl)) (fun _ _ _ h => h) (Or.inl ⟨by rfl, ?_⟩) ?_ ?_
               rotate_left
               ·intro w'
                go_simp
                with_reducible rfl
               rotate_left
               ·simp only [Act.put, sA_, sB_, sC_, i64_w, i32_w]
                rfl
               refine take_ (i := 2) (N := some 32) (v := ?_) (a' := ?_) #[true, true, true, false, true, false, true, false, false, false, false, false] rfl rfl (qz HT_.out HW_.out (by kernel_rfl)) (fun _ _ _ h => h) (Or.inl ⟨by rfl, ?_⟩) hHeld ?_ ?_
               rotate_left
               ·rintro w' ⟨s0, s1, s2⟩
                go_simp
                with_reducible rfl
               rotate_left
               ·simp only [Act.put, sA_, sB_, sC_, i64_w, i32_w]
                rfl
               refine take_ (i := 7) (N := some 37) (v := ?_) (a' := ?_) #[true, true, true, false, true, false, true, true, false, false, false, false] rfl rfl (qz HT_.out HW_.out (by kernel_rfl)) (fun _ _ _ h => h) (Or.inl ⟨by rfl, ?_⟩) hHeld ?_ ?_
               rotate_left
               ·rintro w' ⟨s0, s1, s2⟩
                go_simp
                with_reducible rfl
               rotate_left
               ·simp only [Act.put, sA_, sB_, sC_, i64_w, i32_w]
                rfl
               refine one_ (i := 3) (N := some 33) #[true, true, true, true, true, false, true, true, false, false, false, false] rfl rfl (zh HT_.out (by kernel_rfl)) (by decide) (fun K hK => ?_)
               refine goes_ Tryd.func37 (by kernel_rfl) rfl #[.int .i64 ((qk l0_2 x19_1).f0)] (by rfl) rfl rfl al_ ?_
               with_reducible refine (spec_l1Num.calls kj14 ((qk l0_2 x19_1).f0) t133 _ A22.out).mono ?_
               rintro e w30 ⟨rfl, hb⟩
               refine ⟨_, rfl, ?_⟩
               have n0_ := qb.mk (qn (g := gb128) (o := .cells #[.int .i64 a0_0, .int .i64 a0_1, .slice (some ad131) l0_2.length c0_2] 24 (0, 0)) (bk_ BK128) hb)
               have n1_ := qb.mk (qn (g := gb132) (o := .cells #[.int .i64 ((qk l0_2 x19_1).f0), .int .i64 ((qk l0_2 x19_1).f1), .bool ((qk l0_2 x19_1).f2)] 39 (0, 0)) (bk_ BK132) hb)
               have n2_ := qb.mk (qm (be2_ HB GE128 GE132) hb)
               clear BK128
               clear BK132
               clear HB
               have BK128 := n0_
               have BK132 := n1_
               have HB := n2_
               clear n0_ n1_ n2_
               (try clear hb)
               (try clear hb2)
               (try clear hk)
               (try clear hi)
               refine hK.out _ _ ⟨(qg BK132.out 0).trans rfl, (qg BK132.out 1).trans rfl, (qg BK132.out 2).trans rfl⟩ (fun hHeld => ?_)
               clear hK K
               refine norm_ (a' := ?_) ?_ ?_
               rotate_left
               ·show Act.put _ (some 33) _ = _
                simp only [Act.put, sA_, sB_, sC_, i64_w, i32_w]
                rfl
               refine pure_ (i := 5) (N := some 35) (v := ?_) (a' := ?_) #[true, true, true, true, true, true, true, true, false, false, false, false] rfl rfl (qq HT_.out (by kernel_rfl)) (fun _ _ _ h => h) (Or.inl ⟨by rfl, ?_⟩) ?_ ?_
               rotate_left
               ·intro w'
                go_simp
                with_reducible rfl
               rotate_left
               ·simp only [Act.put, sA_, sB_, sC_, i64_w, i32_w]
                rfl
               refine one_ (i := 8) (N := some 38) #[true, true, true, true, true, true, true, true, true, false, false, false] rfl rfl (zh HT_.out (by kernel_rfl)) (by decide) (fun K hK => ?_)
               refine goes_ Tryd.func37 (by kernel_rfl) rfl #[.int .i64 ((qk l0_2 x19_1).f1)] (by rfl) rfl rfl al_ ?_
               with_reducible refine (spec_l1Num.calls kj14 ((qk l0_2 x19_1).f1) t134 _ A24.out).mono ?_
               rintro e w31 ⟨rfl, hb⟩
               refine ⟨_, rfl, ?_⟩
               have n0_ := qb.mk (qn (g := gb128) (o := .cells #[.int .i64 a0_0, .int .i64 a0_1, .slice (some ad131) l0_2.length c0_2] 24 (0, 0)) (bk_ BK128) hb)
               have n1_ := qb.mk (qn (g := gb132) (o := .cells #[.int .i64 ((qk l0_2 x19_1).f0), .int .i64 ((qk l0_2 x19_1).f1), .bool ((qk l0_2 x19_1).f2)] 39 (0, 0)) (bk_ BK132) hb)
               have n2_ := qb.mk (qm (be2_ HB GE128 GE132) hb)
               clear BK128
               clear BK132
               clear HB
               have BK128 := n0_
               have BK132 := n1_
               have HB := n2_
               clear n0_ n1_ n2_
               (try clear hb)
               (try clear hb2)
               (try clear hk)
               (try clear hi)
               refine hK.out _ _ ⟨(qg BK132.out 0).trans rfl, (qg BK132.out 1).trans rfl, (qg BK132.out 2).trans rfl⟩ (fun hHeld => ?_)
               clear hK K
               refine norm_ (a' := ?_) ?_ ?_
               rotate_left
               ·show Act.put _ (some 38) _ = _
                simp only [Act.put, sA_, sB_, sC_, i64_w, i32_w]
                rfl
               refine pure_ (i := 9) (N := some 39) (v := ?_) (a' := ?_) #[true, true, true, true, true, true, true, true, true, true, false, false] rfl rfl (qq HT_.out (by kernel_rfl)) (fun _ _ _ h => h) (Or.inl ⟨by rfl, ?_⟩) ?_ ?_
               rotate_left
               ·intro w'
                go_simp
                with_reducible rfl
               rotate_left
               ·simp only [Act.put, sA_, sB_, sC_, i64_w, i32_w]
                rfl
               refine pure_ (i := 10) (N := some 40) (v := ?_) (a' := ?_) #[true, true, true, true, true, true, true, true, true, true, true, false] rfl rfl (qq HT_.out (by kernel_rfl)) (fun _ _ _ h => h) (Or.inl ⟨by rfl, ?_⟩) ?_ ?_
               rotate_left
               ·intro w'
                go_simp
                with_reducible rfl
               rotate_left
               ·simp only [Act.put, sA_, sB_, sC_, i64_w, i32_w]
                rfl
               refine pure_ (i := 11) (N := some 3) (v := ?_) (a' := ?_) #[true, true, true, true, true, true, true, true, true, true, true, true] rfl rfl (qq HT_.out (by kernel_rfl)) (fun _ _ _ h => h) (Or.inl ⟨by rfl, ?_⟩) ?_ ?_
               rotate_left
               ·intro w'
                go_simp
                with_reducible rfl
               rotate_left
               ·simp only [Act.put, sA_, sB_, sC_, i64_w, i32_w]
                rfl
               refine done_ (zq HT_.out (by kernel_rfl)) ?_
               try go_wp2
               go_roundg kj14
               case measure => have := HK1.out; have := HJ14.out; omega
               case rel => exact ⟨(x3_14 ++ ((t133 ++ (⟨#[124]⟩ : ByteArray)) ++ t134)), (wrap64 (x19_1 + 1)), es_, es_, H', ⟨by have := HK1.out; have := HJ14.out; omega⟩, ⟨bk_ BK128⟩, ⟨be2_ HB GE128 GE132⟩⟩
              ·rw [if_neg c26] at H
               exact absurd H (by simp)
             ·rw [if_neg c25] at H
              exact absurd H (by simp)
            ·rw [if_neg c23] at H
             exact absurd H (by simp)
           ·rw [if_neg c21] at H
            have c21b0 : ((qk l0_2 x19_1).f2) = false := by simpa using c21
            clear c21
            replace H := Option.bind_eq_some_iff.mp H
            obtain ⟨t135, A320, H⟩ := H
            replace H : (if t135.size + 1 ≤ 9223372036854775807 then ((spec_l1Num.f kj14 ((qk l0_2 x19_1).f1)).bind fun t136 => (if (t135 ++ (⟨#[45]⟩ : ByteArray)).size + t136.size ≤ 9223372036854775807 then (if x3_14.size + ((t135 ++ (⟨#[45]⟩ : ByteArray)) ++ t136).size ≤ 9223372036854775807 then (spec_avText.l0 kj14 (x3_14 ++ ((t135 ++ (⟨#[45]⟩ : ByteArray)) ++ t136)) l0_2 (l0_2.length : Int) (wrap64 (x19_1 + 1))) else (none)) else (none))) else (none)) = some r := H
            have A32 := qb.mk A320
            clear A320
            by_cases c33 : t135.size + 1 ≤ 9223372036854775807
            ·rw [if_pos c33] at H
             have c33b0 := eq_true c33
             have c33b1 : decide (t135.size + 1 ≤ 9223372036854775807) = true := decide_eq_true c33
             try have c33b2 : (9223372036854775807 < t135.size + 1) = False := eq_false (Nat.not_lt.2 c33)
             replace H := Option.bind_eq_some_iff.mp H
             obtain ⟨t136, A340, H⟩ := H
             replace H : (if (t135 ++ (⟨#[45]⟩ : ByteArray)).size + t136.size ≤ 9223372036854775807 then (if x3_14.size + ((t135 ++ (⟨#[45]⟩ : ByteArray)) ++ t136).size ≤ 9223372036854775807 then (spec_avText.l0 kj14 (x3_14 ++ ((t135 ++ (⟨#[45]⟩ : ByteArray)) ++ t136)) l0_2 (l0_2.length : Int) (wrap64 (x19_1 + 1))) else (none)) else (none)) = some r := H
             have A34 := qb.mk A340
             clear A340
             by_cases c35 : (t135 ++ (⟨#[45]⟩ : ByteArray)).size + t136.size ≤ 9223372036854775807
             ·rw [if_pos c35] at H
              have c35b0 := eq_true c35
              have c35b1 : decide ((t135 ++ (⟨#[45]⟩ : ByteArray)).size + t136.size ≤ 9223372036854775807) = true := decide_eq_true c35
              try have c35b2 : (9223372036854775807 < (t135 ++ (⟨#[45]⟩ : ByteArray)).size + t136.size) = False := eq_false (Nat.not_lt.2 c35)
              try have c35z : (9223372036854775807 < t135.size + 1 + t136.size) = False := eq_false (Nat.not_lt.2 (by have h_ := c35; simp only [ByteArray.size_append] at h_; exact h_))
              by_cases c36 : x3_14.size + ((t135 ++ (⟨#[45]⟩ : ByteArray)) ++ t136).size ≤ 9223372036854775807
              ·rw [if_pos c36] at H
               have c36b0 := eq_true c36
               have c36b1 : decide (x3_14.size + ((t135 ++ (⟨#[45]⟩ : ByteArray)) ++ t136).size ≤ 9223372036854775807) = true := decide_eq_true c36
               try have c36b2 : (9223372036854775807 < x3_14.size + ((t135 ++ (⟨#[45]⟩ : ByteArray)) ++ t136).size) = False := eq_false (Nat.not_lt.2 c36)
               try have c36z : (9223372036854775807 < x3_14.size + (t135.size + 1 + t136.size)) = False := eq_false (Nat.not_lt.2 (by have h_ := c36; simp only [ByteArray.size_append] at h_; exact h_))
               have H' := qb.mk H
               clear H
               have hnb37 := NB132_128.out
               have hnc37 := NB128_132.out
               have hcz38_0 : wc.cell? ⟨gb132, 0, none⟩ = some (.int .i64 ((qk l0_2 x19_1).f0)) := (qg BK132.out 0).trans rfl
               have hcz38_1 : wc.cell? ⟨gb132, 1, none⟩ = some (.int .i64 ((qk l0_2 x19_1).f1)) := (qg BK132.out 1).trans rfl
               have hcz38_2 : wc.cell? ⟨gb132, 2, none⟩ = some (.bool ((qk l0_2 x19_1).f2)) := (qg BK132.out 2).trans rfl
               have hfz38_0 := qj BK132.out 0
               have hfz38_1 := qj BK132.out 1
               have hfz38_2 := qj BK132.out 2
               try go_wp2
               have n0_ := qb.mk (qi BK128.out)
               have n1_ := qb.mk (qi BK132.out)
               have n2_ := qb.mk (qc HB.out)
               clear BK128
               clear BK132
               clear HB
               have BK128 := n0_
               have BK132 := n1_
               have HB := n2_
               clear n0_ n1_ n2_
               refine zu (n := 12) (S := fun w' => w'.cell? ⟨gb132, 0, none⟩ = some (.int .i64 ((qk l0_2 x19_1).f0)) ∧ w'.cell? ⟨gb132, 1, none⟩ = some (.int .i64 ((qk l0_2 x19_1).f1)) ∧ w'.cell? ⟨gb132, 2, none⟩ = some (.bool ((qk l0_2 x19_1).f2))) (ds := []) #[false, false, false, false, false, false, false, false, false, false, false, false] (by kernel_rfl) rfl rfl ⟨(qg BK132.out 0).trans rfl, (qg BK132.out 1).trans rfl, (qg BK132.out 2).trans rfl⟩ (fun hHeld => ?_); refine zl spec_avText.tab10 spec_avText.bits10 (fun HT_ HW_ => ?_)
               generalize wc.drew = w39 at BK128 BK132 HB hHeld ⊢
               refine pure_ (i := 0) (N := some 30) (v := ?_) (a' := ?_) #[true, false, false, false, false, false, false, false, false, false, false, false] rfl rfl (qq HT_.out (by kernel_rfl)) (fun _ _ _ h => h) (Or.inl ⟨by rfl, ?_⟩) ?_ ?_
               rotate_left
               ·intro w'
                go_simp
                with_reducible rfl
               rotate_left
               ·simp only [Act.put, sA_, sB_, sC_, i64_w, i32_w]
                rfl
               refine pure_ (i := 1) (N := some 31) (v := ?_) (a' := ?_) #[true, true, false, false, false, false, false, false, false, false, false, false] rfl rfl (qq HT_.out (by kernel_rfl)) (fun _ _ _ h => h) (Or.inl ⟨by rfl, ?_⟩) ?_ ?_
               rotate_left
               ·intro w'
                go_simp
                with_reducible rfl
               rotate_left
               ·simp only [Act.put, sA_, sB_, sC_, i64_w, i32_w]
                rfl
               refine pure_ (i := 4) (N := some 34) (v := ?_) (a' := ?_) #[true, true, false, false, true, false, false, false, false, false, false, false] rfl rfl (qq HT_.out (by kernel_rfl)) (fun _ _ _ h => h) (Or.inl ⟨by rfl, ?_⟩) ?_ ?_
               rotate_left
               ·intro w'
                go_simp
                with_reducible rfl
               rotate_left
               ·simp only [Act.put, sA_, sB_, sC_, i64_w, i32_w]
                rfl
               refine pure_ (i := 6) (N := some 36) (v := ?_) (a' := ?_) #[true, true, false, false, true, false, true, false, false, false, false, false] rfl rfl (qq HT_.out (by kernel_rfl)) (fun _ _ _ h => h) (Or.inl ⟨by rfl, ?_⟩) ?_ ?_
               rotate_left
               ·intro w'
                go_simp
                with_reducible rfl
               rotate_left
               ·simp only [Act.put, sA_, sB_, sC_, i64_w, i32_w]
                rfl
               refine take_ (i := 2) (N := some 32) (v := ?_) (a' := ?_) #[true, true, true, false, true, false, true, false, false, false, false, false] rfl rfl (qz HT_.out HW_.out (by kernel_rfl)) (fun _ _ _ h => h) (Or.inl ⟨by rfl, ?_⟩) hHeld ?_ ?_
               rotate_left
               ·rintro w' ⟨s0, s1, s2⟩
                go_simp
                with_reducible rfl
               rotate_left
               ·simp only [Act.put, sA_, sB_, sC_, i64_w, i32_w]
                rfl
               refine take_ (i := 7) (N := some 37) (v := ?_) (a' := ?_) #[true, true, true, false, true, false, true, true, false, false, false, false] rfl rfl (qz HT_.out HW_.out (by kernel_rfl)) (fun _ _ _ h => h) (Or.inl ⟨by rfl, ?_⟩) hHeld ?_ ?_
               rotate_left
               ·rintro w' ⟨s0, s1, s2⟩
                go_simp
                with_reducible rfl
               rotate_left
               ·simp only [Act.put, sA_, sB_, sC_, i64_w, i32_w]
                rfl
               refine one_ (i := 3) (N := some 33) #[true, true, true, true, true, false, true, true, false, false, false, false] rfl rfl (zh HT_.out (by kernel_rfl)) (by decide) (fun K hK => ?_)
               refine goes_ Tryd.func37 (by kernel_rfl) rfl #[.int .i64 ((qk l0_2 x19_1).f0)] (by rfl) rfl rfl al_ ?_
               with_reducible refine (spec_l1Num.calls kj14 ((qk l0_2 x19_1).f0) t135 _ A32.out).mono ?_
               rintro e w40 ⟨rfl, hb⟩
               refine ⟨_, rfl, ?_⟩
               have n0_ := qb.mk (qn (g := gb128) (o := .cells #[.int .i64 a0_0, .int .i64 a0_1, .slice (some ad131) l0_2.length c0_2] 24 (0, 0)) (bk_ BK128) hb)
               have n1_ := qb.mk (qn (g := gb132) (o := .cells #[.int .i64 ((qk l0_2 x19_1).f0), .int .i64 ((qk l0_2 x19_1).f1), .bool ((qk l0_2 x19_1).f2)] 39 (0, 0)) (bk_ BK132) hb)
               have n2_ := qb.mk (qm (be2_ HB GE128 GE132) hb)
               clear BK128
               clear BK132
               clear HB
               have BK128 := n0_
               have BK132 := n1_
               have HB := n2_
               clear n0_ n1_ n2_
               (try clear hb)
               (try clear hb2)
               (try clear hk)
               (try clear hi)
               refine hK.out _ _ ⟨(qg BK132.out 0).trans rfl, (qg BK132.out 1).trans rfl, (qg BK132.out 2).trans rfl⟩ (fun hHeld => ?_)
               clear hK K
               refine norm_ (a' := ?_) ?_ ?_
               rotate_left
               ·show Act.put _ (some 33) _ = _
                simp only [Act.put, sA_, sB_, sC_, i64_w, i32_w]
                rfl
               refine pure_ (i := 5) (N := some 35) (v := ?_) (a' := ?_) #[true, true, true, true, true, true, true, true, false, false, false, false] rfl rfl (qq HT_.out (by kernel_rfl)) (fun _ _ _ h => h) (Or.inl ⟨by rfl, ?_⟩) ?_ ?_
               rotate_left
               ·intro w'
                go_simp
                with_reducible rfl
               rotate_left
               ·simp only [Act.put, sA_, sB_, sC_, i64_w, i32_w]
                rfl
               refine one_ (i := 8) (N := some 38) #[true, true, true, true, true, true, true, true, true, false, false, false] rfl rfl (zh HT_.out (by kernel_rfl)) (by decide) (fun K hK => ?_)
               refine goes_ Tryd.func37 (by kernel_rfl) rfl #[.int .i64 ((qk l0_2 x19_1).f1)] (by rfl) rfl rfl al_ ?_
               with_reducible refine (spec_l1Num.calls kj14 ((qk l0_2 x19_1).f1) t136 _ A34.out).mono ?_
               rintro e w41 ⟨rfl, hb⟩
               refine ⟨_, rfl, ?_⟩
               have n0_ := qb.mk (qn (g := gb128) (o := .cells #[.int .i64 a0_0, .int .i64 a0_1, .slice (some ad131) l0_2.length c0_2] 24 (0, 0)) (bk_ BK128) hb)
               have n1_ := qb.mk (qn (g := gb132) (o := .cells #[.int .i64 ((qk l0_2 x19_1).f0), .int .i64 ((qk l0_2 x19_1).f1), .bool ((qk l0_2 x19_1).f2)] 39 (0, 0)) (bk_ BK132) hb)
               have n2_ := qb.mk (qm (be2_ HB GE128 GE132) hb)
               clear BK128
               clear BK132
               clear HB
               have BK128 := n0_
               have BK132 := n1_
               have HB := n2_
               clear n0_ n1_ n2_
               (try clear hb)
               (try clear hb2)
               (try clear hk)
               (try clear hi)
               refine hK.out _ _ ⟨(qg BK132.out 0).trans rfl, (qg BK132.out 1).trans rfl, (qg BK132.out 2).trans rfl⟩ (fun hHeld => ?_)
               clear hK K
               refine norm_ (a' := ?_) ?_ ?_
               rotate_left
               ·show Act.put _ (some 38) _ = _
                simp only [Act.put, sA_, sB_, sC_, i64_w, i32_w]
                rfl
               refine pure_ (i := 9) (N := some 39) (v := ?_) (a' := ?_) #[true, true, true, true, true, true, true, true, true, true, false, false] rfl rfl (qq HT_.out (by kernel_rfl)) (fun _ _ _ h => h) (Or.inl ⟨by rfl, ?_⟩) ?_ ?_
               rotate_left
               ·intro w'
                go_simp
                with_reducible rfl
               rotate_left
               ·simp only [Act.put, sA_, sB_, sC_, i64_w, i32_w]
                rfl
               refine pure_ (i := 10) (N := some 40) (v := ?_) (a' := ?_) #[true, true, true, true, true, true, true, true, true, true, true, false] rfl rfl (qq HT_.out (by kernel_rfl)) (fun _ _ _ h => h) (Or.inl ⟨by rfl, ?_⟩) ?_ ?_
               rotate_left
               ·intro w'
                go_simp
                with_reducible rfl
               rotate_left
               ·simp only [Act.put, sA_, sB_, sC_, i64_w, i32_w]
                rfl
               refine pure_ (i := 11) (N := some 3) (v := ?_) (a' := ?_) #[true, true, true, true, true, true, true, true, true, true, true, true] rfl rfl (qq HT_.out (by kernel_rfl)) (fun _ _ _ h => h) (Or.inl ⟨by rfl, ?_⟩) ?_ ?_
               rotate_left
               ·intro w'
                go_simp
                with_reducible rfl
               rotate_left
               ·simp only [Act.put, sA_, sB_, sC_, i64_w, i32_w]
                rfl
               refine done_ (zq HT_.out (by kernel_rfl)) ?_
               try go_wp2
               go_roundg kj14
               case measure => have := HK1.out; have := HJ14.out; omega
               case rel => exact ⟨(x3_14 ++ ((t135 ++ (⟨#[45]⟩ : ByteArray)) ++ t136)), (wrap64 (x19_1 + 1)), es_, es_, H', ⟨by have := HK1.out; have := HJ14.out; omega⟩, ⟨bk_ BK128⟩, ⟨be2_ HB GE128 GE132⟩⟩
              ·rw [if_neg c36] at H
               exact absurd H (by simp)
             ·rw [if_neg c35] at H
              exact absurd H (by simp)
            ·rw [if_neg c33] at H
             exact absurd H (by simp)
        ·rw [if_neg c14] at H
         exact absurd H (by simp)
       ·rw [if_neg c13] at H
        exact absurd H (by simp)
      ·rw [if_neg c12] at H
       have c12b0 : decide (x19_1 < (l0_2.length : Int)) = false := decide_eq_false c12
       clear c12
       obtain rfl := Option.some.inj H
       go_wp2
       go_ret
       exact ⟨er_, be1_ HB GE128⟩
   ·rw [if_neg c6] at H
    exact absurd H (by simp)
  ·rw [if_neg c5] at H
   exact absurd H (by simp)
 ·rw [if_neg c3] at H
  exact absurd H (by simp)
end Go.Proofs.YtbnbdaommbnecacDoor.PFnExactParseCity
