/- Cut by wip/cut.py out of the texts of this claim (printed by the kit's printer, or this session's own): what the row's theorem does not reach is struck. Not trusted: Lean checks it. -/
import Derived.Test.YtpedofomfhmnfaaZFnExactNeededBlocksPx0
import Derived.Test.YtpedofomfhmnfaaZFnExactNeededBlocksPx8
import Derived.Test.YtpedofomfhmnfaaZFnExactNeededBlocksPx11
namespace Go.Proofs.Ytpedofomfhmnfaa.PFnExactNeededBlocks
open Go.RowKit Go.Proofs.YtpedofomfhmnfaaW.PrintWords Go.Proofs.YtpedofomfhmnfaaW.PrintLast Go.Proofs.YtpedofomfhmnfaaW.PrintMore
attribute [local go_sem] max2_int min2_int max_two min_two max_three min_three max_four min_four
set_option linter.unusedVariables false
set_option linter.unusedSimpArgs false
def impl_moved.f (l0 : List Int) (a1 : Int) : Option (List Int) := if 0 ≤ a1 then (if a1 < 4 then (if (bt (⟨#[101, 110, 115, 119]⟩ : ByteArray) a1) = 101 then (if 0 < (l0.length : Int) then (if 1 < (l0.length : Int) then (some (([wrap64 ((rd l0 0) + 1), rd l0 1] : List Int))) else (none)) else (none)) else (if (bt (⟨#[101, 110, 115, 119]⟩ : ByteArray) a1) = 110 then (if 0 < (l0.length : Int) then (if 1 < (l0.length : Int) then (some (([rd l0 0, wrap64 ((rd l0 1) + 1)] : List Int))) else (none)) else (none)) else (if (bt (⟨#[101, 110, 115, 119]⟩ : ByteArray) a1) = 115 then (if 0 < (l0.length : Int) then (if 1 < (l0.length : Int) then (some (([rd l0 0, wrap64 ((rd l0 1) - 1)] : List Int))) else (none)) else (none)) else (if 0 < (l0.length : Int) then (if 1 < (l0.length : Int) then (some (([wrap64 ((rd l0 0) - 1), rd l0 1] : List Int))) else (none)) else (none))))) else (none)) else (none)
def impl_moved.T3 : Bool × List (List Nat × List Nat) := (true, [([], []), ([0], [0]), ([1], [1]), ([2], [2]), ([], []), ([4], [4]), ([5], [5]), ([3, 6], [3, 6]), ([7, 0, 1, 2, 3, 4, 5, 6, 7], [7])])
def impl_moved.B3 : List Nat := [0, 1, 3, 7, 0, 16, 48, 127, 255]
theorem impl_moved.tab3 : rtab .any (opsOf Try.f72 3) = impl_moved.T3 := by kernel_rfl
theorem impl_moved.bits3 : waitsOk impl_moved.T3.2 impl_moved.B3 = true := by kernel_rfl
def impl_moved.T5 : Bool × List (List Nat × List Nat) := (true, [([], []), ([0], [0]), ([1], [1]), ([], []), ([3], [3]), ([4], [4]), ([5], [5]), ([2, 6], [2, 6]), ([7, 0, 1, 2, 3, 4, 5, 6, 7], [7])])
def impl_moved.B5 : List Nat := [0, 1, 3, 0, 8, 24, 56, 127, 255]
theorem impl_moved.tab5 : rtab .any (opsOf Try.f72 5) = impl_moved.T5 := by kernel_rfl
theorem impl_moved.bits5 : waitsOk impl_moved.T5.2 impl_moved.B5 = true := by kernel_rfl
def impl_moved.T7 : Bool × List (List Nat × List Nat) := (true, [([], []), ([0], [0]), ([1], [1]), ([], []), ([3], [3]), ([4], [4]), ([5], [5]), ([2, 6], [2, 6]), ([7, 0, 1, 2, 3, 4, 5, 6, 7], [7])])
def impl_moved.B7 : List Nat := [0, 1, 3, 0, 8, 24, 56, 127, 255]
theorem impl_moved.tab7 : rtab .any (opsOf Try.f72 7) = impl_moved.T7 := by kernel_rfl
theorem impl_moved.bits7 : waitsOk impl_moved.T7.2 impl_moved.B7 = true := by kernel_rfl
def impl_moved.T8 : Bool × List (List Nat × List Nat) := (true, [([], []), ([0], [0]), ([1], [1]), ([2], [2]), ([], []), ([4], [4]), ([5], [5]), ([3, 6], [3, 6]), ([7, 0, 1, 2, 3, 4, 5, 6, 7], [7])])
def impl_moved.B8 : List Nat := [0, 1, 3, 7, 0, 16, 48, 127, 255]
theorem impl_moved.tab8 : rtab .any (opsOf Try.f72 8) = impl_moved.T8 := by kernel_rfl
theorem impl_moved.bits8 : waitsOk impl_moved.T8.2 impl_moved.B8 = true := by kernel_rfl
set_option maxHeartbeats 8000000 in
set_option maxRecDepth 100000 in
theorem impl_moved.calls (A0 : Option Addr) (c0 : Nat) (l0 : List Int) (a1 : Int) (r : List Int) (w : World) (hr0 : Kd.C (Kd.int .i64) w A0 l0.length l0) (hc0 : l0.length ≤ c0) (h : impl_moved.f l0 a1 = some r) :
  Calls Try.prog 72 #[.slice A0 l0.length c0, .int .i64 a1] w fun e w' => ∃ v0_ : Value, e = .returned (v0_) ∧ Kd.R (Kd.int .i64) 3 w' w.heap.size (fun _ => True) v0_ r ∧ Below w.heap.size w w' := by
 have HR0 := qb.mk hr0;have HC0 := qb.mk hc0;clear hr0 hc0;have HB := qb.mk (Below.refl w.heap.size w);have H : (if 0 ≤ a1 then (if a1 < 4 then (if (bt (⟨#[101, 110, 115, 119]⟩ : ByteArray) a1) = 101 then (if 0 < (l0.length : Int) then (if 1 < (l0.length : Int) then (some (([wrap64 ((rd l0 0) + 1), rd l0 1] : List Int))) else (none)) else (none)) else (if (bt (⟨#[101, 110, 115, 119]⟩ : ByteArray) a1) = 110 then (if 0 < (l0.length : Int) then (if 1 < (l0.length : Int) then (some (([rd l0 0, wrap64 ((rd l0 1) + 1)] : List Int))) else (none)) else (none)) else (if (bt (⟨#[101, 110, 115, 119]⟩ : ByteArray) a1) = 115 then (if 0 < (l0.length : Int) then (if 1 < (l0.length : Int) then (some (([rd l0 0, wrap64 ((rd l0 1) - 1)] : List Int))) else (none)) else (none)) else (if 0 < (l0.length : Int) then (if 1 < (l0.length : Int) then (some (([wrap64 ((rd l0 0) - 1), rd l0 1] : List Int))) else (none)) else (none))))) else (none)) else (none)) = some r := h;clear h
 by_cases c3 : 0 ≤ a1
 ·rw [if_pos c3] at H
  have c3b0 : decide (0 ≤ a1) = true := decide_eq_true c3;clear c3
  by_cases c4 : a1 < 4
  ·rw [if_pos c4] at H
   have c4b0 : decide (a1 < 4) = true := decide_eq_true c4;clear c4
   by_cases c6 : (bt (⟨#[101, 110, 115, 119]⟩ : ByteArray) a1) = 101
   ·rw [if_pos c6] at H
    have c6b0 : ((bt (⟨#[101, 110, 115, 119]⟩ : ByteArray) a1) == 101) = true := beq_iff_eq.mpr c6;have c6b1 : ((bt (⟨#[101, 110, 115, 119]⟩ : ByteArray) a1) != 101) = false := bne_eq_false_iff_eq.mpr c6;clear c6
    by_cases c7 : 0 < (l0.length : Int)
    ·rw [if_pos c7] at H
     have c7b0 : decide (0 < (l0.length : Int)) = true := decide_eq_true c7;have c7b1 : decide (0 < l0.length) = true := decide_eq_true (by omega);clear c7
     by_cases c8 : 1 < (l0.length : Int)
     ·rw [if_pos c8] at H
      have c8b0 : decide (1 < (l0.length : Int)) = true := decide_eq_true c8;have c8b1 : decide (1 < l0.length) = true := decide_eq_true (by omega);clear c8;obtain ⟨b8, hy272⟩ : ∃ y_ : List Int, y_ = (([wrap64 ((rd l0 0) + 1), rd l0 1] : List Int)) := ⟨_, rfl⟩;replace H : (some b8) = some r := by first | (rw [hy272]; with_reducible exact H) | (have H2_ := (Option.bind_some _ _).symm.trans H; rw [hy272]; with_reducible exact H2_) | (have H2_ := (Option.bind_some _ _).symm.trans H; with_reducible exact H2_) | with_reducible exact H | (rw [hy272]; exact H) | exact H
      have b0 := qb.mk hy272;clear hy272;obtain rfl := Option.some.inj H;have p5 : 0 ≤ (a1 : Int) := of_decide_eq_true (by first | (with_reducible assumption) | assumption);have q5 : a1 < (4 : Int) := of_decide_eq_true (by first | (with_reducible assumption) | assumption);have hx5 := bt_at (⟨#[101, 110, 115, 119]⟩ : ByteArray) a1;replace p5 := eq_true p5;replace q5 := eq_true q5
      go_enter Try.func72, Try.ntmps72
      try go_wp2
      have n0_ := qb.mk (qe HB.out);clear HB;have HB := n0_;clear n0_;have p270 : 0 ≤ (0 : Int) := (by omega);have q270 : 0 < (l0.length : Int) := of_decide_eq_true (by first | (with_reducible assumption) | assumption);obtain ⟨ad270, e270, hx270_0⟩ := Kd.jc HR0.out 0 p270 q270;have hw270_0 := hx270_0
      (try rw [show ((0 : Int)).toNat = 0 from rfl] at hw270_0)
      (try rw [show 0 * 1 = 0 from rfl] at hw270_0)
      (try rw [Addr.add_zero'] at hw270_0)
      cases e270;have qi270 : (0 < l0.length) = True := eq_true (by omega)
      (try rw [show ((0 : Int)).toNat = 0 from rfl] at hx270_0)
      (try rw [Addr.add_zero'] at hx270_0)
      replace hx270_0 := (HB.out.cell (World.block_lt_of_cell? w _ hx270_0)).trans hx270_0;replace p270 := eq_true p270;replace q270 := eq_true q270;have p271 : 0 ≤ (1 : Int) := (by omega);have q271 : 1 < (l0.length : Int) := of_decide_eq_true (by first | (with_reducible assumption) | assumption);obtain ⟨ad271, e271, hx271_0⟩ := Kd.jc HR0.out 1 p271 q271;have hw271_0 := hx271_0
      (try rw [show ((1 : Int)).toNat = 1 from rfl] at hw271_0)
      (try rw [show 1 * 1 = 1 from rfl] at hw271_0)
      (try simp only [Nat.reduceMul, Nat.reduceEqDiff, Go.Addr.add, ↓reduceIte] at hw271_0)
      obtain rfl : ad270 = ad271 := (by injection e271)
      (try simp only [show (1 : Int).toNat = 1 from rfl, Nat.reduceMul, Nat.reduceEqDiff, Go.Addr.add, ↓reduceIte] at hx271_0)
      have qi271 : (1 < l0.length) = True := eq_true (by omega)
      (try rw [show ((1 : Int)).toNat = 1 from rfl] at hx271_0)
      replace hx271_0 := (HB.out.cell (World.block_lt_of_cell? w _ hx271_0)).trans hx271_0;replace p271 := eq_true p271;replace q271 := eq_true q271
      refine jf (n := 9) (S := fun w' => w'.cell? ad270 = some (.int .i64 (rd l0 0)) ∧ w'.cell? ⟨ad270.block, ad270.off + 1, none⟩ = some (.int .i64 (rd l0 1))) (ds := []) #[false, false, false, false, false, false, false, false, false] (by kernel_rfl) rfl rfl ⟨((HB.out.cell (World.block_lt_of_cell? w _ hw270_0)).trans hw270_0), ((HB.out.cell (World.block_lt_of_cell? w _ hw271_0)).trans hw271_0)⟩ (fun hHeld => ?_); refine zy impl_moved.tab3 impl_moved.bits3 (fun HT_ HW_ => ?_)
      generalize w.drew = w9 at HB hx270_0 hx271_0 hHeld ⊢
      refine pure_ (i := 0) (N := some 9) (v := ?_) (a' := ?_) #[true, false, false, false, false, false, false, false, false] rfl rfl (qu HT_.out (by kernel_rfl)) (fun _ _ _ h => h) (Or.inl ⟨by rfl, ?_⟩) ?_ ?_
      rotate_left
      ·intro w'
       go_simp
       with_reducible rfl
      rotate_left
      ·simp only [Act.put, sA_, sB_, sC_, i64_w, i32_w]
       rfl
      refine pure_ (i := 1) (N := some 10) (v := ?_) (a' := ?_) #[true, true, false, false, false, false, false, false, false] rfl rfl (qu HT_.out (by kernel_rfl)) (fun _ _ _ h => h) (Or.inl ⟨by rfl, ?_⟩) ?_ ?_
      rotate_left
      ·intro w'
       go_simp
       with_reducible rfl
      rotate_left
      ·simp only [Act.put, sA_, sB_, sC_, i64_w, i32_w]
       rfl
      refine pure_ (i := 4) (N := some 13) (v := ?_) (a' := ?_) #[true, true, false, false, true, false, false, false, false] rfl rfl (qu HT_.out (by kernel_rfl)) (fun _ _ _ h => h) (Or.inl ⟨by rfl, ?_⟩) ?_ ?_
      rotate_left
      ·intro w'
       go_simp
       with_reducible rfl
      rotate_left
      ·simp only [Act.put, sA_, sB_, sC_, i64_w, i32_w]
       rfl
      refine pure_ (i := 5) (N := some 14) (v := ?_) (a' := ?_) #[true, true, false, false, true, true, false, false, false] rfl rfl (qu HT_.out (by kernel_rfl)) (fun _ _ _ h => h) (Or.inl ⟨by rfl, ?_⟩) ?_ ?_
      rotate_left
      ·intro w'
       go_simp
       with_reducible rfl
      rotate_left
      ·simp only [Act.put, sA_, sB_, sC_, i64_w, i32_w]
       rfl
      refine take_ (i := 2) (N := some 11) (v := ?_) (a' := ?_) #[true, true, true, false, true, true, false, false, false] rfl rfl (zg HT_.out HW_.out (by kernel_rfl)) (fun _ _ _ h => h) (Or.inl ⟨by rfl, ?_⟩) hHeld ?_ ?_
      rotate_left
      ·rintro w' ⟨s0, s1⟩
       go_simp
       with_reducible rfl
      rotate_left
      ·simp only [Act.put, sA_, sB_, sC_, i64_w, i32_w]
       rfl
      refine pure_ (i := 3) (N := some 12) (v := ?_) (a' := ?_) #[true, true, true, true, true, true, false, false, false] rfl rfl (qu HT_.out (by kernel_rfl)) (fun _ _ _ h => h) (Or.inl ⟨by rfl, ?_⟩) ?_ ?_
      rotate_left
      ·intro w'
       go_simp
       with_reducible rfl
      rotate_left
      ·simp only [Act.put, sA_, sB_, sC_, i64_w, i32_w]
       rfl
      refine take_ (i := 6) (N := some 15) (v := ?_) (a' := ?_) #[true, true, true, true, true, true, true, false, false] rfl rfl (zg HT_.out HW_.out (by kernel_rfl)) (fun _ _ _ h => h) (Or.inl ⟨by rfl, ?_⟩) hHeld ?_ ?_
      rotate_left
      ·rintro w' ⟨s0, s1⟩
       go_simp
       with_reducible rfl
      rotate_left
      ·simp only [Act.put, sA_, sB_, sC_, i64_w, i32_w]
       rfl
      refine one_ (i := 7) (N := some 16) #[true, true, true, true, true, true, true, true, false] rfl rfl (zw HT_.out (by kernel_rfl)) (by decide) (fun K hK => ?_)
      refine Kd.zz (Kd.int .i64) _ 3 ?hg (N := 16) ?hd (xs := ([wrap64 ((rd l0 0) + 1), rd l0 1] : List Int)) (inner := [.int .i64 (wrap64 ((rd l0 0) + 1)), .int .i64 (rd l0 1)]) (ok := fun _ => True) (okp := fun _ => True) ?hr ?hp (fun _ hk => hk) trivial (Below.refl _ _) (Nat.le_refl _) (by simp) ?_; (case hd => rfl); (case hg => rfl); (case hr => first | (go_simp; done) | (go_simp; rfl)); (case hp => exact (Reps.one (show Kd.M (Kd.int .i64) _ _ _ (wrap64 ((rd l0 0) + 1)) [.int .i64 (wrap64 ((rd l0 0) + 1))] from rfl) (Reps.one (show Kd.M (Kd.int .i64) _ _ _ (rd l0 1) [.int .i64 (rd l0 1)] from rfl) (Reps.none _ _))))
      intro v273 w10 ho11 hb hg_ hnew_
      clear hg_ hnew_
      (first | rw [← b0.out] at ho11 | (simp only [Int.reduceToNat] at ho11; rw [← b0.out] at ho11))
      have n0_ := qb.mk (Kd.zp ho11 (ql (be0_ HB)));have n1_ := qb.mk (qp (be0_ HB) hb);clear HB;have b4 := n0_;have HB := n1_;clear n0_ n1_;clear hb ho11
      refine hK.out _ _ ⟨((HB.out.cell (World.block_lt_of_cell? w _ hw270_0)).trans hw270_0), ((HB.out.cell (World.block_lt_of_cell? w _ hw271_0)).trans hw271_0)⟩ (fun hHeld => ?_)
      clear hK K
      refine norm_ (a' := ?_) ?_ ?_
      rotate_left
      ·show Act.put _ (some 16) _ = _
       simp only [Act.put, sA_, sB_, sC_, i64_w, i32_w]
       rfl
      refine pure_ (i := 8) (N := some 4) (v := ?_) (a' := ?_) #[true, true, true, true, true, true, true, true, true] rfl rfl (qu HT_.out (by kernel_rfl)) (fun _ _ _ h => h) (Or.inl ⟨by rfl, ?_⟩) ?_ ?_
      rotate_left
      ·intro w'
       go_simp
       with_reducible rfl
      rotate_left
      ·simp only [Act.put, sA_, sB_, sC_, i64_w, i32_w]
       rfl
      refine done_ (je HT_.out (by kernel_rfl)) ?_
      try go_wp2
      go_ret
      exact ⟨_, by first | rfl | (simp [qt, qr] <;> rfl) | (simp [*, qt, qr] <;> rfl), kr_ b4, be0_ HB⟩
     ·rw [if_neg c8] at H
      exact absurd H (by simp)
    ·rw [if_neg c7] at H
     exact absurd H (by simp)
   ·rw [if_neg c6] at H
    have c6b0 : ((bt (⟨#[101, 110, 115, 119]⟩ : ByteArray) a1) == 101) = false := beq_eq_false_iff_ne.mpr c6;have c6b1 : ((bt (⟨#[101, 110, 115, 119]⟩ : ByteArray) a1) != 101) = true := bne_iff_ne.mpr c6
    by_cases c12 : (bt (⟨#[101, 110, 115, 119]⟩ : ByteArray) a1) = 110
    ·rw [if_pos c12] at H
     have c12b0 : ((bt (⟨#[101, 110, 115, 119]⟩ : ByteArray) a1) == 110) = true := beq_iff_eq.mpr c12;have c12b1 : ((bt (⟨#[101, 110, 115, 119]⟩ : ByteArray) a1) != 110) = false := bne_eq_false_iff_eq.mpr c12;clear c12
     by_cases c13 : 0 < (l0.length : Int)
     ·rw [if_pos c13] at H
      have c13b0 : decide (0 < (l0.length : Int)) = true := decide_eq_true c13;have c13b1 : decide (0 < l0.length) = true := decide_eq_true (by omega);clear c13
      by_cases c14 : 1 < (l0.length : Int)
      ·rw [if_pos c14] at H
       have c14b0 : decide (1 < (l0.length : Int)) = true := decide_eq_true c14;have c14b1 : decide (1 < l0.length) = true := decide_eq_true (by omega);clear c14;obtain ⟨b9, hy277⟩ : ∃ y_ : List Int, y_ = (([rd l0 0, wrap64 ((rd l0 1) + 1)] : List Int)) := ⟨_, rfl⟩;replace H : (some b9) = some r := by first | (rw [hy277]; with_reducible exact H) | (have H2_ := (Option.bind_some _ _).symm.trans H; rw [hy277]; with_reducible exact H2_) | (have H2_ := (Option.bind_some _ _).symm.trans H; with_reducible exact H2_) | with_reducible exact H | (rw [hy277]; exact H) | exact H
       have b1 := qb.mk hy277;clear hy277;obtain rfl := Option.some.inj H;have p5 : 0 ≤ (a1 : Int) := of_decide_eq_true (by first | (with_reducible assumption) | assumption);have q5 : a1 < (4 : Int) := of_decide_eq_true (by first | (with_reducible assumption) | assumption);have hx5 := bt_at (⟨#[101, 110, 115, 119]⟩ : ByteArray) a1;replace p5 := eq_true p5;replace q5 := eq_true q5
       go_enter Try.func72, Try.ntmps72
       try go_wp2
       have n0_ := qb.mk (qe HB.out);clear HB;have HB := n0_;clear n0_;have p275 : 0 ≤ (0 : Int) := (by omega);have q275 : 0 < (l0.length : Int) := of_decide_eq_true (by first | (with_reducible assumption) | assumption);obtain ⟨ad275, e275, hx275_0⟩ := Kd.jc HR0.out 0 p275 q275;have hw275_0 := hx275_0
       (try rw [show ((0 : Int)).toNat = 0 from rfl] at hw275_0)
       (try rw [show 0 * 1 = 0 from rfl] at hw275_0)
       (try rw [Addr.add_zero'] at hw275_0)
       cases e275;have qi275 : (0 < l0.length) = True := eq_true (by omega)
       (try rw [show ((0 : Int)).toNat = 0 from rfl] at hx275_0)
       (try rw [Addr.add_zero'] at hx275_0)
       replace hx275_0 := (HB.out.cell (World.block_lt_of_cell? w _ hx275_0)).trans hx275_0;replace p275 := eq_true p275;replace q275 := eq_true q275;have p276 : 0 ≤ (1 : Int) := (by omega);have q276 : 1 < (l0.length : Int) := of_decide_eq_true (by first | (with_reducible assumption) | assumption);obtain ⟨ad276, e276, hx276_0⟩ := Kd.jc HR0.out 1 p276 q276;have hw276_0 := hx276_0
       (try rw [show ((1 : Int)).toNat = 1 from rfl] at hw276_0)
       (try rw [show 1 * 1 = 1 from rfl] at hw276_0)
       (try simp only [Nat.reduceMul, Nat.reduceEqDiff, Go.Addr.add, ↓reduceIte] at hw276_0)
       obtain rfl : ad275 = ad276 := (by injection e276)
       (try simp only [show (1 : Int).toNat = 1 from rfl, Nat.reduceMul, Nat.reduceEqDiff, Go.Addr.add, ↓reduceIte] at hx276_0)
       have qi276 : (1 < l0.length) = True := eq_true (by omega)
       (try rw [show ((1 : Int)).toNat = 1 from rfl] at hx276_0)
       replace hx276_0 := (HB.out.cell (World.block_lt_of_cell? w _ hx276_0)).trans hx276_0;replace p276 := eq_true p276;replace q276 := eq_true q276
       refine jf (n := 9) (S := fun w' => w'.cell? ad275 = some (.int .i64 (rd l0 0)) ∧ w'.cell? ⟨ad275.block, ad275.off + 1, none⟩ = some (.int .i64 (rd l0 1))) (ds := []) #[false, false, false, false, false, false, false, false, false] (by kernel_rfl) rfl rfl ⟨((HB.out.cell (World.block_lt_of_cell? w _ hw275_0)).trans hw275_0), ((HB.out.cell (World.block_lt_of_cell? w _ hw276_0)).trans hw276_0)⟩ (fun hHeld => ?_); refine zy impl_moved.tab5 impl_moved.bits5 (fun HT_ HW_ => ?_)
       generalize w.drew = w15 at HB hx275_0 hx276_0 hHeld ⊢
       refine pure_ (i := 0) (N := some 19) (v := ?_) (a' := ?_) #[true, false, false, false, false, false, false, false, false] rfl rfl (qu HT_.out (by kernel_rfl)) (fun _ _ _ h => h) (Or.inl ⟨by rfl, ?_⟩) ?_ ?_
       rotate_left
       ·intro w'
        go_simp
        with_reducible rfl
       rotate_left
       ·simp only [Act.put, sA_, sB_, sC_, i64_w, i32_w]
        rfl
       refine pure_ (i := 1) (N := some 20) (v := ?_) (a' := ?_) #[true, true, false, false, false, false, false, false, false] rfl rfl (qu HT_.out (by kernel_rfl)) (fun _ _ _ h => h) (Or.inl ⟨by rfl, ?_⟩) ?_ ?_
       rotate_left
       ·intro w'
        go_simp
        with_reducible rfl
       rotate_left
       ·simp only [Act.put, sA_, sB_, sC_, i64_w, i32_w]
        rfl
       refine pure_ (i := 3) (N := some 22) (v := ?_) (a' := ?_) #[true, true, false, true, false, false, false, false, false] rfl rfl (qu HT_.out (by kernel_rfl)) (fun _ _ _ h => h) (Or.inl ⟨by rfl, ?_⟩) ?_ ?_
       rotate_left
       ·intro w'
        go_simp
        with_reducible rfl
       rotate_left
       ·simp only [Act.put, sA_, sB_, sC_, i64_w, i32_w]
        rfl
       refine pure_ (i := 4) (N := some 23) (v := ?_) (a' := ?_) #[true, true, false, true, true, false, false, false, false] rfl rfl (qu HT_.out (by kernel_rfl)) (fun _ _ _ h => h) (Or.inl ⟨by rfl, ?_⟩) ?_ ?_
       rotate_left
       ·intro w'
        go_simp
        with_reducible rfl
       rotate_left
       ·simp only [Act.put, sA_, sB_, sC_, i64_w, i32_w]
        rfl
       refine take_ (i := 2) (N := some 21) (v := ?_) (a' := ?_) #[true, true, true, true, true, false, false, false, false] rfl rfl (zg HT_.out HW_.out (by kernel_rfl)) (fun _ _ _ h => h) (Or.inl ⟨by rfl, ?_⟩) hHeld ?_ ?_
       rotate_left
       ·rintro w' ⟨s0, s1⟩
        go_simp
        with_reducible rfl
       rotate_left
       ·simp only [Act.put, sA_, sB_, sC_, i64_w, i32_w]
        rfl
       refine take_ (i := 5) (N := some 24) (v := ?_) (a' := ?_) #[true, true, true, true, true, true, false, false, false] rfl rfl (zg HT_.out HW_.out (by kernel_rfl)) (fun _ _ _ h => h) (Or.inl ⟨by rfl, ?_⟩) hHeld ?_ ?_
       rotate_left
       ·rintro w' ⟨s0, s1⟩
        go_simp
        with_reducible rfl
       rotate_left
       ·simp only [Act.put, sA_, sB_, sC_, i64_w, i32_w]
        rfl
       refine pure_ (i := 6) (N := some 25) (v := ?_) (a' := ?_) #[true, true, true, true, true, true, true, false, false] rfl rfl (qu HT_.out (by kernel_rfl)) (fun _ _ _ h => h) (Or.inl ⟨by rfl, ?_⟩) ?_ ?_
       rotate_left
       ·intro w'
        go_simp
        with_reducible rfl
       rotate_left
       ·simp only [Act.put, sA_, sB_, sC_, i64_w, i32_w]
        rfl
       refine one_ (i := 7) (N := some 26) #[true, true, true, true, true, true, true, true, false] rfl rfl (zw HT_.out (by kernel_rfl)) (by decide) (fun K hK => ?_)
       refine Kd.zz (Kd.int .i64) _ 3 ?hg (N := 26) ?hd (xs := ([rd l0 0, wrap64 ((rd l0 1) + 1)] : List Int)) (inner := [.int .i64 (rd l0 0), .int .i64 (wrap64 ((rd l0 1) + 1))]) (ok := fun _ => True) (okp := fun _ => True) ?hr ?hp (fun _ hk => hk) trivial (Below.refl _ _) (Nat.le_refl _) (by simp) ?_; (case hd => rfl); (case hg => rfl); (case hr => first | (go_simp; done) | (go_simp; rfl)); (case hp => exact (Reps.one (show Kd.M (Kd.int .i64) _ _ _ (rd l0 0) [.int .i64 (rd l0 0)] from rfl) (Reps.one (show Kd.M (Kd.int .i64) _ _ _ (wrap64 ((rd l0 1) + 1)) [.int .i64 (wrap64 ((rd l0 1) + 1))] from rfl) (Reps.none _ _))))
       intro v278 w16 ho17 hb hg_ hnew_
       clear hg_ hnew_
       (first | rw [← b1.out] at ho17 | (simp only [Int.reduceToNat] at ho17; rw [← b1.out] at ho17))
       have n0_ := qb.mk (Kd.zp ho17 (ql (be0_ HB)));have n1_ := qb.mk (qp (be0_ HB) hb);clear HB;have b5 := n0_;have HB := n1_;clear n0_ n1_;clear hb ho17
       refine hK.out _ _ ⟨((HB.out.cell (World.block_lt_of_cell? w _ hw275_0)).trans hw275_0), ((HB.out.cell (World.block_lt_of_cell? w _ hw276_0)).trans hw276_0)⟩ (fun hHeld => ?_)
       clear hK K
       refine norm_ (a' := ?_) ?_ ?_
       rotate_left
       ·show Act.put _ (some 26) _ = _
        simp only [Act.put, sA_, sB_, sC_, i64_w, i32_w]
        rfl
       refine pure_ (i := 8) (N := some 4) (v := ?_) (a' := ?_) #[true, true, true, true, true, true, true, true, true] rfl rfl (qu HT_.out (by kernel_rfl)) (fun _ _ _ h => h) (Or.inl ⟨by rfl, ?_⟩) ?_ ?_
       rotate_left
       ·intro w'
        go_simp
        with_reducible rfl
       rotate_left
       ·simp only [Act.put, sA_, sB_, sC_, i64_w, i32_w]
        rfl
       refine done_ (je HT_.out (by kernel_rfl)) ?_
       try go_wp2
       go_ret
       exact ⟨_, by first | rfl | (simp [qt, qr] <;> rfl) | (simp [*, qt, qr] <;> rfl), kr_ b5, be0_ HB⟩
      ·rw [if_neg c14] at H
       exact absurd H (by simp)
     ·rw [if_neg c13] at H
      exact absurd H (by simp)
    ·rw [if_neg c12] at H
     have c12b0 : ((bt (⟨#[101, 110, 115, 119]⟩ : ByteArray) a1) == 110) = false := beq_eq_false_iff_ne.mpr c12;have c12b1 : ((bt (⟨#[101, 110, 115, 119]⟩ : ByteArray) a1) != 110) = true := bne_iff_ne.mpr c12
     by_cases c18 : (bt (⟨#[101, 110, 115, 119]⟩ : ByteArray) a1) = 115
     ·rw [if_pos c18] at H
      have c18b0 : ((bt (⟨#[101, 110, 115, 119]⟩ : ByteArray) a1) == 115) = true := beq_iff_eq.mpr c18;have c18b1 : ((bt (⟨#[101, 110, 115, 119]⟩ : ByteArray) a1) != 115) = false := bne_eq_false_iff_eq.mpr c18;clear c18
      by_cases c19 : 0 < (l0.length : Int)
      ·rw [if_pos c19] at H
       have c19b0 : decide (0 < (l0.length : Int)) = true := decide_eq_true c19;have c19b1 : decide (0 < l0.length) = true := decide_eq_true (by omega);clear c19
       by_cases c20 : 1 < (l0.length : Int)
       ·rw [if_pos c20] at H
        have c20b0 : decide (1 < (l0.length : Int)) = true := decide_eq_true c20;have c20b1 : decide (1 < l0.length) = true := decide_eq_true (by omega);clear c20;obtain ⟨d0, hy282⟩ : ∃ y_ : List Int, y_ = (([rd l0 0, wrap64 ((rd l0 1) - 1)] : List Int)) := ⟨_, rfl⟩;replace H : (some d0) = some r := by first | (rw [hy282]; with_reducible exact H) | (have H2_ := (Option.bind_some _ _).symm.trans H; rw [hy282]; with_reducible exact H2_) | (have H2_ := (Option.bind_some _ _).symm.trans H; with_reducible exact H2_) | with_reducible exact H | (rw [hy282]; exact H) | exact H
        have b2 := qb.mk hy282;clear hy282;obtain rfl := Option.some.inj H;have p5 : 0 ≤ (a1 : Int) := of_decide_eq_true (by first | (with_reducible assumption) | assumption);have q5 : a1 < (4 : Int) := of_decide_eq_true (by first | (with_reducible assumption) | assumption);have hx5 := bt_at (⟨#[101, 110, 115, 119]⟩ : ByteArray) a1;replace p5 := eq_true p5;replace q5 := eq_true q5
        go_enter Try.func72, Try.ntmps72
        try go_wp2
        have n0_ := qb.mk (qe HB.out);clear HB;have HB := n0_;clear n0_;have p280 : 0 ≤ (0 : Int) := (by omega);have q280 : 0 < (l0.length : Int) := of_decide_eq_true (by first | (with_reducible assumption) | assumption);obtain ⟨ad280, e280, hx280_0⟩ := Kd.jc HR0.out 0 p280 q280;have hw280_0 := hx280_0
        (try rw [show ((0 : Int)).toNat = 0 from rfl] at hw280_0)
        (try rw [show 0 * 1 = 0 from rfl] at hw280_0)
        (try rw [Addr.add_zero'] at hw280_0)
        cases e280;have qi280 : (0 < l0.length) = True := eq_true (by omega)
        (try rw [show ((0 : Int)).toNat = 0 from rfl] at hx280_0)
        (try rw [Addr.add_zero'] at hx280_0)
        replace hx280_0 := (HB.out.cell (World.block_lt_of_cell? w _ hx280_0)).trans hx280_0;replace p280 := eq_true p280;replace q280 := eq_true q280;have p281 : 0 ≤ (1 : Int) := (by omega);have q281 : 1 < (l0.length : Int) := of_decide_eq_true (by first | (with_reducible assumption) | assumption);obtain ⟨ad281, e281, hx281_0⟩ := Kd.jc HR0.out 1 p281 q281;have hw281_0 := hx281_0
        (try rw [show ((1 : Int)).toNat = 1 from rfl] at hw281_0)
        (try rw [show 1 * 1 = 1 from rfl] at hw281_0)
        (try simp only [Nat.reduceMul, Nat.reduceEqDiff, Go.Addr.add, ↓reduceIte] at hw281_0)
        obtain rfl : ad280 = ad281 := (by injection e281)
        (try simp only [show (1 : Int).toNat = 1 from rfl, Nat.reduceMul, Nat.reduceEqDiff, Go.Addr.add, ↓reduceIte] at hx281_0)
        have qi281 : (1 < l0.length) = True := eq_true (by omega)
        (try rw [show ((1 : Int)).toNat = 1 from rfl] at hx281_0)
        replace hx281_0 := (HB.out.cell (World.block_lt_of_cell? w _ hx281_0)).trans hx281_0;replace p281 := eq_true p281;replace q281 := eq_true q281
        refine jf (n := 9) (S := fun w' => w'.cell? ad280 = some (.int .i64 (rd l0 0)) ∧ w'.cell? ⟨ad280.block, ad280.off + 1, none⟩ = some (.int .i64 (rd l0 1))) (ds := []) #[false, false, false, false, false, false, false, false, false] (by kernel_rfl) rfl rfl ⟨((HB.out.cell (World.block_lt_of_cell? w _ hw280_0)).trans hw280_0), ((HB.out.cell (World.block_lt_of_cell? w _ hw281_0)).trans hw281_0)⟩ (fun hHeld => ?_); refine zy impl_moved.tab7 impl_moved.bits7 (fun HT_ HW_ => ?_)
        generalize w.drew = w21 at HB hx280_0 hx281_0 hHeld ⊢
        refine pure_ (i := 0) (N := some 29) (v := ?_) (a' := ?_) #[true, false, false, false, false, false, false, false, false] rfl rfl (qu HT_.out (by kernel_rfl)) (fun _ _ _ h => h) (Or.inl ⟨by rfl, ?_⟩) ?_ ?_
        rotate_left
        ·intro w'
         go_simp
         with_reducible rfl
        rotate_left
        ·simp only [Act.put, sA_, sB_, sC_, i64_w, i32_w]
         rfl
        refine pure_ (i := 1) (N := some 30) (v := ?_) (a' := ?_) #[true, true, false, false, false, false, false, false, false] rfl rfl (qu HT_.out (by kernel_rfl)) (fun _ _ _ h => h) (Or.inl ⟨by rfl, ?_⟩) ?_ ?_
        rotate_left
        ·intro w'
         go_simp
         with_reducible rfl
        rotate_left
        ·simp only [Act.put, sA_, sB_, sC_, i64_w, i32_w]
         rfl
        refine pure_ (i := 3) (N := some 32) (v := ?_) (a' := ?_) #[true, true, false, true, false, false, false, false, false] rfl rfl (qu HT_.out (by kernel_rfl)) (fun _ _ _ h => h) (Or.inl ⟨by rfl, ?_⟩) ?_ ?_
        rotate_left
        ·intro w'
         go_simp
         with_reducible rfl
        rotate_left
        ·simp only [Act.put, sA_, sB_, sC_, i64_w, i32_w]
         rfl
        refine pure_ (i := 4) (N := some 33) (v := ?_) (a' := ?_) #[true, true, false, true, true, false, false, false, false] rfl rfl (qu HT_.out (by kernel_rfl)) (fun _ _ _ h => h) (Or.inl ⟨by rfl, ?_⟩) ?_ ?_
        rotate_left
        ·intro w'
         go_simp
         with_reducible rfl
        rotate_left
        ·simp only [Act.put, sA_, sB_, sC_, i64_w, i32_w]
         rfl
        refine take_ (i := 2) (N := some 31) (v := ?_) (a' := ?_) #[true, true, true, true, true, false, false, false, false] rfl rfl (zg HT_.out HW_.out (by kernel_rfl)) (fun _ _ _ h => h) (Or.inl ⟨by rfl, ?_⟩) hHeld ?_ ?_
        rotate_left
        ·rintro w' ⟨s0, s1⟩
         go_simp
         with_reducible rfl
        rotate_left
        ·simp only [Act.put, sA_, sB_, sC_, i64_w, i32_w]
         rfl
        refine take_ (i := 5) (N := some 34) (v := ?_) (a' := ?_) #[true, true, true, true, true, true, false, false, false] rfl rfl (zg HT_.out HW_.out (by kernel_rfl)) (fun _ _ _ h => h) (Or.inl ⟨by rfl, ?_⟩) hHeld ?_ ?_
        rotate_left
        ·rintro w' ⟨s0, s1⟩
         go_simp
         with_reducible rfl
        rotate_left
        ·simp only [Act.put, sA_, sB_, sC_, i64_w, i32_w]
         rfl
        refine pure_ (i := 6) (N := some 35) (v := ?_) (a' := ?_) #[true, true, true, true, true, true, true, false, false] rfl rfl (qu HT_.out (by kernel_rfl)) (fun _ _ _ h => h) (Or.inl ⟨by rfl, ?_⟩) ?_ ?_
        rotate_left
        ·intro w'
         go_simp
         with_reducible rfl
        rotate_left
        ·simp only [Act.put, sA_, sB_, sC_, i64_w, i32_w]
         rfl
        refine one_ (i := 7) (N := some 36) #[true, true, true, true, true, true, true, true, false] rfl rfl (zw HT_.out (by kernel_rfl)) (by decide) (fun K hK => ?_)
        refine Kd.zz (Kd.int .i64) _ 3 ?hg (N := 36) ?hd (xs := ([rd l0 0, wrap64 ((rd l0 1) - 1)] : List Int)) (inner := [.int .i64 (rd l0 0), .int .i64 (wrap64 ((rd l0 1) - 1))]) (ok := fun _ => True) (okp := fun _ => True) ?hr ?hp (fun _ hk => hk) trivial (Below.refl _ _) (Nat.le_refl _) (by simp) ?_; (case hd => rfl); (case hg => rfl); (case hr => first | (go_simp; done) | (go_simp; rfl)); (case hp => exact (Reps.one (show Kd.M (Kd.int .i64) _ _ _ (rd l0 0) [.int .i64 (rd l0 0)] from rfl) (Reps.one (show Kd.M (Kd.int .i64) _ _ _ (wrap64 ((rd l0 1) - 1)) [.int .i64 (wrap64 ((rd l0 1) - 1))] from rfl) (Reps.none _ _))))
        intro v283 w22 ho23 hb hg_ hnew_
        clear hg_ hnew_
        (first | rw [← b2.out] at ho23 | (simp only [Int.reduceToNat] at ho23; rw [← b2.out] at ho23))
        have n0_ := qb.mk (Kd.zp ho23 (ql (be0_ HB)));have n1_ := qb.mk (qp (be0_ HB) hb);clear HB;have b6 := n0_;have HB := n1_;clear n0_ n1_;clear hb ho23
        refine hK.out _ _ ⟨((HB.out.cell (World.block_lt_of_cell? w _ hw280_0)).trans hw280_0), ((HB.out.cell (World.block_lt_of_cell? w _ hw281_0)).trans hw281_0)⟩ (fun hHeld => ?_)
        clear hK K
        refine norm_ (a' := ?_) ?_ ?_
        rotate_left
        ·show Act.put _ (some 36) _ = _
         simp only [Act.put, sA_, sB_, sC_, i64_w, i32_w]
         rfl
        refine pure_ (i := 8) (N := some 4) (v := ?_) (a' := ?_) #[true, true, true, true, true, true, true, true, true] rfl rfl (qu HT_.out (by kernel_rfl)) (fun _ _ _ h => h) (Or.inl ⟨by rfl, ?_⟩) ?_ ?_
        rotate_left
        ·intro w'
         go_simp
         with_reducible rfl
        rotate_left
        ·simp only [Act.put, sA_, sB_, sC_, i64_w, i32_w]
         rfl
        refine done_ (je HT_.out (by kernel_rfl)) ?_
        try go_wp2
        go_ret
        exact ⟨_, by first | rfl | (simp [qt, qr] <;> rfl) | (simp [*, qt, qr] <;> rfl), kr_ b6, be0_ HB⟩
       ·rw [if_neg c20] at H
        exact absurd H (by simp)
      ·rw [if_neg c19] at H
       exact absurd H (by simp)
     ·rw [if_neg c18] at H
      have c18b0 : ((bt (⟨#[101, 110, 115, 119]⟩ : ByteArray) a1) == 115) = false := beq_eq_false_iff_ne.mpr c18;have c18b1 : ((bt (⟨#[101, 110, 115, 119]⟩ : ByteArray) a1) != 115) = true := bne_iff_ne.mpr c18
      by_cases c24 : 0 < (l0.length : Int)
      ·rw [if_pos c24] at H
       have c24b0 : decide (0 < (l0.length : Int)) = true := decide_eq_true c24;have c24b1 : decide (0 < l0.length) = true := decide_eq_true (by omega);clear c24
       by_cases c25 : 1 < (l0.length : Int)
       ·rw [if_pos c25] at H
        have c25b0 : decide (1 < (l0.length : Int)) = true := decide_eq_true c25;have c25b1 : decide (1 < l0.length) = true := decide_eq_true (by omega);clear c25;obtain ⟨d1, hy287⟩ : ∃ y_ : List Int, y_ = (([wrap64 ((rd l0 0) - 1), rd l0 1] : List Int)) := ⟨_, rfl⟩;replace H : (some d1) = some r := by first | (rw [hy287]; with_reducible exact H) | (have H2_ := (Option.bind_some _ _).symm.trans H; rw [hy287]; with_reducible exact H2_) | (have H2_ := (Option.bind_some _ _).symm.trans H; with_reducible exact H2_) | with_reducible exact H | (rw [hy287]; exact H) | exact H
        have b3 := qb.mk hy287;clear hy287;obtain rfl := Option.some.inj H;have p5 : 0 ≤ (a1 : Int) := of_decide_eq_true (by first | (with_reducible assumption) | assumption);have q5 : a1 < (4 : Int) := of_decide_eq_true (by first | (with_reducible assumption) | assumption);have hx5 := bt_at (⟨#[101, 110, 115, 119]⟩ : ByteArray) a1;replace p5 := eq_true p5;replace q5 := eq_true q5
        go_enter Try.func72, Try.ntmps72
        try go_wp2
        have n0_ := qb.mk (qe HB.out);clear HB;have HB := n0_;clear n0_;have p285 : 0 ≤ (0 : Int) := (by omega);have q285 : 0 < (l0.length : Int) := of_decide_eq_true (by first | (with_reducible assumption) | assumption);obtain ⟨ad285, e285, hx285_0⟩ := Kd.jc HR0.out 0 p285 q285;have hw285_0 := hx285_0
        (try rw [show ((0 : Int)).toNat = 0 from rfl] at hw285_0)
        (try rw [show 0 * 1 = 0 from rfl] at hw285_0)
        (try rw [Addr.add_zero'] at hw285_0)
        cases e285;have qi285 : (0 < l0.length) = True := eq_true (by omega)
        (try rw [show ((0 : Int)).toNat = 0 from rfl] at hx285_0)
        (try rw [Addr.add_zero'] at hx285_0)
        replace hx285_0 := (HB.out.cell (World.block_lt_of_cell? w _ hx285_0)).trans hx285_0;replace p285 := eq_true p285;replace q285 := eq_true q285;have p286 : 0 ≤ (1 : Int) := (by omega);have q286 : 1 < (l0.length : Int) := of_decide_eq_true (by first | (with_reducible assumption) | assumption);obtain ⟨ad286, e286, hx286_0⟩ := Kd.jc HR0.out 1 p286 q286;have hw286_0 := hx286_0
        (try rw [show ((1 : Int)).toNat = 1 from rfl] at hw286_0)
        (try rw [show 1 * 1 = 1 from rfl] at hw286_0)
        (try simp only [Nat.reduceMul, Nat.reduceEqDiff, Go.Addr.add, ↓reduceIte] at hw286_0)
        obtain rfl : ad285 = ad286 := (by injection e286)
        (try simp only [show (1 : Int).toNat = 1 from rfl, Nat.reduceMul, Nat.reduceEqDiff, Go.Addr.add, ↓reduceIte] at hx286_0)
        have qi286 : (1 < l0.length) = True := eq_true (by omega)
        (try rw [show ((1 : Int)).toNat = 1 from rfl] at hx286_0)
        replace hx286_0 := (HB.out.cell (World.block_lt_of_cell? w _ hx286_0)).trans hx286_0;replace p286 := eq_true p286;replace q286 := eq_true q286
        refine jf (n := 9) (S := fun w' => w'.cell? ad285 = some (.int .i64 (rd l0 0)) ∧ w'.cell? ⟨ad285.block, ad285.off + 1, none⟩ = some (.int .i64 (rd l0 1))) (ds := []) #[false, false, false, false, false, false, false, false, false] (by kernel_rfl) rfl rfl ⟨((HB.out.cell (World.block_lt_of_cell? w _ hw285_0)).trans hw285_0), ((HB.out.cell (World.block_lt_of_cell? w _ hw286_0)).trans hw286_0)⟩ (fun hHeld => ?_); refine zy impl_moved.tab8 impl_moved.bits8 (fun HT_ HW_ => ?_)
        generalize w.drew = w26 at HB hx285_0 hx286_0 hHeld ⊢
        refine pure_ (i := 0) (N := some 37) (v := ?_) (a' := ?_) #[true, false, false, false, false, false, false, false, false] rfl rfl (qu HT_.out (by kernel_rfl)) (fun _ _ _ h => h) (Or.inl ⟨by rfl, ?_⟩) ?_ ?_
        rotate_left
        ·intro w'
         go_simp
         with_reducible rfl
        rotate_left
        ·simp only [Act.put, sA_, sB_, sC_, i64_w, i32_w]
         rfl
        refine pure_ (i := 1) (N := some 38) (v := ?_) (a' := ?_) #[true, true, false, false, false, false, false, false, false] rfl rfl (qu HT_.out (by kernel_rfl)) (fun _ _ _ h => h) (Or.inl ⟨by rfl, ?_⟩) ?_ ?_
        rotate_left
        ·intro w'
         go_simp
         with_reducible rfl
        rotate_left
        ·simp only [Act.put, sA_, sB_, sC_, i64_w, i32_w]
         rfl
        refine pure_ (i := 4) (N := some 41) (v := ?_) (a' := ?_) #[true, true, false, false, true, false, false, false, false] rfl rfl (qu HT_.out (by kernel_rfl)) (fun _ _ _ h => h) (Or.inl ⟨by rfl, ?_⟩) ?_ ?_
        rotate_left
        ·intro w'
         go_simp
         with_reducible rfl
        rotate_left
        ·simp only [Act.put, sA_, sB_, sC_, i64_w, i32_w]
         rfl
        refine pure_ (i := 5) (N := some 42) (v := ?_) (a' := ?_) #[true, true, false, false, true, true, false, false, false] rfl rfl (qu HT_.out (by kernel_rfl)) (fun _ _ _ h => h) (Or.inl ⟨by rfl, ?_⟩) ?_ ?_
        rotate_left
        ·intro w'
         go_simp
         with_reducible rfl
        rotate_left
        ·simp only [Act.put, sA_, sB_, sC_, i64_w, i32_w]
         rfl
        refine take_ (i := 2) (N := some 39) (v := ?_) (a' := ?_) #[true, true, true, false, true, true, false, false, false] rfl rfl (zg HT_.out HW_.out (by kernel_rfl)) (fun _ _ _ h => h) (Or.inl ⟨by rfl, ?_⟩) hHeld ?_ ?_
        rotate_left
        ·rintro w' ⟨s0, s1⟩
         go_simp
         with_reducible rfl
        rotate_left
        ·simp only [Act.put, sA_, sB_, sC_, i64_w, i32_w]
         rfl
        refine pure_ (i := 3) (N := some 40) (v := ?_) (a' := ?_) #[true, true, true, true, true, true, false, false, false] rfl rfl (qu HT_.out (by kernel_rfl)) (fun _ _ _ h => h) (Or.inl ⟨by rfl, ?_⟩) ?_ ?_
        rotate_left
        ·intro w'
         go_simp
         with_reducible rfl
        rotate_left
        ·simp only [Act.put, sA_, sB_, sC_, i64_w, i32_w]
         rfl
        refine take_ (i := 6) (N := some 43) (v := ?_) (a' := ?_) #[true, true, true, true, true, true, true, false, false] rfl rfl (zg HT_.out HW_.out (by kernel_rfl)) (fun _ _ _ h => h) (Or.inl ⟨by rfl, ?_⟩) hHeld ?_ ?_
        rotate_left
        ·rintro w' ⟨s0, s1⟩
         go_simp
         with_reducible rfl
        rotate_left
        ·simp only [Act.put, sA_, sB_, sC_, i64_w, i32_w]
         rfl
        refine one_ (i := 7) (N := some 44) #[true, true, true, true, true, true, true, true, false] rfl rfl (zw HT_.out (by kernel_rfl)) (by decide) (fun K hK => ?_)
        refine Kd.zz (Kd.int .i64) _ 3 ?hg (N := 44) ?hd (xs := ([wrap64 ((rd l0 0) - 1), rd l0 1] : List Int)) (inner := [.int .i64 (wrap64 ((rd l0 0) - 1)), .int .i64 (rd l0 1)]) (ok := fun _ => True) (okp := fun _ => True) ?hr ?hp (fun _ hk => hk) trivial (Below.refl _ _) (Nat.le_refl _) (by simp) ?_; (case hd => rfl); (case hg => rfl); (case hr => first | (go_simp; done) | (go_simp; rfl)); (case hp => exact (Reps.one (show Kd.M (Kd.int .i64) _ _ _ (wrap64 ((rd l0 0) - 1)) [.int .i64 (wrap64 ((rd l0 0) - 1))] from rfl) (Reps.one (show Kd.M (Kd.int .i64) _ _ _ (rd l0 1) [.int .i64 (rd l0 1)] from rfl) (Reps.none _ _))))
        intro v288 w27 ho28 hb hg_ hnew_
        clear hg_ hnew_
        (first | rw [← b3.out] at ho28 | (simp only [Int.reduceToNat] at ho28; rw [← b3.out] at ho28))
        have n0_ := qb.mk (Kd.zp ho28 (ql (be0_ HB)));have n1_ := qb.mk (qp (be0_ HB) hb);clear HB;have b7 := n0_;have HB := n1_;clear n0_ n1_;clear hb ho28
        refine hK.out _ _ ⟨((HB.out.cell (World.block_lt_of_cell? w _ hw285_0)).trans hw285_0), ((HB.out.cell (World.block_lt_of_cell? w _ hw286_0)).trans hw286_0)⟩ (fun hHeld => ?_)
        clear hK K
        refine norm_ (a' := ?_) ?_ ?_
        rotate_left
        ·show Act.put _ (some 44) _ = _
         simp only [Act.put, sA_, sB_, sC_, i64_w, i32_w]
         rfl
        refine pure_ (i := 8) (N := some 4) (v := ?_) (a' := ?_) #[true, true, true, true, true, true, true, true, true] rfl rfl (qu HT_.out (by kernel_rfl)) (fun _ _ _ h => h) (Or.inl ⟨by rfl, ?_⟩) ?_ ?_
        rotate_left
        ·intro w'
         go_simp
         with_reducible rfl
        rotate_left
        ·simp only [Act.put, sA_, sB_, sC_, i64_w, i32_w]
         rfl
        refine done_ (je HT_.out (by kernel_rfl)) ?_
        try go_wp2
        go_ret
        exact ⟨_, by first | rfl | (simp [qt, qr] <;> rfl) | (simp [*, qt, qr] <;> rfl), kr_ b7, be0_ HB⟩
       ·rw [if_neg c25] at H
        exact absurd H (by simp)
      ·rw [if_neg c24] at H
       exact absurd H (by simp)
  ·rw [if_neg c4] at H
   exact absurd H (by simp)
 ·rw [if_neg c3] at H
  exact absurd H (by simp)
def impl_stepIn.in_ (a0_0 a0_1 x y : Int) : Bool := decide (0 ≤ x ∧ x ≤ wrap64 (a0_0 - 1)) && decide (0 ≤ y ∧ y ≤ wrap64 (a0_1 - 1))
def impl_stepIn.can (k : Nat) (a0_0 a0_1 : Int) (l : List S58) (a : List Int) (s : Int) : Option Bool := (impl_moved.f a s).bind fun b => if impl_stepIn.in_ a0_0 a0_1 (rd b 0) (rd b 1) = true then (impl_isClosed.f k a0_0 a0_1 l (mn (rd a 0) (rd b 0)) (mn (rd a 1) (rd b 1)) (rd a 0 == rd b 0)).bind fun t => some (!t) else some false
theorem impl_stepIn.can_mono (k : Nat) (a0_0 a0_1 : Int) (l : List S58) (a : List Int) (s : Int) : LeO (impl_stepIn.can k a0_0 a0_1 l a s) (impl_stepIn.can (k + 1) a0_0 a0_1 l a s) := LeO.bind (LeO.refl _) (fun _ => LeO.ite (LeO.bind (impl_isClosed.mono _ _ _ _ _ _ _) (fun _ => LeO.refl _)) (LeO.refl _))
theorem impl_stepIn.within_f (a b c : Int) : impl_within.f a b c = some (decide (b ≤ a ∧ a ≤ c)) := by
 unfold impl_within.f
 by_cases h : a ≥ b
 ·rw [if_pos h]
  have : b ≤ a := h
  simp [this]
 ·rw [if_neg h]
  have : ¬ b ≤ a := h
  simp [this]
theorem impl_stepIn.ja {a b c : Int} (h : b ≤ a ∧ a ≤ c) (w : World) (n : Nat) : Calls Try.prog 61 #[.int .i64 a, .int .i64 b, .int .i64 c] (w.drewN n) fun e w' => e = .returned (.bool true) ∧ ∃ m, w' = w.drewN m := by
 refine Calls.quiet_of ((impl_within.calls a b c true _ (by rw [impl_stepIn.within_f, decide_eq_true h])).mono ?_)
 rintro e w' ⟨he, hd⟩
 exact ⟨he, hd.out⟩
theorem impl_stepIn.within_n {a b c : Int} (h : ¬ (b ≤ a ∧ a ≤ c)) (w : World) (n : Nat) : Calls Try.prog 61 #[.int .i64 a, .int .i64 b, .int .i64 c] (w.drewN n) fun e w' => e = .returned (.bool false) ∧ ∃ m, w' = w.drewN m := by
 refine Calls.quiet_of ((impl_within.calls a b c false _ (by rw [impl_stepIn.within_f, decide_eq_false h])).mono ?_)
 rintro e w' ⟨he, hd⟩
 exact ⟨he, hd.out⟩
theorem impl_stepIn.two {w : World} {A : Option Addr} {n : Nat} {x y : Int} (h : Kd.C (Kd.int .i64) w A n [x, y]) : ∃ ad, A = some ad ∧ n = 2 ∧ w.cell? ad = some (.int .i64 x) ∧ w.cell? ⟨ad.block, ad.off + 1, none⟩ = some (.int .i64 y) := by
 obtain rfl : n = 2 := h.1.symm
 obtain ⟨ad, rfl, hx⟩ := Kd.jc h 0 (by decide) (by decide)
 obtain ⟨ad', e', hy⟩ := Kd.jc h 1 (by decide) (by decide)
 obtain rfl := Option.some.inj e'
 refine ⟨ad, rfl, rfl, ?_, ?_⟩
 ·have h0 : w.cell? (ad.add 0) = some (.int .i64 x) := hx
  rwa [show ad.add 0 = ad by simp [Addr.add]] at h0
 ·have h0 : w.cell? (ad.add 1) = some (.int .i64 y) := hy
  rwa [show ad.add 1 = ⟨ad.block, ad.off + 1, none⟩ by simp [Addr.add]] at h0
set_option maxHeartbeats 4000000 in
set_option maxRecDepth 100000 in
theorem impl_stepIn.clo (k : Nat) (a0_0 a0_1 : Int) (AL : Option Addr) (cL : Nat) (l : List S58) (B : Nat) (A : Option Addr) (c : Nat) (x y s : Int) (r : Bool) (w : World) (hB : w.heap[B]? = some (.cells #[.int .i64 a0_0, .int .i64 a0_1, .slice AL l.length cL] 31 (0, 0))) (hL : Kd.C k58 w AL l.length l) (hcL : l.length ≤ cL) (hr : Kd.C (Kd.int .i64) w A 2 [x, y]) (hc : 2 ≤ c) (h : impl_stepIn.can k a0_0 a0_1 l [x, y] s = some r) :
  Calls Try.prog 74 #[.slice A 2 c, .int .i64 s, .pointer (some ⟨B, 0, none⟩)] w fun e w' => e = .returned (.bool r) ∧ Below w.heap.size w w' := by
 have hu := Try.underlying31;have hub := Try.underlying58
 unfold impl_stepIn.can at h
 obtain ⟨b, hb, h⟩ := Option.bind_eq_some_iff.mp h
 obtain ⟨x', y', rfl⟩ : ∃ x' y', b = [x', y'] := by
  unfold impl_moved.f at hb
  repeat' split at hb
  all_goals first | exact ⟨_, _, (Option.some.inj hb).symm⟩ | cases hb
 change (if impl_stepIn.in_ a0_0 a0_1 x' y' = true then (impl_isClosed.f k a0_0 a0_1 l (mn x x') (mn y y') (x == x')).bind fun t => some (!t) else some false) = some r at h
 have hmv := impl_moved.calls A c [x, y] s [x', y'] w hr hc hb;have HMV := Lib.hid hmv;have HB := Lib.hid hB;have HL := Lib.hid hL;have HA := Lib.hid hr;obtain ⟨m0, hm0⟩ : ∃ m0, IntKind.i64.wrap (a0_0 - 1) = m0 := ⟨_, rfl⟩;obtain ⟨m1, hm1⟩ : ∃ m1, IntKind.i64.wrap (a0_1 - 1) = m1 := ⟨_, rfl⟩;have HM0 : wrap64 (a0_0 - 1) = m0 := (IntWalk.i64_left _).symm.trans hm0;have HM1 : wrap64 (a0_1 - 1) = m1 := (IntWalk.i64_left _).symm.trans hm1
 unfold impl_stepIn.in_ at h
 rw [HM0, HM1] at h;clear HM0 HM1 hmv hb hr hB hL hc
 by_cases h1 : 0 ≤ x' ∧ x' ≤ m0
 ·by_cases h3 : 0 ≤ y' ∧ y' ≤ m1
  ·rw [decide_eq_true h1, decide_eq_true h3] at h
   have H1 := Lib.hid h1;have H3 := Lib.hid h3;clear h1 h3
   change ((impl_isClosed.f k a0_0 a0_1 l (mn x x') (mn y y') (x == x')).bind fun t => some (!t)) = some r at h
   obtain ⟨t, ht, h⟩ := Option.bind_eq_some_iff.mp h;obtain rfl := Option.some.inj h;clear h
   by_cases cx : x' < x
   ·rw [show mn x x' = x' by unfold mn; split <;> omega] at ht
    by_cases cy : y' < y
    ·rw [show mn y y' = y' by unfold mn; split <;> omega] at ht
     have H := Lib.hid ht;clear ht
     go_enter Try.func74, Try.ntmps74
     go_wp2_with (go_at_call 72; refine HMV.out.mono ?_; rintro e w1 ⟨v1, rfl, hR1, hb1⟩; obtain ⟨A1, c1, rfl, hl1, hC1⟩ := Kd.R_reads hR1; obtain ⟨ad1, rfl, _, hx1, hy1⟩ := impl_stepIn.two hC1; have hcz0 : w1.cell? ⟨B, 0, none⟩ = some (.int .i64 a0_0) := (qc ((hb1.block _ (zd HB.out)).trans HB.out) 0).trans rfl; have hcz1 : w1.cell? ⟨B, 1, none⟩ = some (.int .i64 a0_1) := (qc ((hb1.block _ (zd HB.out)).trans HB.out) 1).trans rfl; have hcz2 : w1.cell? ⟨B, 2, none⟩ = some (.slice AL l.length cL) := (qc ((hb1.block _ (zd HB.out)).trans HB.out) 2).trans rfl; obtain ⟨ad, hadA, _, hx, hy⟩ := impl_stepIn.two (Kd.qz HA.out hb1); subst hadA; have HB1 := Lib.hid hb1; clear hb1 hR1 hC1)
     go_quiet ((first | (go_at_call 61; (with_reducible exact impl_stepIn.ja H1.out w1 _)) | (go_at_call 61; (with_reducible exact impl_stepIn.ja H3.out w1 _))))
     go_wp2
     obtain ⟨W2, hW2⟩ : ∃ W2, W2 = w1.drewN nq := ⟨_, rfl⟩;rw [← hW2];have hx2 : W2.cell? ad = some (.int .i64 x) := by rw [hW2]; exact hx
     have hy2 : W2.cell? ⟨ad.block, ad.off + 1, none⟩ = some (.int .i64 y) := by rw [hW2]; exact hy
     have hx3 : W2.cell? ad1 = some (.int .i64 x') := by rw [hW2]; exact hx1
     have hy3 : W2.cell? ⟨ad1.block, ad1.off + 1, none⟩ = some (.int .i64 y') := by rw [hW2]; exact hy1
     have hz0 : W2.cell? ⟨B, 0, none⟩ = some (.int .i64 a0_0) := by rw [hW2]; exact hcz0
     have hz1 : W2.cell? ⟨B, 1, none⟩ = some (.int .i64 a0_1) := by rw [hW2]; exact hcz1
     have hz2 : W2.cell? ⟨B, 2, none⟩ = some (.slice AL l.length cL) := by rw [hW2]; exact hcz2
     have HB2 := Lib.hid (show Below w.heap.size w W2 by rw [hW2]; exact qa HB1.out nq);clear hW2 hx hy hx1 hy1 hcz0 hcz1 hcz2
     go_still_tail 23, (by kernel_rfl)
     change wpList _ _ _ _ _ W2.drew
     go_wp2_with (go_at_call 54; refine (impl_isClosed.calls k a0_0 a0_1 AL cL l (x') (y') (x == x') _ _ (Kd.qz HL.out (zr HB2.out)) hcL H.out).mono ?_; rintro e w4 ⟨rfl, hb4⟩)
     all_goals (go_wp2; go_ret; exact ⟨rfl, zi (zr HB2.out) HB2.out.size hb4⟩)
    ·rw [show mn y y' = y by unfold mn; split <;> omega] at ht
     have H := Lib.hid ht;clear ht
     go_enter Try.func74, Try.ntmps74
     go_wp2_with (go_at_call 72; refine HMV.out.mono ?_; rintro e w1 ⟨v1, rfl, hR1, hb1⟩; obtain ⟨A1, c1, rfl, hl1, hC1⟩ := Kd.R_reads hR1; obtain ⟨ad1, rfl, _, hx1, hy1⟩ := impl_stepIn.two hC1; have hcz0 : w1.cell? ⟨B, 0, none⟩ = some (.int .i64 a0_0) := (qc ((hb1.block _ (zd HB.out)).trans HB.out) 0).trans rfl; have hcz1 : w1.cell? ⟨B, 1, none⟩ = some (.int .i64 a0_1) := (qc ((hb1.block _ (zd HB.out)).trans HB.out) 1).trans rfl; have hcz2 : w1.cell? ⟨B, 2, none⟩ = some (.slice AL l.length cL) := (qc ((hb1.block _ (zd HB.out)).trans HB.out) 2).trans rfl; obtain ⟨ad, hadA, _, hx, hy⟩ := impl_stepIn.two (Kd.qz HA.out hb1); subst hadA; have HB1 := Lib.hid hb1; clear hb1 hR1 hC1)
     go_quiet ((first | (go_at_call 61; (with_reducible exact impl_stepIn.ja H1.out w1 _)) | (go_at_call 61; (with_reducible exact impl_stepIn.ja H3.out w1 _))))
     go_wp2
     obtain ⟨W2, hW2⟩ : ∃ W2, W2 = w1.drewN nq := ⟨_, rfl⟩;rw [← hW2];have hx2 : W2.cell? ad = some (.int .i64 x) := by rw [hW2]; exact hx
     have hy2 : W2.cell? ⟨ad.block, ad.off + 1, none⟩ = some (.int .i64 y) := by rw [hW2]; exact hy
     have hx3 : W2.cell? ad1 = some (.int .i64 x') := by rw [hW2]; exact hx1
     have hy3 : W2.cell? ⟨ad1.block, ad1.off + 1, none⟩ = some (.int .i64 y') := by rw [hW2]; exact hy1
     have hz0 : W2.cell? ⟨B, 0, none⟩ = some (.int .i64 a0_0) := by rw [hW2]; exact hcz0
     have hz1 : W2.cell? ⟨B, 1, none⟩ = some (.int .i64 a0_1) := by rw [hW2]; exact hcz1
     have hz2 : W2.cell? ⟨B, 2, none⟩ = some (.slice AL l.length cL) := by rw [hW2]; exact hcz2
     have HB2 := Lib.hid (show Below w.heap.size w W2 by rw [hW2]; exact qa HB1.out nq);clear hW2 hx hy hx1 hy1 hcz0 hcz1 hcz2
     go_still_tail 23, (by kernel_rfl)
     change wpList _ _ _ _ _ W2.drew
     go_wp2_with (go_at_call 54; refine (impl_isClosed.calls k a0_0 a0_1 AL cL l (x') (y) (x == x') _ _ (Kd.qz HL.out (zr HB2.out)) hcL H.out).mono ?_; rintro e w4 ⟨rfl, hb4⟩)
     all_goals (go_wp2; go_ret; exact ⟨rfl, zi (zr HB2.out) HB2.out.size hb4⟩)
   ·rw [show mn x x' = x by unfold mn; split <;> omega] at ht
    by_cases cy : y' < y
    ·rw [show mn y y' = y' by unfold mn; split <;> omega] at ht
     have H := Lib.hid ht;clear ht
     go_enter Try.func74, Try.ntmps74
     go_wp2_with (go_at_call 72; refine HMV.out.mono ?_; rintro e w1 ⟨v1, rfl, hR1, hb1⟩; obtain ⟨A1, c1, rfl, hl1, hC1⟩ := Kd.R_reads hR1; obtain ⟨ad1, rfl, _, hx1, hy1⟩ := impl_stepIn.two hC1; have hcz0 : w1.cell? ⟨B, 0, none⟩ = some (.int .i64 a0_0) := (qc ((hb1.block _ (zd HB.out)).trans HB.out) 0).trans rfl; have hcz1 : w1.cell? ⟨B, 1, none⟩ = some (.int .i64 a0_1) := (qc ((hb1.block _ (zd HB.out)).trans HB.out) 1).trans rfl; have hcz2 : w1.cell? ⟨B, 2, none⟩ = some (.slice AL l.length cL) := (qc ((hb1.block _ (zd HB.out)).trans HB.out) 2).trans rfl; obtain ⟨ad, hadA, _, hx, hy⟩ := impl_stepIn.two (Kd.qz HA.out hb1); subst hadA; have HB1 := Lib.hid hb1; clear hb1 hR1 hC1)
     go_quiet ((first | (go_at_call 61; (with_reducible exact impl_stepIn.ja H1.out w1 _)) | (go_at_call 61; (with_reducible exact impl_stepIn.ja H3.out w1 _))))
     go_wp2
     obtain ⟨W2, hW2⟩ : ∃ W2, W2 = w1.drewN nq := ⟨_, rfl⟩;rw [← hW2];have hx2 : W2.cell? ad = some (.int .i64 x) := by rw [hW2]; exact hx
     have hy2 : W2.cell? ⟨ad.block, ad.off + 1, none⟩ = some (.int .i64 y) := by rw [hW2]; exact hy
     have hx3 : W2.cell? ad1 = some (.int .i64 x') := by rw [hW2]; exact hx1
     have hy3 : W2.cell? ⟨ad1.block, ad1.off + 1, none⟩ = some (.int .i64 y') := by rw [hW2]; exact hy1
     have hz0 : W2.cell? ⟨B, 0, none⟩ = some (.int .i64 a0_0) := by rw [hW2]; exact hcz0
     have hz1 : W2.cell? ⟨B, 1, none⟩ = some (.int .i64 a0_1) := by rw [hW2]; exact hcz1
     have hz2 : W2.cell? ⟨B, 2, none⟩ = some (.slice AL l.length cL) := by rw [hW2]; exact hcz2
     have HB2 := Lib.hid (show Below w.heap.size w W2 by rw [hW2]; exact qa HB1.out nq);clear hW2 hx hy hx1 hy1 hcz0 hcz1 hcz2
     go_still_tail 23, (by kernel_rfl)
     change wpList _ _ _ _ _ W2.drew
     go_wp2_with (go_at_call 54; refine (impl_isClosed.calls k a0_0 a0_1 AL cL l (x) (y') (x == x') _ _ (Kd.qz HL.out (zr HB2.out)) hcL H.out).mono ?_; rintro e w4 ⟨rfl, hb4⟩)
     all_goals (go_wp2; go_ret; exact ⟨rfl, zi (zr HB2.out) HB2.out.size hb4⟩)
    ·rw [show mn y y' = y by unfold mn; split <;> omega] at ht
     have H := Lib.hid ht;clear ht
     go_enter Try.func74, Try.ntmps74
     go_wp2_with (go_at_call 72; refine HMV.out.mono ?_; rintro e w1 ⟨v1, rfl, hR1, hb1⟩; obtain ⟨A1, c1, rfl, hl1, hC1⟩ := Kd.R_reads hR1; obtain ⟨ad1, rfl, _, hx1, hy1⟩ := impl_stepIn.two hC1; have hcz0 : w1.cell? ⟨B, 0, none⟩ = some (.int .i64 a0_0) := (qc ((hb1.block _ (zd HB.out)).trans HB.out) 0).trans rfl; have hcz1 : w1.cell? ⟨B, 1, none⟩ = some (.int .i64 a0_1) := (qc ((hb1.block _ (zd HB.out)).trans HB.out) 1).trans rfl; have hcz2 : w1.cell? ⟨B, 2, none⟩ = some (.slice AL l.length cL) := (qc ((hb1.block _ (zd HB.out)).trans HB.out) 2).trans rfl; obtain ⟨ad, hadA, _, hx, hy⟩ := impl_stepIn.two (Kd.qz HA.out hb1); subst hadA; have HB1 := Lib.hid hb1; clear hb1 hR1 hC1)
     go_quiet ((first | (go_at_call 61; (with_reducible exact impl_stepIn.ja H1.out w1 _)) | (go_at_call 61; (with_reducible exact impl_stepIn.ja H3.out w1 _))))
     go_wp2
     obtain ⟨W2, hW2⟩ : ∃ W2, W2 = w1.drewN nq := ⟨_, rfl⟩;rw [← hW2];have hx2 : W2.cell? ad = some (.int .i64 x) := by rw [hW2]; exact hx
     have hy2 : W2.cell? ⟨ad.block, ad.off + 1, none⟩ = some (.int .i64 y) := by rw [hW2]; exact hy
     have hx3 : W2.cell? ad1 = some (.int .i64 x') := by rw [hW2]; exact hx1
     have hy3 : W2.cell? ⟨ad1.block, ad1.off + 1, none⟩ = some (.int .i64 y') := by rw [hW2]; exact hy1
     have hz0 : W2.cell? ⟨B, 0, none⟩ = some (.int .i64 a0_0) := by rw [hW2]; exact hcz0
     have hz1 : W2.cell? ⟨B, 1, none⟩ = some (.int .i64 a0_1) := by rw [hW2]; exact hcz1
     have hz2 : W2.cell? ⟨B, 2, none⟩ = some (.slice AL l.length cL) := by rw [hW2]; exact hcz2
     have HB2 := Lib.hid (show Below w.heap.size w W2 by rw [hW2]; exact qa HB1.out nq);clear hW2 hx hy hx1 hy1 hcz0 hcz1 hcz2
     go_still_tail 23, (by kernel_rfl)
     change wpList _ _ _ _ _ W2.drew
     go_wp2_with (go_at_call 54; refine (impl_isClosed.calls k a0_0 a0_1 AL cL l (x) (y) (x == x') _ _ (Kd.qz HL.out (zr HB2.out)) hcL H.out).mono ?_; rintro e w4 ⟨rfl, hb4⟩)
     all_goals (go_wp2; go_ret; exact ⟨rfl, zi (zr HB2.out) HB2.out.size hb4⟩)
  ·rw [decide_eq_true h1, decide_eq_false h3] at h
   obtain rfl := Option.some.inj h;have H1 := Lib.hid h1;have H3 := Lib.hid h3;clear h1 h3 h
   go_enter Try.func74, Try.ntmps74
   go_wp2_with (go_at_call 72; refine HMV.out.mono ?_; rintro e w1 ⟨v1, rfl, hR1, hb1⟩; obtain ⟨A1, c1, rfl, hl1, hC1⟩ := Kd.R_reads hR1; obtain ⟨ad1, rfl, _, hx1, hy1⟩ := impl_stepIn.two hC1; have hcz0 : w1.cell? ⟨B, 0, none⟩ = some (.int .i64 a0_0) := (qc ((hb1.block _ (zd HB.out)).trans HB.out) 0).trans rfl; have hcz1 : w1.cell? ⟨B, 1, none⟩ = some (.int .i64 a0_1) := (qc ((hb1.block _ (zd HB.out)).trans HB.out) 1).trans rfl; have hcz2 : w1.cell? ⟨B, 2, none⟩ = some (.slice AL l.length cL) := (qc ((hb1.block _ (zd HB.out)).trans HB.out) 2).trans rfl; obtain ⟨ad, hadA, _, hx, hy⟩ := impl_stepIn.two (Kd.qz HA.out hb1); subst hadA; have HB1 := Lib.hid hb1; clear hb1 hR1 hC1)
   go_quiet ((first | (go_at_call 61; (with_reducible exact impl_stepIn.ja H1.out w1 _)) | (go_at_call 61; (with_reducible exact impl_stepIn.within_n H3.out w1 _))))
   go_wp2
   go_ret
   exact ⟨rfl, qa HB1.out _⟩
 ·rw [decide_eq_false h1] at h
  obtain rfl := Option.some.inj h;have H1 := Lib.hid h1;clear h1 h
  go_enter Try.func74, Try.ntmps74
  go_wp2_with (go_at_call 72; refine HMV.out.mono ?_; rintro e w1 ⟨v1, rfl, hR1, hb1⟩; obtain ⟨A1, c1, rfl, hl1, hC1⟩ := Kd.R_reads hR1; obtain ⟨ad1, rfl, _, hx1, hy1⟩ := impl_stepIn.two hC1; have hcz0 : w1.cell? ⟨B, 0, none⟩ = some (.int .i64 a0_0) := (qc ((hb1.block _ (zd HB.out)).trans HB.out) 0).trans rfl; have hcz1 : w1.cell? ⟨B, 1, none⟩ = some (.int .i64 a0_1) := (qc ((hb1.block _ (zd HB.out)).trans HB.out) 1).trans rfl; have hcz2 : w1.cell? ⟨B, 2, none⟩ = some (.slice AL l.length cL) := (qc ((hb1.block _ (zd HB.out)).trans HB.out) 2).trans rfl; obtain ⟨ad, hadA, _, hx, hy⟩ := impl_stepIn.two (Kd.qz HA.out hb1); subst hadA; have HB1 := Lib.hid hb1; clear hb1 hR1 hC1)
  go_quiet ((go_at_call 61; (with_reducible exact impl_stepIn.within_n H1.out w1 _)))
  go_wp2
  go_ret
  exact ⟨rfl, qa HB1.out _⟩
def bits_Mul32.f (a0 : Int) (a1 : Int) : Option (Int × Int) := some (((IntKind.u64.wrap ((IntKind.u64.wrap (a0)) * (IntKind.u64.wrap (a1)))) / 4294967296) % 4294967296, (IntKind.u64.wrap ((IntKind.u64.wrap (a0)) * (IntKind.u64.wrap (a1)))) % 4294967296)
set_option maxHeartbeats 8000000 in
set_option maxRecDepth 100000 in
theorem bits_Mul32.calls (a0 : Int) (a1 : Int) (r1 : Int) (r2 : Int) (w : World) (h : bits_Mul32.f a0 a1 = some (r1, r2)) :
  Calls Try.prog 96 #[.int .u32 a0, .int .u32 a1] w fun e w' => e = .returned (.tuple #[.int .u32 r1, .int .u32 r2]) ∧ zo w w' := by
 have H : (some (((IntKind.u64.wrap ((IntKind.u64.wrap (a0)) * (IntKind.u64.wrap (a1)))) / 4294967296) % 4294967296, (IntKind.u64.wrap ((IntKind.u64.wrap (a0)) * (IntKind.u64.wrap (a1)))) % 4294967296)) = some (r1, r2) := h
 clear h
 simp only [Option.some.injEq, Prod.mk.injEq] at H
 obtain ⟨rfl, rfl⟩ := H
 go_enter Try.func96, Try.ntmps96
 go_wp2
 go_ret2
 exact ⟨by first | rfl | (simp; done) | (simp [*]; done), by repeat (first | exact zo.refl _ | apply zo.step)⟩
def bits_Mul64.f (a0 : Int) (a1 : Int) : Option (Int × Int) := some (IntKind.u64.wrap ((IntKind.u64.wrap ((IntKind.u64.wrap ((a0 / 4294967296) * (a1 / 4294967296))) + ((IntKind.u64.wrap ((IntKind.u64.wrap ((a0 / 4294967296) * (Go.bits .and .u64 a1 4294967295))) + ((IntKind.u64.wrap ((Go.bits .and .u64 a0 4294967295) * (Go.bits .and .u64 a1 4294967295))) / 4294967296))) / 4294967296))) + ((IntKind.u64.wrap ((Go.bits .and .u64 (IntKind.u64.wrap ((IntKind.u64.wrap ((a0 / 4294967296) * (Go.bits .and .u64 a1 4294967295))) + ((IntKind.u64.wrap ((Go.bits .and .u64 a0 4294967295) * (Go.bits .and .u64 a1 4294967295))) / 4294967296))) 4294967295) + (IntKind.u64.wrap ((Go.bits .and .u64 a0 4294967295) * (a1 / 4294967296))))) / 4294967296)), IntKind.u64.wrap (a0 * a1))
set_option maxHeartbeats 8000000 in
set_option maxRecDepth 100000 in
theorem bits_Mul64.calls (a0 : Int) (a1 : Int) (r1 : Int) (r2 : Int) (w : World) (h : bits_Mul64.f a0 a1 = some (r1, r2)) :
  Calls Try.prog 97 #[.int .u64 a0, .int .u64 a1] w fun e w' => e = .returned (.tuple #[.int .u64 r1, .int .u64 r2]) ∧ zo w w' := by
 have H : (some (IntKind.u64.wrap ((IntKind.u64.wrap ((IntKind.u64.wrap ((a0 / 4294967296) * (a1 / 4294967296))) + ((IntKind.u64.wrap ((IntKind.u64.wrap ((a0 / 4294967296) * (Go.bits .and .u64 a1 4294967295))) + ((IntKind.u64.wrap ((Go.bits .and .u64 a0 4294967295) * (Go.bits .and .u64 a1 4294967295))) / 4294967296))) / 4294967296))) + ((IntKind.u64.wrap ((Go.bits .and .u64 (IntKind.u64.wrap ((IntKind.u64.wrap ((a0 / 4294967296) * (Go.bits .and .u64 a1 4294967295))) + ((IntKind.u64.wrap ((Go.bits .and .u64 a0 4294967295) * (Go.bits .and .u64 a1 4294967295))) / 4294967296))) 4294967295) + (IntKind.u64.wrap ((Go.bits .and .u64 a0 4294967295) * (a1 / 4294967296))))) / 4294967296)), IntKind.u64.wrap (a0 * a1))) = some (r1, r2) := h
 clear h
 simp only [Option.some.injEq, Prod.mk.injEq] at H
 obtain ⟨rfl, rfl⟩ := H
 go_enter Try.func97, Try.ntmps97
 go_wp2
 go_ret2
 exact ⟨by first | rfl | (simp; done) | (simp [*]; done), by repeat (first | exact zo.refl _ | apply zo.step)⟩
def bits_Mul.f (a0 : Int) (a1 : Int) : Option (Int × Int) := (bits_Mul64.f a0 a1).bind fun bt290 => (some (bt290.1, bt290.2))
set_option maxHeartbeats 8000000 in
set_option maxRecDepth 100000 in
theorem bits_Mul.calls (a0 : Int) (a1 : Int) (r1 : Int) (r2 : Int) (w : World) (h : bits_Mul.f a0 a1 = some (r1, r2)) :
  Calls Try.prog 84 #[.int .u64 a0, .int .u64 a1] w fun e w' => e = .returned (.tuple #[.int .u64 r1, .int .u64 r2]) ∧ zo w w' := by
 have H : ((bits_Mul64.f a0 a1).bind fun bt290 => (some (bt290.1, bt290.2))) = some (r1, r2) := h
 clear h
 replace H := Option.bind_eq_some_iff.mp H
 obtain ⟨⟨t290, t291⟩, A30, H⟩ := H
 replace H : (some (t290, t291)) = some (r1, r2) := H
 have A3 := qb.mk A30
 clear A30
 simp only [Option.some.injEq, Prod.mk.injEq] at H
 obtain ⟨rfl, rfl⟩ := H
 go_enter Try.func84, Try.ntmps84
 go_wp2_with (first | ((with_reducible refine qx (f := 97) rfl ?_); refine zl (some 25) rfl rfl Try.func97 (by kernel_rfl) rfl #[.int .u64 a0, .int .u64 a1] rfl (by (try simp only [List.map_toArray, List.map_cons, List.map_nil]); first | done | rfl | (simp only [List.length_drop, List.length_take]; rfl)) ?_; (with_reducible refine (bits_Mul64.calls a0 a1 t290 t291 _ A3.out).mono ?_); rintro e w' ⟨rfl, ⟨nd, rfl⟩⟩; refine ⟨_, rfl, ?_⟩))
 go_ret2
 exact ⟨by first | rfl | (simp; done) | (simp [*]; done), by repeat (first | exact zo.refl _ | apply zo.step)⟩
end Go.Proofs.Ytpedofomfhmnfaa.PFnExactNeededBlocks
