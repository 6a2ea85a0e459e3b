/- Cut by wip/cut.py out of the texts of this claim (printed by the kit's printer, or this session's own): what the row's theorem does not reach is struck. Not trusted: Lean checks it. -/
import Derived.Test.YtohpaddcfcgmbaaZFnExactOpenBlockPx0
import Derived.Test.YtohpaddcfcgmbaaZFnExactOpenBlockPx2
namespace Go.Proofs.Ytohpaddcfcgmbaa.PFnExactOpenBlock
open Go.RowKit Go.Proofs.YtohpaddcfcgmbaaW.PrintWords Go.Proofs.YtohpaddcfcgmbaaW.PrintLast Go.Proofs.YtohpaddcfcgmbaaW.PrintMore
attribute [local go_sem] max2_int min2_int max_two min_two max_three min_three max_four min_four
set_option linter.unusedVariables false
set_option linter.unusedSimpArgs false
def spec_avIs.j0 : Nat → Int → Int → Bool → Int → Int → Bool → Option (Bool)
 | 0, _, _, _, _, _, _ => none
 | k + 1, x0, x1, x20, x129000, x129001, x129002 => if x20 = true then (some false) else (if x129002 = true then (some (decide (x129001 < (wrap64 (x1 - 1))))) else (some (decide (x129000 < (wrap64 (x0 - 1))))))
def spec_avIs.f (k : Nat) (a0 : Int) (a1 : Int) (a2_0 : Int) (a2_1 : Int) (a2_2 : Bool) : Option (Bool) := (spec_l1In.f a2_0 0 (wrap64 (a0 - 1))).bind fun t129 => (if t129 = true then ((spec_l1In.f a2_1 0 (wrap64 (a1 - 1))).bind fun t130 => (spec_avIs.j0 k a0 a1 (!t130) a2_0 a2_1 a2_2)) else (spec_avIs.j0 k a0 a1 true a2_0 a2_1 a2_2))
theorem spec_avIs.zq : ∀ k, (∀ y0 y1 y2 y3 y4 y5, LeO (spec_avIs.j0 k y0 y1 y2 y3 y4 y5) (spec_avIs.j0 (k + 1) y0 y1 y2 y3 y4 y5))
 | 0 => fun _ _ _ _ _ _ r h => by simp [spec_avIs.j0] at h
 | k + 1 => by
  have ih0 := spec_avIs.zq k
  ·intro y0 y1 y2 y3 y4 y5
   unfold spec_avIs.j0
   repeat' first
   | (with_reducible exact ih0 _ _ _ _ _ _)
   | (with_reducible exact LeO.refl _)
   | (with_reducible exact LeO.none _)
   | (with_reducible refine LeO.ite ?_ ?_)
   | (with_reducible refine LeO.bind ?_ (fun _ => ?_))
   | exact ih0 _ _ _ _ _ _
   | exact LeO.none _
   | refine LeO.ite ?_ ?_
   | refine LeO.bind ?_ (fun _ => ?_)
theorem spec_avIs.mono : ∀ a0 a1 a2 a3 a4 k, LeO (spec_avIs.f k a0 a1 a2 a3 a4) (spec_avIs.f (k + 1) a0 a1 a2 a3 a4) := by
 intro a0 a1 a2 a3 a4 k
 have ih0 := spec_avIs.zq k
 unfold spec_avIs.f
 repeat' first
   | (with_reducible exact ih0 _ _ _ _ _ _)
   | (with_reducible exact LeO.refl _)
   | (with_reducible exact LeO.none _)
   | (with_reducible refine LeO.ite ?_ ?_)
   | (with_reducible refine LeO.bind ?_ (fun _ => ?_))
   | exact ih0 _ _ _ _ _ _
   | exact LeO.none _
   | refine LeO.ite ?_ ?_
   | refine LeO.bind ?_ (fun _ => ?_)
set_option maxHeartbeats 8000000 in
set_option maxRecDepth 100000 in
theorem spec_avIs.calls (k : Nat) (a0 : Int) (a1 : Int) (a2_0 : Int) (a2_1 : Int) (a2_2 : Bool) (r : Bool) (w : World) (h : spec_avIs.f k a0 a1 a2_0 a2_1 a2_2 = some r) :
  Calls Try.prog 95 #[.int .i64 a0, .int .i64 a1, .agg #[.int .i64 a2_0, .int .i64 a2_1, .bool a2_2]] w fun e w' => e = .returned (.bool r) ∧ Below w.heap.size w w' := by
 have hu38 := Try.underlying38
 have HB := qa.mk (Below.refl w.heap.size w)
 have H : ((spec_l1In.f a2_0 0 (wrap64 (a0 - 1))).bind fun t129 => (if t129 = true then ((spec_l1In.f a2_1 0 (wrap64 (a1 - 1))).bind fun t130 => (spec_avIs.j0 k a0 a1 (!t130) a2_0 a2_1 a2_2)) else (spec_avIs.j0 k a0 a1 true a2_0 a2_1 a2_2))) = some r := h
 clear h
 have HC4 := qa.mk H
 clear H
 go_enter Try.func95, Try.ntmps95
 go_upto_region 1 with (first | ((with_reducible refine qy (N := 5) rfl ?_); refine qx ?hg (N := 5) ?hd (cs := #[.int .i64 a2_0, .int .i64 a2_1, .bool a2_2]) (t := 38) ?hr ?_; (case hd => rfl); (case hg => rfl); (case hr => first | (go_simp; done) | (go_simp; rfl)); intro gb128 hg w5 hbox hb; have n0_ := qa.mk (qn (be0_ HB) hb); have n1_ := qa.mk (hbox); have n2_ := qa.mk ((by rw [hg]; exact (qm (be0_ HB)) : w.heap.size ≤ gb128)); have n3_ := qa.mk ((by rw [hg]; exact (qm (be0_ HB)) : w.heap.size ≤ gb128)); clear HB; have HB := n0_; have BK128 := n1_; have GW128 := n2_; have GE128 := n3_; clear n0_ n1_ n2_ n3_; clear hb hbox hg))
 (try simp only [Act.put, sA_, sB_, sC_])
 go_cut [20] (fun v20 wc => ∃ (kq : Nat) (x20_3 : Bool), v20 = .bool x20_3 ∧ qa (spec_avIs.j0 kq a0 a1 x20_3 a2_0 a2_1 a2_2 = some r) ∧ qa (kq ≤ k) ∧ qa (wc.heap[gb128]? = some (.cells #[.int .i64 a2_0, .int .i64 a2_1, .bool a2_2] 38 (0, 0))) ∧ qa (Below w.heap.size w wc))
 case first =>
  have H := HC4.out
  clear HC4
  replace H := Option.bind_eq_some_iff.mp H
  obtain ⟨t129, A60, H⟩ := H
  replace H : (if t129 = true then ((spec_l1In.f a2_1 0 (wrap64 (a1 - 1))).bind fun t130 => (spec_avIs.j0 k a0 a1 (!t130) a2_0 a2_1 a2_2)) else (spec_avIs.j0 k a0 a1 true a2_0 a2_1 a2_2)) = some r := H
  have A6 := qa.mk A60
  clear A60
  by_cases c7 : t129 = true
  ·subst c7
   have H1 : ((spec_l1In.f a2_1 0 (wrap64 (a1 - 1))).bind fun t130 => (spec_avIs.j0 k a0 a1 (!t130) a2_0 a2_1 a2_2)) = some r := by rw [if_pos rfl] at H; exact H
   clear H
   have H := H1
   clear H1
   replace H := Option.bind_eq_some_iff.mp H
   obtain ⟨t130, A80, H⟩ := H
   replace H : (spec_avIs.j0 k a0 a1 (!t130) a2_0 a2_1 a2_2) = some r := H
   have A8 := qa.mk A80
   clear A80
   have H' := qa.mk H
   clear H
   have hcz9_0 : w5.cell? ⟨gb128, 0, none⟩ = some (.int .i64 a2_0) := (qg BK128.out 0).trans rfl
   have hcz9_1 : w5.cell? ⟨gb128, 1, none⟩ = some (.int .i64 a2_1) := (qg BK128.out 1).trans rfl
   have hcz9_2 : w5.cell? ⟨gb128, 2, none⟩ = some (.bool a2_2) := (qg BK128.out 2).trans rfl
   have hfz9_0 := qj BK128.out 0
   have hfz9_1 := qj BK128.out 1
   have hfz9_2 := qj BK128.out 2
   go_wp2_with (first | ((with_reducible refine zb (f := 100) rfl ?_); refine zj (some 11) rfl rfl Try.func100 (by kernel_rfl) rfl #[.int .i64 a2_0, .int .i64 0, .int .i64 (wrap64 (a0 - 1))] rfl (by (try simp only [List.map_toArray, List.map_cons, List.map_nil]); first | done | rfl | (simp only [List.length_drop, List.length_take]; rfl)) ?_; (with_reducible refine (spec_l1In.calls a2_0 0 (wrap64 (a0 - 1)) true _ A6.out).mono ?_); rintro e w' ⟨rfl, ⟨nd, rfl⟩⟩; refine ⟨_, rfl, ?_⟩) | (go_at_call 100; (with_reducible refine (spec_l1In.calls a2_1 0 (wrap64 (a1 - 1)) t130 _ A8.out).mono ?_); rintro e w' ⟨rfl, ⟨nd, rfl⟩⟩))
   go_meet
   case rel => exact ⟨_, (!t130), (by first | rfl | (simp; done) | (simp [*]; done)), H', ⟨by first | omega | exact Nat.le_refl _⟩, ⟨bk_ BK128⟩, ⟨be1_ HB GE128⟩⟩
  ·replace c7 := Bool.eq_false_iff.mpr c7
   subst c7
   have H1 : (spec_avIs.j0 k a0 a1 true a2_0 a2_1 a2_2) = some r := by rw [if_neg (show ¬ (false = true) by decide)] at H; exact H
   clear H
   have H := H1
   clear H1
   have H' := qa.mk H
   clear H
   have hcz10_0 : w5.cell? ⟨gb128, 0, none⟩ = some (.int .i64 a2_0) := (qg BK128.out 0).trans rfl
   have hcz10_1 : w5.cell? ⟨gb128, 1, none⟩ = some (.int .i64 a2_1) := (qg BK128.out 1).trans rfl
   have hcz10_2 : w5.cell? ⟨gb128, 2, none⟩ = some (.bool a2_2) := (qg BK128.out 2).trans rfl
   have hfz10_0 := qj BK128.out 0
   have hfz10_1 := qj BK128.out 1
   have hfz10_2 := qj BK128.out 2
   go_wp2_with (first | ((with_reducible refine zb (f := 100) rfl ?_); refine zj (some 11) rfl rfl Try.func100 (by kernel_rfl) rfl #[.int .i64 a2_0, .int .i64 0, .int .i64 (wrap64 (a0 - 1))] rfl (by (try simp only [List.map_toArray, List.map_cons, List.map_nil]); first | done | rfl | (simp only [List.length_drop, List.length_take]; rfl)) ?_; (with_reducible refine (spec_l1In.calls a2_0 0 (wrap64 (a0 - 1)) false _ A6.out).mono ?_); rintro e w' ⟨rfl, ⟨nd, rfl⟩⟩; refine ⟨_, rfl, ?_⟩))
   go_meet
   case rel => exact ⟨_, (true), (by first | rfl | (simp; done) | (simp [*]; done)), H', ⟨by first | omega | exact Nat.le_refl _⟩, ⟨bk_ BK128⟩, ⟨be1_ HB GE128⟩⟩
 case rest =>
  clear HC4
  try clear c7
  try clear hcz10_0
  try clear hcz10_1
  try clear hcz10_2
  try clear hcz9_0
  try clear hcz9_1
  try clear hcz9_2
  try clear hfz10_0
  try clear hfz10_1
  try clear hfz10_2
  try clear hfz9_0
  try clear hfz9_1
  try clear hfz9_2
  obtain ⟨kq, x20_3, rfl, HA, HJ3, BK128, HB⟩ := hcut
  cases kq with
  | zero => exact absurd HA.out (by simp [spec_avIs.j0])
  | succ kj3 =>
   have H := HA.out
   clear HA
   simp only [spec_avIs.j0] at H
   by_cases c11 : x20_3 = true
   ·subst c11
    have H1 : (some false) = some r := by rw [if_pos rfl] at H; exact H
    clear H
    have H := H1
    clear H1
    obtain rfl := Option.some.inj H
    go_wp2
    go_ret
    exact ⟨by first | rfl | (simp [qu, qt] <;> rfl) | (simp [*, qu, qt] <;> rfl), be1_ HB GE128⟩
   ·replace c11 := Bool.eq_false_iff.mpr c11
    subst c11
    have H1 : (if a2_2 = true then (some (decide (a2_1 < (wrap64 (a1 - 1))))) else (some (decide (a2_0 < (wrap64 (a0 - 1)))))) = some r := by rw [if_neg (show ¬ (false = true) by decide)] at H; exact H
    clear H
    have H := H1
    clear H1
    by_cases c12 : a2_2 = true
    ·subst c12
     have H1 : (some (decide (a2_1 < (wrap64 (a1 - 1))))) = some r := by rw [if_pos rfl] at H; exact H
     clear H
     have H := H1
     clear H1
     obtain rfl := Option.some.inj H
     have hcz13_0 : wc.cell? ⟨gb128, 0, none⟩ = some (.int .i64 a2_0) := (qg BK128.out 0).trans rfl
     have hcz13_1 : wc.cell? ⟨gb128, 1, none⟩ = some (.int .i64 a2_1) := (qg BK128.out 1).trans rfl
     have hcz13_2 : wc.cell? ⟨gb128, 2, none⟩ = some (.bool true) := (qg BK128.out 2).trans rfl
     have hfz13_0 := qj BK128.out 0
     have hfz13_1 := qj BK128.out 1
     have hfz13_2 := qj BK128.out 2
     go_wp2
     go_ret
     exact ⟨by first | rfl | (simp [qu, qt] <;> rfl) | (simp [*, qu, qt] <;> rfl), be1_ HB GE128⟩
    ·replace c12 := Bool.eq_false_iff.mpr c12
     subst c12
     have H1 : (some (decide (a2_0 < (wrap64 (a0 - 1))))) = some r := by rw [if_neg (show ¬ (false = true) by decide)] at H; exact H
     clear H
     have H := H1
     clear H1
     obtain rfl := Option.some.inj H
     have hcz14_0 : wc.cell? ⟨gb128, 0, none⟩ = some (.int .i64 a2_0) := (qg BK128.out 0).trans rfl
     have hcz14_1 : wc.cell? ⟨gb128, 1, none⟩ = some (.int .i64 a2_1) := (qg BK128.out 1).trans rfl
     have hcz14_2 : wc.cell? ⟨gb128, 2, none⟩ = some (.bool false) := (qg BK128.out 2).trans rfl
     have hfz14_0 := qj BK128.out 0
     have hfz14_1 := qj BK128.out 1
     have hfz14_2 := qj BK128.out 2
     go_wp2
     go_ret
     exact ⟨by first | rfl | (simp [qu, qt] <;> rfl) | (simp [*, qu, qt] <;> rfl), be1_ HB GE128⟩
def spec_avLess.f (a0_0 : Int) (a0_1 : Int) (a0_2 : Bool) (a1_0 : Int) (a1_1 : Int) (a1_2 : Bool) : Option (Bool) := if a0_0 = a1_0 then (if a0_1 = a1_1 then (if a0_2 = true then (some false) else (some a1_2)) else (some (decide (a0_1 < a1_1)))) else (some (decide (a0_0 < a1_0)))
set_option maxHeartbeats 8000000 in
set_option maxRecDepth 100000 in
theorem spec_avLess.calls (a0_0 : Int) (a0_1 : Int) (a0_2 : Bool) (a1_0 : Int) (a1_1 : Int) (a1_2 : Bool) (r : Bool) (w : World) (h : spec_avLess.f a0_0 a0_1 a0_2 a1_0 a1_1 a1_2 = some r) :
  Calls Try.prog 106 #[.agg #[.int .i64 a0_0, .int .i64 a0_1, .bool a0_2], .agg #[.int .i64 a1_0, .int .i64 a1_1, .bool a1_2]] w fun e w' => e = .returned (.bool r) ∧ Below w.heap.size w w' := by
 have hu38 := Try.underlying38
 have HB := qa.mk (Below.refl w.heap.size w)
 have H : (if a0_0 = a1_0 then (if a0_1 = a1_1 then (if a0_2 = true then (some false) else (some a1_2)) else (some (decide (a0_1 < a1_1)))) else (some (decide (a0_0 < a1_0)))) = some r := h
 clear h
 by_cases c3 : a0_0 = a1_0
 ·rw [if_pos c3] at H
  have c3b0 : (a0_0 == a1_0) = true := beq_iff_eq.mpr c3
  have c3b1 : (a0_0 != a1_0) = false := bne_eq_false_iff_eq.mpr c3
  clear c3
  by_cases c4 : a0_1 = a1_1
  ·rw [if_pos c4] at H
   have c4b0 : (a0_1 == a1_1) = true := beq_iff_eq.mpr c4
   have c4b1 : (a0_1 != a1_1) = false := bne_eq_false_iff_eq.mpr c4
   clear c4
   by_cases c5 : a0_2 = true
   ·subst c5
    have H1 : (some false) = some r := by rw [if_pos rfl] at H; exact H
    clear H
    have H := H1
    clear H1
    obtain rfl := Option.some.inj H
    go_enter Try.func106, Try.ntmps106
    go_wp2_with (first | ((with_reducible refine qy (N := 2) rfl ?_); refine qx ?hg (N := 2) ?hd (cs := #[.int .i64 a0_0, .int .i64 a0_1, .bool true]) (t := 38) ?hr ?_; (case hd => rfl); (case hg => rfl); (case hr => first | (go_simp; done) | (go_simp; rfl)); intro gb131 hg w6 hbox hb; have n0_ := qa.mk (qn (be0_ HB) hb); have n1_ := qa.mk (hbox); have n2_ := qa.mk ((by rw [hg]; exact (qm (be0_ HB)) : w.heap.size ≤ gb131)); have n3_ := qa.mk ((by rw [hg]; exact (qm (be0_ HB)) : w.heap.size ≤ gb131)); clear HB; have HB := n0_; have BK131 := n1_; have GW131 := n2_; have GE131 := n3_; clear n0_ n1_ n2_ n3_; clear hb hbox hg) | ((with_reducible refine qy (N := 3) rfl ?_); refine qx ?hg (N := 3) ?hd (cs := #[.int .i64 a1_0, .int .i64 a1_1, .bool a1_2]) (t := 38) ?hr ?_; (case hd => rfl); (case hg => rfl); (case hr => first | (go_simp; done) | (go_simp; rfl)); intro gb132 hg w7 hbox hb; have n0_ := qa.mk (qk (g := gb131) (o := .cells #[.int .i64 a0_0, .int .i64 a0_1, .bool true] 38 (0, 0)) (bk_ BK131) hb); have n1_ := qa.mk (qn (be1_ HB GE131) hb); have n2_ := qa.mk (hbox); have n3_ := qa.mk ((by rw [hg]; exact (qm (be1_ HB GE131)) : w.heap.size ≤ gb132)); have n4_ := qa.mk ((by rw [hg]; exact (qm (be1_ HB GE131)) : w.heap.size ≤ gb132)); have n5_ := qa.mk ((by rw [hg]; exact Nat.ne_of_lt (qr (g := gb131) (o := .cells #[.int .i64 a0_0, .int .i64 a0_1, .bool true] 38 (0, 0)) (bk_ BK131)) : gb131 ≠ gb132)); have n6_ := qa.mk ((by rw [hg]; exact Nat.ne_of_gt (qr (g := gb131) (o := .cells #[.int .i64 a0_0, .int .i64 a0_1, .bool true] 38 (0, 0)) (bk_ BK131)) : gb132 ≠ gb131)); clear BK131; clear HB; have BK131 := n0_; have HB := n1_; have BK132 := n2_; have GW132 := n3_; have GE132 := n4_; have NB131_132 := n5_; have NB132_131 := n6_; clear n0_ n1_ n2_ n3_ n4_ n5_ n6_; clear hb hbox hg; have hnb8 := NB131_132.out; have hnc8 := NB132_131.out; have hcz9_0 : w7.cell? ⟨gb131, 0, none⟩ = some (.int .i64 a0_0) := (qg BK131.out 0).trans rfl; have hcz9_1 : w7.cell? ⟨gb131, 1, none⟩ = some (.int .i64 a0_1) := (qg BK131.out 1).trans rfl; have hcz9_2 : w7.cell? ⟨gb131, 2, none⟩ = some (.bool true) := (qg BK131.out 2).trans rfl; have hfz9_0 := qj BK131.out 0; have hfz9_1 := qj BK131.out 1; have hfz9_2 := qj BK131.out 2; have hcz10_0 : w7.cell? ⟨gb132, 0, none⟩ = some (.int .i64 a1_0) := (qg BK132.out 0).trans rfl; have hcz10_1 : w7.cell? ⟨gb132, 1, none⟩ = some (.int .i64 a1_1) := (qg BK132.out 1).trans rfl; have hcz10_2 : w7.cell? ⟨gb132, 2, none⟩ = some (.bool a1_2) := (qg BK132.out 2).trans rfl; have hfz10_0 := qj BK132.out 0; have hfz10_1 := qj BK132.out 1; have hfz10_2 := qj BK132.out 2))
    go_ret
    exact ⟨by first | rfl | (simp [qu, qt] <;> rfl) | (simp [*, qu, qt] <;> rfl), be2_ HB GE131 GE132⟩
   ·replace c5 := Bool.eq_false_iff.mpr c5
    subst c5
    have H1 : (some a1_2) = some r := by rw [if_neg (show ¬ (false = true) by decide)] at H; exact H
    clear H
    have H := H1
    clear H1
    obtain rfl := Option.some.inj H
    go_enter Try.func106, Try.ntmps106
    go_wp2_with (first | ((with_reducible refine qy (N := 2) rfl ?_); refine qx ?hg (N := 2) ?hd (cs := #[.int .i64 a0_0, .int .i64 a0_1, .bool false]) (t := 38) ?hr ?_; (case hd => rfl); (case hg => rfl); (case hr => first | (go_simp; done) | (go_simp; rfl)); intro gb131 hg w11 hbox hb; have n0_ := qa.mk (qn (be0_ HB) hb); have n1_ := qa.mk (hbox); have n2_ := qa.mk ((by rw [hg]; exact (qm (be0_ HB)) : w.heap.size ≤ gb131)); have n3_ := qa.mk ((by rw [hg]; exact (qm (be0_ HB)) : w.heap.size ≤ gb131)); clear HB; have HB := n0_; have BK131 := n1_; have GW131 := n2_; have GE131 := n3_; clear n0_ n1_ n2_ n3_; clear hb hbox hg) | ((with_reducible refine qy (N := 3) rfl ?_); refine qx ?hg (N := 3) ?hd (cs := #[.int .i64 a1_0, .int .i64 a1_1, .bool a1_2]) (t := 38) ?hr ?_; (case hd => rfl); (case hg => rfl); (case hr => first | (go_simp; done) | (go_simp; rfl)); intro gb132 hg w12 hbox hb; have n0_ := qa.mk (qk (g := gb131) (o := .cells #[.int .i64 a0_0, .int .i64 a0_1, .bool false] 38 (0, 0)) (bk_ BK131) hb); have n1_ := qa.mk (qn (be1_ HB GE131) hb); have n2_ := qa.mk (hbox); have n3_ := qa.mk ((by rw [hg]; exact (qm (be1_ HB GE131)) : w.heap.size ≤ gb132)); have n4_ := qa.mk ((by rw [hg]; exact (qm (be1_ HB GE131)) : w.heap.size ≤ gb132)); have n5_ := qa.mk ((by rw [hg]; exact Nat.ne_of_lt (qr (g := gb131) (o := .cells #[.int .i64 a0_0, .int .i64 a0_1, .bool false] 38 (0, 0)) (bk_ BK131)) : gb131 ≠ gb132)); have n6_ := qa.mk ((by rw [hg]; exact Nat.ne_of_gt (qr (g := gb131) (o := .cells #[.int .i64 a0_0, .int .i64 a0_1, .bool false] 38 (0, 0)) (bk_ BK131)) : gb132 ≠ gb131)); clear BK131; clear HB; have BK131 := n0_; have HB := n1_; have BK132 := n2_; have GW132 := n3_; have GE132 := n4_; have NB131_132 := n5_; have NB132_131 := n6_; clear n0_ n1_ n2_ n3_ n4_ n5_ n6_; clear hb hbox hg; have hnb13 := NB131_132.out; have hnc13 := NB132_131.out; have hcz14_0 : w12.cell? ⟨gb131, 0, none⟩ = some (.int .i64 a0_0) := (qg BK131.out 0).trans rfl; have hcz14_1 : w12.cell? ⟨gb131, 1, none⟩ = some (.int .i64 a0_1) := (qg BK131.out 1).trans rfl; have hcz14_2 : w12.cell? ⟨gb131, 2, none⟩ = some (.bool false) := (qg BK131.out 2).trans rfl; have hfz14_0 := qj BK131.out 0; have hfz14_1 := qj BK131.out 1; have hfz14_2 := qj BK131.out 2; have hcz15_0 : w12.cell? ⟨gb132, 0, none⟩ = some (.int .i64 a1_0) := (qg BK132.out 0).trans rfl; have hcz15_1 : w12.cell? ⟨gb132, 1, none⟩ = some (.int .i64 a1_1) := (qg BK132.out 1).trans rfl; have hcz15_2 : w12.cell? ⟨gb132, 2, none⟩ = some (.bool a1_2) := (qg BK132.out 2).trans rfl; have hfz15_0 := qj BK132.out 0; have hfz15_1 := qj BK132.out 1; have hfz15_2 := qj BK132.out 2))
    go_ret
    exact ⟨by first | rfl | (simp [qu, qt] <;> rfl) | (simp [*, qu, qt] <;> rfl), be2_ HB GE131 GE132⟩
  ·rw [if_neg c4] at H
   have c4b0 : (a0_1 == a1_1) = false := beq_eq_false_iff_ne.mpr c4
   have c4b1 : (a0_1 != a1_1) = true := bne_iff_ne.mpr c4
   obtain rfl := Option.some.inj H
   go_enter Try.func106, Try.ntmps106
   go_wp2_with (first | ((with_reducible refine qy (N := 2) rfl ?_); refine qx ?hg (N := 2) ?hd (cs := #[.int .i64 a0_0, .int .i64 a0_1, .bool a0_2]) (t := 38) ?hr ?_; (case hd => rfl); (case hg => rfl); (case hr => first | (go_simp; done) | (go_simp; rfl)); intro gb131 hg w16 hbox hb; have n0_ := qa.mk (qn (be0_ HB) hb); have n1_ := qa.mk (hbox); have n2_ := qa.mk ((by rw [hg]; exact (qm (be0_ HB)) : w.heap.size ≤ gb131)); have n3_ := qa.mk ((by rw [hg]; exact (qm (be0_ HB)) : w.heap.size ≤ gb131)); clear HB; have HB := n0_; have BK131 := n1_; have GW131 := n2_; have GE131 := n3_; clear n0_ n1_ n2_ n3_; clear hb hbox hg) | ((with_reducible refine qy (N := 3) rfl ?_); refine qx ?hg (N := 3) ?hd (cs := #[.int .i64 a1_0, .int .i64 a1_1, .bool a1_2]) (t := 38) ?hr ?_; (case hd => rfl); (case hg => rfl); (case hr => first | (go_simp; done) | (go_simp; rfl)); intro gb132 hg w17 hbox hb; have n0_ := qa.mk (qk (g := gb131) (o := .cells #[.int .i64 a0_0, .int .i64 a0_1, .bool a0_2] 38 (0, 0)) (bk_ BK131) hb); have n1_ := qa.mk (qn (be1_ HB GE131) hb); have n2_ := qa.mk (hbox); have n3_ := qa.mk ((by rw [hg]; exact (qm (be1_ HB GE131)) : w.heap.size ≤ gb132)); have n4_ := qa.mk ((by rw [hg]; exact (qm (be1_ HB GE131)) : w.heap.size ≤ gb132)); have n5_ := qa.mk ((by rw [hg]; exact Nat.ne_of_lt (qr (g := gb131) (o := .cells #[.int .i64 a0_0, .int .i64 a0_1, .bool a0_2] 38 (0, 0)) (bk_ BK131)) : gb131 ≠ gb132)); have n6_ := qa.mk ((by rw [hg]; exact Nat.ne_of_gt (qr (g := gb131) (o := .cells #[.int .i64 a0_0, .int .i64 a0_1, .bool a0_2] 38 (0, 0)) (bk_ BK131)) : gb132 ≠ gb131)); clear BK131; clear HB; have BK131 := n0_; have HB := n1_; have BK132 := n2_; have GW132 := n3_; have GE132 := n4_; have NB131_132 := n5_; have NB132_131 := n6_; clear n0_ n1_ n2_ n3_ n4_ n5_ n6_; clear hb hbox hg; have hnb18 := NB131_132.out; have hnc18 := NB132_131.out; have hcz19_0 : w17.cell? ⟨gb131, 0, none⟩ = some (.int .i64 a0_0) := (qg BK131.out 0).trans rfl; have hcz19_1 : w17.cell? ⟨gb131, 1, none⟩ = some (.int .i64 a0_1) := (qg BK131.out 1).trans rfl; have hcz19_2 : w17.cell? ⟨gb131, 2, none⟩ = some (.bool a0_2) := (qg BK131.out 2).trans rfl; have hfz19_0 := qj BK131.out 0; have hfz19_1 := qj BK131.out 1; have hfz19_2 := qj BK131.out 2; have hcz20_0 : w17.cell? ⟨gb132, 0, none⟩ = some (.int .i64 a1_0) := (qg BK132.out 0).trans rfl; have hcz20_1 : w17.cell? ⟨gb132, 1, none⟩ = some (.int .i64 a1_1) := (qg BK132.out 1).trans rfl; have hcz20_2 : w17.cell? ⟨gb132, 2, none⟩ = some (.bool a1_2) := (qg BK132.out 2).trans rfl; have hfz20_0 := qj BK132.out 0; have hfz20_1 := qj BK132.out 1; have hfz20_2 := qj BK132.out 2))
   go_ret
   exact ⟨by first | rfl | (simp [qu, qt] <;> rfl) | (simp [*, qu, qt] <;> rfl), be2_ HB GE131 GE132⟩
 ·rw [if_neg c3] at H
  have c3b0 : (a0_0 == a1_0) = false := beq_eq_false_iff_ne.mpr c3
  have c3b1 : (a0_0 != a1_0) = true := bne_iff_ne.mpr c3
  obtain rfl := Option.some.inj H
  go_enter Try.func106, Try.ntmps106
  go_wp2_with (first | ((with_reducible refine qy (N := 2) rfl ?_); refine qx ?hg (N := 2) ?hd (cs := #[.int .i64 a0_0, .int .i64 a0_1, .bool a0_2]) (t := 38) ?hr ?_; (case hd => rfl); (case hg => rfl); (case hr => first | (go_simp; done) | (go_simp; rfl)); intro gb131 hg w21 hbox hb; have n0_ := qa.mk (qn (be0_ HB) hb); have n1_ := qa.mk (hbox); have n2_ := qa.mk ((by rw [hg]; exact (qm (be0_ HB)) : w.heap.size ≤ gb131)); have n3_ := qa.mk ((by rw [hg]; exact (qm (be0_ HB)) : w.heap.size ≤ gb131)); clear HB; have HB := n0_; have BK131 := n1_; have GW131 := n2_; have GE131 := n3_; clear n0_ n1_ n2_ n3_; clear hb hbox hg) | ((with_reducible refine qy (N := 3) rfl ?_); refine qx ?hg (N := 3) ?hd (cs := #[.int .i64 a1_0, .int .i64 a1_1, .bool a1_2]) (t := 38) ?hr ?_; (case hd => rfl); (case hg => rfl); (case hr => first | (go_simp; done) | (go_simp; rfl)); intro gb132 hg w22 hbox hb; have n0_ := qa.mk (qk (g := gb131) (o := .cells #[.int .i64 a0_0, .int .i64 a0_1, .bool a0_2] 38 (0, 0)) (bk_ BK131) hb); have n1_ := qa.mk (qn (be1_ HB GE131) hb); have n2_ := qa.mk (hbox); have n3_ := qa.mk ((by rw [hg]; exact (qm (be1_ HB GE131)) : w.heap.size ≤ gb132)); have n4_ := qa.mk ((by rw [hg]; exact (qm (be1_ HB GE131)) : w.heap.size ≤ gb132)); have n5_ := qa.mk ((by rw [hg]; exact Nat.ne_of_lt (qr (g := gb131) (o := .cells #[.int .i64 a0_0, .int .i64 a0_1, .bool a0_2] 38 (0, 0)) (bk_ BK131)) : gb131 ≠ gb132)); have n6_ := qa.mk ((by rw [hg]; exact Nat.ne_of_gt (qr (g := gb131) (o := .cells #[.int .i64 a0_0, .int .i64 a0_1, .bool a0_2] 38 (0, 0)) (bk_ BK131)) : gb132 ≠ gb131)); clear BK131; clear HB; have BK131 := n0_; have HB := n1_; have BK132 := n2_; have GW132 := n3_; have GE132 := n4_; have NB131_132 := n5_; have NB132_131 := n6_; clear n0_ n1_ n2_ n3_ n4_ n5_ n6_; clear hb hbox hg; have hnb23 := NB131_132.out; have hnc23 := NB132_131.out; have hcz24_0 : w22.cell? ⟨gb131, 0, none⟩ = some (.int .i64 a0_0) := (qg BK131.out 0).trans rfl; have hcz24_1 : w22.cell? ⟨gb131, 1, none⟩ = some (.int .i64 a0_1) := (qg BK131.out 1).trans rfl; have hcz24_2 : w22.cell? ⟨gb131, 2, none⟩ = some (.bool a0_2) := (qg BK131.out 2).trans rfl; have hfz24_0 := qj BK131.out 0; have hfz24_1 := qj BK131.out 1; have hfz24_2 := qj BK131.out 2; have hcz25_0 : w22.cell? ⟨gb132, 0, none⟩ = some (.int .i64 a1_0) := (qg BK132.out 0).trans rfl; have hcz25_1 : w22.cell? ⟨gb132, 1, none⟩ = some (.int .i64 a1_1) := (qg BK132.out 1).trans rfl; have hcz25_2 : w22.cell? ⟨gb132, 2, none⟩ = some (.bool a1_2) := (qg BK132.out 2).trans rfl; have hfz25_0 := qj BK132.out 0; have hfz25_1 := qj BK132.out 1; have hfz25_2 := qj BK132.out 2))
  go_ret
  exact ⟨by first | rfl | (simp [qu, qt] <;> rfl) | (simp [*, qu, qt] <;> rfl), be2_ HB GE131 GE132⟩
end Go.Proofs.Ytohpaddcfcgmbaa.PFnExactOpenBlock
