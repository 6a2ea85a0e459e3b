/- Cut by wip/cut.py out of the texts of this claim (printed by the kit's printer, or this session's own): what the row's theorem does not reach is struck. Not trusted: Lean checks it. -/
import Derived.Test.YtohpaddcfcgmbaaZFnExactOpenBlockPx0
import Derived.Test.YtohpaddcfcgmbaaZFnExactOpenBlockPx1
import Derived.Test.YtohpaddcfcgmbaaZFnExactOpenBlockPx4
namespace Go.Proofs.Ytohpaddcfcgmbaa.PFnExactOpenBlock
open Go.RowKit Go.Proofs.YtohpaddcfcgmbaaW.PrintWords Go.Proofs.YtohpaddcfcgmbaaW.PrintLast Go.Proofs.YtohpaddcfcgmbaaW.PrintMore
attribute [local go_sem] max2_int min2_int max_two min_two max_three min_three max_four min_four
set_option linter.unusedVariables false
set_option linter.unusedSimpArgs false
attribute [local go_sem high] eqA38
def spec_avShut.l0 : Nat → List (S38) → Int → Int → Int → Int → Bool → Option (Bool)
 | 0, _, _, _, _, _, _ => none
 | k + 1, x8, x9, x10, x143000, x143001, x143002 => if x10 < x9 then (if 0 ≤ x10 then (if x10 < (x8.length : Int) then (if (x143000 == ((ql x8 x10).f0) && (x143001 == ((ql x8 x10).f1) && (x143002 == ((ql x8 x10).f2)))) = true then (some true) else (spec_avShut.l0 k x8 x9 (wrap64 (x10 + 1)) x143000 x143001 x143002)) else (none)) else (none)) else (some false)
def spec_avShut.f (k : Nat) (a0_0 : Int) (a0_1 : Int) (l0_2 : List (S38)) (a1_0 : Int) (a1_1 : Int) (a1_2 : Bool) : Option (Bool) := spec_avShut.l0 k l0_2 (l0_2.length : Int) 0 a1_0 a1_1 a1_2
theorem spec_avShut.zq : ∀ k, (∀ y0 y1 y2 y3 y4 y5, LeO (spec_avShut.l0 k y0 y1 y2 y3 y4 y5) (spec_avShut.l0 (k + 1) y0 y1 y2 y3 y4 y5))
 | 0 => fun _ _ _ _ _ _ r h => by simp [spec_avShut.l0] at h
 | k + 1 => by
  have ih0 := spec_avShut.zq k
  ·intro y0 y1 y2 y3 y4 y5
   unfold spec_avShut.l0
   repeat' first
   | (with_reducible exact ih0 _ _ _ _ _ _)
   | (with_reducible exact LeO.refl _)
   | (with_reducible exact LeO.none _)
   | (with_reducible refine LeO.ite ?_ ?_)
   | (with_reducible refine LeO.bind ?_ (fun _ => ?_))
   | exact ih0 _ _ _ _ _ _
   | exact LeO.none _
   | refine LeO.ite ?_ ?_
   | refine LeO.bind ?_ (fun _ => ?_)
theorem spec_avShut.mono : ∀ a0 a1 a2 a3 a4 a5 k, LeO (spec_avShut.f k a0 a1 a2 a3 a4 a5) (spec_avShut.f (k + 1) a0 a1 a2 a3 a4 a5) := by
 intro a0 a1 a2 a3 a4 a5 k
 have ih0 := spec_avShut.zq k
 unfold spec_avShut.f
 repeat' first
   | (with_reducible exact ih0 _ _ _ _ _ _)
   | (with_reducible exact LeO.refl _)
   | (with_reducible exact LeO.none _)
   | (with_reducible refine LeO.ite ?_ ?_)
   | (with_reducible refine LeO.bind ?_ (fun _ => ?_))
   | exact ih0 _ _ _ _ _ _
   | exact LeO.none _
   | refine LeO.ite ?_ ?_
   | refine LeO.bind ?_ (fun _ => ?_)
set_option maxHeartbeats 8000000 in
set_option maxRecDepth 100000 in
theorem spec_avShut.calls (k : Nat) (a0_0 : Int) (a0_1 : Int) (A0_2 : Option Addr) (c0_2 : Nat) (l0_2 : List (S38)) (a1_0 : Int) (a1_1 : Int) (a1_2 : Bool) (r : Bool) (w : World) (hr0_2 : Kd.C k38 w A0_2 l0_2.length l0_2) (hc0_2 : l0_2.length ≤ c0_2) (h : spec_avShut.f k a0_0 a0_1 l0_2 a1_0 a1_1 a1_2 = some r) :
  Calls Try.prog 72 #[.agg #[.int .i64 a0_0, .int .i64 a0_1, .slice A0_2 l0_2.length c0_2], .agg #[.int .i64 a1_0, .int .i64 a1_1, .bool a1_2]] w fun e w' => e = .returned (.bool r) ∧ Below w.heap.size w w' := by
 have hu30 := Try.underlying30
 have hu38 := Try.underlying38
 have HR0_2 := qa.mk hr0_2
 have HC0_2 := qa.mk hc0_2
 clear hr0_2 hc0_2
 have HB := qa.mk (Below.refl w.heap.size w)
 have H : (spec_avShut.l0 k l0_2 (l0_2.length : Int) 0 a1_0 a1_1 a1_2) = some r := h
 clear h
 have H' := qa.mk H
 clear H
 go_enter Try.func72, Try.ntmps72
 go_wp2_with (first | ((with_reducible refine qy (N := 2) rfl ?_); refine qx ?hg (N := 2) ?hd (cs := #[.int .i64 a0_0, .int .i64 a0_1, .slice A0_2 l0_2.length c0_2]) (t := 30) ?hr ?_; (case hd => rfl); (case hg => rfl); (case hr => first | (go_simp; done) | (go_simp; rfl)); intro gb141 hg w3 hbox hb; have n0_ := qa.mk (qn (be0_ HB) hb); have n1_ := qa.mk (hbox); have n2_ := qa.mk ((by rw [hg]; exact (qm (be0_ HB)) : w.heap.size ≤ gb141)); have n3_ := qa.mk ((by rw [hg]; exact (qm (be0_ HB)) : w.heap.size ≤ gb141)); clear HB; have HB := n0_; have BK141 := n1_; have GW141 := n2_; have GE141 := n3_; clear n0_ n1_ n2_ n3_; clear hb hbox hg) | ((with_reducible refine qy (N := 3) rfl ?_); refine qx ?hg (N := 3) ?hd (cs := #[.int .i64 a1_0, .int .i64 a1_1, .bool a1_2]) (t := 38) ?hr ?_; (case hd => rfl); (case hg => rfl); (case hr => first | (go_simp; done) | (go_simp; rfl)); intro gb142 hg w4 hbox hb; have n0_ := qa.mk (qk (g := gb141) (o := .cells #[.int .i64 a0_0, .int .i64 a0_1, .slice A0_2 l0_2.length c0_2] 30 (0, 0)) (bk_ BK141) hb); have n1_ := qa.mk (qn (be1_ HB GE141) hb); have n2_ := qa.mk (hbox); have n3_ := qa.mk ((by rw [hg]; exact (qm (be1_ HB GE141)) : w.heap.size ≤ gb142)); have n4_ := qa.mk ((by rw [hg]; exact (qm (be1_ HB GE141)) : w.heap.size ≤ gb142)); have n5_ := qa.mk ((by rw [hg]; exact Nat.ne_of_lt (qr (g := gb141) (o := .cells #[.int .i64 a0_0, .int .i64 a0_1, .slice A0_2 l0_2.length c0_2] 30 (0, 0)) (bk_ BK141)) : gb141 ≠ gb142)); have n6_ := qa.mk ((by rw [hg]; exact Nat.ne_of_gt (qr (g := gb141) (o := .cells #[.int .i64 a0_0, .int .i64 a0_1, .slice A0_2 l0_2.length c0_2] 30 (0, 0)) (bk_ BK141)) : gb142 ≠ gb141)); clear BK141; clear HB; have BK141 := n0_; have HB := n1_; have BK142 := n2_; have GW142 := n3_; have GE142 := n4_; have NB141_142 := n5_; have NB142_141 := n6_; clear n0_ n1_ n2_ n3_ n4_ n5_ n6_; clear hb hbox hg; have hnb5 := NB141_142.out; have hnc5 := NB142_141.out; have hcz6_0 : w4.cell? ⟨gb141, 0, none⟩ = some (.int .i64 a0_0) := (qg BK141.out 0).trans rfl; have hcz6_1 : w4.cell? ⟨gb141, 1, none⟩ = some (.int .i64 a0_1) := (qg BK141.out 1).trans rfl; have hcz6_2 : w4.cell? ⟨gb141, 2, none⟩ = some (.slice A0_2 l0_2.length c0_2) := (qg BK141.out 2).trans rfl; have hfz6_0 := qj BK141.out 0; have hfz6_1 := qj BK141.out 1; have hfz6_2 := qj BK141.out 2))
 go_loopg [10] k (fun kq v10 w' => ∃ (x10_1 : Int), v10 = .int .i64 x10_1 ∧ qa (spec_avShut.l0 kq l0_2 (l0_2.length : Int) x10_1 a1_0 a1_1 a1_2 = some r) ∧ qa (kq ≤ k) ∧ qa (w'.heap[gb141]? = some (.cells #[.int .i64 a0_0, .int .i64 a0_1, (.slice A0_2 l0_2.length c0_2)] 30 (0, 0))) ∧ qa (w'.heap[gb142]? = some (.cells #[.int .i64 a1_0, .int .i64 a1_1, .bool a1_2] 38 (0, 0))) ∧ qa (Below w.heap.size w w'))
 case atStart => exact ⟨(0), (by first | rfl | (simp; done) | (simp [*]; done)), H', ⟨Nat.le_refl _⟩, ⟨bk_ BK141⟩, ⟨bk_ BK142⟩, ⟨be2_ HB GE141 GE142⟩⟩
 case round =>
  clear H'
  try clear hcz6_0
  try clear hcz6_1
  try clear hcz6_2
  try clear hfz6_0
  try clear hfz6_1
  try clear hfz6_2
  obtain ⟨x10_1, rfl, HA, HK1, BK141, BK142, HB⟩ := hrel
  cases gk with
  | zero => exact absurd HA.out (by simp [spec_avShut.l0])
  | succ k1 =>
   have H := HA.out
   clear HA
   simp only [spec_avShut.l0] at H
   by_cases c7 : x10_1 < (l0_2.length : Int)
   ·rw [if_pos c7] at H
    have c7b0 : decide (x10_1 < (l0_2.length : Int)) = true := decide_eq_true c7
    clear c7
    by_cases c8 : 0 ≤ x10_1
    ·rw [if_pos c8] at H
     have c8b0 : decide (0 ≤ x10_1) = true := decide_eq_true c8
     clear c8
     by_cases c9 : x10_1 < (l0_2.length : Int)
     ·rw [if_pos c9] at H
      have c9b0 : decide (x10_1 < (l0_2.length : Int)) = true := decide_eq_true c9
      clear c9
      by_cases c10 : (a1_0 == ((ql l0_2 x10_1).f0) && (a1_1 == ((ql l0_2 x10_1).f1) && (a1_2 == ((ql l0_2 x10_1).f2)))) = true
      ·rw [if_pos c10] at H
       have c10b0 : (a1_0 == ((ql l0_2 x10_1).f0) && (a1_1 == ((ql l0_2 x10_1).f1) && (a1_2 == ((ql l0_2 x10_1).f2)))) = true := c10
       (try (have c10b1 : decide (a1_0 = ((ql l0_2 x10_1).f0) && (a1_1 == ((ql l0_2 x10_1).f1) && (a1_2 == ((ql l0_2 x10_1).f2)))) = true := by simpa using c10))
       (try (have c10b2 : (a1_0 == ((ql l0_2 x10_1).f0) && (a1_1 == ((ql l0_2 x10_1).f1) && (a1_2 == ((ql l0_2 x10_1).f2)))) = true := by simpa using c10))
       clear c10
       obtain rfl := Option.some.inj H
       have p143 : 0 ≤ (x10_1 : Int) := of_decide_eq_true (by first | (with_reducible assumption) | assumption)
       have q143 : x10_1 < (l0_2.length : Int) := of_decide_eq_true (by first | (with_reducible assumption) | assumption)
       obtain ⟨ad143, e143, hx143_0, hx143_1, hx143_2⟩ := zu HR0_2.out x10_1 p143 q143
       cases e143
       replace hx143_0 := (HB.out.cell (World.block_lt_of_cell? w _ hx143_0)).trans hx143_0
       replace hx143_1 := (HB.out.cell (World.block_lt_of_cell? w _ hx143_1)).trans hx143_1
       replace hx143_2 := (HB.out.cell (World.block_lt_of_cell? w _ hx143_2)).trans hx143_2
       replace p143 := eq_true p143
       replace q143 := eq_true q143
       go_wp2_with (first | ((with_reducible refine qy (N := 6) rfl ?_); refine qx ?hg (N := 6) ?hd (cs := #[.int .i64 0, .int .i64 0, .bool false]) (t := 38) ?hr ?_; (case hd => rfl); (case hg => rfl); (case hr => first | (go_simp; done) | (go_simp; rfl)); intro gb144 hg w11 hbox hb; have n0_ := qa.mk (qk (g := gb141) (o := .cells #[.int .i64 a0_0, .int .i64 a0_1, .slice (some ad143) l0_2.length c0_2] 30 (0, 0)) (bk_ BK141) hb); have n1_ := qa.mk (qk (g := gb142) (o := .cells #[.int .i64 a1_0, .int .i64 a1_1, .bool a1_2] 38 (0, 0)) (bk_ BK142) hb); have n2_ := qa.mk (qn (be2_ HB GE141 GE142) hb); have n3_ := qa.mk (hbox); have n4_ := qa.mk ((by rw [hg]; exact (qm (be2_ HB GE141 GE142)) : w.heap.size ≤ gb144)); have n5_ := qa.mk ((by rw [hg]; exact (qm (be2_ HB GE141 GE142)) : w.heap.size ≤ gb144)); have n6_ := qa.mk ((by rw [hg]; exact Nat.ne_of_lt (qr (g := gb141) (o := .cells #[.int .i64 a0_0, .int .i64 a0_1, .slice (some ad143) l0_2.length c0_2] 30 (0, 0)) (bk_ BK141)) : gb141 ≠ gb144)); have n7_ := qa.mk ((by rw [hg]; exact Nat.ne_of_gt (qr (g := gb141) (o := .cells #[.int .i64 a0_0, .int .i64 a0_1, .slice (some ad143) l0_2.length c0_2] 30 (0, 0)) (bk_ BK141)) : gb144 ≠ gb141)); have n8_ := qa.mk ((by rw [hg]; exact Nat.ne_of_lt (qr (g := gb142) (o := .cells #[.int .i64 a1_0, .int .i64 a1_1, .bool a1_2] 38 (0, 0)) (bk_ BK142)) : gb142 ≠ gb144)); have n9_ := qa.mk ((by rw [hg]; exact Nat.ne_of_gt (qr (g := gb142) (o := .cells #[.int .i64 a1_0, .int .i64 a1_1, .bool a1_2] 38 (0, 0)) (bk_ BK142)) : gb144 ≠ gb142)); clear BK141; clear BK142; clear HB; have BK141 := n0_; have BK142 := n1_; have HB := n2_; have BK144 := n3_; have GW144 := n4_; have GE144 := n5_; have NB141_144 := n6_; have NB144_141 := n7_; have NB142_144 := n8_; have NB144_142 := n9_; clear n0_ n1_ n2_ n3_ n4_ n5_ n6_ n7_ n8_ n9_; clear hb hbox hg; have hnb12 := NB144_141.out; have hnc12 := NB141_144.out; have hnb13 := NB144_142.out; have hnc13 := NB142_144.out; have hcz14_0 : w11.cell? ⟨gb144, 0, none⟩ = some (.int .i64 0) := (qg BK144.out 0).trans rfl; have hcz14_1 : w11.cell? ⟨gb144, 1, none⟩ = some (.int .i64 0) := (qg BK144.out 1).trans rfl; have hcz14_2 : w11.cell? ⟨gb144, 2, none⟩ = some (.bool false) := (qg BK144.out 2).trans rfl; have hfz14_0 := qj BK144.out 0; have hfz14_1 := qj BK144.out 1; have hfz14_2 := qj BK144.out 2; have hnb15 := NB142_141.out; have hnc15 := NB141_142.out; have hcz16_0 : w11.cell? ⟨gb142, 0, none⟩ = some (.int .i64 a1_0) := (qg BK142.out 0).trans rfl; have hcz16_1 : w11.cell? ⟨gb142, 1, none⟩ = some (.int .i64 a1_1) := (qg BK142.out 1).trans rfl; have hcz16_2 : w11.cell? ⟨gb142, 2, none⟩ = some (.bool a1_2) := (qg BK142.out 2).trans rfl; have hfz16_0 := qj BK142.out 0; have hfz16_1 := qj BK142.out 1; have hfz16_2 := qj BK142.out 2))
       go_ret
       exact ⟨by first | rfl | (simp [qu, qt] <;> rfl) | (simp [*, qu, qt] <;> rfl), be3_ HB GE141 GE142 GE144⟩
      ·rw [if_neg c10] at H
       have c10b0 : (a1_0 == ((ql l0_2 x10_1).f0) && (a1_1 == ((ql l0_2 x10_1).f1) && (a1_2 == ((ql l0_2 x10_1).f2)))) = false := by simpa using c10
       (try (have c10b1 : decide (a1_0 = ((ql l0_2 x10_1).f0) && (a1_1 == ((ql l0_2 x10_1).f1) && (a1_2 == ((ql l0_2 x10_1).f2)))) = false := by simpa using c10))
       (try (have c10b2 : (a1_0 == ((ql l0_2 x10_1).f0) && (a1_1 == ((ql l0_2 x10_1).f1) && (a1_2 == ((ql l0_2 x10_1).f2)))) = false := by simpa using c10))
       (try (have c10b3 : ¬ (a1_0 = ((ql l0_2 x10_1).f0) && (a1_1 == ((ql l0_2 x10_1).f1) && (a1_2 == ((ql l0_2 x10_1).f2)))) := by simpa using c10))
       clear c10
       have H' := qa.mk H
       clear H
       have p143 : 0 ≤ (x10_1 : Int) := of_decide_eq_true (by first | (with_reducible assumption) | assumption)
       have q143 : x10_1 < (l0_2.length : Int) := of_decide_eq_true (by first | (with_reducible assumption) | assumption)
       obtain ⟨ad143, e143, hx143_0, hx143_1, hx143_2⟩ := zu HR0_2.out x10_1 p143 q143
       cases e143
       replace hx143_0 := (HB.out.cell (World.block_lt_of_cell? w _ hx143_0)).trans hx143_0
       replace hx143_1 := (HB.out.cell (World.block_lt_of_cell? w _ hx143_1)).trans hx143_1
       replace hx143_2 := (HB.out.cell (World.block_lt_of_cell? w _ hx143_2)).trans hx143_2
       replace p143 := eq_true p143
       replace q143 := eq_true q143
       go_wp2_with (first | ((with_reducible refine qy (N := 6) rfl ?_); refine qx ?hg (N := 6) ?hd (cs := #[.int .i64 0, .int .i64 0, .bool false]) (t := 38) ?hr ?_; (case hd => rfl); (case hg => rfl); (case hr => first | (go_simp; done) | (go_simp; rfl)); intro gb144 hg w17 hbox hb; have n0_ := qa.mk (qk (g := gb141) (o := .cells #[.int .i64 a0_0, .int .i64 a0_1, .slice (some ad143) l0_2.length c0_2] 30 (0, 0)) (bk_ BK141) hb); have n1_ := qa.mk (qk (g := gb142) (o := .cells #[.int .i64 a1_0, .int .i64 a1_1, .bool a1_2] 38 (0, 0)) (bk_ BK142) hb); have n2_ := qa.mk (qn (be2_ HB GE141 GE142) hb); have n3_ := qa.mk (hbox); have n4_ := qa.mk ((by rw [hg]; exact (qm (be2_ HB GE141 GE142)) : w.heap.size ≤ gb144)); have n5_ := qa.mk ((by rw [hg]; exact (qm (be2_ HB GE141 GE142)) : w.heap.size ≤ gb144)); have n6_ := qa.mk ((by rw [hg]; exact Nat.ne_of_lt (qr (g := gb141) (o := .cells #[.int .i64 a0_0, .int .i64 a0_1, .slice (some ad143) l0_2.length c0_2] 30 (0, 0)) (bk_ BK141)) : gb141 ≠ gb144)); have n7_ := qa.mk ((by rw [hg]; exact Nat.ne_of_gt (qr (g := gb141) (o := .cells #[.int .i64 a0_0, .int .i64 a0_1, .slice (some ad143) l0_2.length c0_2] 30 (0, 0)) (bk_ BK141)) : gb144 ≠ gb141)); have n8_ := qa.mk ((by rw [hg]; exact Nat.ne_of_lt (qr (g := gb142) (o := .cells #[.int .i64 a1_0, .int .i64 a1_1, .bool a1_2] 38 (0, 0)) (bk_ BK142)) : gb142 ≠ gb144)); have n9_ := qa.mk ((by rw [hg]; exact Nat.ne_of_gt (qr (g := gb142) (o := .cells #[.int .i64 a1_0, .int .i64 a1_1, .bool a1_2] 38 (0, 0)) (bk_ BK142)) : gb144 ≠ gb142)); clear BK141; clear BK142; clear HB; have BK141 := n0_; have BK142 := n1_; have HB := n2_; have BK144 := n3_; have GW144 := n4_; have GE144 := n5_; have NB141_144 := n6_; have NB144_141 := n7_; have NB142_144 := n8_; have NB144_142 := n9_; clear n0_ n1_ n2_ n3_ n4_ n5_ n6_ n7_ n8_ n9_; clear hb hbox hg; have hnb18 := NB144_141.out; have hnc18 := NB141_144.out; have hnb19 := NB144_142.out; have hnc19 := NB142_144.out; have hcz20_0 : w17.cell? ⟨gb144, 0, none⟩ = some (.int .i64 0) := (qg BK144.out 0).trans rfl; have hcz20_1 : w17.cell? ⟨gb144, 1, none⟩ = some (.int .i64 0) := (qg BK144.out 1).trans rfl; have hcz20_2 : w17.cell? ⟨gb144, 2, none⟩ = some (.bool false) := (qg BK144.out 2).trans rfl; have hfz20_0 := qj BK144.out 0; have hfz20_1 := qj BK144.out 1; have hfz20_2 := qj BK144.out 2; have hnb21 := NB142_141.out; have hnc21 := NB141_142.out; have hcz22_0 : w17.cell? ⟨gb142, 0, none⟩ = some (.int .i64 a1_0) := (qg BK142.out 0).trans rfl; have hcz22_1 : w17.cell? ⟨gb142, 1, none⟩ = some (.int .i64 a1_1) := (qg BK142.out 1).trans rfl; have hcz22_2 : w17.cell? ⟨gb142, 2, none⟩ = some (.bool a1_2) := (qg BK142.out 2).trans rfl; have hfz22_0 := qj BK142.out 0; have hfz22_1 := qj BK142.out 1; have hfz22_2 := qj BK142.out 2))
       go_roundg k1
       case measure => have := HK1.out; omega
       case rel => exact ⟨(wrap64 (x10_1 + 1)), (by first | rfl | (simp; done) | (simp [*]; done)), H', ⟨by have := HK1.out; omega⟩, ⟨by (with_reducible repeat (first | refine qd ?_ _ | refine qf ?_ | refine qc ?_ _)); refine qw ?_ NB141_144.out _; (with_reducible repeat (first | refine qd ?_ _ | refine qf ?_ | refine qc ?_ _)); refine qw ?_ NB141_144.out _; (with_reducible repeat (first | refine qd ?_ _ | refine qf ?_ | refine qc ?_ _)); refine qw ?_ NB141_144.out _; (with_reducible repeat (first | refine qd ?_ _ | refine qf ?_ | refine qc ?_ _)); exact BK141.out⟩, ⟨by (with_reducible repeat (first | refine qd ?_ _ | refine qf ?_ | refine qc ?_ _)); refine qw ?_ NB142_144.out _; (with_reducible repeat (first | refine qd ?_ _ | refine qf ?_ | refine qc ?_ _)); refine qw ?_ NB142_144.out _; (with_reducible repeat (first | refine qd ?_ _ | refine qf ?_ | refine qc ?_ _)); refine qw ?_ NB142_144.out _; (with_reducible repeat (first | refine qd ?_ _ | refine qf ?_ | refine qc ?_ _)); exact BK142.out⟩, ⟨be3_ HB GE141 GE142 GE144⟩⟩
     ·rw [if_neg c9] at H
      exact absurd H (by simp)
    ·rw [if_neg c8] at H
     exact absurd H (by simp)
   ·rw [if_neg c7] at H
    have c7b0 : decide (x10_1 < (l0_2.length : Int)) = false := decide_eq_false c7
    clear c7
    obtain rfl := Option.some.inj H
    go_wp2
    go_ret
    exact ⟨by first | rfl | (simp [qu, qt] <;> rfl) | (simp [*, qu, qt] <;> rfl), be2_ HB GE141 GE142⟩
def spec_avOpen.l0 : Nat → List (S38) → Int → Int → Int → Int → Bool → Int → Int → List (S38) → Option (Int × Int × (List (S38)))
 | 0, _, _, _, _, _, _, _, _, _ => none
 | k + 1, x14, x15, x16, x147000, x147001, x147002, x149000, x149001, x149002 => if x16 < x15 then (if 0 ≤ x16 then (if x16 < (x14.length : Int) then (if (!(((ql x14 x16).f0) == x147000) || (!(((ql x14 x16).f1) == x147001) || (!(((ql x14 x16).f2) == x147002)))) = true then (if x149002.length < 5864062014805 then (spec_avOpen.l0 k x14 x15 (wrap64 (x16 + 1)) x147000 x147001 x147002 x149000 x149001 (x149002 ++ [(⟨(ql x14 x16).f0, (ql x14 x16).f1, (ql x14 x16).f2⟩ : S38)])) else (none)) else (spec_avOpen.l0 k x14 x15 (wrap64 (x16 + 1)) x147000 x147001 x147002 x149000 x149001 x149002)) else (none)) else (none)) else (some (x149000, x149001, x149002))
def spec_avOpen.f (k : Nat) (a0_0 : Int) (a0_1 : Int) (l0_2 : List (S38)) (a1_0 : Int) (a1_1 : Int) (a1_2 : Bool) : Option (Int × Int × (List (S38))) := spec_avOpen.l0 k l0_2 (l0_2.length : Int) 0 a1_0 a1_1 a1_2 a0_0 a0_1 ([] : List (S38))
theorem spec_avOpen.zq : ∀ k, (∀ y0 y1 y2 y3 y4 y5 y6 y7 y8, LeO (spec_avOpen.l0 k y0 y1 y2 y3 y4 y5 y6 y7 y8) (spec_avOpen.l0 (k + 1) y0 y1 y2 y3 y4 y5 y6 y7 y8))
 | 0 => fun _ _ _ _ _ _ _ _ _ r h => by simp [spec_avOpen.l0] at h
 | k + 1 => by
  have ih0 := spec_avOpen.zq k
  ·intro y0 y1 y2 y3 y4 y5 y6 y7 y8
   unfold spec_avOpen.l0
   repeat' first
   | (with_reducible exact ih0 _ _ _ _ _ _ _ _ _)
   | (with_reducible exact LeO.refl _)
   | (with_reducible exact LeO.none _)
   | (with_reducible refine LeO.ite ?_ ?_)
   | (with_reducible refine LeO.bind ?_ (fun _ => ?_))
   | exact ih0 _ _ _ _ _ _ _ _ _
   | exact LeO.none _
   | refine LeO.ite ?_ ?_
   | refine LeO.bind ?_ (fun _ => ?_)
theorem spec_avOpen.mono : ∀ a0 a1 a2 a3 a4 a5 k, LeO (spec_avOpen.f k a0 a1 a2 a3 a4 a5) (spec_avOpen.f (k + 1) a0 a1 a2 a3 a4 a5) := by
 intro a0 a1 a2 a3 a4 a5 k
 have ih0 := spec_avOpen.zq k
 unfold spec_avOpen.f
 repeat' first
   | (with_reducible exact ih0 _ _ _ _ _ _ _ _ _)
   | (with_reducible exact LeO.refl _)
   | (with_reducible exact LeO.none _)
   | (with_reducible refine LeO.ite ?_ ?_)
   | (with_reducible refine LeO.bind ?_ (fun _ => ?_))
   | exact ih0 _ _ _ _ _ _ _ _ _
   | exact LeO.none _
   | refine LeO.ite ?_ ?_
   | refine LeO.bind ?_ (fun _ => ?_)
set_option maxHeartbeats 8000000 in
set_option maxRecDepth 100000 in
theorem spec_avOpen.calls (k : Nat) (a0_0 : Int) (a0_1 : Int) (A0_2 : Option Addr) (c0_2 : Nat) (l0_2 : List (S38)) (a1_0 : Int) (a1_1 : Int) (a1_2 : Bool) (r1 : Int) (r2 : Int) (r3 : List (S38)) (w : World) (hr0_2 : Kd.C k38 w A0_2 l0_2.length l0_2) (hc0_2 : l0_2.length ≤ c0_2) (h : spec_avOpen.f k a0_0 a0_1 l0_2 a1_0 a1_1 a1_2 = some (r1, r2, r3)) :
  Calls Try.prog 73 #[.agg #[.int .i64 a0_0, .int .i64 a0_1, .slice A0_2 l0_2.length c0_2], .agg #[.int .i64 a1_0, .int .i64 a1_1, .bool a1_2]] w fun e w' => ∃ v2_ : Value, e = .returned (.agg #[.int .i64 r1, .int .i64 r2, v2_]) ∧ Kd.R k38 38 w' w.heap.size (fun _ => True) v2_ r3 ∧ Below w.heap.size w w' := by
 have hu30 := Try.underlying30
 have hu38 := Try.underlying38
 have HR0_2 := qa.mk hr0_2
 have HC0_2 := qa.mk hc0_2
 clear hr0_2 hc0_2
 have HB := qa.mk (Below.refl w.heap.size w)
 have H : (spec_avOpen.l0 k l0_2 (l0_2.length : Int) 0 a1_0 a1_1 a1_2 a0_0 a0_1 ([] : List (S38))) = some (r1, r2, r3) := h
 clear h
 have H' := qa.mk H
 clear H
 go_enter Try.func73, Try.ntmps73
 go_wp2_with (first | ((with_reducible refine qy (N := 2) rfl ?_); refine qx ?hg (N := 2) ?hd (cs := #[.int .i64 a0_0, .int .i64 a0_1, .slice A0_2 l0_2.length c0_2]) (t := 30) ?hr ?_; (case hd => rfl); (case hg => rfl); (case hr => first | (go_simp; done) | (go_simp; rfl)); intro gb145 hg w3 hbox hb; have n0_ := qa.mk (qn (be0_ HB) hb); have n1_ := qa.mk (hbox); have n2_ := qa.mk ((by rw [hg]; exact (qm (be0_ HB)) : w.heap.size ≤ gb145)); have n3_ := qa.mk ((by rw [hg]; exact (qm (be0_ HB)) : w.heap.size ≤ gb145)); clear HB; have HB := n0_; have BK145 := n1_; have GW145 := n2_; have GE145 := n3_; clear n0_ n1_ n2_ n3_; clear hb hbox hg) | ((with_reducible refine qy (N := 3) rfl ?_); refine qx ?hg (N := 3) ?hd (cs := #[.int .i64 a1_0, .int .i64 a1_1, .bool a1_2]) (t := 38) ?hr ?_; (case hd => rfl); (case hg => rfl); (case hr => first | (go_simp; done) | (go_simp; rfl)); intro gb146 hg w4 hbox hb; have n0_ := qa.mk (qk (g := gb145) (o := .cells #[.int .i64 a0_0, .int .i64 a0_1, .slice A0_2 l0_2.length c0_2] 30 (0, 0)) (bk_ BK145) hb); have n1_ := qa.mk (qn (be1_ HB GE145) hb); have n2_ := qa.mk (hbox); have n3_ := qa.mk ((by rw [hg]; exact (qm (be1_ HB GE145)) : w.heap.size ≤ gb146)); have n4_ := qa.mk ((by rw [hg]; exact (qm (be1_ HB GE145)) : w.heap.size ≤ gb146)); have n5_ := qa.mk ((by rw [hg]; exact Nat.ne_of_lt (qr (g := gb145) (o := .cells #[.int .i64 a0_0, .int .i64 a0_1, .slice A0_2 l0_2.length c0_2] 30 (0, 0)) (bk_ BK145)) : gb145 ≠ gb146)); have n6_ := qa.mk ((by rw [hg]; exact Nat.ne_of_gt (qr (g := gb145) (o := .cells #[.int .i64 a0_0, .int .i64 a0_1, .slice A0_2 l0_2.length c0_2] 30 (0, 0)) (bk_ BK145)) : gb146 ≠ gb145)); clear BK145; clear HB; have BK145 := n0_; have HB := n1_; have BK146 := n2_; have GW146 := n3_; have GE146 := n4_; have NB145_146 := n5_; have NB146_145 := n6_; clear n0_ n1_ n2_ n3_ n4_ n5_ n6_; clear hb hbox hg) | ((with_reducible refine qy (N := 4) rfl ?_); refine qx ?hg (N := 4) ?hd (cs := #[.int .i64 0, .int .i64 0, .slice none 0 0]) (t := 30) ?hr ?_; (case hd => rfl); (case hg => rfl); (case hr => first | (go_simp; done) | (go_simp; rfl)); intro gb147 hg w5 hbox hb; have n0_ := qa.mk (qk (g := gb145) (o := .cells #[.int .i64 a0_0, .int .i64 a0_1, .slice A0_2 l0_2.length c0_2] 30 (0, 0)) (bk_ BK145) hb); have n1_ := qa.mk (qk (g := gb146) (o := .cells #[.int .i64 a1_0, .int .i64 a1_1, .bool a1_2] 38 (0, 0)) (bk_ BK146) hb); have n2_ := qa.mk (qn (be2_ HB GE145 GE146) hb); have n3_ := qa.mk (hbox); have n4_ := qa.mk ((by rw [hg]; exact (qm (be2_ HB GE145 GE146)) : w.heap.size ≤ gb147)); have n5_ := qa.mk ((by rw [hg]; exact (qm (be2_ HB GE145 GE146)) : w.heap.size ≤ gb147)); have n6_ := qa.mk ((by rw [hg]; exact Nat.ne_of_lt (qr (g := gb145) (o := .cells #[.int .i64 a0_0, .int .i64 a0_1, .slice A0_2 l0_2.length c0_2] 30 (0, 0)) (bk_ BK145)) : gb145 ≠ gb147)); have n7_ := qa.mk ((by rw [hg]; exact Nat.ne_of_gt (qr (g := gb145) (o := .cells #[.int .i64 a0_0, .int .i64 a0_1, .slice A0_2 l0_2.length c0_2] 30 (0, 0)) (bk_ BK145)) : gb147 ≠ gb145)); have n8_ := qa.mk ((by rw [hg]; exact Nat.ne_of_lt (qr (g := gb146) (o := .cells #[.int .i64 a1_0, .int .i64 a1_1, .bool a1_2] 38 (0, 0)) (bk_ BK146)) : gb146 ≠ gb147)); have n9_ := qa.mk ((by rw [hg]; exact Nat.ne_of_gt (qr (g := gb146) (o := .cells #[.int .i64 a1_0, .int .i64 a1_1, .bool a1_2] 38 (0, 0)) (bk_ BK146)) : gb147 ≠ gb146)); clear BK145; clear BK146; clear HB; have BK145 := n0_; have BK146 := n1_; have HB := n2_; have BK147 := n3_; have GW147 := n4_; have GE147 := n5_; have NB145_147 := n6_; have NB147_145 := n7_; have NB146_147 := n8_; have NB147_146 := n9_; clear n0_ n1_ n2_ n3_ n4_ n5_ n6_ n7_ n8_ n9_; clear hb hbox hg; have hnb6 := NB145_146.out; have hnc6 := NB146_145.out; have hnb7 := NB145_147.out; have hnc7 := NB147_145.out; have hcz8_0 : w5.cell? ⟨gb145, 0, none⟩ = some (.int .i64 a0_0) := (qg BK145.out 0).trans rfl; have hcz8_1 : w5.cell? ⟨gb145, 1, none⟩ = some (.int .i64 a0_1) := (qg BK145.out 1).trans rfl; have hcz8_2 : w5.cell? ⟨gb145, 2, none⟩ = some (.slice A0_2 l0_2.length c0_2) := (qg BK145.out 2).trans rfl; have hfz8_0 := qj BK145.out 0; have hfz8_1 := qj BK145.out 1; have hfz8_2 := qj BK145.out 2) | ((with_reducible refine qy (N := 5) rfl ?_); refine qx ?hg (N := 5) ?hd (cs := #[.int .i64 0, .int .i64 0, .slice none 0 0]) (t := 30) ?hr ?_; (case hd => rfl); (case hg => rfl); (case hr => first | (go_simp; done) | (go_simp; rfl)); intro gb148 hg w9 hbox hb; have n0_ := qa.mk (qk (g := gb145) (o := .cells #[.int .i64 a0_0, .int .i64 a0_1, .slice A0_2 l0_2.length c0_2] 30 (0, 0)) (bk_ BK145) hb); have n1_ := qa.mk (qk (g := gb146) (o := .cells #[.int .i64 a1_0, .int .i64 a1_1, .bool a1_2] 38 (0, 0)) (bk_ BK146) hb); have n2_ := qa.mk (qk (g := gb147) (o := .cells #[.int .i64 0, .int .i64 0, .slice none 0 0] 30 (0, 0)) (bk_ BK147) hb); have n3_ := qa.mk (qn (be3_ HB GE145 GE146 GE147) hb); have n4_ := qa.mk (hbox); have n5_ := qa.mk ((by rw [hg]; exact (qm (be3_ HB GE145 GE146 GE147)) : w.heap.size ≤ gb148)); have n6_ := qa.mk ((by rw [hg]; exact (qm (be3_ HB GE145 GE146 GE147)) : w.heap.size ≤ gb148)); have n7_ := qa.mk ((by rw [hg]; exact Nat.ne_of_lt (qr (g := gb145) (o := .cells #[.int .i64 a0_0, .int .i64 a0_1, .slice A0_2 l0_2.length c0_2] 30 (0, 0)) (bk_ BK145)) : gb145 ≠ gb148)); have n8_ := qa.mk ((by rw [hg]; exact Nat.ne_of_gt (qr (g := gb145) (o := .cells #[.int .i64 a0_0, .int .i64 a0_1, .slice A0_2 l0_2.length c0_2] 30 (0, 0)) (bk_ BK145)) : gb148 ≠ gb145)); have n9_ := qa.mk ((by rw [hg]; exact Nat.ne_of_lt (qr (g := gb146) (o := .cells #[.int .i64 a1_0, .int .i64 a1_1, .bool a1_2] 38 (0, 0)) (bk_ BK146)) : gb146 ≠ gb148)); have n10_ := qa.mk ((by rw [hg]; exact Nat.ne_of_gt (qr (g := gb146) (o := .cells #[.int .i64 a1_0, .int .i64 a1_1, .bool a1_2] 38 (0, 0)) (bk_ BK146)) : gb148 ≠ gb146)); have n11_ := qa.mk ((by rw [hg]; exact Nat.ne_of_lt (qr (g := gb147) (o := .cells #[.int .i64 0, .int .i64 0, .slice none 0 0] 30 (0, 0)) (bk_ BK147)) : gb147 ≠ gb148)); have n12_ := qa.mk ((by rw [hg]; exact Nat.ne_of_gt (qr (g := gb147) (o := .cells #[.int .i64 0, .int .i64 0, .slice none 0 0] 30 (0, 0)) (bk_ BK147)) : gb148 ≠ gb147)); clear BK145; clear BK146; clear BK147; clear HB; have BK145 := n0_; have BK146 := n1_; have BK147 := n2_; have HB := n3_; have BK148 := n4_; have GW148 := n5_; have GE148 := n6_; have NB145_148 := n7_; have NB148_145 := n8_; have NB146_148 := n9_; have NB148_146 := n10_; have NB147_148 := n11_; have NB148_147 := n12_; clear n0_ n1_ n2_ n3_ n4_ n5_ n6_ n7_ n8_ n9_ n10_ n11_ n12_; clear hb hbox hg; have hnb10 := NB148_145.out; have hnc10 := NB145_148.out; have hnb11 := NB148_146.out; have hnc11 := NB146_148.out; have hnb12 := NB148_147.out; have hnc12 := NB147_148.out; have hcz13_0 : w9.cell? ⟨gb148, 0, none⟩ = some (.int .i64 0) := (qg BK148.out 0).trans rfl; have hcz13_1 : w9.cell? ⟨gb148, 1, none⟩ = some (.int .i64 0) := (qg BK148.out 1).trans rfl; have hcz13_2 : w9.cell? ⟨gb148, 2, none⟩ = some (.slice none 0 0) := (qg BK148.out 2).trans rfl; have hfz13_0 := qj BK148.out 0; have hfz13_1 := qj BK148.out 1; have hfz13_2 := qj BK148.out 2; have hcz14_0 : w9.cell? ⟨gb145, 0, none⟩ = some (.int .i64 a0_0) := (qg BK145.out 0).trans rfl; have hcz14_1 : w9.cell? ⟨gb145, 1, none⟩ = some (.int .i64 a0_1) := (qg BK145.out 1).trans rfl; have hcz14_2 : w9.cell? ⟨gb145, 2, none⟩ = some (.slice A0_2 l0_2.length c0_2) := (qg BK145.out 2).trans rfl; have hfz14_0 := qj BK145.out 0; have hfz14_1 := qj BK145.out 1; have hfz14_2 := qj BK145.out 2))
 go_loopg [16] k (fun kq v16 w' => ∃ (x16_1 : Int) (x149002_1 : List (S38)) (u149002 : Value), v16 = .int .i64 x16_1 ∧ qa (spec_avOpen.l0 kq l0_2 (l0_2.length : Int) x16_1 a1_0 a1_1 a1_2 a0_0 a0_1 x149002_1 = some (r1, r2, r3)) ∧ qa (kq ≤ k) ∧ qa (Kd.R k38 38 w' w.heap.size (fun k_ => k_ ≠ gb146) u149002 x149002_1) ∧ qa (w'.heap[gb145]? = some (.cells #[.int .i64 a0_0, .int .i64 a0_1, (.slice A0_2 l0_2.length c0_2)] 30 (0, 0))) ∧ qa (w'.heap[gb146]? = some (.cells #[.int .i64 a1_0, .int .i64 a1_1, .bool a1_2] 38 (0, 0))) ∧ qa (w'.heap[gb147]? = some (.cells #[.int .i64 0, .int .i64 0, (.slice none 0 0)] 30 (0, 0))) ∧ qa (w'.heap[gb148]? = some (.cells #[.int .i64 a0_0, .int .i64 a0_1, u149002] 30 (0, 0))) ∧ qa (Below w.heap.size w w'))
 case atStart => exact ⟨(0), (([] : List (S38))), (.slice none 0 0), (by first | rfl | (simp; done) | (simp [*]; done)), H', ⟨Nat.le_refl _⟩, ⟨by first | exact Kd.R_nil _ _ _ _ _ | exact Kd.N_nil _ _ _ _ _ | exact Kd.V_nil _ _ _ _ _ | exact Kd.Q_nil _ _ _ _ _ | exact Kd.S_nil _ _ _ _ _⟩, ⟨by (with_reducible repeat (first | refine qd ?_ _ | refine qf ?_ | refine qc ?_ _)); refine qw ?_ NB145_148.out _; (with_reducible repeat (first | refine qd ?_ _ | refine qf ?_ | refine qc ?_ _)); refine qw ?_ NB145_148.out _; (with_reducible repeat (first | refine qd ?_ _ | refine qf ?_ | refine qc ?_ _)); refine qw ?_ NB145_148.out _; (with_reducible repeat (first | refine qd ?_ _ | refine qf ?_ | refine qc ?_ _)); exact BK145.out⟩, ⟨by (with_reducible repeat (first | refine qd ?_ _ | refine qf ?_ | refine qc ?_ _)); refine qw ?_ NB146_148.out _; (with_reducible repeat (first | refine qd ?_ _ | refine qf ?_ | refine qc ?_ _)); refine qw ?_ NB146_148.out _; (with_reducible repeat (first | refine qd ?_ _ | refine qf ?_ | refine qc ?_ _)); refine qw ?_ NB146_148.out _; (with_reducible repeat (first | refine qd ?_ _ | refine qf ?_ | refine qc ?_ _)); exact BK146.out⟩, ⟨by (with_reducible repeat (first | refine qd ?_ _ | refine qf ?_ | refine qc ?_ _)); refine qw ?_ NB147_148.out _; (with_reducible repeat (first | refine qd ?_ _ | refine qf ?_ | refine qc ?_ _)); refine qw ?_ NB147_148.out _; (with_reducible repeat (first | refine qd ?_ _ | refine qf ?_ | refine qc ?_ _)); refine qw ?_ NB147_148.out _; (with_reducible repeat (first | refine qd ?_ _ | refine qf ?_ | refine qc ?_ _)); exact BK147.out⟩, ⟨by (with_reducible repeat (first | refine qd ?_ _ | refine qf ?_ | refine qc ?_ _)); refine zd (cs := #[.int .i64 a0_0, .int .i64 a0_1, .slice none 0 0]) ?_ 2 _ rfl; (with_reducible repeat (first | refine qd ?_ _ | refine qf ?_ | refine qc ?_ _)); refine zd (cs := #[.int .i64 a0_0, .int .i64 0, .slice none 0 0]) ?_ 1 _ rfl; (with_reducible repeat (first | refine qd ?_ _ | refine qf ?_ | refine qc ?_ _)); refine zd (cs := #[.int .i64 0, .int .i64 0, .slice none 0 0]) ?_ 0 _ rfl; (with_reducible repeat (first | refine qd ?_ _ | refine qf ?_ | refine qc ?_ _)); exact BK148.out⟩, ⟨be4_ HB GE145 GE146 GE147 GE148⟩⟩
 case round =>
  clear H'
  try clear hcz13_0
  try clear hcz13_1
  try clear hcz13_2
  try clear hcz14_0
  try clear hcz14_1
  try clear hcz14_2
  try clear hcz8_0
  try clear hcz8_1
  try clear hcz8_2
  try clear hfz13_0
  try clear hfz13_1
  try clear hfz13_2
  try clear hfz14_0
  try clear hfz14_1
  try clear hfz14_2
  try clear hfz8_0
  try clear hfz8_1
  try clear hfz8_2
  obtain ⟨x16_1, x149002_1, u149002, rfl, HA, HK1, HO_149002, BK145, BK146, BK147, BK148, HB⟩ := hrel
  cases gk with
  | zero => exact absurd HA.out (by simp [spec_avOpen.l0])
  | succ k1 =>
   have H := HA.out
   clear HA
   simp only [spec_avOpen.l0] at H
   by_cases c15 : x16_1 < (l0_2.length : Int)
   ·rw [if_pos c15] at H
    have c15b0 : decide (x16_1 < (l0_2.length : Int)) = true := decide_eq_true c15
    clear c15
    by_cases c16 : 0 ≤ x16_1
    ·rw [if_pos c16] at H
     have c16b0 : decide (0 ≤ x16_1) = true := decide_eq_true c16
     clear c16
     by_cases c17 : x16_1 < (l0_2.length : Int)
     ·rw [if_pos c17] at H
      have c17b0 : decide (x16_1 < (l0_2.length : Int)) = true := decide_eq_true c17
      clear c17
      by_cases c18 : (!(((ql l0_2 x16_1).f0) == a1_0) || (!(((ql l0_2 x16_1).f1) == a1_1) || (!(((ql l0_2 x16_1).f2) == a1_2)))) = true
      ·rw [if_pos c18] at H
       have c18b0 : (!(((ql l0_2 x16_1).f0) == a1_0) || (!(((ql l0_2 x16_1).f1) == a1_1) || (!(((ql l0_2 x16_1).f2) == a1_2)))) = true := c18
       clear c18
       by_cases c19 : x149002_1.length < 5864062014805
       ·rw [if_pos c19] at H
        have LMc19 := qa.mk c19
        clear c19
        obtain ⟨y151, hy151⟩ : ∃ y_ : List (S38), y_ = (x149002_1 ++ [(⟨(ql l0_2 x16_1).f0, (ql l0_2 x16_1).f1, (ql l0_2 x16_1).f2⟩ : S38)]) := ⟨_, rfl⟩
        replace H : (spec_avOpen.l0 k1 l0_2 (l0_2.length : Int) (wrap64 (x16_1 + 1)) a1_0 a1_1 a1_2 a0_0 a0_1 y151) = some (r1, r2, r3) := by first | (rw [hy151]; with_reducible exact H) | (have H2_ := (Option.bind_some _ _).symm.trans H; rw [hy151]; with_reducible exact H2_) | (have H2_ := (Option.bind_some _ _).symm.trans H; with_reducible exact H2_) | with_reducible exact H | (rw [hy151]; exact H) | exact H
        have Ny151 := qa.mk hy151
        clear hy151
        have H' := qa.mk H
        clear H
        have p149 : 0 ≤ (x16_1 : Int) := of_decide_eq_true (by first | (with_reducible assumption) | assumption)
        have q149 : x16_1 < (l0_2.length : Int) := of_decide_eq_true (by first | (with_reducible assumption) | assumption)
        obtain ⟨ad149, e149, hx149_0, hx149_1, hx149_2⟩ := zu HR0_2.out x16_1 p149 q149
        cases e149
        replace hx149_0 := (HB.out.cell (World.block_lt_of_cell? w _ hx149_0)).trans hx149_0
        replace hx149_1 := (HB.out.cell (World.block_lt_of_cell? w _ hx149_1)).trans hx149_1
        replace hx149_2 := (HB.out.cell (World.block_lt_of_cell? w _ hx149_2)).trans hx149_2
        replace p149 := eq_true p149
        replace q149 := eq_true q149
        go_wp2_with (first | ((with_reducible refine qy (N := 7) rfl ?_); refine qx ?hg (N := 7) ?hd (cs := #[.int .i64 0, .int .i64 0, .bool false]) (t := 38) ?hr ?_; (case hd => rfl); (case hg => rfl); (case hr => first | (go_simp; done) | (go_simp; rfl)); intro gb150 hg w20 hbox hb; have n0_ := qa.mk (Kd.qz (Kd.R_elderB (kr_ HO_149002) gb150 (Nat.le_of_eq hg.symm)) hb); have n1_ := qa.mk (qk (g := gb145) (o := .cells #[.int .i64 a0_0, .int .i64 a0_1, .slice (some ad149) l0_2.length c0_2] 30 (0, 0)) (bk_ BK145) hb); have n2_ := qa.mk (qk (g := gb146) (o := .cells #[.int .i64 a1_0, .int .i64 a1_1, .bool a1_2] 38 (0, 0)) (bk_ BK146) hb); have n3_ := qa.mk (qk (g := gb147) (o := .cells #[.int .i64 0, .int .i64 0, .slice none 0 0] 30 (0, 0)) (bk_ BK147) hb); have n4_ := qa.mk (qk (g := gb148) (o := .cells #[.int .i64 a0_0, .int .i64 a0_1, u149002] 30 (0, 0)) (bk_ BK148) hb); have n5_ := qa.mk (qn (be4_ HB GE145 GE146 GE147 GE148) hb); have n6_ := qa.mk (hbox); have n7_ := qa.mk ((by rw [hg]; exact (qm (be4_ HB GE145 GE146 GE147 GE148)) : w.heap.size ≤ gb150)); have n8_ := qa.mk ((by rw [hg]; exact (qm (be4_ HB GE145 GE146 GE147 GE148)) : w.heap.size ≤ gb150)); have n9_ := qa.mk ((by rw [hg]; exact Nat.ne_of_lt (qr (g := gb145) (o := .cells #[.int .i64 a0_0, .int .i64 a0_1, .slice (some ad149) l0_2.length c0_2] 30 (0, 0)) (bk_ BK145)) : gb145 ≠ gb150)); have n10_ := qa.mk ((by rw [hg]; exact Nat.ne_of_gt (qr (g := gb145) (o := .cells #[.int .i64 a0_0, .int .i64 a0_1, .slice (some ad149) l0_2.length c0_2] 30 (0, 0)) (bk_ BK145)) : gb150 ≠ gb145)); have n11_ := qa.mk ((by rw [hg]; exact Nat.ne_of_lt (qr (g := gb146) (o := .cells #[.int .i64 a1_0, .int .i64 a1_1, .bool a1_2] 38 (0, 0)) (bk_ BK146)) : gb146 ≠ gb150)); have n12_ := qa.mk ((by rw [hg]; exact Nat.ne_of_gt (qr (g := gb146) (o := .cells #[.int .i64 a1_0, .int .i64 a1_1, .bool a1_2] 38 (0, 0)) (bk_ BK146)) : gb150 ≠ gb146)); have n13_ := qa.mk ((by rw [hg]; exact Nat.ne_of_lt (qr (g := gb147) (o := .cells #[.int .i64 0, .int .i64 0, .slice none 0 0] 30 (0, 0)) (bk_ BK147)) : gb147 ≠ gb150)); have n14_ := qa.mk ((by rw [hg]; exact Nat.ne_of_gt (qr (g := gb147) (o := .cells #[.int .i64 0, .int .i64 0, .slice none 0 0] 30 (0, 0)) (bk_ BK147)) : gb150 ≠ gb147)); have n15_ := qa.mk ((by rw [hg]; exact Nat.ne_of_lt (qr (g := gb148) (o := .cells #[.int .i64 a0_0, .int .i64 a0_1, u149002] 30 (0, 0)) (bk_ BK148)) : gb148 ≠ gb150)); have n16_ := qa.mk ((by rw [hg]; exact Nat.ne_of_gt (qr (g := gb148) (o := .cells #[.int .i64 a0_0, .int .i64 a0_1, u149002] 30 (0, 0)) (bk_ BK148)) : gb150 ≠ gb148)); clear HO_149002; clear BK145; clear BK146; clear BK147; clear BK148; clear HB; have HO_149002 := n0_; have BK145 := n1_; have BK146 := n2_; have BK147 := n3_; have BK148 := n4_; have HB := n5_; have BK150 := n6_; have GW150 := n7_; have GE150 := n8_; have NB145_150 := n9_; have NB150_145 := n10_; have NB146_150 := n11_; have NB150_146 := n12_; have NB147_150 := n13_; have NB150_147 := n14_; have NB148_150 := n15_; have NB150_148 := n16_; clear n0_ n1_ n2_ n3_ n4_ n5_ n6_ n7_ n8_ n9_ n10_ n11_ n12_ n13_ n14_ n15_ n16_; clear hb hbox hg; have hnb21 := NB150_145.out; have hnc21 := NB145_150.out; have hnb22 := NB150_146.out; have hnc22 := NB146_150.out; have hnb23 := NB150_147.out; have hnc23 := NB147_150.out; have hnb24 := NB150_148.out; have hnc24 := NB148_150.out; have hcz25_0 : w20.cell? ⟨gb150, 0, none⟩ = some (.int .i64 0) := (qg BK150.out 0).trans rfl; have hcz25_1 : w20.cell? ⟨gb150, 1, none⟩ = some (.int .i64 0) := (qg BK150.out 1).trans rfl; have hcz25_2 : w20.cell? ⟨gb150, 2, none⟩ = some (.bool false) := (qg BK150.out 2).trans rfl; have hfz25_0 := qj BK150.out 0; have hfz25_1 := qj BK150.out 1; have hfz25_2 := qj BK150.out 2; have hnb26 := NB146_145.out; have hnc26 := NB145_146.out; have hnb27 := NB146_147.out; have hnc27 := NB147_146.out; have hnb28 := NB146_148.out; have hnc28 := NB148_146.out; have hcz29_0 : w20.cell? ⟨gb146, 0, none⟩ = some (.int .i64 a1_0) := (qg BK146.out 0).trans rfl; have hcz29_1 : w20.cell? ⟨gb146, 1, none⟩ = some (.int .i64 a1_1) := (qg BK146.out 1).trans rfl; have hcz29_2 : w20.cell? ⟨gb146, 2, none⟩ = some (.bool a1_2) := (qg BK146.out 2).trans rfl; have hfz29_0 := qj BK146.out 0; have hfz29_1 := qj BK146.out 1; have hfz29_2 := qj BK146.out 2; have hnb30 := NB148_145.out; have hnc30 := NB145_148.out; have hnb31 := NB148_147.out; have hnc31 := NB147_148.out; have hcz32_0 : w20.cell? ⟨gb148, 0, none⟩ = some (.int .i64 a0_0) := (qg BK148.out 0).trans rfl; have hcz32_1 : w20.cell? ⟨gb148, 1, none⟩ = some (.int .i64 a0_1) := (qg BK148.out 1).trans rfl; have hcz32_2 : w20.cell? ⟨gb148, 2, none⟩ = some (u149002) := (qg BK148.out 2).trans rfl; have hfz32_0 := qj BK148.out 0; have hfz32_1 := qj BK148.out 1; have hfz32_2 := qj BK148.out 2) | ((with_reducible refine gate_builtin (b := .append) (xs := #[.tmp 24, .tmp 26]) rfl ?_); at_builtin; refine Kd.R_append k38 (w0 := w) w.heap.size rfl (.tmp 24) (.tmp 26) 28 38 (.agg #[(.int .i64 0), (.int .i64 0), (.bool false)]) 24 rfl Try.underlying28 info38 rfl (by decide) (by omega) u149002 x149002_1 (⟨(ql l0_2 x16_1).f0, (ql l0_2 x16_1).f1, (ql l0_2 x16_1).f2⟩ : S38) [.int .i64 ((ql l0_2 x16_1).f0), .int .i64 ((ql l0_2 x16_1).f1), .bool ((ql l0_2 x16_1).f2)] (fun k_ => k_ ≠ gb146 ∧ k_ ≠ gb150) (fun _ => False) rfl (by first | (go_simp; done) | (go_simp; rfl)) ?aP (fun _ hk => hk.elim) ?aF ?aO ?aB ?aS ?aL ?_; (case aP => exact k38_mkM _ _ _ (⟨(ql l0_2 x16_1).f0, (ql l0_2 x16_1).f1, (ql l0_2 x16_1).f2⟩ : S38)); (case aB => exact (be5_ HB GE145 GE146 GE147 GE148 GE150)); (case aF => exact (fun k_ hk => ⟨Kd.freshB (g := gb146) (o := .cells #[.int .i64 a1_0, .int .i64 a1_1, .bool a1_2] 38 (0, 0)) (by (with_reducible repeat (first | refine qd ?_ _ | refine qf ?_ | refine qc ?_ _)); refine qw ?_ NB146_150.out _; (with_reducible repeat (first | refine qd ?_ _ | refine qf ?_ | refine qc ?_ _)); refine qw ?_ NB146_150.out _; (with_reducible repeat (first | refine qd ?_ _ | refine qf ?_ | refine qc ?_ _)); refine qw ?_ NB146_150.out _; (with_reducible repeat (first | refine qd ?_ _ | refine qf ?_ | refine qc ?_ _)); exact BK146.out) k_ hk, Kd.freshB (g := gb150) (o := .cells #[.int .i64 ((ql l0_2 x16_1).f0), .int .i64 ((ql l0_2 x16_1).f1), .bool ((ql l0_2 x16_1).f2)] 38 (0, 0)) (by (with_reducible repeat (first | refine qd ?_ _ | refine qf ?_ | refine qc ?_ _)); refine zd (cs := #[.int .i64 ((ql l0_2 x16_1).f0), .int .i64 ((ql l0_2 x16_1).f1), .bool false]) ?_ 2 _ rfl; (with_reducible repeat (first | refine qd ?_ _ | refine qf ?_ | refine qc ?_ _)); refine zd (cs := #[.int .i64 ((ql l0_2 x16_1).f0), .int .i64 0, .bool false]) ?_ 1 _ rfl; (with_reducible repeat (first | refine qd ?_ _ | refine qf ?_ | refine qc ?_ _)); refine zd (cs := #[.int .i64 0, .int .i64 0, .bool false]) ?_ 0 _ rfl; (with_reducible repeat (first | refine qd ?_ _ | refine qf ?_ | refine qc ?_ _)); exact BK150.out) k_ hk⟩)); (case aO => exact (by (with_reducible repeat (first | apply Kd.qo | apply Kd.qp | apply Kd.qq)); exact Kd.zc (Kd.R_far (p := ⟨gb150, 2, none⟩) (Kd.R_far (p := ⟨gb150, 1, none⟩) (Kd.R_far (p := ⟨gb150, 0, none⟩) (Kd.zc HO_149002.out (fun k_ hk => (⟨hk, hk.2⟩ : _ ∧ k_ ≠ gb150))) (fun _ hk => hk.2) (.int .i64 ((ql l0_2 x16_1).f0))) (fun _ hk => hk.2) (.int .i64 ((ql l0_2 x16_1).f1))) (fun _ hk => hk.2) (.bool ((ql l0_2 x16_1).f2))) (fun _ hk => ⟨hk.1.1, hk.1.2⟩))); (case aS => exact (qm (be5_ HB GE145 GE146 GE147 GE148 GE150))); (case aL => have := LMc19.out; omega); intro v152 w33 ho hb hg hat; rw [← Ny151.out] at ho; have n0_ := qa.mk (blk_grown (g := gb145) (o := .cells #[.int .i64 a0_0, .int .i64 a0_1, .slice (some ad149) l0_2.length c0_2] 30 (0, 0)) (by (with_reducible repeat (first | refine qd ?_ _ | refine qf ?_ | refine qc ?_ _)); refine qw ?_ NB145_150.out _; (with_reducible repeat (first | refine qd ?_ _ | refine qf ?_ | refine qc ?_ _)); refine qw ?_ NB145_150.out _; (with_reducible repeat (first | refine qd ?_ _ | refine qf ?_ | refine qc ?_ _)); refine qw ?_ NB145_150.out _; (with_reducible repeat (first | refine qd ?_ _ | refine qf ?_ | refine qc ?_ _)); exact BK145.out) hg (Kd.R_ne HO_149002.out BK145.out (by decide))); have n1_ := qa.mk (blk_grown (g := gb146) (o := .cells #[.int .i64 a1_0, .int .i64 a1_1, .bool a1_2] 38 (0, 0)) (by (with_reducible repeat (first | refine qd ?_ _ | refine qf ?_ | refine qc ?_ _)); refine qw ?_ NB146_150.out _; (with_reducible repeat (first | refine qd ?_ _ | refine qf ?_ | refine qc ?_ _)); refine qw ?_ NB146_150.out _; (with_reducible repeat (first | refine qd ?_ _ | refine qf ?_ | refine qc ?_ _)); refine qw ?_ NB146_150.out _; (with_reducible repeat (first | refine qd ?_ _ | refine qf ?_ | refine qc ?_ _)); exact BK146.out) hg (Kd.R_away HO_149002.out (fun _ hk => hk.1))); have n2_ := qa.mk (blk_grown (g := gb147) (o := .cells #[.int .i64 0, .int .i64 0, .slice none 0 0] 30 (0, 0)) (by (with_reducible repeat (first | refine qd ?_ _ | refine qf ?_ | refine qc ?_ _)); refine qw ?_ NB147_150.out _; (with_reducible repeat (first | refine qd ?_ _ | refine qf ?_ | refine qc ?_ _)); refine qw ?_ NB147_150.out _; (with_reducible repeat (first | refine qd ?_ _ | refine qf ?_ | refine qc ?_ _)); refine qw ?_ NB147_150.out _; (with_reducible repeat (first | refine qd ?_ _ | refine qf ?_ | refine qc ?_ _)); exact BK147.out) hg (Kd.R_ne HO_149002.out BK147.out (by decide))); have n3_ := qa.mk (blk_grown (g := gb148) (o := .cells #[.int .i64 a0_0, .int .i64 a0_1, u149002] 30 (0, 0)) (by (with_reducible repeat (first | refine qd ?_ _ | refine qf ?_ | refine qc ?_ _)); refine qw ?_ NB148_150.out _; (with_reducible repeat (first | refine qd ?_ _ | refine qf ?_ | refine qc ?_ _)); refine qw ?_ NB148_150.out _; (with_reducible repeat (first | refine qd ?_ _ | refine qf ?_ | refine qc ?_ _)); refine qw ?_ NB148_150.out _; (with_reducible repeat (first | refine qd ?_ _ | refine qf ?_ | refine qc ?_ _)); exact BK148.out) hg (Kd.R_ne HO_149002.out BK148.out (by decide))); have n4_ := qa.mk (blk_grown (g := gb150) (o := .cells #[.int .i64 ((ql l0_2 x16_1).f0), .int .i64 ((ql l0_2 x16_1).f1), .bool ((ql l0_2 x16_1).f2)] 38 (0, 0)) (by (with_reducible repeat (first | refine qd ?_ _ | refine qf ?_ | refine qc ?_ _)); refine zd (cs := #[.int .i64 ((ql l0_2 x16_1).f0), .int .i64 ((ql l0_2 x16_1).f1), .bool false]) ?_ 2 _ rfl; (with_reducible repeat (first | refine qd ?_ _ | refine qf ?_ | refine qc ?_ _)); refine zd (cs := #[.int .i64 ((ql l0_2 x16_1).f0), .int .i64 0, .bool false]) ?_ 1 _ rfl; (with_reducible repeat (first | refine qd ?_ _ | refine qf ?_ | refine qc ?_ _)); refine zd (cs := #[.int .i64 0, .int .i64 0, .bool false]) ?_ 0 _ rfl; (with_reducible repeat (first | refine qd ?_ _ | refine qf ?_ | refine qc ?_ _)); exact BK150.out) hg (Kd.R_away HO_149002.out (fun _ hk => hk.2))); have n5_ := qa.mk (hb); have n6_ := qa.mk (ho); clear BK145; clear BK146; clear BK147; clear BK148; clear BK150; clear HB; clear HO_149002; have BK145 := n0_; have BK146 := n1_; have BK147 := n2_; have BK148 := n3_; have BK150 := n4_; have HB := n5_; have HO153 := n6_; clear n0_ n1_ n2_ n3_ n4_ n5_ n6_; clear ho hb hg hat; obtain ⟨Ao34, co34, eo34⟩ := Kd.zr HO153.out; subst eo34; have hcz35_0 : w33.cell? ⟨gb148, 0, none⟩ = some (.int .i64 a0_0) := (qg BK148.out 0).trans rfl; have hcz35_1 : w33.cell? ⟨gb148, 1, none⟩ = some (.int .i64 a0_1) := (qg BK148.out 1).trans rfl; have hcz35_2 : w33.cell? ⟨gb148, 2, none⟩ = some (u149002) := (qg BK148.out 2).trans rfl; have hfz35_0 := qj BK148.out 0; have hfz35_1 := qj BK148.out 1; have hfz35_2 := qj BK148.out 2))
        go_roundg k1
        case measure => have := HK1.out; omega
        case rel => exact ⟨(wrap64 (x16_1 + 1)), (y151), (.slice Ao34 y151.length co34), (by first | rfl | (simp; done) | (simp [*]; done)), H', ⟨by have := HK1.out; omega⟩, ⟨by (with_reducible repeat (first | apply Kd.qo | apply Kd.qp | apply Kd.qq)); exact Kd.zc (Kd.R_far (p := ⟨gb148, 2, none⟩) (Kd.zl HO153.out BK148.out (by decide)) (fun _ hk => hk.2) (.slice Ao34 y151.length co34)) (fun _ hk => hk.1.1)⟩, ⟨by (with_reducible repeat (first | refine qd ?_ _ | refine qf ?_ | refine qc ?_ _)); refine qw ?_ NB145_148.out _; (with_reducible repeat (first | refine qd ?_ _ | refine qf ?_ | refine qc ?_ _)); exact BK145.out⟩, ⟨by (with_reducible repeat (first | refine qd ?_ _ | refine qf ?_ | refine qc ?_ _)); refine qw ?_ NB146_148.out _; (with_reducible repeat (first | refine qd ?_ _ | refine qf ?_ | refine qc ?_ _)); exact BK146.out⟩, ⟨by (with_reducible repeat (first | refine qd ?_ _ | refine qf ?_ | refine qc ?_ _)); refine qw ?_ NB147_148.out _; (with_reducible repeat (first | refine qd ?_ _ | refine qf ?_ | refine qc ?_ _)); exact BK147.out⟩, ⟨by (with_reducible repeat (first | refine qd ?_ _ | refine qf ?_ | refine qc ?_ _)); refine zd (cs := #[.int .i64 a0_0, .int .i64 a0_1, u149002]) ?_ 2 _ rfl; (with_reducible repeat (first | refine qd ?_ _ | refine qf ?_ | refine qc ?_ _)); exact BK148.out⟩, ⟨be5_ HB GE145 GE146 GE147 GE148 GE150⟩⟩
       ·rw [if_neg c19] at H
        exact absurd H (by simp)
      ·rw [if_neg c18] at H
       have c18b0 : (!(((ql l0_2 x16_1).f0) == a1_0) || (!(((ql l0_2 x16_1).f1) == a1_1) || (!(((ql l0_2 x16_1).f2) == a1_2)))) = false := by simpa using c18
       clear c18
       have H' := qa.mk H
       clear H
       have p149 : 0 ≤ (x16_1 : Int) := of_decide_eq_true (by first | (with_reducible assumption) | assumption)
       have q149 : x16_1 < (l0_2.length : Int) := of_decide_eq_true (by first | (with_reducible assumption) | assumption)
       obtain ⟨ad149, e149, hx149_0, hx149_1, hx149_2⟩ := zu HR0_2.out x16_1 p149 q149
       cases e149
       replace hx149_0 := (HB.out.cell (World.block_lt_of_cell? w _ hx149_0)).trans hx149_0
       replace hx149_1 := (HB.out.cell (World.block_lt_of_cell? w _ hx149_1)).trans hx149_1
       replace hx149_2 := (HB.out.cell (World.block_lt_of_cell? w _ hx149_2)).trans hx149_2
       replace p149 := eq_true p149
       replace q149 := eq_true q149
       go_wp2_with (first | ((with_reducible refine qy (N := 7) rfl ?_); refine qx ?hg (N := 7) ?hd (cs := #[.int .i64 0, .int .i64 0, .bool false]) (t := 38) ?hr ?_; (case hd => rfl); (case hg => rfl); (case hr => first | (go_simp; done) | (go_simp; rfl)); intro gb150 hg w36 hbox hb; have n0_ := qa.mk (Kd.qz (Kd.R_elderB (kr_ HO_149002) gb150 (Nat.le_of_eq hg.symm)) hb); have n1_ := qa.mk (qk (g := gb145) (o := .cells #[.int .i64 a0_0, .int .i64 a0_1, .slice (some ad149) l0_2.length c0_2] 30 (0, 0)) (bk_ BK145) hb); have n2_ := qa.mk (qk (g := gb146) (o := .cells #[.int .i64 a1_0, .int .i64 a1_1, .bool a1_2] 38 (0, 0)) (bk_ BK146) hb); have n3_ := qa.mk (qk (g := gb147) (o := .cells #[.int .i64 0, .int .i64 0, .slice none 0 0] 30 (0, 0)) (bk_ BK147) hb); have n4_ := qa.mk (qk (g := gb148) (o := .cells #[.int .i64 a0_0, .int .i64 a0_1, u149002] 30 (0, 0)) (bk_ BK148) hb); have n5_ := qa.mk (qn (be4_ HB GE145 GE146 GE147 GE148) hb); have n6_ := qa.mk (hbox); have n7_ := qa.mk ((by rw [hg]; exact (qm (be4_ HB GE145 GE146 GE147 GE148)) : w.heap.size ≤ gb150)); have n8_ := qa.mk ((by rw [hg]; exact (qm (be4_ HB GE145 GE146 GE147 GE148)) : w.heap.size ≤ gb150)); have n9_ := qa.mk ((by rw [hg]; exact Nat.ne_of_lt (qr (g := gb145) (o := .cells #[.int .i64 a0_0, .int .i64 a0_1, .slice (some ad149) l0_2.length c0_2] 30 (0, 0)) (bk_ BK145)) : gb145 ≠ gb150)); have n10_ := qa.mk ((by rw [hg]; exact Nat.ne_of_gt (qr (g := gb145) (o := .cells #[.int .i64 a0_0, .int .i64 a0_1, .slice (some ad149) l0_2.length c0_2] 30 (0, 0)) (bk_ BK145)) : gb150 ≠ gb145)); have n11_ := qa.mk ((by rw [hg]; exact Nat.ne_of_lt (qr (g := gb146) (o := .cells #[.int .i64 a1_0, .int .i64 a1_1, .bool a1_2] 38 (0, 0)) (bk_ BK146)) : gb146 ≠ gb150)); have n12_ := qa.mk ((by rw [hg]; exact Nat.ne_of_gt (qr (g := gb146) (o := .cells #[.int .i64 a1_0, .int .i64 a1_1, .bool a1_2] 38 (0, 0)) (bk_ BK146)) : gb150 ≠ gb146)); have n13_ := qa.mk ((by rw [hg]; exact Nat.ne_of_lt (qr (g := gb147) (o := .cells #[.int .i64 0, .int .i64 0, .slice none 0 0] 30 (0, 0)) (bk_ BK147)) : gb147 ≠ gb150)); have n14_ := qa.mk ((by rw [hg]; exact Nat.ne_of_gt (qr (g := gb147) (o := .cells #[.int .i64 0, .int .i64 0, .slice none 0 0] 30 (0, 0)) (bk_ BK147)) : gb150 ≠ gb147)); have n15_ := qa.mk ((by rw [hg]; exact Nat.ne_of_lt (qr (g := gb148) (o := .cells #[.int .i64 a0_0, .int .i64 a0_1, u149002] 30 (0, 0)) (bk_ BK148)) : gb148 ≠ gb150)); have n16_ := qa.mk ((by rw [hg]; exact Nat.ne_of_gt (qr (g := gb148) (o := .cells #[.int .i64 a0_0, .int .i64 a0_1, u149002] 30 (0, 0)) (bk_ BK148)) : gb150 ≠ gb148)); clear HO_149002; clear BK145; clear BK146; clear BK147; clear BK148; clear HB; have HO_149002 := n0_; have BK145 := n1_; have BK146 := n2_; have BK147 := n3_; have BK148 := n4_; have HB := n5_; have BK150 := n6_; have GW150 := n7_; have GE150 := n8_; have NB145_150 := n9_; have NB150_145 := n10_; have NB146_150 := n11_; have NB150_146 := n12_; have NB147_150 := n13_; have NB150_147 := n14_; have NB148_150 := n15_; have NB150_148 := n16_; clear n0_ n1_ n2_ n3_ n4_ n5_ n6_ n7_ n8_ n9_ n10_ n11_ n12_ n13_ n14_ n15_ n16_; clear hb hbox hg; have hnb37 := NB150_145.out; have hnc37 := NB145_150.out; have hnb38 := NB150_146.out; have hnc38 := NB146_150.out; have hnb39 := NB150_147.out; have hnc39 := NB147_150.out; have hnb40 := NB150_148.out; have hnc40 := NB148_150.out; have hcz41_0 : w36.cell? ⟨gb150, 0, none⟩ = some (.int .i64 0) := (qg BK150.out 0).trans rfl; have hcz41_1 : w36.cell? ⟨gb150, 1, none⟩ = some (.int .i64 0) := (qg BK150.out 1).trans rfl; have hcz41_2 : w36.cell? ⟨gb150, 2, none⟩ = some (.bool false) := (qg BK150.out 2).trans rfl; have hfz41_0 := qj BK150.out 0; have hfz41_1 := qj BK150.out 1; have hfz41_2 := qj BK150.out 2; have hnb42 := NB146_145.out; have hnc42 := NB145_146.out; have hnb43 := NB146_147.out; have hnc43 := NB147_146.out; have hnb44 := NB146_148.out; have hnc44 := NB148_146.out; have hcz45_0 : w36.cell? ⟨gb146, 0, none⟩ = some (.int .i64 a1_0) := (qg BK146.out 0).trans rfl; have hcz45_1 : w36.cell? ⟨gb146, 1, none⟩ = some (.int .i64 a1_1) := (qg BK146.out 1).trans rfl; have hcz45_2 : w36.cell? ⟨gb146, 2, none⟩ = some (.bool a1_2) := (qg BK146.out 2).trans rfl; have hfz45_0 := qj BK146.out 0; have hfz45_1 := qj BK146.out 1; have hfz45_2 := qj BK146.out 2))
       go_roundg k1
       case measure => have := HK1.out; omega
       case rel => exact ⟨(wrap64 (x16_1 + 1)), (x149002_1), (u149002), (by first | rfl | (simp; done) | (simp [*]; done)), H', ⟨by have := HK1.out; omega⟩, ⟨by (with_reducible repeat (first | apply Kd.qo | apply Kd.qp | apply Kd.qq)); exact Kd.zc (Kd.R_far (p := ⟨gb150, 2, none⟩) (Kd.R_far (p := ⟨gb150, 1, none⟩) (Kd.R_far (p := ⟨gb150, 0, none⟩) (Kd.zc HO_149002.out (fun k_ hk => (⟨hk, hk.2⟩ : _ ∧ k_ ≠ gb150))) (fun _ hk => hk.2) (.int .i64 ((ql l0_2 x16_1).f0))) (fun _ hk => hk.2) (.int .i64 ((ql l0_2 x16_1).f1))) (fun _ hk => hk.2) (.bool ((ql l0_2 x16_1).f2))) (fun _ hk => hk.1.1)⟩, ⟨by (with_reducible repeat (first | refine qd ?_ _ | refine qf ?_ | refine qc ?_ _)); refine qw ?_ NB145_150.out _; (with_reducible repeat (first | refine qd ?_ _ | refine qf ?_ | refine qc ?_ _)); refine qw ?_ NB145_150.out _; (with_reducible repeat (first | refine qd ?_ _ | refine qf ?_ | refine qc ?_ _)); refine qw ?_ NB145_150.out _; (with_reducible repeat (first | refine qd ?_ _ | refine qf ?_ | refine qc ?_ _)); exact BK145.out⟩, ⟨by (with_reducible repeat (first | refine qd ?_ _ | refine qf ?_ | refine qc ?_ _)); refine qw ?_ NB146_150.out _; (with_reducible repeat (first | refine qd ?_ _ | refine qf ?_ | refine qc ?_ _)); refine qw ?_ NB146_150.out _; (with_reducible repeat (first | refine qd ?_ _ | refine qf ?_ | refine qc ?_ _)); refine qw ?_ NB146_150.out _; (with_reducible repeat (first | refine qd ?_ _ | refine qf ?_ | refine qc ?_ _)); exact BK146.out⟩, ⟨by (with_reducible repeat (first | refine qd ?_ _ | refine qf ?_ | refine qc ?_ _)); refine qw ?_ NB147_150.out _; (with_reducible repeat (first | refine qd ?_ _ | refine qf ?_ | refine qc ?_ _)); refine qw ?_ NB147_150.out _; (with_reducible repeat (first | refine qd ?_ _ | refine qf ?_ | refine qc ?_ _)); refine qw ?_ NB147_150.out _; (with_reducible repeat (first | refine qd ?_ _ | refine qf ?_ | refine qc ?_ _)); exact BK147.out⟩, ⟨by (with_reducible repeat (first | refine qd ?_ _ | refine qf ?_ | refine qc ?_ _)); refine qw ?_ NB148_150.out _; (with_reducible repeat (first | refine qd ?_ _ | refine qf ?_ | refine qc ?_ _)); refine qw ?_ NB148_150.out _; (with_reducible repeat (first | refine qd ?_ _ | refine qf ?_ | refine qc ?_ _)); refine qw ?_ NB148_150.out _; (with_reducible repeat (first | refine qd ?_ _ | refine qf ?_ | refine qc ?_ _)); exact BK148.out⟩, ⟨be5_ HB GE145 GE146 GE147 GE148 GE150⟩⟩
     ·rw [if_neg c17] at H
      exact absurd H (by simp)
    ·rw [if_neg c16] at H
     exact absurd H (by simp)
   ·rw [if_neg c15] at H
    have c15b0 : decide (x16_1 < (l0_2.length : Int)) = false := decide_eq_false c15
    clear c15
    simp only [Option.some.injEq, Prod.mk.injEq] at H
    obtain ⟨rfl, rfl, rfl⟩ := H
    have hnb46 := NB148_145.out
    have hnc46 := NB145_148.out
    have hnb47 := NB148_146.out
    have hnc47 := NB146_148.out
    have hnb48 := NB148_147.out
    have hnc48 := NB147_148.out
    have hcz49_0 : wr.cell? ⟨gb148, 0, none⟩ = some (.int .i64 a0_0) := (qg BK148.out 0).trans rfl
    have hcz49_1 : wr.cell? ⟨gb148, 1, none⟩ = some (.int .i64 a0_1) := (qg BK148.out 1).trans rfl
    have hcz49_2 : wr.cell? ⟨gb148, 2, none⟩ = some (u149002) := (qg BK148.out 2).trans rfl
    have hfz49_0 := qj BK148.out 0
    have hfz49_1 := qj BK148.out 1
    have hfz49_2 := qj BK148.out 2
    have hnb50 := NB147_145.out
    have hnc50 := NB145_147.out
    have hnb51 := NB147_146.out
    have hnc51 := NB146_147.out
    have hcz52_0 : wr.cell? ⟨gb147, 0, none⟩ = some (.int .i64 0) := (qg BK147.out 0).trans rfl
    have hcz52_1 : wr.cell? ⟨gb147, 1, none⟩ = some (.int .i64 0) := (qg BK147.out 1).trans rfl
    have hcz52_2 : wr.cell? ⟨gb147, 2, none⟩ = some (.slice none 0 0) := (qg BK147.out 2).trans rfl
    have hfz52_0 := qj BK147.out 0
    have hfz52_1 := qj BK147.out 1
    have hfz52_2 := qj BK147.out 2
    obtain ⟨Ao53, co53, eo53⟩ := Kd.zr HO_149002.out
    subst eo53
    go_wp2
    refine bodyPost_ret (results_cell_row rfl _ _ gb147 30 #[.int .i64 a0_0, .int .i64 a0_1, .slice Ao53 x149002_1.length co53] (0, 0) _ rfl (by (with_reducible repeat (first | refine qd ?_ _ | refine qf ?_ | refine qc ?_ _)); refine zd (cs := #[.int .i64 a0_0, .int .i64 a0_1, .slice none 0 0]) ?_ 2 _ rfl; (with_reducible repeat (first | refine qd ?_ _ | refine qf ?_ | refine qc ?_ _)); refine zd (cs := #[.int .i64 a0_0, .int .i64 0, .slice none 0 0]) ?_ 1 _ rfl; (with_reducible repeat (first | refine qd ?_ _ | refine qf ?_ | refine qc ?_ _)); refine zd (cs := #[.int .i64 0, .int .i64 0, .slice none 0 0]) ?_ 0 _ rfl; (with_reducible repeat (first | refine qd ?_ _ | refine qf ?_ | refine qc ?_ _)); exact BK147.out) Try.underlying30 rfl (by kernel_rfl)) rfl ?_
    exact ⟨_, by first | rfl | (simp [qu, qt] <;> rfl) | (simp [*, qu, qt] <;> rfl), by (with_reducible repeat (first | apply Kd.qo | apply Kd.qp | apply Kd.qq)); exact Kd.zc (Kd.R_far (p := ⟨gb147, 2, none⟩) (Kd.R_far (p := ⟨gb147, 1, none⟩) (Kd.R_far (p := ⟨gb147, 0, none⟩) (Kd.zl HO_149002.out BK147.out (by decide)) (fun _ hk => hk.2) (.int .i64 a0_0)) (fun _ hk => hk.2) (.int .i64 a0_1)) (fun _ hk => hk.2) (.slice Ao53 x149002_1.length co53)) (fun _ hk => trivial), be4_ HB GE145 GE146 GE147 GE148⟩
def spec_OpenBlock.f (k : Nat) (a0_0 : Int) (a0_1 : Int) (l0_2 : List (S38)) (a1_0 : Int) (a1_1 : Int) (a1_2 : Bool) : Option (Int × Int × (List (S38)) × Bool) := (spec_avGood.f k a0_0 a0_1 l0_2).bind fun t157 => (if t157 = true then ((spec_avShut.f k a0_0 a0_1 l0_2 a1_0 a1_1 a1_2).bind fun t158 => (if t158 = true then ((spec_avOpen.f k a0_0 a0_1 l0_2 a1_0 a1_1 a1_2).bind fun bt159 => (some (bt159.1, bt159.2.1, bt159.2.2, true))) else (some (0, 0, ([] : List (S38)), false)))) else (some (0, 0, ([] : List (S38)), false)))
theorem spec_OpenBlock.mono : ∀ a0 a1 a2 a3 a4 a5 k, LeO (spec_OpenBlock.f k a0 a1 a2 a3 a4 a5) (spec_OpenBlock.f (k + 1) a0 a1 a2 a3 a4 a5) := by
 intro a0 a1 a2 a3 a4 a5 k
 unfold spec_OpenBlock.f
 repeat' first
   | (with_reducible exact spec_avGood.mono _ _ _ _)
   | (with_reducible exact spec_avOpen.mono _ _ _ _ _ _ _)
   | (with_reducible exact spec_avShut.mono _ _ _ _ _ _ _)
   | (with_reducible exact LeO.refl _)
   | (with_reducible exact LeO.none _)
   | (with_reducible refine LeO.ite ?_ ?_)
   | (with_reducible refine LeO.bind ?_ (fun _ => ?_))
   | exact spec_avGood.mono _ _ _ _
   | exact spec_avOpen.mono _ _ _ _ _ _ _
   | exact spec_avShut.mono _ _ _ _ _ _ _
   | exact LeO.none _
   | refine LeO.ite ?_ ?_
   | refine LeO.bind ?_ (fun _ => ?_)
set_option maxHeartbeats 8000000 in
set_option maxRecDepth 100000 in
theorem spec_OpenBlock.calls (k : Nat) (a0_0 : Int) (a0_1 : Int) (A0_2 : Option Addr) (c0_2 : Nat) (l0_2 : List (S38)) (a1_0 : Int) (a1_1 : Int) (a1_2 : Bool) (r1 : Int) (r2 : Int) (r3 : List (S38)) (r4 : Bool) (w : World) (hr0_2 : Kd.C k38 w A0_2 l0_2.length l0_2) (hc0_2 : l0_2.length ≤ c0_2) (h : spec_OpenBlock.f k a0_0 a0_1 l0_2 a1_0 a1_1 a1_2 = some (r1, r2, r3, r4)) :
  Calls Try.prog 23 #[.agg #[.int .i64 a0_0, .int .i64 a0_1, .slice A0_2 l0_2.length c0_2], .agg #[.int .i64 a1_0, .int .i64 a1_1, .bool a1_2]] w fun e w' => ∃ v2_ : Value, e = .returned (.tuple #[.agg #[.int .i64 r1, .int .i64 r2, v2_], .bool r4]) ∧ Kd.R k38 38 w' w.heap.size (fun _ => True) v2_ r3 ∧ Below w.heap.size w w' := by
 have hu30 := Try.underlying30
 have hu38 := Try.underlying38
 have HR0_2 := qa.mk hr0_2
 have HC0_2 := qa.mk hc0_2
 clear hr0_2 hc0_2
 have HB := qa.mk (Below.refl w.heap.size w)
 have H : ((spec_avGood.f k a0_0 a0_1 l0_2).bind fun t157 => (if t157 = true then ((spec_avShut.f k a0_0 a0_1 l0_2 a1_0 a1_1 a1_2).bind fun t158 => (if t158 = true then ((spec_avOpen.f k a0_0 a0_1 l0_2 a1_0 a1_1 a1_2).bind fun bt159 => (some (bt159.1, bt159.2.1, bt159.2.2, true))) else (some (0, 0, ([] : List (S38)), false)))) else (some (0, 0, ([] : List (S38)), false)))) = some (r1, r2, r3, r4) := h
 clear h
 replace H := Option.bind_eq_some_iff.mp H
 obtain ⟨t157, A30, H⟩ := H
 replace H : (if t157 = true then ((spec_avShut.f k a0_0 a0_1 l0_2 a1_0 a1_1 a1_2).bind fun t158 => (if t158 = true then ((spec_avOpen.f k a0_0 a0_1 l0_2 a1_0 a1_1 a1_2).bind fun bt159 => (some (bt159.1, bt159.2.1, bt159.2.2, true))) else (some (0, 0, ([] : List (S38)), false)))) else (some (0, 0, ([] : List (S38)), false))) = some (r1, r2, r3, r4) := H
 have A3 := qa.mk A30
 clear A30
 by_cases c4 : t157 = true
 ·subst c4
  have H1 : ((spec_avShut.f k a0_0 a0_1 l0_2 a1_0 a1_1 a1_2).bind fun t158 => (if t158 = true then ((spec_avOpen.f k a0_0 a0_1 l0_2 a1_0 a1_1 a1_2).bind fun bt159 => (some (bt159.1, bt159.2.1, bt159.2.2, true))) else (some (0, 0, ([] : List (S38)), false)))) = some (r1, r2, r3, r4) := by rw [if_pos rfl] at H; exact H
  clear H
  have H := H1
  clear H1
  replace H := Option.bind_eq_some_iff.mp H
  obtain ⟨t158, A50, H⟩ := H
  replace H : (if t158 = true then ((spec_avOpen.f k a0_0 a0_1 l0_2 a1_0 a1_1 a1_2).bind fun bt159 => (some (bt159.1, bt159.2.1, bt159.2.2, true))) else (some (0, 0, ([] : List (S38)), false))) = some (r1, r2, r3, r4) := H
  have A5 := qa.mk A50
  clear A50
  by_cases c6 : t158 = true
  ·subst c6
   have H1 : ((spec_avOpen.f k a0_0 a0_1 l0_2 a1_0 a1_1 a1_2).bind fun bt159 => (some (bt159.1, bt159.2.1, bt159.2.2, true))) = some (r1, r2, r3, r4) := by rw [if_pos rfl] at H; exact H
   clear H
   have H := H1
   clear H1
   replace H := Option.bind_eq_some_iff.mp H
   obtain ⟨⟨t159, t160, t161⟩, A70, H⟩ := H
   replace H : (some (t159, t160, t161, true)) = some (r1, r2, r3, r4) := H
   have A7 := qa.mk A70
   clear A70
   simp only [Option.some.injEq, Prod.mk.injEq] at H
   obtain ⟨rfl, rfl, rfl, rfl⟩ := H
   go_enter Try.func23, Try.ntmps23
   go_wp2_with (first | ((with_reducible refine qy (N := 2) rfl ?_); refine qx ?hg (N := 2) ?hd (cs := #[.int .i64 a0_0, .int .i64 a0_1, .slice A0_2 l0_2.length c0_2]) (t := 30) ?hr ?_; (case hd => rfl); (case hg => rfl); (case hr => first | (go_simp; done) | (go_simp; rfl)); intro gb154 hg w8 hbox hb; have n0_ := qa.mk (qn (be0_ HB) hb); have n1_ := qa.mk (hbox); have n2_ := qa.mk ((by rw [hg]; exact (qm (be0_ HB)) : w.heap.size ≤ gb154)); have n3_ := qa.mk ((by rw [hg]; exact (qm (be0_ HB)) : w.heap.size ≤ gb154)); clear HB; have HB := n0_; have BK154 := n1_; have GW154 := n2_; have GE154 := n3_; clear n0_ n1_ n2_ n3_; clear hb hbox hg) | ((with_reducible refine qy (N := 3) rfl ?_); refine qx ?hg (N := 3) ?hd (cs := #[.int .i64 a1_0, .int .i64 a1_1, .bool a1_2]) (t := 38) ?hr ?_; (case hd => rfl); (case hg => rfl); (case hr => first | (go_simp; done) | (go_simp; rfl)); intro gb155 hg w9 hbox hb; have n0_ := qa.mk (qk (g := gb154) (o := .cells #[.int .i64 a0_0, .int .i64 a0_1, .slice A0_2 l0_2.length c0_2] 30 (0, 0)) (bk_ BK154) hb); have n1_ := qa.mk (qn (be1_ HB GE154) hb); have n2_ := qa.mk (hbox); have n3_ := qa.mk ((by rw [hg]; exact (qm (be1_ HB GE154)) : w.heap.size ≤ gb155)); have n4_ := qa.mk ((by rw [hg]; exact (qm (be1_ HB GE154)) : w.heap.size ≤ gb155)); have n5_ := qa.mk ((by rw [hg]; exact Nat.ne_of_lt (qr (g := gb154) (o := .cells #[.int .i64 a0_0, .int .i64 a0_1, .slice A0_2 l0_2.length c0_2] 30 (0, 0)) (bk_ BK154)) : gb154 ≠ gb155)); have n6_ := qa.mk ((by rw [hg]; exact Nat.ne_of_gt (qr (g := gb154) (o := .cells #[.int .i64 a0_0, .int .i64 a0_1, .slice A0_2 l0_2.length c0_2] 30 (0, 0)) (bk_ BK154)) : gb155 ≠ gb154)); clear BK154; clear HB; have BK154 := n0_; have HB := n1_; have BK155 := n2_; have GW155 := n3_; have GE155 := n4_; have NB154_155 := n5_; have NB155_154 := n6_; clear n0_ n1_ n2_ n3_ n4_ n5_ n6_; clear hb hbox hg) | ((with_reducible refine qy (N := 4) rfl ?_); refine qx ?hg (N := 4) ?hd (cs := #[.int .i64 0, .int .i64 0, .slice none 0 0]) (t := 30) ?hr ?_; (case hd => rfl); (case hg => rfl); (case hr => first | (go_simp; done) | (go_simp; rfl)); intro gb156 hg w10 hbox hb; have n0_ := qa.mk (qk (g := gb154) (o := .cells #[.int .i64 a0_0, .int .i64 a0_1, .slice A0_2 l0_2.length c0_2] 30 (0, 0)) (bk_ BK154) hb); have n1_ := qa.mk (qk (g := gb155) (o := .cells #[.int .i64 a1_0, .int .i64 a1_1, .bool a1_2] 38 (0, 0)) (bk_ BK155) hb); have n2_ := qa.mk (qn (be2_ HB GE154 GE155) hb); have n3_ := qa.mk (hbox); have n4_ := qa.mk ((by rw [hg]; exact (qm (be2_ HB GE154 GE155)) : w.heap.size ≤ gb156)); have n5_ := qa.mk ((by rw [hg]; exact (qm (be2_ HB GE154 GE155)) : w.heap.size ≤ gb156)); have n6_ := qa.mk ((by rw [hg]; exact Nat.ne_of_lt (qr (g := gb154) (o := .cells #[.int .i64 a0_0, .int .i64 a0_1, .slice A0_2 l0_2.length c0_2] 30 (0, 0)) (bk_ BK154)) : gb154 ≠ gb156)); have n7_ := qa.mk ((by rw [hg]; exact Nat.ne_of_gt (qr (g := gb154) (o := .cells #[.int .i64 a0_0, .int .i64 a0_1, .slice A0_2 l0_2.length c0_2] 30 (0, 0)) (bk_ BK154)) : gb156 ≠ gb154)); have n8_ := qa.mk ((by rw [hg]; exact Nat.ne_of_lt (qr (g := gb155) (o := .cells #[.int .i64 a1_0, .int .i64 a1_1, .bool a1_2] 38 (0, 0)) (bk_ BK155)) : gb155 ≠ gb156)); have n9_ := qa.mk ((by rw [hg]; exact Nat.ne_of_gt (qr (g := gb155) (o := .cells #[.int .i64 a1_0, .int .i64 a1_1, .bool a1_2] 38 (0, 0)) (bk_ BK155)) : gb156 ≠ gb155)); clear BK154; clear BK155; clear HB; have BK154 := n0_; have BK155 := n1_; have HB := n2_; have BK156 := n3_; have GW156 := n4_; have GE156 := n5_; have NB154_156 := n6_; have NB156_154 := n7_; have NB155_156 := n8_; have NB156_155 := n9_; clear n0_ n1_ n2_ n3_ n4_ n5_ n6_ n7_ n8_ n9_; clear hb hbox hg; have hnb11 := NB154_155.out; have hnc11 := NB155_154.out; have hnb12 := NB154_156.out; have hnc12 := NB156_154.out; have hcz13_0 : w10.cell? ⟨gb154, 0, none⟩ = some (.int .i64 a0_0) := (qg BK154.out 0).trans rfl; have hcz13_1 : w10.cell? ⟨gb154, 1, none⟩ = some (.int .i64 a0_1) := (qg BK154.out 1).trans rfl; have hcz13_2 : w10.cell? ⟨gb154, 2, none⟩ = some (.slice A0_2 l0_2.length c0_2) := (qg BK154.out 2).trans rfl; have hfz13_0 := qj BK154.out 0; have hfz13_1 := qj BK154.out 1; have hfz13_2 := qj BK154.out 2) | ((with_reducible refine zb (f := 67) rfl ?_); refine zj (some 7) rfl rfl Try.func67 (by kernel_rfl) rfl #[.agg #[.int .i64 a0_0, .int .i64 a0_1, .slice A0_2 l0_2.length c0_2]] rfl (by (try simp only [List.map_toArray, List.map_cons, List.map_nil]); first | done | rfl | (simp only [List.length_drop, List.length_take]; rfl)) ?_; (with_reducible refine (spec_avGood.calls k a0_0 a0_1 _ _ l0_2 true _ ?side1 ?side2 A3.out).mono ?_); (case side1 => repeat (first | exact (Kd.zm HR0_2.out HB.out) | (with_reducible refine Kd.zg ?_ _) | (with_reducible refine Kd.zf ?_ _) | (with_reducible refine Kd.zi ?_))); (case side2 => exact HC0_2.out); rintro e w14 ⟨rfl, hb⟩; refine ⟨_, rfl, ?_⟩; have n0_ := qa.mk (qk (g := gb154) (o := .cells #[.int .i64 a0_0, .int .i64 a0_1, .slice A0_2 l0_2.length c0_2] 30 (0, 0)) (bk_ BK154) hb); have n1_ := qa.mk (qk (g := gb155) (o := .cells #[.int .i64 a1_0, .int .i64 a1_1, .bool a1_2] 38 (0, 0)) (bk_ BK155) hb); have n2_ := qa.mk (qk (g := gb156) (o := .cells #[.int .i64 0, .int .i64 0, .slice none 0 0] 30 (0, 0)) (bk_ BK156) hb); have n3_ := qa.mk (qn (be3_ HB GE154 GE155 GE156) hb); clear BK154; clear BK155; clear BK156; clear HB; have BK154 := n0_; have BK155 := n1_; have BK156 := n2_; have HB := n3_; clear n0_ n1_ n2_ n3_; (try clear hb); (try clear hb2); (try clear hk); (try clear hi); have hcz15_0 : w14.cell? ⟨gb154, 0, none⟩ = some (.int .i64 a0_0) := (qg BK154.out 0).trans rfl; have hcz15_1 : w14.cell? ⟨gb154, 1, none⟩ = some (.int .i64 a0_1) := (qg BK154.out 1).trans rfl; have hcz15_2 : w14.cell? ⟨gb154, 2, none⟩ = some (.slice A0_2 l0_2.length c0_2) := (qg BK154.out 2).trans rfl; have hfz15_0 := qj BK154.out 0; have hfz15_1 := qj BK154.out 1; have hfz15_2 := qj BK154.out 2; have hnb16 := NB155_156.out; have hnc16 := NB156_155.out; have hcz17_0 : w14.cell? ⟨gb155, 0, none⟩ = some (.int .i64 a1_0) := (qg BK155.out 0).trans rfl; have hcz17_1 : w14.cell? ⟨gb155, 1, none⟩ = some (.int .i64 a1_1) := (qg BK155.out 1).trans rfl; have hcz17_2 : w14.cell? ⟨gb155, 2, none⟩ = some (.bool a1_2) := (qg BK155.out 2).trans rfl; have hfz17_0 := qj BK155.out 0; have hfz17_1 := qj BK155.out 1; have hfz17_2 := qj BK155.out 2) | (go_at_call 72; (with_reducible refine (spec_avShut.calls k a0_0 a0_1 _ _ l0_2 a1_0 a1_1 a1_2 true _ ?side1 ?side2 A5.out).mono ?_); (case side1 => repeat (first | exact (Kd.zm HR0_2.out HB.out) | (with_reducible refine Kd.zg ?_ _) | (with_reducible refine Kd.zf ?_ _) | (with_reducible refine Kd.zi ?_))); (case side2 => exact HC0_2.out); rintro e w18 ⟨rfl, hb⟩; have n0_ := qa.mk (qk (g := gb154) (o := .cells #[.int .i64 a0_0, .int .i64 a0_1, .slice A0_2 l0_2.length c0_2] 30 (0, 0)) (bk_ BK154) hb); have n1_ := qa.mk (qk (g := gb155) (o := .cells #[.int .i64 a1_0, .int .i64 a1_1, .bool a1_2] 38 (0, 0)) (bk_ BK155) hb); have n2_ := qa.mk (qk (g := gb156) (o := .cells #[.int .i64 0, .int .i64 0, .slice none 0 0] 30 (0, 0)) (bk_ BK156) hb); have n3_ := qa.mk (qn (be3_ HB GE154 GE155 GE156) hb); clear BK154; clear BK155; clear BK156; clear HB; have BK154 := n0_; have BK155 := n1_; have BK156 := n2_; have HB := n3_; clear n0_ n1_ n2_ n3_; (try clear hb); (try clear hb2); (try clear hk); (try clear hi); have hcz19_0 : w18.cell? ⟨gb154, 0, none⟩ = some (.int .i64 a0_0) := (qg BK154.out 0).trans rfl; have hcz19_1 : w18.cell? ⟨gb154, 1, none⟩ = some (.int .i64 a0_1) := (qg BK154.out 1).trans rfl; have hcz19_2 : w18.cell? ⟨gb154, 2, none⟩ = some (.slice A0_2 l0_2.length c0_2) := (qg BK154.out 2).trans rfl; have hfz19_0 := qj BK154.out 0; have hfz19_1 := qj BK154.out 1; have hfz19_2 := qj BK154.out 2; have hcz20_0 : w18.cell? ⟨gb155, 0, none⟩ = some (.int .i64 a1_0) := (qg BK155.out 0).trans rfl; have hcz20_1 : w18.cell? ⟨gb155, 1, none⟩ = some (.int .i64 a1_1) := (qg BK155.out 1).trans rfl; have hcz20_2 : w18.cell? ⟨gb155, 2, none⟩ = some (.bool a1_2) := (qg BK155.out 2).trans rfl; have hfz20_0 := qj BK155.out 0; have hfz20_1 := qj BK155.out 1; have hfz20_2 := qj BK155.out 2) | ((with_reducible refine zb (f := 73) rfl ?_); refine zj (some 18) rfl rfl Try.func73 (by kernel_rfl) rfl #[.agg #[.int .i64 a0_0, .int .i64 a0_1, .slice A0_2 l0_2.length c0_2], .agg #[.int .i64 a1_0, .int .i64 a1_1, .bool a1_2]] rfl (by (try simp only [List.map_toArray, List.map_cons, List.map_nil]); first | done | rfl | (simp only [List.length_drop, List.length_take]; rfl)) ?_; (with_reducible refine (spec_avOpen.calls k a0_0 a0_1 _ _ l0_2 a1_0 a1_1 a1_2 t159 t160 t161 _ ?side1 ?side2 A7.out).mono ?_); (case side1 => repeat (first | exact (Kd.zm HR0_2.out HB.out) | (with_reducible refine Kd.zg ?_ _) | (with_reducible refine Kd.zf ?_ _) | (with_reducible refine Kd.zi ?_))); (case side2 => exact HC0_2.out); rintro e w21 ⟨v162, rfl, ho0, hb⟩; refine ⟨_, rfl, ?_⟩; have n0_ := qa.mk (Kd.zt (Kd.R_newB ho0 (g := gb155) (o := .cells #[.int .i64 a1_0, .int .i64 a1_1, .bool a1_2] 38 (0, 0)) (bk_ BK155)) (qm (be3_ HB GE154 GE155 GE156))); have n1_ := qa.mk (qk (g := gb154) (o := .cells #[.int .i64 a0_0, .int .i64 a0_1, .slice A0_2 l0_2.length c0_2] 30 (0, 0)) (bk_ BK154) hb); have n2_ := qa.mk (qk (g := gb155) (o := .cells #[.int .i64 a1_0, .int .i64 a1_1, .bool a1_2] 38 (0, 0)) (bk_ BK155) hb); have n3_ := qa.mk (qk (g := gb156) (o := .cells #[.int .i64 0, .int .i64 0, .slice none 0 0] 30 (0, 0)) (bk_ BK156) hb); have n4_ := qa.mk (qn (be3_ HB GE154 GE155 GE156) hb); clear BK154; clear BK155; clear BK156; clear HB; have HO163 := n0_; have BK154 := n1_; have BK155 := n2_; have BK156 := n3_; have HB := n4_; clear n0_ n1_ n2_ n3_ n4_; (try clear hb); (try clear hb2); (try clear hk); (try clear hi); (try clear ho0); have hcz22_0 : w21.cell? ⟨gb156, 0, none⟩ = some (.int .i64 0) := (qg BK156.out 0).trans rfl; have hcz22_1 : w21.cell? ⟨gb156, 1, none⟩ = some (.int .i64 0) := (qg BK156.out 1).trans rfl; have hcz22_2 : w21.cell? ⟨gb156, 2, none⟩ = some (.slice none 0 0) := (qg BK156.out 2).trans rfl; have hfz22_0 := qj BK156.out 0; have hfz22_1 := qj BK156.out 1; have hfz22_2 := qj BK156.out 2; obtain ⟨Ao23, co23, eo23⟩ := Kd.zr HO163.out; subst eo23))
   refine bodyPost_ret (results_ct rfl _ _ gb156 30 #[.int .i64 t159, .int .i64 t160, .slice Ao23 t161.length co23] (0, 0) _ rfl (by (with_reducible repeat (first | refine qd ?_ _ | refine qf ?_ | refine qc ?_ _)); refine zd (cs := #[.int .i64 t159, .int .i64 t160, .slice none 0 0]) ?_ 2 _ rfl; (with_reducible repeat (first | refine qd ?_ _ | refine qf ?_ | refine qc ?_ _)); refine zd (cs := #[.int .i64 t159, .int .i64 0, .slice none 0 0]) ?_ 1 _ rfl; (with_reducible repeat (first | refine qd ?_ _ | refine qf ?_ | refine qc ?_ _)); refine zd (cs := #[.int .i64 0, .int .i64 0, .slice none 0 0]) ?_ 0 _ rfl; (with_reducible repeat (first | refine qd ?_ _ | refine qf ?_ | refine qc ?_ _)); exact BK156.out) Try.underlying30 rfl (by kernel_rfl)) rfl ?_
   exact ⟨_, by first | rfl | (simp [qu, qt] <;> rfl) | (simp [*, qu, qt] <;> rfl), by (with_reducible repeat (first | apply Kd.qo | apply Kd.qp | apply Kd.qq)); exact Kd.zc (Kd.R_far (p := ⟨gb156, 2, none⟩) (Kd.R_far (p := ⟨gb156, 1, none⟩) (Kd.R_far (p := ⟨gb156, 0, none⟩) (Kd.zl HO163.out BK156.out (by decide)) (fun _ hk => hk.2) (.int .i64 t159)) (fun _ hk => hk.2) (.int .i64 t160)) (fun _ hk => hk.2) (.slice Ao23 t161.length co23)) (fun _ hk => trivial), be3_ HB GE154 GE155 GE156⟩
  ·replace c6 := Bool.eq_false_iff.mpr c6
   subst c6
   have H1 : (some (0, 0, ([] : List (S38)), false)) = some (r1, r2, r3, r4) := by rw [if_neg (show ¬ (false = true) by decide)] at H; exact H
   clear H
   have H := H1
   clear H1
   simp only [Option.some.injEq, Prod.mk.injEq] at H
   obtain ⟨rfl, rfl, rfl, rfl⟩ := H
   go_enter Try.func23, Try.ntmps23
   go_wp2_with (first | ((with_reducible refine qy (N := 2) rfl ?_); refine qx ?hg (N := 2) ?hd (cs := #[.int .i64 a0_0, .int .i64 a0_1, .slice A0_2 l0_2.length c0_2]) (t := 30) ?hr ?_; (case hd => rfl); (case hg => rfl); (case hr => first | (go_simp; done) | (go_simp; rfl)); intro gb154 hg w24 hbox hb; have n0_ := qa.mk (qn (be0_ HB) hb); have n1_ := qa.mk (hbox); have n2_ := qa.mk ((by rw [hg]; exact (qm (be0_ HB)) : w.heap.size ≤ gb154)); have n3_ := qa.mk ((by rw [hg]; exact (qm (be0_ HB)) : w.heap.size ≤ gb154)); clear HB; have HB := n0_; have BK154 := n1_; have GW154 := n2_; have GE154 := n3_; clear n0_ n1_ n2_ n3_; clear hb hbox hg) | ((with_reducible refine qy (N := 3) rfl ?_); refine qx ?hg (N := 3) ?hd (cs := #[.int .i64 a1_0, .int .i64 a1_1, .bool a1_2]) (t := 38) ?hr ?_; (case hd => rfl); (case hg => rfl); (case hr => first | (go_simp; done) | (go_simp; rfl)); intro gb155 hg w25 hbox hb; have n0_ := qa.mk (qk (g := gb154) (o := .cells #[.int .i64 a0_0, .int .i64 a0_1, .slice A0_2 l0_2.length c0_2] 30 (0, 0)) (bk_ BK154) hb); have n1_ := qa.mk (qn (be1_ HB GE154) hb); have n2_ := qa.mk (hbox); have n3_ := qa.mk ((by rw [hg]; exact (qm (be1_ HB GE154)) : w.heap.size ≤ gb155)); have n4_ := qa.mk ((by rw [hg]; exact (qm (be1_ HB GE154)) : w.heap.size ≤ gb155)); have n5_ := qa.mk ((by rw [hg]; exact Nat.ne_of_lt (qr (g := gb154) (o := .cells #[.int .i64 a0_0, .int .i64 a0_1, .slice A0_2 l0_2.length c0_2] 30 (0, 0)) (bk_ BK154)) : gb154 ≠ gb155)); have n6_ := qa.mk ((by rw [hg]; exact Nat.ne_of_gt (qr (g := gb154) (o := .cells #[.int .i64 a0_0, .int .i64 a0_1, .slice A0_2 l0_2.length c0_2] 30 (0, 0)) (bk_ BK154)) : gb155 ≠ gb154)); clear BK154; clear HB; have BK154 := n0_; have HB := n1_; have BK155 := n2_; have GW155 := n3_; have GE155 := n4_; have NB154_155 := n5_; have NB155_154 := n6_; clear n0_ n1_ n2_ n3_ n4_ n5_ n6_; clear hb hbox hg) | ((with_reducible refine qy (N := 4) rfl ?_); refine qx ?hg (N := 4) ?hd (cs := #[.int .i64 0, .int .i64 0, .slice none 0 0]) (t := 30) ?hr ?_; (case hd => rfl); (case hg => rfl); (case hr => first | (go_simp; done) | (go_simp; rfl)); intro gb156 hg w26 hbox hb; have n0_ := qa.mk (qk (g := gb154) (o := .cells #[.int .i64 a0_0, .int .i64 a0_1, .slice A0_2 l0_2.length c0_2] 30 (0, 0)) (bk_ BK154) hb); have n1_ := qa.mk (qk (g := gb155) (o := .cells #[.int .i64 a1_0, .int .i64 a1_1, .bool a1_2] 38 (0, 0)) (bk_ BK155) hb); have n2_ := qa.mk (qn (be2_ HB GE154 GE155) hb); have n3_ := qa.mk (hbox); have n4_ := qa.mk ((by rw [hg]; exact (qm (be2_ HB GE154 GE155)) : w.heap.size ≤ gb156)); have n5_ := qa.mk ((by rw [hg]; exact (qm (be2_ HB GE154 GE155)) : w.heap.size ≤ gb156)); have n6_ := qa.mk ((by rw [hg]; exact Nat.ne_of_lt (qr (g := gb154) (o := .cells #[.int .i64 a0_0, .int .i64 a0_1, .slice A0_2 l0_2.length c0_2] 30 (0, 0)) (bk_ BK154)) : gb154 ≠ gb156)); have n7_ := qa.mk ((by rw [hg]; exact Nat.ne_of_gt (qr (g := gb154) (o := .cells #[.int .i64 a0_0, .int .i64 a0_1, .slice A0_2 l0_2.length c0_2] 30 (0, 0)) (bk_ BK154)) : gb156 ≠ gb154)); have n8_ := qa.mk ((by rw [hg]; exact Nat.ne_of_lt (qr (g := gb155) (o := .cells #[.int .i64 a1_0, .int .i64 a1_1, .bool a1_2] 38 (0, 0)) (bk_ BK155)) : gb155 ≠ gb156)); have n9_ := qa.mk ((by rw [hg]; exact Nat.ne_of_gt (qr (g := gb155) (o := .cells #[.int .i64 a1_0, .int .i64 a1_1, .bool a1_2] 38 (0, 0)) (bk_ BK155)) : gb156 ≠ gb155)); clear BK154; clear BK155; clear HB; have BK154 := n0_; have BK155 := n1_; have HB := n2_; have BK156 := n3_; have GW156 := n4_; have GE156 := n5_; have NB154_156 := n6_; have NB156_154 := n7_; have NB155_156 := n8_; have NB156_155 := n9_; clear n0_ n1_ n2_ n3_ n4_ n5_ n6_ n7_ n8_ n9_; clear hb hbox hg; have hnb27 := NB154_155.out; have hnc27 := NB155_154.out; have hnb28 := NB154_156.out; have hnc28 := NB156_154.out; have hcz29_0 : w26.cell? ⟨gb154, 0, none⟩ = some (.int .i64 a0_0) := (qg BK154.out 0).trans rfl; have hcz29_1 : w26.cell? ⟨gb154, 1, none⟩ = some (.int .i64 a0_1) := (qg BK154.out 1).trans rfl; have hcz29_2 : w26.cell? ⟨gb154, 2, none⟩ = some (.slice A0_2 l0_2.length c0_2) := (qg BK154.out 2).trans rfl; have hfz29_0 := qj BK154.out 0; have hfz29_1 := qj BK154.out 1; have hfz29_2 := qj BK154.out 2) | ((with_reducible refine zb (f := 67) rfl ?_); refine zj (some 7) rfl rfl Try.func67 (by kernel_rfl) rfl #[.agg #[.int .i64 a0_0, .int .i64 a0_1, .slice A0_2 l0_2.length c0_2]] rfl (by (try simp only [List.map_toArray, List.map_cons, List.map_nil]); first | done | rfl | (simp only [List.length_drop, List.length_take]; rfl)) ?_; (with_reducible refine (spec_avGood.calls k a0_0 a0_1 _ _ l0_2 true _ ?side1 ?side2 A3.out).mono ?_); (case side1 => repeat (first | exact (Kd.zm HR0_2.out HB.out) | (with_reducible refine Kd.zg ?_ _) | (with_reducible refine Kd.zf ?_ _) | (with_reducible refine Kd.zi ?_))); (case side2 => exact HC0_2.out); rintro e w30 ⟨rfl, hb⟩; refine ⟨_, rfl, ?_⟩; have n0_ := qa.mk (qk (g := gb154) (o := .cells #[.int .i64 a0_0, .int .i64 a0_1, .slice A0_2 l0_2.length c0_2] 30 (0, 0)) (bk_ BK154) hb); have n1_ := qa.mk (qk (g := gb155) (o := .cells #[.int .i64 a1_0, .int .i64 a1_1, .bool a1_2] 38 (0, 0)) (bk_ BK155) hb); have n2_ := qa.mk (qk (g := gb156) (o := .cells #[.int .i64 0, .int .i64 0, .slice none 0 0] 30 (0, 0)) (bk_ BK156) hb); have n3_ := qa.mk (qn (be3_ HB GE154 GE155 GE156) hb); clear BK154; clear BK155; clear BK156; clear HB; have BK154 := n0_; have BK155 := n1_; have BK156 := n2_; have HB := n3_; clear n0_ n1_ n2_ n3_; (try clear hb); (try clear hb2); (try clear hk); (try clear hi); have hcz31_0 : w30.cell? ⟨gb154, 0, none⟩ = some (.int .i64 a0_0) := (qg BK154.out 0).trans rfl; have hcz31_1 : w30.cell? ⟨gb154, 1, none⟩ = some (.int .i64 a0_1) := (qg BK154.out 1).trans rfl; have hcz31_2 : w30.cell? ⟨gb154, 2, none⟩ = some (.slice A0_2 l0_2.length c0_2) := (qg BK154.out 2).trans rfl; have hfz31_0 := qj BK154.out 0; have hfz31_1 := qj BK154.out 1; have hfz31_2 := qj BK154.out 2; have hnb32 := NB155_156.out; have hnc32 := NB156_155.out; have hcz33_0 : w30.cell? ⟨gb155, 0, none⟩ = some (.int .i64 a1_0) := (qg BK155.out 0).trans rfl; have hcz33_1 : w30.cell? ⟨gb155, 1, none⟩ = some (.int .i64 a1_1) := (qg BK155.out 1).trans rfl; have hcz33_2 : w30.cell? ⟨gb155, 2, none⟩ = some (.bool a1_2) := (qg BK155.out 2).trans rfl; have hfz33_0 := qj BK155.out 0; have hfz33_1 := qj BK155.out 1; have hfz33_2 := qj BK155.out 2) | (go_at_call 72; (with_reducible refine (spec_avShut.calls k a0_0 a0_1 _ _ l0_2 a1_0 a1_1 a1_2 false _ ?side1 ?side2 A5.out).mono ?_); (case side1 => repeat (first | exact (Kd.zm HR0_2.out HB.out) | (with_reducible refine Kd.zg ?_ _) | (with_reducible refine Kd.zf ?_ _) | (with_reducible refine Kd.zi ?_))); (case side2 => exact HC0_2.out); rintro e w34 ⟨rfl, hb⟩; have n0_ := qa.mk (qk (g := gb154) (o := .cells #[.int .i64 a0_0, .int .i64 a0_1, .slice A0_2 l0_2.length c0_2] 30 (0, 0)) (bk_ BK154) hb); have n1_ := qa.mk (qk (g := gb155) (o := .cells #[.int .i64 a1_0, .int .i64 a1_1, .bool a1_2] 38 (0, 0)) (bk_ BK155) hb); have n2_ := qa.mk (qk (g := gb156) (o := .cells #[.int .i64 0, .int .i64 0, .slice none 0 0] 30 (0, 0)) (bk_ BK156) hb); have n3_ := qa.mk (qn (be3_ HB GE154 GE155 GE156) hb); clear BK154; clear BK155; clear BK156; clear HB; have BK154 := n0_; have BK155 := n1_; have BK156 := n2_; have HB := n3_; clear n0_ n1_ n2_ n3_; (try clear hb); (try clear hb2); (try clear hk); (try clear hi); have hcz35_0 : w34.cell? ⟨gb156, 0, none⟩ = some (.int .i64 0) := (qg BK156.out 0).trans rfl; have hcz35_1 : w34.cell? ⟨gb156, 1, none⟩ = some (.int .i64 0) := (qg BK156.out 1).trans rfl; have hcz35_2 : w34.cell? ⟨gb156, 2, none⟩ = some (.slice none 0 0) := (qg BK156.out 2).trans rfl; have hfz35_0 := qj BK156.out 0; have hfz35_1 := qj BK156.out 1; have hfz35_2 := qj BK156.out 2))
   refine bodyPost_ret (results_ct rfl _ _ gb156 30 #[.int .i64 0, .int .i64 0, .slice none 0 0] (0, 0) _ rfl (by (with_reducible repeat (first | refine qd ?_ _ | refine qf ?_ | refine qc ?_ _)); refine zd (cs := #[.int .i64 0, .int .i64 0, .slice none 0 0]) ?_ 2 _ rfl; (with_reducible repeat (first | refine qd ?_ _ | refine qf ?_ | refine qc ?_ _)); refine zd (cs := #[.int .i64 0, .int .i64 0, .slice none 0 0]) ?_ 1 _ rfl; (with_reducible repeat (first | refine qd ?_ _ | refine qf ?_ | refine qc ?_ _)); refine zd (cs := #[.int .i64 0, .int .i64 0, .slice none 0 0]) ?_ 0 _ rfl; (with_reducible repeat (first | refine qd ?_ _ | refine qf ?_ | refine qc ?_ _)); exact BK156.out) Try.underlying30 rfl (by kernel_rfl)) rfl ?_
   exact ⟨_, by first | rfl | (simp [qu, qt] <;> rfl) | (simp [*, qu, qt] <;> rfl), by first | exact Kd.R_nil _ _ _ _ _ | exact Kd.N_nil _ _ _ _ _ | exact Kd.V_nil _ _ _ _ _ | exact Kd.Q_nil _ _ _ _ _ | exact Kd.S_nil _ _ _ _ _, be3_ HB GE154 GE155 GE156⟩
 ·replace c4 := Bool.eq_false_iff.mpr c4
  subst c4
  have H1 : (some (0, 0, ([] : List (S38)), false)) = some (r1, r2, r3, r4) := by rw [if_neg (show ¬ (false = true) by decide)] at H; exact H
  clear H
  have H := H1
  clear H1
  simp only [Option.some.injEq, Prod.mk.injEq] at H
  obtain ⟨rfl, rfl, rfl, rfl⟩ := H
  go_enter Try.func23, Try.ntmps23
  go_wp2_with (first | ((with_reducible refine qy (N := 2) rfl ?_); refine qx ?hg (N := 2) ?hd (cs := #[.int .i64 a0_0, .int .i64 a0_1, .slice A0_2 l0_2.length c0_2]) (t := 30) ?hr ?_; (case hd => rfl); (case hg => rfl); (case hr => first | (go_simp; done) | (go_simp; rfl)); intro gb154 hg w36 hbox hb; have n0_ := qa.mk (qn (be0_ HB) hb); have n1_ := qa.mk (hbox); have n2_ := qa.mk ((by rw [hg]; exact (qm (be0_ HB)) : w.heap.size ≤ gb154)); have n3_ := qa.mk ((by rw [hg]; exact (qm (be0_ HB)) : w.heap.size ≤ gb154)); clear HB; have HB := n0_; have BK154 := n1_; have GW154 := n2_; have GE154 := n3_; clear n0_ n1_ n2_ n3_; clear hb hbox hg) | ((with_reducible refine qy (N := 3) rfl ?_); refine qx ?hg (N := 3) ?hd (cs := #[.int .i64 a1_0, .int .i64 a1_1, .bool a1_2]) (t := 38) ?hr ?_; (case hd => rfl); (case hg => rfl); (case hr => first | (go_simp; done) | (go_simp; rfl)); intro gb155 hg w37 hbox hb; have n0_ := qa.mk (qk (g := gb154) (o := .cells #[.int .i64 a0_0, .int .i64 a0_1, .slice A0_2 l0_2.length c0_2] 30 (0, 0)) (bk_ BK154) hb); have n1_ := qa.mk (qn (be1_ HB GE154) hb); have n2_ := qa.mk (hbox); have n3_ := qa.mk ((by rw [hg]; exact (qm (be1_ HB GE154)) : w.heap.size ≤ gb155)); have n4_ := qa.mk ((by rw [hg]; exact (qm (be1_ HB GE154)) : w.heap.size ≤ gb155)); have n5_ := qa.mk ((by rw [hg]; exact Nat.ne_of_lt (qr (g := gb154) (o := .cells #[.int .i64 a0_0, .int .i64 a0_1, .slice A0_2 l0_2.length c0_2] 30 (0, 0)) (bk_ BK154)) : gb154 ≠ gb155)); have n6_ := qa.mk ((by rw [hg]; exact Nat.ne_of_gt (qr (g := gb154) (o := .cells #[.int .i64 a0_0, .int .i64 a0_1, .slice A0_2 l0_2.length c0_2] 30 (0, 0)) (bk_ BK154)) : gb155 ≠ gb154)); clear BK154; clear HB; have BK154 := n0_; have HB := n1_; have BK155 := n2_; have GW155 := n3_; have GE155 := n4_; have NB154_155 := n5_; have NB155_154 := n6_; clear n0_ n1_ n2_ n3_ n4_ n5_ n6_; clear hb hbox hg) | ((with_reducible refine qy (N := 4) rfl ?_); refine qx ?hg (N := 4) ?hd (cs := #[.int .i64 0, .int .i64 0, .slice none 0 0]) (t := 30) ?hr ?_; (case hd => rfl); (case hg => rfl); (case hr => first | (go_simp; done) | (go_simp; rfl)); intro gb156 hg w38 hbox hb; have n0_ := qa.mk (qk (g := gb154) (o := .cells #[.int .i64 a0_0, .int .i64 a0_1, .slice A0_2 l0_2.length c0_2] 30 (0, 0)) (bk_ BK154) hb); have n1_ := qa.mk (qk (g := gb155) (o := .cells #[.int .i64 a1_0, .int .i64 a1_1, .bool a1_2] 38 (0, 0)) (bk_ BK155) hb); have n2_ := qa.mk (qn (be2_ HB GE154 GE155) hb); have n3_ := qa.mk (hbox); have n4_ := qa.mk ((by rw [hg]; exact (qm (be2_ HB GE154 GE155)) : w.heap.size ≤ gb156)); have n5_ := qa.mk ((by rw [hg]; exact (qm (be2_ HB GE154 GE155)) : w.heap.size ≤ gb156)); have n6_ := qa.mk ((by rw [hg]; exact Nat.ne_of_lt (qr (g := gb154) (o := .cells #[.int .i64 a0_0, .int .i64 a0_1, .slice A0_2 l0_2.length c0_2] 30 (0, 0)) (bk_ BK154)) : gb154 ≠ gb156)); have n7_ := qa.mk ((by rw [hg]; exact Nat.ne_of_gt (qr (g := gb154) (o := .cells #[.int .i64 a0_0, .int .i64 a0_1, .slice A0_2 l0_2.length c0_2] 30 (0, 0)) (bk_ BK154)) : gb156 ≠ gb154)); have n8_ := qa.mk ((by rw [hg]; exact Nat.ne_of_lt (qr (g := gb155) (o := .cells #[.int .i64 a1_0, .int .i64 a1_1, .bool a1_2] 38 (0, 0)) (bk_ BK155)) : gb155 ≠ gb156)); have n9_ := qa.mk ((by rw [hg]; exact Nat.ne_of_gt (qr (g := gb155) (o := .cells #[.int .i64 a1_0, .int .i64 a1_1, .bool a1_2] 38 (0, 0)) (bk_ BK155)) : gb156 ≠ gb155)); clear BK154; clear BK155; clear HB; have BK154 := n0_; have BK155 := n1_; have HB := n2_; have BK156 := n3_; have GW156 := n4_; have GE156 := n5_; have NB154_156 := n6_; have NB156_154 := n7_; have NB155_156 := n8_; have NB156_155 := n9_; clear n0_ n1_ n2_ n3_ n4_ n5_ n6_ n7_ n8_ n9_; clear hb hbox hg; have hnb39 := NB154_155.out; have hnc39 := NB155_154.out; have hnb40 := NB154_156.out; have hnc40 := NB156_154.out; have hcz41_0 : w38.cell? ⟨gb154, 0, none⟩ = some (.int .i64 a0_0) := (qg BK154.out 0).trans rfl; have hcz41_1 : w38.cell? ⟨gb154, 1, none⟩ = some (.int .i64 a0_1) := (qg BK154.out 1).trans rfl; have hcz41_2 : w38.cell? ⟨gb154, 2, none⟩ = some (.slice A0_2 l0_2.length c0_2) := (qg BK154.out 2).trans rfl; have hfz41_0 := qj BK154.out 0; have hfz41_1 := qj BK154.out 1; have hfz41_2 := qj BK154.out 2) | ((with_reducible refine zb (f := 67) rfl ?_); refine zj (some 7) rfl rfl Try.func67 (by kernel_rfl) rfl #[.agg #[.int .i64 a0_0, .int .i64 a0_1, .slice A0_2 l0_2.length c0_2]] rfl (by (try simp only [List.map_toArray, List.map_cons, List.map_nil]); first | done | rfl | (simp only [List.length_drop, List.length_take]; rfl)) ?_; (with_reducible refine (spec_avGood.calls k a0_0 a0_1 _ _ l0_2 false _ ?side1 ?side2 A3.out).mono ?_); (case side1 => repeat (first | exact (Kd.zm HR0_2.out HB.out) | (with_reducible refine Kd.zg ?_ _) | (with_reducible refine Kd.zf ?_ _) | (with_reducible refine Kd.zi ?_))); (case side2 => exact HC0_2.out); rintro e w42 ⟨rfl, hb⟩; refine ⟨_, rfl, ?_⟩; have n0_ := qa.mk (qk (g := gb154) (o := .cells #[.int .i64 a0_0, .int .i64 a0_1, .slice A0_2 l0_2.length c0_2] 30 (0, 0)) (bk_ BK154) hb); have n1_ := qa.mk (qk (g := gb155) (o := .cells #[.int .i64 a1_0, .int .i64 a1_1, .bool a1_2] 38 (0, 0)) (bk_ BK155) hb); have n2_ := qa.mk (qk (g := gb156) (o := .cells #[.int .i64 0, .int .i64 0, .slice none 0 0] 30 (0, 0)) (bk_ BK156) hb); have n3_ := qa.mk (qn (be3_ HB GE154 GE155 GE156) hb); clear BK154; clear BK155; clear BK156; clear HB; have BK154 := n0_; have BK155 := n1_; have BK156 := n2_; have HB := n3_; clear n0_ n1_ n2_ n3_; (try clear hb); (try clear hb2); (try clear hk); (try clear hi); have hnb43 := NB156_155.out; have hnc43 := NB155_156.out; have hcz44_0 : w42.cell? ⟨gb156, 0, none⟩ = some (.int .i64 0) := (qg BK156.out 0).trans rfl; have hcz44_1 : w42.cell? ⟨gb156, 1, none⟩ = some (.int .i64 0) := (qg BK156.out 1).trans rfl; have hcz44_2 : w42.cell? ⟨gb156, 2, none⟩ = some (.slice none 0 0) := (qg BK156.out 2).trans rfl; have hfz44_0 := qj BK156.out 0; have hfz44_1 := qj BK156.out 1; have hfz44_2 := qj BK156.out 2))
  refine bodyPost_ret (results_ct rfl _ _ gb156 30 #[.int .i64 0, .int .i64 0, .slice none 0 0] (0, 0) _ rfl (by (with_reducible repeat (first | refine qd ?_ _ | refine qf ?_ | refine qc ?_ _)); refine zd (cs := #[.int .i64 0, .int .i64 0, .slice none 0 0]) ?_ 2 _ rfl; (with_reducible repeat (first | refine qd ?_ _ | refine qf ?_ | refine qc ?_ _)); refine zd (cs := #[.int .i64 0, .int .i64 0, .slice none 0 0]) ?_ 1 _ rfl; (with_reducible repeat (first | refine qd ?_ _ | refine qf ?_ | refine qc ?_ _)); refine zd (cs := #[.int .i64 0, .int .i64 0, .slice none 0 0]) ?_ 0 _ rfl; (with_reducible repeat (first | refine qd ?_ _ | refine qf ?_ | refine qc ?_ _)); exact BK156.out) Try.underlying30 rfl (by kernel_rfl)) rfl ?_
  exact ⟨_, by first | rfl | (simp [qu, qt] <;> rfl) | (simp [*, qu, qt] <;> rfl), by first | exact Kd.R_nil _ _ _ _ _ | exact Kd.N_nil _ _ _ _ _ | exact Kd.V_nil _ _ _ _ _ | exact Kd.Q_nil _ _ _ _ _ | exact Kd.S_nil _ _ _ _ _, be3_ HB GE154 GE155 GE156⟩
def impl_within.f (a0 : Int) (a1 : Int) (a2 : Int) : Option (Bool) := if a0 ≥ a1 then (some (decide (a0 ≤ a2))) else (some false)
set_option maxHeartbeats 8000000 in
set_option maxRecDepth 100000 in
theorem impl_within.calls (a0 : Int) (a1 : Int) (a2 : Int) (r : Bool) (w : World) (h : impl_within.f a0 a1 a2 = some r) :
  Calls Try.prog 101 #[.int .i64 a0, .int .i64 a1, .int .i64 a2] w fun e w' => e = .returned (.bool r) ∧ zk w w' := by
 have H : (if a0 ≥ a1 then (some (decide (a0 ≤ a2))) else (some false)) = some r := h
 clear h
 by_cases c4 : a0 ≥ a1
 ·rw [if_pos c4] at H
  have c4b0 : decide (a1 ≤ a0) = true := decide_eq_true c4
  clear c4
  obtain rfl := Option.some.inj H
  go_enter Try.func101, Try.ntmps101
  go_wp2
  go_ret
  exact ⟨by first | rfl | (simp; done) | (simp [*]; done), by repeat (first | exact zk.refl _ | apply zk.step)⟩
 ·rw [if_neg c4] at H
  have c4b0 : decide (a1 ≤ a0) = false := decide_eq_false c4
  clear c4
  obtain rfl := Option.some.inj H
  go_enter Try.func101, Try.ntmps101
  go_wp2
  go_ret
  exact ⟨by first | rfl | (simp; done) | (simp [*]; done), by repeat (first | exact zk.refl _ | apply zk.step)⟩
def cmp_Or_int.l0 : Nat → Int → List Int → Int → Int → Option (Int)
 | 0, _, _, _, _ => none
 | k + 1, x3, x6, x7, x8 => if x8 < x7 then (if 0 ≤ x8 then (if x8 < (x6.length : Int) then (if (rd x6 x8) = x3 then (cmp_Or_int.l0 k x3 x6 x7 (wrap64 (x8 + 1))) else (some (rd x6 x8))) else (none)) else (none)) else (some x3)
def cmp_Or_int.f (k : Nat) (l0 : List Int) : Option (Int) := cmp_Or_int.l0 k 0 l0 (l0.length : Int) 0
theorem cmp_Or_int.zq : ∀ k, (∀ y0 y1 y2 y3, LeO (cmp_Or_int.l0 k y0 y1 y2 y3) (cmp_Or_int.l0 (k + 1) y0 y1 y2 y3))
 | 0 => fun _ _ _ _ r h => by simp [cmp_Or_int.l0] at h
 | k + 1 => by
  have ih0 := cmp_Or_int.zq k
  ·intro y0 y1 y2 y3
   unfold cmp_Or_int.l0
   repeat' first
   | (with_reducible exact ih0 _ _ _ _)
   | (with_reducible exact LeO.refl _)
   | (with_reducible exact LeO.none _)
   | (with_reducible refine LeO.ite ?_ ?_)
   | (with_reducible refine LeO.bind ?_ (fun _ => ?_))
   | exact ih0 _ _ _ _
   | exact LeO.none _
   | refine LeO.ite ?_ ?_
   | refine LeO.bind ?_ (fun _ => ?_)
theorem cmp_Or_int.mono : ∀ a0 k, LeO (cmp_Or_int.f k a0) (cmp_Or_int.f (k + 1) a0) := by
 intro a0 k
 have ih0 := cmp_Or_int.zq k
 unfold cmp_Or_int.f
 repeat' first
   | (with_reducible exact ih0 _ _ _ _)
   | (with_reducible exact LeO.refl _)
   | (with_reducible exact LeO.none _)
   | (with_reducible refine LeO.ite ?_ ?_)
   | (with_reducible refine LeO.bind ?_ (fun _ => ?_))
   | exact ih0 _ _ _ _
   | exact LeO.none _
   | refine LeO.ite ?_ ?_
   | refine LeO.bind ?_ (fun _ => ?_)
set_option maxHeartbeats 8000000 in
set_option maxRecDepth 100000 in
theorem cmp_Or_int.calls (k : Nat) (A0 : Option Addr) (c0 : Nat) (l0 : List Int) (r : Int) (w : World) (hr0 : Kd.C (Kd.int .i64) w A0 l0.length l0) (hc0 : l0.length ≤ c0) (h : cmp_Or_int.f k l0 = some r) :
  Calls Try.prog 123 #[.slice A0 l0.length c0] w fun e w' => e = .returned (.int .i64 r) ∧ zk w w' := by
 have HR0 := qa.mk hr0
 have HC0 := qa.mk hc0
 clear hr0 hc0
 have H : (cmp_Or_int.l0 k 0 l0 (l0.length : Int) 0) = some r := h
 clear h
 have H' := qa.mk H
 clear H
 go_enter Try.func123, Try.ntmps123
 go_wp2
 go_loopg [8] k (fun kq v8 w' => ∃ (x8_1 : Int), v8 = .int .i64 x8_1 ∧ qa (cmp_Or_int.l0 kq 0 l0 (l0.length : Int) x8_1 = some r) ∧ qa (kq ≤ k) ∧ zk w w')
 case atStart => exact ⟨(0), (by first | rfl | (simp; done) | (simp [*]; done)), H', ⟨Nat.le_refl _⟩, by repeat (first | exact zk.refl _ | apply zk.step)⟩
 case round =>
  clear H'
  obtain ⟨x8_1, rfl, HA, HK1, ⟨m1, rfl⟩⟩ := hrel
  cases gk with
  | zero => exact absurd HA.out (by simp [cmp_Or_int.l0])
  | succ k1 =>
   have H := HA.out
   clear HA
   simp only [cmp_Or_int.l0] at H
   by_cases c2 : x8_1 < (l0.length : Int)
   ·rw [if_pos c2] at H
    have c2b0 : decide (x8_1 < (l0.length : Int)) = true := decide_eq_true c2
    clear c2
    by_cases c3 : 0 ≤ x8_1
    ·rw [if_pos c3] at H
     have c3b0 : decide (0 ≤ x8_1) = true := decide_eq_true c3
     clear c3
     by_cases c4 : x8_1 < (l0.length : Int)
     ·rw [if_pos c4] at H
      have c4b0 : decide (x8_1 < (l0.length : Int)) = true := decide_eq_true c4
      clear c4
      by_cases c5 : (rd l0 x8_1) = 0
      ·rw [if_pos c5] at H
       have c5b0 : ((rd l0 x8_1) == 0) = true := beq_iff_eq.mpr c5
       have c5b1 : ((rd l0 x8_1) != 0) = false := bne_eq_false_iff_eq.mpr c5
       clear c5
       have H' := qa.mk H
       clear H
       have p164 : 0 ≤ (x8_1 : Int) := of_decide_eq_true (by first | (with_reducible assumption) | assumption)
       have q164 : x8_1 < (l0.length : Int) := of_decide_eq_true (by first | (with_reducible assumption) | assumption)
       obtain ⟨ad164, e164, hx164_0⟩ := Kd.at_int HR0.out x8_1 p164 q164
       cases e164
       replace p164 := eq_true p164
       replace q164 := eq_true q164
       go_wp2
       go_roundg k1
       case measure => have := HK1.out; omega
       case rel => exact ⟨(wrap64 (x8_1 + 1)), (by first | rfl | (simp; done) | (simp [*]; done)), H', ⟨by have := HK1.out; omega⟩, by repeat (first | exact zk.refl _ | apply zk.step)⟩
      ·rw [if_neg c5] at H
       have c5b0 : ((rd l0 x8_1) == 0) = false := beq_eq_false_iff_ne.mpr c5
       have c5b1 : ((rd l0 x8_1) != 0) = true := bne_iff_ne.mpr c5
       obtain rfl := Option.some.inj H
       have p164 : 0 ≤ (x8_1 : Int) := of_decide_eq_true (by first | (with_reducible assumption) | assumption)
       have q164 : x8_1 < (l0.length : Int) := of_decide_eq_true (by first | (with_reducible assumption) | assumption)
       obtain ⟨ad164, e164, hx164_0⟩ := Kd.at_int HR0.out x8_1 p164 q164
       cases e164
       replace p164 := eq_true p164
       replace q164 := eq_true q164
       go_wp2
       go_ret
       exact ⟨by first | rfl | (simp; done) | (simp [*]; done), by repeat (first | exact zk.refl _ | apply zk.step)⟩
     ·rw [if_neg c4] at H
      exact absurd H (by simp)
    ·rw [if_neg c3] at H
     exact absurd H (by simp)
   ·rw [if_neg c2] at H
    have c2b0 : decide (x8_1 < (l0.length : Int)) = false := decide_eq_false c2
    clear c2
    obtain rfl := Option.some.inj H
    go_wp2
    go_ret
    exact ⟨by first | rfl | (simp; done) | (simp [*]; done), by repeat (first | exact zk.refl _ | apply zk.step)⟩
def cmp_isNaN_int.f (a0 : Int) : Option (Bool) := some (a0 != a0)
set_option maxHeartbeats 8000000 in
set_option maxRecDepth 100000 in
theorem cmp_isNaN_int.calls (a0 : Int) (r : Bool) (w : World) (h : cmp_isNaN_int.f a0 = some r) :
  Calls Try.prog 140 #[.int .i64 a0] w fun e w' => e = .returned (.bool r) ∧ zk w w' := by
 have H : (some (a0 != a0)) = some r := h
 clear h
 obtain rfl := Option.some.inj H
 go_enter Try.func140, Try.ntmps140
 go_wp2
 go_ret
 exact ⟨by first | rfl | (simp; done) | (simp [*]; done), by repeat (first | exact zk.refl _ | apply zk.step)⟩
def cmp_Compare_int.f (a0 : Int) (a1 : Int) : Option (Int) := (cmp_isNaN_int.f a0).bind fun t165 => ((cmp_isNaN_int.f a1).bind fun t166 => (if t165 = true then (if t166 = true then (some 0) else (some (-1))) else (if t166 = true then (some 1) else (if a0 < a1 then (some (-1)) else (if a0 > a1 then (some 1) else (some 0))))))
set_option maxHeartbeats 8000000 in
set_option maxRecDepth 100000 in
theorem cmp_Compare_int.calls (a0 : Int) (a1 : Int) (r : Int) (w : World) (h : cmp_Compare_int.f a0 a1 = some r) :
  Calls Try.prog 124 #[.int .i64 a0, .int .i64 a1] w fun e w' => e = .returned (.int .i64 r) ∧ zk w w' := by
 have H : ((cmp_isNaN_int.f a0).bind fun t165 => ((cmp_isNaN_int.f a1).bind fun t166 => (if t165 = true then (if t166 = true then (some 0) else (some (-1))) else (if t166 = true then (some 1) else (if a0 < a1 then (some (-1)) else (if a0 > a1 then (some 1) else (some 0))))))) = some r := h
 clear h
 replace H := Option.bind_eq_some_iff.mp H
 obtain ⟨t165, A30, H⟩ := H
 replace H : ((cmp_isNaN_int.f a1).bind fun t166 => (if t165 = true then (if t166 = true then (some 0) else (some (-1))) else (if t166 = true then (some 1) else (if a0 < a1 then (some (-1)) else (if a0 > a1 then (some 1) else (some 0)))))) = some r := H
 have A3 := qa.mk A30
 clear A30
 replace H := Option.bind_eq_some_iff.mp H
 obtain ⟨t166, A40, H⟩ := H
 replace H : (if t165 = true then (if t166 = true then (some 0) else (some (-1))) else (if t166 = true then (some 1) else (if a0 < a1 then (some (-1)) else (if a0 > a1 then (some 1) else (some 0))))) = some r := H
 have A4 := qa.mk A40
 clear A40
 by_cases c5 : t165 = true
 ·subst c5
  have H1 : (if t166 = true then (some 0) else (some (-1))) = some r := by rw [if_pos rfl] at H; exact H
  clear H
  have H := H1
  clear H1
  by_cases c6 : t166 = true
  ·subst c6
   have H1 : (some 0) = some r := by rw [if_pos rfl] at H; exact H
   clear H
   have H := H1
   clear H1
   obtain rfl := Option.some.inj H
   go_enter Try.func124, Try.ntmps124
   go_wp2_with (first | ((with_reducible refine zb (f := 140) rfl ?_); refine zj (some 8) rfl rfl Try.func140 (by kernel_rfl) rfl #[.int .i64 a0] rfl (by (try simp only [List.map_toArray, List.map_cons, List.map_nil]); first | done | rfl | (simp only [List.length_drop, List.length_take]; rfl)) ?_; (with_reducible refine (cmp_isNaN_int.calls a0 true _ A3.out).mono ?_); rintro e w' ⟨rfl, ⟨nd, rfl⟩⟩; refine ⟨_, rfl, ?_⟩) | ((with_reducible refine zb (f := 140) rfl ?_); refine zj (some 10) rfl rfl Try.func140 (by kernel_rfl) rfl #[.int .i64 a1] rfl (by (try simp only [List.map_toArray, List.map_cons, List.map_nil]); first | done | rfl | (simp only [List.length_drop, List.length_take]; rfl)) ?_; (with_reducible refine (cmp_isNaN_int.calls a1 true _ A4.out).mono ?_); rintro e w' ⟨rfl, ⟨nd, rfl⟩⟩; refine ⟨_, rfl, ?_⟩))
   go_ret
   exact ⟨by first | rfl | (simp; done) | (simp [*]; done), by repeat (first | exact zk.refl _ | apply zk.step)⟩
  ·replace c6 := Bool.eq_false_iff.mpr c6
   subst c6
   have H1 : (some (-1)) = some r := by rw [if_neg (show ¬ (false = true) by decide)] at H; exact H
   clear H
   have H := H1
   clear H1
   obtain rfl := Option.some.inj H
   go_enter Try.func124, Try.ntmps124
   go_wp2_with (first | ((with_reducible refine zb (f := 140) rfl ?_); refine zj (some 8) rfl rfl Try.func140 (by kernel_rfl) rfl #[.int .i64 a0] rfl (by (try simp only [List.map_toArray, List.map_cons, List.map_nil]); first | done | rfl | (simp only [List.length_drop, List.length_take]; rfl)) ?_; (with_reducible refine (cmp_isNaN_int.calls a0 true _ A3.out).mono ?_); rintro e w' ⟨rfl, ⟨nd, rfl⟩⟩; refine ⟨_, rfl, ?_⟩) | ((with_reducible refine zb (f := 140) rfl ?_); refine zj (some 10) rfl rfl Try.func140 (by kernel_rfl) rfl #[.int .i64 a1] rfl (by (try simp only [List.map_toArray, List.map_cons, List.map_nil]); first | done | rfl | (simp only [List.length_drop, List.length_take]; rfl)) ?_; (with_reducible refine (cmp_isNaN_int.calls a1 false _ A4.out).mono ?_); rintro e w' ⟨rfl, ⟨nd, rfl⟩⟩; refine ⟨_, rfl, ?_⟩))
   go_ret
   exact ⟨by first | rfl | (simp; done) | (simp [*]; done), by repeat (first | exact zk.refl _ | apply zk.step)⟩
 ·replace c5 := Bool.eq_false_iff.mpr c5
  subst c5
  have H1 : (if t166 = true then (some 1) else (if a0 < a1 then (some (-1)) else (if a0 > a1 then (some 1) else (some 0)))) = some r := by rw [if_neg (show ¬ (false = true) by decide)] at H; exact H
  clear H
  have H := H1
  clear H1
  by_cases c7 : t166 = true
  ·subst c7
   have H1 : (some 1) = some r := by rw [if_pos rfl] at H; exact H
   clear H
   have H := H1
   clear H1
   obtain rfl := Option.some.inj H
   go_enter Try.func124, Try.ntmps124
   go_wp2_with (first | ((with_reducible refine zb (f := 140) rfl ?_); refine zj (some 8) rfl rfl Try.func140 (by kernel_rfl) rfl #[.int .i64 a0] rfl (by (try simp only [List.map_toArray, List.map_cons, List.map_nil]); first | done | rfl | (simp only [List.length_drop, List.length_take]; rfl)) ?_; (with_reducible refine (cmp_isNaN_int.calls a0 false _ A3.out).mono ?_); rintro e w' ⟨rfl, ⟨nd, rfl⟩⟩; refine ⟨_, rfl, ?_⟩) | ((with_reducible refine zb (f := 140) rfl ?_); refine zj (some 10) rfl rfl Try.func140 (by kernel_rfl) rfl #[.int .i64 a1] rfl (by (try simp only [List.map_toArray, List.map_cons, List.map_nil]); first | done | rfl | (simp only [List.length_drop, List.length_take]; rfl)) ?_; (with_reducible refine (cmp_isNaN_int.calls a1 true _ A4.out).mono ?_); rintro e w' ⟨rfl, ⟨nd, rfl⟩⟩; refine ⟨_, rfl, ?_⟩))
   go_ret
   exact ⟨by first | rfl | (simp; done) | (simp [*]; done), by repeat (first | exact zk.refl _ | apply zk.step)⟩
  ·replace c7 := Bool.eq_false_iff.mpr c7
   subst c7
   have H1 : (if a0 < a1 then (some (-1)) else (if a0 > a1 then (some 1) else (some 0))) = some r := by rw [if_neg (show ¬ (false = true) by decide)] at H; exact H
   clear H
   have H := H1
   clear H1
   by_cases c8 : a0 < a1
   ·rw [if_pos c8] at H
    have c8b0 : decide (a0 < a1) = true := decide_eq_true c8
    clear c8
    obtain rfl := Option.some.inj H
    go_enter Try.func124, Try.ntmps124
    go_wp2_with (first | ((with_reducible refine zb (f := 140) rfl ?_); refine zj (some 8) rfl rfl Try.func140 (by kernel_rfl) rfl #[.int .i64 a0] rfl (by (try simp only [List.map_toArray, List.map_cons, List.map_nil]); first | done | rfl | (simp only [List.length_drop, List.length_take]; rfl)) ?_; (with_reducible refine (cmp_isNaN_int.calls a0 false _ A3.out).mono ?_); rintro e w' ⟨rfl, ⟨nd, rfl⟩⟩; refine ⟨_, rfl, ?_⟩) | ((with_reducible refine zb (f := 140) rfl ?_); refine zj (some 10) rfl rfl Try.func140 (by kernel_rfl) rfl #[.int .i64 a1] rfl (by (try simp only [List.map_toArray, List.map_cons, List.map_nil]); first | done | rfl | (simp only [List.length_drop, List.length_take]; rfl)) ?_; (with_reducible refine (cmp_isNaN_int.calls a1 false _ A4.out).mono ?_); rintro e w' ⟨rfl, ⟨nd, rfl⟩⟩; refine ⟨_, rfl, ?_⟩))
    go_ret
    exact ⟨by first | rfl | (simp; done) | (simp [*]; done), by repeat (first | exact zk.refl _ | apply zk.step)⟩
   ·rw [if_neg c8] at H
    have c8b0 : decide (a0 < a1) = false := decide_eq_false c8
    clear c8
    by_cases c9 : a0 > a1
    ·rw [if_pos c9] at H
     have c9b0 : decide (a1 < a0) = true := decide_eq_true c9
     clear c9
     obtain rfl := Option.some.inj H
     go_enter Try.func124, Try.ntmps124
     go_wp2_with (first | ((with_reducible refine zb (f := 140) rfl ?_); refine zj (some 8) rfl rfl Try.func140 (by kernel_rfl) rfl #[.int .i64 a0] rfl (by (try simp only [List.map_toArray, List.map_cons, List.map_nil]); first | done | rfl | (simp only [List.length_drop, List.length_take]; rfl)) ?_; (with_reducible refine (cmp_isNaN_int.calls a0 false _ A3.out).mono ?_); rintro e w' ⟨rfl, ⟨nd, rfl⟩⟩; refine ⟨_, rfl, ?_⟩) | ((with_reducible refine zb (f := 140) rfl ?_); refine zj (some 10) rfl rfl Try.func140 (by kernel_rfl) rfl #[.int .i64 a1] rfl (by (try simp only [List.map_toArray, List.map_cons, List.map_nil]); first | done | rfl | (simp only [List.length_drop, List.length_take]; rfl)) ?_; (with_reducible refine (cmp_isNaN_int.calls a1 false _ A4.out).mono ?_); rintro e w' ⟨rfl, ⟨nd, rfl⟩⟩; refine ⟨_, rfl, ?_⟩))
     go_ret
     exact ⟨by first | rfl | (simp; done) | (simp [*]; done), by repeat (first | exact zk.refl _ | apply zk.step)⟩
    ·rw [if_neg c9] at H
     have c9b0 : decide (a1 < a0) = false := decide_eq_false c9
     clear c9
     obtain rfl := Option.some.inj H
     go_enter Try.func124, Try.ntmps124
     go_wp2_with (first | ((with_reducible refine zb (f := 140) rfl ?_); refine zj (some 8) rfl rfl Try.func140 (by kernel_rfl) rfl #[.int .i64 a0] rfl (by (try simp only [List.map_toArray, List.map_cons, List.map_nil]); first | done | rfl | (simp only [List.length_drop, List.length_take]; rfl)) ?_; (with_reducible refine (cmp_isNaN_int.calls a0 false _ A3.out).mono ?_); rintro e w' ⟨rfl, ⟨nd, rfl⟩⟩; refine ⟨_, rfl, ?_⟩) | ((with_reducible refine zb (f := 140) rfl ?_); refine zj (some 10) rfl rfl Try.func140 (by kernel_rfl) rfl #[.int .i64 a1] rfl (by (try simp only [List.map_toArray, List.map_cons, List.map_nil]); first | done | rfl | (simp only [List.length_drop, List.length_take]; rfl)) ?_; (with_reducible refine (cmp_isNaN_int.calls a1 false _ A4.out).mono ?_); rintro e w' ⟨rfl, ⟨nd, rfl⟩⟩; refine ⟨_, rfl, ?_⟩))
     go_ret
     exact ⟨by first | rfl | (simp; done) | (simp [*]; done), by repeat (first | exact zk.refl _ | apply zk.step)⟩
end Go.Proofs.Ytohpaddcfcgmbaa.PFnExactOpenBlock
