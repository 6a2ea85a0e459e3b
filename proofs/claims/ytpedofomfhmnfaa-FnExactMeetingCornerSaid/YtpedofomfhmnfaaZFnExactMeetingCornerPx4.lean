/- Cut by wip/cut.py out of the texts of this claim (printed by the kit's printer, or this session's own): what the row's theorem does not reach is struck. Not trusted: Lean checks it. -/
import Derived.Test.YtpedofomfhmnfaaZFnExactMeetingCornerPx0
import Derived.Test.YtpedofomfhmnfaaZFnExactMeetingCornerPx1
import Derived.Test.YtpedofomfhmnfaaZFnExactMeetingCornerPx3
namespace Go.Proofs.Ytpedofomfhmnfaa.PFnExactMeetingCorner
open Go.RowKit Go.Proofs.YtpedofomfhmnfaaW.PrintWords Go.Proofs.YtpedofomfhmnfaaW.PrintLast Go.Proofs.YtpedofomfhmnfaaW.PrintMore
attribute [local go_sem] max2_int min2_int max_two min_two max_three min_three max_four min_four
set_option linter.unusedVariables false
set_option linter.unusedSimpArgs false
attribute [local go_sem high] eqA58
def spec_avShut.l0 : Nat → List (S58) → Int → Int → Int → Int → Bool → Option (Bool)
 | 0, _, _, _, _, _, _ => none
 | k + 1, x8, x9, x10, x144000, x144001, x144002 => if x10 < x9 then (if 0 ≤ x10 then (if x10 < (x8.length : Int) then (if (x144000 == ((rd_T58 x8 x10).f0) && (x144001 == ((rd_T58 x8 x10).f1) && (x144002 == ((rd_T58 x8 x10).f2)))) = true then (some true) else (spec_avShut.l0 k x8 x9 (wrap64 (x10 + 1)) x144000 x144001 x144002)) else (none)) else (none)) else (some false)
def spec_avShut.f (k : Nat) (a0_0 : Int) (a0_1 : Int) (l0_2 : List (S58)) (a1_0 : Int) (a1_1 : Int) (a1_2 : Bool) : Option (Bool) := spec_avShut.l0 k l0_2 (l0_2.length : Int) 0 a1_0 a1_1 a1_2
theorem spec_avShut.mono_l : ∀ k, (∀ y0 y1 y2 y3 y4 y5, LeO (spec_avShut.l0 k y0 y1 y2 y3 y4 y5) (spec_avShut.l0 (k + 1) y0 y1 y2 y3 y4 y5))
 | 0 => fun _ _ _ _ _ _ r h => by simp [spec_avShut.l0] at h
 | k + 1 => by
  have ih0 := spec_avShut.mono_l k
  ·intro y0 y1 y2 y3 y4 y5
   unfold spec_avShut.l0
   repeat' first
   | (with_reducible exact ih0 _ _ _ _ _ _)
   | (with_reducible exact LeO.refl _)
   | (with_reducible exact LeO.none _)
   | (with_reducible refine LeO.ite ?_ ?_)
   | (with_reducible refine LeO.bind ?_ (fun _ => ?_))
   | exact ih0 _ _ _ _ _ _
   | exact LeO.none _
   | refine LeO.ite ?_ ?_
   | refine LeO.bind ?_ (fun _ => ?_)
theorem spec_avShut.mono : ∀ a0 a1 a2 a3 a4 a5 k, LeO (spec_avShut.f k a0 a1 a2 a3 a4 a5) (spec_avShut.f (k + 1) a0 a1 a2 a3 a4 a5) := by
 intro a0 a1 a2 a3 a4 a5 k
 have ih0 := spec_avShut.mono_l k
 unfold spec_avShut.f
 repeat' first
   | (with_reducible exact ih0 _ _ _ _ _ _)
   | (with_reducible exact LeO.refl _)
   | (with_reducible exact LeO.none _)
   | (with_reducible refine LeO.ite ?_ ?_)
   | (with_reducible refine LeO.bind ?_ (fun _ => ?_))
   | exact ih0 _ _ _ _ _ _
   | exact LeO.none _
   | refine LeO.ite ?_ ?_
   | refine LeO.bind ?_ (fun _ => ?_)
set_option maxHeartbeats 8000000 in
set_option maxRecDepth 100000 in
theorem spec_avShut.calls (k : Nat) (a0_0 : Int) (a0_1 : Int) (A0_2 : Option Addr) (c0_2 : Nat) (l0_2 : List (S58)) (a1_0 : Int) (a1_1 : Int) (a1_2 : Bool) (r : Bool) (w : World) (hr0_2 : Kd.C k58 w A0_2 l0_2.length l0_2) (hc0_2 : l0_2.length ≤ c0_2) (h : spec_avShut.f k a0_0 a0_1 l0_2 a1_0 a1_1 a1_2 = some r) :
  Calls Try.prog 51 #[.agg #[.int .i64 a0_0, .int .i64 a0_1, .slice A0_2 l0_2.length c0_2], .agg #[.int .i64 a1_0, .int .i64 a1_1, .bool a1_2]] w fun e w' => e = .returned (.bool r) ∧ Below w.heap.size w w' := by
 have hu31 := Try.underlying31
 have hu58 := Try.underlying58
 have HR0_2 := Aside0.mk hr0_2
 have HC0_2 := Aside0.mk hc0_2
 clear hr0_2 hc0_2
 have HB := Aside0.mk (Below.refl w.heap.size w)
 have H : (spec_avShut.l0 k l0_2 (l0_2.length : Int) 0 a1_0 a1_1 a1_2) = some r := h
 clear h
 have H' := Aside0.mk H
 clear H
 go_enter Try.func51, Try.ntmps51
 go_wp2_with (first | ((with_reducible refine gate_dst (N := 2) rfl ?_); refine box_event ?hg (N := 2) ?hd (cs := #[.int .i64 a0_0, .int .i64 a0_1, .slice A0_2 l0_2.length c0_2]) (t := 31) ?hr ?_; (case hd => rfl); (case hg => rfl); (case hr => first | (go_simp; done) | (go_simp; rfl)); intro gb142 hg w3 hbox hb; have n0_ := Aside0.mk (below_step (by repeat (first | (with_reducible first | exact HB.out | apply below_alloc | apply pw_below_drewN | apply below_drew1) | exact HB.out)) hb); have n1_ := Aside0.mk (hbox); have n2_ := Aside0.mk ((by rw [hg]; exact (below_size (by repeat (first | (with_reducible first | exact HB.out | apply below_alloc | apply pw_below_drewN | apply below_drew1) | exact HB.out))) : w.heap.size ≤ gb142)); have n3_ := Aside0.mk ((by rw [hg]; exact (below_size (by repeat (first | (with_reducible first | exact HB.out | apply below_alloc | apply pw_below_drewN | apply below_drew1) | exact HB.out))) : w.heap.size ≤ gb142)); clear HB; have HB := n0_; have BK142 := n1_; have GW142 := n2_; have GE142 := n3_; clear n0_ n1_ n2_ n3_; clear hb hbox hg) | ((with_reducible refine gate_dst (N := 3) rfl ?_); refine box_event ?hg (N := 3) ?hd (cs := #[.int .i64 a1_0, .int .i64 a1_1, .bool a1_2]) (t := 58) ?hr ?_; (case hd => rfl); (case hg => rfl); (case hr => first | (go_simp; done) | (go_simp; rfl)); intro gb143 hg w4 hbox hb; have n0_ := Aside0.mk (blk_below (g := gb142) (o := .cells #[.int .i64 a0_0, .int .i64 a0_1, .slice A0_2 l0_2.length c0_2] 31 (0, 0)) (by (with_reducible repeat (first | refine blk_drewN ?_ _ | refine blk_drew ?_ | refine blk_alloc ?_ _)); exact BK142.out) hb); have n1_ := Aside0.mk (below_step (by repeat (first | (with_reducible first | exact HB.out | apply below_alloc | apply pw_below_drewN | apply below_drew1 | refine below_set ?_ GE142.out) | exact HB.out)) hb); have n2_ := Aside0.mk (hbox); have n3_ := Aside0.mk ((by rw [hg]; exact (below_size (by repeat (first | (with_reducible first | exact HB.out | apply below_alloc | apply pw_below_drewN | apply below_drew1 | refine below_set ?_ GE142.out) | exact HB.out))) : w.heap.size ≤ gb143)); have n4_ := Aside0.mk ((by rw [hg]; exact (below_size (by repeat (first | (with_reducible first | exact HB.out | apply below_alloc | apply pw_below_drewN | apply below_drew1 | refine below_set ?_ GE142.out) | exact HB.out))) : w.heap.size ≤ gb143)); have n5_ := Aside0.mk ((by rw [hg]; exact Nat.ne_of_lt (blk_lt (g := gb142) (o := .cells #[.int .i64 a0_0, .int .i64 a0_1, .slice A0_2 l0_2.length c0_2] 31 (0, 0)) (by (with_reducible repeat (first | refine blk_drewN ?_ _ | refine blk_drew ?_ | refine blk_alloc ?_ _)); exact BK142.out)) : gb142 ≠ gb143)); have n6_ := Aside0.mk ((by rw [hg]; exact Nat.ne_of_gt (blk_lt (g := gb142) (o := .cells #[.int .i64 a0_0, .int .i64 a0_1, .slice A0_2 l0_2.length c0_2] 31 (0, 0)) (by (with_reducible repeat (first | refine blk_drewN ?_ _ | refine blk_drew ?_ | refine blk_alloc ?_ _)); exact BK142.out)) : gb143 ≠ gb142)); clear BK142; clear HB; have BK142 := n0_; have HB := n1_; have BK143 := n2_; have GW143 := n3_; have GE143 := n4_; have NB142_143 := n5_; have NB143_142 := n6_; clear n0_ n1_ n2_ n3_ n4_ n5_ n6_; clear hb hbox hg; have hnb5 := NB142_143.out; have hnc5 := NB143_142.out; have hcz6_0 : w4.cell? ⟨gb142, 0, none⟩ = some (.int .i64 a0_0) := (blk_cell BK142.out 0).trans rfl; have hcz6_1 : w4.cell? ⟨gb142, 1, none⟩ = some (.int .i64 a0_1) := (blk_cell BK142.out 1).trans rfl; have hcz6_2 : w4.cell? ⟨gb142, 2, none⟩ = some (.slice A0_2 l0_2.length c0_2) := (blk_cell BK142.out 2).trans rfl; have hfz6_0 := blk_frozen BK142.out 0; have hfz6_1 := blk_frozen BK142.out 1; have hfz6_2 := blk_frozen BK142.out 2))
 go_loopg [10] k (fun kq v10 w' => ∃ (x10_1 : Int), v10 = .int .i64 x10_1 ∧ Aside0 (spec_avShut.l0 kq l0_2 (l0_2.length : Int) x10_1 a1_0 a1_1 a1_2 = some r) ∧ Aside0 (kq ≤ k) ∧ Aside0 (w'.heap[gb142]? = some (.cells #[.int .i64 a0_0, .int .i64 a0_1, (.slice A0_2 l0_2.length c0_2)] 31 (0, 0))) ∧ Aside0 (w'.heap[gb143]? = some (.cells #[.int .i64 a1_0, .int .i64 a1_1, .bool a1_2] 58 (0, 0))) ∧ Aside0 (Below w.heap.size w w'))
 case atStart => exact ⟨(0), (by first | rfl | (simp; done) | (simp [*]; done)), H', ⟨Nat.le_refl _⟩, ⟨by (with_reducible repeat (first | refine blk_drewN ?_ _ | refine blk_drew ?_ | refine blk_alloc ?_ _)); exact BK142.out⟩, ⟨by (with_reducible repeat (first | refine blk_drewN ?_ _ | refine blk_drew ?_ | refine blk_alloc ?_ _)); exact BK143.out⟩, ⟨by repeat (first | (with_reducible first | exact HB.out | apply below_alloc | apply pw_below_drewN | apply below_drew1 | refine below_set ?_ GE142.out | refine below_set ?_ GE143.out) | exact HB.out)⟩⟩
 case round =>
  clear H'
  try clear hcz6_0
  try clear hcz6_1
  try clear hcz6_2
  try clear hfz6_0
  try clear hfz6_1
  try clear hfz6_2
  obtain ⟨x10_1, rfl, HA, HK1, BK142, BK143, HB⟩ := hrel
  cases gk with
  | zero => exact absurd HA.out (by simp [spec_avShut.l0])
  | succ k1 =>
   have H := HA.out
   clear HA
   simp only [spec_avShut.l0] at H
   by_cases c7 : x10_1 < (l0_2.length : Int)
   ·rw [if_pos c7] at H
    have c7b0 : decide (x10_1 < (l0_2.length : Int)) = true := decide_eq_true c7
    clear c7
    by_cases c8 : 0 ≤ x10_1
    ·rw [if_pos c8] at H
     have c8b0 : decide (0 ≤ x10_1) = true := decide_eq_true c8
     clear c8
     by_cases c9 : x10_1 < (l0_2.length : Int)
     ·rw [if_pos c9] at H
      have c9b0 : decide (x10_1 < (l0_2.length : Int)) = true := decide_eq_true c9
      clear c9
      by_cases c10 : (a1_0 == ((rd_T58 l0_2 x10_1).f0) && (a1_1 == ((rd_T58 l0_2 x10_1).f1) && (a1_2 == ((rd_T58 l0_2 x10_1).f2)))) = true
      ·rw [if_pos c10] at H
       have c10b0 : (a1_0 == ((rd_T58 l0_2 x10_1).f0) && (a1_1 == ((rd_T58 l0_2 x10_1).f1) && (a1_2 == ((rd_T58 l0_2 x10_1).f2)))) = true := c10
       (try (have c10b1 : decide (a1_0 = ((rd_T58 l0_2 x10_1).f0) && (a1_1 == ((rd_T58 l0_2 x10_1).f1) && (a1_2 == ((rd_T58 l0_2 x10_1).f2)))) = true := by simpa using c10))
       (try (have c10b2 : (a1_0 == ((rd_T58 l0_2 x10_1).f0) && (a1_1 == ((rd_T58 l0_2 x10_1).f1) && (a1_2 == ((rd_T58 l0_2 x10_1).f2)))) = true := by simpa using c10))
       clear c10
       obtain rfl := Option.some.inj H
       have p144 : 0 ≤ (x10_1 : Int) := of_decide_eq_true (by first | (with_reducible assumption) | assumption)
       have q144 : x10_1 < (l0_2.length : Int) := of_decide_eq_true (by first | (with_reducible assumption) | assumption)
       obtain ⟨ad144, e144, hx144_0, hx144_1, hx144_2⟩ := at_T58 HR0_2.out x10_1 p144 q144
       cases e144
       replace hx144_0 := (HB.out.cell (World.block_lt_of_cell? w _ hx144_0)).trans hx144_0
       replace hx144_1 := (HB.out.cell (World.block_lt_of_cell? w _ hx144_1)).trans hx144_1
       replace hx144_2 := (HB.out.cell (World.block_lt_of_cell? w _ hx144_2)).trans hx144_2
       replace p144 := eq_true p144
       replace q144 := eq_true q144
       go_wp2_with (first | ((with_reducible refine gate_dst (N := 6) rfl ?_); refine box_event ?hg (N := 6) ?hd (cs := #[.int .i64 0, .int .i64 0, .bool false]) (t := 58) ?hr ?_; (case hd => rfl); (case hg => rfl); (case hr => first | (go_simp; done) | (go_simp; rfl)); intro gb145 hg w11 hbox hb; have n0_ := Aside0.mk (blk_below (g := gb142) (o := .cells #[.int .i64 a0_0, .int .i64 a0_1, .slice (some ad144) l0_2.length c0_2] 31 (0, 0)) (by (with_reducible repeat (first | refine blk_drewN ?_ _ | refine blk_drew ?_ | refine blk_alloc ?_ _)); exact BK142.out) hb); have n1_ := Aside0.mk (blk_below (g := gb143) (o := .cells #[.int .i64 a1_0, .int .i64 a1_1, .bool a1_2] 58 (0, 0)) (by (with_reducible repeat (first | refine blk_drewN ?_ _ | refine blk_drew ?_ | refine blk_alloc ?_ _)); exact BK143.out) hb); have n2_ := Aside0.mk (below_step (by repeat (first | (with_reducible first | exact HB.out | apply below_alloc | apply pw_below_drewN | apply below_drew1 | refine below_set ?_ GE142.out | refine below_set ?_ GE143.out) | exact HB.out)) hb); have n3_ := Aside0.mk (hbox); have n4_ := Aside0.mk ((by rw [hg]; exact (below_size (by repeat (first | (with_reducible first | exact HB.out | apply below_alloc | apply pw_below_drewN | apply below_drew1 | refine below_set ?_ GE142.out | refine below_set ?_ GE143.out) | exact HB.out))) : w.heap.size ≤ gb145)); have n5_ := Aside0.mk ((by rw [hg]; exact (below_size (by repeat (first | (with_reducible first | exact HB.out | apply below_alloc | apply pw_below_drewN | apply below_drew1 | refine below_set ?_ GE142.out | refine below_set ?_ GE143.out) | exact HB.out))) : w.heap.size ≤ gb145)); have n6_ := Aside0.mk ((by rw [hg]; exact Nat.ne_of_lt (blk_lt (g := gb142) (o := .cells #[.int .i64 a0_0, .int .i64 a0_1, .slice (some ad144) l0_2.length c0_2] 31 (0, 0)) (by (with_reducible repeat (first | refine blk_drewN ?_ _ | refine blk_drew ?_ | refine blk_alloc ?_ _)); exact BK142.out)) : gb142 ≠ gb145)); have n7_ := Aside0.mk ((by rw [hg]; exact Nat.ne_of_gt (blk_lt (g := gb142) (o := .cells #[.int .i64 a0_0, .int .i64 a0_1, .slice (some ad144) l0_2.length c0_2] 31 (0, 0)) (by (with_reducible repeat (first | refine blk_drewN ?_ _ | refine blk_drew ?_ | refine blk_alloc ?_ _)); exact BK142.out)) : gb145 ≠ gb142)); have n8_ := Aside0.mk ((by rw [hg]; exact Nat.ne_of_lt (blk_lt (g := gb143) (o := .cells #[.int .i64 a1_0, .int .i64 a1_1, .bool a1_2] 58 (0, 0)) (by (with_reducible repeat (first | refine blk_drewN ?_ _ | refine blk_drew ?_ | refine blk_alloc ?_ _)); exact BK143.out)) : gb143 ≠ gb145)); have n9_ := Aside0.mk ((by rw [hg]; exact Nat.ne_of_gt (blk_lt (g := gb143) (o := .cells #[.int .i64 a1_0, .int .i64 a1_1, .bool a1_2] 58 (0, 0)) (by (with_reducible repeat (first | refine blk_drewN ?_ _ | refine blk_drew ?_ | refine blk_alloc ?_ _)); exact BK143.out)) : gb145 ≠ gb143)); clear BK142; clear BK143; clear HB; have BK142 := n0_; have BK143 := n1_; have HB := n2_; have BK145 := n3_; have GW145 := n4_; have GE145 := n5_; have NB142_145 := n6_; have NB145_142 := n7_; have NB143_145 := n8_; have NB145_143 := n9_; clear n0_ n1_ n2_ n3_ n4_ n5_ n6_ n7_ n8_ n9_; clear hb hbox hg; have hnb12 := NB145_142.out; have hnc12 := NB142_145.out; have hnb13 := NB145_143.out; have hnc13 := NB143_145.out; have hcz14_0 : w11.cell? ⟨gb145, 0, none⟩ = some (.int .i64 0) := (blk_cell BK145.out 0).trans rfl; have hcz14_1 : w11.cell? ⟨gb145, 1, none⟩ = some (.int .i64 0) := (blk_cell BK145.out 1).trans rfl; have hcz14_2 : w11.cell? ⟨gb145, 2, none⟩ = some (.bool false) := (blk_cell BK145.out 2).trans rfl; have hfz14_0 := blk_frozen BK145.out 0; have hfz14_1 := blk_frozen BK145.out 1; have hfz14_2 := blk_frozen BK145.out 2; have hnb15 := NB143_142.out; have hnc15 := NB142_143.out; have hcz16_0 : w11.cell? ⟨gb143, 0, none⟩ = some (.int .i64 a1_0) := (blk_cell BK143.out 0).trans rfl; have hcz16_1 : w11.cell? ⟨gb143, 1, none⟩ = some (.int .i64 a1_1) := (blk_cell BK143.out 1).trans rfl; have hcz16_2 : w11.cell? ⟨gb143, 2, none⟩ = some (.bool a1_2) := (blk_cell BK143.out 2).trans rfl; have hfz16_0 := blk_frozen BK143.out 0; have hfz16_1 := blk_frozen BK143.out 1; have hfz16_2 := blk_frozen BK143.out 2))
       go_ret
       exact ⟨by first | rfl | (simp [errW_none, errW_some] <;> rfl) | (simp [*, errW_none, errW_some] <;> rfl), by repeat (first | (with_reducible first | exact HB.out | apply below_alloc | apply pw_below_drewN | apply below_drew1 | refine below_set ?_ GE142.out | refine below_set ?_ GE143.out | refine below_set ?_ GE145.out) | exact HB.out)⟩
      ·rw [if_neg c10] at H
       have c10b0 : (a1_0 == ((rd_T58 l0_2 x10_1).f0) && (a1_1 == ((rd_T58 l0_2 x10_1).f1) && (a1_2 == ((rd_T58 l0_2 x10_1).f2)))) = false := by simpa using c10
       (try (have c10b1 : decide (a1_0 = ((rd_T58 l0_2 x10_1).f0) && (a1_1 == ((rd_T58 l0_2 x10_1).f1) && (a1_2 == ((rd_T58 l0_2 x10_1).f2)))) = false := by simpa using c10))
       (try (have c10b2 : (a1_0 == ((rd_T58 l0_2 x10_1).f0) && (a1_1 == ((rd_T58 l0_2 x10_1).f1) && (a1_2 == ((rd_T58 l0_2 x10_1).f2)))) = false := by simpa using c10))
       (try (have c10b3 : ¬ (a1_0 = ((rd_T58 l0_2 x10_1).f0) && (a1_1 == ((rd_T58 l0_2 x10_1).f1) && (a1_2 == ((rd_T58 l0_2 x10_1).f2)))) := by simpa using c10))
       clear c10
       have H' := Aside0.mk H
       clear H
       have p144 : 0 ≤ (x10_1 : Int) := of_decide_eq_true (by first | (with_reducible assumption) | assumption)
       have q144 : x10_1 < (l0_2.length : Int) := of_decide_eq_true (by first | (with_reducible assumption) | assumption)
       obtain ⟨ad144, e144, hx144_0, hx144_1, hx144_2⟩ := at_T58 HR0_2.out x10_1 p144 q144
       cases e144
       replace hx144_0 := (HB.out.cell (World.block_lt_of_cell? w _ hx144_0)).trans hx144_0
       replace hx144_1 := (HB.out.cell (World.block_lt_of_cell? w _ hx144_1)).trans hx144_1
       replace hx144_2 := (HB.out.cell (World.block_lt_of_cell? w _ hx144_2)).trans hx144_2
       replace p144 := eq_true p144
       replace q144 := eq_true q144
       go_wp2_with (first | ((with_reducible refine gate_dst (N := 6) rfl ?_); refine box_event ?hg (N := 6) ?hd (cs := #[.int .i64 0, .int .i64 0, .bool false]) (t := 58) ?hr ?_; (case hd => rfl); (case hg => rfl); (case hr => first | (go_simp; done) | (go_simp; rfl)); intro gb145 hg w17 hbox hb; have n0_ := Aside0.mk (blk_below (g := gb142) (o := .cells #[.int .i64 a0_0, .int .i64 a0_1, .slice (some ad144) l0_2.length c0_2] 31 (0, 0)) (by (with_reducible repeat (first | refine blk_drewN ?_ _ | refine blk_drew ?_ | refine blk_alloc ?_ _)); exact BK142.out) hb); have n1_ := Aside0.mk (blk_below (g := gb143) (o := .cells #[.int .i64 a1_0, .int .i64 a1_1, .bool a1_2] 58 (0, 0)) (by (with_reducible repeat (first | refine blk_drewN ?_ _ | refine blk_drew ?_ | refine blk_alloc ?_ _)); exact BK143.out) hb); have n2_ := Aside0.mk (below_step (by repeat (first | (with_reducible first | exact HB.out | apply below_alloc | apply pw_below_drewN | apply below_drew1 | refine below_set ?_ GE142.out | refine below_set ?_ GE143.out) | exact HB.out)) hb); have n3_ := Aside0.mk (hbox); have n4_ := Aside0.mk ((by rw [hg]; exact (below_size (by repeat (first | (with_reducible first | exact HB.out | apply below_alloc | apply pw_below_drewN | apply below_drew1 | refine below_set ?_ GE142.out | refine below_set ?_ GE143.out) | exact HB.out))) : w.heap.size ≤ gb145)); have n5_ := Aside0.mk ((by rw [hg]; exact (below_size (by repeat (first | (with_reducible first | exact HB.out | apply below_alloc | apply pw_below_drewN | apply below_drew1 | refine below_set ?_ GE142.out | refine below_set ?_ GE143.out) | exact HB.out))) : w.heap.size ≤ gb145)); have n6_ := Aside0.mk ((by rw [hg]; exact Nat.ne_of_lt (blk_lt (g := gb142) (o := .cells #[.int .i64 a0_0, .int .i64 a0_1, .slice (some ad144) l0_2.length c0_2] 31 (0, 0)) (by (with_reducible repeat (first | refine blk_drewN ?_ _ | refine blk_drew ?_ | refine blk_alloc ?_ _)); exact BK142.out)) : gb142 ≠ gb145)); have n7_ := Aside0.mk ((by rw [hg]; exact Nat.ne_of_gt (blk_lt (g := gb142) (o := .cells #[.int .i64 a0_0, .int .i64 a0_1, .slice (some ad144) l0_2.length c0_2] 31 (0, 0)) (by (with_reducible repeat (first | refine blk_drewN ?_ _ | refine blk_drew ?_ | refine blk_alloc ?_ _)); exact BK142.out)) : gb145 ≠ gb142)); have n8_ := Aside0.mk ((by rw [hg]; exact Nat.ne_of_lt (blk_lt (g := gb143) (o := .cells #[.int .i64 a1_0, .int .i64 a1_1, .bool a1_2] 58 (0, 0)) (by (with_reducible repeat (first | refine blk_drewN ?_ _ | refine blk_drew ?_ | refine blk_alloc ?_ _)); exact BK143.out)) : gb143 ≠ gb145)); have n9_ := Aside0.mk ((by rw [hg]; exact Nat.ne_of_gt (blk_lt (g := gb143) (o := .cells #[.int .i64 a1_0, .int .i64 a1_1, .bool a1_2] 58 (0, 0)) (by (with_reducible repeat (first | refine blk_drewN ?_ _ | refine blk_drew ?_ | refine blk_alloc ?_ _)); exact BK143.out)) : gb145 ≠ gb143)); clear BK142; clear BK143; clear HB; have BK142 := n0_; have BK143 := n1_; have HB := n2_; have BK145 := n3_; have GW145 := n4_; have GE145 := n5_; have NB142_145 := n6_; have NB145_142 := n7_; have NB143_145 := n8_; have NB145_143 := n9_; clear n0_ n1_ n2_ n3_ n4_ n5_ n6_ n7_ n8_ n9_; clear hb hbox hg; have hnb18 := NB145_142.out; have hnc18 := NB142_145.out; have hnb19 := NB145_143.out; have hnc19 := NB143_145.out; have hcz20_0 : w17.cell? ⟨gb145, 0, none⟩ = some (.int .i64 0) := (blk_cell BK145.out 0).trans rfl; have hcz20_1 : w17.cell? ⟨gb145, 1, none⟩ = some (.int .i64 0) := (blk_cell BK145.out 1).trans rfl; have hcz20_2 : w17.cell? ⟨gb145, 2, none⟩ = some (.bool false) := (blk_cell BK145.out 2).trans rfl; have hfz20_0 := blk_frozen BK145.out 0; have hfz20_1 := blk_frozen BK145.out 1; have hfz20_2 := blk_frozen BK145.out 2; have hnb21 := NB143_142.out; have hnc21 := NB142_143.out; have hcz22_0 : w17.cell? ⟨gb143, 0, none⟩ = some (.int .i64 a1_0) := (blk_cell BK143.out 0).trans rfl; have hcz22_1 : w17.cell? ⟨gb143, 1, none⟩ = some (.int .i64 a1_1) := (blk_cell BK143.out 1).trans rfl; have hcz22_2 : w17.cell? ⟨gb143, 2, none⟩ = some (.bool a1_2) := (blk_cell BK143.out 2).trans rfl; have hfz22_0 := blk_frozen BK143.out 0; have hfz22_1 := blk_frozen BK143.out 1; have hfz22_2 := blk_frozen BK143.out 2))
       go_roundg k1
       case measure => have := HK1.out; omega
       case rel => exact ⟨(wrap64 (x10_1 + 1)), (by first | rfl | (simp; done) | (simp [*]; done)), H', ⟨by have := HK1.out; omega⟩, ⟨by (with_reducible repeat (first | refine blk_drewN ?_ _ | refine blk_drew ?_ | refine blk_alloc ?_ _)); refine blk_far ?_ NB142_145.out _; (with_reducible repeat (first | refine blk_drewN ?_ _ | refine blk_drew ?_ | refine blk_alloc ?_ _)); refine blk_far ?_ NB142_145.out _; (with_reducible repeat (first | refine blk_drewN ?_ _ | refine blk_drew ?_ | refine blk_alloc ?_ _)); refine blk_far ?_ NB142_145.out _; (with_reducible repeat (first | refine blk_drewN ?_ _ | refine blk_drew ?_ | refine blk_alloc ?_ _)); exact BK142.out⟩, ⟨by (with_reducible repeat (first | refine blk_drewN ?_ _ | refine blk_drew ?_ | refine blk_alloc ?_ _)); refine blk_far ?_ NB143_145.out _; (with_reducible repeat (first | refine blk_drewN ?_ _ | refine blk_drew ?_ | refine blk_alloc ?_ _)); refine blk_far ?_ NB143_145.out _; (with_reducible repeat (first | refine blk_drewN ?_ _ | refine blk_drew ?_ | refine blk_alloc ?_ _)); refine blk_far ?_ NB143_145.out _; (with_reducible repeat (first | refine blk_drewN ?_ _ | refine blk_drew ?_ | refine blk_alloc ?_ _)); exact BK143.out⟩, ⟨by repeat (first | (with_reducible first | exact HB.out | apply below_alloc | apply pw_below_drewN | apply below_drew1 | refine below_set ?_ GE142.out | refine below_set ?_ GE143.out | refine below_set ?_ GE145.out) | exact HB.out)⟩⟩
     ·rw [if_neg c9] at H
      exact absurd H (by simp)
    ·rw [if_neg c8] at H
     exact absurd H (by simp)
   ·rw [if_neg c7] at H
    have c7b0 : decide (x10_1 < (l0_2.length : Int)) = false := decide_eq_false c7
    clear c7
    obtain rfl := Option.some.inj H
    go_wp2
    go_ret
    exact ⟨by first | rfl | (simp [errW_none, errW_some] <;> rfl) | (simp [*, errW_none, errW_some] <;> rfl), by repeat (first | (with_reducible first | exact HB.out | apply below_alloc | apply pw_below_drewN | apply below_drew1 | refine below_set ?_ GE142.out | refine below_set ?_ GE143.out) | exact HB.out)⟩
def spec_avStep.j0 : Nat → Int → Int → Int → Int → List (S58) → Int → Int → Bool → Option (Int × Int × Bool)
 | 0, _, _, _, _, _, _, _, _ => none
 | k + 1, x12, x13, x147000, x147001, x147002, x148000, x148001, x148002 => (spec_avIs.f k x147000 x147001 x148000 x148001 x148002).bind fun t148 => (if t148 = true then ((spec_avShut.f k x147000 x147001 x147002 x148000 x148001 x148002).bind fun t149 => (if t149 = true then (some (0, 0, false)) else (some (x12, x13, true)))) else (some (0, 0, false)))
def spec_avStep.f (k : Nat) (a0_0 : Int) (a0_1 : Int) (l0_2 : List (S58)) (a1 : Int) (a2 : Int) (a3 : Int) : Option (Int × Int × Bool) := if a3 = 101 then (spec_avStep.j0 k (wrap64 (a1 + 1)) a2 a0_0 a0_1 l0_2 a1 a2 false) else (if a3 = 119 then (spec_avStep.j0 k (wrap64 (a1 - 1)) a2 a0_0 a0_1 l0_2 (wrap64 (a1 - 1)) a2 false) else (if a3 = 110 then (spec_avStep.j0 k a1 (wrap64 (a2 + 1)) a0_0 a0_1 l0_2 a1 a2 true) else (if a3 = 115 then (spec_avStep.j0 k a1 (wrap64 (a2 - 1)) a0_0 a0_1 l0_2 a1 (wrap64 (a2 - 1)) true) else (some (0, 0, false)))))
theorem spec_avStep.mono_l : ∀ k, (∀ y0 y1 y2 y3 y4 y5 y6 y7, LeO (spec_avStep.j0 k y0 y1 y2 y3 y4 y5 y6 y7) (spec_avStep.j0 (k + 1) y0 y1 y2 y3 y4 y5 y6 y7))
 | 0 => fun _ _ _ _ _ _ _ _ r h => by simp [spec_avStep.j0] at h
 | k + 1 => by
  have ih0 := spec_avStep.mono_l k
  ·intro y0 y1 y2 y3 y4 y5 y6 y7
   unfold spec_avStep.j0
   repeat' first
   | (with_reducible exact ih0 _ _ _ _ _ _ _ _)
   | (with_reducible exact spec_avIs.mono _ _ _ _ _ _)
   | (with_reducible exact spec_avShut.mono _ _ _ _ _ _ _)
   | (with_reducible exact LeO.refl _)
   | (with_reducible exact LeO.none _)
   | (with_reducible refine LeO.ite ?_ ?_)
   | (with_reducible refine LeO.bind ?_ (fun _ => ?_))
   | exact ih0 _ _ _ _ _ _ _ _
   | exact spec_avIs.mono _ _ _ _ _ _
   | exact spec_avShut.mono _ _ _ _ _ _ _
   | exact LeO.none _
   | refine LeO.ite ?_ ?_
   | refine LeO.bind ?_ (fun _ => ?_)
theorem spec_avStep.mono : ∀ a0 a1 a2 a3 a4 a5 k, LeO (spec_avStep.f k a0 a1 a2 a3 a4 a5) (spec_avStep.f (k + 1) a0 a1 a2 a3 a4 a5) := by
 intro a0 a1 a2 a3 a4 a5 k
 have ih0 := spec_avStep.mono_l k
 unfold spec_avStep.f
 repeat' first
   | (with_reducible exact ih0 _ _ _ _ _ _ _ _)
   | (with_reducible exact spec_avIs.mono _ _ _ _ _ _)
   | (with_reducible exact spec_avShut.mono _ _ _ _ _ _ _)
   | (with_reducible exact LeO.refl _)
   | (with_reducible exact LeO.none _)
   | (with_reducible refine LeO.ite ?_ ?_)
   | (with_reducible refine LeO.bind ?_ (fun _ => ?_))
   | exact ih0 _ _ _ _ _ _ _ _
   | exact spec_avIs.mono _ _ _ _ _ _
   | exact spec_avShut.mono _ _ _ _ _ _ _
   | exact LeO.none _
   | refine LeO.ite ?_ ?_
   | refine LeO.bind ?_ (fun _ => ?_)
set_option maxHeartbeats 8000000 in
set_option maxRecDepth 100000 in
theorem spec_avStep.calls (k : Nat) (a0_0 : Int) (a0_1 : Int) (A0_2 : Option Addr) (c0_2 : Nat) (l0_2 : List (S58)) (a1 : Int) (a2 : Int) (a3 : Int) (r1 : Int) (r2 : Int) (r3 : Bool) (w : World) (hr0_2 : Kd.C k58 w A0_2 l0_2.length l0_2) (hc0_2 : l0_2.length ≤ c0_2) (h : spec_avStep.f k a0_0 a0_1 l0_2 a1 a2 a3 = some (r1, r2, r3)) :
  Calls Try.prog 42 #[.agg #[.int .i64 a0_0, .int .i64 a0_1, .slice A0_2 l0_2.length c0_2], .int .i64 a1, .int .i64 a2, .int .u8 a3] w fun e w' => e = .returned (.tuple #[.int .i64 r1, .int .i64 r2, .bool r3]) ∧ Below w.heap.size w w' := by
 have hu31 := Try.underlying31
 have hu58 := Try.underlying58
 have HR0_2 := Aside0.mk hr0_2
 have HC0_2 := Aside0.mk hc0_2
 clear hr0_2 hc0_2
 have HB := Aside0.mk (Below.refl w.heap.size w)
 have H : (if a3 = 101 then (spec_avStep.j0 k (wrap64 (a1 + 1)) a2 a0_0 a0_1 l0_2 a1 a2 false) else (if a3 = 119 then (spec_avStep.j0 k (wrap64 (a1 - 1)) a2 a0_0 a0_1 l0_2 (wrap64 (a1 - 1)) a2 false) else (if a3 = 110 then (spec_avStep.j0 k a1 (wrap64 (a2 + 1)) a0_0 a0_1 l0_2 a1 a2 true) else (if a3 = 115 then (spec_avStep.j0 k a1 (wrap64 (a2 - 1)) a0_0 a0_1 l0_2 a1 (wrap64 (a2 - 1)) true) else (some (0, 0, false)))))) = some (r1, r2, r3) := h
 clear h
 have HC5 := Aside0.mk H
 clear H
 go_enter Try.func42, Try.ntmps42
 go_upto_block 0 with (first | ((with_reducible refine gate_dst (N := 4) rfl ?_); refine box_event ?hg (N := 4) ?hd (cs := #[.int .i64 a0_0, .int .i64 a0_1, .slice A0_2 l0_2.length c0_2]) (t := 31) ?hr ?_; (case hd => rfl); (case hg => rfl); (case hr => first | (go_simp; done) | (go_simp; rfl)); intro gb146 hg w6 hbox hb; have n0_ := Aside0.mk (below_step (by repeat (first | (with_reducible first | exact HB.out | apply below_alloc | apply pw_below_drewN | apply below_drew1) | exact HB.out)) hb); have n1_ := Aside0.mk (hbox); have n2_ := Aside0.mk ((by rw [hg]; exact (below_size (by repeat (first | (with_reducible first | exact HB.out | apply below_alloc | apply pw_below_drewN | apply below_drew1) | exact HB.out))) : w.heap.size ≤ gb146)); have n3_ := Aside0.mk ((by rw [hg]; exact (below_size (by repeat (first | (with_reducible first | exact HB.out | apply below_alloc | apply pw_below_drewN | apply below_drew1) | exact HB.out))) : w.heap.size ≤ gb146)); clear HB; have HB := n0_; have BK146 := n1_; have GW146 := n2_; have GE146 := n3_; clear n0_ n1_ n2_ n3_; clear hb hbox hg) | ((with_reducible refine gate_dst (N := 11) rfl ?_); refine box_event ?hg (N := 11) ?hd (cs := #[.int .i64 0, .int .i64 0, .bool false]) (t := 58) ?hr ?_; (case hd => rfl); (case hg => rfl); (case hr => first | (go_simp; done) | (go_simp; rfl)); intro gb147 hg w7 hbox hb; have n0_ := Aside0.mk (blk_below (g := gb146) (o := .cells #[.int .i64 a0_0, .int .i64 a0_1, .slice A0_2 l0_2.length c0_2] 31 (0, 0)) (by (with_reducible repeat (first | refine blk_drewN ?_ _ | refine blk_drew ?_ | refine blk_alloc ?_ _)); exact BK146.out) hb); have n1_ := Aside0.mk (below_step (by repeat (first | (with_reducible first | exact HB.out | apply below_alloc | apply pw_below_drewN | apply below_drew1 | refine below_set ?_ GE146.out) | exact HB.out)) hb); have n2_ := Aside0.mk (hbox); have n3_ := Aside0.mk ((by rw [hg]; exact (below_size (by repeat (first | (with_reducible first | exact HB.out | apply below_alloc | apply pw_below_drewN | apply below_drew1 | refine below_set ?_ GE146.out) | exact HB.out))) : w.heap.size ≤ gb147)); have n4_ := Aside0.mk ((by rw [hg]; exact (below_size (by repeat (first | (with_reducible first | exact HB.out | apply below_alloc | apply pw_below_drewN | apply below_drew1 | refine below_set ?_ GE146.out) | exact HB.out))) : w.heap.size ≤ gb147)); have n5_ := Aside0.mk ((by rw [hg]; exact Nat.ne_of_lt (blk_lt (g := gb146) (o := .cells #[.int .i64 a0_0, .int .i64 a0_1, .slice A0_2 l0_2.length c0_2] 31 (0, 0)) (by (with_reducible repeat (first | refine blk_drewN ?_ _ | refine blk_drew ?_ | refine blk_alloc ?_ _)); exact BK146.out)) : gb146 ≠ gb147)); have n6_ := Aside0.mk ((by rw [hg]; exact Nat.ne_of_gt (blk_lt (g := gb146) (o := .cells #[.int .i64 a0_0, .int .i64 a0_1, .slice A0_2 l0_2.length c0_2] 31 (0, 0)) (by (with_reducible repeat (first | refine blk_drewN ?_ _ | refine blk_drew ?_ | refine blk_alloc ?_ _)); exact BK146.out)) : gb147 ≠ gb146)); clear BK146; clear HB; have BK146 := n0_; have HB := n1_; have BK147 := n2_; have GW147 := n3_; have GE147 := n4_; have NB146_147 := n5_; have NB147_146 := n6_; clear n0_ n1_ n2_ n3_ n4_ n5_ n6_; clear hb hbox hg; have hnb8 := NB147_146.out; have hnc8 := NB146_147.out; have hcz9_0 : w7.cell? ⟨gb147, 0, none⟩ = some (.int .i64 0) := (blk_cell BK147.out 0).trans rfl; have hcz9_1 : w7.cell? ⟨gb147, 1, none⟩ = some (.int .i64 0) := (blk_cell BK147.out 1).trans rfl; have hcz9_2 : w7.cell? ⟨gb147, 2, none⟩ = some (.bool false) := (blk_cell BK147.out 2).trans rfl; have hfz9_0 := blk_frozen BK147.out 0; have hfz9_1 := blk_frozen BK147.out 1; have hfz9_2 := blk_frozen BK147.out 2))
 (try simp only [Act.put, List.setIfInBounds_toArray, List.set_cons_zero, List.set_cons_succ])
 go_cut [12, 13] (fun v12 v13 wc => ∃ (kq : Nat) (x12_4 : Int) (x13_4 : Int) (x148000_4 : Int) (x148001_4 : Int) (x148002_4 : Bool), v12 = .int .i64 x12_4 ∧ v13 = .int .i64 x13_4 ∧ Aside0 (spec_avStep.j0 kq x12_4 x13_4 a0_0 a0_1 l0_2 x148000_4 x148001_4 x148002_4 = some (r1, r2, r3)) ∧ Aside0 (kq ≤ k) ∧ Aside0 (wc.heap[gb146]? = some (.cells #[.int .i64 a0_0, .int .i64 a0_1, (.slice A0_2 l0_2.length c0_2)] 31 (0, 0))) ∧ Aside0 (wc.heap[gb147]? = some (.cells #[.int .i64 x148000_4, .int .i64 x148001_4, .bool x148002_4] 58 (0, 0))) ∧ Aside0 (Below w.heap.size w wc))
 case first =>
  have H := HC5.out
  clear HC5
  by_cases c10 : a3 = 101
  ·rw [if_pos c10] at H
   have c10b0 : (a3 == 101) = true := beq_iff_eq.mpr c10
   have c10b1 : (a3 != 101) = false := bne_eq_false_iff_eq.mpr c10
   clear c10
   (first | rw [c10b0] | (simp only [i64_w, i32_w]; rw [c10b0]) | skip)
   have H' := Aside0.mk H
   clear H
   go_wp2
   go_meet
   case rel => exact ⟨_, (wrap64 (a1 + 1)), (a2), (a1), (a2), (false), (by first | rfl | (simp; done) | (simp [*]; done)), (by first | rfl | (simp; done) | (simp [*]; done)), H', ⟨by first | omega | exact Nat.le_refl _⟩, ⟨by (with_reducible repeat (first | refine blk_drewN ?_ _ | refine blk_drew ?_ | refine blk_alloc ?_ _)); refine blk_far ?_ NB146_147.out _; (with_reducible repeat (first | refine blk_drewN ?_ _ | refine blk_drew ?_ | refine blk_alloc ?_ _)); refine blk_far ?_ NB146_147.out _; (with_reducible repeat (first | refine blk_drewN ?_ _ | refine blk_drew ?_ | refine blk_alloc ?_ _)); refine blk_far ?_ NB146_147.out _; (with_reducible repeat (first | refine blk_drewN ?_ _ | refine blk_drew ?_ | refine blk_alloc ?_ _)); exact BK146.out⟩, ⟨by (with_reducible repeat (first | refine blk_drewN ?_ _ | refine blk_drew ?_ | refine blk_alloc ?_ _)); refine blk_put (cs := #[.int .i64 a1, .int .i64 a2, .bool false]) ?_ 2 _ rfl; (with_reducible repeat (first | refine blk_drewN ?_ _ | refine blk_drew ?_ | refine blk_alloc ?_ _)); refine blk_put (cs := #[.int .i64 a1, .int .i64 0, .bool false]) ?_ 1 _ rfl; (with_reducible repeat (first | refine blk_drewN ?_ _ | refine blk_drew ?_ | refine blk_alloc ?_ _)); refine blk_put (cs := #[.int .i64 0, .int .i64 0, .bool false]) ?_ 0 _ rfl; (with_reducible repeat (first | refine blk_drewN ?_ _ | refine blk_drew ?_ | refine blk_alloc ?_ _)); exact BK147.out⟩, ⟨by repeat (first | (with_reducible first | exact HB.out | apply below_alloc | apply pw_below_drewN | apply below_drew1 | refine below_set ?_ GE146.out | refine below_set ?_ GE147.out) | exact HB.out)⟩⟩
  ·rw [if_neg c10] at H
   have c10b0 : (a3 == 101) = false := beq_eq_false_iff_ne.mpr c10
   have c10b1 : (a3 != 101) = true := bne_iff_ne.mpr c10
   (first | rw [c10b0] | (simp only [i64_w, i32_w]; rw [c10b0]) | skip)
   by_cases c11 : a3 = 119
   ·rw [if_pos c11] at H
    have c11b0 : (a3 == 119) = true := beq_iff_eq.mpr c11
    have c11b1 : (a3 != 119) = false := bne_eq_false_iff_eq.mpr c11
    clear c11
    have H' := Aside0.mk H
    clear H
    have hnb12 := NB147_146.out
    have hnc12 := NB146_147.out
    have hcz13_0 : w7.cell? ⟨gb147, 0, none⟩ = some (.int .i64 0) := (blk_cell BK147.out 0).trans rfl
    have hcz13_1 : w7.cell? ⟨gb147, 1, none⟩ = some (.int .i64 0) := (blk_cell BK147.out 1).trans rfl
    have hcz13_2 : w7.cell? ⟨gb147, 2, none⟩ = some (.bool false) := (blk_cell BK147.out 2).trans rfl
    have hfz13_0 := blk_frozen BK147.out 0
    have hfz13_1 := blk_frozen BK147.out 1
    have hfz13_2 := blk_frozen BK147.out 2
    go_wp2
    go_meet
    case rel => exact ⟨_, (wrap64 (a1 - 1)), (a2), (wrap64 (a1 - 1)), (a2), (false), (by first | rfl | (simp; done) | (simp [*]; done)), (by first | rfl | (simp; done) | (simp [*]; done)), H', ⟨by first | omega | exact Nat.le_refl _⟩, ⟨by (with_reducible repeat (first | refine blk_drewN ?_ _ | refine blk_drew ?_ | refine blk_alloc ?_ _)); refine blk_far ?_ NB146_147.out _; (with_reducible repeat (first | refine blk_drewN ?_ _ | refine blk_drew ?_ | refine blk_alloc ?_ _)); refine blk_far ?_ NB146_147.out _; (with_reducible repeat (first | refine blk_drewN ?_ _ | refine blk_drew ?_ | refine blk_alloc ?_ _)); refine blk_far ?_ NB146_147.out _; (with_reducible repeat (first | refine blk_drewN ?_ _ | refine blk_drew ?_ | refine blk_alloc ?_ _)); refine blk_far ?_ NB146_147.out _; (with_reducible repeat (first | refine blk_drewN ?_ _ | refine blk_drew ?_ | refine blk_alloc ?_ _)); exact BK146.out⟩, ⟨by (with_reducible repeat (first | refine blk_drewN ?_ _ | refine blk_drew ?_ | refine blk_alloc ?_ _)); refine blk_put (cs := #[.int .i64 a1, .int .i64 a2, .bool false]) ?_ 0 _ rfl; (with_reducible repeat (first | refine blk_drewN ?_ _ | refine blk_drew ?_ | refine blk_alloc ?_ _)); refine blk_put (cs := #[.int .i64 a1, .int .i64 a2, .bool false]) ?_ 2 _ rfl; (with_reducible repeat (first | refine blk_drewN ?_ _ | refine blk_drew ?_ | refine blk_alloc ?_ _)); refine blk_put (cs := #[.int .i64 a1, .int .i64 0, .bool false]) ?_ 1 _ rfl; (with_reducible repeat (first | refine blk_drewN ?_ _ | refine blk_drew ?_ | refine blk_alloc ?_ _)); refine blk_put (cs := #[.int .i64 0, .int .i64 0, .bool false]) ?_ 0 _ rfl; (with_reducible repeat (first | refine blk_drewN ?_ _ | refine blk_drew ?_ | refine blk_alloc ?_ _)); exact BK147.out⟩, ⟨by repeat (first | (with_reducible first | exact HB.out | apply below_alloc | apply pw_below_drewN | apply below_drew1 | refine below_set ?_ GE146.out | refine below_set ?_ GE147.out) | exact HB.out)⟩⟩
   ·rw [if_neg c11] at H
    have c11b0 : (a3 == 119) = false := beq_eq_false_iff_ne.mpr c11
    have c11b1 : (a3 != 119) = true := bne_iff_ne.mpr c11
    by_cases c14 : a3 = 110
    ·rw [if_pos c14] at H
     have c14b0 : (a3 == 110) = true := beq_iff_eq.mpr c14
     have c14b1 : (a3 != 110) = false := bne_eq_false_iff_eq.mpr c14
     clear c14
     have H' := Aside0.mk H
     clear H
     have hnb15 := NB147_146.out
     have hnc15 := NB146_147.out
     have hcz16_0 : w7.cell? ⟨gb147, 0, none⟩ = some (.int .i64 0) := (blk_cell BK147.out 0).trans rfl
     have hcz16_1 : w7.cell? ⟨gb147, 1, none⟩ = some (.int .i64 0) := (blk_cell BK147.out 1).trans rfl
     have hcz16_2 : w7.cell? ⟨gb147, 2, none⟩ = some (.bool false) := (blk_cell BK147.out 2).trans rfl
     have hfz16_0 := blk_frozen BK147.out 0
     have hfz16_1 := blk_frozen BK147.out 1
     have hfz16_2 := blk_frozen BK147.out 2
     go_wp2
     go_meet
     case rel => exact ⟨_, (a1), (wrap64 (a2 + 1)), (a1), (a2), (true), (by first | rfl | (simp; done) | (simp [*]; done)), (by first | rfl | (simp; done) | (simp [*]; done)), H', ⟨by first | omega | exact Nat.le_refl _⟩, ⟨by (with_reducible repeat (first | refine blk_drewN ?_ _ | refine blk_drew ?_ | refine blk_alloc ?_ _)); refine blk_far ?_ NB146_147.out _; (with_reducible repeat (first | refine blk_drewN ?_ _ | refine blk_drew ?_ | refine blk_alloc ?_ _)); refine blk_far ?_ NB146_147.out _; (with_reducible repeat (first | refine blk_drewN ?_ _ | refine blk_drew ?_ | refine blk_alloc ?_ _)); refine blk_far ?_ NB146_147.out _; (with_reducible repeat (first | refine blk_drewN ?_ _ | refine blk_drew ?_ | refine blk_alloc ?_ _)); refine blk_far ?_ NB146_147.out _; (with_reducible repeat (first | refine blk_drewN ?_ _ | refine blk_drew ?_ | refine blk_alloc ?_ _)); exact BK146.out⟩, ⟨by (with_reducible repeat (first | refine blk_drewN ?_ _ | refine blk_drew ?_ | refine blk_alloc ?_ _)); refine blk_put (cs := #[.int .i64 a1, .int .i64 a2, .bool false]) ?_ 2 _ rfl; (with_reducible repeat (first | refine blk_drewN ?_ _ | refine blk_drew ?_ | refine blk_alloc ?_ _)); refine blk_put (cs := #[.int .i64 a1, .int .i64 a2, .bool false]) ?_ 2 _ rfl; (with_reducible repeat (first | refine blk_drewN ?_ _ | refine blk_drew ?_ | refine blk_alloc ?_ _)); refine blk_put (cs := #[.int .i64 a1, .int .i64 0, .bool false]) ?_ 1 _ rfl; (with_reducible repeat (first | refine blk_drewN ?_ _ | refine blk_drew ?_ | refine blk_alloc ?_ _)); refine blk_put (cs := #[.int .i64 0, .int .i64 0, .bool false]) ?_ 0 _ rfl; (with_reducible repeat (first | refine blk_drewN ?_ _ | refine blk_drew ?_ | refine blk_alloc ?_ _)); exact BK147.out⟩, ⟨by repeat (first | (with_reducible first | exact HB.out | apply below_alloc | apply pw_below_drewN | apply below_drew1 | refine below_set ?_ GE146.out | refine below_set ?_ GE147.out) | exact HB.out)⟩⟩
    ·rw [if_neg c14] at H
     have c14b0 : (a3 == 110) = false := beq_eq_false_iff_ne.mpr c14
     have c14b1 : (a3 != 110) = true := bne_iff_ne.mpr c14
     by_cases c17 : a3 = 115
     ·rw [if_pos c17] at H
      have c17b0 : (a3 == 115) = true := beq_iff_eq.mpr c17
      have c17b1 : (a3 != 115) = false := bne_eq_false_iff_eq.mpr c17
      clear c17
      have H' := Aside0.mk H
      clear H
      have hnb18 := NB147_146.out
      have hnc18 := NB146_147.out
      have hcz19_0 : w7.cell? ⟨gb147, 0, none⟩ = some (.int .i64 0) := (blk_cell BK147.out 0).trans rfl
      have hcz19_1 : w7.cell? ⟨gb147, 1, none⟩ = some (.int .i64 0) := (blk_cell BK147.out 1).trans rfl
      have hcz19_2 : w7.cell? ⟨gb147, 2, none⟩ = some (.bool false) := (blk_cell BK147.out 2).trans rfl
      have hfz19_0 := blk_frozen BK147.out 0
      have hfz19_1 := blk_frozen BK147.out 1
      have hfz19_2 := blk_frozen BK147.out 2
      go_wp2
      go_meet
      case rel => exact ⟨_, (a1), (wrap64 (a2 - 1)), (a1), (wrap64 (a2 - 1)), (true), (by first | rfl | (simp; done) | (simp [*]; done)), (by first | rfl | (simp; done) | (simp [*]; done)), H', ⟨by first | omega | exact Nat.le_refl _⟩, ⟨by (with_reducible repeat (first | refine blk_drewN ?_ _ | refine blk_drew ?_ | refine blk_alloc ?_ _)); refine blk_far ?_ NB146_147.out _; (with_reducible repeat (first | refine blk_drewN ?_ _ | refine blk_drew ?_ | refine blk_alloc ?_ _)); refine blk_far ?_ NB146_147.out _; (with_reducible repeat (first | refine blk_drewN ?_ _ | refine blk_drew ?_ | refine blk_alloc ?_ _)); refine blk_far ?_ NB146_147.out _; (with_reducible repeat (first | refine blk_drewN ?_ _ | refine blk_drew ?_ | refine blk_alloc ?_ _)); refine blk_far ?_ NB146_147.out _; (with_reducible repeat (first | refine blk_drewN ?_ _ | refine blk_drew ?_ | refine blk_alloc ?_ _)); refine blk_far ?_ NB146_147.out _; (with_reducible repeat (first | refine blk_drewN ?_ _ | refine blk_drew ?_ | refine blk_alloc ?_ _)); exact BK146.out⟩, ⟨by (with_reducible repeat (first | refine blk_drewN ?_ _ | refine blk_drew ?_ | refine blk_alloc ?_ _)); refine blk_put (cs := #[.int .i64 a1, .int .i64 (wrap64 (a2 - 1)), .bool false]) ?_ 2 _ rfl; (with_reducible repeat (first | refine blk_drewN ?_ _ | refine blk_drew ?_ | refine blk_alloc ?_ _)); refine blk_put (cs := #[.int .i64 a1, .int .i64 a2, .bool false]) ?_ 1 _ rfl; (with_reducible repeat (first | refine blk_drewN ?_ _ | refine blk_drew ?_ | refine blk_alloc ?_ _)); refine blk_put (cs := #[.int .i64 a1, .int .i64 a2, .bool false]) ?_ 2 _ rfl; (with_reducible repeat (first | refine blk_drewN ?_ _ | refine blk_drew ?_ | refine blk_alloc ?_ _)); refine blk_put (cs := #[.int .i64 a1, .int .i64 0, .bool false]) ?_ 1 _ rfl; (with_reducible repeat (first | refine blk_drewN ?_ _ | refine blk_drew ?_ | refine blk_alloc ?_ _)); refine blk_put (cs := #[.int .i64 0, .int .i64 0, .bool false]) ?_ 0 _ rfl; (with_reducible repeat (first | refine blk_drewN ?_ _ | refine blk_drew ?_ | refine blk_alloc ?_ _)); exact BK147.out⟩, ⟨by repeat (first | (with_reducible first | exact HB.out | apply below_alloc | apply pw_below_drewN | apply below_drew1 | refine below_set ?_ GE146.out | refine below_set ?_ GE147.out) | exact HB.out)⟩⟩
     ·rw [if_neg c17] at H
      have c17b0 : (a3 == 115) = false := beq_eq_false_iff_ne.mpr c17
      have c17b1 : (a3 != 115) = true := bne_iff_ne.mpr c17
      simp only [Option.some.injEq, Prod.mk.injEq] at H
      obtain ⟨rfl, rfl, rfl⟩ := H
      go_wp2
      go_ret3
      exact ⟨by first | rfl | (simp [errW_none, errW_some] <;> rfl) | (simp [*, errW_none, errW_some] <;> rfl), by repeat (first | (with_reducible first | exact HB.out | apply below_alloc | apply pw_below_drewN | apply below_drew1 | refine below_set ?_ GE146.out | refine below_set ?_ GE147.out) | exact HB.out)⟩
 case rest =>
  clear HC5
  try clear c10
  try clear c10b0
  try clear c10b1
  try clear c11
  try clear c11b0
  try clear c11b1
  try clear c14
  try clear c14b0
  try clear c14b1
  try clear c17
  try clear c17b0
  try clear c17b1
  try clear hcz13_0
  try clear hcz13_1
  try clear hcz13_2
  try clear hcz16_0
  try clear hcz16_1
  try clear hcz16_2
  try clear hcz19_0
  try clear hcz19_1
  try clear hcz19_2
  try clear hcz9_0
  try clear hcz9_1
  try clear hcz9_2
  try clear hfz13_0
  try clear hfz13_1
  try clear hfz13_2
  try clear hfz16_0
  try clear hfz16_1
  try clear hfz16_2
  try clear hfz19_0
  try clear hfz19_1
  try clear hfz19_2
  try clear hfz9_0
  try clear hfz9_1
  try clear hfz9_2
  obtain ⟨kq, x12_4, x13_4, x148000_4, x148001_4, x148002_4, rfl, rfl, HA, HJ4, BK146, BK147, HB⟩ := hcut
  cases kq with
  | zero => exact absurd HA.out (by simp [spec_avStep.j0])
  | succ kj4 =>
   have H := HA.out
   clear HA
   simp only [spec_avStep.j0] at H
   replace H := Option.bind_eq_some_iff.mp H
   obtain ⟨t148, A200, H⟩ := H
   replace H : (if t148 = true then ((spec_avShut.f kj4 a0_0 a0_1 l0_2 x148000_4 x148001_4 x148002_4).bind fun t149 => (if t149 = true then (some (0, 0, false)) else (some (x12_4, x13_4, true)))) else (some (0, 0, false))) = some (r1, r2, r3) := H
   have A20 := Aside0.mk A200
   clear A200
   by_cases c21 : t148 = true
   ·subst c21
    have H1 : ((spec_avShut.f kj4 a0_0 a0_1 l0_2 x148000_4 x148001_4 x148002_4).bind fun t149 => (if t149 = true then (some (0, 0, false)) else (some (x12_4, x13_4, true)))) = some (r1, r2, r3) := by rw [if_pos rfl] at H; exact H
    clear H
    have H := H1
    clear H1
    replace H := Option.bind_eq_some_iff.mp H
    obtain ⟨t149, A220, H⟩ := H
    replace H : (if t149 = true then (some (0, 0, false)) else (some (x12_4, x13_4, true))) = some (r1, r2, r3) := H
    have A22 := Aside0.mk A220
    clear A220
    by_cases c23 : t149 = true
    ·subst c23
     have H1 : (some (0, 0, false)) = some (r1, r2, r3) := by rw [if_pos rfl] at H; exact H
     clear H
     have H := H1
     clear H1
     simp only [Option.some.injEq, Prod.mk.injEq] at H
     obtain ⟨rfl, rfl, rfl⟩ := H
     have hnb24 := NB146_147.out
     have hnc24 := NB147_146.out
     have hcz25_0 : wc.cell? ⟨gb146, 0, none⟩ = some (.int .i64 a0_0) := (blk_cell BK146.out 0).trans rfl
     have hcz25_1 : wc.cell? ⟨gb146, 1, none⟩ = some (.int .i64 a0_1) := (blk_cell BK146.out 1).trans rfl
     have hcz25_2 : wc.cell? ⟨gb146, 2, none⟩ = some (.slice A0_2 l0_2.length c0_2) := (blk_cell BK146.out 2).trans rfl
     have hfz25_0 := blk_frozen BK146.out 0
     have hfz25_1 := blk_frozen BK146.out 1
     have hfz25_2 := blk_frozen BK146.out 2
     have hcz26_0 : wc.cell? ⟨gb147, 0, none⟩ = some (.int .i64 x148000_4) := (blk_cell BK147.out 0).trans rfl
     have hcz26_1 : wc.cell? ⟨gb147, 1, none⟩ = some (.int .i64 x148001_4) := (blk_cell BK147.out 1).trans rfl
     have hcz26_2 : wc.cell? ⟨gb147, 2, none⟩ = some (.bool x148002_4) := (blk_cell BK147.out 2).trans rfl
     have hfz26_0 := blk_frozen BK147.out 0
     have hfz26_1 := blk_frozen BK147.out 1
     have hfz26_2 := blk_frozen BK147.out 2
     go_wp2_with (first | ((with_reducible refine gate_callee (f := 50) rfl ?_); refine goesL_ (some 47) rfl rfl Try.func50 (by kernel_rfl) rfl #[.int .i64 a0_0, .int .i64 a0_1, .agg #[.int .i64 x148000_4, .int .i64 x148001_4, .bool x148002_4]] rfl (by (try simp only [List.map_toArray, List.map_cons, List.map_nil]); first | done | rfl | (simp only [List.length_drop, List.length_take]; rfl)) ?_; (with_reducible refine (spec_avIs.calls kj4 a0_0 a0_1 x148000_4 x148001_4 x148002_4 true _ A20.out).mono ?_); rintro e w27 ⟨rfl, hb⟩; refine ⟨_, rfl, ?_⟩; have n0_ := Aside0.mk (blk_below (g := gb146) (o := .cells #[.int .i64 a0_0, .int .i64 a0_1, .slice A0_2 l0_2.length c0_2] 31 (0, 0)) (by (with_reducible repeat (first | refine blk_drewN ?_ _ | refine blk_drew ?_ | refine blk_alloc ?_ _)); exact BK146.out) hb); have n1_ := Aside0.mk (blk_below (g := gb147) (o := .cells #[.int .i64 x148000_4, .int .i64 x148001_4, .bool x148002_4] 58 (0, 0)) (by (with_reducible repeat (first | refine blk_drewN ?_ _ | refine blk_drew ?_ | refine blk_alloc ?_ _)); exact BK147.out) hb); have n2_ := Aside0.mk (below_step (by repeat (first | (with_reducible first | exact HB.out | apply below_alloc | apply pw_below_drewN | apply below_drew1 | refine below_set ?_ GE146.out | refine below_set ?_ GE147.out) | exact HB.out)) hb); clear BK146; clear BK147; clear HB; have BK146 := n0_; have BK147 := n1_; have HB := n2_; clear n0_ n1_ n2_; (try clear hb); (try clear hb2); (try clear hk); (try clear hi); have hcz28_0 : w27.cell? ⟨gb146, 0, none⟩ = some (.int .i64 a0_0) := (blk_cell BK146.out 0).trans rfl; have hcz28_1 : w27.cell? ⟨gb146, 1, none⟩ = some (.int .i64 a0_1) := (blk_cell BK146.out 1).trans rfl; have hcz28_2 : w27.cell? ⟨gb146, 2, none⟩ = some (.slice A0_2 l0_2.length c0_2) := (blk_cell BK146.out 2).trans rfl; have hfz28_0 := blk_frozen BK146.out 0; have hfz28_1 := blk_frozen BK146.out 1; have hfz28_2 := blk_frozen BK146.out 2; have hcz29_0 : w27.cell? ⟨gb147, 0, none⟩ = some (.int .i64 x148000_4) := (blk_cell BK147.out 0).trans rfl; have hcz29_1 : w27.cell? ⟨gb147, 1, none⟩ = some (.int .i64 x148001_4) := (blk_cell BK147.out 1).trans rfl; have hcz29_2 : w27.cell? ⟨gb147, 2, none⟩ = some (.bool x148002_4) := (blk_cell BK147.out 2).trans rfl; have hfz29_0 := blk_frozen BK147.out 0; have hfz29_1 := blk_frozen BK147.out 1; have hfz29_2 := blk_frozen BK147.out 2) | (go_at_call 51; (with_reducible refine (spec_avShut.calls kj4 a0_0 a0_1 _ _ l0_2 x148000_4 x148001_4 x148002_4 true _ ?side1 ?side2 A22.out).mono ?_); (case side1 => repeat (first | exact (Kd.C_below HR0_2.out HB.out) | (with_reducible refine Kd.C_alloc ?_ _) | (with_reducible refine Kd.C_drewN ?_ _) | (with_reducible refine Kd.C_drew ?_))); (case side2 => exact HC0_2.out); rintro e w30 ⟨rfl, hb⟩; have n0_ := Aside0.mk (blk_below (g := gb146) (o := .cells #[.int .i64 a0_0, .int .i64 a0_1, .slice A0_2 l0_2.length c0_2] 31 (0, 0)) (by (with_reducible repeat (first | refine blk_drewN ?_ _ | refine blk_drew ?_ | refine blk_alloc ?_ _)); exact BK146.out) hb); have n1_ := Aside0.mk (blk_below (g := gb147) (o := .cells #[.int .i64 x148000_4, .int .i64 x148001_4, .bool x148002_4] 58 (0, 0)) (by (with_reducible repeat (first | refine blk_drewN ?_ _ | refine blk_drew ?_ | refine blk_alloc ?_ _)); exact BK147.out) hb); have n2_ := Aside0.mk (below_step (by repeat (first | (with_reducible first | exact HB.out | apply below_alloc | apply pw_below_drewN | apply below_drew1 | refine below_set ?_ GE146.out | refine below_set ?_ GE147.out) | exact HB.out)) hb); clear BK146; clear BK147; clear HB; have BK146 := n0_; have BK147 := n1_; have HB := n2_; clear n0_ n1_ n2_; (try clear hb); (try clear hb2); (try clear hk); (try clear hi)))
     go_ret3
     exact ⟨by first | rfl | (simp [errW_none, errW_some] <;> rfl) | (simp [*, errW_none, errW_some] <;> rfl), by repeat (first | (with_reducible first | exact HB.out | apply below_alloc | apply pw_below_drewN | apply below_drew1 | refine below_set ?_ GE146.out | refine below_set ?_ GE147.out) | exact HB.out)⟩
    ·replace c23 := Bool.eq_false_iff.mpr c23
     subst c23
     have H1 : (some (x12_4, x13_4, true)) = some (r1, r2, r3) := by rw [if_neg (show ¬ (false = true) by decide)] at H; exact H
     clear H
     have H := H1
     clear H1
     simp only [Option.some.injEq, Prod.mk.injEq] at H
     obtain ⟨rfl, rfl, rfl⟩ := H
     have hnb31 := NB146_147.out
     have hnc31 := NB147_146.out
     have hcz32_0 : wc.cell? ⟨gb146, 0, none⟩ = some (.int .i64 a0_0) := (blk_cell BK146.out 0).trans rfl
     have hcz32_1 : wc.cell? ⟨gb146, 1, none⟩ = some (.int .i64 a0_1) := (blk_cell BK146.out 1).trans rfl
     have hcz32_2 : wc.cell? ⟨gb146, 2, none⟩ = some (.slice A0_2 l0_2.length c0_2) := (blk_cell BK146.out 2).trans rfl
     have hfz32_0 := blk_frozen BK146.out 0
     have hfz32_1 := blk_frozen BK146.out 1
     have hfz32_2 := blk_frozen BK146.out 2
     have hcz33_0 : wc.cell? ⟨gb147, 0, none⟩ = some (.int .i64 x148000_4) := (blk_cell BK147.out 0).trans rfl
     have hcz33_1 : wc.cell? ⟨gb147, 1, none⟩ = some (.int .i64 x148001_4) := (blk_cell BK147.out 1).trans rfl
     have hcz33_2 : wc.cell? ⟨gb147, 2, none⟩ = some (.bool x148002_4) := (blk_cell BK147.out 2).trans rfl
     have hfz33_0 := blk_frozen BK147.out 0
     have hfz33_1 := blk_frozen BK147.out 1
     have hfz33_2 := blk_frozen BK147.out 2
     go_wp2_with (first | ((with_reducible refine gate_callee (f := 50) rfl ?_); refine goesL_ (some 47) rfl rfl Try.func50 (by kernel_rfl) rfl #[.int .i64 a0_0, .int .i64 a0_1, .agg #[.int .i64 x148000_4, .int .i64 x148001_4, .bool x148002_4]] rfl (by (try simp only [List.map_toArray, List.map_cons, List.map_nil]); first | done | rfl | (simp only [List.length_drop, List.length_take]; rfl)) ?_; (with_reducible refine (spec_avIs.calls kj4 a0_0 a0_1 x148000_4 x148001_4 x148002_4 true _ A20.out).mono ?_); rintro e w34 ⟨rfl, hb⟩; refine ⟨_, rfl, ?_⟩; have n0_ := Aside0.mk (blk_below (g := gb146) (o := .cells #[.int .i64 a0_0, .int .i64 a0_1, .slice A0_2 l0_2.length c0_2] 31 (0, 0)) (by (with_reducible repeat (first | refine blk_drewN ?_ _ | refine blk_drew ?_ | refine blk_alloc ?_ _)); exact BK146.out) hb); have n1_ := Aside0.mk (blk_below (g := gb147) (o := .cells #[.int .i64 x148000_4, .int .i64 x148001_4, .bool x148002_4] 58 (0, 0)) (by (with_reducible repeat (first | refine blk_drewN ?_ _ | refine blk_drew ?_ | refine blk_alloc ?_ _)); exact BK147.out) hb); have n2_ := Aside0.mk (below_step (by repeat (first | (with_reducible first | exact HB.out | apply below_alloc | apply pw_below_drewN | apply below_drew1 | refine below_set ?_ GE146.out | refine below_set ?_ GE147.out) | exact HB.out)) hb); clear BK146; clear BK147; clear HB; have BK146 := n0_; have BK147 := n1_; have HB := n2_; clear n0_ n1_ n2_; (try clear hb); (try clear hb2); (try clear hk); (try clear hi); have hcz35_0 : w34.cell? ⟨gb146, 0, none⟩ = some (.int .i64 a0_0) := (blk_cell BK146.out 0).trans rfl; have hcz35_1 : w34.cell? ⟨gb146, 1, none⟩ = some (.int .i64 a0_1) := (blk_cell BK146.out 1).trans rfl; have hcz35_2 : w34.cell? ⟨gb146, 2, none⟩ = some (.slice A0_2 l0_2.length c0_2) := (blk_cell BK146.out 2).trans rfl; have hfz35_0 := blk_frozen BK146.out 0; have hfz35_1 := blk_frozen BK146.out 1; have hfz35_2 := blk_frozen BK146.out 2; have hcz36_0 : w34.cell? ⟨gb147, 0, none⟩ = some (.int .i64 x148000_4) := (blk_cell BK147.out 0).trans rfl; have hcz36_1 : w34.cell? ⟨gb147, 1, none⟩ = some (.int .i64 x148001_4) := (blk_cell BK147.out 1).trans rfl; have hcz36_2 : w34.cell? ⟨gb147, 2, none⟩ = some (.bool x148002_4) := (blk_cell BK147.out 2).trans rfl; have hfz36_0 := blk_frozen BK147.out 0; have hfz36_1 := blk_frozen BK147.out 1; have hfz36_2 := blk_frozen BK147.out 2) | (go_at_call 51; (with_reducible refine (spec_avShut.calls kj4 a0_0 a0_1 _ _ l0_2 x148000_4 x148001_4 x148002_4 false _ ?side1 ?side2 A22.out).mono ?_); (case side1 => repeat (first | exact (Kd.C_below HR0_2.out HB.out) | (with_reducible refine Kd.C_alloc ?_ _) | (with_reducible refine Kd.C_drewN ?_ _) | (with_reducible refine Kd.C_drew ?_))); (case side2 => exact HC0_2.out); rintro e w37 ⟨rfl, hb⟩; have n0_ := Aside0.mk (blk_below (g := gb146) (o := .cells #[.int .i64 a0_0, .int .i64 a0_1, .slice A0_2 l0_2.length c0_2] 31 (0, 0)) (by (with_reducible repeat (first | refine blk_drewN ?_ _ | refine blk_drew ?_ | refine blk_alloc ?_ _)); exact BK146.out) hb); have n1_ := Aside0.mk (blk_below (g := gb147) (o := .cells #[.int .i64 x148000_4, .int .i64 x148001_4, .bool x148002_4] 58 (0, 0)) (by (with_reducible repeat (first | refine blk_drewN ?_ _ | refine blk_drew ?_ | refine blk_alloc ?_ _)); exact BK147.out) hb); have n2_ := Aside0.mk (below_step (by repeat (first | (with_reducible first | exact HB.out | apply below_alloc | apply pw_below_drewN | apply below_drew1 | refine below_set ?_ GE146.out | refine below_set ?_ GE147.out) | exact HB.out)) hb); clear BK146; clear BK147; clear HB; have BK146 := n0_; have BK147 := n1_; have HB := n2_; clear n0_ n1_ n2_; (try clear hb); (try clear hb2); (try clear hk); (try clear hi)))
     go_ret3
     exact ⟨by first | rfl | (simp [errW_none, errW_some] <;> rfl) | (simp [*, errW_none, errW_some] <;> rfl), by repeat (first | (with_reducible first | exact HB.out | apply below_alloc | apply pw_below_drewN | apply below_drew1 | refine below_set ?_ GE146.out | refine below_set ?_ GE147.out) | exact HB.out)⟩
   ·replace c21 := Bool.eq_false_iff.mpr c21
    subst c21
    have H1 : (some (0, 0, false)) = some (r1, r2, r3) := by rw [if_neg (show ¬ (false = true) by decide)] at H; exact H
    clear H
    have H := H1
    clear H1
    simp only [Option.some.injEq, Prod.mk.injEq] at H
    obtain ⟨rfl, rfl, rfl⟩ := H
    have hnb38 := NB146_147.out
    have hnc38 := NB147_146.out
    have hcz39_0 : wc.cell? ⟨gb146, 0, none⟩ = some (.int .i64 a0_0) := (blk_cell BK146.out 0).trans rfl
    have hcz39_1 : wc.cell? ⟨gb146, 1, none⟩ = some (.int .i64 a0_1) := (blk_cell BK146.out 1).trans rfl
    have hcz39_2 : wc.cell? ⟨gb146, 2, none⟩ = some (.slice A0_2 l0_2.length c0_2) := (blk_cell BK146.out 2).trans rfl
    have hfz39_0 := blk_frozen BK146.out 0
    have hfz39_1 := blk_frozen BK146.out 1
    have hfz39_2 := blk_frozen BK146.out 2
    have hcz40_0 : wc.cell? ⟨gb147, 0, none⟩ = some (.int .i64 x148000_4) := (blk_cell BK147.out 0).trans rfl
    have hcz40_1 : wc.cell? ⟨gb147, 1, none⟩ = some (.int .i64 x148001_4) := (blk_cell BK147.out 1).trans rfl
    have hcz40_2 : wc.cell? ⟨gb147, 2, none⟩ = some (.bool x148002_4) := (blk_cell BK147.out 2).trans rfl
    have hfz40_0 := blk_frozen BK147.out 0
    have hfz40_1 := blk_frozen BK147.out 1
    have hfz40_2 := blk_frozen BK147.out 2
    go_wp2_with (first | ((with_reducible refine gate_callee (f := 50) rfl ?_); refine goesL_ (some 47) rfl rfl Try.func50 (by kernel_rfl) rfl #[.int .i64 a0_0, .int .i64 a0_1, .agg #[.int .i64 x148000_4, .int .i64 x148001_4, .bool x148002_4]] rfl (by (try simp only [List.map_toArray, List.map_cons, List.map_nil]); first | done | rfl | (simp only [List.length_drop, List.length_take]; rfl)) ?_; (with_reducible refine (spec_avIs.calls kj4 a0_0 a0_1 x148000_4 x148001_4 x148002_4 false _ A20.out).mono ?_); rintro e w41 ⟨rfl, hb⟩; refine ⟨_, rfl, ?_⟩; have n0_ := Aside0.mk (blk_below (g := gb146) (o := .cells #[.int .i64 a0_0, .int .i64 a0_1, .slice A0_2 l0_2.length c0_2] 31 (0, 0)) (by (with_reducible repeat (first | refine blk_drewN ?_ _ | refine blk_drew ?_ | refine blk_alloc ?_ _)); exact BK146.out) hb); have n1_ := Aside0.mk (blk_below (g := gb147) (o := .cells #[.int .i64 x148000_4, .int .i64 x148001_4, .bool x148002_4] 58 (0, 0)) (by (with_reducible repeat (first | refine blk_drewN ?_ _ | refine blk_drew ?_ | refine blk_alloc ?_ _)); exact BK147.out) hb); have n2_ := Aside0.mk (below_step (by repeat (first | (with_reducible first | exact HB.out | apply below_alloc | apply pw_below_drewN | apply below_drew1 | refine below_set ?_ GE146.out | refine below_set ?_ GE147.out) | exact HB.out)) hb); clear BK146; clear BK147; clear HB; have BK146 := n0_; have BK147 := n1_; have HB := n2_; clear n0_ n1_ n2_; (try clear hb); (try clear hb2); (try clear hk); (try clear hi)))
    go_ret3
    exact ⟨by first | rfl | (simp [errW_none, errW_some] <;> rfl) | (simp [*, errW_none, errW_some] <;> rfl), by repeat (first | (with_reducible first | exact HB.out | apply below_alloc | apply pw_below_drewN | apply below_drew1 | refine below_set ?_ GE146.out | refine below_set ?_ GE147.out) | exact HB.out)⟩
def spec_avFar.sg : Nat → Int
 | 0 => 101
 | 1 => 110
 | 2 => 115
 | _ => 119
def spec_avFar.step (k : Nat) (W H : Int) (l : List S58) (at_ : Int) (s : Int) (st : List Int × List Int) : Option (List Int × List Int) :=
 (spec_avStep.f k W H l (at_ / H) (at_ % H) s).bind fun r => if r.2.2 = true then (if 0 ≤ wrap64 (wrap64 (r.1 * H) + r.2.1) ∧ wrap64 (wrap64 (r.1 * H) + r.2.1) < st.1.length ∧ st.2.length < 1000000 then (if rd st.1 (wrap64 (wrap64 (r.1 * H) + r.2.1)) < 0 then some (st.1.set (wrap64 (wrap64 (r.1 * H) + r.2.1)).toNat (wrap64 (rd st.1 at_ + 1)), st.2 ++ [wrap64 (wrap64 (r.1 * H) + r.2.1)]) else some st) else none) else some st
def spec_avFar.steps (k : Nat) (W H : Int) (l : List S58) (at_ : Int) : Nat → List Int × List Int → Option (List Int × List Int)
 | 0, st => some st
 | j + 1, st => (spec_avFar.steps k W H l at_ j st).bind fun s => spec_avFar.step k W H l at_ (spec_avFar.sg j) s
def spec_avFar.l1 (W H : Int) (l : List S58) : Nat → Nat → List Int × List Int → Option (List Int)
 | 0, _, _ => none
 | k + 1, i, st => if i < st.2.length then (if 0 ≤ rd st.2 i ∧ rd st.2 i < st.1.length then (spec_avFar.steps k W H l (rd st.2 i) 4 st).bind fun s => spec_avFar.l1 W H l k (i + 1) s else none) else some st.1
def spec_avFar.ok (W H : Int) (l1 : List Int) : Bool := decide (1 ≤ W ∧ W ≤ 8) && (decide (1 ≤ H ∧ H ≤ 8) && (decide (l1.length = 2) && (decide (0 ≤ rd l1 0 ∧ rd l1 0 ≤ W - 1) && decide (0 ≤ rd l1 1 ∧ rd l1 1 ≤ H - 1))))
def spec_avFar.f (k : Nat) (a0_0 : Int) (a0_1 : Int) (l0_2 : List S58) (l1 : List Int) : Option (List Int) := if spec_avFar.ok a0_0 a0_1 l1 = true then spec_avFar.l1 a0_0 a0_1 l0_2 k 0 ((List.replicate (a0_0 * a0_1).toNat (-1)).set (rd l1 0 * a0_1 + rd l1 1).toNat 0, [rd l1 0 * a0_1 + rd l1 1]) else none
theorem spec_avFar.steps_mono (k : Nat) (W H : Int) (l : List S58) (at_ : Int) : ∀ j st, LeO (spec_avFar.steps k W H l at_ j st) (spec_avFar.steps (k + 1) W H l at_ j st)
 | 0, _ => LeO.refl _
 | j + 1, st => LeO.bind (spec_avFar.steps_mono k W H l at_ j st) (fun _ => LeO.bind (spec_avStep.mono _ _ _ _ _ _ _) (fun _ => LeO.refl _))
theorem spec_avFar.l1_mono (W H : Int) (l : List S58) : ∀ k i st, LeO (spec_avFar.l1 W H l k i st) (spec_avFar.l1 W H l (k + 1) i st)
 | 0, _, _ => LeO.none _
 | k + 1, i, st => LeO.ite (LeO.ite (LeO.bind (spec_avFar.steps_mono k W H l _ _ _) (fun s => spec_avFar.l1_mono W H l k (i + 1) s)) (LeO.refl _)) (LeO.refl _)
theorem spec_avFar.mono : ∀ a0 a1 a2 a3 k, LeO (spec_avFar.f k a0 a1 a2 a3) (spec_avFar.f (k + 1) a0 a1 a2 a3) := fun a0 a1 a2 a3 k => LeO.ite (spec_avFar.l1_mono _ _ _ k _ _) (LeO.refl _)
theorem spec_avFar.steps_len {k : Nat} {W H : Int} {l : List S58} {at_ : Int} : ∀ {j : Nat} {st s : List Int × List Int}, spec_avFar.steps k W H l at_ j st = some s → s.1.length = st.1.length
 | 0, st, s, h => by cases h; rfl
 | j + 1, st, s, h => by
  obtain ⟨s1, h1, h2⟩ := Option.bind_eq_some_iff.mp h
  have e := spec_avFar.steps_len h1
  rw [← e]
  obtain ⟨r, _, h4⟩ := Option.bind_eq_some_iff.mp h2
  split at h4
  ·split at h4
   ·split at h4
    ·cases h4; simp
    ·cases h4; rfl
   ·cases h4
  ·cases h4; rfl
theorem spec_avFar.steps_at {k : Nat} {W H : Int} {l : List S58} {at_ : Int} {n : Nat} {st s : List Int × List Int} (h : spec_avFar.steps k W H l at_ n st = some s) : ∀ d j : Nat, j + d = n → ∃ s1, spec_avFar.steps k W H l at_ j st = some s1
 | 0, j, hj => ⟨s, by rw [show j = n by omega]; exact h⟩
 | d + 1, j, hj => by
  obtain ⟨s1, h1⟩ := spec_avFar.steps_at h d (j + 1) (by omega)
  obtain ⟨s2, h2, _⟩ := Option.bind_eq_some_iff.mp h1
  exact ⟨s2, h2⟩
structure spec_avFar.AV (w wr : World) (W H : Int) (V : Value) (far : List Int) (v : Value) (q : List Int) : Prop where
  box : wr.heap[w.heap.size]? = some (.cells #[.int .i64 W, .int .i64 H, V] 31 (0, 0))
  far : wr.heap[w.heap.size + 1]? = some (.cells (far.map (Value.int .i64)).toArray 3 (0, 0))
  row : Kd.R (Kd.int .i64) 3 wr w.heap.size (fun k_ => k_ ≠ w.heap.size + 1) v q
  bel : Below w.heap.size w wr
theorem spec_avFar.AV.below {w wr w1 : World} {W H : Int} {V v : Value} {far q : List Int} (h : spec_avFar.AV w wr W H V far v q) (hb : Below wr.heap.size wr w1) : spec_avFar.AV w w1 W H V far v q :=
 ⟨(hb.block _ (blk_lt h.box)).trans h.box, (hb.block _ (blk_lt h.far)).trans h.far, Kd.R_below h.row hb, below_then h.bel h.bel.size hb⟩
theorem spec_avFar.AV.drewN {w wr : World} {W H : Int} {V v : Value} {far q : List Int} (h : spec_avFar.AV w wr W H V far v q) (n : Nat) : spec_avFar.AV w (wr.drewN n) W H V far v q := h.below (pw_below_drewN (Below.refl _ _) n)
theorem spec_avFar.AV.cell {w wr : World} {W H : Int} {V v : Value} {far q : List Int} (h : spec_avFar.AV w wr W H V far v q) {i : Nat} (hi : i < far.length) : wr.cell? ⟨w.heap.size + 1, i, none⟩ = some (.int .i64 (rd far i)) := by
 rw [blk_cell h.far]
 simp [rd, hi]
theorem spec_avFar.AV.set {w wr : World} {W H : Int} {V v : Value} {far q : List Int} (h : spec_avFar.AV w wr W H V far v q) (i : Nat) (x : Int) : spec_avFar.AV w (wr.setCell ⟨w.heap.size + 1, i, none⟩ (.int .i64 x)) W H V (far.set i x) v q := by
 refine ⟨blk_far h.box (by simp) _, ?_, Kd.R_step h.row (fun k hk _ => Below.heap_setCell wr _ _ k (by simpa using hk)), h.bel.setCell (by simp) _⟩
 rw [blk_set h.far]
 congr 3
 apply Array.ext'
 simp [List.map_set]
theorem spec_avFar.AV.app {w wr w1 : World} {W H : Int} {V v v1 : Value} {far q ys : List Int} (h : spec_avFar.AV w wr W H V far v q) (ho : Kd.R (Kd.int .i64) 3 w1 w.heap.size (fun k_ => k_ ≠ w.heap.size + 1) v1 ys) (hb : Below w.heap.size w w1) (hg : wr.grownBy w1 v.ownBlock) : spec_avFar.AV w w1 W H V far v1 ys :=
 ⟨blk_grown h.box hg (Kd.R_ne h.row h.box (by decide)), blk_grown h.far hg (fun e => (Kd.R_bound h.row).1 _ e.symm |>.1 rfl), ho, hb⟩
def spec_avFar.fill (N j : Nat) : List Int := List.replicate j (-1) ++ List.replicate (N - j) 0
theorem spec_avFar.fill_set {N j : Nat} (h : j < N) : (spec_avFar.fill N j).set j (-1) = spec_avFar.fill N (j + 1) := by
 unfold spec_avFar.fill
 rw [List.set_append_right _ _ (by simp), List.length_replicate, Nat.sub_self, show N - j = (N - (j + 1)) + 1 by omega, List.replicate_succ, List.set_cons_zero, List.replicate_succ', List.append_assoc]
 rfl
theorem spec_avFar.fill_end (N : Nat) : spec_avFar.fill N N = List.replicate N (-1) := by simp [spec_avFar.fill]
theorem spec_avFar.fill_len {N j : Nat} (h : j ≤ N) : (spec_avFar.fill N j).length = N := by simp [spec_avFar.fill]; omega
theorem spec_avFar.AV.start (w : World) (W H : Int) (V : Value) (N : Nat) : spec_avFar.AV w ((w.alloc (.cells #[.int .i64 W, .int .i64 H, V] 31)).alloc (.cells (madeCells #[.int .i64 0] N) 3)) W H V (spec_avFar.fill N 0) (.slice none 0 0) [] := by
 refine ⟨blk_alloc (blk_new w _) _, ?_, Kd.R_nil _ _ _ _ _, below_alloc (below_alloc (Below.refl _ _) _) _⟩
 have h := blk_new (w.alloc (.cells #[.int .i64 W, .int .i64 H, V] 31)) (.cells (madeCells #[.int .i64 0] N) 3)
 have e : madeCells #[.int .i64 0] N = ((spec_avFar.fill N 0).map (Value.int .i64)).toArray := by
  apply Array.ext
  ·simp [madeCells, spec_avFar.fill]
  ·intro i h1 h2
   simp [madeCells, spec_avFar.fill, Nat.mod_one]
 rw [e] at h ⊢
 simpa using h
theorem spec_avFar.two {w : World} {A : Option Addr} {n : Nat} {x y : Int} (h : Kd.C (Kd.int .i64) w A n [x, y]) : ∃ ad, A = some ad ∧ n = 2 ∧ w.cell? ad = some (.int .i64 x) ∧ w.cell? ⟨ad.block, ad.off + 1, none⟩ = some (.int .i64 y) := by
 obtain rfl : n = 2 := h.1.symm
 obtain ⟨ad, rfl, hx⟩ := Kd.at_int h 0 (by decide) (by decide)
 obtain ⟨ad', e', hy⟩ := Kd.at_int h 1 (by decide) (by decide)
 obtain rfl := Option.some.inj e'
 refine ⟨ad, rfl, rfl, ?_, ?_⟩
 ·have h0 : w.cell? (ad.add 0) = some (.int .i64 x) := hx
  rwa [show ad.add 0 = ad by simp [Addr.add]] at h0
 ·have h0 : w.cell? (ad.add 1) = some (.int .i64 y) := hy
  rwa [show ad.add 1 = ⟨ad.block, ad.off + 1, none⟩ by simp [Addr.add]] at h0
theorem spec_avFar.AV.lit {w wr : World} {W H : Int} {V : Value} {far : List Int} (h : spec_avFar.AV w wr W H V far (.slice none 0 0) []) (x : Int) : spec_avFar.AV w (wr.alloc (.cells #[.int .i64 x] 3)) W H V far (.slice (some ⟨wr.heap.size, 0, none⟩) 1 1) [x] := by
 have h1 := h.below (below_alloc (Below.refl wr.heap.size wr) (.cells #[.int .i64 x] 3))
 refine ⟨h1.box, h1.far, Kd.R_of_own (enc := Value.int .i64) (h1 := fun _ => rfl) (own_lit_of (enc := Value.int .i64) wr w.heap.size 3 [x] h.bel.size (by simp)) ?_, h1.bel⟩
 intro k hk
 have h2 := blk_lt h.far
 have : wr.heap.size = k := by simpa [Value.ownBlock] using hk
 omega
theorem spec_avFar.AV.len {w wr : World} {W H : Int} {V : Value} {far q : List Int} {v : Value} (h : spec_avFar.AV w wr W H V far v q) : ∃ A c, v = .slice A q.length c := by
 obtain ⟨A, c, e⟩ := Kd.R_slice h.row
 exact ⟨A, c, e⟩
theorem spec_avFar.step_cases {k : Nat} {W H : Int} {l : List S58} {at_ s : Int} {st s' : List Int × List Int} (h : spec_avFar.step k W H l at_ s st = some s') : ∃ u v o, spec_avStep.f k W H l (at_ / H) (at_ % H) s = some (u, v, o) ∧
  (o = false ∧ s' = st ∨ o = true ∧ ∃ p : Nat, wrap64 (wrap64 (u * H) + v) = (p : Int) ∧ p < st.1.length ∧ st.2.length < 1000000 ∧ (rd st.1 (p : Int) < 0 ∧ s' = (st.1.set p (wrap64 (rd st.1 at_ + 1)), st.2 ++ [(p : Int)]) ∨ ¬ rd st.1 (p : Int) < 0 ∧ s' = st)) := by
 obtain ⟨⟨u, v, o⟩, h1, h2⟩ := Option.bind_eq_some_iff.mp h
 refine ⟨u, v, o, h1, ?_⟩
 simp only at h2
 cases o with
 | false => left; exact ⟨rfl, by simpa using h2.symm⟩
 | true =>
  right
  rw [if_pos rfl] at h2
  split at h2
  ·rename_i hc
   obtain ⟨p, hp⟩ : ∃ p : Nat, wrap64 (wrap64 (u * H) + v) = (p : Int) := ⟨(wrap64 (wrap64 (u * H) + v)).toNat, by omega⟩
   rw [hp] at hc h2
   refine ⟨rfl, p, hp, by omega, hc.2.2, ?_⟩
   split at h2
   ·left; exact ⟨by assumption, by simpa using h2.symm⟩
   ·right; exact ⟨by assumption, by simpa using h2.symm⟩
  ·cases h2
def spec_avFar.BY (wr : World) (g : Nat) : Prop := wr.heap[g]? = some (.cells #[.int .u8 101, .int .u8 110, .int .u8 115, .int .u8 119] 5 (4, 5))
theorem spec_avFar.blk_new' (w : World) (o : Obj) : (w.alloc o).heap[w.heap.size]? = some o := by
 show (w.heap.push o)[w.heap.size]? = _
 simp
theorem spec_avFar.BY.cell {wr : World} {g : Nat} (h : spec_avFar.BY wr g) {i : Nat} (hi : i < 4) : wr.cell? ⟨g, i, none⟩ = some (.int .u8 (spec_avFar.sg i)) := by
 rw [cell_of_row wr g i _ _ _ h]
 rcases (show i = 0 ∨ i = 1 ∨ i = 2 ∨ i = 3 by omega) with rfl | rfl | rfl | rfl <;> rfl
theorem spec_avFar.BY.below {wr w1 : World} {g : Nat} (h : spec_avFar.BY wr g) (hb : Below wr.heap.size wr w1) : spec_avFar.BY w1 g := (hb.block _ (blk_lt h)).trans h
theorem spec_avFar.BY.set {w wr : World} {W H : Int} {V v : Value} {far q : List Int} {g : Nat} (h : spec_avFar.BY wr g) (hv : spec_avFar.AV w wr W H V far v q) (i : Nat) (x : Value) : spec_avFar.BY (wr.setCell ⟨w.heap.size + 1, i, none⟩ x) g := by
 refine (Below.heap_setCell wr _ x g ?_).trans h
 rintro rfl
 have h1 := hv.far
 unfold spec_avFar.BY at h
 rw [h] at h1
 simp at h1
theorem spec_avFar.BY.app {w wr w1 : World} {W H : Int} {V v : Value} {far q : List Int} {g : Nat} (h : spec_avFar.BY wr g) (hv : spec_avFar.AV w wr W H V far v q) (hg : wr.grownBy w1 v.ownBlock) : spec_avFar.BY w1 g := by
 refine (hg.block g (blk_lt h) ?_).trans h
 intro e
 obtain ⟨cells, h1⟩ := Kd.R_typed hv.row g e.symm
 unfold spec_avFar.BY at h
 rw [h] at h1
 simp at h1
theorem spec_avFar.AV.res {w wr : World} {W H : Int} {V v : Value} {far q : List Int} {n : Nat} (h : spec_avFar.AV w wr W H V far v q) (hn : far.length = n) (hm : n ≤ 64) : Kd.R (Kd.int .i64) 3 wr w.heap.size (fun _ => True) (.slice (some ⟨w.heap.size + 1, 0, none⟩) n n) far := by
 subst hn
 refine Kd.R_of_own (enc := Value.int .i64) (h1 := fun _ => rfl) ⟨by simp [encs], .inr ⟨w.heap.size + 1, far.length, _, rfl, by omega, h.far, Nat.le_refl _, by unfold maxLen; omega, by simp, ?_⟩⟩ (fun _ _ => trivial)
 simp [encs]
 exact List.take_of_length_le (by simp)
theorem spec_avFar.info : (Try.prog.info? 3).map (fun i => (i.zero, i.size, i.bytes)) = some (some (.int .i64 0), 1, 8) := by kernel_rfl
set_option maxHeartbeats 4000000 in
set_option maxRecDepth 100000 in
theorem spec_avFar.calls (k : Nat) (a0_0 : Int) (a0_1 : Int) (A0_2 : Option Addr) (c0_2 : Nat) (l0_2 : List S58) (A1 : Option Addr) (c1 : Nat) (l1 : List Int) (r : List Int) (w : World) (hr0_2 : Kd.C k58 w A0_2 l0_2.length l0_2) (hc0_2 : l0_2.length ≤ c0_2) (hr1 : Kd.C (Kd.int .i64) w A1 l1.length l1) (hc1 : l1.length ≤ c1) (h : spec_avFar.f k a0_0 a0_1 l0_2 l1 = some r) :
  Calls Try.prog 41 #[.agg #[.int .i64 a0_0, .int .i64 a0_1, .slice A0_2 l0_2.length c0_2], .slice A1 l1.length c1] w fun e w' => ∃ v0_ : Value, e = .returned (v0_) ∧ Kd.R (Kd.int .i64) 3 w' w.heap.size (fun _ => True) v0_ r ∧ Below w.heap.size w w' := by
 have hu := Try.underlying31
 unfold spec_avFar.f at h
 by_cases hk : spec_avFar.ok a0_0 a0_1 l1 = true
 ·rw [if_pos hk] at h
  unfold spec_avFar.ok at hk
  simp only [Bool.and_eq_true, decide_eq_true_eq] at hk
  obtain ⟨⟨hW1, hW8⟩, ⟨hH1, hH8⟩, hl2, ⟨hx0, hx1⟩, hy0, hy1⟩ := hk
  match l1, hl2 with
  | [x, y], _ =>
  change 0 ≤ x at hx0
  change x ≤ a0_0 - 1 at hx1
  change 0 ≤ y at hy0
  change y ≤ a0_1 - 1 at hy1
  change spec_avFar.l1 a0_0 a0_1 l0_2 k 0 ((List.replicate (a0_0 * a0_1).toNat (-1)).set (x * a0_1 + y).toNat 0, [x * a0_1 + y]) = some r at h
  show Calls Try.prog 41 #[.agg #[.int .i64 a0_0, .int .i64 a0_1, .slice A0_2 l0_2.length c0_2], .slice A1 2 c1] w _
  obtain ⟨N, hN⟩ : ∃ N : Nat, a0_0 * a0_1 = (N : Int) := ⟨(a0_0 * a0_1).toNat, by rw [Int.toNat_of_nonneg (Int.mul_nonneg (by omega) (by omega))]⟩
  have hN64 : N ≤ 64 := by
   have := Int.mul_le_mul hW8 hH8 (by omega) (by omega)
   omega
  have hxy : 0 ≤ x * a0_1 + y ∧ x * a0_1 + y < (N : Int) := by
   have h1 := Int.mul_nonneg hx0 (show 0 ≤ a0_1 by omega)
   have h2 := Int.mul_le_mul_of_nonneg_right hx1 (show 0 ≤ a0_1 by omega)
   rw [Int.sub_mul, hN] at h2
   omega
  have HH := Lib.hid h
  have HC := Lib.hid hr0_2
  have HA := Lib.hid hr1
  have hmk := print_make (P := Try.prog) 25 3 .i64 8 Try.underlying25 spec_avFar.info (by omega) N (by omega)
  clear h hr0_2 hr1
  go_enter Try.func41, Try.ntmps41
  go_wp2
  have HV := Lib.hid (spec_avFar.AV.start w a0_0 a0_1 (.slice A0_2 l0_2.length c0_2) N)
  generalize ((w.alloc (.cells #[.int .i64 a0_0, .int .i64 a0_1, .slice A0_2 l0_2.length c0_2] 31)).alloc (.cells (madeCells #[.int .i64 0] N) 3)) = W1 at HV ⊢
  clear hmk
  go_loopw [24] (fun v wr => ∃ j : Nat, j ≤ N ∧ v = .int .i64 j ∧ spec_avFar.AV w wr a0_0 a0_1 (.slice A0_2 l0_2.length c0_2) (spec_avFar.fill N j) (.slice none 0 0) []) (fun v _ => N - (intOf v).toNat)
  case atStart => exact ⟨0, by omega, rfl, HV.out⟩
  case round =>
   obtain ⟨j, hj, rfl, hav⟩ := hrel
   clear HV
   have HV := Lib.hid hav
   by_cases hlt : j < N
   ·have hp0 : (0 : Int) ≤ (j : Int) := by omega
    have hp1 : (j : Int) < (N : Int) := by omega
    have hcell := hav.cell (show j < (spec_avFar.fill N j).length by rw [spec_avFar.fill_len hj]; exact hlt)
    have hfz := blk_frozen hav.far j
    clear hav
    go_wp2
    go_roundw
    case rel => exact ⟨j + 1, by omega, by go_num, by have h1 := HV.out.set j (-1); rwa [spec_avFar.fill_set hlt] at h1⟩
    case measure => simp [intOf]; omega
   ·obtain rfl : j = N := by omega
    clear hav
    obtain ⟨p, hp⟩ : ∃ p : Nat, x * a0_1 + y = (p : Int) := ⟨(x * a0_1 + y).toNat, by omega⟩
    have hpN : p < j := by omega
    have e1 : IntKind.i64.wrap (x * a0_1) = x * a0_1 := IntWalk.i64_in _ (by omega)
    have e2 : IntKind.i64.wrap (x * a0_1 + y) = (p : Int) := by rw [hp]; exact IntWalk.i64_in _ (by omega)
    have hp0 : (0 : Int) ≤ (p : Int) := by omega
    have hp1 : (p : Int) < (j : Int) := by omega
    obtain ⟨ad, rfl, _, hcx, hcy⟩ := spec_avFar.two (Kd.C_below HA.out HV.out.bel)
    have hcz1 : wr.cell? ⟨w.heap.size, 1, none⟩ = some (.int .i64 a0_1) := (blk_cell HV.out.box 1).trans rfl
    have hcell := HV.out.cell (show p < (spec_avFar.fill j j).length by rw [spec_avFar.fill_len hj]; exact hpN)
    have hfz := blk_frozen HV.out.far p
    have hpE := Lib.hid hp
    clear hp
    go_wp2
    go_still_tail 12, (by kernel_rfl)
    change wpList _ _ _ _ _ wr.drew
    generalize hwd : wr.drew = W2
    have HV2 := Lib.hid (show spec_avFar.AV w W2 a0_0 a0_1 (.slice A0_2 l0_2.length c0_2) (spec_avFar.fill j j) (.slice none 0 0) [] by rw [← hwd]; exact HV.out.below (below_drew (Below.refl _ _)))
    have hcell2 := HV2.out.cell (show p < (spec_avFar.fill j j).length by rw [spec_avFar.fill_len hj]; exact hpN)
    have hfz2 := blk_frozen HV2.out.far p
    clear hwd hcell hfz hcx hcy hcz1 HV
    go_wp2
    have HV3 := Lib.hid (HV2.out.set p 0)
    generalize W2.setCell ⟨w.heap.size + 1, p, none⟩ (.int .i64 0) = W3 at HV3 ⊢
    obtain ⟨ad', ead, _, hcx, hcy⟩ := spec_avFar.two (Kd.C_below HA.out HV3.out.bel)
    obtain rfl := Option.some.inj ead
    have hcz1 : W3.cell? ⟨w.heap.size, 1, none⟩ = some (.int .i64 a0_1) := (blk_cell HV3.out.box 1).trans rfl
    clear hcell2 hfz2 HV2 ead
    go_still_tail 10, (by kernel_rfl)
    change wpList _ _ _ _ _ W3.drew
    generalize hwd : W3.drew = W4
    have HV4 := Lib.hid (show spec_avFar.AV w W4 a0_0 a0_1 (.slice A0_2 l0_2.length c0_2) ((spec_avFar.fill j j).set p 0) (.slice none 0 0) [] by rw [← hwd]; exact HV3.out.below (below_drew (Below.refl _ _)))
    clear hwd hcx hcy hcz1 HV3
    go_wp2
    have HV5 := Lib.hid (HV4.out.lit (p : Int))
    generalize W4.alloc (.cells #[.int .i64 (p : Int)] 3) = W5 at HV5 ⊢
    rw [spec_avFar.fill_end] at HV5
    have HL := Lib.hid (show spec_avFar.l1 a0_0 a0_1 l0_2 k 0 ((List.replicate j (-1)).set p 0, [(p : Int)]) = some r by have h0 := HH.out; rw [hN, hpE.out] at h0; simpa using h0)
    clear HH HV4 e1 e2 hp0 hp1
    go_loopg [7, 8] k (fun kq v7 v8 wr => ∃ (i : Nat) (st : List Int × List Int), v8 = .int .i64 i ∧ Hid (spec_avFar.l1 a0_0 a0_1 l0_2 kq i st = some r) ∧ Hid (st.1.length = j) ∧ Hid (spec_avFar.AV w wr a0_0 a0_1 (.slice A0_2 l0_2.length c0_2) st.1 v7 st.2))
    case atStart => exact ⟨0, _, rfl, HL, Lib.hid (by simp), HV5⟩
    case round =>
     clear HL HV5
     obtain ⟨i, st, rfl, HL, HN, HV⟩ := hrel
     cases gk with
     | zero => exact absurd HL.out (by simp [spec_avFar.l1])
     | succ k1 =>
      have h := HL.out
      clear HL
      simp only [spec_avFar.l1] at h
      obtain ⟨Aq, cq, eq⟩ := HV.out.len
      subst eq
      have hql : st.2.length ≤ 9223372036854775807 := by
       have h0 := Kd.R_reads' HV.out.row
       have h1 := h0.2.2.2.1
       unfold maxLen at h1
       omega
      by_cases hi : i < st.2.length
      ·rw [if_pos hi] at h
       by_cases hat : 0 ≤ rd st.2 i ∧ rd st.2 i < st.1.length
       ·rw [if_pos hat] at h
        obtain ⟨s4, hs4, h⟩ := Option.bind_eq_some_iff.mp h
        have HS4 := Lib.hid hs4
        have HNX := Lib.hid h
        clear hs4 h
        have hi0 : (0 : Int) ≤ (i : Int) := by omega
        have hi1 : (i : Int) < (st.2.length : Int) := by omega
        obtain ⟨adq, eadq, hxq⟩ := Kd.at_int (Kd.R_reads' HV.out.row).2.2 (i : Int) hi0 hi1
        subst eadq
        rw [Int.toNat_natCast] at hxq
        obtain ⟨at_, hat_⟩ : ∃ at_ : Int, at_ = rd st.2 (i : Int) := ⟨_, rfl⟩
        rw [← hat_] at hat hxq HS4
        have HAT := Lib.hid hat_
        clear hat_
        have kc := fun (w : World) (C : Array Value) (n c : Nat) => Lib.run_convert_bytes_const (P := Try.prog) w 65 5 C n c Try.underlying65 Try.underlying5
        go_wp2
        have HV1 := Lib.hid (HV.out.below (below_alloc (Below.refl _ _) (.cells #[.int .u8 101, .int .u8 110, .int .u8 115, .int .u8 119] 5 (4, 5))))
        have HB1 := Lib.hid (show spec_avFar.BY (wr.alloc (.cells #[.int .u8 101, .int .u8 110, .int .u8 115, .int .u8 119] 5 (4, 5))) wr.heap.size from spec_avFar.blk_new' wr _)
        clear hxq kc HV
        generalize (wr.alloc (.cells #[.int .u8 101, .int .u8 110, .int .u8 115, .int .u8 119] 5 (4, 5))) = Wb at HV1 HB1 ⊢
        obtain ⟨gb, hgb⟩ : ∃ gb, gb = wr.heap.size := ⟨_, rfl⟩
        rw [← hgb] at HB1 ⊢
        clear hgb
        go_loopw [7, 67] (fun v7 v67 wr => ∃ (m : Nat) (s : List Int × List Int), m ≤ 4 ∧ v67 = .int .i64 m ∧ Hid (spec_avFar.steps k1 a0_0 a0_1 l0_2 at_ m st = some s) ∧ Hid (spec_avFar.AV w wr a0_0 a0_1 (.slice A0_2 l0_2.length c0_2) s.1 v7 s.2) ∧ Hid (spec_avFar.BY wr gb)) (fun _ v67 _ => 4 - (intOf v67).toNat)
        case atStart => exact ⟨0, st, by omega, rfl, Lib.hid rfl, HV1, HB1⟩
        case round =>
         clear HV1 HB1
         obtain ⟨m, s, hm, rfl, HS, HV, HB⟩ := hrel
         by_cases hm4 : m < 4
         ·obtain ⟨s', hs'⟩ := spec_avFar.steps_at HS4.out (4 - (m + 1)) (m + 1) (by omega)
          have hstep := hs'
          rw [spec_avFar.steps, HS.out, Option.bind_some] at hstep
          have HS' := Lib.hid hs'
          clear hs'
          have hby := HB.out.cell hm4
          have hm0 : (0 : Int) ≤ (m : Int) := by omega
          have hm1 : (m : Int) < 4 := by omega
          obtain ⟨sg, hsg⟩ : ∃ sg, sg = spec_avFar.sg m := ⟨_, rfl⟩
          rw [← hsg] at hstep hby
          clear hsg
          obtain ⟨u, v, o, hst, hcase⟩ := spec_avFar.step_cases hstep
          have HC1 := Lib.hid hcase
          have HST := Lib.hid hst
          have hlen := spec_avFar.steps_len HS.out
          have HLN := Lib.hid (hlen.trans HN.out)
          clear hstep hcase hst hlen
          have hcz0 : wr.cell? ⟨w.heap.size, 0, none⟩ = some (.int .i64 a0_0) := (blk_cell HV.out.box 0).trans rfl
          have hcz1 : wr.cell? ⟨w.heap.size, 1, none⟩ = some (.int .i64 a0_1) := (blk_cell HV.out.box 1).trans rfl
          have hcz2 : wr.cell? ⟨w.heap.size, 2, none⟩ = some (.slice A0_2 l0_2.length c0_2) := (blk_cell HV.out.box 2).trans rfl
          have hat64 : at_ < 64 := by have := HN.out; omega
          have hat0 := hat.1
          have hH0 : ¬ a0_1 = 0 := by omega
          have eq1 : IntKind.i64.wrap (at_.tdiv a0_1) = at_ / a0_1 := by rw [Int.tdiv_eq_ediv_of_nonneg hat0]; exact IntWalk.i64_in _ ⟨by have := Int.ediv_nonneg hat0 (show 0 ≤ a0_1 by omega); omega, by have := Int.ediv_le_self a0_1 hat0; omega⟩
          have eq2 : at_.tmod a0_1 = at_ % a0_1 := Int.tmod_eq_emod_of_nonneg hat0
          go_wp2
          go_region_held3 (fun w' => w'.cell? ⟨w.heap.size, 0, none⟩ = some (.int .i64 a0_0) ∧ w'.cell? ⟨w.heap.size, 1, none⟩ = some (.int .i64 a0_1) ∧ w'.cell? ⟨w.heap.size, 2, none⟩ = some (.slice A0_2 l0_2.length c0_2)) (first | go_keep | (exact ⟨pw_cell_below hb2 (by assumption), pw_cell_below hb2 (by assumption), pw_cell_below hb2 (by assumption)⟩))
           (first | (go_at_call 42; refine (spec_avStep.calls k1 a0_0 a0_1 A0_2 c0_2 l0_2 (at_ / a0_1) (at_ % a0_1) sg u v o _ (Kd.C_below HC.out (by first | exact HV.out.bel | exact below_drew HV.out.bel | exact pw_below_drewN HV.out.bel _)) hc0_2 HST.out).mono ?_; rintro e w2 ⟨rfl, hb2⟩))
          have HV2 := Lib.hid ((HV.out.below (below_drew (Below.refl _ _))).below hb2)
          have HB2 := Lib.hid ((HB.out.below (below_drew (Below.refl _ _))).below hb2)
          clear hb2 hcz0 hcz1 hcz2 hby HV HB eq1 eq2
          have hcz1 : w2.cell? ⟨w.heap.size, 1, none⟩ = some (.int .i64 a0_1) := (blk_cell HV2.out.box 1).trans rfl
          rcases HC1.out with ⟨rfl, rfl⟩ | ⟨rfl, p', hp', hpl, hql', ⟨hneg, rfl⟩ | ⟨hneg, rfl⟩⟩
          ·clear HC1
           go_wp2
           go_roundw
           case rel => exact ⟨m + 1, _, by omega, by go_num, HS', HV2, HB2⟩
           case measure => simp [intOf]; omega
          ·have hcp := HV2.out.cell hpl
           have hca := HV2.out.cell (show at_.toNat < s.1.length by have := HLN.out; have := HN.out; omega)
           rw [Int.toNat_of_nonneg hat0] at hca
           have hfz := blk_frozen HV2.out.far p'
           have hp0 : (0 : Int) ≤ (p' : Int) := by omega
           have hp1 : (p' : Int) < (j : Int) := by have := HLN.out; omega
           have hat1 : at_ < (j : Int) := by have := HN.out; omega
           have HQL := Lib.hid hql'
           have HV3 := Lib.hid (HV2.out.set p' (wrap64 (rd s.1 at_ + 1)))
           have HB3 := Lib.hid (HB2.out.set HV2.out p' (.int .i64 (wrap64 (rd s.1 at_ + 1))))
           clear hql' HC1
           go_upto_region 20 with (fail)
           generalize (w2.setCell ⟨w.heap.size + 1, p', none⟩ (.int .i64 (wrap64 (rd s.1 at_ + 1)))) = W3 at HV3 HB3 ⊢
           clear hcp hca hfz hcz1
           go_wp2_with ((with_reducible refine gate_builtin (b := .append) (xs := #[.tmp 108, .tmp 110]) rfl ?_); at_builtin; refine Kd.R_append (Kd.int .i64) (w0 := w) w.heap.size rfl (.tmp 108) (.tmp 110) 25 3 (.int .i64 0) 8 rfl Try.underlying25 spec_avFar.info rfl (by decide) (by omega) _ s.2 (p' : Int) [.int .i64 (p' : Int)] (fun k_ => k_ ≠ w.heap.size + 1) (fun _ => False) rfl rfl ?aP (fun _ hk => hk.elim) ?aF ?aO ?aB ?aS ?aL ?_; (case aP => exact rfl); (case aB => exact HV3.out.bel); (case aF => exact (fun k hk => by have := blk_lt HV3.out.far; omega)); (case aO => exact HV3.out.row); (case aS => exact HV3.out.bel.size); (case aL => have := HQL.out; omega); intro v1 w4 ho hb4 hg4 hat4; have HV4 := Lib.hid (HV3.out.app ho hb4 hg4); have HB4 := Lib.hid (HB3.out.app HV3.out hg4); clear HV3 HB3 ho hb4 hg4 hat4)
           go_roundw
           case rel => exact ⟨m + 1, _, by omega, by go_num, HS', HV4, HB4⟩
           case measure => simp [intOf]; omega
          ·have hcp := HV2.out.cell hpl
           have hfz := blk_frozen HV2.out.far p'
           have hp0 : (0 : Int) ≤ (p' : Int) := by omega
           have hp1 : (p' : Int) < (j : Int) := by have := HLN.out; omega
           clear HC1 hql'
           go_wp2
           go_roundw
           case rel => exact ⟨m + 1, _, by omega, by go_num, HS', HV2, HB2⟩
           case measure => simp [intOf]; omega
         ·obtain rfl : m = 4 := by omega
          obtain rfl := Option.some.inj (HS.out.symm.trans HS4.out)
          go_wp2
          go_roundg k1
          case measure => omega
          case rel => exact ⟨i + 1, s, by go_num, HNX, Lib.hid ((spec_avFar.steps_len HS.out).trans HN.out), HV⟩
       ·rw [if_neg hat] at h
        cases h
      ·rw [if_neg hi] at h
       obtain rfl := Option.some.inj h
       clear h
       go_wp2
       go_ret
       exact ⟨_, rfl, HV.out.res HN.out hN64, HV.out.bel⟩
 ·rw [if_neg hk] at h
  cases h
def spec_avLess.f (a0_0 : Int) (a0_1 : Int) (a0_2 : Bool) (a1_0 : Int) (a1_1 : Int) (a1_2 : Bool) : Option (Bool) := if a0_0 = a1_0 then (if a0_1 = a1_1 then (if a0_2 = true then (some false) else (some a1_2)) else (some (decide (a0_1 < a1_1)))) else (some (decide (a0_0 < a1_0)))
set_option maxHeartbeats 8000000 in
set_option maxRecDepth 100000 in
theorem spec_avLess.calls (a0_0 : Int) (a0_1 : Int) (a0_2 : Bool) (a1_0 : Int) (a1_1 : Int) (a1_2 : Bool) (r : Bool) (w : World) (h : spec_avLess.f a0_0 a0_1 a0_2 a1_0 a1_1 a1_2 = some r) :
  Calls Try.prog 75 #[.agg #[.int .i64 a0_0, .int .i64 a0_1, .bool a0_2], .agg #[.int .i64 a1_0, .int .i64 a1_1, .bool a1_2]] w fun e w' => e = .returned (.bool r) ∧ Below w.heap.size w w' := by
 have hu58 := Try.underlying58
 have HB := Aside0.mk (Below.refl w.heap.size w)
 have H : (if a0_0 = a1_0 then (if a0_1 = a1_1 then (if a0_2 = true then (some false) else (some a1_2)) else (some (decide (a0_1 < a1_1)))) else (some (decide (a0_0 < a1_0)))) = some r := h
 clear h
 by_cases c3 : a0_0 = a1_0
 ·rw [if_pos c3] at H
  have c3b0 : (a0_0 == a1_0) = true := beq_iff_eq.mpr c3
  have c3b1 : (a0_0 != a1_0) = false := bne_eq_false_iff_eq.mpr c3
  clear c3
  by_cases c4 : a0_1 = a1_1
  ·rw [if_pos c4] at H
   have c4b0 : (a0_1 == a1_1) = true := beq_iff_eq.mpr c4
   have c4b1 : (a0_1 != a1_1) = false := bne_eq_false_iff_eq.mpr c4
   clear c4
   by_cases c5 : a0_2 = true
   ·subst c5
    have H1 : (some false) = some r := by rw [if_pos rfl] at H; exact H
    clear H
    have H := H1
    clear H1
    obtain rfl := Option.some.inj H
    go_enter Try.func75, Try.ntmps75
    go_wp2_with (first | ((with_reducible refine gate_dst (N := 2) rfl ?_); refine box_event ?hg (N := 2) ?hd (cs := #[.int .i64 a0_0, .int .i64 a0_1, .bool true]) (t := 58) ?hr ?_; (case hd => rfl); (case hg => rfl); (case hr => first | (go_simp; done) | (go_simp; rfl)); intro gb150 hg w6 hbox hb; have n0_ := Aside0.mk (below_step (by repeat (first | (with_reducible first | exact HB.out | apply below_alloc | apply pw_below_drewN | apply below_drew1) | exact HB.out)) hb); have n1_ := Aside0.mk (hbox); have n2_ := Aside0.mk ((by rw [hg]; exact (below_size (by repeat (first | (with_reducible first | exact HB.out | apply below_alloc | apply pw_below_drewN | apply below_drew1) | exact HB.out))) : w.heap.size ≤ gb150)); have n3_ := Aside0.mk ((by rw [hg]; exact (below_size (by repeat (first | (with_reducible first | exact HB.out | apply below_alloc | apply pw_below_drewN | apply below_drew1) | exact HB.out))) : w.heap.size ≤ gb150)); clear HB; have HB := n0_; have BK150 := n1_; have GW150 := n2_; have GE150 := n3_; clear n0_ n1_ n2_ n3_; clear hb hbox hg) | ((with_reducible refine gate_dst (N := 3) rfl ?_); refine box_event ?hg (N := 3) ?hd (cs := #[.int .i64 a1_0, .int .i64 a1_1, .bool a1_2]) (t := 58) ?hr ?_; (case hd => rfl); (case hg => rfl); (case hr => first | (go_simp; done) | (go_simp; rfl)); intro gb151 hg w7 hbox hb; have n0_ := Aside0.mk (blk_below (g := gb150) (o := .cells #[.int .i64 a0_0, .int .i64 a0_1, .bool true] 58 (0, 0)) (by (with_reducible repeat (first | refine blk_drewN ?_ _ | refine blk_drew ?_ | refine blk_alloc ?_ _)); exact BK150.out) hb); have n1_ := Aside0.mk (below_step (by repeat (first | (with_reducible first | exact HB.out | apply below_alloc | apply pw_below_drewN | apply below_drew1 | refine below_set ?_ GE150.out) | exact HB.out)) hb); have n2_ := Aside0.mk (hbox); have n3_ := Aside0.mk ((by rw [hg]; exact (below_size (by repeat (first | (with_reducible first | exact HB.out | apply below_alloc | apply pw_below_drewN | apply below_drew1 | refine below_set ?_ GE150.out) | exact HB.out))) : w.heap.size ≤ gb151)); have n4_ := Aside0.mk ((by rw [hg]; exact (below_size (by repeat (first | (with_reducible first | exact HB.out | apply below_alloc | apply pw_below_drewN | apply below_drew1 | refine below_set ?_ GE150.out) | exact HB.out))) : w.heap.size ≤ gb151)); have n5_ := Aside0.mk ((by rw [hg]; exact Nat.ne_of_lt (blk_lt (g := gb150) (o := .cells #[.int .i64 a0_0, .int .i64 a0_1, .bool true] 58 (0, 0)) (by (with_reducible repeat (first | refine blk_drewN ?_ _ | refine blk_drew ?_ | refine blk_alloc ?_ _)); exact BK150.out)) : gb150 ≠ gb151)); have n6_ := Aside0.mk ((by rw [hg]; exact Nat.ne_of_gt (blk_lt (g := gb150) (o := .cells #[.int .i64 a0_0, .int .i64 a0_1, .bool true] 58 (0, 0)) (by (with_reducible repeat (first | refine blk_drewN ?_ _ | refine blk_drew ?_ | refine blk_alloc ?_ _)); exact BK150.out)) : gb151 ≠ gb150)); clear BK150; clear HB; have BK150 := n0_; have HB := n1_; have BK151 := n2_; have GW151 := n3_; have GE151 := n4_; have NB150_151 := n5_; have NB151_150 := n6_; clear n0_ n1_ n2_ n3_ n4_ n5_ n6_; clear hb hbox hg; have hnb8 := NB150_151.out; have hnc8 := NB151_150.out; have hcz9_0 : w7.cell? ⟨gb150, 0, none⟩ = some (.int .i64 a0_0) := (blk_cell BK150.out 0).trans rfl; have hcz9_1 : w7.cell? ⟨gb150, 1, none⟩ = some (.int .i64 a0_1) := (blk_cell BK150.out 1).trans rfl; have hcz9_2 : w7.cell? ⟨gb150, 2, none⟩ = some (.bool true) := (blk_cell BK150.out 2).trans rfl; have hfz9_0 := blk_frozen BK150.out 0; have hfz9_1 := blk_frozen BK150.out 1; have hfz9_2 := blk_frozen BK150.out 2; have hcz10_0 : w7.cell? ⟨gb151, 0, none⟩ = some (.int .i64 a1_0) := (blk_cell BK151.out 0).trans rfl; have hcz10_1 : w7.cell? ⟨gb151, 1, none⟩ = some (.int .i64 a1_1) := (blk_cell BK151.out 1).trans rfl; have hcz10_2 : w7.cell? ⟨gb151, 2, none⟩ = some (.bool a1_2) := (blk_cell BK151.out 2).trans rfl; have hfz10_0 := blk_frozen BK151.out 0; have hfz10_1 := blk_frozen BK151.out 1; have hfz10_2 := blk_frozen BK151.out 2))
    go_ret
    exact ⟨by first | rfl | (simp [errW_none, errW_some] <;> rfl) | (simp [*, errW_none, errW_some] <;> rfl), by repeat (first | (with_reducible first | exact HB.out | apply below_alloc | apply pw_below_drewN | apply below_drew1 | refine below_set ?_ GE150.out | refine below_set ?_ GE151.out) | exact HB.out)⟩
   ·replace c5 := Bool.eq_false_iff.mpr c5
    subst c5
    have H1 : (some a1_2) = some r := by rw [if_neg (show ¬ (false = true) by decide)] at H; exact H
    clear H
    have H := H1
    clear H1
    obtain rfl := Option.some.inj H
    go_enter Try.func75, Try.ntmps75
    go_wp2_with (first | ((with_reducible refine gate_dst (N := 2) rfl ?_); refine box_event ?hg (N := 2) ?hd (cs := #[.int .i64 a0_0, .int .i64 a0_1, .bool false]) (t := 58) ?hr ?_; (case hd => rfl); (case hg => rfl); (case hr => first | (go_simp; done) | (go_simp; rfl)); intro gb150 hg w11 hbox hb; have n0_ := Aside0.mk (below_step (by repeat (first | (with_reducible first | exact HB.out | apply below_alloc | apply pw_below_drewN | apply below_drew1) | exact HB.out)) hb); have n1_ := Aside0.mk (hbox); have n2_ := Aside0.mk ((by rw [hg]; exact (below_size (by repeat (first | (with_reducible first | exact HB.out | apply below_alloc | apply pw_below_drewN | apply below_drew1) | exact HB.out))) : w.heap.size ≤ gb150)); have n3_ := Aside0.mk ((by rw [hg]; exact (below_size (by repeat (first | (with_reducible first | exact HB.out | apply below_alloc | apply pw_below_drewN | apply below_drew1) | exact HB.out))) : w.heap.size ≤ gb150)); clear HB; have HB := n0_; have BK150 := n1_; have GW150 := n2_; have GE150 := n3_; clear n0_ n1_ n2_ n3_; clear hb hbox hg) | ((with_reducible refine gate_dst (N := 3) rfl ?_); refine box_event ?hg (N := 3) ?hd (cs := #[.int .i64 a1_0, .int .i64 a1_1, .bool a1_2]) (t := 58) ?hr ?_; (case hd => rfl); (case hg => rfl); (case hr => first | (go_simp; done) | (go_simp; rfl)); intro gb151 hg w12 hbox hb; have n0_ := Aside0.mk (blk_below (g := gb150) (o := .cells #[.int .i64 a0_0, .int .i64 a0_1, .bool false] 58 (0, 0)) (by (with_reducible repeat (first | refine blk_drewN ?_ _ | refine blk_drew ?_ | refine blk_alloc ?_ _)); exact BK150.out) hb); have n1_ := Aside0.mk (below_step (by repeat (first | (with_reducible first | exact HB.out | apply below_alloc | apply pw_below_drewN | apply below_drew1 | refine below_set ?_ GE150.out) | exact HB.out)) hb); have n2_ := Aside0.mk (hbox); have n3_ := Aside0.mk ((by rw [hg]; exact (below_size (by repeat (first | (with_reducible first | exact HB.out | apply below_alloc | apply pw_below_drewN | apply below_drew1 | refine below_set ?_ GE150.out) | exact HB.out))) : w.heap.size ≤ gb151)); have n4_ := Aside0.mk ((by rw [hg]; exact (below_size (by repeat (first | (with_reducible first | exact HB.out | apply below_alloc | apply pw_below_drewN | apply below_drew1 | refine below_set ?_ GE150.out) | exact HB.out))) : w.heap.size ≤ gb151)); have n5_ := Aside0.mk ((by rw [hg]; exact Nat.ne_of_lt (blk_lt (g := gb150) (o := .cells #[.int .i64 a0_0, .int .i64 a0_1, .bool false] 58 (0, 0)) (by (with_reducible repeat (first | refine blk_drewN ?_ _ | refine blk_drew ?_ | refine blk_alloc ?_ _)); exact BK150.out)) : gb150 ≠ gb151)); have n6_ := Aside0.mk ((by rw [hg]; exact Nat.ne_of_gt (blk_lt (g := gb150) (o := .cells #[.int .i64 a0_0, .int .i64 a0_1, .bool false] 58 (0, 0)) (by (with_reducible repeat (first | refine blk_drewN ?_ _ | refine blk_drew ?_ | refine blk_alloc ?_ _)); exact BK150.out)) : gb151 ≠ gb150)); clear BK150; clear HB; have BK150 := n0_; have HB := n1_; have BK151 := n2_; have GW151 := n3_; have GE151 := n4_; have NB150_151 := n5_; have NB151_150 := n6_; clear n0_ n1_ n2_ n3_ n4_ n5_ n6_; clear hb hbox hg; have hnb13 := NB150_151.out; have hnc13 := NB151_150.out; have hcz14_0 : w12.cell? ⟨gb150, 0, none⟩ = some (.int .i64 a0_0) := (blk_cell BK150.out 0).trans rfl; have hcz14_1 : w12.cell? ⟨gb150, 1, none⟩ = some (.int .i64 a0_1) := (blk_cell BK150.out 1).trans rfl; have hcz14_2 : w12.cell? ⟨gb150, 2, none⟩ = some (.bool false) := (blk_cell BK150.out 2).trans rfl; have hfz14_0 := blk_frozen BK150.out 0; have hfz14_1 := blk_frozen BK150.out 1; have hfz14_2 := blk_frozen BK150.out 2; have hcz15_0 : w12.cell? ⟨gb151, 0, none⟩ = some (.int .i64 a1_0) := (blk_cell BK151.out 0).trans rfl; have hcz15_1 : w12.cell? ⟨gb151, 1, none⟩ = some (.int .i64 a1_1) := (blk_cell BK151.out 1).trans rfl; have hcz15_2 : w12.cell? ⟨gb151, 2, none⟩ = some (.bool a1_2) := (blk_cell BK151.out 2).trans rfl; have hfz15_0 := blk_frozen BK151.out 0; have hfz15_1 := blk_frozen BK151.out 1; have hfz15_2 := blk_frozen BK151.out 2))
    go_ret
    exact ⟨by first | rfl | (simp [errW_none, errW_some] <;> rfl) | (simp [*, errW_none, errW_some] <;> rfl), by repeat (first | (with_reducible first | exact HB.out | apply below_alloc | apply pw_below_drewN | apply below_drew1 | refine below_set ?_ GE150.out | refine below_set ?_ GE151.out) | exact HB.out)⟩
  ·rw [if_neg c4] at H
   have c4b0 : (a0_1 == a1_1) = false := beq_eq_false_iff_ne.mpr c4
   have c4b1 : (a0_1 != a1_1) = true := bne_iff_ne.mpr c4
   obtain rfl := Option.some.inj H
   go_enter Try.func75, Try.ntmps75
   go_wp2_with (first | ((with_reducible refine gate_dst (N := 2) rfl ?_); refine box_event ?hg (N := 2) ?hd (cs := #[.int .i64 a0_0, .int .i64 a0_1, .bool a0_2]) (t := 58) ?hr ?_; (case hd => rfl); (case hg => rfl); (case hr => first | (go_simp; done) | (go_simp; rfl)); intro gb150 hg w16 hbox hb; have n0_ := Aside0.mk (below_step (by repeat (first | (with_reducible first | exact HB.out | apply below_alloc | apply pw_below_drewN | apply below_drew1) | exact HB.out)) hb); have n1_ := Aside0.mk (hbox); have n2_ := Aside0.mk ((by rw [hg]; exact (below_size (by repeat (first | (with_reducible first | exact HB.out | apply below_alloc | apply pw_below_drewN | apply below_drew1) | exact HB.out))) : w.heap.size ≤ gb150)); have n3_ := Aside0.mk ((by rw [hg]; exact (below_size (by repeat (first | (with_reducible first | exact HB.out | apply below_alloc | apply pw_below_drewN | apply below_drew1) | exact HB.out))) : w.heap.size ≤ gb150)); clear HB; have HB := n0_; have BK150 := n1_; have GW150 := n2_; have GE150 := n3_; clear n0_ n1_ n2_ n3_; clear hb hbox hg) | ((with_reducible refine gate_dst (N := 3) rfl ?_); refine box_event ?hg (N := 3) ?hd (cs := #[.int .i64 a1_0, .int .i64 a1_1, .bool a1_2]) (t := 58) ?hr ?_; (case hd => rfl); (case hg => rfl); (case hr => first | (go_simp; done) | (go_simp; rfl)); intro gb151 hg w17 hbox hb; have n0_ := Aside0.mk (blk_below (g := gb150) (o := .cells #[.int .i64 a0_0, .int .i64 a0_1, .bool a0_2] 58 (0, 0)) (by (with_reducible repeat (first | refine blk_drewN ?_ _ | refine blk_drew ?_ | refine blk_alloc ?_ _)); exact BK150.out) hb); have n1_ := Aside0.mk (below_step (by repeat (first | (with_reducible first | exact HB.out | apply below_alloc | apply pw_below_drewN | apply below_drew1 | refine below_set ?_ GE150.out) | exact HB.out)) hb); have n2_ := Aside0.mk (hbox); have n3_ := Aside0.mk ((by rw [hg]; exact (below_size (by repeat (first | (with_reducible first | exact HB.out | apply below_alloc | apply pw_below_drewN | apply below_drew1 | refine below_set ?_ GE150.out) | exact HB.out))) : w.heap.size ≤ gb151)); have n4_ := Aside0.mk ((by rw [hg]; exact (below_size (by repeat (first | (with_reducible first | exact HB.out | apply below_alloc | apply pw_below_drewN | apply below_drew1 | refine below_set ?_ GE150.out) | exact HB.out))) : w.heap.size ≤ gb151)); have n5_ := Aside0.mk ((by rw [hg]; exact Nat.ne_of_lt (blk_lt (g := gb150) (o := .cells #[.int .i64 a0_0, .int .i64 a0_1, .bool a0_2] 58 (0, 0)) (by (with_reducible repeat (first | refine blk_drewN ?_ _ | refine blk_drew ?_ | refine blk_alloc ?_ _)); exact BK150.out)) : gb150 ≠ gb151)); have n6_ := Aside0.mk ((by rw [hg]; exact Nat.ne_of_gt (blk_lt (g := gb150) (o := .cells #[.int .i64 a0_0, .int .i64 a0_1, .bool a0_2] 58 (0, 0)) (by (with_reducible repeat (first | refine blk_drewN ?_ _ | refine blk_drew ?_ | refine blk_alloc ?_ _)); exact BK150.out)) : gb151 ≠ gb150)); clear BK150; clear HB; have BK150 := n0_; have HB := n1_; have BK151 := n2_; have GW151 := n3_; have GE151 := n4_; have NB150_151 := n5_; have NB151_150 := n6_; clear n0_ n1_ n2_ n3_ n4_ n5_ n6_; clear hb hbox hg; have hnb18 := NB150_151.out; have hnc18 := NB151_150.out; have hcz19_0 : w17.cell? ⟨gb150, 0, none⟩ = some (.int .i64 a0_0) := (blk_cell BK150.out 0).trans rfl; have hcz19_1 : w17.cell? ⟨gb150, 1, none⟩ = some (.int .i64 a0_1) := (blk_cell BK150.out 1).trans rfl; have hcz19_2 : w17.cell? ⟨gb150, 2, none⟩ = some (.bool a0_2) := (blk_cell BK150.out 2).trans rfl; have hfz19_0 := blk_frozen BK150.out 0; have hfz19_1 := blk_frozen BK150.out 1; have hfz19_2 := blk_frozen BK150.out 2; have hcz20_0 : w17.cell? ⟨gb151, 0, none⟩ = some (.int .i64 a1_0) := (blk_cell BK151.out 0).trans rfl; have hcz20_1 : w17.cell? ⟨gb151, 1, none⟩ = some (.int .i64 a1_1) := (blk_cell BK151.out 1).trans rfl; have hcz20_2 : w17.cell? ⟨gb151, 2, none⟩ = some (.bool a1_2) := (blk_cell BK151.out 2).trans rfl; have hfz20_0 := blk_frozen BK151.out 0; have hfz20_1 := blk_frozen BK151.out 1; have hfz20_2 := blk_frozen BK151.out 2))
   go_ret
   exact ⟨by first | rfl | (simp [errW_none, errW_some] <;> rfl) | (simp [*, errW_none, errW_some] <;> rfl), by repeat (first | (with_reducible first | exact HB.out | apply below_alloc | apply pw_below_drewN | apply below_drew1 | refine below_set ?_ GE150.out | refine below_set ?_ GE151.out) | exact HB.out)⟩
 ·rw [if_neg c3] at H
  have c3b0 : (a0_0 == a1_0) = false := beq_eq_false_iff_ne.mpr c3
  have c3b1 : (a0_0 != a1_0) = true := bne_iff_ne.mpr c3
  obtain rfl := Option.some.inj H
  go_enter Try.func75, Try.ntmps75
  go_wp2_with (first | ((with_reducible refine gate_dst (N := 2) rfl ?_); refine box_event ?hg (N := 2) ?hd (cs := #[.int .i64 a0_0, .int .i64 a0_1, .bool a0_2]) (t := 58) ?hr ?_; (case hd => rfl); (case hg => rfl); (case hr => first | (go_simp; done) | (go_simp; rfl)); intro gb150 hg w21 hbox hb; have n0_ := Aside0.mk (below_step (by repeat (first | (with_reducible first | exact HB.out | apply below_alloc | apply pw_below_drewN | apply below_drew1) | exact HB.out)) hb); have n1_ := Aside0.mk (hbox); have n2_ := Aside0.mk ((by rw [hg]; exact (below_size (by repeat (first | (with_reducible first | exact HB.out | apply below_alloc | apply pw_below_drewN | apply below_drew1) | exact HB.out))) : w.heap.size ≤ gb150)); have n3_ := Aside0.mk ((by rw [hg]; exact (below_size (by repeat (first | (with_reducible first | exact HB.out | apply below_alloc | apply pw_below_drewN | apply below_drew1) | exact HB.out))) : w.heap.size ≤ gb150)); clear HB; have HB := n0_; have BK150 := n1_; have GW150 := n2_; have GE150 := n3_; clear n0_ n1_ n2_ n3_; clear hb hbox hg) | ((with_reducible refine gate_dst (N := 3) rfl ?_); refine box_event ?hg (N := 3) ?hd (cs := #[.int .i64 a1_0, .int .i64 a1_1, .bool a1_2]) (t := 58) ?hr ?_; (case hd => rfl); (case hg => rfl); (case hr => first | (go_simp; done) | (go_simp; rfl)); intro gb151 hg w22 hbox hb; have n0_ := Aside0.mk (blk_below (g := gb150) (o := .cells #[.int .i64 a0_0, .int .i64 a0_1, .bool a0_2] 58 (0, 0)) (by (with_reducible repeat (first | refine blk_drewN ?_ _ | refine blk_drew ?_ | refine blk_alloc ?_ _)); exact BK150.out) hb); have n1_ := Aside0.mk (below_step (by repeat (first | (with_reducible first | exact HB.out | apply below_alloc | apply pw_below_drewN | apply below_drew1 | refine below_set ?_ GE150.out) | exact HB.out)) hb); have n2_ := Aside0.mk (hbox); have n3_ := Aside0.mk ((by rw [hg]; exact (below_size (by repeat (first | (with_reducible first | exact HB.out | apply below_alloc | apply pw_below_drewN | apply below_drew1 | refine below_set ?_ GE150.out) | exact HB.out))) : w.heap.size ≤ gb151)); have n4_ := Aside0.mk ((by rw [hg]; exact (below_size (by repeat (first | (with_reducible first | exact HB.out | apply below_alloc | apply pw_below_drewN | apply below_drew1 | refine below_set ?_ GE150.out) | exact HB.out))) : w.heap.size ≤ gb151)); have n5_ := Aside0.mk ((by rw [hg]; exact Nat.ne_of_lt (blk_lt (g := gb150) (o := .cells #[.int .i64 a0_0, .int .i64 a0_1, .bool a0_2] 58 (0, 0)) (by (with_reducible repeat (first | refine blk_drewN ?_ _ | refine blk_drew ?_ | refine blk_alloc ?_ _)); exact BK150.out)) : gb150 ≠ gb151)); have n6_ := Aside0.mk ((by rw [hg]; exact Nat.ne_of_gt (blk_lt (g := gb150) (o := .cells #[.int .i64 a0_0, .int .i64 a0_1, .bool a0_2] 58 (0, 0)) (by (with_reducible repeat (first | refine blk_drewN ?_ _ | refine blk_drew ?_ | refine blk_alloc ?_ _)); exact BK150.out)) : gb151 ≠ gb150)); clear BK150; clear HB; have BK150 := n0_; have HB := n1_; have BK151 := n2_; have GW151 := n3_; have GE151 := n4_; have NB150_151 := n5_; have NB151_150 := n6_; clear n0_ n1_ n2_ n3_ n4_ n5_ n6_; clear hb hbox hg; have hnb23 := NB150_151.out; have hnc23 := NB151_150.out; have hcz24_0 : w22.cell? ⟨gb150, 0, none⟩ = some (.int .i64 a0_0) := (blk_cell BK150.out 0).trans rfl; have hcz24_1 : w22.cell? ⟨gb150, 1, none⟩ = some (.int .i64 a0_1) := (blk_cell BK150.out 1).trans rfl; have hcz24_2 : w22.cell? ⟨gb150, 2, none⟩ = some (.bool a0_2) := (blk_cell BK150.out 2).trans rfl; have hfz24_0 := blk_frozen BK150.out 0; have hfz24_1 := blk_frozen BK150.out 1; have hfz24_2 := blk_frozen BK150.out 2; have hcz25_0 : w22.cell? ⟨gb151, 0, none⟩ = some (.int .i64 a1_0) := (blk_cell BK151.out 0).trans rfl; have hcz25_1 : w22.cell? ⟨gb151, 1, none⟩ = some (.int .i64 a1_1) := (blk_cell BK151.out 1).trans rfl; have hcz25_2 : w22.cell? ⟨gb151, 2, none⟩ = some (.bool a1_2) := (blk_cell BK151.out 2).trans rfl; have hfz25_0 := blk_frozen BK151.out 0; have hfz25_1 := blk_frozen BK151.out 1; have hfz25_2 := blk_frozen BK151.out 2))
  go_ret
  exact ⟨by first | rfl | (simp [errW_none, errW_some] <;> rfl) | (simp [*, errW_none, errW_some] <;> rfl), by repeat (first | (with_reducible first | exact HB.out | apply below_alloc | apply pw_below_drewN | apply below_drew1 | refine below_set ?_ GE150.out | refine below_set ?_ GE151.out) | exact HB.out)⟩
end Go.Proofs.Ytpedofomfhmnfaa.PFnExactMeetingCorner
