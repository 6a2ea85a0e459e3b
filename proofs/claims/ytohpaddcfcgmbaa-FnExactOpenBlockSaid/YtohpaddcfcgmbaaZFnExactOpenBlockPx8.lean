/- Cut by wip/cut.py out of the texts of this claim (printed by the kit's printer, or this session's own): what the row's theorem does not reach is struck. Not trusted: Lean checks it. -/
import Derived.Test.YtohpaddcfcgmbaaZFnExactOpenBlockPx0
import Derived.Test.YtohpaddcfcgmbaaZFnExactOpenBlockPx1
import Derived.Test.YtohpaddcfcgmbaaZFnExactOpenBlockPx7
namespace Go.Proofs.Ytohpaddcfcgmbaa.PFnExactOpenBlock
open Go.RowKit Go.Proofs.YtohpaddcfcgmbaaW.PrintWords Go.Proofs.YtohpaddcfcgmbaaW.PrintLast Go.Proofs.YtohpaddcfcgmbaaW.PrintMore
attribute [local go_sem] max2_int min2_int max_two min_two max_three min_three max_four min_four
set_option linter.unusedVariables false
set_option linter.unusedSimpArgs false
attribute [local go_sem high] eqA38
def impl_Block_125.l0 : Nat → List (S38) → Int → Int → Int → Int → Bool → Option (Int)
 | 0, _, _, _, _, _, _ => none
 | k + 1, x0, x7, x8, x202000, x202001, x202002 => if x8 < x7 then (if 0 ≤ x8 then (if x8 < (x0.length : Int) then (if (x202000 == ((ql x0 x8).f0) && (x202001 == ((ql x0 x8).f1) && (x202002 == ((ql x0 x8).f2)))) = true then (some x8) else (impl_Block_125.l0 k x0 x7 (wrap64 (x8 + 1)) x202000 x202001 x202002)) else (none)) else (none)) else (some (-1))
def impl_Block_125.f (k : Nat) (l0 : List (S38)) (a1_0 : Int) (a1_1 : Int) (a1_2 : Bool) : Option (Int) := impl_Block_125.l0 k l0 (l0.length : Int) 0 a1_0 a1_1 a1_2
theorem impl_Block_125.zq : ∀ k, (∀ y0 y1 y2 y3 y4 y5, LeO (impl_Block_125.l0 k y0 y1 y2 y3 y4 y5) (impl_Block_125.l0 (k + 1) y0 y1 y2 y3 y4 y5))
 | 0 => fun _ _ _ _ _ _ r h => by simp [impl_Block_125.l0] at h
 | k + 1 => by
  have ih0 := impl_Block_125.zq k
  ·intro y0 y1 y2 y3 y4 y5
   unfold impl_Block_125.l0
   repeat' first
   | (with_reducible exact ih0 _ _ _ _ _ _)
   | (with_reducible exact LeO.refl _)
   | (with_reducible exact LeO.none _)
   | (with_reducible refine LeO.ite ?_ ?_)
   | (with_reducible refine LeO.bind ?_ (fun _ => ?_))
   | exact ih0 _ _ _ _ _ _
   | exact LeO.none _
   | refine LeO.ite ?_ ?_
   | refine LeO.bind ?_ (fun _ => ?_)
theorem impl_Block_125.mono : ∀ a0 a1 a2 a3 k, LeO (impl_Block_125.f k a0 a1 a2 a3) (impl_Block_125.f (k + 1) a0 a1 a2 a3) := by
 intro a0 a1 a2 a3 k
 have ih0 := impl_Block_125.zq k
 unfold impl_Block_125.f
 repeat' first
   | (with_reducible exact ih0 _ _ _ _ _ _)
   | (with_reducible exact LeO.refl _)
   | (with_reducible exact LeO.none _)
   | (with_reducible refine LeO.ite ?_ ?_)
   | (with_reducible refine LeO.bind ?_ (fun _ => ?_))
   | exact ih0 _ _ _ _ _ _
   | exact LeO.none _
   | refine LeO.ite ?_ ?_
   | refine LeO.bind ?_ (fun _ => ?_)
set_option maxHeartbeats 8000000 in
set_option maxRecDepth 100000 in
theorem impl_Block_125.calls (k : Nat) (A0 : Option Addr) (c0 : Nat) (l0 : List (S38)) (a1_0 : Int) (a1_1 : Int) (a1_2 : Bool) (r : Int) (w : World) (hr0 : Kd.C k38 w A0 l0.length l0) (hc0 : l0.length ≤ c0) (h : impl_Block_125.f k l0 a1_0 a1_1 a1_2 = some r) :
  Calls Try.prog 125 #[.slice A0 l0.length c0, .agg #[.int .i64 a1_0, .int .i64 a1_1, .bool a1_2]] w fun e w' => e = .returned (.int .i64 r) ∧ Below w.heap.size w w' := by
 have hu38 := Try.underlying38
 have HR0 := qa.mk hr0
 have HC0 := qa.mk hc0
 clear hr0 hc0
 have HB := qa.mk (Below.refl w.heap.size w)
 have H : (impl_Block_125.l0 k l0 (l0.length : Int) 0 a1_0 a1_1 a1_2) = some r := h
 clear h
 have H' := qa.mk H
 clear H
 go_enter Try.func125, Try.ntmps125
 go_wp2_with (first | ((with_reducible refine qy (N := 3) rfl ?_); refine qx ?hg (N := 3) ?hd (cs := #[.int .i64 a1_0, .int .i64 a1_1, .bool a1_2]) (t := 38) ?hr ?_; (case hd => rfl); (case hg => rfl); (case hr => first | (go_simp; done) | (go_simp; rfl)); intro gb201 hg w3 hbox hb; have n0_ := qa.mk (qn (be0_ HB) hb); have n1_ := qa.mk (hbox); have n2_ := qa.mk ((by rw [hg]; exact (qm (be0_ HB)) : w.heap.size ≤ gb201)); have n3_ := qa.mk ((by rw [hg]; exact (qm (be0_ HB)) : w.heap.size ≤ gb201)); clear HB; have HB := n0_; have BK201 := n1_; have GW201 := n2_; have GE201 := n3_; clear n0_ n1_ n2_ n3_; clear hb hbox hg))
 repeat (go_quiet (first | ((with_reducible refine qy (N := 3) rfl ?_); refine qx ?hg (N := 3) ?hd (cs := #[.int .i64 a1_0, .int .i64 a1_1, .bool a1_2]) (t := 38) ?hr ?_; (case hd => rfl); (case hg => rfl); (case hr => first | (go_simp; done) | (go_simp; rfl)); intro gb201 hg w3 hbox hb; have n0_ := qa.mk (qn (be0_ HB) hb); have n1_ := qa.mk (hbox); have n2_ := qa.mk ((by rw [hg]; exact (qm (be0_ HB)) : w.heap.size ≤ gb201)); have n3_ := qa.mk ((by rw [hg]; exact (qm (be0_ HB)) : w.heap.size ≤ gb201)); clear HB; have HB := n0_; have BK201 := n1_; have GW201 := n2_; have GE201 := n3_; clear n0_ n1_ n2_ n3_; clear hb hbox hg)); try go_wp2_with (first | ((with_reducible refine qy (N := 3) rfl ?_); refine qx ?hg (N := 3) ?hd (cs := #[.int .i64 a1_0, .int .i64 a1_1, .bool a1_2]) (t := 38) ?hr ?_; (case hd => rfl); (case hg => rfl); (case hr => first | (go_simp; done) | (go_simp; rfl)); intro gb201 hg w3 hbox hb; have n0_ := qa.mk (qn (be0_ HB) hb); have n1_ := qa.mk (hbox); have n2_ := qa.mk ((by rw [hg]; exact (qm (be0_ HB)) : w.heap.size ≤ gb201)); have n3_ := qa.mk ((by rw [hg]; exact (qm (be0_ HB)) : w.heap.size ≤ gb201)); clear HB; have HB := n0_; have BK201 := n1_; have GW201 := n2_; have GE201 := n3_; clear n0_ n1_ n2_ n3_; clear hb hbox hg)))
 go_loopg [8] k (fun kq v8 w' => ∃ (x8_1 : Int), v8 = .int .i64 x8_1 ∧ qa (impl_Block_125.l0 kq l0 (l0.length : Int) x8_1 a1_0 a1_1 a1_2 = some r) ∧ qa (kq ≤ k) ∧ qa (w'.heap[gb201]? = some (.cells #[.int .i64 a1_0, .int .i64 a1_1, .bool a1_2] 38 (0, 0))) ∧ qa (Below w.heap.size w w'))
 case atStart => exact ⟨(0), (by first | rfl | (simp; done) | (simp [*]; done)), H', ⟨Nat.le_refl _⟩, ⟨bk_ BK201⟩, ⟨be1_ HB GE201⟩⟩
 case round =>
  clear H'
  obtain ⟨x8_1, rfl, HA, HK1, BK201, HB⟩ := hrel
  cases gk with
  | zero => exact absurd HA.out (by simp [impl_Block_125.l0])
  | succ k1 =>
   have H := HA.out
   clear HA
   simp only [impl_Block_125.l0] at H
   by_cases c4 : x8_1 < (l0.length : Int)
   ·rw [if_pos c4] at H
    have c4b0 : decide (x8_1 < (l0.length : Int)) = true := decide_eq_true c4
    clear c4
    by_cases c5 : 0 ≤ x8_1
    ·rw [if_pos c5] at H
     have c5b0 : decide (0 ≤ x8_1) = true := decide_eq_true c5
     clear c5
     by_cases c6 : x8_1 < (l0.length : Int)
     ·rw [if_pos c6] at H
      have c6b0 : decide (x8_1 < (l0.length : Int)) = true := decide_eq_true c6
      clear c6
      by_cases c7 : (a1_0 == ((ql l0 x8_1).f0) && (a1_1 == ((ql l0 x8_1).f1) && (a1_2 == ((ql l0 x8_1).f2)))) = true
      ·rw [if_pos c7] at H
       have c7b0 : (a1_0 == ((ql l0 x8_1).f0) && (a1_1 == ((ql l0 x8_1).f1) && (a1_2 == ((ql l0 x8_1).f2)))) = true := c7
       (try (have c7b1 : decide (a1_0 = ((ql l0 x8_1).f0) && (a1_1 == ((ql l0 x8_1).f1) && (a1_2 == ((ql l0 x8_1).f2)))) = true := by simpa using c7))
       (try (have c7b2 : (a1_0 == ((ql l0 x8_1).f0) && (a1_1 == ((ql l0 x8_1).f1) && (a1_2 == ((ql l0 x8_1).f2)))) = true := by simpa using c7))
       clear c7
       obtain rfl := Option.some.inj H
       have hcz8_0 : wr.cell? ⟨gb201, 0, none⟩ = some (.int .i64 a1_0) := (qg BK201.out 0).trans rfl
       have hcz8_1 : wr.cell? ⟨gb201, 1, none⟩ = some (.int .i64 a1_1) := (qg BK201.out 1).trans rfl
       have hcz8_2 : wr.cell? ⟨gb201, 2, none⟩ = some (.bool a1_2) := (qg BK201.out 2).trans rfl
       have hfz8_0 := qj BK201.out 0
       have hfz8_1 := qj BK201.out 1
       have hfz8_2 := qj BK201.out 2
       have p202 : 0 ≤ (x8_1 : Int) := of_decide_eq_true (by first | (with_reducible assumption) | assumption)
       have q202 : x8_1 < (l0.length : Int) := of_decide_eq_true (by first | (with_reducible assumption) | assumption)
       obtain ⟨ad202, e202, hx202_0, hx202_1, hx202_2⟩ := zu HR0.out x8_1 p202 q202
       cases e202
       replace hx202_0 := (HB.out.cell (World.block_lt_of_cell? w _ hx202_0)).trans hx202_0
       replace hx202_1 := (HB.out.cell (World.block_lt_of_cell? w _ hx202_1)).trans hx202_1
       replace hx202_2 := (HB.out.cell (World.block_lt_of_cell? w _ hx202_2)).trans hx202_2
       replace p202 := eq_true p202
       replace q202 := eq_true q202
       go_wp2
       repeat (go_quiet (fail); try go_wp2)
       go_ret
       exact ⟨by first | rfl | (simp [qu, qt] <;> rfl) | (simp [*, qu, qt] <;> rfl), be1_ HB GE201⟩
      ·rw [if_neg c7] at H
       have c7b0 : (a1_0 == ((ql l0 x8_1).f0) && (a1_1 == ((ql l0 x8_1).f1) && (a1_2 == ((ql l0 x8_1).f2)))) = false := by simpa using c7
       (try (have c7b1 : decide (a1_0 = ((ql l0 x8_1).f0) && (a1_1 == ((ql l0 x8_1).f1) && (a1_2 == ((ql l0 x8_1).f2)))) = false := by simpa using c7))
       (try (have c7b2 : (a1_0 == ((ql l0 x8_1).f0) && (a1_1 == ((ql l0 x8_1).f1) && (a1_2 == ((ql l0 x8_1).f2)))) = false := by simpa using c7))
       (try (have c7b3 : ¬ (a1_0 = ((ql l0 x8_1).f0) && (a1_1 == ((ql l0 x8_1).f1) && (a1_2 == ((ql l0 x8_1).f2)))) := by simpa using c7))
       clear c7
       have H' := qa.mk H
       clear H
       have hcz9_0 : wr.cell? ⟨gb201, 0, none⟩ = some (.int .i64 a1_0) := (qg BK201.out 0).trans rfl
       have hcz9_1 : wr.cell? ⟨gb201, 1, none⟩ = some (.int .i64 a1_1) := (qg BK201.out 1).trans rfl
       have hcz9_2 : wr.cell? ⟨gb201, 2, none⟩ = some (.bool a1_2) := (qg BK201.out 2).trans rfl
       have hfz9_0 := qj BK201.out 0
       have hfz9_1 := qj BK201.out 1
       have hfz9_2 := qj BK201.out 2
       have p202 : 0 ≤ (x8_1 : Int) := of_decide_eq_true (by first | (with_reducible assumption) | assumption)
       have q202 : x8_1 < (l0.length : Int) := of_decide_eq_true (by first | (with_reducible assumption) | assumption)
       obtain ⟨ad202, e202, hx202_0, hx202_1, hx202_2⟩ := zu HR0.out x8_1 p202 q202
       cases e202
       replace hx202_0 := (HB.out.cell (World.block_lt_of_cell? w _ hx202_0)).trans hx202_0
       replace hx202_1 := (HB.out.cell (World.block_lt_of_cell? w _ hx202_1)).trans hx202_1
       replace hx202_2 := (HB.out.cell (World.block_lt_of_cell? w _ hx202_2)).trans hx202_2
       replace p202 := eq_true p202
       replace q202 := eq_true q202
       go_wp2
       repeat (go_quiet (fail); try go_wp2)
       go_roundg k1
       case measure => have := HK1.out; omega
       case rel => exact ⟨(wrap64 (x8_1 + 1)), (by first | rfl | (simp; done) | (simp [*]; done)), H', ⟨by have := HK1.out; omega⟩, ⟨bk_ BK201⟩, ⟨be1_ HB GE201⟩⟩
     ·rw [if_neg c6] at H
      exact absurd H (by simp)
    ·rw [if_neg c5] at H
     exact absurd H (by simp)
   ·rw [if_neg c4] at H
    have c4b0 : decide (x8_1 < (l0.length : Int)) = false := decide_eq_false c4
    clear c4
    obtain rfl := Option.some.inj H
    go_wp2
    repeat (go_quiet (fail); try go_wp2)
    go_ret
    exact ⟨by first | rfl | (simp [qu, qt] <;> rfl) | (simp [*, qu, qt] <;> rfl), be1_ HB GE201⟩
def impl_Block_108.f (k : Nat) (l0 : List (S38)) (a1_0 : Int) (a1_1 : Int) (a1_2 : Bool) : Option (Bool) := (impl_Block_125.f k l0 a1_0 a1_1 a1_2).bind fun t204 => (some (decide (t204 ≥ 0)))
theorem impl_Block_108.mono : ∀ a0 a1 a2 a3 k, LeO (impl_Block_108.f k a0 a1 a2 a3) (impl_Block_108.f (k + 1) a0 a1 a2 a3) := by
 intro a0 a1 a2 a3 k
 unfold impl_Block_108.f
 repeat' first
   | (with_reducible exact impl_Block_125.mono _ _ _ _ _)
   | (with_reducible exact LeO.refl _)
   | (with_reducible exact LeO.none _)
   | (with_reducible refine LeO.ite ?_ ?_)
   | (with_reducible refine LeO.bind ?_ (fun _ => ?_))
   | exact impl_Block_125.mono _ _ _ _ _
   | exact LeO.none _
   | refine LeO.ite ?_ ?_
   | refine LeO.bind ?_ (fun _ => ?_)
set_option maxHeartbeats 8000000 in
set_option maxRecDepth 100000 in
theorem impl_Block_108.calls (k : Nat) (A0 : Option Addr) (c0 : Nat) (l0 : List (S38)) (a1_0 : Int) (a1_1 : Int) (a1_2 : Bool) (r : Bool) (w : World) (hr0 : Kd.C k38 w A0 l0.length l0) (hc0 : l0.length ≤ c0) (h : impl_Block_108.f k l0 a1_0 a1_1 a1_2 = some r) :
  Calls Try.prog 108 #[.slice A0 l0.length c0, .agg #[.int .i64 a1_0, .int .i64 a1_1, .bool a1_2]] w fun e w' => e = .returned (.bool r) ∧ Below w.heap.size w w' := by
 have hu38 := Try.underlying38
 have HR0 := qa.mk hr0
 have HC0 := qa.mk hc0
 clear hr0 hc0
 have HB := qa.mk (Below.refl w.heap.size w)
 have H : ((impl_Block_125.f k l0 a1_0 a1_1 a1_2).bind fun t204 => (some (decide (t204 ≥ 0)))) = some r := h
 clear h
 replace H := Option.bind_eq_some_iff.mp H
 obtain ⟨t204, A30, H⟩ := H
 replace H : (some (decide (t204 ≥ 0))) = some r := H
 have A3 := qa.mk A30
 clear A30
 obtain rfl := Option.some.inj H
 go_enter Try.func108, Try.ntmps108
 go_wp2_with (first | ((with_reducible refine qy (N := 3) rfl ?_); refine qx ?hg (N := 3) ?hd (cs := #[.int .i64 a1_0, .int .i64 a1_1, .bool a1_2]) (t := 38) ?hr ?_; (case hd => rfl); (case hg => rfl); (case hr => first | (go_simp; done) | (go_simp; rfl)); intro gb203 hg w4 hbox hb; have n0_ := qa.mk (qn (be0_ HB) hb); have n1_ := qa.mk (hbox); have n2_ := qa.mk ((by rw [hg]; exact (qm (be0_ HB)) : w.heap.size ≤ gb203)); have n3_ := qa.mk ((by rw [hg]; exact (qm (be0_ HB)) : w.heap.size ≤ gb203)); clear HB; have HB := n0_; have BK203 := n1_; have GW203 := n2_; have GE203 := n3_; clear n0_ n1_ n2_ n3_; clear hb hbox hg; have hcz5_0 : w4.cell? ⟨gb203, 0, none⟩ = some (.int .i64 a1_0) := (qg BK203.out 0).trans rfl; have hcz5_1 : w4.cell? ⟨gb203, 1, none⟩ = some (.int .i64 a1_1) := (qg BK203.out 1).trans rfl; have hcz5_2 : w4.cell? ⟨gb203, 2, none⟩ = some (.bool a1_2) := (qg BK203.out 2).trans rfl; have hfz5_0 := qj BK203.out 0; have hfz5_1 := qj BK203.out 1; have hfz5_2 := qj BK203.out 2) | ((with_reducible refine zb (f := 125) rfl ?_); refine zj (some 7) rfl rfl Try.func125 (by kernel_rfl) rfl #[.slice A0 l0.length c0, .agg #[.int .i64 a1_0, .int .i64 a1_1, .bool a1_2]] rfl (by (try simp only [List.map_toArray, List.map_cons, List.map_nil]); first | done | rfl | (simp only [List.length_drop, List.length_take]; rfl)) ?_; (with_reducible refine (impl_Block_125.calls k _ _ l0 a1_0 a1_1 a1_2 t204 _ ?side1 ?side2 A3.out).mono ?_); (case side1 => repeat (first | exact (Kd.zm HR0.out HB.out) | (with_reducible refine Kd.zg ?_ _) | (with_reducible refine Kd.zf ?_ _) | (with_reducible refine Kd.zi ?_))); (case side2 => exact HC0.out); rintro e w6 ⟨rfl, hb⟩; refine ⟨_, rfl, ?_⟩; have n0_ := qa.mk (qk (g := gb203) (o := .cells #[.int .i64 a1_0, .int .i64 a1_1, .bool a1_2] 38 (0, 0)) (bk_ BK203) hb); have n1_ := qa.mk (qn (be1_ HB GE203) hb); clear BK203; clear HB; have BK203 := n0_; have HB := n1_; clear n0_ n1_; (try clear hb); (try clear hb2); (try clear hk); (try clear hi)))
 go_ret
 exact ⟨by first | rfl | (simp [qu, qt] <;> rfl) | (simp [*, qu, qt] <;> rfl), be1_ HB GE203⟩
def impl_isClosed.f (k : Nat) (a0_0 : Int) (a0_1 : Int) (l0_2 : List (S38)) (a1_0 : Int) (a1_1 : Int) (a1_2 : Bool) : Option (Bool) := (impl_Block_108.f k l0_2 a1_0 a1_1 a1_2).bind fun t207 => (some t207)
theorem impl_isClosed.mono : ∀ a0 a1 a2 a3 a4 a5 k, LeO (impl_isClosed.f k a0 a1 a2 a3 a4 a5) (impl_isClosed.f (k + 1) a0 a1 a2 a3 a4 a5) := by
 intro a0 a1 a2 a3 a4 a5 k
 unfold impl_isClosed.f
 repeat' first
   | (with_reducible exact impl_Block_108.mono _ _ _ _ _)
   | (with_reducible exact LeO.refl _)
   | (with_reducible exact LeO.none _)
   | (with_reducible refine LeO.ite ?_ ?_)
   | (with_reducible refine LeO.bind ?_ (fun _ => ?_))
   | exact impl_Block_108.mono _ _ _ _ _
   | exact LeO.none _
   | refine LeO.ite ?_ ?_
   | refine LeO.bind ?_ (fun _ => ?_)
set_option maxHeartbeats 8000000 in
set_option maxRecDepth 100000 in
theorem impl_isClosed.calls (k : Nat) (a0_0 : Int) (a0_1 : Int) (A0_2 : Option Addr) (c0_2 : Nat) (l0_2 : List (S38)) (a1_0 : Int) (a1_1 : Int) (a1_2 : Bool) (r : Bool) (w : World) (hr0_2 : Kd.C k38 w A0_2 l0_2.length l0_2) (hc0_2 : l0_2.length ≤ c0_2) (h : impl_isClosed.f k a0_0 a0_1 l0_2 a1_0 a1_1 a1_2 = some r) :
  Calls Try.prog 74 #[.agg #[.int .i64 a0_0, .int .i64 a0_1, .slice A0_2 l0_2.length c0_2], .agg #[.int .i64 a1_0, .int .i64 a1_1, .bool a1_2]] w fun e w' => e = .returned (.bool r) ∧ Below w.heap.size w w' := by
 have hu30 := Try.underlying30
 have hu38 := Try.underlying38
 have HR0_2 := qa.mk hr0_2
 have HC0_2 := qa.mk hc0_2
 clear hr0_2 hc0_2
 have HB := qa.mk (Below.refl w.heap.size w)
 have H : ((impl_Block_108.f k l0_2 a1_0 a1_1 a1_2).bind fun t207 => (some t207)) = some r := h
 clear h
 replace H := Option.bind_eq_some_iff.mp H
 obtain ⟨t207, A30, H⟩ := H
 replace H : (some t207) = some r := H
 have A3 := qa.mk A30
 clear A30
 obtain rfl := Option.some.inj H
 go_enter Try.func74, Try.ntmps74
 go_wp2_with (first | ((with_reducible refine qy (N := 2) rfl ?_); refine qx ?hg (N := 2) ?hd (cs := #[.int .i64 a0_0, .int .i64 a0_1, .slice A0_2 l0_2.length c0_2]) (t := 30) ?hr ?_; (case hd => rfl); (case hg => rfl); (case hr => first | (go_simp; done) | (go_simp; rfl)); intro gb205 hg w4 hbox hb; have n0_ := qa.mk (qn (be0_ HB) hb); have n1_ := qa.mk (hbox); have n2_ := qa.mk ((by rw [hg]; exact (qm (be0_ HB)) : w.heap.size ≤ gb205)); have n3_ := qa.mk ((by rw [hg]; exact (qm (be0_ HB)) : w.heap.size ≤ gb205)); clear HB; have HB := n0_; have BK205 := n1_; have GW205 := n2_; have GE205 := n3_; clear n0_ n1_ n2_ n3_; clear hb hbox hg) | ((with_reducible refine qy (N := 3) rfl ?_); refine qx ?hg (N := 3) ?hd (cs := #[.int .i64 a1_0, .int .i64 a1_1, .bool a1_2]) (t := 38) ?hr ?_; (case hd => rfl); (case hg => rfl); (case hr => first | (go_simp; done) | (go_simp; rfl)); intro gb206 hg w5 hbox hb; have n0_ := qa.mk (qk (g := gb205) (o := .cells #[.int .i64 a0_0, .int .i64 a0_1, .slice A0_2 l0_2.length c0_2] 30 (0, 0)) (bk_ BK205) hb); have n1_ := qa.mk (qn (be1_ HB GE205) hb); have n2_ := qa.mk (hbox); have n3_ := qa.mk ((by rw [hg]; exact (qm (be1_ HB GE205)) : w.heap.size ≤ gb206)); have n4_ := qa.mk ((by rw [hg]; exact (qm (be1_ HB GE205)) : w.heap.size ≤ gb206)); have n5_ := qa.mk ((by rw [hg]; exact Nat.ne_of_lt (qr (g := gb205) (o := .cells #[.int .i64 a0_0, .int .i64 a0_1, .slice A0_2 l0_2.length c0_2] 30 (0, 0)) (bk_ BK205)) : gb205 ≠ gb206)); have n6_ := qa.mk ((by rw [hg]; exact Nat.ne_of_gt (qr (g := gb205) (o := .cells #[.int .i64 a0_0, .int .i64 a0_1, .slice A0_2 l0_2.length c0_2] 30 (0, 0)) (bk_ BK205)) : gb206 ≠ gb205)); clear BK205; clear HB; have BK205 := n0_; have HB := n1_; have BK206 := n2_; have GW206 := n3_; have GE206 := n4_; have NB205_206 := n5_; have NB206_205 := n6_; clear n0_ n1_ n2_ n3_ n4_ n5_ n6_; clear hb hbox hg; have hnb6 := NB205_206.out; have hnc6 := NB206_205.out; have hcz7_0 : w5.cell? ⟨gb205, 0, none⟩ = some (.int .i64 a0_0) := (qg BK205.out 0).trans rfl; have hcz7_1 : w5.cell? ⟨gb205, 1, none⟩ = some (.int .i64 a0_1) := (qg BK205.out 1).trans rfl; have hcz7_2 : w5.cell? ⟨gb205, 2, none⟩ = some (.slice A0_2 l0_2.length c0_2) := (qg BK205.out 2).trans rfl; have hfz7_0 := qj BK205.out 0; have hfz7_1 := qj BK205.out 1; have hfz7_2 := qj BK205.out 2; have hcz8_0 : w5.cell? ⟨gb206, 0, none⟩ = some (.int .i64 a1_0) := (qg BK206.out 0).trans rfl; have hcz8_1 : w5.cell? ⟨gb206, 1, none⟩ = some (.int .i64 a1_1) := (qg BK206.out 1).trans rfl; have hcz8_2 : w5.cell? ⟨gb206, 2, none⟩ = some (.bool a1_2) := (qg BK206.out 2).trans rfl; have hfz8_0 := qj BK206.out 0; have hfz8_1 := qj BK206.out 1; have hfz8_2 := qj BK206.out 2) | ((with_reducible refine zb (f := 108) rfl ?_); refine zj (some 8) rfl rfl Try.func108 (by kernel_rfl) rfl #[.slice A0_2 l0_2.length c0_2, .agg #[.int .i64 a1_0, .int .i64 a1_1, .bool a1_2]] rfl (by (try simp only [List.map_toArray, List.map_cons, List.map_nil]); first | done | rfl | (simp only [List.length_drop, List.length_take]; rfl)) ?_; (with_reducible refine (impl_Block_108.calls k _ _ l0_2 a1_0 a1_1 a1_2 t207 _ ?side1 ?side2 A3.out).mono ?_); (case side1 => repeat (first | exact (Kd.zm HR0_2.out HB.out) | (with_reducible refine Kd.zg ?_ _) | (with_reducible refine Kd.zf ?_ _) | (with_reducible refine Kd.zi ?_))); (case side2 => exact HC0_2.out); rintro e w9 ⟨rfl, hb⟩; refine ⟨_, rfl, ?_⟩; have n0_ := qa.mk (qk (g := gb205) (o := .cells #[.int .i64 a0_0, .int .i64 a0_1, .slice A0_2 l0_2.length c0_2] 30 (0, 0)) (bk_ BK205) hb); have n1_ := qa.mk (qk (g := gb206) (o := .cells #[.int .i64 a1_0, .int .i64 a1_1, .bool a1_2] 38 (0, 0)) (bk_ BK206) hb); have n2_ := qa.mk (qn (be2_ HB GE205 GE206) hb); clear BK205; clear BK206; clear HB; have BK205 := n0_; have BK206 := n1_; have HB := n2_; clear n0_ n1_ n2_; (try clear hb); (try clear hb2); (try clear hk); (try clear hi)))
 go_ret
 exact ⟨by first | rfl | (simp [qu, qt] <;> rfl) | (simp [*, qu, qt] <;> rfl), be2_ HB GE205 GE206⟩
def impl_Block_98.f (l0 : List S38) : Option (List S38) := if l0.length < 5864062014805 then some l0 else none
theorem impl_Block_98.info : (Try.prog.info? 38).map (fun i => (i.zero, i.size, i.bytes)) = some (some (.agg #[.int .i64 0, .int .i64 0, .bool false]), 3, 24) := by kernel_rfl
set_option maxHeartbeats 2000000 in
set_option maxRecDepth 100000 in
theorem impl_Block_98.calls (A0 : Option Addr) (c0 : Nat) (l0 : List S38) (r : List S38) (w : World) (hr0 : Kd.C k38 w A0 l0.length l0) (hc0 : l0.length ≤ c0) (h : impl_Block_98.f l0 = some r) :
  Calls Try.prog 98 #[.slice A0 l0.length c0] w fun e w' => ∃ v0_ : Value, e = .returned (v0_) ∧ Kd.R k38 38 w' w.heap.size (fun _ => True) v0_ r ∧ Below w.heap.size w w' := by
 have q22 : ∀ (w : World) (a : Option Addr) (n c n' c' : Nat), (binOp .eql 28 (.slice a n c) (.slice none n' c')).run Try.prog w = .ok (.bool a.isNone) w := fun w a n c n' c' => Lib.run_eql_slice_nil w _ _ a n c n' c' Try.underlying28
 unfold impl_Block_98.f at h
 by_cases hlen : l0.length < 5864062014805
 ·rw [if_pos hlen] at h
  cases Option.some.inj h
  cases A0 with
  | none =>
   have hn : l0 = [] := by
    rcases Nat.eq_zero_or_pos l0.length with e | e
    ·exact List.eq_nil_of_length_eq_zero e
    ·obtain ⟨ad, e', _⟩ := hr0.2.2 e
     cases e'
   have HN := qa.mk hn
   clear hn hr0 hc0 h
   go_enter Try.func98, Try.ntmps98
   go_wp2
   go_ret
   rw [HN.out]
   exact ⟨_, rfl, Kd.R_nil _ _ _ _ _, Below.refl _ _⟩
  | some ad =>
   have HR0 := qa.mk hr0
   have LM := qa.mk hlen
   have HB := qa.mk (Below.refl w.heap.size w)
   clear hr0 hc0 h hlen
   go_enter Try.func98, Try.ntmps98
   go_wp2_with (first | ((with_reducible refine qy (N := 5) rfl ?_); refine Kd.R_lit k38 _ 38 ?hg (N := 5) ?hd (xs := ([] : List S38)) (inner := []) (ok := fun _ => True) (okp := fun _ => True) ?hr ?hp (fun _ hk => hk) trivial (Below.refl _ _) (Nat.le_refl _) (by simp) ?_; (case hd => rfl); (case hg => rfl); (case hr => first | (go_simp; done) | (go_simp; rfl)); (case hp => exact (Reps.none _ _)); intro v119 w3 ho4 hb hg_ hnew_; clear hg_ hnew_; have n0_ := qa.mk (Kd.zt ho4 (qm (be0_ HB))); have n1_ := qa.mk (qn (be0_ HB) hb); clear HB; have HO120 := n0_; have HB := n1_; clear n0_ n1_; clear hb ho4) | ((with_reducible refine gate_builtin (b := .append) (xs := #[.tmp 5, .tmp 6]) rfl ?_); at_builtin; refine Kd.R_append_rows k38 (w0 := w) w.heap.size rfl (.tmp 5) (.tmp 6) 28 38 (.agg #[.int .i64 0, .int .i64 0, .bool false]) 24 rfl Try.underlying28 impl_Block_98.info rfl (by decide) (by omega) v119 [] l0 _ _ _ (fun _ => True) (fun _ => False) rfl rfl ?aO ?aR (fun _ _ h => h) (fun _ h => h.elim) ?aF ?aB ?aS ?aL ?_; (case aR => repeat (first | exact (Kd.zm HR0.out HB.out) | (with_reducible refine Kd.zg ?_ _) | (with_reducible refine Kd.zf ?_ _) | (with_reducible refine Kd.zi ?_))); (case aB => exact (be0_ HB)); (case aF => exact (fun _ _ => trivial)); (case aO => exact (kr_ HO120)); (case aS => exact (qm (be0_ HB))); (case aL => have := LM.out; simp only [List.length_nil]; omega); intro v122 w5 ho hb hg hat; rw [List.nil_append] at ho; have n0_ := qa.mk (hb); have n1_ := qa.mk (ho); clear HB; clear HO120; have HB := n0_; have HO123 := n1_; clear n0_ n1_; clear ho hb hg hat))
   go_ret
   exact ⟨_, rfl, kr_ HO123, be0_ HB⟩
 ·rw [if_neg hlen] at h
  cases h
def impl_opened.eqo (b o : S38) : Bool := o.f0 == b.f0 && (o.f1 == b.f1 && (o.f2 == b.f2))
def impl_opened.f (_k : Nat) (a0_0 : Int) (a0_1 : Int) (l0_2 : List S38) (a1_0 : Int) (a1_1 : Int) (a1_2 : Bool) : Option (Int × Int × List S38) := (impl_Block_98.f l0_2).bind fun l => if l.length ≤ 1000000 then some (a0_0, a0_1, l.filter fun o => !impl_opened.eqo ⟨a1_0, a1_1, a1_2⟩ o) else none
theorem impl_opened.mono : ∀ a0 a1 a2 a3 a4 a5 k, LeO (impl_opened.f k a0 a1 a2 a3 a4 a5) (impl_opened.f (k + 1) a0 a1 a2 a3 a4 a5) := fun _ _ _ _ _ _ _ => LeO.refl _
attribute [local go_sem high] eqA38
set_option maxHeartbeats 2000000 in
set_option maxRecDepth 100000 in
theorem impl_opened.clo (B : Nat) (b o : S38) (w : World) (hB : w.heap[B]? = some (.cells #[.int .i64 b.f0, .int .i64 b.f1, .bool b.f2] 38 (0, 0))) :
  Calls Try.prog 110 #[.agg #[.int .i64 o.f0, .int .i64 o.f1, .bool o.f2], .pointer (some ⟨B, 0, none⟩)] w fun e w' => e = .returned (.bool (impl_opened.eqo b o)) ∧ Below w.heap.size w w' := by
 have hub := Try.underlying38
 have HB := Lib.hid hB
 have HBE := Lib.hid (qi (Below.refl w.heap.size w) (.cells #[.int .i64 o.f0, .int .i64 o.f1, .bool o.f2] 38))
 clear hB
 go_enter Try.func110, Try.ntmps110
 go_upto_region 1 with (fail)
 have HN := Lib.hid (blk_new w (.cells #[.int .i64 o.f0, .int .i64 o.f1, .bool o.f2] 38))
 have HX := Lib.hid (qc HB.out (.cells #[.int .i64 o.f0, .int .i64 o.f1, .bool o.f2] 38))
 generalize w.alloc (.cells #[.int .i64 o.f0, .int .i64 o.f1, .bool o.f2] 38) = W1 at HN HX HBE ⊢
 have h0 : W1.cell? ⟨w.heap.size, 0, none⟩ = some (.int .i64 o.f0) := (qg HN.out 0).trans rfl
 have h1 : W1.cell? ⟨w.heap.size, 1, none⟩ = some (.int .i64 o.f1) := (qg HN.out 1).trans rfl
 have h2 : W1.cell? ⟨w.heap.size, 2, none⟩ = some (.bool o.f2) := (qg HN.out 2).trans rfl
 have g0 : W1.cell? ⟨B, 0, none⟩ = some (.int .i64 b.f0) := (qg HX.out 0).trans rfl
 have g1 : W1.cell? ⟨B, 1, none⟩ = some (.int .i64 b.f1) := (qg HX.out 1).trans rfl
 have g2 : W1.cell? ⟨B, 2, none⟩ = some (.bool b.f2) := (qg HX.out 2).trans rfl
 go_wp2
 go_ret
 exact ⟨rfl, HBE.out⟩
theorem impl_opened.elem {W : World} {base g n cap : Nat} {ok : Nat → Prop} {xs : List S38} (h : Kd.R k38 38 W base ok (.slice (some ⟨g, 0, none⟩) n cap) xs) (i : Nat) (hi : i < n) :
  W.cell? ⟨g, i * 3, none⟩ = some (.int .i64 (xs.getD i z38).f0) ∧ W.cell? ⟨g, i * 3 + 1, none⟩ = some (.int .i64 (xs.getD i z38).f1) ∧ W.cell? ⟨g, i * 3 + 2, none⟩ = some (.bool (xs.getD i z38).f2) ∧ (W.frozen? ⟨g, i * 3, none⟩ = false ∧ W.frozen? ⟨g, i * 3 + 1, none⟩ = false ∧ W.frozen? ⟨g, i * 3 + 2, none⟩ = false) ∧
   ∀ x : S38, Kd.R k38 38 (W.setCells g (i * 3) [.int .i64 x.f0, .int .i64 x.f1, .bool x.f2]) base ok (.slice (some ⟨g, 0, none⟩) n cap) (xs.set i x) ∧ W.grownBy (W.setCells g (i * 3) [.int .i64 x.f0, .int .i64 x.f1, .bool x.f2]) (some g) := by
 obtain ⟨c, hcl, hM, hcc, hfr⟩ := Kd.R_elem h z38 (i : Int) (by omega) (by omega)
 obtain rfl := k38_openM hM
 rw [Int.toNat_natCast] at hcc hfr
 refine ⟨hcc 0 _ rfl, hcc 1 _ rfl, hcc 2 _ rfl, ⟨hfr 0, hfr 1, hfr 2⟩, fun x => ?_⟩
 have h0 := Kd.R_seg h (i : Int) (by omega) (by omega) (c := [.int .i64 (xs.getD i z38).f0, .int .i64 (xs.getD i z38).f1, .bool (xs.getD i z38).f2]) (seg := [.int .i64 x.f0, .int .i64 x.f1, .bool x.f2]) (j := 0) (x' := x) (okp := fun k => ok k ∧ k ≠ g) rfl (by rw [Int.toNat_natCast]; exact hcc) (by show 0 + 3 ≤ 3; omega) (k38_mkM _ _ _ x) (fun _ hk => hk)
 rw [Int.toNat_natCast] at h0
 exact h0
theorem impl_opened.ix_drop (p : S38 → Bool) (l : List S38) (i : Nat) (hi : i < l.length) : (l.drop i).findIdx p = if p (l.getD i z38) = true then 0 else (l.drop (i + 1)).findIdx p + 1 := by
 have e : l.getD i z38 = l[i] := by simp [hi]
 rw [List.drop_eq_getElem_cons hi, List.findIdx_cons, e]
 cases p l[i] <;> simp
set_option maxHeartbeats 4000000 in
set_option maxRecDepth 100000 in
theorem impl_opened.find (B base : Nat) (b : S38) (A : Option Addr) (n c : Nat) (xs : List S38) (w : World) (hB : w.heap[B]? = some (.cells #[.int .i64 b.f0, .int .i64 b.f1, .bool b.f2] 38 (0, 0))) (hR : Kd.R k38 38 w base (fun _ => True) (.slice A n c) xs) (hn : xs.length ≤ 1000000) (r : Int) (hres : (xs.findIdx (impl_opened.eqo b) < n → r = ((xs.findIdx (impl_opened.eqo b) : Nat) : Int)) ∧ (¬ xs.findIdx (impl_opened.eqo b) < n → r = -1)) :
  Calls Try.prog 126 #[.slice A n c, .func (.func 110) #[] #[.pointer (some ⟨B, 0, none⟩)]] w fun e w' => e = .returned (.int .i64 r) ∧ Below w.heap.size w w' := by
 have HNX := Lib.hid (Kd.za hR).1
 have HRES := Lib.hid hres
 clear hres
 have HX := Lib.hid hB
 have HR := Lib.hid hR
 clear hB hR
 go_enter Try.func126, Try.ntmps126
 go_wp2
 go_loopg [8] n (fun kq v8 wr => ∃ (i : Nat), v8 = .int .i64 i ∧ kq = n - i ∧ i ≤ n ∧ Hid (xs.findIdx (impl_opened.eqo b) = i + (xs.drop i).findIdx (impl_opened.eqo b)) ∧ Hid (Below w.heap.size w wr))
 case atStart => exact ⟨0, rfl, by omega, by omega, Lib.hid (by simp), Lib.hid (Below.refl _ _)⟩
 case round =>
  obtain ⟨i, rfl, hk, hin, HI, HB⟩ := hrel
  by_cases hi : i < n
  ·have c1 : decide ((i : Int) < (n : Int)) = true := decide_eq_true (by omega)
   have HW := Lib.hid (Kd.qz HR.out HB.out)
   obtain ⟨g, cap, ev, _, _, _⟩ := Kd.R_form HW.out (by have := HNX.out; omega)
   rw [← HNX.out] at ev
   cases ev
   obtain ⟨e0, e1, e2, _, _⟩ := impl_opened.elem HW.out i hi
   have hix := impl_opened.ix_drop (impl_opened.eqo b) xs i (by have := HNX.out; omega)
   generalize xs.getD i z38 = o at e0 e1 e2 hix
   have HC := Lib.hid (impl_opened.clo B b o wr ((HB.out.block _ (qr HX.out)).trans HX.out))
   have p1 : (0 : Int) ≤ (i : Int) := by omega
   have p2 : (i : Int) < (n : Int) := by omega
   have hi6 : i < 1000000 := by have := HNX.out; omega
   obtain ⟨t, ht⟩ : ∃ t, impl_opened.eqo b o = t := ⟨_, rfl⟩
   rw [ht] at HC hix
   have HIX := Lib.hid hix
   clear hix ht
   cases t with
   | true =>
    go_wp2_with (go_at_call 110; refine HC.out.mono ?_; rintro e w2 ⟨rfl, hb2⟩; have HB2 := Lib.hid (below_then HB.out HB.out.size hb2); clear hb2)
    go_ret
    have hz : (xs.drop i).findIdx (impl_opened.eqo b) = 0 := by have h0 := HIX.out; simpa using h0
    have hr := HI.out
    rw [hz, Nat.add_zero] at hr
    rw [show (i : Int) = r by rw [HRES.out.1 (by omega), hr]]
    exact ⟨rfl, HB2.out⟩
   | false =>
    go_wp2_with (go_at_call 110; refine HC.out.mono ?_; rintro e w2 ⟨rfl, hb2⟩; have HB2 := Lib.hid (below_then HB.out HB.out.size hb2); clear hb2)
    go_roundg (n - (i + 1))
    case measure => omega
    case rel =>
     refine ⟨i + 1, by go_num, rfl, by omega, Lib.hid ?_, HB2⟩
     have hr := HI.out
     have hz : (xs.drop i).findIdx (impl_opened.eqo b) = (xs.drop (i + 1)).findIdx (impl_opened.eqo b) + 1 := by have h0 := HIX.out; simpa using h0
     rw [hz] at hr
     omega
  ·have c1 : decide ((i : Int) < (n : Int)) = false := decide_eq_false (by omega)
   go_wp2
   go_ret
   have hr := HI.out
   rw [List.drop_eq_nil_of_le (by have := HNX.out; omega)] at hr
   rw [show r = -1 from HRES.out.2 (by simp at hr; omega)]
   exact ⟨rfl, HB.out⟩
theorem impl_opened.setCells3 (W : World) (g o : Nat) (a b c : Value) (l : List Value) : W.setCells g o (a :: b :: c :: l) = (W.setCells g o [a, b, c]).setCells g (o + 3) l := rfl
def impl_opened.zs : Nat → List Value
 | 0 => []
 | m + 1 => .int .i64 0 :: .int .i64 0 :: .bool false :: impl_opened.zs m
theorem impl_opened.struck {base g n cap : Nat} : ∀ (m i : Nat) (xs : List S38) (W : World), Kd.R k38 38 W base (fun _ => True) (.slice (some ⟨g, 0, none⟩) n cap) xs → i + m ≤ n → ∃ ys : List S38, Kd.R k38 38 (W.setCells g (i * 3) (impl_opened.zs m)) base (fun _ => True) (.slice (some ⟨g, 0, none⟩) n cap) ys ∧ ys.take i = xs.take i ∧ Below base W (W.setCells g (i * 3) (impl_opened.zs m))
 | 0, i, xs, W, h, hi => ⟨xs, h, rfl, Below.refl _ _⟩
 | m + 1, i, xs, W, h, hi => by
  obtain ⟨_, _, _, _, hs⟩ := impl_opened.elem h i (by omega)
  obtain ⟨h1, h2⟩ := hs z38
  obtain ⟨ys, h3, h4, h5⟩ := impl_opened.struck m (i + 1) _ _ h1 (by omega)
  have e : W.setCells g (i * 3) (impl_opened.zs (m + 1)) = (W.setCells g (i * 3) [.int .i64 z38.f0, .int .i64 z38.f1, .bool z38.f2]).setCells g ((i + 1) * 3) (impl_opened.zs m) := by
   rw [show (i + 1) * 3 = i * 3 + 3 by omega]
   exact impl_opened.setCells3 W g (i * 3) _ _ _ _
  rw [e]
  have hb0 : Below base W (W.setCells g (i * 3) [.int .i64 z38.f0, .int .i64 z38.f1, .bool z38.f2]) := pw_below_grown (Below.refl _ _) _ (Nat.le_of_lt (Nat.lt_of_le_of_lt (Kd.zo h g (by simp [Value.ownBlock])) (Kd.R_lt h g (by simp [Value.ownBlock])))) h2 (fun k hk => by cases hk; exact Kd.zo h g (by simp [Value.ownBlock]))
  refine ⟨ys, h3, ?_, hb0.trans h5⟩
  have h6 : ys.take i = (ys.take (i + 1)).take i := by rw [List.take_take, Nat.min_eq_left (by omega)]
  rw [h6, h4, List.take_take, Nat.min_eq_left (by omega), List.take_set_of_le (by omega)]
theorem impl_opened.zs_len : ∀ m, (impl_opened.zs m).length = m * 3
 | 0 => rfl
 | m + 1 => by simp [impl_opened.zs, impl_opened.zs_len m]; omega
theorem impl_opened.zs_eq (m : Nat) : (Builtin.zeroCells #[.int .i64 0, .int .i64 0, .bool false] m).toList = impl_opened.zs m := by
 have h1 : ∀ m i : Nat, i < m * 3 → (impl_opened.zs m)[i]? = #[Value.int .i64 0, .int .i64 0, .bool false][i % 3]? := by
  intro m
  induction m with
  | zero => intro i hi; omega
  | succ m ih =>
   intro i hi
   match i with
   | 0 => rfl
   | 1 => rfl
   | 2 => rfl
   | i + 3 =>
    have := ih i (by omega)
    rw [show (i + 3) % 3 = i % 3 by omega, ← this]
    rfl
 refine List.ext_getElem (by simp [Builtin.zeroCells, impl_opened.zs_len]) fun i ha hb => ?_
 have hi : i < m * 3 := by rw [impl_opened.zs_len] at hb; exact hb
 have h2 := h1 m i hi
 rw [List.getElem?_eq_getElem hb] at h2
 have h3 : i % 3 = 0 ∨ i % 3 = 1 ∨ i % 3 = 2 := by omega
 simp only [Builtin.zeroCells, Array.toList_map, List.getElem_map, Array.getElem_toList, Array.getElem_range]
 rcases h3 with e | e | e
 ·rw [e] at h2; exact (congrArg _ e).trans (Option.some.inj h2).symm
 ·rw [e] at h2; exact (congrArg _ e).trans (Option.some.inj h2).symm
 ·rw [e] at h2; exact (congrArg _ e).trans (Option.some.inj h2).symm
theorem impl_opened.zs_one : ∀ m, ∀ v ∈ impl_opened.zs m, v.oneCell' = true
 | 0, v, h => by cases h
 | m + 1, v, h => by
  simp only [impl_opened.zs, List.mem_cons] at h
  rcases h with rfl | rfl | rfl | h
  ·rfl
  ·rfl
  ·rfl
  ·exact impl_opened.zs_one m v h
theorem impl_opened.clear (W : World) (base g n cap i c : Nat) (xs : List S38) (ty : TypeId) (h : Kd.R k38 38 W base (fun _ => True) (.slice (some ⟨g, 0, none⟩) n cap) xs) (hi : i < n) :
  (Builtin.clear_ #[28] ty #[.slice (some ⟨g, i * 3, none⟩) (n - i) c]).run Try.prog W = .ok (.tuple #[]) (W.setCells g (i * 3) (impl_opened.zs (n - i))) := by
 have hcell : ∀ j, j < (impl_opened.zs (n - i)).length → (W.cell? ⟨g, i * 3 + j, none⟩).isSome = true ∧ W.frozen? ⟨g, i * 3 + j, none⟩ = false := by
  intro j hj
  rw [impl_opened.zs_len] at hj
  obtain ⟨e0, e1, e2, ⟨f0, f1, f2⟩, _⟩ := impl_opened.elem h (i + j / 3) (by omega)
  have h3 : j % 3 = 0 ∨ j % 3 = 1 ∨ j % 3 = 2 := by omega
  rcases h3 with e | e | e
  ·rw [show i * 3 + j = (i + j / 3) * 3 by omega, e0, f0]; exact ⟨rfl, rfl⟩
  ·rw [show i * 3 + j = (i + j / 3) * 3 + 1 by omega, e1, f1]; exact ⟨rfl, rfl⟩
  ·rw [show i * 3 + j = (i + j / 3) * 3 + 2 by omega, e2, f2]; exact ⟨rfl, rfl⟩
 have hst := run_storeCells_cells (P := Try.prog) g (i * 3) (impl_opened.zs (n - i)) 0 W (fun j hj => (hcell j hj).1) (fun j hj => (hcell j hj).2) (impl_opened.zs_one _)
 simp only [Nat.add_zero] at hst
 have hz := impl_opened.zs_eq (n - i)
 obtain ⟨m, hm⟩ : ∃ m, n - i = m + 1 := ⟨n - i - 1, by omega⟩
 rw [hm] at hst hz ⊢
 have hzc : (Value.agg #[.int .i64 0, .int .i64 0, .bool false]).cells = #[.int .i64 0, .int .i64 0, .bool false] := rfl
 simp [Builtin.clear_, run_underlying Try.underlying28, Try.zeroValue38, hzc, hz, hst]
set_option maxHeartbeats 8000000 in
set_option maxRecDepth 100000 in
theorem impl_opened.del (B base : Nat) (b : S38) (A : Option Addr) (n c : Nat) (xs : List S38) (w : World) (hBb : B < base) (hbw : base ≤ w.heap.size) (hB : w.heap[B]? = some (.cells #[.int .i64 b.f0, .int .i64 b.f1, .bool b.f2] 38 (0, 0))) (hR : Kd.R k38 38 w base (fun _ => True) (.slice A n c) xs) (hn : xs.length ≤ 1000000) :
  Calls Try.prog 109 #[.slice A n c, .func (.func 110) #[] #[.pointer (some ⟨B, 0, none⟩)]] w fun e w' => ∃ v : Value, e = .returned v ∧ Kd.R k38 38 w' base (fun _ => True) v (xs.filter fun o => !impl_opened.eqo b o) ∧ Below base w w' := by
 have hub := Try.underlying38
 have HNX := Lib.hid (Kd.za hR).1
 have HX := Lib.hid hB
 have HR := Lib.hid hR
 have HN6 := Lib.hid hn
 clear hB hR hn
 by_cases hf : xs.findIdx (impl_opened.eqo b) < n
 ·obtain ⟨k0, hk0⟩ : ∃ k0, xs.findIdx (impl_opened.eqo b) = k0 := ⟨_, rfl⟩
  have HF := Lib.hid (impl_opened.find B base b A n c xs w HX.out HR.out HN6.out (k0 : Int) ⟨fun _ => by rw [hk0], fun h => absurd hf h⟩)
  have HK0 := Lib.hid hk0
  have h1 : k0 < n := by omega
  obtain ⟨g, cap, ev, _, _, _⟩ := Kd.R_form HR.out (by have := HNX.out; omega)
  rw [← HNX.out] at ev
  cases ev
  have t1 : ((k0 : Int) == -1) = false := beq_eq_false_iff_ne.mpr (by omega)
  have hk6 : k0 < 1000000 := by have := HNX.out; have := HN6.out; omega
  clear hf hk0
  go_enter Try.func109, Try.ntmps109
  go_wp2_with (go_at_call 126; refine HF.out.mono ?_; rintro e w2 ⟨rfl, hb2⟩; have HB2 := Lib.hid hb2; clear hb2)
  clear t1
  go_loopg [5, 6] (n - (k0 + 1)) (fun kq v5 v6 wr => ∃ (i j : Nat) (ys : List S38), v5 = .int .i64 i ∧ v6 = .int .i64 j ∧ kq = n - j ∧ i < j ∧ j ≤ n ∧ Hid (ys.take i = (xs.take j).filter fun o => !impl_opened.eqo b o) ∧ Hid (ys.drop j = xs.drop j) ∧ Hid (Kd.R k38 38 wr base (fun _ => True) (.slice (some ⟨g, 0, none⟩) n c) ys) ∧ Hid (Below base w wr))
  case atStart =>
   refine ⟨k0, k0 + 1, xs, rfl, by go_num, rfl, by omega, by omega, Lib.hid ?_, Lib.hid rfl, Lib.hid (Kd.qz HR.out HB2.out), Lib.hid (HB2.out.mono hbw)⟩
   have hlt : k0 < xs.length := by have := HNX.out; omega
   have e0 := HK0.out
   have hp : impl_opened.eqo b xs[k0] = true := by
    have := List.findIdx_getElem (p := impl_opened.eqo b) (xs := xs) (w := by rw [e0]; exact hlt)
    simpa only [e0] using this
   have hno : ∀ o ∈ xs.take k0, impl_opened.eqo b o = false := by
    intro o ho
    obtain ⟨q, hq, rfl⟩ := List.mem_iff_getElem.1 ho
    have hq' : q < k0 := by simp at hq; omega
    have := List.not_of_lt_findIdx (p := impl_opened.eqo b) (xs := xs) (i := q) (by rw [e0]; exact hq')
    simpa using this
   rw [List.take_succ_eq_append_getElem hlt, List.filter_append]
   have e1 : ([xs[k0]].filter fun o => !impl_opened.eqo b o) = [] := by simp [hp]
   rw [e1, List.append_nil]
   exact (List.filter_eq_self.2 (fun o ho => by rw [hno o ho]; rfl)).symm
  case round =>
   clear HF HB2
   obtain ⟨i, j, ys, rfl, rfl, hk, hij, hjn, H1, H2, HO, HB⟩ := hrel
   have HYN := Lib.hid (Kd.za HO.out).1
   by_cases hj : j < n
   ·have c1 : decide ((j : Int) < (n : Int)) = true := decide_eq_true (by omega)
    obtain ⟨e0, e1, e2, _, _⟩ := impl_opened.elem HO.out j hj
    have hxy : ys.getD j z38 = xs.getD j z38 := by
     have h0 := congrArg (fun l => l.getD 0 z38) H2.out
     simpa [List.getD_eq_getElem?_getD, List.getElem?_drop] using h0
    rw [hxy] at e0 e1 e2
    obtain ⟨o, ho⟩ : ∃ o, xs.getD j z38 = o := ⟨_, rfl⟩
    rw [ho] at e0 e1 e2
    have HOO := Lib.hid ho
    clear ho hxy
    have p1 : (0 : Int) ≤ (j : Int) := by omega
    have p2 : (j : Int) < (n : Int) := by omega
    have hj6 : j < 1000000 := by have := HNX.out; have := HN6.out; omega
    go_upto_region 8 with (fail)
    have HOW := Lib.hid (Kd.qo HO.out (.cells #[.int .i64 o.f0, .int .i64 o.f1, .bool o.f2] 38))
    have HBW := Lib.hid (HB.out.trans ((qi (Below.refl wr.heap.size wr) (.cells #[.int .i64 o.f0, .int .i64 o.f1, .bool o.f2] 38)).mono (Nat.le_trans hbw HB.out.size)))
    have HXW := Lib.hid (qc ((HB.out.block _ hBb).trans HX.out) (.cells #[.int .i64 o.f0, .int .i64 o.f1, .bool o.f2] 38))
    have HNW := Lib.hid (blk_new wr (.cells #[.int .i64 o.f0, .int .i64 o.f1, .bool o.f2] 38))
    clear e0 e1 e2
    generalize wr.alloc (.cells #[.int .i64 o.f0, .int .i64 o.f1, .bool o.f2] 38) = W2 at HOW HBW HXW HNW ⊢
    obtain ⟨BB, hBB⟩ : ∃ BB, BB = wr.heap.size := ⟨_, rfl⟩
    rw [← hBB] at HNW ⊢
    clear hBB
    have f0 : W2.cell? ⟨BB, 0, none⟩ = some (.int .i64 o.f0) := (qg HNW.out 0).trans rfl
    have f1 : W2.cell? ⟨BB, 1, none⟩ = some (.int .i64 o.f1) := (qg HNW.out 1).trans rfl
    have f2 : W2.cell? ⟨BB, 2, none⟩ = some (.bool o.f2) := (qg HNW.out 2).trans rfl
    have HC := Lib.hid (impl_opened.clo B b o W2 HXW.out)
    have hjl : j < xs.length := by have := HNX.out; omega
    have eo : xs[j] = o := by have h0 := HOO.out; simpa [hjl] using h0
    have htk : xs.take (j + 1) = xs.take j ++ [o] := by rw [List.take_succ_eq_append_getElem hjl, eo]
    obtain ⟨t, ht⟩ : ∃ t, impl_opened.eqo b o = t := ⟨_, rfl⟩
    rw [ht] at HC
    have HTK := Lib.hid htk
    have HTT := Lib.hid ht
    clear htk eo hjl ht
    cases t with
    | true =>
     go_wp2_with (go_at_call 110; refine HC.out.mono ?_; rintro e w3 ⟨rfl, hb3⟩; have HB3 := Lib.hid (HBW.out.trans (hb3.mono (Nat.le_trans hbw HBW.out.size))); have HO3 := Lib.hid (Kd.qz HOW.out hb3); clear hb3)
     go_roundg (n - (j + 1))
     case measure => omega
     case rel =>
      refine ⟨i, j + 1, ys, rfl, by go_num, rfl, by omega, by omega, Lib.hid ?_, Lib.hid ?_, HO3, HB3⟩
      ·rw [HTK.out, List.filter_append, H1.out]
       simp [HTT.out]
      ·have h0 := congrArg (List.drop 1) H2.out
       simpa [List.drop_drop] using h0
    | false =>
     have pi1 : (0 : Int) ≤ (i : Int) := by omega
     have pi2 : (i : Int) < (n : Int) := by omega
     have hi6 : i < 1000000 := by omega
     go_upto_region 9 with (go_at_call 110; refine HC.out.mono ?_; rintro e w3 ⟨rfl, hb3⟩; have HB3 := Lib.hid (HBW.out.trans (hb3.mono (Nat.le_trans hbw HBW.out.size))); have HO3 := Lib.hid (Kd.qz HOW.out hb3); have f0' := pw_cell_below hb3 f0; have f1' := pw_cell_below hb3 f1; have f2' := pw_cell_below hb3 f2; clear hb3)
     obtain ⟨e0, e1, e2, ⟨z0, z1, z2⟩, hs⟩ := impl_opened.elem HO3.out i (by omega)
     have HS := Lib.hid (hs o)
     clear hs f0 f1 f2 HNW HXW HOW HBW HC
     go_upto_region 10 with (fail)
     have HS1 := Lib.hid (show Kd.R k38 38 (((w3.setCell ⟨g, i * 3, none⟩ (.int .i64 o.f0)).setCell ⟨g, i * 3 + 1, none⟩ (.int .i64 o.f1)).setCell ⟨g, i * 3 + 2, none⟩ (.bool o.f2)) base (fun _ => True) (.slice (some ⟨g, 0, none⟩) n c) (ys.set i o) from HS.out.1)
     have HS2 := Lib.hid (show Below base w (((w3.setCell ⟨g, i * 3, none⟩ (.int .i64 o.f0)).setCell ⟨g, i * 3 + 1, none⟩ (.int .i64 o.f1)).setCell ⟨g, i * 3 + 2, none⟩ (.bool o.f2)) from pw_below_grown HB3.out (some g) (Nat.le_trans hbw HB3.out.size) HS.out.2 (fun k hk => by cases hk; exact Kd.zo HO3.out g (by simp [Value.ownBlock])))
     clear HS e0 e1 e2 z0 z1 z2 f0' f1' f2'
     generalize (((w3.setCell ⟨g, i * 3, none⟩ (.int .i64 o.f0)).setCell ⟨g, i * 3 + 1, none⟩ (.int .i64 o.f1)).setCell ⟨g, i * 3 + 2, none⟩ (.bool o.f2)) = W9 at HS1 HS2 ⊢
     go_wp2
     go_roundg (n - (j + 1))
     case measure => omega
     case rel =>
      have hyl := HYN.out
      refine ⟨i + 1, j + 1, ys.set i o, by go_num, by go_num, rfl, by omega, by omega, Lib.hid ?_, Lib.hid ?_, HS1, HS2⟩
      ·have hil : i < (ys.set i o).length := by simp; omega
       rw [HTK.out, List.filter_append, ← H1.out, List.take_succ_eq_append_getElem hil, List.take_set_of_le (Nat.le_refl i)]
       simp [HTT.out]
      ·have h0 := congrArg (List.drop 1) H2.out
       rw [List.drop_set_of_lt (by omega)]
       simpa [List.drop_drop] using h0
   ·obtain rfl : n = j := by omega
    have c1 : decide ((n : Int) < (n : Int)) = false := decide_eq_false (by omega)
    have hnc := (Kd.za HO.out).2.1
    have hcl : ∀ ty c', (Builtin.clear_ #[28] ty #[.slice (some ⟨g, i * 3, none⟩) (n - i) c']).run Try.prog wr = _ := fun ty c' => impl_opened.clear wr base g n c i c' ys ty HO.out hij
    have pi1 : (0 : Int) ≤ (i : Int) := by omega
    have pi2 : (i : Int) ≤ (n : Int) := by omega
    have pi3 : (i : Int) ≤ (c : Int) := by omega
    have pi4 : (n : Int) ≤ (c : Int) := by omega
    have pn1 : i ≤ n := by omega
    have pn2 : i ≤ c := by omega
    go_upto_region 12 with (fail)
    obtain ⟨ys', r1, r2, r3⟩ := impl_opened.struck (n - i) i ys wr HO.out (by omega)
    have R1 := Lib.hid r1
    have R2 := Lib.hid r2
    have R3 := Lib.hid (HB.out.trans r3)
    clear hcl r1 r2 r3
    generalize wr.setCells g (i * 3) (impl_opened.zs (n - i)) = W9 at R1 R3 ⊢
    go_wp2
    go_ret
    have hy' := (Kd.za R1.out).1
    have e9 : (xs.filter fun o => !impl_opened.eqo b o) = ys'.take i := by
     rw [R2.out, H1.out, List.take_of_length_le (by have := HNX.out; omega)]
    rw [e9]
    exact ⟨_, rfl, Kd.R_take R1.out (by omega), R3.out⟩
 ·have HF := Lib.hid (impl_opened.find B base b A n c xs w HX.out HR.out HN6.out (-1) ⟨fun h => absurd h hf, fun _ => rfl⟩)
  have hall : ∀ o ∈ xs, impl_opened.eqo b o = false := by
   have h0 : ¬ xs.findIdx (impl_opened.eqo b) < xs.length := by have := HNX.out; omega
   intro o ho
   cases hq : impl_opened.eqo b o with
   | false => rfl
   | true => exact absurd (List.findIdx_lt_length.2 ⟨o, ho, hq⟩) h0
  have HFI := Lib.hid (show (xs.filter fun o => !impl_opened.eqo b o) = xs from List.filter_eq_self.2 (fun o ho => by rw [hall o ho]; rfl))
  clear hf hall
  go_enter Try.func109, Try.ntmps109
  go_wp2_with (go_at_call 126; refine HF.out.mono ?_; rintro e w2 ⟨rfl, hb2⟩; have HB2 := Lib.hid hb2; clear hb2)
  go_ret
  exact ⟨_, rfl, by rw [HFI.out]; exact Kd.qz HR.out HB2.out, HB2.out.mono hbw⟩
set_option maxHeartbeats 8000000 in
set_option maxRecDepth 100000 in
theorem impl_opened.calls (k : Nat) (a0_0 : Int) (a0_1 : Int) (A0_2 : Option Addr) (c0_2 : Nat) (l0_2 : List S38) (a1_0 : Int) (a1_1 : Int) (a1_2 : Bool) (r1 : Int) (r2 : Int) (r3 : List S38) (w : World) (hr0_2 : Kd.C k38 w A0_2 l0_2.length l0_2) (hc0_2 : l0_2.length ≤ c0_2) (h : impl_opened.f k a0_0 a0_1 l0_2 a1_0 a1_1 a1_2 = some (r1, r2, r3)) :
  Calls Try.prog 75 #[.agg #[.int .i64 a0_0, .int .i64 a0_1, .slice A0_2 l0_2.length c0_2], .agg #[.int .i64 a1_0, .int .i64 a1_1, .bool a1_2]] w fun e w' => ∃ v2_ : Value, e = .returned (.agg #[.int .i64 r1, .int .i64 r2, v2_]) ∧ Kd.R k38 38 w' w.heap.size (fun _ => True) v2_ r3 ∧ Below w.heap.size w w' := by
 have hu := Try.underlying30
 have hub := Try.underlying38
 have hmf : ∀ (fn : Fn) (first cap : Array Value) (w : World), (Instr.makeFunc fn first cap).run Try.prog w = .ok (.func fn first cap) w := fun _ _ _ _ => rfl
 unfold impl_opened.f at h
 obtain ⟨l, hl, h⟩ := Option.bind_eq_some_iff.mp h
 by_cases hlen : l.length ≤ 1000000
 ·rw [if_pos hlen] at h
  simp only [Option.some.injEq, Prod.mk.injEq] at h
  obtain ⟨rfl, rfl, rfl⟩ := h
  have HL := Lib.hid hr0_2
  have HLN := Lib.hid hlen
  have HCL := Lib.hid hl
  clear hr0_2 hlen hl
  go_enter Try.func75, Try.ntmps75
  go_upto_region 1 with (fail)
  have HC0 := Lib.hid (qc (qc (blk_new w (.cells #[.int .i64 a0_0, .int .i64 a0_1, .slice A0_2 l0_2.length c0_2] 30)) (.cells #[.int .i64 a1_0, .int .i64 a1_1, .bool a1_2] 38)) (.cells #[.int .i64 0, .int .i64 0, .slice none 0 0] 30))
  have HC1 := Lib.hid (qc (blk_new (w.alloc (.cells #[.int .i64 a0_0, .int .i64 a0_1, .slice A0_2 l0_2.length c0_2] 30)) (.cells #[.int .i64 a1_0, .int .i64 a1_1, .bool a1_2] 38)) (.cells #[.int .i64 0, .int .i64 0, .slice none 0 0] 30))
  have HC2 := Lib.hid (blk_new ((w.alloc (.cells #[.int .i64 a0_0, .int .i64 a0_1, .slice A0_2 l0_2.length c0_2] 30)).alloc (.cells #[.int .i64 a1_0, .int .i64 a1_1, .bool a1_2] 38)) (.cells #[.int .i64 0, .int .i64 0, .slice none 0 0] 30))
  have hal : ∀ (W : World) (o : Obj), Below W.heap.size W (W.alloc o) := fun W o => qi (Below.refl _ _) o
  have HB := Lib.hid (((hal w (.cells #[.int .i64 a0_0, .int .i64 a0_1, .slice A0_2 l0_2.length c0_2] 30)).trans ((hal _ (.cells #[.int .i64 a1_0, .int .i64 a1_1, .bool a1_2] 38)).mono (by simp))).trans ((hal _ (.cells #[.int .i64 0, .int .i64 0, .slice none 0 0] 30)).mono (by simp; omega)))
  have HSZ := Lib.hid (show (((w.alloc (.cells #[.int .i64 a0_0, .int .i64 a0_1, .slice A0_2 l0_2.length c0_2] 30)).alloc (.cells #[.int .i64 a1_0, .int .i64 a1_1, .bool a1_2] 38)).alloc (.cells #[.int .i64 0, .int .i64 0, .slice none 0 0] 30)).heap.size = w.heap.size + 1 + 1 + 1 by simp)
  have hs1 : (w.alloc (.cells #[.int .i64 a0_0, .int .i64 a0_1, .slice A0_2 l0_2.length c0_2] 30)).heap.size = w.heap.size + 1 := by simp
  have hs2 : ((w.alloc (.cells #[.int .i64 a0_0, .int .i64 a0_1, .slice A0_2 l0_2.length c0_2] 30)).alloc (.cells #[.int .i64 a1_0, .int .i64 a1_1, .bool a1_2] 38)).heap.size = w.heap.size + 1 + 1 := by simp
  rw [hs1] at HC1
  rw [hs2] at HC2
  clear hal hs1 hs2
  generalize (((w.alloc (.cells #[.int .i64 a0_0, .int .i64 a0_1, .slice A0_2 l0_2.length c0_2] 30)).alloc (.cells #[.int .i64 a1_0, .int .i64 a1_1, .bool a1_2] 38)).alloc (.cells #[.int .i64 0, .int .i64 0, .slice none 0 0] 30)) = W1 at HC0 HC1 HC2 HB HSZ ⊢
  obtain ⟨s, hs⟩ : ∃ s, s = w.heap.size := ⟨_, rfl⟩
  have HSW := Lib.hid hs
  rw [← hs] at HC0 HC1 HC2 HSZ ⊢
  clear hs
  have hcz0 : W1.cell? ⟨s, 0, none⟩ = some (.int .i64 a0_0) := (qg HC0.out 0).trans rfl
  have hcz1 : W1.cell? ⟨s, 1, none⟩ = some (.int .i64 a0_1) := (qg HC0.out 1).trans rfl
  have hcz2 : W1.cell? ⟨s, 2, none⟩ = some (.slice A0_2 l0_2.length c0_2) := (qg HC0.out 2).trans rfl
  go_region_held3 (fun w' => w'.cell? ⟨s, 0, none⟩ = some (.int .i64 a0_0) ∧ w'.cell? ⟨s, 1, none⟩ = some (.int .i64 a0_1) ∧ w'.cell? ⟨s, 2, none⟩ = some (.slice A0_2 l0_2.length c0_2)) (first | exact ⟨hcz0, hcz1, hcz2⟩ | exact ⟨hf0, hf1, hf2⟩ | exact ⟨he0, he1, he2⟩ | exact ⟨hd0, hd1, hd2⟩) (first | (go_at_call 98; refine (impl_Block_98.calls A0_2 c0_2 l0_2 l _ (Kd.zm HL.out (below_drew HB.out)) hc0_2 HCL.out).mono ?_; rintro e w3 ⟨v3, rfl, hR3, hb3⟩; obtain ⟨A3, c3, rfl⟩ := Kd.zr hR3; have hd0 := pw_cell_below hb3 hcz0; have hd1 := pw_cell_below hb3 hcz1; have hd2 := pw_cell_below hb3 hcz2) | (go_at_call 109; refine (impl_opened.del (s + 1) W1.drew.heap.size ⟨a1_0, a1_1, a1_2⟩ A3 l.length c3 l _ (by have := HSZ.out; show s + 1 < W1.heap.size; omega) hb3.size ((hb3.block _ (qr HC1.out)).trans HC1.out) hR3 HLN.out).mono ?_; rintro e w4 ⟨v4, rfl, hR4, hb4⟩; obtain ⟨A4, c4, ev4⟩ := Kd.zr hR4; subst ev4; have hq2 : w4.heap[s + 1 + 1]? = some (.cells #[.int .i64 0, .int .i64 0, .slice none 0 0] 30 (0, 0)) := (hb4.block _ (qr HC2.out)).trans ((hb3.block _ (qr HC2.out)).trans HC2.out); have hq0 : w4.heap[s]? = some (.cells #[.int .i64 a0_0, .int .i64 a0_1, .slice A0_2 l0_2.length c0_2] 30 (0, 0)) := (hb4.block _ (qr HC0.out)).trans ((hb3.block _ (qr HC0.out)).trans HC0.out); have he0 : w4.cell? ⟨s, 0, none⟩ = some (.int .i64 a0_0) := (qg hq0 0).trans rfl; have he1 : w4.cell? ⟨s, 1, none⟩ = some (.int .i64 a0_1) := (qg hq0 1).trans rfl; have he2 : w4.cell? ⟨s, 2, none⟩ = some (.slice A0_2 l0_2.length c0_2) := (qg hq0 2).trans rfl; have hr0 : w4.cell? ⟨s + 1 + 1, 0, none⟩ = some (.int .i64 0) := (qg hq2 0).trans rfl; have hr1 : w4.cell? ⟨s + 1 + 1, 1, none⟩ = some (.int .i64 0) := (qg hq2 1).trans rfl; have hr2 : w4.cell? ⟨s + 1 + 1, 2, none⟩ = some (.slice none 0 0) := (qg hq2 2).trans rfl; have hz0 := qj hq2 0; have hz1 := qj hq2 1; have hz2 := qj hq2 2; have hf0 := (World.cell?_setCell_far ((w4.setCell ⟨s + 1 + 1, 0, none⟩ (.int .i64 a0_0)).setCell ⟨s + 1 + 1, 1, none⟩ (.int .i64 a0_1)) ⟨s + 1 + 1, 2, none⟩ ⟨s, 0, none⟩ (.slice A4 (l.filter fun o => !impl_opened.eqo ⟨a1_0, a1_1, a1_2⟩ o).length c4) (by simp only; omega)).trans ((World.cell?_setCell_far (w4.setCell ⟨s + 1 + 1, 0, none⟩ (.int .i64 a0_0)) ⟨s + 1 + 1, 1, none⟩ ⟨s, 0, none⟩ (.int .i64 a0_1) (by simp only; omega)).trans ((World.cell?_setCell_far w4 ⟨s + 1 + 1, 0, none⟩ ⟨s, 0, none⟩ (.int .i64 a0_0) (by simp only; omega)).trans he0)); have hf1 := (World.cell?_setCell_far ((w4.setCell ⟨s + 1 + 1, 0, none⟩ (.int .i64 a0_0)).setCell ⟨s + 1 + 1, 1, none⟩ (.int .i64 a0_1)) ⟨s + 1 + 1, 2, none⟩ ⟨s, 1, none⟩ (.slice A4 (l.filter fun o => !impl_opened.eqo ⟨a1_0, a1_1, a1_2⟩ o).length c4) (by simp only; omega)).trans ((World.cell?_setCell_far (w4.setCell ⟨s + 1 + 1, 0, none⟩ (.int .i64 a0_0)) ⟨s + 1 + 1, 1, none⟩ ⟨s, 1, none⟩ (.int .i64 a0_1) (by simp only; omega)).trans ((World.cell?_setCell_far w4 ⟨s + 1 + 1, 0, none⟩ ⟨s, 1, none⟩ (.int .i64 a0_0) (by simp only; omega)).trans he1)); have hf2 := (World.cell?_setCell_far ((w4.setCell ⟨s + 1 + 1, 0, none⟩ (.int .i64 a0_0)).setCell ⟨s + 1 + 1, 1, none⟩ (.int .i64 a0_1)) ⟨s + 1 + 1, 2, none⟩ ⟨s, 2, none⟩ (.slice A4 (l.filter fun o => !impl_opened.eqo ⟨a1_0, a1_1, a1_2⟩ o).length c4) (by simp only; omega)).trans ((World.cell?_setCell_far (w4.setCell ⟨s + 1 + 1, 0, none⟩ (.int .i64 a0_0)) ⟨s + 1 + 1, 1, none⟩ ⟨s, 2, none⟩ (.int .i64 a0_1) (by simp only; omega)).trans ((World.cell?_setCell_far w4 ⟨s + 1 + 1, 0, none⟩ ⟨s, 2, none⟩ (.int .i64 a0_0) (by simp only; omega)).trans he2))))
  all_goals
   have hsz : W1.drew.heap.size = s + 1 + 1 + 1 := HSZ.out
   have hsw := HSW.out
   have hbase : w.heap.size ≤ W1.drew.heap.size := by omega
   have HF := Lib.hid (show Below w.heap.size w (((w4.setCell ⟨s + 1 + 1, 0, none⟩ (.int .i64 a0_0)).setCell ⟨s + 1 + 1, 1, none⟩ (.int .i64 a0_1)).setCell ⟨s + 1 + 1, 2, none⟩ (.slice A4 (l.filter fun o => !impl_opened.eqo ⟨a1_0, a1_1, a1_2⟩ o).length c4)) from ((((((HB.out.trans ((below_drew (Below.refl W1.heap.size W1)).mono (by have := HSZ.out; have := HSW.out; omega))).trans (hb3.mono hbase)).trans (hb4.mono hbase)).setCell (by simp only; omega) _).setCell (by simp only; omega) _).setCell (by simp only; omega) _))
   have HR := Lib.hid (Kd.zt (Kd.R_far (p := ⟨s + 1 + 1, 2, none⟩) (Kd.R_far (p := ⟨s + 1 + 1, 1, none⟩) (Kd.R_far (p := ⟨s + 1 + 1, 0, none⟩) (Kd.R_bound hR4) (fun k hk => by have := hk.2.1; simp only; omega) (.int .i64 a0_0)) (fun k hk => by have := hk.2.1; simp only; omega) (.int .i64 a0_1)) (fun k hk => by have := hk.2.1; simp only; omega) (.slice A4 (l.filter fun o => !impl_opened.eqo ⟨a1_0, a1_1, a1_2⟩ o).length c4)) hbase)
   have HH := Lib.hid (show (((w4.setCell ⟨s + 1 + 1, 0, none⟩ (.int .i64 a0_0)).setCell ⟨s + 1 + 1, 1, none⟩ (.int .i64 a0_1)).setCell ⟨s + 1 + 1, 2, none⟩ (.slice A4 (l.filter fun o => !impl_opened.eqo ⟨a1_0, a1_1, a1_2⟩ o).length c4)).heap[s + 1 + 1]? = some (.cells #[.int .i64 a0_0, .int .i64 a0_1, (.slice A4 (l.filter fun o => !impl_opened.eqo ⟨a1_0, a1_1, a1_2⟩ o).length c4)] 30 (0, 0)) by
    refine zd (cs := #[.int .i64 a0_0, .int .i64 a0_1, .slice none 0 0]) ?_ 2 _ rfl
    refine zd (cs := #[.int .i64 a0_0, .int .i64 0, .slice none 0 0]) ?_ 1 _ rfl
    refine zd (cs := #[.int .i64 0, .int .i64 0, .slice none 0 0]) ?_ 0 _ rfl
    exact hq2)
   clear hb3 hR3 hb4 hR4 hq2 hq0 he0 he1 he2 hr0 hr1 hr2 hz0 hz1 hz2 hf0 hf1 hf2 hd0 hd1 hd2 hcz0 hcz1 hcz2
   go_wp2
   refine bodyPost_ret (results_cell_row rfl _ _ (s + 1 + 1) 30 #[.int .i64 a0_0, .int .i64 a0_1, (.slice A4 (l.filter fun o => !impl_opened.eqo ⟨a1_0, a1_1, a1_2⟩ o).length c4)] (0, 0) _ rfl HH.out Try.underlying30 rfl (by kernel_rfl)) rfl ?_
   exact ⟨_, rfl, Kd.zc HR.out (fun _ _ => trivial), HF.out⟩
 ·rw [if_neg hlen] at h; cases h
def impl_OpenBlock.f (k : Nat) (a0_0 : Int) (a0_1 : Int) (l0_2 : List (S38)) (a1_0 : Int) (a1_1 : Int) (a1_2 : Bool) : Option (Int × Int × (List (S38)) × Bool) := (impl_IsCity.f k a0_0 a0_1 l0_2).bind fun t211 => (if t211 = true then ((impl_isClosed.f k a0_0 a0_1 l0_2 a1_0 a1_1 a1_2).bind fun t212 => (if t212 = true then ((impl_opened.f k a0_0 a0_1 l0_2 a1_0 a1_1 a1_2).bind fun bt213 => (some (bt213.1, bt213.2.1, bt213.2.2, true))) else (some (0, 0, ([] : List (S38)), false)))) else (some (0, 0, ([] : List (S38)), false)))
theorem impl_OpenBlock.mono : ∀ a0 a1 a2 a3 a4 a5 k, LeO (impl_OpenBlock.f k a0 a1 a2 a3 a4 a5) (impl_OpenBlock.f (k + 1) a0 a1 a2 a3 a4 a5) := by
 intro a0 a1 a2 a3 a4 a5 k
 unfold impl_OpenBlock.f
 repeat' first
   | (with_reducible exact impl_IsCity.mono _ _ _ _)
   | (with_reducible exact impl_isClosed.mono _ _ _ _ _ _ _)
   | (with_reducible exact impl_opened.mono _ _ _ _ _ _ _)
   | (with_reducible exact LeO.refl _)
   | (with_reducible exact LeO.none _)
   | (with_reducible refine LeO.ite ?_ ?_)
   | (with_reducible refine LeO.bind ?_ (fun _ => ?_))
   | exact impl_IsCity.mono _ _ _ _
   | exact impl_isClosed.mono _ _ _ _ _ _ _
   | exact impl_opened.mono _ _ _ _ _ _ _
   | exact LeO.none _
   | refine LeO.ite ?_ ?_
   | refine LeO.bind ?_ (fun _ => ?_)
set_option maxHeartbeats 8000000 in
set_option maxRecDepth 100000 in
theorem impl_OpenBlock.calls (k : Nat) (a0_0 : Int) (a0_1 : Int) (A0_2 : Option Addr) (c0_2 : Nat) (l0_2 : List (S38)) (a1_0 : Int) (a1_1 : Int) (a1_2 : Bool) (r1 : Int) (r2 : Int) (r3 : List (S38)) (r4 : Bool) (w : World) (hr0_2 : Kd.C k38 w A0_2 l0_2.length l0_2) (hc0_2 : l0_2.length ≤ c0_2) (h : impl_OpenBlock.f k a0_0 a0_1 l0_2 a1_0 a1_1 a1_2 = some (r1, r2, r3, r4)) :
  Calls Try.prog 25 #[.agg #[.int .i64 a0_0, .int .i64 a0_1, .slice A0_2 l0_2.length c0_2], .agg #[.int .i64 a1_0, .int .i64 a1_1, .bool a1_2]] w fun e w' => ∃ v2_ : Value, e = .returned (.tuple #[.agg #[.int .i64 r1, .int .i64 r2, v2_], .bool r4]) ∧ Kd.R k38 38 w' w.heap.size (fun _ => True) v2_ r3 ∧ Below w.heap.size w w' := by
 have hu30 := Try.underlying30
 have hu38 := Try.underlying38
 have HR0_2 := qa.mk hr0_2
 have HC0_2 := qa.mk hc0_2
 clear hr0_2 hc0_2
 have HB := qa.mk (Below.refl w.heap.size w)
 have H : ((impl_IsCity.f k a0_0 a0_1 l0_2).bind fun t211 => (if t211 = true then ((impl_isClosed.f k a0_0 a0_1 l0_2 a1_0 a1_1 a1_2).bind fun t212 => (if t212 = true then ((impl_opened.f k a0_0 a0_1 l0_2 a1_0 a1_1 a1_2).bind fun bt213 => (some (bt213.1, bt213.2.1, bt213.2.2, true))) else (some (0, 0, ([] : List (S38)), false)))) else (some (0, 0, ([] : List (S38)), false)))) = some (r1, r2, r3, r4) := h
 clear h
 replace H := Option.bind_eq_some_iff.mp H
 obtain ⟨t211, A30, H⟩ := H
 replace H : (if t211 = true then ((impl_isClosed.f k a0_0 a0_1 l0_2 a1_0 a1_1 a1_2).bind fun t212 => (if t212 = true then ((impl_opened.f k a0_0 a0_1 l0_2 a1_0 a1_1 a1_2).bind fun bt213 => (some (bt213.1, bt213.2.1, bt213.2.2, true))) else (some (0, 0, ([] : List (S38)), false)))) else (some (0, 0, ([] : List (S38)), false))) = some (r1, r2, r3, r4) := H
 have A3 := qa.mk A30
 clear A30
 by_cases c4 : t211 = true
 ·subst c4
  have H1 : ((impl_isClosed.f k a0_0 a0_1 l0_2 a1_0 a1_1 a1_2).bind fun t212 => (if t212 = true then ((impl_opened.f k a0_0 a0_1 l0_2 a1_0 a1_1 a1_2).bind fun bt213 => (some (bt213.1, bt213.2.1, bt213.2.2, true))) else (some (0, 0, ([] : List (S38)), false)))) = some (r1, r2, r3, r4) := by rw [if_pos rfl] at H; exact H
  clear H
  have H := H1
  clear H1
  replace H := Option.bind_eq_some_iff.mp H
  obtain ⟨t212, A50, H⟩ := H
  replace H : (if t212 = true then ((impl_opened.f k a0_0 a0_1 l0_2 a1_0 a1_1 a1_2).bind fun bt213 => (some (bt213.1, bt213.2.1, bt213.2.2, true))) else (some (0, 0, ([] : List (S38)), false))) = some (r1, r2, r3, r4) := H
  have A5 := qa.mk A50
  clear A50
  by_cases c6 : t212 = true
  ·subst c6
   have H1 : ((impl_opened.f k a0_0 a0_1 l0_2 a1_0 a1_1 a1_2).bind fun bt213 => (some (bt213.1, bt213.2.1, bt213.2.2, true))) = some (r1, r2, r3, r4) := by rw [if_pos rfl] at H; exact H
   clear H
   have H := H1
   clear H1
   replace H := Option.bind_eq_some_iff.mp H
   obtain ⟨⟨t213, t214, t215⟩, A70, H⟩ := H
   replace H : (some (t213, t214, t215, true)) = some (r1, r2, r3, r4) := H
   have A7 := qa.mk A70
   clear A70
   simp only [Option.some.injEq, Prod.mk.injEq] at H
   obtain ⟨rfl, rfl, rfl, rfl⟩ := H
   go_enter Try.func25, Try.ntmps25
   go_wp2_with (first | ((with_reducible refine qy (N := 2) rfl ?_); refine qx ?hg (N := 2) ?hd (cs := #[.int .i64 a0_0, .int .i64 a0_1, .slice A0_2 l0_2.length c0_2]) (t := 30) ?hr ?_; (case hd => rfl); (case hg => rfl); (case hr => first | (go_simp; done) | (go_simp; rfl)); intro gb208 hg w8 hbox hb; have n0_ := qa.mk (qn (be0_ HB) hb); have n1_ := qa.mk (hbox); have n2_ := qa.mk ((by rw [hg]; exact (qm (be0_ HB)) : w.heap.size ≤ gb208)); have n3_ := qa.mk ((by rw [hg]; exact (qm (be0_ HB)) : w.heap.size ≤ gb208)); clear HB; have HB := n0_; have BK208 := n1_; have GW208 := n2_; have GE208 := n3_; clear n0_ n1_ n2_ n3_; clear hb hbox hg) | ((with_reducible refine qy (N := 3) rfl ?_); refine qx ?hg (N := 3) ?hd (cs := #[.int .i64 a1_0, .int .i64 a1_1, .bool a1_2]) (t := 38) ?hr ?_; (case hd => rfl); (case hg => rfl); (case hr => first | (go_simp; done) | (go_simp; rfl)); intro gb209 hg w9 hbox hb; have n0_ := qa.mk (qk (g := gb208) (o := .cells #[.int .i64 a0_0, .int .i64 a0_1, .slice A0_2 l0_2.length c0_2] 30 (0, 0)) (bk_ BK208) hb); have n1_ := qa.mk (qn (be1_ HB GE208) hb); have n2_ := qa.mk (hbox); have n3_ := qa.mk ((by rw [hg]; exact (qm (be1_ HB GE208)) : w.heap.size ≤ gb209)); have n4_ := qa.mk ((by rw [hg]; exact (qm (be1_ HB GE208)) : w.heap.size ≤ gb209)); have n5_ := qa.mk ((by rw [hg]; exact Nat.ne_of_lt (qr (g := gb208) (o := .cells #[.int .i64 a0_0, .int .i64 a0_1, .slice A0_2 l0_2.length c0_2] 30 (0, 0)) (bk_ BK208)) : gb208 ≠ gb209)); have n6_ := qa.mk ((by rw [hg]; exact Nat.ne_of_gt (qr (g := gb208) (o := .cells #[.int .i64 a0_0, .int .i64 a0_1, .slice A0_2 l0_2.length c0_2] 30 (0, 0)) (bk_ BK208)) : gb209 ≠ gb208)); clear BK208; clear HB; have BK208 := n0_; have HB := n1_; have BK209 := n2_; have GW209 := n3_; have GE209 := n4_; have NB208_209 := n5_; have NB209_208 := n6_; clear n0_ n1_ n2_ n3_ n4_ n5_ n6_; clear hb hbox hg) | ((with_reducible refine qy (N := 4) rfl ?_); refine qx ?hg (N := 4) ?hd (cs := #[.int .i64 0, .int .i64 0, .slice none 0 0]) (t := 30) ?hr ?_; (case hd => rfl); (case hg => rfl); (case hr => first | (go_simp; done) | (go_simp; rfl)); intro gb210 hg w10 hbox hb; have n0_ := qa.mk (qk (g := gb208) (o := .cells #[.int .i64 a0_0, .int .i64 a0_1, .slice A0_2 l0_2.length c0_2] 30 (0, 0)) (bk_ BK208) hb); have n1_ := qa.mk (qk (g := gb209) (o := .cells #[.int .i64 a1_0, .int .i64 a1_1, .bool a1_2] 38 (0, 0)) (bk_ BK209) hb); have n2_ := qa.mk (qn (be2_ HB GE208 GE209) hb); have n3_ := qa.mk (hbox); have n4_ := qa.mk ((by rw [hg]; exact (qm (be2_ HB GE208 GE209)) : w.heap.size ≤ gb210)); have n5_ := qa.mk ((by rw [hg]; exact (qm (be2_ HB GE208 GE209)) : w.heap.size ≤ gb210)); have n6_ := qa.mk ((by rw [hg]; exact Nat.ne_of_lt (qr (g := gb208) (o := .cells #[.int .i64 a0_0, .int .i64 a0_1, .slice A0_2 l0_2.length c0_2] 30 (0, 0)) (bk_ BK208)) : gb208 ≠ gb210)); have n7_ := qa.mk ((by rw [hg]; exact Nat.ne_of_gt (qr (g := gb208) (o := .cells #[.int .i64 a0_0, .int .i64 a0_1, .slice A0_2 l0_2.length c0_2] 30 (0, 0)) (bk_ BK208)) : gb210 ≠ gb208)); have n8_ := qa.mk ((by rw [hg]; exact Nat.ne_of_lt (qr (g := gb209) (o := .cells #[.int .i64 a1_0, .int .i64 a1_1, .bool a1_2] 38 (0, 0)) (bk_ BK209)) : gb209 ≠ gb210)); have n9_ := qa.mk ((by rw [hg]; exact Nat.ne_of_gt (qr (g := gb209) (o := .cells #[.int .i64 a1_0, .int .i64 a1_1, .bool a1_2] 38 (0, 0)) (bk_ BK209)) : gb210 ≠ gb209)); clear BK208; clear BK209; clear HB; have BK208 := n0_; have BK209 := n1_; have HB := n2_; have BK210 := n3_; have GW210 := n4_; have GE210 := n5_; have NB208_210 := n6_; have NB210_208 := n7_; have NB209_210 := n8_; have NB210_209 := n9_; clear n0_ n1_ n2_ n3_ n4_ n5_ n6_ n7_ n8_ n9_; clear hb hbox hg; have hnb11 := NB208_209.out; have hnc11 := NB209_208.out; have hnb12 := NB208_210.out; have hnc12 := NB210_208.out; have hcz13_0 : w10.cell? ⟨gb208, 0, none⟩ = some (.int .i64 a0_0) := (qg BK208.out 0).trans rfl; have hcz13_1 : w10.cell? ⟨gb208, 1, none⟩ = some (.int .i64 a0_1) := (qg BK208.out 1).trans rfl; have hcz13_2 : w10.cell? ⟨gb208, 2, none⟩ = some (.slice A0_2 l0_2.length c0_2) := (qg BK208.out 2).trans rfl; have hfz13_0 := qj BK208.out 0; have hfz13_1 := qj BK208.out 1; have hfz13_2 := qj BK208.out 2) | ((with_reducible refine zb (f := 70) rfl ?_); refine zj (some 7) rfl rfl Try.func70 (by kernel_rfl) rfl #[.agg #[.int .i64 a0_0, .int .i64 a0_1, .slice A0_2 l0_2.length c0_2]] rfl (by (try simp only [List.map_toArray, List.map_cons, List.map_nil]); first | done | rfl | (simp only [List.length_drop, List.length_take]; rfl)) ?_; (with_reducible refine (impl_IsCity.calls k a0_0 a0_1 _ _ l0_2 true _ ?side1 ?side2 A3.out).mono ?_); (case side1 => repeat (first | exact (Kd.zm HR0_2.out HB.out) | (with_reducible refine Kd.zg ?_ _) | (with_reducible refine Kd.zf ?_ _) | (with_reducible refine Kd.zi ?_))); (case side2 => exact HC0_2.out); rintro e w14 ⟨rfl, hb⟩; refine ⟨_, rfl, ?_⟩; have n0_ := qa.mk (qk (g := gb208) (o := .cells #[.int .i64 a0_0, .int .i64 a0_1, .slice A0_2 l0_2.length c0_2] 30 (0, 0)) (bk_ BK208) hb); have n1_ := qa.mk (qk (g := gb209) (o := .cells #[.int .i64 a1_0, .int .i64 a1_1, .bool a1_2] 38 (0, 0)) (bk_ BK209) hb); have n2_ := qa.mk (qk (g := gb210) (o := .cells #[.int .i64 0, .int .i64 0, .slice none 0 0] 30 (0, 0)) (bk_ BK210) hb); have n3_ := qa.mk (qn (be3_ HB GE208 GE209 GE210) hb); clear BK208; clear BK209; clear BK210; clear HB; have BK208 := n0_; have BK209 := n1_; have BK210 := n2_; have HB := n3_; clear n0_ n1_ n2_ n3_; (try clear hb); (try clear hb2); (try clear hk); (try clear hi); have hcz15_0 : w14.cell? ⟨gb208, 0, none⟩ = some (.int .i64 a0_0) := (qg BK208.out 0).trans rfl; have hcz15_1 : w14.cell? ⟨gb208, 1, none⟩ = some (.int .i64 a0_1) := (qg BK208.out 1).trans rfl; have hcz15_2 : w14.cell? ⟨gb208, 2, none⟩ = some (.slice A0_2 l0_2.length c0_2) := (qg BK208.out 2).trans rfl; have hfz15_0 := qj BK208.out 0; have hfz15_1 := qj BK208.out 1; have hfz15_2 := qj BK208.out 2; have hnb16 := NB209_210.out; have hnc16 := NB210_209.out; have hcz17_0 : w14.cell? ⟨gb209, 0, none⟩ = some (.int .i64 a1_0) := (qg BK209.out 0).trans rfl; have hcz17_1 : w14.cell? ⟨gb209, 1, none⟩ = some (.int .i64 a1_1) := (qg BK209.out 1).trans rfl; have hcz17_2 : w14.cell? ⟨gb209, 2, none⟩ = some (.bool a1_2) := (qg BK209.out 2).trans rfl; have hfz17_0 := qj BK209.out 0; have hfz17_1 := qj BK209.out 1; have hfz17_2 := qj BK209.out 2) | (go_at_call 74; (with_reducible refine (impl_isClosed.calls k a0_0 a0_1 _ _ l0_2 a1_0 a1_1 a1_2 true _ ?side1 ?side2 A5.out).mono ?_); (case side1 => repeat (first | exact (Kd.zm HR0_2.out HB.out) | (with_reducible refine Kd.zg ?_ _) | (with_reducible refine Kd.zf ?_ _) | (with_reducible refine Kd.zi ?_))); (case side2 => exact HC0_2.out); rintro e w18 ⟨rfl, hb⟩; have n0_ := qa.mk (qk (g := gb208) (o := .cells #[.int .i64 a0_0, .int .i64 a0_1, .slice A0_2 l0_2.length c0_2] 30 (0, 0)) (bk_ BK208) hb); have n1_ := qa.mk (qk (g := gb209) (o := .cells #[.int .i64 a1_0, .int .i64 a1_1, .bool a1_2] 38 (0, 0)) (bk_ BK209) hb); have n2_ := qa.mk (qk (g := gb210) (o := .cells #[.int .i64 0, .int .i64 0, .slice none 0 0] 30 (0, 0)) (bk_ BK210) hb); have n3_ := qa.mk (qn (be3_ HB GE208 GE209 GE210) hb); clear BK208; clear BK209; clear BK210; clear HB; have BK208 := n0_; have BK209 := n1_; have BK210 := n2_; have HB := n3_; clear n0_ n1_ n2_ n3_; (try clear hb); (try clear hb2); (try clear hk); (try clear hi); have hcz19_0 : w18.cell? ⟨gb208, 0, none⟩ = some (.int .i64 a0_0) := (qg BK208.out 0).trans rfl; have hcz19_1 : w18.cell? ⟨gb208, 1, none⟩ = some (.int .i64 a0_1) := (qg BK208.out 1).trans rfl; have hcz19_2 : w18.cell? ⟨gb208, 2, none⟩ = some (.slice A0_2 l0_2.length c0_2) := (qg BK208.out 2).trans rfl; have hfz19_0 := qj BK208.out 0; have hfz19_1 := qj BK208.out 1; have hfz19_2 := qj BK208.out 2; have hcz20_0 : w18.cell? ⟨gb209, 0, none⟩ = some (.int .i64 a1_0) := (qg BK209.out 0).trans rfl; have hcz20_1 : w18.cell? ⟨gb209, 1, none⟩ = some (.int .i64 a1_1) := (qg BK209.out 1).trans rfl; have hcz20_2 : w18.cell? ⟨gb209, 2, none⟩ = some (.bool a1_2) := (qg BK209.out 2).trans rfl; have hfz20_0 := qj BK209.out 0; have hfz20_1 := qj BK209.out 1; have hfz20_2 := qj BK209.out 2) | ((with_reducible refine zb (f := 75) rfl ?_); refine zj (some 18) rfl rfl Try.func75 (by kernel_rfl) rfl #[.agg #[.int .i64 a0_0, .int .i64 a0_1, .slice A0_2 l0_2.length c0_2], .agg #[.int .i64 a1_0, .int .i64 a1_1, .bool a1_2]] rfl (by (try simp only [List.map_toArray, List.map_cons, List.map_nil]); first | done | rfl | (simp only [List.length_drop, List.length_take]; rfl)) ?_; (with_reducible refine (impl_opened.calls k a0_0 a0_1 _ _ l0_2 a1_0 a1_1 a1_2 t213 t214 t215 _ ?side1 ?side2 A7.out).mono ?_); (case side1 => repeat (first | exact (Kd.zm HR0_2.out HB.out) | (with_reducible refine Kd.zg ?_ _) | (with_reducible refine Kd.zf ?_ _) | (with_reducible refine Kd.zi ?_))); (case side2 => exact HC0_2.out); rintro e w21 ⟨v216, rfl, ho0, hb⟩; refine ⟨_, rfl, ?_⟩; have n0_ := qa.mk (Kd.zt (Kd.R_newB ho0 (g := gb209) (o := .cells #[.int .i64 a1_0, .int .i64 a1_1, .bool a1_2] 38 (0, 0)) (bk_ BK209)) (qm (be3_ HB GE208 GE209 GE210))); have n1_ := qa.mk (qk (g := gb208) (o := .cells #[.int .i64 a0_0, .int .i64 a0_1, .slice A0_2 l0_2.length c0_2] 30 (0, 0)) (bk_ BK208) hb); have n2_ := qa.mk (qk (g := gb209) (o := .cells #[.int .i64 a1_0, .int .i64 a1_1, .bool a1_2] 38 (0, 0)) (bk_ BK209) hb); have n3_ := qa.mk (qk (g := gb210) (o := .cells #[.int .i64 0, .int .i64 0, .slice none 0 0] 30 (0, 0)) (bk_ BK210) hb); have n4_ := qa.mk (qn (be3_ HB GE208 GE209 GE210) hb); clear BK208; clear BK209; clear BK210; clear HB; have HO217 := n0_; have BK208 := n1_; have BK209 := n2_; have BK210 := n3_; have HB := n4_; clear n0_ n1_ n2_ n3_ n4_; (try clear hb); (try clear hb2); (try clear hk); (try clear hi); (try clear ho0); have hcz22_0 : w21.cell? ⟨gb210, 0, none⟩ = some (.int .i64 0) := (qg BK210.out 0).trans rfl; have hcz22_1 : w21.cell? ⟨gb210, 1, none⟩ = some (.int .i64 0) := (qg BK210.out 1).trans rfl; have hcz22_2 : w21.cell? ⟨gb210, 2, none⟩ = some (.slice none 0 0) := (qg BK210.out 2).trans rfl; have hfz22_0 := qj BK210.out 0; have hfz22_1 := qj BK210.out 1; have hfz22_2 := qj BK210.out 2; obtain ⟨Ao23, co23, eo23⟩ := Kd.zr HO217.out; subst eo23))
   refine bodyPost_ret (results_ct rfl _ _ gb210 30 #[.int .i64 t213, .int .i64 t214, .slice Ao23 t215.length co23] (0, 0) _ rfl (by (with_reducible repeat (first | refine qd ?_ _ | refine qf ?_ | refine qc ?_ _)); refine zd (cs := #[.int .i64 t213, .int .i64 t214, .slice none 0 0]) ?_ 2 _ rfl; (with_reducible repeat (first | refine qd ?_ _ | refine qf ?_ | refine qc ?_ _)); refine zd (cs := #[.int .i64 t213, .int .i64 0, .slice none 0 0]) ?_ 1 _ rfl; (with_reducible repeat (first | refine qd ?_ _ | refine qf ?_ | refine qc ?_ _)); refine zd (cs := #[.int .i64 0, .int .i64 0, .slice none 0 0]) ?_ 0 _ rfl; (with_reducible repeat (first | refine qd ?_ _ | refine qf ?_ | refine qc ?_ _)); exact BK210.out) Try.underlying30 rfl (by kernel_rfl)) rfl ?_
   exact ⟨_, by first | rfl | (simp [qu, qt] <;> rfl) | (simp [*, qu, qt] <;> rfl), by (with_reducible repeat (first | apply Kd.qo | apply Kd.qp | apply Kd.qq)); exact Kd.zc (Kd.R_far (p := ⟨gb210, 2, none⟩) (Kd.R_far (p := ⟨gb210, 1, none⟩) (Kd.R_far (p := ⟨gb210, 0, none⟩) (Kd.zl HO217.out BK210.out (by decide)) (fun _ hk => hk.2) (.int .i64 t213)) (fun _ hk => hk.2) (.int .i64 t214)) (fun _ hk => hk.2) (.slice Ao23 t215.length co23)) (fun _ hk => trivial), be3_ HB GE208 GE209 GE210⟩
  ·replace c6 := Bool.eq_false_iff.mpr c6
   subst c6
   have H1 : (some (0, 0, ([] : List (S38)), false)) = some (r1, r2, r3, r4) := by rw [if_neg (show ¬ (false = true) by decide)] at H; exact H
   clear H
   have H := H1
   clear H1
   simp only [Option.some.injEq, Prod.mk.injEq] at H
   obtain ⟨rfl, rfl, rfl, rfl⟩ := H
   go_enter Try.func25, Try.ntmps25
   go_wp2_with (first | ((with_reducible refine qy (N := 2) rfl ?_); refine qx ?hg (N := 2) ?hd (cs := #[.int .i64 a0_0, .int .i64 a0_1, .slice A0_2 l0_2.length c0_2]) (t := 30) ?hr ?_; (case hd => rfl); (case hg => rfl); (case hr => first | (go_simp; done) | (go_simp; rfl)); intro gb208 hg w24 hbox hb; have n0_ := qa.mk (qn (be0_ HB) hb); have n1_ := qa.mk (hbox); have n2_ := qa.mk ((by rw [hg]; exact (qm (be0_ HB)) : w.heap.size ≤ gb208)); have n3_ := qa.mk ((by rw [hg]; exact (qm (be0_ HB)) : w.heap.size ≤ gb208)); clear HB; have HB := n0_; have BK208 := n1_; have GW208 := n2_; have GE208 := n3_; clear n0_ n1_ n2_ n3_; clear hb hbox hg) | ((with_reducible refine qy (N := 3) rfl ?_); refine qx ?hg (N := 3) ?hd (cs := #[.int .i64 a1_0, .int .i64 a1_1, .bool a1_2]) (t := 38) ?hr ?_; (case hd => rfl); (case hg => rfl); (case hr => first | (go_simp; done) | (go_simp; rfl)); intro gb209 hg w25 hbox hb; have n0_ := qa.mk (qk (g := gb208) (o := .cells #[.int .i64 a0_0, .int .i64 a0_1, .slice A0_2 l0_2.length c0_2] 30 (0, 0)) (bk_ BK208) hb); have n1_ := qa.mk (qn (be1_ HB GE208) hb); have n2_ := qa.mk (hbox); have n3_ := qa.mk ((by rw [hg]; exact (qm (be1_ HB GE208)) : w.heap.size ≤ gb209)); have n4_ := qa.mk ((by rw [hg]; exact (qm (be1_ HB GE208)) : w.heap.size ≤ gb209)); have n5_ := qa.mk ((by rw [hg]; exact Nat.ne_of_lt (qr (g := gb208) (o := .cells #[.int .i64 a0_0, .int .i64 a0_1, .slice A0_2 l0_2.length c0_2] 30 (0, 0)) (bk_ BK208)) : gb208 ≠ gb209)); have n6_ := qa.mk ((by rw [hg]; exact Nat.ne_of_gt (qr (g := gb208) (o := .cells #[.int .i64 a0_0, .int .i64 a0_1, .slice A0_2 l0_2.length c0_2] 30 (0, 0)) (bk_ BK208)) : gb209 ≠ gb208)); clear BK208; clear HB; have BK208 := n0_; have HB := n1_; have BK209 := n2_; have GW209 := n3_; have GE209 := n4_; have NB208_209 := n5_; have NB209_208 := n6_; clear n0_ n1_ n2_ n3_ n4_ n5_ n6_; clear hb hbox hg) | ((with_reducible refine qy (N := 4) rfl ?_); refine qx ?hg (N := 4) ?hd (cs := #[.int .i64 0, .int .i64 0, .slice none 0 0]) (t := 30) ?hr ?_; (case hd => rfl); (case hg => rfl); (case hr => first | (go_simp; done) | (go_simp; rfl)); intro gb210 hg w26 hbox hb; have n0_ := qa.mk (qk (g := gb208) (o := .cells #[.int .i64 a0_0, .int .i64 a0_1, .slice A0_2 l0_2.length c0_2] 30 (0, 0)) (bk_ BK208) hb); have n1_ := qa.mk (qk (g := gb209) (o := .cells #[.int .i64 a1_0, .int .i64 a1_1, .bool a1_2] 38 (0, 0)) (bk_ BK209) hb); have n2_ := qa.mk (qn (be2_ HB GE208 GE209) hb); have n3_ := qa.mk (hbox); have n4_ := qa.mk ((by rw [hg]; exact (qm (be2_ HB GE208 GE209)) : w.heap.size ≤ gb210)); have n5_ := qa.mk ((by rw [hg]; exact (qm (be2_ HB GE208 GE209)) : w.heap.size ≤ gb210)); have n6_ := qa.mk ((by rw [hg]; exact Nat.ne_of_lt (qr (g := gb208) (o := .cells #[.int .i64 a0_0, .int .i64 a0_1, .slice A0_2 l0_2.length c0_2] 30 (0, 0)) (bk_ BK208)) : gb208 ≠ gb210)); have n7_ := qa.mk ((by rw [hg]; exact Nat.ne_of_gt (qr (g := gb208) (o := .cells #[.int .i64 a0_0, .int .i64 a0_1, .slice A0_2 l0_2.length c0_2] 30 (0, 0)) (bk_ BK208)) : gb210 ≠ gb208)); have n8_ := qa.mk ((by rw [hg]; exact Nat.ne_of_lt (qr (g := gb209) (o := .cells #[.int .i64 a1_0, .int .i64 a1_1, .bool a1_2] 38 (0, 0)) (bk_ BK209)) : gb209 ≠ gb210)); have n9_ := qa.mk ((by rw [hg]; exact Nat.ne_of_gt (qr (g := gb209) (o := .cells #[.int .i64 a1_0, .int .i64 a1_1, .bool a1_2] 38 (0, 0)) (bk_ BK209)) : gb210 ≠ gb209)); clear BK208; clear BK209; clear HB; have BK208 := n0_; have BK209 := n1_; have HB := n2_; have BK210 := n3_; have GW210 := n4_; have GE210 := n5_; have NB208_210 := n6_; have NB210_208 := n7_; have NB209_210 := n8_; have NB210_209 := n9_; clear n0_ n1_ n2_ n3_ n4_ n5_ n6_ n7_ n8_ n9_; clear hb hbox hg; have hnb27 := NB208_209.out; have hnc27 := NB209_208.out; have hnb28 := NB208_210.out; have hnc28 := NB210_208.out; have hcz29_0 : w26.cell? ⟨gb208, 0, none⟩ = some (.int .i64 a0_0) := (qg BK208.out 0).trans rfl; have hcz29_1 : w26.cell? ⟨gb208, 1, none⟩ = some (.int .i64 a0_1) := (qg BK208.out 1).trans rfl; have hcz29_2 : w26.cell? ⟨gb208, 2, none⟩ = some (.slice A0_2 l0_2.length c0_2) := (qg BK208.out 2).trans rfl; have hfz29_0 := qj BK208.out 0; have hfz29_1 := qj BK208.out 1; have hfz29_2 := qj BK208.out 2) | ((with_reducible refine zb (f := 70) rfl ?_); refine zj (some 7) rfl rfl Try.func70 (by kernel_rfl) rfl #[.agg #[.int .i64 a0_0, .int .i64 a0_1, .slice A0_2 l0_2.length c0_2]] rfl (by (try simp only [List.map_toArray, List.map_cons, List.map_nil]); first | done | rfl | (simp only [List.length_drop, List.length_take]; rfl)) ?_; (with_reducible refine (impl_IsCity.calls k a0_0 a0_1 _ _ l0_2 true _ ?side1 ?side2 A3.out).mono ?_); (case side1 => repeat (first | exact (Kd.zm HR0_2.out HB.out) | (with_reducible refine Kd.zg ?_ _) | (with_reducible refine Kd.zf ?_ _) | (with_reducible refine Kd.zi ?_))); (case side2 => exact HC0_2.out); rintro e w30 ⟨rfl, hb⟩; refine ⟨_, rfl, ?_⟩; have n0_ := qa.mk (qk (g := gb208) (o := .cells #[.int .i64 a0_0, .int .i64 a0_1, .slice A0_2 l0_2.length c0_2] 30 (0, 0)) (bk_ BK208) hb); have n1_ := qa.mk (qk (g := gb209) (o := .cells #[.int .i64 a1_0, .int .i64 a1_1, .bool a1_2] 38 (0, 0)) (bk_ BK209) hb); have n2_ := qa.mk (qk (g := gb210) (o := .cells #[.int .i64 0, .int .i64 0, .slice none 0 0] 30 (0, 0)) (bk_ BK210) hb); have n3_ := qa.mk (qn (be3_ HB GE208 GE209 GE210) hb); clear BK208; clear BK209; clear BK210; clear HB; have BK208 := n0_; have BK209 := n1_; have BK210 := n2_; have HB := n3_; clear n0_ n1_ n2_ n3_; (try clear hb); (try clear hb2); (try clear hk); (try clear hi); have hcz31_0 : w30.cell? ⟨gb208, 0, none⟩ = some (.int .i64 a0_0) := (qg BK208.out 0).trans rfl; have hcz31_1 : w30.cell? ⟨gb208, 1, none⟩ = some (.int .i64 a0_1) := (qg BK208.out 1).trans rfl; have hcz31_2 : w30.cell? ⟨gb208, 2, none⟩ = some (.slice A0_2 l0_2.length c0_2) := (qg BK208.out 2).trans rfl; have hfz31_0 := qj BK208.out 0; have hfz31_1 := qj BK208.out 1; have hfz31_2 := qj BK208.out 2; have hnb32 := NB209_210.out; have hnc32 := NB210_209.out; have hcz33_0 : w30.cell? ⟨gb209, 0, none⟩ = some (.int .i64 a1_0) := (qg BK209.out 0).trans rfl; have hcz33_1 : w30.cell? ⟨gb209, 1, none⟩ = some (.int .i64 a1_1) := (qg BK209.out 1).trans rfl; have hcz33_2 : w30.cell? ⟨gb209, 2, none⟩ = some (.bool a1_2) := (qg BK209.out 2).trans rfl; have hfz33_0 := qj BK209.out 0; have hfz33_1 := qj BK209.out 1; have hfz33_2 := qj BK209.out 2) | (go_at_call 74; (with_reducible refine (impl_isClosed.calls k a0_0 a0_1 _ _ l0_2 a1_0 a1_1 a1_2 false _ ?side1 ?side2 A5.out).mono ?_); (case side1 => repeat (first | exact (Kd.zm HR0_2.out HB.out) | (with_reducible refine Kd.zg ?_ _) | (with_reducible refine Kd.zf ?_ _) | (with_reducible refine Kd.zi ?_))); (case side2 => exact HC0_2.out); rintro e w34 ⟨rfl, hb⟩; have n0_ := qa.mk (qk (g := gb208) (o := .cells #[.int .i64 a0_0, .int .i64 a0_1, .slice A0_2 l0_2.length c0_2] 30 (0, 0)) (bk_ BK208) hb); have n1_ := qa.mk (qk (g := gb209) (o := .cells #[.int .i64 a1_0, .int .i64 a1_1, .bool a1_2] 38 (0, 0)) (bk_ BK209) hb); have n2_ := qa.mk (qk (g := gb210) (o := .cells #[.int .i64 0, .int .i64 0, .slice none 0 0] 30 (0, 0)) (bk_ BK210) hb); have n3_ := qa.mk (qn (be3_ HB GE208 GE209 GE210) hb); clear BK208; clear BK209; clear BK210; clear HB; have BK208 := n0_; have BK209 := n1_; have BK210 := n2_; have HB := n3_; clear n0_ n1_ n2_ n3_; (try clear hb); (try clear hb2); (try clear hk); (try clear hi); have hcz35_0 : w34.cell? ⟨gb210, 0, none⟩ = some (.int .i64 0) := (qg BK210.out 0).trans rfl; have hcz35_1 : w34.cell? ⟨gb210, 1, none⟩ = some (.int .i64 0) := (qg BK210.out 1).trans rfl; have hcz35_2 : w34.cell? ⟨gb210, 2, none⟩ = some (.slice none 0 0) := (qg BK210.out 2).trans rfl; have hfz35_0 := qj BK210.out 0; have hfz35_1 := qj BK210.out 1; have hfz35_2 := qj BK210.out 2))
   refine bodyPost_ret (results_ct rfl _ _ gb210 30 #[.int .i64 0, .int .i64 0, .slice none 0 0] (0, 0) _ rfl (by (with_reducible repeat (first | refine qd ?_ _ | refine qf ?_ | refine qc ?_ _)); refine zd (cs := #[.int .i64 0, .int .i64 0, .slice none 0 0]) ?_ 2 _ rfl; (with_reducible repeat (first | refine qd ?_ _ | refine qf ?_ | refine qc ?_ _)); refine zd (cs := #[.int .i64 0, .int .i64 0, .slice none 0 0]) ?_ 1 _ rfl; (with_reducible repeat (first | refine qd ?_ _ | refine qf ?_ | refine qc ?_ _)); refine zd (cs := #[.int .i64 0, .int .i64 0, .slice none 0 0]) ?_ 0 _ rfl; (with_reducible repeat (first | refine qd ?_ _ | refine qf ?_ | refine qc ?_ _)); exact BK210.out) Try.underlying30 rfl (by kernel_rfl)) rfl ?_
   exact ⟨_, by first | rfl | (simp [qu, qt] <;> rfl) | (simp [*, qu, qt] <;> rfl), by first | exact Kd.R_nil _ _ _ _ _ | exact Kd.N_nil _ _ _ _ _ | exact Kd.V_nil _ _ _ _ _ | exact Kd.Q_nil _ _ _ _ _ | exact Kd.S_nil _ _ _ _ _, be3_ HB GE208 GE209 GE210⟩
 ·replace c4 := Bool.eq_false_iff.mpr c4
  subst c4
  have H1 : (some (0, 0, ([] : List (S38)), false)) = some (r1, r2, r3, r4) := by rw [if_neg (show ¬ (false = true) by decide)] at H; exact H
  clear H
  have H := H1
  clear H1
  simp only [Option.some.injEq, Prod.mk.injEq] at H
  obtain ⟨rfl, rfl, rfl, rfl⟩ := H
  go_enter Try.func25, Try.ntmps25
  go_wp2_with (first | ((with_reducible refine qy (N := 2) rfl ?_); refine qx ?hg (N := 2) ?hd (cs := #[.int .i64 a0_0, .int .i64 a0_1, .slice A0_2 l0_2.length c0_2]) (t := 30) ?hr ?_; (case hd => rfl); (case hg => rfl); (case hr => first | (go_simp; done) | (go_simp; rfl)); intro gb208 hg w36 hbox hb; have n0_ := qa.mk (qn (be0_ HB) hb); have n1_ := qa.mk (hbox); have n2_ := qa.mk ((by rw [hg]; exact (qm (be0_ HB)) : w.heap.size ≤ gb208)); have n3_ := qa.mk ((by rw [hg]; exact (qm (be0_ HB)) : w.heap.size ≤ gb208)); clear HB; have HB := n0_; have BK208 := n1_; have GW208 := n2_; have GE208 := n3_; clear n0_ n1_ n2_ n3_; clear hb hbox hg) | ((with_reducible refine qy (N := 3) rfl ?_); refine qx ?hg (N := 3) ?hd (cs := #[.int .i64 a1_0, .int .i64 a1_1, .bool a1_2]) (t := 38) ?hr ?_; (case hd => rfl); (case hg => rfl); (case hr => first | (go_simp; done) | (go_simp; rfl)); intro gb209 hg w37 hbox hb; have n0_ := qa.mk (qk (g := gb208) (o := .cells #[.int .i64 a0_0, .int .i64 a0_1, .slice A0_2 l0_2.length c0_2] 30 (0, 0)) (bk_ BK208) hb); have n1_ := qa.mk (qn (be1_ HB GE208) hb); have n2_ := qa.mk (hbox); have n3_ := qa.mk ((by rw [hg]; exact (qm (be1_ HB GE208)) : w.heap.size ≤ gb209)); have n4_ := qa.mk ((by rw [hg]; exact (qm (be1_ HB GE208)) : w.heap.size ≤ gb209)); have n5_ := qa.mk ((by rw [hg]; exact Nat.ne_of_lt (qr (g := gb208) (o := .cells #[.int .i64 a0_0, .int .i64 a0_1, .slice A0_2 l0_2.length c0_2] 30 (0, 0)) (bk_ BK208)) : gb208 ≠ gb209)); have n6_ := qa.mk ((by rw [hg]; exact Nat.ne_of_gt (qr (g := gb208) (o := .cells #[.int .i64 a0_0, .int .i64 a0_1, .slice A0_2 l0_2.length c0_2] 30 (0, 0)) (bk_ BK208)) : gb209 ≠ gb208)); clear BK208; clear HB; have BK208 := n0_; have HB := n1_; have BK209 := n2_; have GW209 := n3_; have GE209 := n4_; have NB208_209 := n5_; have NB209_208 := n6_; clear n0_ n1_ n2_ n3_ n4_ n5_ n6_; clear hb hbox hg) | ((with_reducible refine qy (N := 4) rfl ?_); refine qx ?hg (N := 4) ?hd (cs := #[.int .i64 0, .int .i64 0, .slice none 0 0]) (t := 30) ?hr ?_; (case hd => rfl); (case hg => rfl); (case hr => first | (go_simp; done) | (go_simp; rfl)); intro gb210 hg w38 hbox hb; have n0_ := qa.mk (qk (g := gb208) (o := .cells #[.int .i64 a0_0, .int .i64 a0_1, .slice A0_2 l0_2.length c0_2] 30 (0, 0)) (bk_ BK208) hb); have n1_ := qa.mk (qk (g := gb209) (o := .cells #[.int .i64 a1_0, .int .i64 a1_1, .bool a1_2] 38 (0, 0)) (bk_ BK209) hb); have n2_ := qa.mk (qn (be2_ HB GE208 GE209) hb); have n3_ := qa.mk (hbox); have n4_ := qa.mk ((by rw [hg]; exact (qm (be2_ HB GE208 GE209)) : w.heap.size ≤ gb210)); have n5_ := qa.mk ((by rw [hg]; exact (qm (be2_ HB GE208 GE209)) : w.heap.size ≤ gb210)); have n6_ := qa.mk ((by rw [hg]; exact Nat.ne_of_lt (qr (g := gb208) (o := .cells #[.int .i64 a0_0, .int .i64 a0_1, .slice A0_2 l0_2.length c0_2] 30 (0, 0)) (bk_ BK208)) : gb208 ≠ gb210)); have n7_ := qa.mk ((by rw [hg]; exact Nat.ne_of_gt (qr (g := gb208) (o := .cells #[.int .i64 a0_0, .int .i64 a0_1, .slice A0_2 l0_2.length c0_2] 30 (0, 0)) (bk_ BK208)) : gb210 ≠ gb208)); have n8_ := qa.mk ((by rw [hg]; exact Nat.ne_of_lt (qr (g := gb209) (o := .cells #[.int .i64 a1_0, .int .i64 a1_1, .bool a1_2] 38 (0, 0)) (bk_ BK209)) : gb209 ≠ gb210)); have n9_ := qa.mk ((by rw [hg]; exact Nat.ne_of_gt (qr (g := gb209) (o := .cells #[.int .i64 a1_0, .int .i64 a1_1, .bool a1_2] 38 (0, 0)) (bk_ BK209)) : gb210 ≠ gb209)); clear BK208; clear BK209; clear HB; have BK208 := n0_; have BK209 := n1_; have HB := n2_; have BK210 := n3_; have GW210 := n4_; have GE210 := n5_; have NB208_210 := n6_; have NB210_208 := n7_; have NB209_210 := n8_; have NB210_209 := n9_; clear n0_ n1_ n2_ n3_ n4_ n5_ n6_ n7_ n8_ n9_; clear hb hbox hg; have hnb39 := NB208_209.out; have hnc39 := NB209_208.out; have hnb40 := NB208_210.out; have hnc40 := NB210_208.out; have hcz41_0 : w38.cell? ⟨gb208, 0, none⟩ = some (.int .i64 a0_0) := (qg BK208.out 0).trans rfl; have hcz41_1 : w38.cell? ⟨gb208, 1, none⟩ = some (.int .i64 a0_1) := (qg BK208.out 1).trans rfl; have hcz41_2 : w38.cell? ⟨gb208, 2, none⟩ = some (.slice A0_2 l0_2.length c0_2) := (qg BK208.out 2).trans rfl; have hfz41_0 := qj BK208.out 0; have hfz41_1 := qj BK208.out 1; have hfz41_2 := qj BK208.out 2) | ((with_reducible refine zb (f := 70) rfl ?_); refine zj (some 7) rfl rfl Try.func70 (by kernel_rfl) rfl #[.agg #[.int .i64 a0_0, .int .i64 a0_1, .slice A0_2 l0_2.length c0_2]] rfl (by (try simp only [List.map_toArray, List.map_cons, List.map_nil]); first | done | rfl | (simp only [List.length_drop, List.length_take]; rfl)) ?_; (with_reducible refine (impl_IsCity.calls k a0_0 a0_1 _ _ l0_2 false _ ?side1 ?side2 A3.out).mono ?_); (case side1 => repeat (first | exact (Kd.zm HR0_2.out HB.out) | (with_reducible refine Kd.zg ?_ _) | (with_reducible refine Kd.zf ?_ _) | (with_reducible refine Kd.zi ?_))); (case side2 => exact HC0_2.out); rintro e w42 ⟨rfl, hb⟩; refine ⟨_, rfl, ?_⟩; have n0_ := qa.mk (qk (g := gb208) (o := .cells #[.int .i64 a0_0, .int .i64 a0_1, .slice A0_2 l0_2.length c0_2] 30 (0, 0)) (bk_ BK208) hb); have n1_ := qa.mk (qk (g := gb209) (o := .cells #[.int .i64 a1_0, .int .i64 a1_1, .bool a1_2] 38 (0, 0)) (bk_ BK209) hb); have n2_ := qa.mk (qk (g := gb210) (o := .cells #[.int .i64 0, .int .i64 0, .slice none 0 0] 30 (0, 0)) (bk_ BK210) hb); have n3_ := qa.mk (qn (be3_ HB GE208 GE209 GE210) hb); clear BK208; clear BK209; clear BK210; clear HB; have BK208 := n0_; have BK209 := n1_; have BK210 := n2_; have HB := n3_; clear n0_ n1_ n2_ n3_; (try clear hb); (try clear hb2); (try clear hk); (try clear hi); have hnb43 := NB210_209.out; have hnc43 := NB209_210.out; have hcz44_0 : w42.cell? ⟨gb210, 0, none⟩ = some (.int .i64 0) := (qg BK210.out 0).trans rfl; have hcz44_1 : w42.cell? ⟨gb210, 1, none⟩ = some (.int .i64 0) := (qg BK210.out 1).trans rfl; have hcz44_2 : w42.cell? ⟨gb210, 2, none⟩ = some (.slice none 0 0) := (qg BK210.out 2).trans rfl; have hfz44_0 := qj BK210.out 0; have hfz44_1 := qj BK210.out 1; have hfz44_2 := qj BK210.out 2))
  refine bodyPost_ret (results_ct rfl _ _ gb210 30 #[.int .i64 0, .int .i64 0, .slice none 0 0] (0, 0) _ rfl (by (with_reducible repeat (first | refine qd ?_ _ | refine qf ?_ | refine qc ?_ _)); refine zd (cs := #[.int .i64 0, .int .i64 0, .slice none 0 0]) ?_ 2 _ rfl; (with_reducible repeat (first | refine qd ?_ _ | refine qf ?_ | refine qc ?_ _)); refine zd (cs := #[.int .i64 0, .int .i64 0, .slice none 0 0]) ?_ 1 _ rfl; (with_reducible repeat (first | refine qd ?_ _ | refine qf ?_ | refine qc ?_ _)); refine zd (cs := #[.int .i64 0, .int .i64 0, .slice none 0 0]) ?_ 0 _ rfl; (with_reducible repeat (first | refine qd ?_ _ | refine qf ?_ | refine qc ?_ _)); exact BK210.out) Try.underlying30 rfl (by kernel_rfl)) rfl ?_
  exact ⟨_, by first | rfl | (simp [qu, qt] <;> rfl) | (simp [*, qu, qt] <;> rfl), by first | exact Kd.R_nil _ _ _ _ _ | exact Kd.N_nil _ _ _ _ _ | exact Kd.V_nil _ _ _ _ _ | exact Kd.Q_nil _ _ _ _ _ | exact Kd.S_nil _ _ _ _ _, be3_ HB GE208 GE209 GE210⟩
def laws_markBlockS.l0 : Nat → List (S38) → Int → Int → Option (Int × (List (S38)))
 | 0, _, _, _ => none
 | k + 1, x0, x1, x5 => if x5 < (x0.length : Int) then (if 0 ≤ x5 then ((some (x0.set (x5 : Int).toNat (⟨x1, (ql x0 x5).f1, (ql x0 x5).f2⟩ : S38) : List (S38))).bind fun y218 => ((some (y218.set (x5 : Int).toNat (⟨(ql y218 x5).f0, wrap64 (x1 + 1), (ql y218 x5).f2⟩ : S38) : List (S38))).bind fun y219 => (laws_markBlockS.l0 k (y219.set (x5 : Int).toNat (⟨(ql y219 x5).f0, (ql y219 x5).f1, ((Int.tmod (wrap64 ((wrap64 (x1 + 1)) + 1)) 3) == 0)⟩ : S38)) (wrap64 ((wrap64 ((wrap64 (x1 + 1)) + 1)) + 1)) (wrap64 (x5 + 1))))) else (none)) else (some (x1, x0))
def laws_markBlockS.f (k : Nat) (l0 : List (S38)) (a1 : Int) : Option (Int × (List (S38))) := laws_markBlockS.l0 k l0 a1 0
theorem laws_markBlockS.zq : ∀ k, (∀ y0 y1 y2, LeO (laws_markBlockS.l0 k y0 y1 y2) (laws_markBlockS.l0 (k + 1) y0 y1 y2))
 | 0 => fun _ _ _ r h => by simp [laws_markBlockS.l0] at h
 | k + 1 => by
  have ih0 := laws_markBlockS.zq k
  ·intro y0 y1 y2
   unfold laws_markBlockS.l0
   repeat' first
   | (with_reducible exact ih0 _ _ _)
   | (with_reducible exact LeO.refl _)
   | (with_reducible exact LeO.none _)
   | (with_reducible refine LeO.ite ?_ ?_)
   | (with_reducible refine LeO.bind ?_ (fun _ => ?_))
   | exact ih0 _ _ _
   | exact LeO.none _
   | refine LeO.ite ?_ ?_
   | refine LeO.bind ?_ (fun _ => ?_)
theorem laws_markBlockS.mono : ∀ a0 a1 k, LeO (laws_markBlockS.f k a0 a1) (laws_markBlockS.f (k + 1) a0 a1) := by
 intro a0 a1 k
 have ih0 := laws_markBlockS.zq k
 unfold laws_markBlockS.f
 repeat' first
   | (with_reducible exact ih0 _ _ _)
   | (with_reducible exact LeO.refl _)
   | (with_reducible exact LeO.none _)
   | (with_reducible refine LeO.ite ?_ ?_)
   | (with_reducible refine LeO.bind ?_ (fun _ => ?_))
   | exact ih0 _ _ _
   | exact LeO.none _
   | refine LeO.ite ?_ ?_
   | refine LeO.bind ?_ (fun _ => ?_)
set_option maxHeartbeats 8000000 in
set_option maxRecDepth 100000 in
theorem laws_markBlockS.calls (k : Nat) (P0_ : Nat → Prop) (u9000_ : Value) (l0 : List (S38)) (a1 : Int) (r1 : Int) (r2 : List (S38)) (w0 w : World) (hB : Below w0.heap.size w0 w) (ho0 : Kd.R k38 38 w w0.heap.size P0_ u9000_ l0) (h : laws_markBlockS.f k l0 a1 = some (r1, r2)) :
  Calls Try.prog 54 #[u9000_, .int .i64 a1] w fun e w' => e = .returned (.int .i64 r1) ∧ Kd.R k38 38 w' w0.heap.size (fun k_ => (P0_ k_ ∨ w.heap.size ≤ k_)) u9000_ r2 ∧ Below w0.heap.size w0 w' ∧ Kept w w' (fun k_ => P0_ k_) := by
 have HO0 := qa.mk (show Kd.R k38 38 w w0.heap.size (fun k_ => (P0_ k_ ∨ w.heap.size ≤ k_)) u9000_ l0 from Kd.zc ho0 (fun k_ hk => (.inl hk)))
 have HK := qa.mk (Kept.refl w (fun k_ => P0_ k_))
 have HW0 := qa.mk hB.size
 have HB := qa.mk hB
 clear hB
 have H : (laws_markBlockS.l0 k l0 a1 0) = some (r1, r2) := h
 clear h
 have H' := qa.mk H
 clear H
 go_enter Try.func54, Try.ntmps54
 go_wp2
 go_loopg [1, 5] k (fun kq v1 v5 w' => ∃ (x0_1 : List (S38)) (x1_1 : Int) (x5_1 : Int), v1 = .int .i64 x1_1 ∧ v5 = .int .i64 x5_1 ∧ qa (laws_markBlockS.l0 kq x0_1 x1_1 x5_1 = some (r1, r2)) ∧ qa (kq ≤ k) ∧ qa (Kd.R k38 38 w' w0.heap.size (fun k_ => (P0_ k_ ∨ w.heap.size ≤ k_)) u9000_ x0_1) ∧ qa (Kept w w' (fun k_ => P0_ k_)) ∧ qa (Below w0.heap.size w0 w'))
 case atStart => exact ⟨(l0), (a1), (0), (by first | rfl | (simp; done) | (simp [*]; done)), (by first | rfl | (simp; done) | (simp [*]; done)), H', ⟨Nat.le_refl _⟩, ⟨kr_ HO0⟩, ⟨by repeat (first | (with_reducible first | exact HK.out | apply Kept.alloc | apply Kept.drewN | apply Kept.drew) | exact HK.out)⟩, ⟨be0_ HB⟩⟩
 case round =>
  clear H'
  obtain ⟨x0_1, x1_1, x5_1, rfl, rfl, HA, HK1, HO_0, HK, HB⟩ := hrel
  cases gk with
  | zero => exact absurd HA.out (by simp [laws_markBlockS.l0])
  | succ k1 =>
   have H := HA.out
   clear HA
   simp only [laws_markBlockS.l0] at H
   by_cases c3 : x5_1 < (x0_1.length : Int)
   ·rw [if_pos c3] at H
    have c3b0 : decide (x5_1 < (x0_1.length : Int)) = true := decide_eq_true c3
    clear c3
    by_cases c4 : 0 ≤ x5_1
    ·rw [if_pos c4] at H
     have c4b0 : decide (0 ≤ x5_1) = true := decide_eq_true c4
     clear c4
     obtain ⟨y218, hy218⟩ : ∃ y_ : List (S38), y_ = (x0_1.set (x5_1 : Int).toNat (⟨x1_1, (ql x0_1 x5_1).f1, (ql x0_1 x5_1).f2⟩ : S38)) := ⟨_, rfl⟩
     replace H : ((some (y218.set (x5_1 : Int).toNat (⟨(ql y218 x5_1).f0, wrap64 (x1_1 + 1), (ql y218 x5_1).f2⟩ : S38) : List (S38))).bind fun y219 => (laws_markBlockS.l0 k1 (y219.set (x5_1 : Int).toNat (⟨(ql y219 x5_1).f0, (ql y219 x5_1).f1, ((Int.tmod (wrap64 ((wrap64 (x1_1 + 1)) + 1)) 3) == 0)⟩ : S38)) (wrap64 ((wrap64 ((wrap64 (x1_1 + 1)) + 1)) + 1)) (wrap64 (x5_1 + 1)))) = some (r1, r2) := by first | (rw [hy218]; with_reducible exact H) | (have H2_ := (Option.bind_some _ _).symm.trans H; rw [hy218]; with_reducible exact H2_) | (have H2_ := (Option.bind_some _ _).symm.trans H; with_reducible exact H2_) | with_reducible exact H | (rw [hy218]; exact H) | exact H
     have Ny218 := qa.mk hy218
     clear hy218
     obtain ⟨y219, hy219⟩ : ∃ y_ : List (S38), y_ = (y218.set (x5_1 : Int).toNat (⟨(ql y218 x5_1).f0, wrap64 (x1_1 + 1), (ql y218 x5_1).f2⟩ : S38)) := ⟨_, rfl⟩
     replace H : (laws_markBlockS.l0 k1 (y219.set (x5_1 : Int).toNat (⟨(ql y219 x5_1).f0, (ql y219 x5_1).f1, ((Int.tmod (wrap64 ((wrap64 (x1_1 + 1)) + 1)) 3) == 0)⟩ : S38)) (wrap64 ((wrap64 ((wrap64 (x1_1 + 1)) + 1)) + 1)) (wrap64 (x5_1 + 1))) = some (r1, r2) := by first | (rw [hy219]; with_reducible exact H) | (have H2_ := (Option.bind_some _ _).symm.trans H; rw [hy219]; with_reducible exact H2_) | (have H2_ := (Option.bind_some _ _).symm.trans H; with_reducible exact H2_) | with_reducible exact H | (rw [hy219]; exact H) | exact H
     have Ny219 := qa.mk hy219
     clear hy219
     obtain ⟨y220, hy220⟩ : ∃ y_ : List (S38), y_ = (y219.set (x5_1 : Int).toNat (⟨(ql y219 x5_1).f0, (ql y219 x5_1).f1, ((Int.tmod (wrap64 ((wrap64 (x1_1 + 1)) + 1)) 3) == 0)⟩ : S38)) := ⟨_, rfl⟩
     replace H : (laws_markBlockS.l0 k1 y220 (wrap64 ((wrap64 ((wrap64 (x1_1 + 1)) + 1)) + 1)) (wrap64 (x5_1 + 1))) = some (r1, r2) := by first | (rw [hy220]; with_reducible exact H) | (have H2_ := (Option.bind_some _ _).symm.trans H; rw [hy220]; with_reducible exact H2_) | (have H2_ := (Option.bind_some _ _).symm.trans H; with_reducible exact H2_) | with_reducible exact H | (rw [hy220]; exact H) | exact H
     have Ny220 := qa.mk hy220
     clear hy220
     have H' := qa.mk H
     clear H
     obtain ⟨Ao8, co8, eo8⟩ := Kd.zr HO_0.out
     subst eo8
     have p5 : 0 ≤ (x5_1 : Int) := of_decide_eq_true (by first | (with_reducible assumption) | assumption)
     have q5 : (x5_1 : Int) < ((x0_1.length : Int) : Int) := of_decide_eq_true (by first | (with_reducible assumption) | assumption)
     obtain ⟨go5, co5, eo5, gb5, gl5, cl5, HG5⟩ := Kd.R_form HO_0.out (by omega)
     (first | cases eo5 | (injection eo5 with ea_ en_ ec_; (first | subst ea_ | (injection ea_ with ea_; subst ea_)); subst ec_; clear en_))
     have GB5 := qa.mk gb5
     have GG5 := qa.mk HG5
     clear gb5 gl5 HG5
     have HMgo5 := qa.mk (show (P0_ go5 ∨ w.heap.size ≤ go5) from (HO_0.out.1 _ rfl))
     obtain ⟨ce5, hcl5, hM5, hcc5, hfr5⟩ := Kd.R_elem HO_0.out z38 (x5_1 : Int) p5 q5
     obtain rfl := k38_openM hM5
     have hx5_0 : wr.cell? ⟨go5, (x5_1 : Int).toNat * 3, none⟩ = some (.int .i64 ((ql x0_1 x5_1).f0)) := hcc5 0 _ rfl
     have hx5_1 : wr.cell? ⟨go5, (x5_1 : Int).toNat * 3 + 1, none⟩ = some (.int .i64 ((ql x0_1 x5_1).f1)) := hcc5 1 _ rfl
     have hx5_2 : wr.cell? ⟨go5, (x5_1 : Int).toNat * 3 + 2, none⟩ = some (.bool ((ql x0_1 x5_1).f2)) := hcc5 2 _ rfl
     have hf5_0 : wr.frozen? ⟨go5, (x5_1 : Int).toNat * 3, none⟩ = false := hfr5 0
     have hf5_1 : wr.frozen? ⟨go5, (x5_1 : Int).toNat * 3 + 1, none⟩ = false := hfr5 1
     have hf5_2 : wr.frozen? ⟨go5, (x5_1 : Int).toNat * 3 + 2, none⟩ = false := hfr5 2
     (try clear hM5); clear hcl5 hcc5 hfr5
     replace p5 := eq_true p5
     replace q5 := eq_true q5
     have HX9 := qa.mk (show Kd.R k38 38 wr w0.heap.size (fun k_ => (P0_ k_ ∨ w.heap.size ≤ k_)) (.slice (some ⟨go5, 0, none⟩) x0_1.length co8) x0_1 from (kr_ HO_0))
     obtain ⟨ce9, hcl9, hM9, hcc9, hfr9⟩ := Kd.R_elem HX9.out z38 (x5_1 : Int) (of_decide_eq_true (by first | (with_reducible assumption) | assumption)) (by have h_ : (x5_1 : Int) < ((x0_1.length : Int) : Int) := of_decide_eq_true (by first | (with_reducible assumption) | assumption); first | exact h_ | (have e_ := (Kd.za HO_0.out).1; omega) | simpa using h_)
     obtain rfl := k38_openM hM9
     have HP9 := Kd.R_seg HX9.out (x5_1 : Int) (of_decide_eq_true (by first | (with_reducible assumption) | assumption)) (by have h_ : (x5_1 : Int) < ((x0_1.length : Int) : Int) := of_decide_eq_true (by first | (with_reducible assumption) | assumption); first | exact h_ | (have e_ := (Kd.za HO_0.out).1; omega) | simpa using h_) (seg := [.int .i64 x1_1]) (j := 0) hcl9 hcc9 (show 1 ≤ 3 from by decide) (x' := (⟨x1_1, (ql x0_1 x5_1).f1, (ql x0_1 x5_1).f2⟩ : S38)) (k38_mkM _ _ _ (⟨x1_1, (ql x0_1 x5_1).f1, (ql x0_1 x5_1).f2⟩ : S38) ) (fun _ hk => hk)
     have hx9_0 := hcc9 0 _ rfl
     (try simp only [show (k38).sz = 3 from rfl, Nat.mul_one, Nat.add_zero] at hx9_0)
     have hf9_0 := hfr9 0
     (try simp only [show (k38).sz = 3 from rfl, Nat.mul_one, Nat.add_zero] at hf9_0)
     (try clear hM9); clear hcl9 hcc9 hfr9
     go_wp2_with (first | ((with_reducible refine gate_store (t := 3) (p := 16) rfl ?_); refine store_event (t := 3) (p := 16) (v := ?vo_w10) (w1 := (wr.setCell ⟨go5, (x5_1 : Int).toNat * 3, none⟩ (.int .i64 x1_1))) ?hg ?ho ?hn ?hr ?_; (case ho => rfl); (case hg => rfl); (case hn => rfl); (case hr => first | (go_simp; done) | (go_simp; rfl)); intro w10 hw; have hg : wr.grownBy w10 (some go5) := (by rw [hw]; exact HP9.2); have hp_ : Kd.R k38 38 w10 w0.heap.size (fun k_ => (P0_ k_ ∨ w.heap.size ≤ k_)) (.slice (some ⟨go5, 0, none⟩) x0_1.length co8) y218 := (by rw [hw, Ny218.out]; exact HP9.1); clear HP9; have n0_ := qa.mk (hp_); have n1_ := qa.mk ((by rw [hw]; exact qb (HB.out) GB5.out : Below w0.heap.size w0 w10)); have n2_ := qa.mk (Kept.of_grown (S := (fun k_ => P0_ k_)) hg (by repeat (first | (with_reducible first | exact HK.out | apply Kept.alloc | apply Kept.drewN | apply Kept.drew) | exact HK.out)) (fun k_ e_ => (HO_0.out.1 k_ e_))); clear HO_0; clear HB; clear HK; have HO_0 := n0_; have HB := n1_; have HK := n2_; clear n0_ n1_ n2_; clear hg hw hp_; have p6 : 0 ≤ (x5_1 : Int) := of_decide_eq_true (by first | (with_reducible assumption) | assumption); have q6 : (x5_1 : Int) < ((x0_1.length : Int) : Int) := of_decide_eq_true (by first | (with_reducible assumption) | assumption); obtain ⟨ce6, hcl6, hM6, hcc6, hfr6⟩ := Kd.R_elem HO_0.out z38 (x5_1 : Int) p6 q6; obtain rfl := k38_openM hM6; have hx6_0 : w10.cell? ⟨go5, (x5_1 : Int).toNat * 3, none⟩ = some (.int .i64 ((ql y218 x5_1).f0)) := hcc6 0 _ rfl; have hx6_1 : w10.cell? ⟨go5, (x5_1 : Int).toNat * 3 + 1, none⟩ = some (.int .i64 ((ql y218 x5_1).f1)) := hcc6 1 _ rfl; have hx6_2 : w10.cell? ⟨go5, (x5_1 : Int).toNat * 3 + 2, none⟩ = some (.bool ((ql y218 x5_1).f2)) := hcc6 2 _ rfl; have hf6_0 : w10.frozen? ⟨go5, (x5_1 : Int).toNat * 3, none⟩ = false := hfr6 0; have hf6_1 : w10.frozen? ⟨go5, (x5_1 : Int).toNat * 3 + 1, none⟩ = false := hfr6 1; have hf6_2 : w10.frozen? ⟨go5, (x5_1 : Int).toNat * 3 + 2, none⟩ = false := hfr6 2; (try clear hM6); clear hcl6 hcc6 hfr6; replace p6 := eq_true p6; replace q6 := eq_true q6; have HX11 := qa.mk (show Kd.R k38 38 w10 w0.heap.size (fun k_ => (P0_ k_ ∨ w.heap.size ≤ k_)) (.slice (some ⟨go5, 0, none⟩) x0_1.length co8) y218 from (kr_ HO_0)); obtain ⟨ce11, hcl11, hM11, hcc11, hfr11⟩ := Kd.R_elem HX11.out z38 (x5_1 : Int) (of_decide_eq_true (by first | (with_reducible assumption) | assumption)) (by have h_ : (x5_1 : Int) < ((x0_1.length : Int) : Int) := of_decide_eq_true (by first | (with_reducible assumption) | assumption); first | exact h_ | (have e_ := (Kd.za HO_0.out).1; omega) | simpa using h_); obtain rfl := k38_openM hM11; have HP11 := Kd.R_seg HX11.out (x5_1 : Int) (of_decide_eq_true (by first | (with_reducible assumption) | assumption)) (by have h_ : (x5_1 : Int) < ((x0_1.length : Int) : Int) := of_decide_eq_true (by first | (with_reducible assumption) | assumption); first | exact h_ | (have e_ := (Kd.za HO_0.out).1; omega) | simpa using h_) (seg := [.int .i64 (wrap64 (x1_1 + 1))]) (j := 1) hcl11 hcc11 (show 2 ≤ 3 from by decide) (x' := (⟨(ql y218 x5_1).f0, wrap64 (x1_1 + 1), (ql y218 x5_1).f2⟩ : S38)) (k38_mkM _ _ _ (⟨(ql y218 x5_1).f0, wrap64 (x1_1 + 1), (ql y218 x5_1).f2⟩ : S38) ) (fun _ hk => hk); have hx11_1 := hcc11 1 _ rfl; (try simp only [show (k38).sz = 3 from rfl, Nat.mul_one, Nat.add_zero] at hx11_1); have hf11_1 := hfr11 1; (try simp only [show (k38).sz = 3 from rfl, Nat.mul_one, Nat.add_zero] at hf11_1); (try clear hM11); clear hcl11 hcc11 hfr11) | ((with_reducible refine gate_store (t := 3) (p := 23) rfl ?_); refine store_event (t := 3) (p := 23) (v := ?vo_w12) (w1 := (w10.setCell ⟨go5, (x5_1 : Int).toNat * 3 + 1, none⟩ (.int .i64 (wrap64 (x1_1 + 1))))) ?hg ?ho ?hn ?hr ?_; (case ho => rfl); (case hg => rfl); (case hn => rfl); (case hr => first | (go_simp; done) | (go_simp; rfl)); intro w12 hw; have hg : w10.grownBy w12 (some go5) := (by rw [hw]; exact HP11.2); have hp_ : Kd.R k38 38 w12 w0.heap.size (fun k_ => (P0_ k_ ∨ w.heap.size ≤ k_)) (.slice (some ⟨go5, 0, none⟩) x0_1.length co8) y219 := (by rw [hw, Ny219.out]; exact HP11.1); clear HP11; have n0_ := qa.mk (hp_); have n1_ := qa.mk ((by rw [hw]; exact qb (HB.out) GB5.out : Below w0.heap.size w0 w12)); have n2_ := qa.mk (Kept.of_grown (S := (fun k_ => P0_ k_)) hg (by repeat (first | (with_reducible first | exact HK.out | apply Kept.alloc | apply Kept.drewN | apply Kept.drew) | exact HK.out)) (fun k_ e_ => (HO_0.out.1 k_ e_))); clear HO_0; clear HB; clear HK; have HO_0 := n0_; have HB := n1_; have HK := n2_; clear n0_ n1_ n2_; clear hg hw hp_; have p7 : 0 ≤ (x5_1 : Int) := of_decide_eq_true (by first | (with_reducible assumption) | assumption); have q7 : (x5_1 : Int) < ((x0_1.length : Int) : Int) := of_decide_eq_true (by first | (with_reducible assumption) | assumption); obtain ⟨ce7, hcl7, hM7, hcc7, hfr7⟩ := Kd.R_elem HO_0.out z38 (x5_1 : Int) p7 q7; obtain rfl := k38_openM hM7; have hx7_0 : w12.cell? ⟨go5, (x5_1 : Int).toNat * 3, none⟩ = some (.int .i64 ((ql y219 x5_1).f0)) := hcc7 0 _ rfl; have hx7_1 : w12.cell? ⟨go5, (x5_1 : Int).toNat * 3 + 1, none⟩ = some (.int .i64 ((ql y219 x5_1).f1)) := hcc7 1 _ rfl; have hx7_2 : w12.cell? ⟨go5, (x5_1 : Int).toNat * 3 + 2, none⟩ = some (.bool ((ql y219 x5_1).f2)) := hcc7 2 _ rfl; have hf7_0 : w12.frozen? ⟨go5, (x5_1 : Int).toNat * 3, none⟩ = false := hfr7 0; have hf7_1 : w12.frozen? ⟨go5, (x5_1 : Int).toNat * 3 + 1, none⟩ = false := hfr7 1; have hf7_2 : w12.frozen? ⟨go5, (x5_1 : Int).toNat * 3 + 2, none⟩ = false := hfr7 2; (try clear hM7); clear hcl7 hcc7 hfr7; replace p7 := eq_true p7; replace q7 := eq_true q7; have HX13 := qa.mk (show Kd.R k38 38 w12 w0.heap.size (fun k_ => (P0_ k_ ∨ w.heap.size ≤ k_)) (.slice (some ⟨go5, 0, none⟩) x0_1.length co8) y219 from (kr_ HO_0)); obtain ⟨ce13, hcl13, hM13, hcc13, hfr13⟩ := Kd.R_elem HX13.out z38 (x5_1 : Int) (of_decide_eq_true (by first | (with_reducible assumption) | assumption)) (by have h_ : (x5_1 : Int) < ((x0_1.length : Int) : Int) := of_decide_eq_true (by first | (with_reducible assumption) | assumption); first | exact h_ | (have e_ := (Kd.za HO_0.out).1; omega) | simpa using h_); obtain rfl := k38_openM hM13; have HP13 := Kd.R_seg HX13.out (x5_1 : Int) (of_decide_eq_true (by first | (with_reducible assumption) | assumption)) (by have h_ : (x5_1 : Int) < ((x0_1.length : Int) : Int) := of_decide_eq_true (by first | (with_reducible assumption) | assumption); first | exact h_ | (have e_ := (Kd.za HO_0.out).1; omega) | simpa using h_) (seg := [.bool ((Int.tmod (wrap64 ((wrap64 (x1_1 + 1)) + 1)) 3) == 0)]) (j := 2) hcl13 hcc13 (show 3 ≤ 3 from by decide) (x' := (⟨(ql y219 x5_1).f0, (ql y219 x5_1).f1, ((Int.tmod (wrap64 ((wrap64 (x1_1 + 1)) + 1)) 3) == 0)⟩ : S38)) (k38_mkM _ _ _ (⟨(ql y219 x5_1).f0, (ql y219 x5_1).f1, ((Int.tmod (wrap64 ((wrap64 (x1_1 + 1)) + 1)) 3) == 0)⟩ : S38) ) (fun _ hk => hk); have hx13_2 := hcc13 2 _ rfl; (try simp only [show (k38).sz = 3 from rfl, Nat.mul_one, Nat.add_zero] at hx13_2); have hf13_2 := hfr13 2; (try simp only [show (k38).sz = 3 from rfl, Nat.mul_one, Nat.add_zero] at hf13_2); (try clear hM13); clear hcl13 hcc13 hfr13) | ((with_reducible refine gate_store (t := 4) (p := 32) rfl ?_); refine store_event (t := 4) (p := 32) (v := ?vo_w14) (w1 := (w12.setCell ⟨go5, (x5_1 : Int).toNat * 3 + 2, none⟩ (.bool ((Int.tmod (wrap64 ((wrap64 (x1_1 + 1)) + 1)) 3) == 0)))) ?hg ?ho ?hn ?hr ?_; (case ho => rfl); (case hg => rfl); (case hn => rfl); (case hr => first | (go_simp; done) | (go_simp; rfl)); intro w14 hw; have hg : w12.grownBy w14 (some go5) := (by rw [hw]; exact HP13.2); have hp_ : Kd.R k38 38 w14 w0.heap.size (fun k_ => (P0_ k_ ∨ w.heap.size ≤ k_)) (.slice (some ⟨go5, 0, none⟩) x0_1.length co8) y220 := (by rw [hw, Ny220.out]; exact HP13.1); clear HP13; have n0_ := qa.mk (hp_); have n1_ := qa.mk ((by rw [hw]; exact qb (HB.out) GB5.out : Below w0.heap.size w0 w14)); have n2_ := qa.mk (Kept.of_grown (S := (fun k_ => P0_ k_)) hg (by repeat (first | (with_reducible first | exact HK.out | apply Kept.alloc | apply Kept.drewN | apply Kept.drew) | exact HK.out)) (fun k_ e_ => (HO_0.out.1 k_ e_))); clear HO_0; clear HB; clear HK; have HO_0 := n0_; have HB := n1_; have HK := n2_; clear n0_ n1_ n2_; clear hg hw hp_))
     go_roundg k1
     case measure => have := HK1.out; omega
     case rel => exact ⟨(y220), (wrap64 ((wrap64 ((wrap64 (x1_1 + 1)) + 1)) + 1)), (wrap64 (x5_1 + 1)), (by first | rfl | (simp; done) | (simp [*]; done)), (by first | rfl | (simp; done) | (simp [*]; done)), H', ⟨by have := HK1.out; omega⟩, ⟨kr_ HO_0⟩, ⟨by repeat (first | (with_reducible first | exact HK.out | apply Kept.alloc | apply Kept.drewN | apply Kept.drew) | exact HK.out)⟩, ⟨be0_ HB⟩⟩
    ·rw [if_neg c4] at H
     exact absurd H (by simp)
   ·rw [if_neg c3] at H
    have c3b0 : decide (x5_1 < (x0_1.length : Int)) = false := decide_eq_false c3
    clear c3
    simp only [Option.some.injEq, Prod.mk.injEq] at H
    obtain ⟨rfl, rfl⟩ := H
    obtain ⟨Ao15, co15, eo15⟩ := Kd.zr HO_0.out
    subst eo15
    go_wp2
    go_ret
    exact ⟨by first | rfl | (simp [qu, qt] <;> rfl) | (simp [*, qu, qt] <;> rfl), kr_ HO_0, be0_ HB, by repeat (first | (with_reducible first | exact HK.out | apply Kept.alloc | apply Kept.drewN | apply Kept.drew) | exact HK.out)⟩
def laws_markCity.f (k : Nat) (a0_0 : Int) (a0_1 : Int) (l0_2 : List (S38)) (a1 : Int) : Option (Int × (List (S38))) := (laws_markBlockS.f k l0_2 a1).bind fun bt222 => (some (bt222.1, bt222.2))
theorem laws_markCity.mono : ∀ a0 a1 a2 a3 k, LeO (laws_markCity.f k a0 a1 a2 a3) (laws_markCity.f (k + 1) a0 a1 a2 a3) := by
 intro a0 a1 a2 a3 k
 unfold laws_markCity.f
 repeat' first
   | (with_reducible exact laws_markBlockS.mono _ _ _)
   | (with_reducible exact LeO.refl _)
   | (with_reducible exact LeO.none _)
   | (with_reducible refine LeO.ite ?_ ?_)
   | (with_reducible refine LeO.bind ?_ (fun _ => ?_))
   | exact laws_markBlockS.mono _ _ _
   | exact LeO.none _
   | refine LeO.ite ?_ ?_
   | refine LeO.bind ?_ (fun _ => ?_)
set_option maxHeartbeats 8000000 in
set_option maxRecDepth 100000 in
theorem laws_markCity.calls (k : Nat) (a0_0 : Int) (a0_1 : Int) (P0_2_ : Nat → Prop) (u9000_ : Value) (l0_2 : List (S38)) (a1 : Int) (r1 : Int) (r2 : List (S38)) (w0 w : World) (hB : Below w0.heap.size w0 w) (ho0_2 : Kd.R k38 38 w w0.heap.size P0_2_ u9000_ l0_2) (h : laws_markCity.f k a0_0 a0_1 l0_2 a1 = some (r1, r2)) :
  Calls Try.prog 26 #[.agg #[.int .i64 a0_0, .int .i64 a0_1, u9000_], .int .i64 a1] w fun e w' => e = .returned (.int .i64 r1) ∧ Kd.R k38 38 w' w0.heap.size (fun k_ => (P0_2_ k_ ∨ w.heap.size ≤ k_)) u9000_ r2 ∧ Below w0.heap.size w0 w' ∧ Kept w w' (fun k_ => P0_2_ k_) := by
 have hu30 := Try.underlying30
 have HO0_2 := qa.mk (show Kd.R k38 38 w w0.heap.size (fun k_ => (P0_2_ k_ ∨ w.heap.size ≤ k_)) u9000_ l0_2 from Kd.zc ho0_2 (fun k_ hk => (.inl hk)))
 have HK := qa.mk (Kept.refl w (fun k_ => P0_2_ k_))
 have HW0 := qa.mk hB.size
 have HB := qa.mk hB
 clear hB
 have H : ((laws_markBlockS.f k l0_2 a1).bind fun bt222 => (some (bt222.1, bt222.2))) = some (r1, r2) := h
 clear h
 replace H := Option.bind_eq_some_iff.mp H
 obtain ⟨⟨t222, t223⟩, A30, H⟩ := H
 replace H : (some (t222, t223)) = some (r1, r2) := H
 have A3 := qa.mk A30
 clear A30
 simp only [Option.some.injEq, Prod.mk.injEq] at H
 obtain ⟨rfl, rfl⟩ := H
 obtain ⟨Ao4, co4, eo4⟩ := Kd.zr HO0_2.out
 subst eo4
 go_enter Try.func26, Try.ntmps26
 go_wp2_with (first | ((with_reducible refine qy (N := 2) rfl ?_); refine qx ?hg (N := 2) ?hd (cs := #[.int .i64 a0_0, .int .i64 a0_1, .slice Ao4 l0_2.length co4]) (t := 30) ?hr ?_; (case hd => rfl); (case hg => rfl); (case hr => first | (go_simp; done) | (go_simp; rfl)); intro gb221 hg w5 hbox hb; have n0_ := qa.mk (Kd.qz (kr_ HO0_2) hb); have n1_ := qa.mk (Kept.below (S := (fun k_ => P0_2_ k_)) (by repeat (first | (with_reducible first | exact HK.out | apply Kept.alloc | apply Kept.drewN | apply Kept.drew) | exact HK.out)) hb); have n2_ := qa.mk (qn (be0_ HB) hb); have n3_ := qa.mk (hbox); have n4_ := qa.mk ((by rw [hg]; exact (by first | exact HK.out.1 | exact (show Kept w _ (fun k_ => P0_2_ k_) from by repeat (first | (with_reducible first | exact HK.out | apply Kept.alloc | apply Kept.drewN | apply Kept.drew) | exact HK.out)).1) : w.heap.size ≤ gb221)); have n5_ := qa.mk ((by rw [hg]; exact (qm (be0_ HB)) : w0.heap.size ≤ gb221)); clear HO0_2; clear HK; clear HB; have HO0_2 := n0_; have HK := n1_; have HB := n2_; have BK221 := n3_; have GW221 := n4_; have GE221 := n5_; clear n0_ n1_ n2_ n3_ n4_ n5_; clear hb hbox hg; have hcz6_0 : w5.cell? ⟨gb221, 0, none⟩ = some (.int .i64 a0_0) := (qg BK221.out 0).trans rfl; have hcz6_1 : w5.cell? ⟨gb221, 1, none⟩ = some (.int .i64 a0_1) := (qg BK221.out 1).trans rfl; have hcz6_2 : w5.cell? ⟨gb221, 2, none⟩ = some (.slice Ao4 l0_2.length co4) := (qg BK221.out 2).trans rfl; have hfz6_0 := qj BK221.out 0; have hfz6_1 := qj BK221.out 1; have hfz6_2 := qj BK221.out 2) | ((with_reducible refine zb (f := 54) rfl ?_); refine zj (some 8) rfl rfl Try.func54 (by kernel_rfl) rfl #[.slice Ao4 l0_2.length co4, .int .i64 a1] rfl (by (try simp only [List.map_toArray, List.map_cons, List.map_nil]); first | done | rfl | (simp only [List.length_drop, List.length_take]; rfl)) ?_; (with_reducible refine (laws_markBlockS.calls k (fun k_ => some k_ = (.slice Ao4 l0_2.length co4 : Value).ownBlock) (.slice Ao4 l0_2.length co4) l0_2 a1 t222 t223 w0 _ ?side1 ?side2 A3.out).mono ?_); (case side1 => repeat (first | (with_reducible first | exact HB.out | apply qi | apply qe | apply qh | refine qb ?_ GE221.out) | exact HB.out)); (case side2 => exact Kd.R_tight rfl HO0_2.out); rintro e w7 ⟨rfl, hy0, hb, hkp⟩; refine ⟨_, rfl, ?_⟩; have n0_ := qa.mk (Kd.R_reok rfl hy0 (fun k_ e_ => HO0_2.out.1 k_ e_)); have n1_ := qa.mk (zv (bk_ BK221) hkp (fun hs_ => (fun e_ => (Kd.R_ne HO0_2.out BK221.out (by decide)) e_) hs_)); have n2_ := qa.mk (Kept.then_ (S := (fun k_ => P0_2_ k_)) (by repeat (first | (with_reducible first | exact HK.out | apply Kept.alloc | apply Kept.drewN | apply Kept.drew | refine Kept.setCell ?_ (.inr GW221.out) _) | exact HK.out)) hkp (fun k_ hs_ => (fun e_ => (HO0_2.out.1 k_ e_.symm)) hs_)); have n3_ := qa.mk (hb); clear HO0_2; clear BK221; clear HK; clear HB; have HO0_2 := n0_; have BK221 := n1_; have HK := n2_; have HB := n3_; clear n0_ n1_ n2_ n3_; (try clear hb); (try clear hkp); (try clear hy0)))
 go_ret
 exact ⟨by first | rfl | (simp [qu, qt] <;> rfl) | (simp [*, qu, qt] <;> rfl), kr_ HO0_2, be1_ HB GE221, by repeat (first | (with_reducible first | exact HK.out | apply Kept.alloc | apply Kept.drewN | apply Kept.drew | refine Kept.setCell ?_ (.inr GW221.out) _) | exact HK.out)⟩
end Go.Proofs.Ytohpaddcfcgmbaa.PFnExactOpenBlock
