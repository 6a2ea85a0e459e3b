/- Cut by wip/cut.py out of the texts of this claim (printed by the kit's printer, or this session's own): what the row's theorem does not reach is struck. Not trusted: Lean checks it. -/
import Derived.Test.YtpedofomfhmnfaaZFnExactFirstShortestWayPx0
import Derived.Test.YtpedofomfhmnfaaZFnExactFirstShortestWayPx9
import Derived.Test.YtpedofomfhmnfaaZFnExactFirstShortestWayPx10
import Derived.Test.YtpedofomfhmnfaaZFnExactFirstShortestWayPx11
namespace Go.Proofs.Ytpedofomfhmnfaa.PFnExactFirstShortestWay
open Go.RowKit Go.Proofs.YtpedofomfhmnfaaW.PrintWords Go.Proofs.YtpedofomfhmnfaaW.PrintLast Go.Proofs.YtpedofomfhmnfaaW.PrintMore
attribute [local go_sem] max2_int min2_int max_two min_two max_three min_three max_four min_four
set_option linter.unusedVariables false
set_option linter.unusedSimpArgs false
def impl_distanceIn.f (k : Nat) (a0_0 : Int) (a0_1 : Int) (l0_2 : List (S58)) (l1 : List Int) (l2 : List Int) : Option (Int × Bool) := (impl_distancesTo.f k a0_0 a0_1 l0_2 l2).bind fun t241 => (if 0 < (l1.length : Int) then (if 0 ≤ (rd l1 0) then (if (rd l1 0) < (t241.length : Int) then (if 1 < (l1.length : Int) then (if 0 ≤ (rd l1 1) then (if (rd l1 1) < ((rd_L6 t241 (rd l1 0)).length : Int) then (some (mx 0 (rd (rd_L6 t241 (rd l1 0)) (rd l1 1)), decide ((rd (rd_L6 t241 (rd l1 0)) (rd l1 1)) ≥ 0))) else (none)) else (none)) else (none)) else (none)) else (none)) else (none))
theorem impl_distanceIn.mono : ∀ a0 a1 a2 a3 a4 k, LeO (impl_distanceIn.f k a0 a1 a2 a3 a4) (impl_distanceIn.f (k + 1) a0 a1 a2 a3 a4) := fun a0 a1 a2 a3 a4 k => LeO.bind (impl_distancesTo.mono _ _ _ _ _) (fun _ => LeO.refl _)
theorem impl_distanceIn.parts {g : List (List Int)} {l1 : List Int} {r1 : Int} {r2 : Bool} (h : (if 0 < (l1.length : Int) then (if 0 ≤ (rd l1 0) then (if (rd l1 0) < (g.length : Int) then (if 1 < (l1.length : Int) then (if 0 ≤ (rd l1 1) then (if (rd l1 1) < ((rd_L6 g (rd l1 0)).length : Int) then (some (mx 0 (rd (rd_L6 g (rd l1 0)) (rd l1 1)), decide ((rd (rd_L6 g (rd l1 0)) (rd l1 1)) ≥ 0))) else (none)) else (none)) else (none)) else (none)) else (none)) else (none)) = some (r1, r2)) :
  ∃ i j : Nat, rd l1 0 = (i : Int) ∧ rd l1 1 = (j : Int) ∧ i < g.length ∧ 1 < l1.length ∧ j < (g.getD i []).length ∧ r1 = mx 0 (rd (g.getD i []) (j : Int)) ∧ r2 = decide (0 ≤ rd (g.getD i []) (j : Int)) := by
 by_cases c1 : 0 < (l1.length : Int)
 ·rw [if_pos c1] at h
  by_cases c2 : 0 ≤ rd l1 0
  ·rw [if_pos c2] at h
   by_cases c3 : rd l1 0 < (g.length : Int)
   ·rw [if_pos c3] at h
    by_cases c4 : 1 < (l1.length : Int)
    ·rw [if_pos c4] at h
     by_cases c5 : 0 ≤ rd l1 1
     ·rw [if_pos c5] at h
      by_cases c6 : rd l1 1 < ((rd_L6 g (rd l1 0)).length : Int)
      ·rw [if_pos c6] at h
       simp only [Option.some.injEq, Prod.mk.injEq] at h
       obtain ⟨i, hi⟩ : ∃ n : Nat, rd l1 0 = (n : Int) := ⟨(rd l1 0).toNat, by omega⟩
       obtain ⟨j, hj⟩ : ∃ n : Nat, rd l1 1 = (n : Int) := ⟨(rd l1 1).toNat, by omega⟩
       rw [hi, hj] at h c6
       rw [hi] at c3
       have c7 : (j : Int) < ((g.getD i []).length : Int) := c6
       exact ⟨i, j, hi, hj, by omega, by omega, by omega, h.1.symm, h.2.symm⟩
      ·rw [if_neg c6] at h; cases h
     ·rw [if_neg c5] at h; cases h
    ·rw [if_neg c4] at h; cases h
   ·rw [if_neg c3] at h; cases h
  ·rw [if_neg c2] at h; cases h
 ·rw [if_neg c1] at h; cases h
set_option maxHeartbeats 4000000 in
set_option maxRecDepth 100000 in
theorem impl_distanceIn.calls (k : Nat) (a0_0 : Int) (a0_1 : Int) (A0_2 : Option Addr) (c0_2 : Nat) (l0_2 : List (S58)) (A1 : Option Addr) (c1 : Nat) (l1 : List Int) (A2 : Option Addr) (c2 : Nat) (l2 : List Int) (r1 : Int) (r2 : Bool) (w : World) (hr0_2 : Kd.C k58 w A0_2 l0_2.length l0_2) (hc0_2 : l0_2.length ≤ c0_2) (hr1 : Kd.C (Kd.int .i64) w A1 l1.length l1) (hc1 : l1.length ≤ c1) (hr2 : Kd.C (Kd.int .i64) w A2 l2.length l2) (hc2 : l2.length ≤ c2) (h : impl_distanceIn.f k a0_0 a0_1 l0_2 l1 l2 = some (r1, r2)) :
    Calls Try.prog 45 #[.agg #[.int .i64 a0_0, .int .i64 a0_1, .slice A0_2 l0_2.length c0_2], .slice A1 l1.length c1, .slice A2 l2.length c2] w fun e w' => e = .returned (.tuple #[.int .i64 r1, .bool r2]) ∧ Below w.heap.size w w' := by
  have hu := Try.underlying31
  unfold impl_distanceIn.f at h
  obtain ⟨g, hf, h⟩ := Option.bind_eq_some_iff.mp h
  obtain ⟨i, j, ei, ej, hig, hl1, hjr, rfl, rfl⟩ := impl_distanceIn.parts h
  clear h
  obtain ⟨ad, rfl, hx⟩ := Kd.at_int hr1 0 (by decide) (by omega)
  obtain ⟨ad', e', hy⟩ := Kd.at_int hr1 1 (by decide) (by omega)
  obtain rfl := Option.some.inj e'
  have hx0 : w.cell? ad = some (.int .i64 (i : Int)) := by
    have h0 : w.cell? (ad.add 0) = some (.int .i64 (rd l1 0)) := hx
    rw [ei] at h0
    rwa [show ad.add 0 = ad by simp [Addr.add]] at h0
  have hy0 : w.cell? ⟨ad.block, ad.off + 1, none⟩ = some (.int .i64 (j : Int)) := by
    have h0 : w.cell? (ad.add 1) = some (.int .i64 (rd l1 1)) := hy
    rw [ej] at h0
    rwa [show ad.add 1 = ⟨ad.block, ad.off + 1, none⟩ by simp [Addr.add]] at h0
  clear hx hy ei ej
  obtain ⟨R, hR⟩ : ∃ R, rd (g.getD i []) (j : Int) = R := ⟨_, rfl⟩
  have P1 : 1 < l1.length := hl1
  have P2 : (1 : Int) < (l1.length : Int) := by omega
  have P3 : (1 : Int) ≤ (l1.length : Int) := by omega
  have P4 : (0 : Int) < (l1.length : Int) := by omega
  have P0 : 0 < l1.length := by omega
  obtain ⟨gn, hgn⟩ : ∃ gn, g.length = gn := ⟨_, rfl⟩
  obtain ⟨rn, hrn⟩ : ∃ rn, (g.getD i []).length = rn := ⟨_, rfl⟩
  have Q1 : (i : Int) < (gn : Int) := by omega
  have Q2 : i < gn := by omega
  have Q3 : (0 : Int) ≤ (i : Int) := by omega
  have Q6 : (j : Int) < (rn : Int) := by omega
  have Q7 : j < rn := by omega
  have Q8 : (0 : Int) ≤ (j : Int) := by omega
  have HF := Lib.hid hf
  have HL := Lib.hid hr0_2
  have HA := Lib.hid hr2
  have HGN := Lib.hid hgn
  have HRN := Lib.hid hrn
  have HRR := Lib.hid hR
  rw [hR]
  clear hf hr0_2 hr2 hr1 hgn hrn hR hl1 hig hjr
  generalize hn1 : l1.length = n1 at *
  clear hn1
  obtain ⟨m, hm, hm2⟩ : ∃ m, mx 0 R = m ∧ ((0 ≤ R ∧ m = R) ∨ (¬ 0 ≤ R ∧ m = 0)) := ⟨_, rfl, by unfold mx; split <;> omega⟩
  rw [hm]
  have HM2 := Lib.hid hm2
  clear hm hm2
  go_enter Try.func45, Try.ntmps45
  go_wp2_with fail
  have HV := Lib.hid (show (w.alloc (.cells #[.int .i64 a0_0, .int .i64 a0_1, .slice A0_2 l0_2.length c0_2] 31)).heap[w.heap.size]? = some (.cells #[.int .i64 a0_0, .int .i64 a0_1, .slice A0_2 l0_2.length c0_2] 31 (0, 0)) from blk_new w _)
  have HB := Lib.hid (below_alloc (Below.refl w.heap.size w) (.cells #[.int .i64 a0_0, .int .i64 a0_1, .slice A0_2 l0_2.length c0_2] 31))
  have hx1 := pw_cell_below HB.out hx0
  have hy1 := pw_cell_below HB.out hy0
  generalize (w.alloc (.cells #[.int .i64 a0_0, .int .i64 a0_1, .slice A0_2 l0_2.length c0_2] 31)) = W1 at HV HB hx1 hy1 ⊢
  obtain ⟨B0, hB0⟩ : ∃ B0, B0 = w.heap.size := ⟨_, rfl⟩
  rw [← hB0] at HV ⊢
  clear hB0 hx0 hy0
  have hcz0 : W1.cell? ⟨B0, 0, none⟩ = some (.int .i64 a0_0) := (blk_cell HV.out 0).trans rfl
  have hcz1 : W1.cell? ⟨B0, 1, none⟩ = some (.int .i64 a0_1) := (blk_cell HV.out 1).trans rfl
  have hcz2 : W1.cell? ⟨B0, 2, none⟩ = some (.slice A0_2 l0_2.length c0_2) := (blk_cell HV.out 2).trans rfl
  refine wp_region_held_drew (S := fun w' => w'.cell? ⟨B0, 0, none⟩ = some (.int .i64 a0_0) ∧ w'.cell? ⟨B0, 1, none⟩ = some (.int .i64 a0_1) ∧ w'.cell? ⟨B0, 2, none⟩ = some (.slice A0_2 l0_2.length c0_2) ∧ w'.cell? ad = some (.int .i64 (i : Int)) ∧ w'.cell? ⟨ad.block, ad.off + 1, none⟩ = some (.int .i64 (j : Int))) (by kernel_rfl) ⟨hcz0, hcz1, hcz2, hx1, hy1⟩ (fun hHeld => ?_)
  refine wpAnyH_take (i := 0) (oi := ?_) (v := ?_) ?_ (by kernel_rfl) (by kernel_rfl) (by kernel_rfl) ?_ (Or.inl ⟨?_, ?_⟩) (by assumption) ?_
  rotate_left 2
  focus ((try simp only [List.getElem?_toArray, List.getElem?_cons_succ, List.getElem?_cons_zero]); (first | done | rfl))
  focus exact (fun _ _ _ h => h)
  focus rfl
  focus (intro w hSw; (try dsimp only at hSw); go_simp; (try with_reducible rfl); done)
  (try simp only [Act.put, List.setIfInBounds_toArray, List.set_cons_zero, List.set_cons_succ])
  refine wpAnyH_take (i := 1) (oi := ?_) (v := ?_) ?_ (by kernel_rfl) (by kernel_rfl) (by kernel_rfl) ?_ (Or.inl ⟨?_, ?_⟩) (by assumption) ?_
  rotate_left 2
  focus ((try simp only [List.getElem?_toArray, List.getElem?_cons_succ, List.getElem?_cons_zero]); (first | done | rfl))
  focus exact (fun _ _ _ h => h)
  focus rfl
  focus (intro w hSw; (try dsimp only at hSw); go_simp; (try with_reducible rfl); done)
  (try simp only [Act.put, List.setIfInBounds_toArray, List.set_cons_zero, List.set_cons_succ])
  refine wpAnyH_take (i := 3) (oi := ?_) (v := ?_) ?_ (by kernel_rfl) (by kernel_rfl) (by kernel_rfl) ?_ (Or.inl ⟨?_, ?_⟩) (by assumption) ?_
  rotate_left 2
  focus ((try simp only [List.getElem?_toArray, List.getElem?_cons_succ, List.getElem?_cons_zero]); (first | done | rfl))
  focus exact (fun _ _ _ h => h)
  focus rfl
  focus (intro w hSw; (try dsimp only at hSw); go_simp; (try with_reducible rfl); done)
  (try simp only [Act.put, List.setIfInBounds_toArray, List.set_cons_zero, List.set_cons_succ])
  refine wpAnyH_take (i := 4) (oi := ?_) (v := ?_) ?_ (by kernel_rfl) (by kernel_rfl) (by kernel_rfl) ?_ (Or.inl ⟨?_, ?_⟩) (by assumption) ?_
  rotate_left 2
  focus ((try simp only [List.getElem?_toArray, List.getElem?_cons_succ, List.getElem?_cons_zero]); (first | done | rfl))
  focus exact (fun _ _ _ h => h)
  focus rfl
  focus (intro w hSw; (try dsimp only at hSw); go_simp; (try with_reducible rfl); done)
  (try simp only [Act.put, List.setIfInBounds_toArray, List.set_cons_zero, List.set_cons_succ])
  refine wpAnyH_take (i := 5) (oi := ?_) (v := ?_) ?_ (by kernel_rfl) (by kernel_rfl) (by kernel_rfl) ?_ (Or.inl ⟨?_, ?_⟩) (by assumption) ?_
  rotate_left 2
  focus ((try simp only [List.getElem?_toArray, List.getElem?_cons_succ, List.getElem?_cons_zero]); (first | done | rfl))
  focus exact (fun _ _ _ h => h)
  focus rfl
  focus (intro w hSw; (try dsimp only at hSw); go_simp; (try with_reducible rfl); done)
  (try simp only [Act.put, List.setIfInBounds_toArray, List.set_cons_zero, List.set_cons_succ])
  refine wpAnyH_take (i := 8) (oi := ?_) (v := ?_) ?_ (by kernel_rfl) (by kernel_rfl) (by kernel_rfl) ?_ (Or.inl ⟨?_, ?_⟩) (by assumption) ?_
  rotate_left 2
  focus ((try simp only [List.getElem?_toArray, List.getElem?_cons_succ, List.getElem?_cons_zero]); (first | done | rfl))
  focus exact (fun _ _ _ h => h)
  focus rfl
  focus (intro w hSw; (try dsimp only at hSw); go_simp; (try with_reducible rfl); done)
  (try simp only [Act.put, List.setIfInBounds_toArray, List.set_cons_zero, List.set_cons_succ])
  refine wpAnyH_take (i := 9) (oi := ?_) (v := ?_) ?_ (by kernel_rfl) (by kernel_rfl) (by kernel_rfl) ?_ (Or.inl ⟨?_, ?_⟩) (by assumption) ?_
  rotate_left 2
  focus ((try simp only [List.getElem?_toArray, List.getElem?_cons_succ, List.getElem?_cons_zero]); (first | done | rfl))
  focus exact (fun _ _ _ h => h)
  focus rfl
  focus (intro w hSw; (try dsimp only at hSw); go_simp; (try with_reducible rfl); done)
  (try simp only [Act.put, List.setIfInBounds_toArray, List.set_cons_zero, List.set_cons_succ])
  refine wpAnyH_take (i := 10) (oi := ?_) (v := ?_) ?_ (by kernel_rfl) (by kernel_rfl) (by kernel_rfl) ?_ (Or.inl ⟨?_, ?_⟩) (by assumption) ?_
  rotate_left 2
  focus ((try simp only [List.getElem?_toArray, List.getElem?_cons_succ, List.getElem?_cons_zero]); (first | done | rfl))
  focus exact (fun _ _ _ h => h)
  focus rfl
  focus (intro w hSw; (try dsimp only at hSw); go_simp; (try with_reducible rfl); done)
  (try simp only [Act.put, List.setIfInBounds_toArray, List.set_cons_zero, List.set_cons_succ])
  refine wpAnyH_ready (rs := [2]) (by kernel_rfl) (by simp) ?_
  refine AllReadyH.cons (o := ?_) ?_ (fun K hK => ?_) AllReadyH.nil
  rotate_left 1
  focus ((try simp only [List.getElem?_toArray, List.getElem?_cons_succ, List.getElem?_cons_zero]); (first | done | rfl))
  go_simp
  (go_at_call 47; refine (impl_distancesTo.calls k a0_0 a0_1 A0_2 c0_2 l0_2 A2 c2 l2 g _ (Kd.C_below HL.out (below_drew HB.out)) hc0_2 (Kd.C_below HA.out (below_drew HB.out)) hc2 HF.out).mono ?_; rintro e w2 ⟨v2, rfl, hS2, hb2⟩)
  obtain ⟨gb, gcap, ev, _, _, _⟩ := Kd.S_form hS2 (by have := HGN.out; omega)
  rw [HGN.out] at ev
  subst ev
  obtain ⟨rb, cp, hrow, _, hcells, _⟩ := impl_distancesTo.grid_row hS2 (i := i) Q2 (by have := HRN.out; omega)
  have hcell := (hcells j (by have := HRN.out; omega)).1
  rw [HRN.out] at hrow
  rw [HRR.out] at hcell
  clear hHeld hcells hS2
  refine hK.out _ _ ⟨pw_cell_below hb2 hcz0, pw_cell_below hb2 hcz1, pw_cell_below hb2 hcz2, pw_cell_below hb2 hx1, pw_cell_below hb2 hy1⟩ (fun hHeld => ?_)
  clear hK K
  (try simp only [Act.put, List.setIfInBounds_toArray, List.set_cons_zero, List.set_cons_succ])
  refine wpAnyH_take (i := 6) (oi := ?_) (v := ?_) ?_ (by kernel_rfl) (by kernel_rfl) (by kernel_rfl) ?_ (Or.inl ⟨?_, ?_⟩) (by assumption) ?_
  rotate_left 2
  focus ((try simp only [List.getElem?_toArray, List.getElem?_cons_succ, List.getElem?_cons_zero]); (first | done | rfl))
  focus exact (fun _ _ _ h => h)
  focus rfl
  focus (intro w hSw; (try dsimp only at hSw); go_simp; (try with_reducible rfl); done)
  (try simp only [Act.put, List.setIfInBounds_toArray, List.set_cons_zero, List.set_cons_succ])
  refine wpAnyH_ready (rs := [7]) (by kernel_rfl) (by simp) ?_
  refine AllReadyH.cons (o := ?_) ?_ (fun K hK => ?_) AllReadyH.nil
  rotate_left 1
  focus ((try simp only [List.getElem?_toArray, List.getElem?_cons_succ, List.getElem?_cons_zero]); (first | done | rfl))
  go_simp
  refine hK.out _ _ hHeld (fun hHeld => ?_)
  clear hK K
  (try simp only [Act.put, List.setIfInBounds_toArray, List.set_cons_zero, List.set_cons_succ])
  refine wpAnyH_take (i := 11) (oi := ?_) (v := ?_) ?_ (by kernel_rfl) (by kernel_rfl) (by kernel_rfl) ?_ (Or.inl ⟨?_, ?_⟩) (by assumption) ?_
  rotate_left 2
  focus ((try simp only [List.getElem?_toArray, List.getElem?_cons_succ, List.getElem?_cons_zero]); (first | done | rfl))
  focus exact (fun _ _ _ h => h)
  focus rfl
  focus (intro w hSw; (try dsimp only at hSw); go_simp; (try with_reducible rfl); done)
  (try simp only [Act.put, List.setIfInBounds_toArray, List.set_cons_zero, List.set_cons_succ])
  refine wpAnyH_ready (rs := [12]) (by kernel_rfl) (by simp) ?_
  refine AllReadyH.cons (o := ?_) ?_ (fun K hK => ?_) AllReadyH.nil
  rotate_left 1
  focus ((try simp only [List.getElem?_toArray, List.getElem?_cons_succ, List.getElem?_cons_zero]); (first | done | rfl))
  go_simp
  refine hK.out _ _ hHeld (fun hHeld => ?_)
  clear hK K
  (try simp only [Act.put, List.setIfInBounds_toArray, List.set_cons_zero, List.set_cons_succ])
  refine wpAnyH_take (i := 13) (oi := ?_) (v := ?_) ?_ (by kernel_rfl) (by kernel_rfl) (by kernel_rfl) ?_ (Or.inl ⟨?_, ?_⟩) (by assumption) ?_
  rotate_left 2
  focus ((try simp only [List.getElem?_toArray, List.getElem?_cons_succ, List.getElem?_cons_zero]); (first | done | rfl))
  focus exact (fun _ _ _ h => h)
  focus rfl
  focus (intro w hSw; (try dsimp only at hSw); go_simp; (try with_reducible rfl); done)
  (try simp only [Act.put, List.setIfInBounds_toArray, List.set_cons_zero, List.set_cons_succ])
  refine wpAnyH_done (by kernel_rfl) ?_ _
  have HBF := Lib.hid (below_then (below_drew HB.out) HB.out.size hb2)
  clear hcz0 hcz1 hcz2 hx1 hy1 hrow hcell hb2 hHeld
  rcases HM2.out with ⟨hr, rfl⟩ | ⟨hr, rfl⟩
  · have t1 : decide (0 ≤ m) = true := decide_eq_true hr
    clear HM2
    go_wp2
    all_goals
      go_ret2
      refine ⟨?_, HBF.out⟩
      first
        | rfl
        | (obtain rfl : m = 0 := by omega
           rfl)
  · have t1 : decide (0 ≤ R) = false := decide_eq_false (by omega)
    clear HM2
    go_wp2
    all_goals
      go_ret2
      refine ⟨?_, HBF.out⟩
      first
        | rfl
        | (rw [decide_eq_false (show ¬ 0 ≤ R by omega)]; rfl)
        | (exfalso; omega)
def impl_nearer.f (k : Nat) (W H : Int) (l : List S58) (ds : List (List Int)) (a : List Int) (s : Int) : Option Bool := (impl_stepIn.can k W H l a s).bind fun t => if t = true then (impl_moved.f a s).bind fun b => some (impl_distancesTo.rd2 ds (rd b 0) (rd b 1) == wrap64 (impl_distancesTo.rd2 ds (rd a 0) (rd a 1) - 1)) else some false
theorem impl_nearer.mono (k : Nat) (W H : Int) (l : List S58) (ds : List (List Int)) (a : List Int) (s : Int) : LeO (impl_nearer.f k W H l ds a s) (impl_nearer.f (k + 1) W H l ds a s) := LeO.bind (impl_stepIn.can_mono _ _ _ _ _ _) (fun _ => LeO.refl _)
theorem impl_nearer.at_ {w : World} {A : Option Addr} {n : Nat} {xs : List (List Int)} (h : Kd.C (Kd.slice 3 (Kd.int .i64)) w A n xs) (i : Nat) (h1 : i < n) : ∃ ad A0 c0, A = some ad ∧ w.cell? (ad.add i) = some (.slice A0 (xs.getD i []).length c0) ∧ (xs.getD i []).length ≤ c0 ∧ (Kd.int .i64).C w A0 (xs.getD i []).length (xs.getD i []) := by
 obtain ⟨ad, c, e, _, hK, hc0⟩ := Kd.C_get h ([] : List Int) (i : Int) (by omega) (by omega)
 rw [Int.toNat_natCast] at hK hc0
 have hc : ∀ j u, c[j]? = some u → w.cell? (ad.add (i * 1 + j)) = some u := hc0
 obtain ⟨A0, c0, rfl, l0, g0⟩ := hK
 exact ⟨ad, A0, c0, e, by have hq := hc 0 _ rfl; rwa [Nat.mul_one, Nat.add_zero] at hq, l0, g0⟩
theorem impl_nearer.at2 {w : World} {A : Option Addr} {W H : Nat} {xs : List (List Int)} (hs : impl_distancesTo.shape W H xs = true) (h : Kd.C (Kd.slice 3 (Kd.int .i64)) w A W xs) (i j : Nat) (h1 : i < W) (h2 : j < H) : ∃ ad ar c0, A = some ad ∧ w.cell? (ad.add i) = some (.slice (some ar) H c0) ∧ w.cell? (ar.add j) = some (.int .i64 (impl_distancesTo.rd2 xs (i : Int) (j : Int))) := by
 obtain ⟨ad, A0, c0, e, e1, e2, e3⟩ := impl_nearer.at_ h i h1
 have hl : (xs.getD i []).length = H := by have := (impl_distancesTo.shape_len hs).2 i (by omega); omega
 rw [hl] at e1 e3
 obtain ⟨ar, rfl, hx⟩ := Kd.at_int e3 (j : Int) (by omega) (by omega)
 rw [Int.toNat_natCast] at hx
 refine ⟨ad, ar, c0, e, e1, ?_⟩
 unfold impl_distancesTo.rd2
 rw [Int.toNat_natCast]
 exact hx
theorem impl_nearer.lands {k : Nat} {W H : Nat} {l : List S58} {x y s : Int} (hW : 1 ≤ W ∧ W ≤ 8) (hH : 1 ≤ H ∧ H ≤ 8) (h : impl_stepIn.can k W H l [x, y] s = some true) : ∃ bx by_ : Nat, impl_moved.f [x, y] s = some [(bx : Int), (by_ : Int)] ∧ bx < W ∧ by_ < H := by
 unfold impl_stepIn.can at h
 obtain ⟨b, h1, h2⟩ := Option.bind_eq_some_iff.mp h
 obtain ⟨bx, by_, rfl⟩ : ∃ bx by_, b = [bx, by_] := by
  have h3 := h1
  unfold impl_moved.f at h3
  repeat' split at h3
  all_goals first | exact ⟨_, _, (Option.some.inj h3).symm⟩ | cases h3
 by_cases hin : impl_stepIn.in_ W H bx by_ = true
 ·obtain ⟨h4, h5⟩ := impl_distancesTo.in_t hW hH hin
  exact ⟨bx.toNat, by_.toNat, by rw [h1, Int.toNat_of_nonneg h4.1, Int.toNat_of_nonneg h5.1], by omega, by omega⟩
 ·change (if impl_stepIn.in_ W H bx by_ = true then _ else some false) = some true at h2
  rw [if_neg hin] at h2
  cases h2
set_option maxHeartbeats 8000000 in
set_option maxRecDepth 100000 in
theorem impl_nearer.clo (k W H : Nat) (AL : Option Addr) (cL : Nat) (l : List S58) (B : Nat) (AD : Option Addr) (cD : Nat) (ds : List (List Int)) (A : Option Addr) (c : Nat) (x y : Nat) (s : Int) (r : Bool) (w : World) (hW : 1 ≤ W ∧ W ≤ 8) (hH : 1 ≤ H ∧ H ≤ 8) (hx : x < W) (hy : y < H) (hsh : impl_distancesTo.shape W H ds = true)
  (hB : w.heap[B]? = some (.cells #[.int .i64 W, .int .i64 H, .slice AL l.length cL] 31 (0, 0))) (hL : Kd.C k58 w AL l.length l) (hcL : l.length ≤ cL) (hD : Kd.C (Kd.slice 3 (Kd.int .i64)) w AD W ds) (hr : Kd.C (Kd.int .i64) w A 2 [(x : Int), (y : Int)]) (hc : 2 ≤ c) (h : impl_nearer.f k W H l ds [(x : Int), (y : Int)] s = some r) :
  Calls Try.prog 71 #[.slice AD W cD, .slice A 2 c, .int .i64 s, .func (.func 74) #[] #[.pointer (some ⟨B, 0, none⟩)]] w fun e w' => e = .returned (.bool r) ∧ Below w.heap.size w w' := by
 unfold impl_nearer.f at h
 obtain ⟨t, ht, h⟩ := Option.bind_eq_some_iff.mp h
 have HCLO := Lib.hid (impl_stepIn.clo k W H AL cL l B A c x y s t w hB hL hcL hr hc ht)
 cases t with
 | false =>
  obtain rfl := Option.some.inj h
  clear hB hL hcL hD hr hc h ht hsh hW hH hx hy
  go_enter Try.func71, Try.ntmps71
  go_wp2_with (go_at_call 74; refine HCLO.out.mono ?_; rintro e w3 ⟨rfl, hb3⟩; have HB3 := Lib.hid hb3; clear hb3)
  go_ret
  exact ⟨rfl, HB3.out⟩
 | true =>
  obtain ⟨bx, by_, hm, hbx, hby⟩ := impl_nearer.lands hW hH ht
  change ((impl_moved.f [(x : Int), (y : Int)] s).bind fun b => some (impl_distancesTo.rd2 ds (rd b 0) (rd b 1) == wrap64 (impl_distancesTo.rd2 ds (x : Int) (y : Int) - 1))) = some r at h
  rw [hm] at h
  change some (impl_distancesTo.rd2 ds (bx : Int) (by_ : Int) == wrap64 (impl_distancesTo.rd2 ds (x : Int) (y : Int) - 1)) = some r at h
  obtain rfl := Option.some.inj h
  obtain ⟨adD, ar, cr, rfl, e1, e2⟩ := impl_nearer.at2 hsh hD bx by_ hbx hby
  obtain ⟨adD', ar', cr', e', e3, e4⟩ := impl_nearer.at2 hsh hD x y hx hy
  obtain rfl := Option.some.inj e'
  obtain ⟨ad, rfl, _, e5, e6⟩ := impl_distancesTo.two hr
  have HMV := Lib.hid (fun (w1 : World) (hb : Below w.heap.size w w1) => impl_moved.calls (some ad) c [(x : Int), (y : Int)] s [(bx : Int), (by_ : Int)] w1 (Kd.C_below hr hb) hc hm)
  generalize impl_distancesTo.rd2 ds (bx : Int) (by_ : Int) = R at e2 ⊢
  generalize impl_distancesTo.rd2 ds (x : Int) (y : Int) = D at e4 ⊢
  have HE := Lib.hid (And.intro e1 (And.intro e2 (And.intro e3 (And.intro e4 (And.intro e5 e6)))))
  have q1 : (0 : Int) ≤ (x : Int) := by omega
  have q2 : (x : Int) < (W : Int) := by omega
  have q3 : (0 : Int) ≤ (y : Int) := by omega
  have q4 : (y : Int) < (H : Int) := by omega
  have q5 : (0 : Int) ≤ (bx : Int) := by omega
  have q6 : (bx : Int) < (W : Int) := by omega
  have q7 : (0 : Int) ≤ (by_ : Int) := by omega
  have q8 : (by_ : Int) < (H : Int) := by omega
  clear hB hL hcL hD hr hc h ht hsh hm e1 e2 e3 e4 e5 e6
  go_enter Try.func71, Try.ntmps71
  go_upto_region 4 with (first
   | (go_at_call 74; refine HCLO.out.mono ?_; rintro e w3 ⟨rfl, hb3⟩; have HB3 := Lib.hid hb3; clear hb3)
   | (go_at_call 72; refine (HMV.out _ HB3.out).mono ?_; rintro e w5 ⟨v5, rfl, hR5, hb5⟩; have HR5 := Lib.hid hR5; have HB5 := Lib.hid (below_then HB3.out HB3.out.size hb5); clear hR5 hb5))
  obtain ⟨A5, c5, rfl, _, hC5⟩ := Kd.R_reads HR5.out
  obtain ⟨ad5, rfl, _, f1, f2⟩ := impl_distancesTo.two hC5
  have HBF := HB5
  have e1 := pw_cell_below HB5.out HE.out.1
  have e2 := pw_cell_below HB5.out HE.out.2.1
  have e3 := pw_cell_below HB5.out HE.out.2.2.1
  have e4 := pw_cell_below HB5.out HE.out.2.2.2.1
  have e5 := pw_cell_below HB5.out HE.out.2.2.2.2.1
  have e6 := pw_cell_below HB5.out HE.out.2.2.2.2.2
  clear hC5 HR5 HB5 HE HCLO HMV HB3
  go_quiet (fail)
  go_wp2
  go_ret
  exact ⟨by first | rfl | simp [IntWalk.i64_left], pw_below_drewN HBF.out _⟩
def impl_firstWay.scan (k W H : Nat) (l : List S58) (ds : List (List Int)) (a : List Int) : Nat → Nat → Option (Option Nat)
 | 0, _ => some none
 | d + 1, j => (impl_nearer.f k W H l ds a (j : Int)).bind fun t => if t = true then some (some j) else impl_firstWay.scan k W H l ds a d (j + 1)
def impl_firstWay.l0 (p W H : Nat) (l : List S58) (ds : List (List Int)) : Nat → List Int → List Int → Option (List Int)
 | 0, _, _ => none
 | k + 1, a, wd => if impl_distancesTo.pair W H a = true then (if 0 < impl_distancesTo.rd2 ds (rd a 0) (rd a 1) then (impl_firstWay.scan p W H l ds a 4 0).bind fun o => match o with
  | none => impl_firstWay.l0 p W H l ds k a wd
  | some j => if wd.length < 1000000 then (impl_moved.f a (j : Int)).bind fun b => impl_firstWay.l0 p W H l ds k b (wd ++ [bt ⟨#[101, 110, 115, 119]⟩ (j : Int)]) else none
  else some wd) else none
def impl_firstWay.f (k W H : Nat) (l : List S58) (ds : List (List Int)) (ax ay : Int) : Option ByteArray := (impl_firstWay.l0 k W H l ds k [ax, ay] []).bind fun wd => some (strOfNums wd)
theorem impl_firstWay.scan_mono (k W H : Nat) (l : List S58) (ds : List (List Int)) (a : List Int) : ∀ d j, LeO (impl_firstWay.scan k W H l ds a d j) (impl_firstWay.scan (k + 1) W H l ds a d j)
 | 0, _ => LeO.refl _
 | d + 1, j => LeO.bind (impl_nearer.mono _ _ _ _ _ _ _) (fun _ => LeO.ite (LeO.refl _) (impl_firstWay.scan_mono k W H l ds a d (j + 1)))
theorem impl_firstWay.l0_mono (p W H : Nat) (l : List S58) (ds : List (List Int)) : ∀ k a wd, LeO (impl_firstWay.l0 p W H l ds k a wd) (impl_firstWay.l0 (p + 1) W H l ds (k + 1) a wd)
 | 0, _, _ => LeO.none _
 | k + 1, a, wd => LeO.ite (LeO.ite (LeO.bind (impl_firstWay.scan_mono _ _ _ _ _ _ _ _) (fun o => match o with
  | none => impl_firstWay.l0_mono p W H l ds k _ _
  | some _ => LeO.ite (LeO.bind (LeO.refl _) (fun _ => impl_firstWay.l0_mono p W H l ds k _ _)) (LeO.refl _))) (LeO.refl _)) (LeO.refl _)
theorem impl_firstWay.mono (k W H : Nat) (l : List S58) (ds : List (List Int)) (ax ay : Int) : LeO (impl_firstWay.f k W H l ds ax ay) (impl_firstWay.f (k + 1) W H l ds ax ay) := LeO.bind (impl_firstWay.l0_mono _ _ _ _ _ _ _ _) (fun _ => LeO.refl _)
def impl_firstWay.AF (w wr : World) (v : Value) (x y : Nat) : Prop := (∃ A c, v = .slice A 2 c ∧ 2 ≤ c ∧ Kd.C (Kd.int .i64) w A 2 [(x : Int), (y : Int)]) ∨ Kd.R (Kd.int .i64) 3 wr w.heap.size (fun _ => True) v [(x : Int), (y : Int)]
structure impl_firstWay.FV (w wr : World) (v1 : Value) (x y : Nat) (v7 : Value) (wd : List Int) : Prop where
  af : impl_firstWay.AF w wr v1 x y
  row : Kd.R (Kd.int .u8) 5 wr w.heap.size (fun _ => True) v7 wd
  bel : Below w.heap.size w wr
section
variable {w wr w1 : World} {v1 v7 v8 : Value} {x y : Nat} {wd wd' : List Int}
theorem impl_firstWay.FV.below (h : impl_firstWay.FV w wr v1 x y v7 wd) (hb : Below wr.heap.size wr w1) : impl_firstWay.FV w w1 v1 x y v7 wd :=
 ⟨h.af.imp id (fun h => Kd.R_below h hb), Kd.R_below h.row hb, below_then h.bel h.bel.size hb⟩
theorem impl_firstWay.FV.read (h : impl_firstWay.FV w wr v1 x y v7 wd) : ∃ A c, v1 = .slice A 2 c ∧ 2 ≤ c ∧ Kd.C (Kd.int .i64) wr A 2 [(x : Int), (y : Int)] := by
 rcases h.af with ⟨A, c, e, hc, hC⟩ | hR
 ·exact ⟨A, c, e, hc, Kd.C_below hC h.bel⟩
 ·obtain ⟨A, c, e, hc, hC⟩ := Kd.R_reads hR
  exact ⟨A, c, e, hc, hC⟩
theorem impl_firstWay.R_next {e : Nat} {k : IntKind} {v : Value} {xs : List Int} {b : Nat} (h : Kd.R (Kd.int k) e wr b (fun _ => True) v xs) {gi : Nat} {s : ByteArray} {p : Nat} (hi : wr.heap[gi]? = some (.stringIter s p)) (o : Obj) : Kd.R (Kd.int k) e (impl_distancesTo.setIter wr gi o) b (fun _ => True) v xs := by
 refine Kd.R_mono (Kd.R_move (Kd.R_bound h) (fun k hk => impl_distancesTo.setIter_other _ ?_)) (fun _ _ => trivial)
 rintro rfl
 obtain ⟨_, _, _, q', _, cells, hc⟩ := hk
 rw [hi] at hc
 cases hc
theorem impl_firstWay.FV.next (h : impl_firstWay.FV w wr v1 x y v7 wd) {gi : Nat} {s : ByteArray} {p : Nat} (hi : wr.heap[gi]? = some (.stringIter s p)) (hgi : w.heap.size ≤ gi) (o : Obj) : impl_firstWay.FV w (impl_distancesTo.setIter wr gi o) v1 x y v7 wd :=
 ⟨h.af.imp id (fun h => impl_firstWay.R_next h hi o), impl_firstWay.R_next h.row hi o, impl_distancesTo.setIter_below h.bel hgi o⟩
theorem impl_firstWay.FV.app (h : impl_firstWay.FV w wr v1 x y v7 wd) (hr : Kd.R (Kd.int .u8) 5 w1 w.heap.size (fun _ => True) v8 wd') (hb : Below w.heap.size w w1) (hg : wr.grownBy w1 v7.ownBlock) : impl_firstWay.FV w w1 v1 x y v8 wd' := by
 refine ⟨h.af.imp id (fun hR => ?_), hr, hb⟩
 refine Kd.R_mono (Kd.R_grown (Kd.R_bound hR) hg (fun k hk e => ?_)) (fun _ _ => trivial)
 obtain ⟨cells, hc⟩ := Kd.R_typed h.row k e.symm
 obtain ⟨_, _, _, q, hq, cells', hc'⟩ := hk
 rw [hc] at hc'
 injection hc' with hc'
 injection hc' with _ hc'
 have hq2 : q = 3 := by
  rcases List.mem_cons.1 hq with rfl | hq
  ·rfl
  ·cases hq
 rw [hq2] at hc'
 revert hc'
 decide
theorem impl_firstWay.FV.to (h : impl_firstWay.FV w wr v1 x y v7 wd) {v2 : Value} {x2 y2 : Nat} (hb : Below wr.heap.size wr w1) (hR : Kd.R (Kd.int .i64) 3 w1 wr.heap.size (fun _ => True) v2 [(x2 : Int), (y2 : Int)]) : impl_firstWay.FV w w1 v2 x2 y2 v7 wd :=
 ⟨.inr (Kd.R_lower hR h.bel.size), Kd.R_below h.row hb, below_then h.bel h.bel.size hb⟩
end
theorem impl_firstWay.info : (Try.prog.info? 5).map (fun i => (i.zero, i.size, i.bytes)) = some (some (.int .u8 0), 1, 1) := by kernel_rfl
theorem impl_firstWay.near_can {k W H : Nat} {l : List S58} {ds : List (List Int)} {a : List Int} {s : Int} (h : impl_nearer.f k W H l ds a s = some true) : impl_stepIn.can k W H l a s = some true := by
 unfold impl_nearer.f at h
 obtain ⟨t, ht, h⟩ := Option.bind_eq_some_iff.mp h
 cases t
 ·cases h
 ·exact ht
set_option maxHeartbeats 8000000 in
set_option maxRecDepth 100000 in
theorem impl_firstWay.by_ (k W H : Nat) (AL : Option Addr) (cL : Nat) (l : List S58) (B : Nat) (AD : Option Addr) (cD : Nat) (ds : List (List Int)) (A1 : Option Addr) (c1 : Nat) (ax ay : Nat) (r : ByteArray) (w : World) (hW : 1 ≤ W ∧ W ≤ 8) (hH : 1 ≤ H ∧ H ≤ 8) (hx : ax < W) (hy : ay < H) (hsh : impl_distancesTo.shape W H ds = true)
  (hB : w.heap[B]? = some (.cells #[.int .i64 W, .int .i64 H, .slice AL l.length cL] 31 (0, 0))) (hL : Kd.C k58 w AL l.length l) (hcL : l.length ≤ cL) (hD : Kd.C (Kd.slice 3 (Kd.int .i64)) w AD W ds) (hr : Kd.C (Kd.int .i64) w A1 2 [(ax : Int), (ay : Int)]) (hc : 2 ≤ c1) (h : impl_firstWay.f k W H l ds ax ay = some r) :
  Calls Try.prog 46 #[.slice AD W cD, .slice A1 2 c1, .func (.func 74) #[] #[.pointer (some ⟨B, 0, none⟩)]] w fun e w' => e = .returned (.string r) ∧ Below w.heap.size w w' := by
 unfold impl_firstWay.f at h
 obtain ⟨rr, hl0, h⟩ := Option.bind_eq_some_iff.mp h
 obtain rfl := Option.some.inj h
 clear h
 have HV := Lib.hid (show impl_firstWay.FV w w (.slice A1 2 c1) ax ay (.slice none 0 0) [] from ⟨.inl ⟨A1, c1, rfl, hc, hr⟩, Kd.R_nil _ _ _ _ _, Below.refl _ _⟩)
 have HL0 := Lib.hid hl0
 have HBX := Lib.hid hB
 have HBL := Lib.hid (blk_lt hB)
 have HL := Lib.hid hL
 have HD := Lib.hid hD
 have HSH := Lib.hid hsh
 have HW := Lib.hid hW
 have HH := Lib.hid hH
 have HX := Lib.hid (And.intro hx hy)
 obtain ⟨adD, _, _, eD, n1, n2⟩ := impl_nearer.at2 hsh hD ax ay hx hy
 subst eD
 clear n1 n2
 clear hl0 hB hL hD hsh hr hx hy hW hH
 go_enter Try.func46, Try.ntmps46
 go_wp2
 go_loopg [1, 7] k (fun kq v1 v7 wr => ∃ (x y : Nat) (wd : List Int), Hid (impl_firstWay.l0 k W H l ds kq [(x : Int), (y : Int)] wd = some rr) ∧ Hid (x < W ∧ y < H) ∧ Hid (impl_firstWay.FV w wr v1 x y v7 wd))
 case atStart => exact ⟨ax, ay, [], HL0, HX, HV⟩
 case round =>
  clear HL0 HX HV
  obtain ⟨x, y, wd, HL0, HX, HV⟩ := hrel
  cases gk with
  | zero => exact absurd HL0.out (by simp [impl_firstWay.l0])
  | succ k1 =>
   have h := HL0.out
   clear HL0
   simp only [impl_firstWay.l0] at h
   by_cases hpr : impl_distancesTo.pair W H [(x : Int), (y : Int)] = true
   case neg => rw [if_neg hpr] at h; cases h
   rw [if_pos hpr] at h
   change (if 0 < impl_distancesTo.rd2 ds (x : Int) (y : Int) then _ else _) = some rr at h
   obtain ⟨hx, hy⟩ := HX.out
   obtain ⟨A, c, e1, hc, hC⟩ := HV.out.read
   subst e1
   obtain ⟨A7, c7, e7⟩ := Kd.R_slice HV.out.row
   subst e7
   obtain ⟨ad, rfl, _, f1, f2⟩ := impl_distancesTo.two hC
   obtain ⟨adD', ar, cr, e', f3, f4⟩ := impl_nearer.at2 HSH.out (Kd.C_below HD.out HV.out.bel) x y hx hy
   obtain rfl := Option.some.inj e'
   have q1 : (0 : Int) ≤ (x : Int) := by omega
   have q2 : (x : Int) < (W : Int) := by omega
   have q3 : (0 : Int) ≤ (y : Int) := by omega
   have q4 : (y : Int) < (H : Int) := by omega
   clear hC hpr
   by_cases hD : 0 < impl_distancesTo.rd2 ds (x : Int) (y : Int)
   ·rw [if_pos hD] at h
    obtain ⟨o, ho, h⟩ := Option.bind_eq_some_iff.mp h
    have HO := Lib.hid ho
    have HN := Lib.hid h
    clear h ho
    generalize impl_distancesTo.rd2 ds (x : Int) (y : Int) = D at hD f4
    go_wp2
    go_quiet (fail)
    have HV2 := Lib.hid (HV.out.below (pw_below_drewN (Below.refl _ _) nq))
    generalize wr.drewN nq = W2 at HV2 ⊢
    clear HV f1 f2 f3 f4 hD
    go_wp2
    have HV1 := Lib.hid (HV2.out.below (below_alloc (Below.refl W2.heap.size W2) (.stringIter ⟨#[101, 110, 115, 119]⟩ 0)))
    have HI1 := Lib.hid (show (W2.iter ⟨#[101, 110, 115, 119]⟩ 0).heap[W2.heap.size]? = some (.stringIter ⟨#[101, 110, 115, 119]⟩ 0) from World.iter_heap W2 _ 0)
    have hgi := HV2.out.bel.size
    change Hid (impl_firstWay.FV w (W2.iter ⟨#[101, 110, 115, 119]⟩ 0) (.slice (some ad) 2 c) x y (.slice A7 wd.length c7) wd) at HV1
    generalize W2.iter ⟨#[101, 110, 115, 119]⟩ 0 = Wi at HV1 HI1 ⊢
    obtain ⟨gi, hgi2⟩ : ∃ gi, gi = W2.heap.size := ⟨_, rfl⟩
    rw [← hgi2] at HI1 hgi ⊢
    clear hgi2 HV2
    go_loopg [1, 7] 4 (fun gn v1 v7 wr => ∃ m : Nat, m + gn = 4 ∧ v1 = .slice (some ad) 2 c ∧ v7 = .slice A7 wd.length c7 ∧ Hid (impl_firstWay.scan k W H l ds [(x : Int), (y : Int)] gn m = some o) ∧ Hid (impl_firstWay.FV w wr (.slice (some ad) 2 c) x y (.slice A7 wd.length c7) wd) ∧ Hid (wr.heap[gi]? = some (.stringIter ⟨#[101, 110, 115, 119]⟩ m)))
    case atStart => exact ⟨0, by omega, rfl, rfl, HO, HV1, HI1⟩
    case round =>
     clear HV1 HI1 HO
     obtain ⟨m, hm, rfl, rfl, HO, HV, HI⟩ := hrel
     cases gk with
     | zero =>
      obtain rfl : m = 4 := by omega
      obtain rfl := Option.some.inj HO.out
      have hnx : ∀ ty, (Instr.next (.pointer (some ⟨gi, 0, none⟩)) true ty).run Try.prog wr = _ := fun ty => impl_distancesTo.next_end wr gi ⟨#[101, 110, 115, 119]⟩ 4 ty HI.out (by show ¬ 4 < 4; omega)
      go_wp2
      go_roundg k1
      case measure => omega
      case rel => exact ⟨x, y, wd, HN, HX, HV⟩
     | succ dd =>
      have h := HO.out
      clear HO
      simp only [impl_firstWay.scan] at h
      obtain ⟨t, ht, h⟩ := Option.bind_eq_some_iff.mp h
      obtain ⟨u8, hnx⟩ : ∃ u8 : Int, ∀ ty, (Instr.next (.pointer (some ⟨gi, 0, none⟩)) true ty).run Try.prog wr = .ok (.tuple #[.bool true, .int .i64 m, .int .i32 u8]) (impl_distancesTo.setIter wr gi (.stringIter ⟨#[101, 110, 115, 119]⟩ (m + 1))) :=
       ⟨_, fun ty => impl_distancesTo.next_at wr gi ⟨#[101, 110, 115, 119]⟩ m ty HI.out (by show m < 4; omega) (impl_distancesTo.asc m (by show m < 4; omega))⟩
      have HV2 := Lib.hid (HV.out.next HI.out hgi (.stringIter ⟨#[101, 110, 115, 119]⟩ (m + 1)))
      have HI2 := Lib.hid (impl_distancesTo.setIter_same (W := wr) (g := gi) (.stringIter ⟨#[101, 110, 115, 119]⟩ (m + 1)) (blk_lt HI.out))
      have hm0 : (0 : Int) ≤ (m : Int) := by omega
      have hm1 : (m : Int) < 4 := by omega
      have HT := Lib.hid ht
      have HS := Lib.hid h
      clear ht h HV HI
      go_upto_region 6 with (fail)
      clear hnx
      generalize impl_distancesTo.setIter wr gi (.stringIter ⟨#[101, 110, 115, 119]⟩ (m + 1)) = W5 at HV2 HI2 ⊢
      obtain ⟨A', c', e', hc', hC'⟩ := HV2.out.read
      cases e'
      have HCA := Lib.hid hC'
      have HNE := Lib.hid (impl_nearer.clo k W H AL cL l B (some adD) cD ds (some ad) c x y m t W5 HW.out HH.out hx hy HSH.out ((HV2.out.bel.block _ HBL.out).trans HBX.out) (Kd.C_below HL.out HV2.out.bel) hcL (Kd.C_below HD.out HV2.out.bel) HCA.out hc HT.out)
      clear hC' hc'
      cases t with
      | false =>
       have h := HS.out
       rw [if_neg (by decide)] at h
       have HS2 := Lib.hid h
       clear h HS
       go_wp2_with (go_at_call 71; refine HNE.out.mono ?_; rintro e w7 ⟨rfl, hb7⟩; have HB7 := Lib.hid hb7; clear hb7)
       go_roundg dd
       case measure => omega
       case rel => exact ⟨m + 1, by omega, rfl, rfl, HS2, Lib.hid (HV2.out.below HB7.out), Lib.hid ((HB7.out.block _ (blk_lt HI2.out)).trans HI2.out)⟩
      | true =>
       have h := HS.out
       rw [if_pos rfl] at h
       obtain rfl := Option.some.inj h
       clear h HS
       obtain ⟨bx, by_, hmv, hbx, hby⟩ := impl_nearer.lands HW.out HH.out (impl_firstWay.near_can HT.out)
       have h := HN.out
       simp only at h
       by_cases hwl : wd.length < 1000000
       case neg => rw [if_neg hwl] at h; cases h
       rw [if_pos hwl, hmv, Option.bind_some] at h
       have HN2 := Lib.hid h
       have HMV := Lib.hid hmv
       have HWL := Lib.hid hwl
       have hbt : ∀ h : m < (⟨#[101, 110, 115, 119]⟩ : ByteArray).size, ((((⟨#[101, 110, 115, 119]⟩ : ByteArray)[m]'h).toNat : Nat) : Int) = bt ⟨#[101, 110, 115, 119]⟩ (m : Int) := fun h => bt_at ⟨#[101, 110, 115, 119]⟩ (m : Int) h
       clear h hmv hwl HN
       go_upto_region 7 with (go_at_call 71; refine HNE.out.mono ?_; rintro e w7 ⟨rfl, hb7⟩; have HB7 := Lib.hid hb7; clear hb7)
       have HV7 := Lib.hid (HV2.out.below HB7.out)
       clear HV2 HI2 HNE HB7 HCA
       go_upto_region 8 with ((with_reducible refine gate_builtin (b := .append) (xs := #[.tmp 30, .tmp 33]) rfl ?_); at_builtin; refine Kd.R_append (Kd.int .u8) (w0 := w) w.heap.size rfl (.tmp 30) (.tmp 33) 65 5 (.int .u8 0) 1 rfl Try.underlying65 impl_firstWay.info rfl (by decide) (by omega) _ wd (bt ⟨#[101, 110, 115, 119]⟩ (m : Int)) [.int .u8 (bt ⟨#[101, 110, 115, 119]⟩ (m : Int))] (fun _ => True) (fun _ => False) rfl rfl ?aP (fun _ hk => hk.elim) ?aF ?aO ?aB ?aS ?aL ?_; (case aP => exact rfl); (case aB => exact HV7.out.bel); (case aF => exact (fun _ _ => trivial)); (case aO => exact HV7.out.row); (case aS => exact HV7.out.bel.size); (case aL => have := HWL.out; omega); intro v8 w8 ho hb8 hg8 hat8; have HV8 := Lib.hid (HV7.out.app ho hb8 hg8); clear ho hb8 hg8 hat8 HV7)
       obtain ⟨A', c', e', hc', hC'⟩ := HV8.out.read
       cases e'
       have HM8 := Lib.hid (impl_moved.calls (some ad) c [(x : Int), (y : Int)] m [(bx : Int), (by_ : Int)] w8 hC' hc HMV.out)
       clear hC' hc'
       go_wp2_with (go_at_call 72; refine HM8.out.mono ?_; rintro e w9 ⟨v9, rfl, hR9, hb9⟩; have HV9 := Lib.hid (HV8.out.to hb9 hR9); clear hR9 hb9)
       go_roundg k1
       case measure => omega
       case rel => exact ⟨bx, by_, _, HN2, Lib.hid ⟨hbx, hby⟩, HV9⟩
   ·rw [if_neg hD] at h
    obtain rfl := Option.some.inj h
    have HDD := Lib.hid hD
    generalize impl_distancesTo.rd2 ds (x : Int) (y : Int) = D at hD f4 HDD
    have t1 : decide (0 < D) = false := decide_eq_false hD
    clear h
    go_wp2
    go_quiet (fail)
    have HV2 := Lib.hid (HV.out.below (pw_below_drewN (Below.refl _ _) nq))
    generalize wr.drewN nq = W2 at HV2 ⊢
    clear HV f1 f2 f3 f4 hD t1
    have hcv := Kd.C_string (P := Try.prog) (src := 65) (dst := 9) (c := c7) Try.underlying65 Try.underlying5 Try.underlying9 (Kd.R_reads' HV2.out.row).2.2
    go_wp2
    go_ret
    exact ⟨rfl, HV2.out.bel⟩
def impl_FirstShortestWay.ok (W H : Int) (l1 : List Int) : Bool := decide (1 ≤ W ∧ W ≤ 8) && (decide (1 ≤ H ∧ H ≤ 8) && impl_distancesTo.pair W H l1)
def impl_FirstShortestWay.ways (k : Nat) (a0_0 a0_1 : Int) (l0_2 : List S58) (l1 l2 : List Int) : Option ByteArray := if impl_FirstShortestWay.ok a0_0 a0_1 l1 = true then (impl_distancesTo.f k a0_0 a0_1 l0_2 l2).bind fun ds => if impl_distancesTo.shape a0_0 a0_1 ds = true then impl_firstWay.f k a0_0.toNat a0_1.toNat l0_2 ds (rd l1 0) (rd l1 1) else none else none
def impl_FirstShortestWay.f (k : Nat) (a0_0 : Int) (a0_1 : Int) (l0_2 : List S58) (l1 : List Int) (l2 : List Int) : Option (ByteArray × Bool) := (impl_areCorners.f k a0_0 a0_1 l0_2 [l1, l2]).bind fun t => if t = true then (impl_distanceIn.f k a0_0 a0_1 l0_2 l1 l2).bind fun p => if p.2 = true then (impl_FirstShortestWay.ways k a0_0 a0_1 l0_2 l1 l2).bind fun r => some (r, true) else some ((⟨#[]⟩ : ByteArray), false) else some ((⟨#[]⟩ : ByteArray), false)
theorem impl_FirstShortestWay.mono : ∀ a0 a1 a2 a3 a4 k, LeO (impl_FirstShortestWay.f k a0 a1 a2 a3 a4) (impl_FirstShortestWay.f (k + 1) a0 a1 a2 a3 a4) := fun a0 a1 a2 a3 a4 k => LeO.bind (impl_areCorners.mono _ _ _ _ _) (fun _ => LeO.ite (LeO.bind (impl_distanceIn.mono _ _ _ _ _ _) (fun _ => LeO.ite (LeO.bind (LeO.ite (LeO.bind (impl_distancesTo.mono _ _ _ _ _) (fun _ => LeO.ite (impl_firstWay.mono _ _ _ _ _ _ _) (LeO.refl _))) (LeO.refl _)) (fun _ => LeO.refl _)) (LeO.refl _))) (LeO.refl _))
theorem impl_FirstShortestWay.row2 (w : World) (A : Option Addr) (c : Nat) (a : List Int) (A' : Option Addr) (c' : Nat) (a' : List Int) (hC : Kd.C (Kd.int .i64) w A a.length a) (hl : a.length ≤ c) (hC' : Kd.C (Kd.int .i64) w A' a'.length a') (hl' : a'.length ≤ c') : Kd.C (Kd.slice 3 (Kd.int .i64)) (w.alloc (.cells #[.slice A a.length c, .slice A' a'.length c'] 25)) (some ⟨w.heap.size, 0, none⟩) 2 [a, a'] := by
 refine ⟨rfl, by decide, fun _ => ⟨_, rfl, fun j p hj => ?_⟩⟩
 match j, hj with
 | 0, hj =>
  obtain rfl : a = p := Option.some.inj hj
  refine ⟨[.slice A a.length c], rfl, ⟨A, c, rfl, hl, Kd.C_alloc hC _⟩, fun i u hu => ?_⟩
  match i, hu with
  | 0, hu => exact (blk_cell (blk_new w (.cells #[.slice A a.length c, .slice A' a'.length c'] 25)) 0).trans hu
 | 1, hj =>
  obtain rfl : a' = p := Option.some.inj hj
  refine ⟨[.slice A' a'.length c'], rfl, ⟨A', c', rfl, hl', Kd.C_alloc hC' _⟩, fun i u hu => ?_⟩
  match i, hu with
  | 0, hu => exact (blk_cell (blk_new w (.cells #[.slice A a.length c, .slice A' a'.length c'] 25)) 1).trans hu
set_option maxHeartbeats 8000000 in
set_option maxRecDepth 100000 in
theorem impl_FirstShortestWay.calls (k : Nat) (a0_0 : Int) (a0_1 : Int) (A0_2 : Option Addr) (c0_2 : Nat) (l0_2 : List S58) (A1 : Option Addr) (c1 : Nat) (l1 : List Int) (A2 : Option Addr) (c2 : Nat) (l2 : List Int) (r1 : ByteArray) (r2 : Bool) (w : World) (hr0_2 : Kd.C k58 w A0_2 l0_2.length l0_2) (hc0_2 : l0_2.length ≤ c0_2) (hr1 : Kd.C (Kd.int .i64) w A1 l1.length l1) (hc1 : l1.length ≤ c1) (hr2 : Kd.C (Kd.int .i64) w A2 l2.length l2) (hc2 : l2.length ≤ c2) (h : impl_FirstShortestWay.f k a0_0 a0_1 l0_2 l1 l2 = some (r1, r2)) :
  Calls Try.prog 13 #[.agg #[.int .i64 a0_0, .int .i64 a0_1, .slice A0_2 l0_2.length c0_2], .slice A1 l1.length c1, .slice A2 l2.length c2] w fun e w' => e = .returned (.tuple #[.string r1, .bool r2]) ∧ Below w.heap.size w w' := by
 unfold impl_FirstShortestWay.f at h
 obtain ⟨t, ht, h⟩ := Option.bind_eq_some_iff.mp h
 have hu := Try.underlying31
 have HT := Lib.hid ht
 have HL := Lib.hid hr0_2
 have HA := Lib.hid hr1
 have HA2 := Lib.hid hr2
 clear ht hr0_2 hr1 hr2
 cases t with
 | false =>
  cases h
  go_enter Try.func13, Try.ntmps13
  go_upto_region 1 with (fail)
  have HV := Lib.hid (show (w.alloc (.cells #[.int .i64 a0_0, .int .i64 a0_1, .slice A0_2 l0_2.length c0_2] 31)).heap[w.heap.size]? = some (.cells #[.int .i64 a0_0, .int .i64 a0_1, .slice A0_2 l0_2.length c0_2] 31 (0, 0)) from blk_new w _)
  have HB := Lib.hid (below_alloc (Below.refl w.heap.size w) (.cells #[.int .i64 a0_0, .int .i64 a0_1, .slice A0_2 l0_2.length c0_2] 31))
  generalize (w.alloc (.cells #[.int .i64 a0_0, .int .i64 a0_1, .slice A0_2 l0_2.length c0_2] 31)) = W1 at HV HB ⊢
  obtain ⟨B0, hB0⟩ : ∃ B0, B0 = w.heap.size := ⟨_, rfl⟩
  rw [← hB0] at HV ⊢
  clear hB0
  have hcz0 : W1.cell? ⟨B0, 0, none⟩ = some (.int .i64 a0_0) := (blk_cell HV.out 0).trans rfl
  have hcz1 : W1.cell? ⟨B0, 1, none⟩ = some (.int .i64 a0_1) := (blk_cell HV.out 1).trans rfl
  have hcz2 : W1.cell? ⟨B0, 2, none⟩ = some (.slice A0_2 l0_2.length c0_2) := (blk_cell HV.out 2).trans rfl
  go_wp2_with (go_at_call 44; refine (impl_areCorners.calls k a0_0 a0_1 A0_2 c0_2 l0_2 (some ⟨W1.heap.size, 0, none⟩) 2 [l1, l2] false _ (Kd.C_alloc (Kd.C_below HL.out HB.out) _) hc0_2 (impl_FirstShortestWay.row2 W1 A1 c1 l1 A2 c2 l2 (Kd.C_below HA.out HB.out) hc1 (Kd.C_below HA2.out HB.out) hc2) (by simp) HT.out).mono ?_; rintro e w2 ⟨rfl, hb2⟩; have HB2 := Lib.hid (below_then (below_alloc HB.out _) (below_alloc HB.out _).size hb2); have hb20 := below_then (below_alloc (Below.refl W1.heap.size W1) _) (below_alloc (Below.refl W1.heap.size W1) _).size hb2; have HX2 := Lib.hid ((hb20.block _ (blk_lt HV.out)).trans HV.out); have hcz0 := (blk_cell HX2.out 0).trans rfl; have hcz1 := (blk_cell HX2.out 1).trans rfl; have hcz2 := (blk_cell HX2.out 2).trans rfl; clear hb2 hb20)
  go_ret2
  exact ⟨rfl, HB2.out⟩
 | true =>
  rw [if_pos rfl] at h
  obtain ⟨⟨d, u⟩, hdi, h⟩ := Option.bind_eq_some_iff.mp h
  have HDI := Lib.hid hdi
  clear hdi
  cases u with
  | false =>
   rw [if_neg (show ¬ (d, false).2 = true by simp)] at h
   cases h
   go_enter Try.func13, Try.ntmps13
   go_upto_region 1 with (fail)
   have HV := Lib.hid (show (w.alloc (.cells #[.int .i64 a0_0, .int .i64 a0_1, .slice A0_2 l0_2.length c0_2] 31)).heap[w.heap.size]? = some (.cells #[.int .i64 a0_0, .int .i64 a0_1, .slice A0_2 l0_2.length c0_2] 31 (0, 0)) from blk_new w _)
   have HB := Lib.hid (below_alloc (Below.refl w.heap.size w) (.cells #[.int .i64 a0_0, .int .i64 a0_1, .slice A0_2 l0_2.length c0_2] 31))
   generalize (w.alloc (.cells #[.int .i64 a0_0, .int .i64 a0_1, .slice A0_2 l0_2.length c0_2] 31)) = W1 at HV HB ⊢
   obtain ⟨B0, hB0⟩ : ∃ B0, B0 = w.heap.size := ⟨_, rfl⟩
   rw [← hB0] at HV ⊢
   clear hB0
   have hcz0 : W1.cell? ⟨B0, 0, none⟩ = some (.int .i64 a0_0) := (blk_cell HV.out 0).trans rfl
   have hcz1 : W1.cell? ⟨B0, 1, none⟩ = some (.int .i64 a0_1) := (blk_cell HV.out 1).trans rfl
   have hcz2 : W1.cell? ⟨B0, 2, none⟩ = some (.slice A0_2 l0_2.length c0_2) := (blk_cell HV.out 2).trans rfl
   go_wp2_with (first | (go_at_call 44; refine (impl_areCorners.calls k a0_0 a0_1 A0_2 c0_2 l0_2 (some ⟨W1.heap.size, 0, none⟩) 2 [l1, l2] true _ (Kd.C_alloc (Kd.C_below HL.out HB.out) _) hc0_2 (impl_FirstShortestWay.row2 W1 A1 c1 l1 A2 c2 l2 (Kd.C_below HA.out HB.out) hc1 (Kd.C_below HA2.out HB.out) hc2) (by simp) HT.out).mono ?_; rintro e w2 ⟨rfl, hb2⟩; have HB2 := Lib.hid (below_then (below_alloc HB.out _) (below_alloc HB.out _).size hb2); have hb20 := below_then (below_alloc (Below.refl W1.heap.size W1) _) (below_alloc (Below.refl W1.heap.size W1) _).size hb2; have HX2 := Lib.hid ((hb20.block _ (blk_lt HV.out)).trans HV.out); have hcz0 := (blk_cell HX2.out 0).trans rfl; have hcz1 := (blk_cell HX2.out 1).trans rfl; have hcz2 := (blk_cell HX2.out 2).trans rfl; clear hb2 hb20) | (go_at_call 45; refine (impl_distanceIn.calls k a0_0 a0_1 A0_2 c0_2 l0_2 A1 c1 l1 A2 c2 l2 d false _ (Kd.C_below HL.out HB2.out) hc0_2 (Kd.C_below HA.out HB2.out) hc1 (Kd.C_below HA2.out HB2.out) hc2 HDI.out).mono ?_; rintro e w3 ⟨rfl, hb3⟩; have HB3 := Lib.hid (below_then HB2.out HB2.out.size hb3); have HX3 := Lib.hid ((hb3.block _ (blk_lt HX2.out)).trans HX2.out); clear hb3))
   go_ret2
   exact ⟨rfl, HB3.out⟩
  | true =>
   rw [if_pos rfl] at h
   obtain ⟨r, hw, h⟩ := Option.bind_eq_some_iff.mp h
   cases h
   unfold impl_FirstShortestWay.ways at hw
   by_cases hok : impl_FirstShortestWay.ok a0_0 a0_1 l1 = true
   case neg => rw [if_neg hok] at hw; cases hw
   rw [if_pos hok] at hw
   obtain ⟨ds, hds, hw⟩ := Option.bind_eq_some_iff.mp hw
   by_cases hsh : impl_distancesTo.shape a0_0 a0_1 ds = true
   case neg => rw [if_neg hsh] at hw; cases hw
   rw [if_pos hsh] at hw
   unfold impl_FirstShortestWay.ok impl_distancesTo.pair at hok
   simp only [Bool.and_eq_true, decide_eq_true_eq] at hok
   obtain ⟨hW, hH, hp2, ⟨hx0, hx1⟩, hy0, hy1⟩ := hok
   obtain ⟨x', y', rfl⟩ : ∃ x y, l1 = [x, y] := by
    match l1, hp2 with
    | [x, y], _ => exact ⟨x, y, rfl⟩
   change 0 ≤ x' at hx0
   change x' ≤ a0_0 - 1 at hx1
   change 0 ≤ y' at hy0
   change y' ≤ a0_1 - 1 at hy1
   change impl_firstWay.f k a0_0.toNat a0_1.toNat l0_2 ds x' y' = some r1 at hw
   obtain ⟨W, rfl⟩ : ∃ n : Nat, a0_0 = (n : Int) := ⟨a0_0.toNat, by omega⟩
   obtain ⟨H, rfl⟩ : ∃ n : Nat, a0_1 = (n : Int) := ⟨a0_1.toNat, by omega⟩
   obtain ⟨x, rfl⟩ : ∃ n : Nat, x' = (n : Int) := ⟨x'.toNat, by omega⟩
   obtain ⟨y, rfl⟩ : ∃ n : Nat, y' = (n : Int) := ⟨y'.toNat, by omega⟩
   simp only [Int.toNat_natCast] at hw
   have HDS := Lib.hid hds
   have HSH := Lib.hid hsh
   have HWW := Lib.hid (show 1 ≤ W ∧ W ≤ 8 by omega)
   have HHH := Lib.hid (show 1 ≤ H ∧ H ≤ 8 by omega)
   have HX := Lib.hid (show x < W by omega)
   have HY := Lib.hid (show y < H by omega)
   have HWAYS := Lib.hid hw
   have HAX := Lib.hid (show Kd.C (Kd.int .i64) w A1 2 [(x : Int), (y : Int)] from HA.out)
   have hc12 : 2 ≤ c1 := hc1
   clear hds hsh hw hp2 hx0 hx1 hy0 hy1 hW hH
   go_enter Try.func13, Try.ntmps13
   go_upto_region 1 with (fail)
   have HV := Lib.hid (show (w.alloc (.cells #[.int .i64 (W : Int), .int .i64 (H : Int), .slice A0_2 l0_2.length c0_2] 31)).heap[w.heap.size]? = some (.cells #[.int .i64 (W : Int), .int .i64 (H : Int), .slice A0_2 l0_2.length c0_2] 31 (0, 0)) from blk_new w _)
   have HB := Lib.hid (below_alloc (Below.refl w.heap.size w) (.cells #[.int .i64 (W : Int), .int .i64 (H : Int), .slice A0_2 l0_2.length c0_2] 31))
   generalize (w.alloc (.cells #[.int .i64 (W : Int), .int .i64 (H : Int), .slice A0_2 l0_2.length c0_2] 31)) = W1 at HV HB ⊢
   obtain ⟨B0, hB0⟩ : ∃ B0, B0 = w.heap.size := ⟨_, rfl⟩
   rw [← hB0] at HV ⊢
   clear hB0
   have hcz0 : W1.cell? ⟨B0, 0, none⟩ = some (.int .i64 (W : Int)) := (blk_cell HV.out 0).trans rfl
   have hcz1 : W1.cell? ⟨B0, 1, none⟩ = some (.int .i64 (H : Int)) := (blk_cell HV.out 1).trans rfl
   have hcz2 : W1.cell? ⟨B0, 2, none⟩ = some (.slice A0_2 l0_2.length c0_2) := (blk_cell HV.out 2).trans rfl
   go_upto_region 6 with (first | (go_at_call 44; refine (impl_areCorners.calls k (W : Int) (H : Int) A0_2 c0_2 l0_2 (some ⟨W1.heap.size, 0, none⟩) 2 [[(x : Int), (y : Int)], l2] true _ (Kd.C_alloc (Kd.C_below HL.out HB.out) _) hc0_2 (impl_FirstShortestWay.row2 W1 A1 c1 [(x : Int), (y : Int)] A2 c2 l2 (Kd.C_below HA.out HB.out) hc1 (Kd.C_below HA2.out HB.out) hc2) (by simp) HT.out).mono ?_; rintro e w2 ⟨rfl, hb2⟩; have HB2 := Lib.hid (below_then (below_alloc HB.out _) (below_alloc HB.out _).size hb2); have hb20 := below_then (below_alloc (Below.refl W1.heap.size W1) _) (below_alloc (Below.refl W1.heap.size W1) _).size hb2; have HX2 := Lib.hid ((hb20.block _ (blk_lt HV.out)).trans HV.out); have hcz0 := (blk_cell HX2.out 0).trans rfl; have hcz1 := (blk_cell HX2.out 1).trans rfl; have hcz2 := (blk_cell HX2.out 2).trans rfl; clear hb2 hb20) | (go_at_call 45; refine (impl_distanceIn.calls k (W : Int) (H : Int) A0_2 c0_2 l0_2 A1 c1 [(x : Int), (y : Int)] A2 c2 l2 d true _ (Kd.C_below HL.out HB2.out) hc0_2 (Kd.C_below HA.out HB2.out) hc1 (Kd.C_below HA2.out HB2.out) hc2 HDI.out).mono ?_; rintro e w3 ⟨rfl, hb3⟩; have HB3 := Lib.hid (below_then HB2.out HB2.out.size hb3); have HX3 := Lib.hid ((hb3.block _ (blk_lt HX2.out)).trans HX2.out); clear hb3))
   have hd0 := (blk_cell HX3.out 0).trans rfl
   have hd1 := (blk_cell HX3.out 1).trans rfl
   have hd2 := (blk_cell HX3.out 2).trans rfl
   clear hcz0 hcz1 hcz2
   have HBc := Lib.hid (below_drew HB3.out)
   have HLEN := Lib.hid (show ds.length = W by have := (impl_distancesTo.shape_len HSH.out).1; omega)
   clear HV HB HB2 HX2 HT HDI
   go_region_held3 (fun w' => w'.cell? ⟨B0, 0, none⟩ = some (.int .i64 (W : Int)) ∧ w'.cell? ⟨B0, 1, none⟩ = some (.int .i64 (H : Int)) ∧ w'.cell? ⟨B0, 2, none⟩ = some (.slice A0_2 l0_2.length c0_2)) (exact ⟨by assumption, by assumption, by assumption⟩)
    (first
     | (go_at_call 47; (with_reducible refine (impl_distancesTo.calls k W H A0_2 c0_2 l0_2 A2 c2 l2 ds _ (Kd.C_below HL.out HBc.out) hc0_2 (Kd.C_below HA2.out HBc.out) hc2 HDS.out).mono ?_); rintro e w4 ⟨v4, rfl, hS4, hb4⟩; obtain ⟨tb, capt, ev, _, _, _⟩ := Kd.S_form hS4 (by have := HLEN.out; have := HWW.out; omega); subst ev; have HS4 := Lib.hid (show Kd.C (Kd.slice 3 (Kd.int .i64)) w4 (some ⟨tb, 0, none⟩) W ds by have h0 := (Kd.S_reads' hS4).2.2; rw [HLEN.out] at h0; exact h0); rw [HLEN.out]; (try have HX5 := Lib.hid ((hb4.block _ (blk_lt HX5.out)).trans HX5.out)); have HBc := Lib.hid (below_then HBc.out HBc.out.size hb4); have hd0 := pw_cell_below hb4 hd0; have hd1 := pw_cell_below hb4 hd1; have hd2 := pw_cell_below hb4 hd2; clear hb4 hS4)
     | (go_at_call 48; (with_reducible refine (impl_distancesTo.stepMade W H A0_2 l0_2.length c0_2 _).mono ?_); rintro e w5 ⟨B5, rfl, hX5, hb5⟩; have HX5 := Lib.hid hX5; (try have HS4 := Lib.hid (Kd.C_below HS4.out hb5)); have HBc := Lib.hid (below_then HBc.out HBc.out.size hb5); have hd0 := pw_cell_below hb5 hd0; have hd1 := pw_cell_below hb5 hd1; have hd2 := pw_cell_below hb5 hd2; clear hb5 hX5)
     | (go_at_call 46; (with_reducible refine (impl_firstWay.by_ k W H A0_2 c0_2 l0_2 B5 (some ⟨tb, 0, none⟩) capt ds A1 c1 x y r1 _ HWW.out HHH.out HX.out HY.out HSH.out HX5.out (Kd.C_below HL.out HBc.out) hc0_2 HS4.out (Kd.C_below HAX.out HBc.out) hc12 HWAYS.out).mono ?_); rintro e w6 ⟨rfl, hb6⟩; have HB6 := Lib.hid (below_then HBc.out HBc.out.size hb6); have hd0 := pw_cell_below hb6 hd0; have hd1 := pw_cell_below hb6 hd1; have hd2 := pw_cell_below hb6 hd2; clear hb6))
   all_goals
    go_wp2
    go_ret2
    exact ⟨rfl, HB6.out⟩
def laws_eqBlock.f (a0_0 : Int) (a0_1 : Int) (a0_2 : Bool) (a1_0 : Int) (a1_1 : Int) (a1_2 : Bool) : Option (Bool) := if a0_0 = a1_0 then (if a0_1 = a1_1 then (if (a0_2 != a1_2) = true then (some false) else (some true)) else (some false)) else (some false)
set_option maxHeartbeats 8000000 in
set_option maxRecDepth 100000 in
theorem laws_eqBlock.calls (a0_0 : Int) (a0_1 : Int) (a0_2 : Bool) (a1_0 : Int) (a1_1 : Int) (a1_2 : Bool) (r : Bool) (w : World) (h : laws_eqBlock.f a0_0 a0_1 a0_2 a1_0 a1_1 a1_2 = some r) :
  Calls Try.prog 56 #[.agg #[.int .i64 a0_0, .int .i64 a0_1, .bool a0_2], .agg #[.int .i64 a1_0, .int .i64 a1_1, .bool a1_2]] w fun e w' => e = .returned (.bool r) ∧ Below w.heap.size w w' := by
 have hu58 := Try.underlying58
 have HB := Aside0.mk (Below.refl w.heap.size w)
 have H : (if a0_0 = a1_0 then (if a0_1 = a1_1 then (if (a0_2 != a1_2) = true then (some false) else (some true)) else (some false)) else (some false)) = some r := h
 clear h
 by_cases c3 : a0_0 = a1_0
 ·rw [if_pos c3] at H
  have c3b0 : (a0_0 == a1_0) = true := beq_iff_eq.mpr c3
  have c3b1 : (a0_0 != a1_0) = false := bne_eq_false_iff_eq.mpr c3
  clear c3
  by_cases c4 : a0_1 = a1_1
  ·rw [if_pos c4] at H
   have c4b0 : (a0_1 == a1_1) = true := beq_iff_eq.mpr c4
   have c4b1 : (a0_1 != a1_1) = false := bne_eq_false_iff_eq.mpr c4
   clear c4
   by_cases c5 : (a0_2 != a1_2) = true
   ·rw [if_pos c5] at H
    have c5b0 : (a0_2 != a1_2) = true := c5
    (try (have c5b1 : decide (a0_2 = a1_2) = false := by simpa using c5))
    (try (have c5b2 : (a0_2 == a1_2) = false := by simpa using c5))
    (try (have c5b3 : ¬ (a0_2 = a1_2) := by simpa using c5))
    clear c5
    obtain rfl := Option.some.inj H
    go_enter Try.func56, Try.ntmps56
    go_wp2_with (first | ((with_reducible refine gate_dst (N := 2) rfl ?_); refine box_event ?hg (N := 2) ?hd (cs := #[.int .i64 a0_0, .int .i64 a0_1, .bool a0_2]) (t := 58) ?hr ?_; (case hd => rfl); (case hg => rfl); (case hr => first | (go_simp; done) | (go_simp; rfl)); intro gb226 hg w6 hbox hb; have n0_ := Aside0.mk (below_step (by repeat (first | (with_reducible first | exact HB.out | apply below_alloc | apply pw_below_drewN | apply below_drew1) | exact HB.out)) hb); have n1_ := Aside0.mk (hbox); have n2_ := Aside0.mk ((by rw [hg]; exact (below_size (by repeat (first | (with_reducible first | exact HB.out | apply below_alloc | apply pw_below_drewN | apply below_drew1) | exact HB.out))) : w.heap.size ≤ gb226)); have n3_ := Aside0.mk ((by rw [hg]; exact (below_size (by repeat (first | (with_reducible first | exact HB.out | apply below_alloc | apply pw_below_drewN | apply below_drew1) | exact HB.out))) : w.heap.size ≤ gb226)); clear HB; have HB := n0_; have BK226 := n1_; have GW226 := n2_; have GE226 := n3_; clear n0_ n1_ n2_ n3_; clear hb hbox hg) | ((with_reducible refine gate_dst (N := 3) rfl ?_); refine box_event ?hg (N := 3) ?hd (cs := #[.int .i64 a1_0, .int .i64 a1_1, .bool a1_2]) (t := 58) ?hr ?_; (case hd => rfl); (case hg => rfl); (case hr => first | (go_simp; done) | (go_simp; rfl)); intro gb227 hg w7 hbox hb; have n0_ := Aside0.mk (blk_below (g := gb226) (o := .cells #[.int .i64 a0_0, .int .i64 a0_1, .bool a0_2] 58 (0, 0)) (by (with_reducible repeat (first | refine blk_drewN ?_ _ | refine blk_drew ?_ | refine blk_alloc ?_ _)); exact BK226.out) hb); have n1_ := Aside0.mk (below_step (by repeat (first | (with_reducible first | exact HB.out | apply below_alloc | apply pw_below_drewN | apply below_drew1 | refine below_set ?_ GE226.out) | exact HB.out)) hb); have n2_ := Aside0.mk (hbox); have n3_ := Aside0.mk ((by rw [hg]; exact (below_size (by repeat (first | (with_reducible first | exact HB.out | apply below_alloc | apply pw_below_drewN | apply below_drew1 | refine below_set ?_ GE226.out) | exact HB.out))) : w.heap.size ≤ gb227)); have n4_ := Aside0.mk ((by rw [hg]; exact (below_size (by repeat (first | (with_reducible first | exact HB.out | apply below_alloc | apply pw_below_drewN | apply below_drew1 | refine below_set ?_ GE226.out) | exact HB.out))) : w.heap.size ≤ gb227)); have n5_ := Aside0.mk ((by rw [hg]; exact Nat.ne_of_lt (blk_lt (g := gb226) (o := .cells #[.int .i64 a0_0, .int .i64 a0_1, .bool a0_2] 58 (0, 0)) (by (with_reducible repeat (first | refine blk_drewN ?_ _ | refine blk_drew ?_ | refine blk_alloc ?_ _)); exact BK226.out)) : gb226 ≠ gb227)); have n6_ := Aside0.mk ((by rw [hg]; exact Nat.ne_of_gt (blk_lt (g := gb226) (o := .cells #[.int .i64 a0_0, .int .i64 a0_1, .bool a0_2] 58 (0, 0)) (by (with_reducible repeat (first | refine blk_drewN ?_ _ | refine blk_drew ?_ | refine blk_alloc ?_ _)); exact BK226.out)) : gb227 ≠ gb226)); clear BK226; clear HB; have BK226 := n0_; have HB := n1_; have BK227 := n2_; have GW227 := n3_; have GE227 := n4_; have NB226_227 := n5_; have NB227_226 := n6_; clear n0_ n1_ n2_ n3_ n4_ n5_ n6_; clear hb hbox hg; have hnb8 := NB226_227.out; have hnc8 := NB227_226.out; have hcz9_0 : w7.cell? ⟨gb226, 0, none⟩ = some (.int .i64 a0_0) := (blk_cell BK226.out 0).trans rfl; have hcz9_1 : w7.cell? ⟨gb226, 1, none⟩ = some (.int .i64 a0_1) := (blk_cell BK226.out 1).trans rfl; have hcz9_2 : w7.cell? ⟨gb226, 2, none⟩ = some (.bool a0_2) := (blk_cell BK226.out 2).trans rfl; have hfz9_0 := blk_frozen BK226.out 0; have hfz9_1 := blk_frozen BK226.out 1; have hfz9_2 := blk_frozen BK226.out 2; have hcz10_0 : w7.cell? ⟨gb227, 0, none⟩ = some (.int .i64 a1_0) := (blk_cell BK227.out 0).trans rfl; have hcz10_1 : w7.cell? ⟨gb227, 1, none⟩ = some (.int .i64 a1_1) := (blk_cell BK227.out 1).trans rfl; have hcz10_2 : w7.cell? ⟨gb227, 2, none⟩ = some (.bool a1_2) := (blk_cell BK227.out 2).trans rfl; have hfz10_0 := blk_frozen BK227.out 0; have hfz10_1 := blk_frozen BK227.out 1; have hfz10_2 := blk_frozen BK227.out 2))
    go_ret
    exact ⟨by first | rfl | (simp [errW_none, errW_some] <;> rfl) | (simp [*, errW_none, errW_some] <;> rfl), by repeat (first | (with_reducible first | exact HB.out | apply below_alloc | apply pw_below_drewN | apply below_drew1 | refine below_set ?_ GE226.out | refine below_set ?_ GE227.out) | exact HB.out)⟩
   ·rw [if_neg c5] at H
    have c5b0 : (a0_2 != a1_2) = false := by simpa using c5
    (try (have c5b1 : decide (a0_2 = a1_2) = true := by simpa using c5))
    (try (have c5b2 : (a0_2 == a1_2) = true := by simpa using c5))
    clear c5
    obtain rfl := Option.some.inj H
    go_enter Try.func56, Try.ntmps56
    go_wp2_with (first | ((with_reducible refine gate_dst (N := 2) rfl ?_); refine box_event ?hg (N := 2) ?hd (cs := #[.int .i64 a0_0, .int .i64 a0_1, .bool a0_2]) (t := 58) ?hr ?_; (case hd => rfl); (case hg => rfl); (case hr => first | (go_simp; done) | (go_simp; rfl)); intro gb226 hg w11 hbox hb; have n0_ := Aside0.mk (below_step (by repeat (first | (with_reducible first | exact HB.out | apply below_alloc | apply pw_below_drewN | apply below_drew1) | exact HB.out)) hb); have n1_ := Aside0.mk (hbox); have n2_ := Aside0.mk ((by rw [hg]; exact (below_size (by repeat (first | (with_reducible first | exact HB.out | apply below_alloc | apply pw_below_drewN | apply below_drew1) | exact HB.out))) : w.heap.size ≤ gb226)); have n3_ := Aside0.mk ((by rw [hg]; exact (below_size (by repeat (first | (with_reducible first | exact HB.out | apply below_alloc | apply pw_below_drewN | apply below_drew1) | exact HB.out))) : w.heap.size ≤ gb226)); clear HB; have HB := n0_; have BK226 := n1_; have GW226 := n2_; have GE226 := n3_; clear n0_ n1_ n2_ n3_; clear hb hbox hg) | ((with_reducible refine gate_dst (N := 3) rfl ?_); refine box_event ?hg (N := 3) ?hd (cs := #[.int .i64 a1_0, .int .i64 a1_1, .bool a1_2]) (t := 58) ?hr ?_; (case hd => rfl); (case hg => rfl); (case hr => first | (go_simp; done) | (go_simp; rfl)); intro gb227 hg w12 hbox hb; have n0_ := Aside0.mk (blk_below (g := gb226) (o := .cells #[.int .i64 a0_0, .int .i64 a0_1, .bool a0_2] 58 (0, 0)) (by (with_reducible repeat (first | refine blk_drewN ?_ _ | refine blk_drew ?_ | refine blk_alloc ?_ _)); exact BK226.out) hb); have n1_ := Aside0.mk (below_step (by repeat (first | (with_reducible first | exact HB.out | apply below_alloc | apply pw_below_drewN | apply below_drew1 | refine below_set ?_ GE226.out) | exact HB.out)) hb); have n2_ := Aside0.mk (hbox); have n3_ := Aside0.mk ((by rw [hg]; exact (below_size (by repeat (first | (with_reducible first | exact HB.out | apply below_alloc | apply pw_below_drewN | apply below_drew1 | refine below_set ?_ GE226.out) | exact HB.out))) : w.heap.size ≤ gb227)); have n4_ := Aside0.mk ((by rw [hg]; exact (below_size (by repeat (first | (with_reducible first | exact HB.out | apply below_alloc | apply pw_below_drewN | apply below_drew1 | refine below_set ?_ GE226.out) | exact HB.out))) : w.heap.size ≤ gb227)); have n5_ := Aside0.mk ((by rw [hg]; exact Nat.ne_of_lt (blk_lt (g := gb226) (o := .cells #[.int .i64 a0_0, .int .i64 a0_1, .bool a0_2] 58 (0, 0)) (by (with_reducible repeat (first | refine blk_drewN ?_ _ | refine blk_drew ?_ | refine blk_alloc ?_ _)); exact BK226.out)) : gb226 ≠ gb227)); have n6_ := Aside0.mk ((by rw [hg]; exact Nat.ne_of_gt (blk_lt (g := gb226) (o := .cells #[.int .i64 a0_0, .int .i64 a0_1, .bool a0_2] 58 (0, 0)) (by (with_reducible repeat (first | refine blk_drewN ?_ _ | refine blk_drew ?_ | refine blk_alloc ?_ _)); exact BK226.out)) : gb227 ≠ gb226)); clear BK226; clear HB; have BK226 := n0_; have HB := n1_; have BK227 := n2_; have GW227 := n3_; have GE227 := n4_; have NB226_227 := n5_; have NB227_226 := n6_; clear n0_ n1_ n2_ n3_ n4_ n5_ n6_; clear hb hbox hg; have hnb13 := NB226_227.out; have hnc13 := NB227_226.out; have hcz14_0 : w12.cell? ⟨gb226, 0, none⟩ = some (.int .i64 a0_0) := (blk_cell BK226.out 0).trans rfl; have hcz14_1 : w12.cell? ⟨gb226, 1, none⟩ = some (.int .i64 a0_1) := (blk_cell BK226.out 1).trans rfl; have hcz14_2 : w12.cell? ⟨gb226, 2, none⟩ = some (.bool a0_2) := (blk_cell BK226.out 2).trans rfl; have hfz14_0 := blk_frozen BK226.out 0; have hfz14_1 := blk_frozen BK226.out 1; have hfz14_2 := blk_frozen BK226.out 2; have hcz15_0 : w12.cell? ⟨gb227, 0, none⟩ = some (.int .i64 a1_0) := (blk_cell BK227.out 0).trans rfl; have hcz15_1 : w12.cell? ⟨gb227, 1, none⟩ = some (.int .i64 a1_1) := (blk_cell BK227.out 1).trans rfl; have hcz15_2 : w12.cell? ⟨gb227, 2, none⟩ = some (.bool a1_2) := (blk_cell BK227.out 2).trans rfl; have hfz15_0 := blk_frozen BK227.out 0; have hfz15_1 := blk_frozen BK227.out 1; have hfz15_2 := blk_frozen BK227.out 2))
    go_ret
    exact ⟨by first | rfl | (simp [errW_none, errW_some] <;> rfl) | (simp [*, errW_none, errW_some] <;> rfl), by repeat (first | (with_reducible first | exact HB.out | apply below_alloc | apply pw_below_drewN | apply below_drew1 | refine below_set ?_ GE226.out | refine below_set ?_ GE227.out) | exact HB.out)⟩
  ·rw [if_neg c4] at H
   have c4b0 : (a0_1 == a1_1) = false := beq_eq_false_iff_ne.mpr c4
   have c4b1 : (a0_1 != a1_1) = true := bne_iff_ne.mpr c4
   obtain rfl := Option.some.inj H
   go_enter Try.func56, Try.ntmps56
   go_wp2_with (first | ((with_reducible refine gate_dst (N := 2) rfl ?_); refine box_event ?hg (N := 2) ?hd (cs := #[.int .i64 a0_0, .int .i64 a0_1, .bool a0_2]) (t := 58) ?hr ?_; (case hd => rfl); (case hg => rfl); (case hr => first | (go_simp; done) | (go_simp; rfl)); intro gb226 hg w16 hbox hb; have n0_ := Aside0.mk (below_step (by repeat (first | (with_reducible first | exact HB.out | apply below_alloc | apply pw_below_drewN | apply below_drew1) | exact HB.out)) hb); have n1_ := Aside0.mk (hbox); have n2_ := Aside0.mk ((by rw [hg]; exact (below_size (by repeat (first | (with_reducible first | exact HB.out | apply below_alloc | apply pw_below_drewN | apply below_drew1) | exact HB.out))) : w.heap.size ≤ gb226)); have n3_ := Aside0.mk ((by rw [hg]; exact (below_size (by repeat (first | (with_reducible first | exact HB.out | apply below_alloc | apply pw_below_drewN | apply below_drew1) | exact HB.out))) : w.heap.size ≤ gb226)); clear HB; have HB := n0_; have BK226 := n1_; have GW226 := n2_; have GE226 := n3_; clear n0_ n1_ n2_ n3_; clear hb hbox hg) | ((with_reducible refine gate_dst (N := 3) rfl ?_); refine box_event ?hg (N := 3) ?hd (cs := #[.int .i64 a1_0, .int .i64 a1_1, .bool a1_2]) (t := 58) ?hr ?_; (case hd => rfl); (case hg => rfl); (case hr => first | (go_simp; done) | (go_simp; rfl)); intro gb227 hg w17 hbox hb; have n0_ := Aside0.mk (blk_below (g := gb226) (o := .cells #[.int .i64 a0_0, .int .i64 a0_1, .bool a0_2] 58 (0, 0)) (by (with_reducible repeat (first | refine blk_drewN ?_ _ | refine blk_drew ?_ | refine blk_alloc ?_ _)); exact BK226.out) hb); have n1_ := Aside0.mk (below_step (by repeat (first | (with_reducible first | exact HB.out | apply below_alloc | apply pw_below_drewN | apply below_drew1 | refine below_set ?_ GE226.out) | exact HB.out)) hb); have n2_ := Aside0.mk (hbox); have n3_ := Aside0.mk ((by rw [hg]; exact (below_size (by repeat (first | (with_reducible first | exact HB.out | apply below_alloc | apply pw_below_drewN | apply below_drew1 | refine below_set ?_ GE226.out) | exact HB.out))) : w.heap.size ≤ gb227)); have n4_ := Aside0.mk ((by rw [hg]; exact (below_size (by repeat (first | (with_reducible first | exact HB.out | apply below_alloc | apply pw_below_drewN | apply below_drew1 | refine below_set ?_ GE226.out) | exact HB.out))) : w.heap.size ≤ gb227)); have n5_ := Aside0.mk ((by rw [hg]; exact Nat.ne_of_lt (blk_lt (g := gb226) (o := .cells #[.int .i64 a0_0, .int .i64 a0_1, .bool a0_2] 58 (0, 0)) (by (with_reducible repeat (first | refine blk_drewN ?_ _ | refine blk_drew ?_ | refine blk_alloc ?_ _)); exact BK226.out)) : gb226 ≠ gb227)); have n6_ := Aside0.mk ((by rw [hg]; exact Nat.ne_of_gt (blk_lt (g := gb226) (o := .cells #[.int .i64 a0_0, .int .i64 a0_1, .bool a0_2] 58 (0, 0)) (by (with_reducible repeat (first | refine blk_drewN ?_ _ | refine blk_drew ?_ | refine blk_alloc ?_ _)); exact BK226.out)) : gb227 ≠ gb226)); clear BK226; clear HB; have BK226 := n0_; have HB := n1_; have BK227 := n2_; have GW227 := n3_; have GE227 := n4_; have NB226_227 := n5_; have NB227_226 := n6_; clear n0_ n1_ n2_ n3_ n4_ n5_ n6_; clear hb hbox hg; have hnb18 := NB226_227.out; have hnc18 := NB227_226.out; have hcz19_0 : w17.cell? ⟨gb226, 0, none⟩ = some (.int .i64 a0_0) := (blk_cell BK226.out 0).trans rfl; have hcz19_1 : w17.cell? ⟨gb226, 1, none⟩ = some (.int .i64 a0_1) := (blk_cell BK226.out 1).trans rfl; have hcz19_2 : w17.cell? ⟨gb226, 2, none⟩ = some (.bool a0_2) := (blk_cell BK226.out 2).trans rfl; have hfz19_0 := blk_frozen BK226.out 0; have hfz19_1 := blk_frozen BK226.out 1; have hfz19_2 := blk_frozen BK226.out 2; have hcz20_0 : w17.cell? ⟨gb227, 0, none⟩ = some (.int .i64 a1_0) := (blk_cell BK227.out 0).trans rfl; have hcz20_1 : w17.cell? ⟨gb227, 1, none⟩ = some (.int .i64 a1_1) := (blk_cell BK227.out 1).trans rfl; have hcz20_2 : w17.cell? ⟨gb227, 2, none⟩ = some (.bool a1_2) := (blk_cell BK227.out 2).trans rfl; have hfz20_0 := blk_frozen BK227.out 0; have hfz20_1 := blk_frozen BK227.out 1; have hfz20_2 := blk_frozen BK227.out 2))
   go_ret
   exact ⟨by first | rfl | (simp [errW_none, errW_some] <;> rfl) | (simp [*, errW_none, errW_some] <;> rfl), by repeat (first | (with_reducible first | exact HB.out | apply below_alloc | apply pw_below_drewN | apply below_drew1 | refine below_set ?_ GE226.out | refine below_set ?_ GE227.out) | exact HB.out)⟩
 ·rw [if_neg c3] at H
  have c3b0 : (a0_0 == a1_0) = false := beq_eq_false_iff_ne.mpr c3
  have c3b1 : (a0_0 != a1_0) = true := bne_iff_ne.mpr c3
  obtain rfl := Option.some.inj H
  go_enter Try.func56, Try.ntmps56
  go_wp2_with (first | ((with_reducible refine gate_dst (N := 2) rfl ?_); refine box_event ?hg (N := 2) ?hd (cs := #[.int .i64 a0_0, .int .i64 a0_1, .bool a0_2]) (t := 58) ?hr ?_; (case hd => rfl); (case hg => rfl); (case hr => first | (go_simp; done) | (go_simp; rfl)); intro gb226 hg w21 hbox hb; have n0_ := Aside0.mk (below_step (by repeat (first | (with_reducible first | exact HB.out | apply below_alloc | apply pw_below_drewN | apply below_drew1) | exact HB.out)) hb); have n1_ := Aside0.mk (hbox); have n2_ := Aside0.mk ((by rw [hg]; exact (below_size (by repeat (first | (with_reducible first | exact HB.out | apply below_alloc | apply pw_below_drewN | apply below_drew1) | exact HB.out))) : w.heap.size ≤ gb226)); have n3_ := Aside0.mk ((by rw [hg]; exact (below_size (by repeat (first | (with_reducible first | exact HB.out | apply below_alloc | apply pw_below_drewN | apply below_drew1) | exact HB.out))) : w.heap.size ≤ gb226)); clear HB; have HB := n0_; have BK226 := n1_; have GW226 := n2_; have GE226 := n3_; clear n0_ n1_ n2_ n3_; clear hb hbox hg) | ((with_reducible refine gate_dst (N := 3) rfl ?_); refine box_event ?hg (N := 3) ?hd (cs := #[.int .i64 a1_0, .int .i64 a1_1, .bool a1_2]) (t := 58) ?hr ?_; (case hd => rfl); (case hg => rfl); (case hr => first | (go_simp; done) | (go_simp; rfl)); intro gb227 hg w22 hbox hb; have n0_ := Aside0.mk (blk_below (g := gb226) (o := .cells #[.int .i64 a0_0, .int .i64 a0_1, .bool a0_2] 58 (0, 0)) (by (with_reducible repeat (first | refine blk_drewN ?_ _ | refine blk_drew ?_ | refine blk_alloc ?_ _)); exact BK226.out) hb); have n1_ := Aside0.mk (below_step (by repeat (first | (with_reducible first | exact HB.out | apply below_alloc | apply pw_below_drewN | apply below_drew1 | refine below_set ?_ GE226.out) | exact HB.out)) hb); have n2_ := Aside0.mk (hbox); have n3_ := Aside0.mk ((by rw [hg]; exact (below_size (by repeat (first | (with_reducible first | exact HB.out | apply below_alloc | apply pw_below_drewN | apply below_drew1 | refine below_set ?_ GE226.out) | exact HB.out))) : w.heap.size ≤ gb227)); have n4_ := Aside0.mk ((by rw [hg]; exact (below_size (by repeat (first | (with_reducible first | exact HB.out | apply below_alloc | apply pw_below_drewN | apply below_drew1 | refine below_set ?_ GE226.out) | exact HB.out))) : w.heap.size ≤ gb227)); have n5_ := Aside0.mk ((by rw [hg]; exact Nat.ne_of_lt (blk_lt (g := gb226) (o := .cells #[.int .i64 a0_0, .int .i64 a0_1, .bool a0_2] 58 (0, 0)) (by (with_reducible repeat (first | refine blk_drewN ?_ _ | refine blk_drew ?_ | refine blk_alloc ?_ _)); exact BK226.out)) : gb226 ≠ gb227)); have n6_ := Aside0.mk ((by rw [hg]; exact Nat.ne_of_gt (blk_lt (g := gb226) (o := .cells #[.int .i64 a0_0, .int .i64 a0_1, .bool a0_2] 58 (0, 0)) (by (with_reducible repeat (first | refine blk_drewN ?_ _ | refine blk_drew ?_ | refine blk_alloc ?_ _)); exact BK226.out)) : gb227 ≠ gb226)); clear BK226; clear HB; have BK226 := n0_; have HB := n1_; have BK227 := n2_; have GW227 := n3_; have GE227 := n4_; have NB226_227 := n5_; have NB227_226 := n6_; clear n0_ n1_ n2_ n3_ n4_ n5_ n6_; clear hb hbox hg; have hnb23 := NB226_227.out; have hnc23 := NB227_226.out; have hcz24_0 : w22.cell? ⟨gb226, 0, none⟩ = some (.int .i64 a0_0) := (blk_cell BK226.out 0).trans rfl; have hcz24_1 : w22.cell? ⟨gb226, 1, none⟩ = some (.int .i64 a0_1) := (blk_cell BK226.out 1).trans rfl; have hcz24_2 : w22.cell? ⟨gb226, 2, none⟩ = some (.bool a0_2) := (blk_cell BK226.out 2).trans rfl; have hfz24_0 := blk_frozen BK226.out 0; have hfz24_1 := blk_frozen BK226.out 1; have hfz24_2 := blk_frozen BK226.out 2; have hcz25_0 : w22.cell? ⟨gb227, 0, none⟩ = some (.int .i64 a1_0) := (blk_cell BK227.out 0).trans rfl; have hcz25_1 : w22.cell? ⟨gb227, 1, none⟩ = some (.int .i64 a1_1) := (blk_cell BK227.out 1).trans rfl; have hcz25_2 : w22.cell? ⟨gb227, 2, none⟩ = some (.bool a1_2) := (blk_cell BK227.out 2).trans rfl; have hfz25_0 := blk_frozen BK227.out 0; have hfz25_1 := blk_frozen BK227.out 1; have hfz25_2 := blk_frozen BK227.out 2))
  go_ret
  exact ⟨by first | rfl | (simp [errW_none, errW_some] <;> rfl) | (simp [*, errW_none, errW_some] <;> rfl), by repeat (first | (with_reducible first | exact HB.out | apply below_alloc | apply pw_below_drewN | apply below_drew1 | refine below_set ?_ GE226.out | refine below_set ?_ GE227.out) | exact HB.out)⟩
end Go.Proofs.Ytpedofomfhmnfaa.PFnExactFirstShortestWay
