/- Cut by wip/cut.py out of the texts of this claim (printed by the kit's printer, or this session's own): what the row's theorem does not reach is struck. Not trusted: Lean checks it. -/
import Derived.Test.YtpedofomfhmnfaaZFnExactCountShortestWaysPx0
import Derived.Test.YtpedofomfhmnfaaZFnExactCountShortestWaysPx11
import Derived.Test.YtpedofomfhmnfaaZFnExactCountShortestWaysPx12
namespace Go.Proofs.Ytpedofomfhmnfaa.PFnExactCountShortestWays
open Go.RowKit Go.Proofs.YtpedofomfhmnfaaW.PrintWords Go.Proofs.YtpedofomfhmnfaaW.PrintLast Go.Proofs.YtpedofomfhmnfaaW.PrintMore
attribute [local go_sem] max2_int min2_int max_two min_two max_three min_three max_four min_four
set_option linter.unusedVariables false
set_option linter.unusedSimpArgs false
def impl_distanceIn.f (k : Nat) (a0_0 : Int) (a0_1 : Int) (l0_2 : List (S58)) (l1 : List Int) (l2 : List Int) : Option (Int × Bool) := (impl_distancesTo.f k a0_0 a0_1 l0_2 l2).bind fun t241 => (if 0 < (l1.length : Int) then (if 0 ≤ (rd l1 0) then (if (rd l1 0) < (t241.length : Int) then (if 1 < (l1.length : Int) then (if 0 ≤ (rd l1 1) then (if (rd l1 1) < ((rd_L6 t241 (rd l1 0)).length : Int) then (some (mx 0 (rd (rd_L6 t241 (rd l1 0)) (rd l1 1)), decide ((rd (rd_L6 t241 (rd l1 0)) (rd l1 1)) ≥ 0))) else (none)) else (none)) else (none)) else (none)) else (none)) else (none))
theorem impl_distanceIn.mono : ∀ a0 a1 a2 a3 a4 k, LeO (impl_distanceIn.f k a0 a1 a2 a3 a4) (impl_distanceIn.f (k + 1) a0 a1 a2 a3 a4) := fun a0 a1 a2 a3 a4 k => LeO.bind (impl_distancesTo.mono _ _ _ _ _) (fun _ => LeO.refl _)
theorem impl_distanceIn.parts {g : List (List Int)} {l1 : List Int} {r1 : Int} {r2 : Bool} (h : (if 0 < (l1.length : Int) then (if 0 ≤ (rd l1 0) then (if (rd l1 0) < (g.length : Int) then (if 1 < (l1.length : Int) then (if 0 ≤ (rd l1 1) then (if (rd l1 1) < ((rd_L6 g (rd l1 0)).length : Int) then (some (mx 0 (rd (rd_L6 g (rd l1 0)) (rd l1 1)), decide ((rd (rd_L6 g (rd l1 0)) (rd l1 1)) ≥ 0))) else (none)) else (none)) else (none)) else (none)) else (none)) else (none)) = some (r1, r2)) :
  ∃ i j : Nat, rd l1 0 = (i : Int) ∧ rd l1 1 = (j : Int) ∧ i < g.length ∧ 1 < l1.length ∧ j < (g.getD i []).length ∧ r1 = mx 0 (rd (g.getD i []) (j : Int)) ∧ r2 = decide (0 ≤ rd (g.getD i []) (j : Int)) := by
 by_cases c1 : 0 < (l1.length : Int)
 ·rw [if_pos c1] at h
  by_cases c2 : 0 ≤ rd l1 0
  ·rw [if_pos c2] at h
   by_cases c3 : rd l1 0 < (g.length : Int)
   ·rw [if_pos c3] at h
    by_cases c4 : 1 < (l1.length : Int)
    ·rw [if_pos c4] at h
     by_cases c5 : 0 ≤ rd l1 1
     ·rw [if_pos c5] at h
      by_cases c6 : rd l1 1 < ((rd_L6 g (rd l1 0)).length : Int)
      ·rw [if_pos c6] at h
       simp only [Option.some.injEq, Prod.mk.injEq] at h
       obtain ⟨i, hi⟩ : ∃ n : Nat, rd l1 0 = (n : Int) := ⟨(rd l1 0).toNat, by omega⟩
       obtain ⟨j, hj⟩ : ∃ n : Nat, rd l1 1 = (n : Int) := ⟨(rd l1 1).toNat, by omega⟩
       rw [hi, hj] at h c6
       rw [hi] at c3
       have c7 : (j : Int) < ((g.getD i []).length : Int) := c6
       exact ⟨i, j, hi, hj, by omega, by omega, by omega, h.1.symm, h.2.symm⟩
      ·rw [if_neg c6] at h; cases h
     ·rw [if_neg c5] at h; cases h
    ·rw [if_neg c4] at h; cases h
   ·rw [if_neg c3] at h; cases h
  ·rw [if_neg c2] at h; cases h
 ·rw [if_neg c1] at h; cases h
set_option maxHeartbeats 4000000 in
set_option maxRecDepth 100000 in
theorem impl_distanceIn.calls (k : Nat) (a0_0 : Int) (a0_1 : Int) (A0_2 : Option Addr) (c0_2 : Nat) (l0_2 : List (S58)) (A1 : Option Addr) (c1 : Nat) (l1 : List Int) (A2 : Option Addr) (c2 : Nat) (l2 : List Int) (r1 : Int) (r2 : Bool) (w : World) (hr0_2 : Kd.C k58 w A0_2 l0_2.length l0_2) (hc0_2 : l0_2.length ≤ c0_2) (hr1 : Kd.C (Kd.int .i64) w A1 l1.length l1) (hc1 : l1.length ≤ c1) (hr2 : Kd.C (Kd.int .i64) w A2 l2.length l2) (hc2 : l2.length ≤ c2) (h : impl_distanceIn.f k a0_0 a0_1 l0_2 l1 l2 = some (r1, r2)) :
    Calls Try.prog 45 #[.agg #[.int .i64 a0_0, .int .i64 a0_1, .slice A0_2 l0_2.length c0_2], .slice A1 l1.length c1, .slice A2 l2.length c2] w fun e w' => e = .returned (.tuple #[.int .i64 r1, .bool r2]) ∧ Below w.heap.size w w' := by
  have hu := Try.underlying31
  unfold impl_distanceIn.f at h
  obtain ⟨g, hf, h⟩ := Option.bind_eq_some_iff.mp h
  obtain ⟨i, j, ei, ej, hig, hl1, hjr, rfl, rfl⟩ := impl_distanceIn.parts h
  clear h
  obtain ⟨ad, rfl, hx⟩ := Kd.at_int hr1 0 (by decide) (by omega)
  obtain ⟨ad', e', hy⟩ := Kd.at_int hr1 1 (by decide) (by omega)
  obtain rfl := Option.some.inj e'
  have hx0 : w.cell? ad = some (.int .i64 (i : Int)) := by
    have h0 : w.cell? (ad.add 0) = some (.int .i64 (rd l1 0)) := hx
    rw [ei] at h0
    rwa [show ad.add 0 = ad by simp [Addr.add]] at h0
  have hy0 : w.cell? ⟨ad.block, ad.off + 1, none⟩ = some (.int .i64 (j : Int)) := by
    have h0 : w.cell? (ad.add 1) = some (.int .i64 (rd l1 1)) := hy
    rw [ej] at h0
    rwa [show ad.add 1 = ⟨ad.block, ad.off + 1, none⟩ by simp [Addr.add]] at h0
  clear hx hy ei ej
  obtain ⟨R, hR⟩ : ∃ R, rd (g.getD i []) (j : Int) = R := ⟨_, rfl⟩
  have P1 : 1 < l1.length := hl1
  have P2 : (1 : Int) < (l1.length : Int) := by omega
  have P3 : (1 : Int) ≤ (l1.length : Int) := by omega
  have P4 : (0 : Int) < (l1.length : Int) := by omega
  have P0 : 0 < l1.length := by omega
  obtain ⟨gn, hgn⟩ : ∃ gn, g.length = gn := ⟨_, rfl⟩
  obtain ⟨rn, hrn⟩ : ∃ rn, (g.getD i []).length = rn := ⟨_, rfl⟩
  have Q1 : (i : Int) < (gn : Int) := by omega
  have Q2 : i < gn := by omega
  have Q3 : (0 : Int) ≤ (i : Int) := by omega
  have Q6 : (j : Int) < (rn : Int) := by omega
  have Q7 : j < rn := by omega
  have Q8 : (0 : Int) ≤ (j : Int) := by omega
  have HF := Lib.hid hf
  have HL := Lib.hid hr0_2
  have HA := Lib.hid hr2
  have HGN := Lib.hid hgn
  have HRN := Lib.hid hrn
  have HRR := Lib.hid hR
  rw [hR]
  clear hf hr0_2 hr2 hr1 hgn hrn hR hl1 hig hjr
  generalize hn1 : l1.length = n1 at *
  clear hn1
  obtain ⟨m, hm, hm2⟩ : ∃ m, mx 0 R = m ∧ ((0 ≤ R ∧ m = R) ∨ (¬ 0 ≤ R ∧ m = 0)) := ⟨_, rfl, by unfold mx; split <;> omega⟩
  rw [hm]
  have HM2 := Lib.hid hm2
  clear hm hm2
  go_enter Try.func45, Try.ntmps45
  go_wp2_with fail
  have HV := Lib.hid (show (w.alloc (.cells #[.int .i64 a0_0, .int .i64 a0_1, .slice A0_2 l0_2.length c0_2] 31)).heap[w.heap.size]? = some (.cells #[.int .i64 a0_0, .int .i64 a0_1, .slice A0_2 l0_2.length c0_2] 31 (0, 0)) from blk_new w _)
  have HB := Lib.hid (below_alloc (Below.refl w.heap.size w) (.cells #[.int .i64 a0_0, .int .i64 a0_1, .slice A0_2 l0_2.length c0_2] 31))
  have hx1 := pw_cell_below HB.out hx0
  have hy1 := pw_cell_below HB.out hy0
  generalize (w.alloc (.cells #[.int .i64 a0_0, .int .i64 a0_1, .slice A0_2 l0_2.length c0_2] 31)) = W1 at HV HB hx1 hy1 ⊢
  obtain ⟨B0, hB0⟩ : ∃ B0, B0 = w.heap.size := ⟨_, rfl⟩
  rw [← hB0] at HV ⊢
  clear hB0 hx0 hy0
  have hcz0 : W1.cell? ⟨B0, 0, none⟩ = some (.int .i64 a0_0) := (blk_cell HV.out 0).trans rfl
  have hcz1 : W1.cell? ⟨B0, 1, none⟩ = some (.int .i64 a0_1) := (blk_cell HV.out 1).trans rfl
  have hcz2 : W1.cell? ⟨B0, 2, none⟩ = some (.slice A0_2 l0_2.length c0_2) := (blk_cell HV.out 2).trans rfl
  refine wp_region_held_drew (S := fun w' => w'.cell? ⟨B0, 0, none⟩ = some (.int .i64 a0_0) ∧ w'.cell? ⟨B0, 1, none⟩ = some (.int .i64 a0_1) ∧ w'.cell? ⟨B0, 2, none⟩ = some (.slice A0_2 l0_2.length c0_2) ∧ w'.cell? ad = some (.int .i64 (i : Int)) ∧ w'.cell? ⟨ad.block, ad.off + 1, none⟩ = some (.int .i64 (j : Int))) (by kernel_rfl) ⟨hcz0, hcz1, hcz2, hx1, hy1⟩ (fun hHeld => ?_)
  refine wpAnyH_take (i := 0) (oi := ?_) (v := ?_) ?_ (by kernel_rfl) (by kernel_rfl) (by kernel_rfl) ?_ (Or.inl ⟨?_, ?_⟩) (by assumption) ?_
  rotate_left 2
  focus ((try simp only [List.getElem?_toArray, List.getElem?_cons_succ, List.getElem?_cons_zero]); (first | done | rfl))
  focus exact (fun _ _ _ h => h)
  focus rfl
  focus (intro w hSw; (try dsimp only at hSw); go_simp; (try with_reducible rfl); done)
  (try simp only [Act.put, List.setIfInBounds_toArray, List.set_cons_zero, List.set_cons_succ])
  refine wpAnyH_take (i := 1) (oi := ?_) (v := ?_) ?_ (by kernel_rfl) (by kernel_rfl) (by kernel_rfl) ?_ (Or.inl ⟨?_, ?_⟩) (by assumption) ?_
  rotate_left 2
  focus ((try simp only [List.getElem?_toArray, List.getElem?_cons_succ, List.getElem?_cons_zero]); (first | done | rfl))
  focus exact (fun _ _ _ h => h)
  focus rfl
  focus (intro w hSw; (try dsimp only at hSw); go_simp; (try with_reducible rfl); done)
  (try simp only [Act.put, List.setIfInBounds_toArray, List.set_cons_zero, List.set_cons_succ])
  refine wpAnyH_take (i := 3) (oi := ?_) (v := ?_) ?_ (by kernel_rfl) (by kernel_rfl) (by kernel_rfl) ?_ (Or.inl ⟨?_, ?_⟩) (by assumption) ?_
  rotate_left 2
  focus ((try simp only [List.getElem?_toArray, List.getElem?_cons_succ, List.getElem?_cons_zero]); (first | done | rfl))
  focus exact (fun _ _ _ h => h)
  focus rfl
  focus (intro w hSw; (try dsimp only at hSw); go_simp; (try with_reducible rfl); done)
  (try simp only [Act.put, List.setIfInBounds_toArray, List.set_cons_zero, List.set_cons_succ])
  refine wpAnyH_take (i := 4) (oi := ?_) (v := ?_) ?_ (by kernel_rfl) (by kernel_rfl) (by kernel_rfl) ?_ (Or.inl ⟨?_, ?_⟩) (by assumption) ?_
  rotate_left 2
  focus ((try simp only [List.getElem?_toArray, List.getElem?_cons_succ, List.getElem?_cons_zero]); (first | done | rfl))
  focus exact (fun _ _ _ h => h)
  focus rfl
  focus (intro w hSw; (try dsimp only at hSw); go_simp; (try with_reducible rfl); done)
  (try simp only [Act.put, List.setIfInBounds_toArray, List.set_cons_zero, List.set_cons_succ])
  refine wpAnyH_take (i := 5) (oi := ?_) (v := ?_) ?_ (by kernel_rfl) (by kernel_rfl) (by kernel_rfl) ?_ (Or.inl ⟨?_, ?_⟩) (by assumption) ?_
  rotate_left 2
  focus ((try simp only [List.getElem?_toArray, List.getElem?_cons_succ, List.getElem?_cons_zero]); (first | done | rfl))
  focus exact (fun _ _ _ h => h)
  focus rfl
  focus (intro w hSw; (try dsimp only at hSw); go_simp; (try with_reducible rfl); done)
  (try simp only [Act.put, List.setIfInBounds_toArray, List.set_cons_zero, List.set_cons_succ])
  refine wpAnyH_take (i := 8) (oi := ?_) (v := ?_) ?_ (by kernel_rfl) (by kernel_rfl) (by kernel_rfl) ?_ (Or.inl ⟨?_, ?_⟩) (by assumption) ?_
  rotate_left 2
  focus ((try simp only [List.getElem?_toArray, List.getElem?_cons_succ, List.getElem?_cons_zero]); (first | done | rfl))
  focus exact (fun _ _ _ h => h)
  focus rfl
  focus (intro w hSw; (try dsimp only at hSw); go_simp; (try with_reducible rfl); done)
  (try simp only [Act.put, List.setIfInBounds_toArray, List.set_cons_zero, List.set_cons_succ])
  refine wpAnyH_take (i := 9) (oi := ?_) (v := ?_) ?_ (by kernel_rfl) (by kernel_rfl) (by kernel_rfl) ?_ (Or.inl ⟨?_, ?_⟩) (by assumption) ?_
  rotate_left 2
  focus ((try simp only [List.getElem?_toArray, List.getElem?_cons_succ, List.getElem?_cons_zero]); (first | done | rfl))
  focus exact (fun _ _ _ h => h)
  focus rfl
  focus (intro w hSw; (try dsimp only at hSw); go_simp; (try with_reducible rfl); done)
  (try simp only [Act.put, List.setIfInBounds_toArray, List.set_cons_zero, List.set_cons_succ])
  refine wpAnyH_take (i := 10) (oi := ?_) (v := ?_) ?_ (by kernel_rfl) (by kernel_rfl) (by kernel_rfl) ?_ (Or.inl ⟨?_, ?_⟩) (by assumption) ?_
  rotate_left 2
  focus ((try simp only [List.getElem?_toArray, List.getElem?_cons_succ, List.getElem?_cons_zero]); (first | done | rfl))
  focus exact (fun _ _ _ h => h)
  focus rfl
  focus (intro w hSw; (try dsimp only at hSw); go_simp; (try with_reducible rfl); done)
  (try simp only [Act.put, List.setIfInBounds_toArray, List.set_cons_zero, List.set_cons_succ])
  refine wpAnyH_ready (rs := [2]) (by kernel_rfl) (by simp) ?_
  refine AllReadyH.cons (o := ?_) ?_ (fun K hK => ?_) AllReadyH.nil
  rotate_left 1
  focus ((try simp only [List.getElem?_toArray, List.getElem?_cons_succ, List.getElem?_cons_zero]); (first | done | rfl))
  go_simp
  (go_at_call 47; refine (impl_distancesTo.calls k a0_0 a0_1 A0_2 c0_2 l0_2 A2 c2 l2 g _ (Kd.C_below HL.out (below_drew HB.out)) hc0_2 (Kd.C_below HA.out (below_drew HB.out)) hc2 HF.out).mono ?_; rintro e w2 ⟨v2, rfl, hS2, hb2⟩)
  obtain ⟨gb, gcap, ev, _, _, _⟩ := Kd.S_form hS2 (by have := HGN.out; omega)
  rw [HGN.out] at ev
  subst ev
  obtain ⟨rb, cp, hrow, _, hcells, _⟩ := impl_distancesTo.grid_row hS2 (i := i) Q2 (by have := HRN.out; omega)
  have hcell := (hcells j (by have := HRN.out; omega)).1
  rw [HRN.out] at hrow
  rw [HRR.out] at hcell
  clear hHeld hcells hS2
  refine hK.out _ _ ⟨pw_cell_below hb2 hcz0, pw_cell_below hb2 hcz1, pw_cell_below hb2 hcz2, pw_cell_below hb2 hx1, pw_cell_below hb2 hy1⟩ (fun hHeld => ?_)
  clear hK K
  (try simp only [Act.put, List.setIfInBounds_toArray, List.set_cons_zero, List.set_cons_succ])
  refine wpAnyH_take (i := 6) (oi := ?_) (v := ?_) ?_ (by kernel_rfl) (by kernel_rfl) (by kernel_rfl) ?_ (Or.inl ⟨?_, ?_⟩) (by assumption) ?_
  rotate_left 2
  focus ((try simp only [List.getElem?_toArray, List.getElem?_cons_succ, List.getElem?_cons_zero]); (first | done | rfl))
  focus exact (fun _ _ _ h => h)
  focus rfl
  focus (intro w hSw; (try dsimp only at hSw); go_simp; (try with_reducible rfl); done)
  (try simp only [Act.put, List.setIfInBounds_toArray, List.set_cons_zero, List.set_cons_succ])
  refine wpAnyH_ready (rs := [7]) (by kernel_rfl) (by simp) ?_
  refine AllReadyH.cons (o := ?_) ?_ (fun K hK => ?_) AllReadyH.nil
  rotate_left 1
  focus ((try simp only [List.getElem?_toArray, List.getElem?_cons_succ, List.getElem?_cons_zero]); (first | done | rfl))
  go_simp
  refine hK.out _ _ hHeld (fun hHeld => ?_)
  clear hK K
  (try simp only [Act.put, List.setIfInBounds_toArray, List.set_cons_zero, List.set_cons_succ])
  refine wpAnyH_take (i := 11) (oi := ?_) (v := ?_) ?_ (by kernel_rfl) (by kernel_rfl) (by kernel_rfl) ?_ (Or.inl ⟨?_, ?_⟩) (by assumption) ?_
  rotate_left 2
  focus ((try simp only [List.getElem?_toArray, List.getElem?_cons_succ, List.getElem?_cons_zero]); (first | done | rfl))
  focus exact (fun _ _ _ h => h)
  focus rfl
  focus (intro w hSw; (try dsimp only at hSw); go_simp; (try with_reducible rfl); done)
  (try simp only [Act.put, List.setIfInBounds_toArray, List.set_cons_zero, List.set_cons_succ])
  refine wpAnyH_ready (rs := [12]) (by kernel_rfl) (by simp) ?_
  refine AllReadyH.cons (o := ?_) ?_ (fun K hK => ?_) AllReadyH.nil
  rotate_left 1
  focus ((try simp only [List.getElem?_toArray, List.getElem?_cons_succ, List.getElem?_cons_zero]); (first | done | rfl))
  go_simp
  refine hK.out _ _ hHeld (fun hHeld => ?_)
  clear hK K
  (try simp only [Act.put, List.setIfInBounds_toArray, List.set_cons_zero, List.set_cons_succ])
  refine wpAnyH_take (i := 13) (oi := ?_) (v := ?_) ?_ (by kernel_rfl) (by kernel_rfl) (by kernel_rfl) ?_ (Or.inl ⟨?_, ?_⟩) (by assumption) ?_
  rotate_left 2
  focus ((try simp only [List.getElem?_toArray, List.getElem?_cons_succ, List.getElem?_cons_zero]); (first | done | rfl))
  focus exact (fun _ _ _ h => h)
  focus rfl
  focus (intro w hSw; (try dsimp only at hSw); go_simp; (try with_reducible rfl); done)
  (try simp only [Act.put, List.setIfInBounds_toArray, List.set_cons_zero, List.set_cons_succ])
  refine wpAnyH_done (by kernel_rfl) ?_ _
  have HBF := Lib.hid (below_then (below_drew HB.out) HB.out.size hb2)
  clear hcz0 hcz1 hcz2 hx1 hy1 hrow hcell hb2 hHeld
  rcases HM2.out with ⟨hr, rfl⟩ | ⟨hr, rfl⟩
  · have t1 : decide (0 ≤ m) = true := decide_eq_true hr
    clear HM2
    go_wp2
    all_goals
      go_ret2
      refine ⟨?_, HBF.out⟩
      first
        | rfl
        | (obtain rfl : m = 0 := by omega
           rfl)
  · have t1 : decide (0 ≤ R) = false := decide_eq_false (by omega)
    clear HM2
    go_wp2
    all_goals
      go_ret2
      refine ⟨?_, HBF.out⟩
      first
        | rfl
        | (rw [decide_eq_false (show ¬ 0 ≤ R by omega)]; rfl)
        | (exfalso; omega)
def impl_nearer.f (k : Nat) (W H : Int) (l : List S58) (ds : List (List Int)) (a : List Int) (s : Int) : Option Bool := (impl_stepIn.can k W H l a s).bind fun t => if t = true then (impl_moved.f a s).bind fun b => some (impl_distancesTo.rd2 ds (rd b 0) (rd b 1) == wrap64 (impl_distancesTo.rd2 ds (rd a 0) (rd a 1) - 1)) else some false
theorem impl_nearer.mono (k : Nat) (W H : Int) (l : List S58) (ds : List (List Int)) (a : List Int) (s : Int) : LeO (impl_nearer.f k W H l ds a s) (impl_nearer.f (k + 1) W H l ds a s) := LeO.bind (impl_stepIn.can_mono _ _ _ _ _ _) (fun _ => LeO.refl _)
theorem impl_nearer.at_ {w : World} {A : Option Addr} {n : Nat} {xs : List (List Int)} (h : Kd.C (Kd.slice 3 (Kd.int .i64)) w A n xs) (i : Nat) (h1 : i < n) : ∃ ad A0 c0, A = some ad ∧ w.cell? (ad.add i) = some (.slice A0 (xs.getD i []).length c0) ∧ (xs.getD i []).length ≤ c0 ∧ (Kd.int .i64).C w A0 (xs.getD i []).length (xs.getD i []) := by
 obtain ⟨ad, c, e, _, hK, hc0⟩ := Kd.C_get h ([] : List Int) (i : Int) (by omega) (by omega)
 rw [Int.toNat_natCast] at hK hc0
 have hc : ∀ j u, c[j]? = some u → w.cell? (ad.add (i * 1 + j)) = some u := hc0
 obtain ⟨A0, c0, rfl, l0, g0⟩ := hK
 exact ⟨ad, A0, c0, e, by have hq := hc 0 _ rfl; rwa [Nat.mul_one, Nat.add_zero] at hq, l0, g0⟩
theorem impl_nearer.at2 {w : World} {A : Option Addr} {W H : Nat} {xs : List (List Int)} (hs : impl_distancesTo.shape W H xs = true) (h : Kd.C (Kd.slice 3 (Kd.int .i64)) w A W xs) (i j : Nat) (h1 : i < W) (h2 : j < H) : ∃ ad ar c0, A = some ad ∧ w.cell? (ad.add i) = some (.slice (some ar) H c0) ∧ w.cell? (ar.add j) = some (.int .i64 (impl_distancesTo.rd2 xs (i : Int) (j : Int))) := by
 obtain ⟨ad, A0, c0, e, e1, e2, e3⟩ := impl_nearer.at_ h i h1
 have hl : (xs.getD i []).length = H := by have := (impl_distancesTo.shape_len hs).2 i (by omega); omega
 rw [hl] at e1 e3
 obtain ⟨ar, rfl, hx⟩ := Kd.at_int e3 (j : Int) (by omega) (by omega)
 rw [Int.toNat_natCast] at hx
 refine ⟨ad, ar, c0, e, e1, ?_⟩
 unfold impl_distancesTo.rd2
 rw [Int.toNat_natCast]
 exact hx
theorem impl_nearer.lands {k : Nat} {W H : Nat} {l : List S58} {x y s : Int} (hW : 1 ≤ W ∧ W ≤ 8) (hH : 1 ≤ H ∧ H ≤ 8) (h : impl_stepIn.can k W H l [x, y] s = some true) : ∃ bx by_ : Nat, impl_moved.f [x, y] s = some [(bx : Int), (by_ : Int)] ∧ bx < W ∧ by_ < H := by
 unfold impl_stepIn.can at h
 obtain ⟨b, h1, h2⟩ := Option.bind_eq_some_iff.mp h
 obtain ⟨bx, by_, rfl⟩ : ∃ bx by_, b = [bx, by_] := by
  have h3 := h1
  unfold impl_moved.f at h3
  repeat' split at h3
  all_goals first | exact ⟨_, _, (Option.some.inj h3).symm⟩ | cases h3
 by_cases hin : impl_stepIn.in_ W H bx by_ = true
 ·obtain ⟨h4, h5⟩ := impl_distancesTo.in_t hW hH hin
  exact ⟨bx.toNat, by_.toNat, by rw [h1, Int.toNat_of_nonneg h4.1, Int.toNat_of_nonneg h5.1], by omega, by omega⟩
 ·change (if impl_stepIn.in_ W H bx by_ = true then _ else some false) = some true at h2
  rw [if_neg hin] at h2
  cases h2
set_option maxHeartbeats 8000000 in
set_option maxRecDepth 100000 in
theorem impl_nearer.clo (k W H : Nat) (AL : Option Addr) (cL : Nat) (l : List S58) (B : Nat) (AD : Option Addr) (cD : Nat) (ds : List (List Int)) (A : Option Addr) (c : Nat) (x y : Nat) (s : Int) (r : Bool) (w : World) (hW : 1 ≤ W ∧ W ≤ 8) (hH : 1 ≤ H ∧ H ≤ 8) (hx : x < W) (hy : y < H) (hsh : impl_distancesTo.shape W H ds = true)
  (hB : w.heap[B]? = some (.cells #[.int .i64 W, .int .i64 H, .slice AL l.length cL] 31 (0, 0))) (hL : Kd.C k58 w AL l.length l) (hcL : l.length ≤ cL) (hD : Kd.C (Kd.slice 3 (Kd.int .i64)) w AD W ds) (hr : Kd.C (Kd.int .i64) w A 2 [(x : Int), (y : Int)]) (hc : 2 ≤ c) (h : impl_nearer.f k W H l ds [(x : Int), (y : Int)] s = some r) :
  Calls Try.prog 71 #[.slice AD W cD, .slice A 2 c, .int .i64 s, .func (.func 74) #[] #[.pointer (some ⟨B, 0, none⟩)]] w fun e w' => e = .returned (.bool r) ∧ Below w.heap.size w w' := by
 unfold impl_nearer.f at h
 obtain ⟨t, ht, h⟩ := Option.bind_eq_some_iff.mp h
 have HCLO := Lib.hid (impl_stepIn.clo k W H AL cL l B A c x y s t w hB hL hcL hr hc ht)
 cases t with
 | false =>
  obtain rfl := Option.some.inj h
  clear hB hL hcL hD hr hc h ht hsh hW hH hx hy
  go_enter Try.func71, Try.ntmps71
  go_wp2_with (go_at_call 74; refine HCLO.out.mono ?_; rintro e w3 ⟨rfl, hb3⟩; have HB3 := Lib.hid hb3; clear hb3)
  go_ret
  exact ⟨rfl, HB3.out⟩
 | true =>
  obtain ⟨bx, by_, hm, hbx, hby⟩ := impl_nearer.lands hW hH ht
  change ((impl_moved.f [(x : Int), (y : Int)] s).bind fun b => some (impl_distancesTo.rd2 ds (rd b 0) (rd b 1) == wrap64 (impl_distancesTo.rd2 ds (x : Int) (y : Int) - 1))) = some r at h
  rw [hm] at h
  change some (impl_distancesTo.rd2 ds (bx : Int) (by_ : Int) == wrap64 (impl_distancesTo.rd2 ds (x : Int) (y : Int) - 1)) = some r at h
  obtain rfl := Option.some.inj h
  obtain ⟨adD, ar, cr, rfl, e1, e2⟩ := impl_nearer.at2 hsh hD bx by_ hbx hby
  obtain ⟨adD', ar', cr', e', e3, e4⟩ := impl_nearer.at2 hsh hD x y hx hy
  obtain rfl := Option.some.inj e'
  obtain ⟨ad, rfl, _, e5, e6⟩ := impl_distancesTo.two hr
  have HMV := Lib.hid (fun (w1 : World) (hb : Below w.heap.size w w1) => impl_moved.calls (some ad) c [(x : Int), (y : Int)] s [(bx : Int), (by_ : Int)] w1 (Kd.C_below hr hb) hc hm)
  generalize impl_distancesTo.rd2 ds (bx : Int) (by_ : Int) = R at e2 ⊢
  generalize impl_distancesTo.rd2 ds (x : Int) (y : Int) = D at e4 ⊢
  have HE := Lib.hid (And.intro e1 (And.intro e2 (And.intro e3 (And.intro e4 (And.intro e5 e6)))))
  have q1 : (0 : Int) ≤ (x : Int) := by omega
  have q2 : (x : Int) < (W : Int) := by omega
  have q3 : (0 : Int) ≤ (y : Int) := by omega
  have q4 : (y : Int) < (H : Int) := by omega
  have q5 : (0 : Int) ≤ (bx : Int) := by omega
  have q6 : (bx : Int) < (W : Int) := by omega
  have q7 : (0 : Int) ≤ (by_ : Int) := by omega
  have q8 : (by_ : Int) < (H : Int) := by omega
  clear hB hL hcL hD hr hc h ht hsh hm e1 e2 e3 e4 e5 e6
  go_enter Try.func71, Try.ntmps71
  go_upto_region 4 with (first
   | (go_at_call 74; refine HCLO.out.mono ?_; rintro e w3 ⟨rfl, hb3⟩; have HB3 := Lib.hid hb3; clear hb3)
   | (go_at_call 72; refine (HMV.out _ HB3.out).mono ?_; rintro e w5 ⟨v5, rfl, hR5, hb5⟩; have HR5 := Lib.hid hR5; have HB5 := Lib.hid (below_then HB3.out HB3.out.size hb5); clear hR5 hb5))
  obtain ⟨A5, c5, rfl, _, hC5⟩ := Kd.R_reads HR5.out
  obtain ⟨ad5, rfl, _, f1, f2⟩ := impl_distancesTo.two hC5
  have HBF := HB5
  have e1 := pw_cell_below HB5.out HE.out.1
  have e2 := pw_cell_below HB5.out HE.out.2.1
  have e3 := pw_cell_below HB5.out HE.out.2.2.1
  have e4 := pw_cell_below HB5.out HE.out.2.2.2.1
  have e5 := pw_cell_below HB5.out HE.out.2.2.2.2.1
  have e6 := pw_cell_below HB5.out HE.out.2.2.2.2.2
  clear hC5 HR5 HB5 HE HCLO HMV HB3
  go_quiet (fail)
  go_wp2
  go_ret
  exact ⟨by first | rfl | simp [IntWalk.i64_left], pw_below_drewN HBF.out _⟩
def impl_countWays.it {α : Type} (G : Nat → α → Option α) (s : α) : Nat → Option α
 | 0 => some s
 | j + 1 => (impl_countWays.it G s j).bind (G j)
theorem impl_countWays.it_le {α : Type} {G G' : Nat → α → Option α} (h : ∀ j s, LeO (G j s) (G' j s)) (s : α) : ∀ n, LeO (impl_countWays.it G s n) (impl_countWays.it G' s n)
 | 0 => LeO.refl _
 | n + 1 => LeO.bind (impl_countWays.it_le h s n) (fun _ => h _ _)
theorem impl_countWays.it_at {α : Type} {G : Nat → α → Option α} {s r : α} {n : Nat} (h : impl_countWays.it G s n = some r) : ∀ d j : Nat, j + d = n → ∃ s1, impl_countWays.it G s j = some s1
 | 0, j, hj => ⟨r, by rw [show j = n by omega]; exact h⟩
 | d + 1, j, hj => by
  obtain ⟨s1, h1⟩ := impl_countWays.it_at h d (j + 1) (by omega)
  obtain ⟨s2, h2, _⟩ := Option.bind_eq_some_iff.mp h1
  exact ⟨s2, h2⟩
theorem impl_countWays.it_next {α : Type} {G : Nat → α → Option α} {s r r' : α} {n : Nat} (h : impl_countWays.it G s n = some r) (h' : impl_countWays.it G s (n + 1) = some r') : G n r = some r' := by
 simp only [impl_countWays.it] at h'
 rw [h] at h'
 exact h'
theorem impl_countWays.it_inv {α : Type} {G : Nat → α → Option α} {P : α → Prop} (hG : ∀ j s s', P s → G j s = some s' → P s') {s : α} (h0 : P s) : ∀ {n : Nat} {r : α}, impl_countWays.it G s n = some r → P r
 | 0, r, h => by obtain rfl := Option.some.inj h; exact h0
 | n + 1, r, h => by
  obtain ⟨s2, h2, h3⟩ := Option.bind_eq_some_iff.mp h
  exact hG _ _ _ (impl_countWays.it_inv hG h0 h2) h3
def impl_countWays.one (k W H : Nat) (l : List S58) (ds : List (List Int)) (d x y : Nat) (j : Nat) (c : List (List Int)) : Option (List (List Int)) := if 0 < d then (impl_nearer.f k W H l ds [(x : Int), (y : Int)] j).bind fun t => if t = true then (impl_moved.f [(x : Int), (y : Int)] j).bind fun b => some (impl_distancesTo.set2 c x y (wrap64 (impl_distancesTo.rd2 c x y + impl_distancesTo.rd2 c (rd b 0) (rd b 1)))) else some c else some c
def impl_countWays.first (d x y : Nat) (c : List (List Int)) : List (List Int) := if d = 0 then impl_distancesTo.set2 c x y 1 else c
def impl_countWays.cel (k W H : Nat) (l : List S58) (ds : List (List Int)) (d x : Nat) (y : Nat) (c : List (List Int)) : Option (List (List Int)) := if impl_distancesTo.rd2 ds x y = (d : Int) then impl_countWays.it (impl_countWays.one k W H l ds d x y) (impl_countWays.first d x y c) 4 else some c
def impl_countWays.col (k W H : Nat) (l : List S58) (ds : List (List Int)) (d : Nat) (x : Nat) (c : List (List Int)) : Option (List (List Int)) := impl_countWays.it (impl_countWays.cel k W H l ds d x) c H
def impl_countWays.lay (k W H : Nat) (l : List S58) (ds : List (List Int)) (d : Nat) (c : List (List Int)) : Option (List (List Int)) := impl_countWays.it (impl_countWays.col k W H l ds d) c W
def impl_countWays.f (k W H : Nat) (l : List S58) (ds : List (List Int)) (ax ay : Int) : Option Int := if 0 ≤ impl_distancesTo.rd2 ds ax ay ∧ impl_distancesTo.rd2 ds ax ay ≤ 1000 then (impl_grid.f k W H 0).bind fun g => if impl_distancesTo.shape W H g = true then (impl_countWays.it (impl_countWays.lay k W H l ds) g ((impl_distancesTo.rd2 ds ax ay).toNat + 1)).bind fun s => some (impl_distancesTo.rd2 s ax ay) else none else none
theorem impl_countWays.one_le (k W H : Nat) (l : List S58) (ds : List (List Int)) (d x y j : Nat) (c : List (List Int)) : LeO (impl_countWays.one k W H l ds d x y j c) (impl_countWays.one (k + 1) W H l ds d x y j c) := LeO.ite (LeO.bind (impl_nearer.mono _ _ _ _ _ _ _) (fun _ => LeO.refl _)) (LeO.refl _)
theorem impl_countWays.lay_le (k W H : Nat) (l : List S58) (ds : List (List Int)) (d : Nat) (c : List (List Int)) : LeO (impl_countWays.lay k W H l ds d c) (impl_countWays.lay (k + 1) W H l ds d c) := impl_countWays.it_le (fun _ _ => impl_countWays.it_le (fun _ _ => LeO.ite (impl_countWays.it_le (fun _ _ => impl_countWays.one_le _ _ _ _ _ _ _ _ _ _) _ _) (LeO.refl _)) _ _) _ _
theorem impl_countWays.mono (k W H : Nat) (l : List S58) (ds : List (List Int)) (ax ay : Int) : LeO (impl_countWays.f k W H l ds ax ay) (impl_countWays.f (k + 1) W H l ds ax ay) := LeO.ite (LeO.bind (impl_grid.mono _ _ _ _) (fun _ => LeO.ite (LeO.bind (impl_countWays.it_le (fun _ _ => impl_countWays.lay_le _ _ _ _ _ _ _) _ _) (fun _ => LeO.refl _)) (LeO.refl _))) (LeO.refl _)
theorem impl_countWays.one_shape {k W H : Nat} {l : List S58} {ds : List (List Int)} {d x y j : Nat} {c c' : List (List Int)} (hs : impl_distancesTo.shape W H c = true) (h : impl_countWays.one k W H l ds d x y j c = some c') : impl_distancesTo.shape W H c' = true := by
 unfold impl_countWays.one at h
 split at h
 ·obtain ⟨t, _, h⟩ := Option.bind_eq_some_iff.mp h
  split at h
  ·obtain ⟨b, _, h⟩ := Option.bind_eq_some_iff.mp h
   obtain rfl := Option.some.inj h
   exact impl_distancesTo.shape_set hs _ _ _
  ·obtain rfl := Option.some.inj h; exact hs
 ·obtain rfl := Option.some.inj h; exact hs
theorem impl_countWays.first_shape {W H : Nat} {d x y : Nat} {c : List (List Int)} (hs : impl_distancesTo.shape W H c = true) : impl_distancesTo.shape W H (impl_countWays.first d x y c) = true := by
 unfold impl_countWays.first
 split
 ·exact impl_distancesTo.shape_set hs _ _ _
 ·exact hs
theorem impl_countWays.cel_shape {k W H : Nat} {l : List S58} {ds : List (List Int)} {d x y : Nat} {c c' : List (List Int)} (hs : impl_distancesTo.shape W H c = true) (h : impl_countWays.cel k W H l ds d x y c = some c') : impl_distancesTo.shape W H c' = true := by
 unfold impl_countWays.cel at h
 split at h
 ·exact impl_countWays.it_inv (fun _ _ _ hs h => impl_countWays.one_shape hs h) (impl_countWays.first_shape hs) h
 ·obtain rfl := Option.some.inj h; exact hs
theorem impl_countWays.col_shape {k W H : Nat} {l : List S58} {ds : List (List Int)} {d x : Nat} {c c' : List (List Int)} (hs : impl_distancesTo.shape W H c = true) (h : impl_countWays.col k W H l ds d x c = some c') : impl_distancesTo.shape W H c' = true := impl_countWays.it_inv (fun _ _ _ hs h => impl_countWays.cel_shape hs h) hs h
theorem impl_countWays.lay_shape {k W H : Nat} {l : List S58} {ds : List (List Int)} {d : Nat} {c c' : List (List Int)} (hs : impl_distancesTo.shape W H c = true) (h : impl_countWays.lay k W H l ds d c = some c') : impl_distancesTo.shape W H c' = true := impl_countWays.it_inv (fun _ _ _ hs h => impl_countWays.col_shape hs h) hs h
structure impl_countWays.MV (w wr : World) (a b : Nat) (gv : Value) (g : List (List Int)) : Prop where
  grid : Kd.S (Kd.slice 3 (Kd.int .i64)) 25 wr a (fun k_ => a ≤ k_ ∧ k_ < b) gv g
  bel : Below w.heap.size w wr
  hw : w.heap.size ≤ a
  hb : b ≤ wr.heap.size
section
variable {w wr w1 : World} {a b : Nat} {gv : Value} {g : List (List Int)}
theorem impl_countWays.MV.below (h : impl_countWays.MV w wr a b gv g) (hb : Below wr.heap.size wr w1) : impl_countWays.MV w w1 a b gv g :=
 ⟨Kd.S_below h.grid hb, below_then h.bel h.bel.size hb, h.hw, Nat.le_trans h.hb hb.size⟩
theorem impl_countWays.MV.put (h : impl_countWays.MV w wr a b gv g) {rb : Nat} (hrb : a ≤ rb ∧ rb < b) (j : Nat) (x : Value) {g' : List (List Int)} (hg : Kd.S (Kd.slice 3 (Kd.int .i64)) 25 (wr.setCell ⟨rb, j, none⟩ x) a (fun k_ => a ≤ k_ ∧ k_ < b) gv g') : impl_countWays.MV w (wr.setCell ⟨rb, j, none⟩ x) a b gv g' := by
 have h2 := h.hw
 exact ⟨hg, h.bel.setCell (by simp only; omega) _, h.hw, by simpa using h.hb⟩
theorem impl_countWays.MV.next (h : impl_countWays.MV w wr a b gv g) {gi : Nat} (hgi : b ≤ gi) (hab : a ≤ b) (o : Obj) : impl_countWays.MV w (impl_distancesTo.setIter wr gi o) a b gv g := by
 have h2 := h.hw
 exact ⟨Kd.S_step h.grid (fun k hk _ => impl_distancesTo.setIter_other _ (by omega)), impl_distancesTo.setIter_below h.bel (by omega) _, h.hw, by rw [impl_distancesTo.setIter_size]; exact h.hb⟩
theorem impl_countWays.MV.box (h : impl_countWays.MV w wr a b gv g) {B : Nat} {o : Obj} (hB : w.heap[B]? = some o) (hlt : B < w.heap.size) : wr.heap[B]? = some o := (h.bel.block _ hlt).trans hB
end
theorem impl_countWays.pair_C (w : World) (x y : Int) : Kd.C (Kd.int .i64) (w.alloc (.cells #[.int .i64 x, .int .i64 y] 3)) (some ⟨w.heap.size, 0, none⟩) 2 [x, y] := by
 refine ⟨rfl, by decide, fun _ => ⟨_, rfl, fun j p hj => ?_⟩⟩
 match j, hj with
 | 0, hj =>
  obtain rfl : x = p := Option.some.inj hj
  refine ⟨[.int .i64 x], rfl, rfl, fun i u hu => ?_⟩
  match i, hu with
  | 0, hu => exact (blk_cell (blk_new w (.cells #[.int .i64 x, .int .i64 y] 3)) 0).trans hu
 | 1, hj =>
  obtain rfl : y = p := Option.some.inj hj
  refine ⟨[.int .i64 y], rfl, rfl, fun i u hu => ?_⟩
  match i, hu with
  | 0, hu => exact (blk_cell (blk_new w (.cells #[.int .i64 x, .int .i64 y] 3)) 1).trans hu
theorem impl_countWays.asc : ∀ (m : Nat) (h : m < (⟨#[101, 110, 115, 119]⟩ : ByteArray).size), ((⟨#[101, 110, 115, 119]⟩ : ByteArray)[m]'h).toNat < 128 := impl_distancesTo.asc
theorem impl_countWays.near_can {k W H : Nat} {l : List S58} {ds : List (List Int)} {a : List Int} {s : Int} (h : impl_nearer.f k W H l ds a s = some true) : impl_stepIn.can k W H l a s = some true := by
 unfold impl_nearer.f at h
 obtain ⟨t, ht, h⟩ := Option.bind_eq_some_iff.mp h
 cases t
 ·cases h
 ·exact ht
theorem impl_countWays.one_cases {k W H : Nat} {l : List S58} {ds : List (List Int)} {d x y j : Nat} {c c' : List (List Int)} (hW : 1 ≤ W ∧ W ≤ 8) (hH : 1 ≤ H ∧ H ≤ 8) (h : impl_countWays.one k W H l ds d x y j c = some c') (hd : 0 < d) :
  (impl_nearer.f k W H l ds [(x : Int), (y : Int)] j = some false ∧ c' = c) ∨ (impl_nearer.f k W H l ds [(x : Int), (y : Int)] j = some true ∧ ∃ bx by_ : Nat, impl_moved.f [(x : Int), (y : Int)] j = some [(bx : Int), (by_ : Int)] ∧ bx < W ∧ by_ < H ∧ c' = impl_distancesTo.set2 c x y (wrap64 (impl_distancesTo.rd2 c x y + impl_distancesTo.rd2 c bx by_))) := by
 unfold impl_countWays.one at h
 rw [if_pos hd] at h
 obtain ⟨t, ht, h⟩ := Option.bind_eq_some_iff.mp h
 cases t
 ·exact .inl ⟨ht, (Option.some.inj h).symm⟩
 ·obtain ⟨bx, by_, hm, hbx, hby⟩ := impl_nearer.lands hW hH (impl_countWays.near_can ht)
  rw [if_pos rfl, hm] at h
  exact .inr ⟨ht, bx, by_, hm, hbx, hby, (Option.some.inj h).symm⟩
set_option maxHeartbeats 8000000 in
set_option maxRecDepth 100000 in
theorem impl_countWays.by_ (k W H : Nat) (AL : Option Addr) (cL : Nat) (l : List S58) (B : Nat) (AD : Option Addr) (cD : Nat) (ds : List (List Int)) (A1 : Option Addr) (c1 : Nat) (ax ay : Nat) (r : Int) (w : World) (hW : 1 ≤ W ∧ W ≤ 8) (hH : 1 ≤ H ∧ H ≤ 8) (hx : ax < W) (hy : ay < H) (hsh : impl_distancesTo.shape W H ds = true)
  (hB : w.heap[B]? = some (.cells #[.int .i64 W, .int .i64 H, .slice AL l.length cL] 31 (0, 0))) (hL : Kd.C k58 w AL l.length l) (hcL : l.length ≤ cL) (hD : Kd.C (Kd.slice 3 (Kd.int .i64)) w AD W ds) (hr : Kd.C (Kd.int .i64) w A1 2 [(ax : Int), (ay : Int)]) (hc : 2 ≤ c1) (h : impl_countWays.f k W H l ds ax ay = some r) :
  Calls Try.prog 49 #[.slice AD W cD, .slice A1 2 c1, .func (.func 74) #[] #[.pointer (some ⟨B, 0, none⟩)]] w fun e w' => e = .returned (.int .i64 r) ∧ Below w.heap.size w w' := by
 unfold impl_countWays.f at h
 by_cases hok : 0 ≤ impl_distancesTo.rd2 ds ax ay ∧ impl_distancesTo.rd2 ds ax ay ≤ 1000
 case neg => rw [if_neg hok] at h; cases h
 rw [if_pos hok] at h
 obtain ⟨g0, hg, h⟩ := Option.bind_eq_some_iff.mp h
 by_cases hs0 : impl_distancesTo.shape W H g0 = true
 case neg => rw [if_neg hs0] at h; cases h
 rw [if_pos hs0] at h
 obtain ⟨sF, hsF, h⟩ := Option.bind_eq_some_iff.mp h
 obtain rfl := Option.some.inj h
 clear h
 obtain ⟨Dn, hDn⟩ : ∃ n : Nat, impl_distancesTo.rd2 ds ax ay = (n : Int) := ⟨(impl_distancesTo.rd2 ds ax ay).toNat, by omega⟩
 rw [hDn, Int.toNat_natCast] at hsF
 have hD1 : Dn ≤ 1000 := by omega
 obtain ⟨adD, ar, cr, rfl, e1, e2⟩ := impl_nearer.at2 hsh hD ax ay hx hy
 obtain ⟨adD', ar0, cr0, e', e3, _⟩ := impl_nearer.at2 hsh hD 0 0 (by omega) (by omega)
 obtain rfl := Option.some.inj e'
 rw [show adD.add 0 = adD by simp [Addr.add]] at e3
 obtain ⟨ad, rfl, _, e5, e6⟩ := impl_distancesTo.two hr
 rw [hDn] at e2
 have HE := Lib.hid (And.intro e1 (And.intro e2 (And.intro e5 e6)))
 have HBX := Lib.hid hB
 have HL := Lib.hid hL
 have HD := Lib.hid hD
 have HSH := Lib.hid hsh
 have HS0 := Lib.hid hs0
 have HSF := Lib.hid hsF
 have HG := Lib.hid (impl_grid.calls k W H 0 g0 w hg)
 have HBL := Lib.hid (blk_lt hB)
 have HW := Lib.hid hW
 have HH := Lib.hid hH
 obtain ⟨hW1, hW8⟩ := hW
 obtain ⟨hH1, hH8⟩ := hH
 have q1 : (0 : Int) ≤ (ax : Int) := by omega
 have q2 : (ax : Int) < (W : Int) := by omega
 have q3 : (0 : Int) ≤ (ay : Int) := by omega
 have q4 : (ay : Int) < (H : Int) := by omega
 have q5 : (0 : Int) < (W : Int) := by omega
 clear hB hL hD hr hsh hs0 hsF hg hok hDn e1 e2 e5 e6
 go_enter Try.func49, Try.ntmps49
 go_upto_region 2 with (go_at_call 62; refine HG.out.mono ?_; rintro e w4 ⟨v4, rfl, hS4, hb4⟩; have HS4 := Lib.hid hS4; have HB4 := Lib.hid hb4; clear hb4 hS4)
 clear e3 HG
 obtain ⟨gb, cap, ev, _, _, _⟩ := Kd.S_form HS4.out (by have := (impl_distancesTo.shape_len HS0.out).1; omega)
 subst ev
 have hgW : g0.length = W := by have := (impl_distancesTo.shape_len HS0.out).1; omega
 obtain ⟨a, ha⟩ : ∃ a, a = w.heap.size := ⟨_, rfl⟩
 obtain ⟨b, hb⟩ : ∃ b, b = w4.heap.size := ⟨_, rfl⟩
 have hab : a ≤ b := by rw [ha, hb]; exact HB4.out.size
 have HV := Lib.hid (show impl_countWays.MV w w4 a b (.slice (some ⟨gb, 0, none⟩) W cap) g0 from ⟨(by have h0 := Kd.S_mono (Kd.S_bound HS4.out) (fun k hk => (⟨hk.2.1, hk.2.2.1⟩ : w.heap.size ≤ k ∧ k < w4.heap.size)); rw [hgW] at h0; rw [ha, hb]; exact h0), HB4.out, by rw [ha]; omega, by omega⟩)
 rw [hgW]
 clear HS4 HB4 ha hb hgW
 go_wp2
 go_loopg [8] (Dn + 1) (fun gn v8 wr => ∃ (d : Nat) (s : List (List Int)), v8 = .int .i64 d ∧ gn = Dn + 1 - d ∧ d ≤ Dn + 1 ∧ Hid (impl_countWays.it (impl_countWays.lay k W H l ds) g0 d = some s) ∧ Hid (impl_countWays.MV w wr a b (.slice (some ⟨gb, 0, none⟩) W cap) s))
 case atStart => exact ⟨0, g0, rfl, by omega, by omega, Lib.hid rfl, by first | exact HV | exact Lib.hid (HV.out.below (below_drew (Below.refl _ _))) | exact Lib.hid (HV.out.below (pw_below_drewN (Below.refl _ _) _))⟩
 case round =>
  clear HV
  obtain ⟨d, s, rfl, hgn, hdl, HS, HV⟩ := hrel
  have e1 := pw_cell_below HV.out.bel HE.out.1
  have e2 := pw_cell_below HV.out.bel HE.out.2.1
  have e5 := pw_cell_below HV.out.bel HE.out.2.2.1
  have e6 := pw_cell_below HV.out.bel HE.out.2.2.2
  by_cases hd : d ≤ Dn
  ·have t1 : decide (d ≤ Dn) = true := decide_eq_true hd
   have t2 : (d : Int) ≤ (Dn : Int) := by omega
   obtain ⟨s', hs'⟩ := impl_countWays.it_at HSF.out (Dn + 1 - (d + 1)) (d + 1) (by omega)
   have hlay := impl_countWays.it_next HS.out hs'
   have HLAY := Lib.hid hlay
   have HS' := Lib.hid hs'
   have HSS := Lib.hid (impl_countWays.it_inv (P := fun c => impl_distancesTo.shape W H c = true) (fun _ _ _ hs h => impl_countWays.lay_shape hs h) HS0.out HS.out)
   clear hlay hs'
   go_wp2
   go_quiet (fail)
   have HV2 := Lib.hid (HV.out.below (pw_below_drewN (Below.refl _ _) nq))
   generalize wr.drewN nq = W2 at HV2 ⊢
   clear HV e1 e2 e5 e6 t1 t2
   go_wp2
   go_loopg [40] W (fun gn v40 wr => ∃ (x : Nat) (c : List (List Int)), v40 = .int .i64 x ∧ gn = W - x ∧ x ≤ W ∧ Hid (impl_countWays.it (impl_countWays.col k W H l ds d) s x = some c) ∧ Hid (impl_countWays.MV w wr a b (.slice (some ⟨gb, 0, none⟩) W cap) c))
   case atStart => exact ⟨0, s, rfl, by omega, by omega, Lib.hid rfl, HV2⟩
   case round =>
    clear HV2
    obtain ⟨x, c, rfl, hgx, hxW, HC, HV⟩ := hrel
    by_cases hx : x < W
    ·obtain ⟨c', hc'⟩ := impl_countWays.it_at HLAY.out (W - (x + 1)) (x + 1) (by omega)
     have HCOL := Lib.hid (impl_countWays.it_next HC.out hc')
     have HC' := Lib.hid hc'
     have HCS := Lib.hid (impl_countWays.it_inv (P := fun c => impl_distancesTo.shape W H c = true) (fun _ _ _ hs h => impl_countWays.col_shape hs h) HSS.out HC.out)
     obtain ⟨adx, Ax, cx, ex, hrowx, _, hCx⟩ := impl_nearer.at_ HD.out x hx
     obtain rfl := Option.some.inj ex
     have hlx : (ds.getD x []).length = H := by have := (impl_distancesTo.shape_len HSH.out).2 x (by omega); omega
     rw [hlx] at hrowx hCx
     have HCX := Lib.hid hCx
     have hrow := pw_cell_below HV.out.bel hrowx
     have p1 : (0 : Int) ≤ (x : Int) := by omega
     have p2 : (x : Int) < (W : Int) := by omega
     clear hc' hrowx hCx hlx
     go_wp2
     clear hrow
     go_loopg [47] H (fun gn v47 wr => ∃ (y : Nat) (c2 : List (List Int)), v47 = .int .i64 y ∧ gn = H - y ∧ y ≤ H ∧ Hid (impl_countWays.it (impl_countWays.cel k W H l ds d x) c y = some c2) ∧ Hid (impl_countWays.MV w wr a b (.slice (some ⟨gb, 0, none⟩) W cap) c2))
     case atStart => exact ⟨0, c, rfl, by omega, by omega, Lib.hid rfl, HV⟩
     case round =>
      clear HV
      obtain ⟨y, c2, rfl, hgy, hyH, HY, HV⟩ := hrel
      by_cases hy : y < H
      ·obtain ⟨c2', hc2'⟩ := impl_countWays.it_at HCOL.out (H - (y + 1)) (y + 1) (by omega)
       have hcel := impl_countWays.it_next HY.out hc2'
       have HY' := Lib.hid hc2'
       have HYS := Lib.hid (impl_countWays.it_inv (P := fun c => impl_distancesTo.shape W H c = true) (fun _ _ _ hs h => impl_countWays.cel_shape hs h) HCS.out HY.out)
       obtain ⟨arx, ex, hxy⟩ := Kd.at_int HCX.out (y : Int) (by omega) (by omega)
       subst ex
       rw [Int.toNat_natCast] at hxy
       have hcell := pw_cell_below HV.out.bel hxy
       have p3 : (0 : Int) ≤ (y : Int) := by omega
       have p4 : (y : Int) < (H : Int) := by omega
       have hrd : rd (ds.getD x []) (y : Int) = impl_distancesTo.rd2 ds x y := rfl
       rw [hrd] at hcell
       unfold impl_countWays.cel at hcel
       clear hc2' hxy hrd
       by_cases hR : impl_distancesTo.rd2 ds x y = (d : Int)
       ·rw [if_pos hR] at hcel
        rw [hR] at hcell
        have HCEL := Lib.hid hcel
        have HR := Lib.hid hR
        clear hcel hR
        by_cases hd0 : d = 0
        ·have z1 : ((d : Int) == 0) = true := by simp [hd0]
         have z2 : (d : Int) ≤ 0 := by omega
         have z3 : decide ((0 : Int) < (d : Int)) = false := decide_eq_false (by omega)
         have z4 : decide ((d : Int) > 0) = false := decide_eq_false (by omega)
         obtain ⟨rb, cp, hrow, hrb, hcells, hset⟩ := impl_distancesTo.grid_row HV.out.grid (i := x) hx (by have := (impl_distancesTo.shape_len HYS.out).2 x (by omega); omega)
         have hrl : (c2.getD x []).length = H := by have := (impl_distancesTo.shape_len HYS.out).2 x (by omega); omega
         rw [hrl] at hrow hcells
         obtain ⟨hc, hfz⟩ := hcells y hy
         have HST := Lib.hid (show impl_countWays.MV w (wr.setCell ⟨rb, y, none⟩ (.int .i64 1)) a b (.slice (some ⟨gb, 0, none⟩) W cap) (impl_countWays.first d x y c2) by unfold impl_countWays.first; rw [if_pos hd0]; exact HV.out.put hrb y _ (hset y 1))
         have HD0 := Lib.hid hd0
         clear hcells hset hrl hd0
         go_upto_region 14 with (fail)
         generalize wr.setCell ⟨rb, y, none⟩ (.int .i64 1) = W7 at HST ⊢
         clear hrow hc hfz hcell z1
         have HV7 := HST
         clear HST HV hrb
         go_wp2
         have HV1 := Lib.hid (HV7.out.below (below_alloc (Below.refl W7.heap.size W7) (.stringIter ⟨#[101, 110, 115, 119]⟩ 0)))
         have HI1 := Lib.hid (show (W7.iter ⟨#[101, 110, 115, 119]⟩ 0).heap[W7.heap.size]? = some (.stringIter ⟨#[101, 110, 115, 119]⟩ 0) from World.iter_heap W7 _ 0)
         have hgi := HV7.out.hb
         change Hid (impl_countWays.MV w (W7.iter ⟨#[101, 110, 115, 119]⟩ 0) a b (.slice (some ⟨gb, 0, none⟩) W cap) (impl_countWays.first d x y c2)) at HV1
         generalize W7.iter ⟨#[101, 110, 115, 119]⟩ 0 = Wi at HV1 HI1 ⊢
         obtain ⟨gi, hgi2⟩ : ∃ gi, gi = W7.heap.size := ⟨_, rfl⟩
         rw [← hgi2] at HI1 hgi ⊢
         clear hgi2 HV7
         go_loopg [13] 4 (fun gn v13 wr => ∃ (m : Nat) (c3 : List (List Int)), gn = 4 - m ∧ m ≤ 4 ∧ Hid (impl_countWays.it (impl_countWays.one k W H l ds d x y) (impl_countWays.first d x y c2) m = some c3) ∧ Hid (impl_countWays.MV w wr a b (.slice (some ⟨gb, 0, none⟩) W cap) c3) ∧ Hid (wr.heap[gi]? = some (.stringIter ⟨#[101, 110, 115, 119]⟩ m)))
         case atStart => exact ⟨0, _, rfl, by omega, Lib.hid rfl, HV1, HI1⟩
         case round =>
          clear HV1 HI1
          obtain ⟨m, c3, hgn, hm, HM, HV, HI⟩ := hrel
          by_cases hm4 : m < 4
          ·obtain ⟨c3', hc3'⟩ := impl_countWays.it_at HCEL.out (4 - (m + 1)) (m + 1) (by omega)
           have HONE := Lib.hid (impl_countWays.it_next HM.out hc3')
           have HM' := Lib.hid hc3'
           have HMS := Lib.hid (impl_countWays.it_inv (P := fun c => impl_distancesTo.shape W H c = true) (fun _ _ _ hs h => impl_countWays.one_shape hs h) (impl_countWays.first_shape HYS.out) HM.out)
           obtain ⟨u8, hnx⟩ : ∃ u8 : Int, ∀ ty, (Instr.next (.pointer (some ⟨gi, 0, none⟩)) true ty).run Try.prog wr = .ok (.tuple #[.bool true, .int .i64 m, .int .i32 u8]) (impl_distancesTo.setIter wr gi (.stringIter ⟨#[101, 110, 115, 119]⟩ (m + 1))) :=
            ⟨_, fun ty => impl_distancesTo.next_at wr gi ⟨#[101, 110, 115, 119]⟩ m ty HI.out hm4 (impl_countWays.asc m hm4)⟩
           have HV2 := Lib.hid (HV.out.next hgi hab (.stringIter ⟨#[101, 110, 115, 119]⟩ (m + 1)))
           have HI2 := Lib.hid (impl_distancesTo.setIter_same (W := wr) (g := gi) (.stringIter ⟨#[101, 110, 115, 119]⟩ (m + 1)) (blk_lt HI.out))
           have hm0 : (0 : Int) ≤ (m : Int) := by omega
           have hm1 : (m : Int) < 4 := by omega
           clear hc3' HV HI
           go_upto_region 17 with (fail)
           clear hnx
           generalize impl_distancesTo.setIter wr gi (.stringIter ⟨#[101, 110, 115, 119]⟩ (m + 1)) = W5 at HV2 HI2 ⊢
           go_upto_region 18 with (fail)
           have HC6 := Lib.hid (impl_countWays.pair_C W5 (x : Int) (y : Int))
           have HB6 := below_alloc (Below.refl W5.heap.size W5) (.cells #[.int .i64 (x : Int), .int .i64 (y : Int)] 3)
           have HV6 := Lib.hid (HV2.out.below HB6)
           have HI6 := Lib.hid ((HB6.block _ (blk_lt HI2.out)).trans HI2.out)
           obtain ⟨gc, hgc⟩ : ∃ gc, gc = W5.heap.size := ⟨_, rfl⟩
           rw [← hgc] at HC6 ⊢
           generalize W5.alloc (.cells #[.int .i64 (x : Int), .int .i64 (y : Int)] 3) = W6 at HC6 HV6 HI6 ⊢
           clear hgc HB6 HV2 HI2
           obtain rfl : c3' = c3 := by have h0 := HONE.out; unfold impl_countWays.one at h0; rw [if_neg (by have := HD0.out; omega)] at h0; exact (Option.some.inj h0).symm
           go_wp2
           go_roundg (4 - (m + 1))
           case measure => omega
           case rel => exact ⟨m + 1, c3', rfl, by omega, HM', HV6, HI6⟩
          ·obtain rfl : m = 4 := by omega
           obtain rfl := Option.some.inj (HM.out.symm.trans HCEL.out)
           have hnx : ∀ ty, (Instr.next (.pointer (some ⟨gi, 0, none⟩)) true ty).run Try.prog wr = _ := fun ty => impl_distancesTo.next_end wr gi ⟨#[101, 110, 115, 119]⟩ 4 ty HI.out (by show ¬ 4 < 4; omega)
           go_wp2
           go_roundg (H - (y + 1))
           case measure => omega
           case rel => exact ⟨y + 1, c3, by go_num, rfl, by omega, HY', HV⟩
        ·have z1 : ((d : Int) == 0) = false := by simpa using hd0
         have z2 : (0 : Int) < (d : Int) := by omega
         have z3 : decide ((0 : Int) < (d : Int)) = true := decide_eq_true (by omega)
         have z4 : decide ((d : Int) > 0) = true := decide_eq_true (by omega)
         have z5 : 0 < d := by omega
         have HD0 := Lib.hid hd0
         clear hd0
         go_upto_region 14 with (fail)
         have HV7 := Lib.hid (show impl_countWays.MV w wr a b (.slice (some ⟨gb, 0, none⟩) W cap) (impl_countWays.first d x y c2) by unfold impl_countWays.first; rw [if_neg HD0.out]; exact HV.out)
         clear HV hcell
         generalize wr = W7 at HV7 ⊢
         go_wp2
         have HV1 := Lib.hid (HV7.out.below (below_alloc (Below.refl W7.heap.size W7) (.stringIter ⟨#[101, 110, 115, 119]⟩ 0)))
         have HI1 := Lib.hid (show (W7.iter ⟨#[101, 110, 115, 119]⟩ 0).heap[W7.heap.size]? = some (.stringIter ⟨#[101, 110, 115, 119]⟩ 0) from World.iter_heap W7 _ 0)
         have hgi := HV7.out.hb
         change Hid (impl_countWays.MV w (W7.iter ⟨#[101, 110, 115, 119]⟩ 0) a b (.slice (some ⟨gb, 0, none⟩) W cap) (impl_countWays.first d x y c2)) at HV1
         generalize W7.iter ⟨#[101, 110, 115, 119]⟩ 0 = Wi at HV1 HI1 ⊢
         obtain ⟨gi, hgi2⟩ : ∃ gi, gi = W7.heap.size := ⟨_, rfl⟩
         rw [← hgi2] at HI1 hgi ⊢
         clear hgi2 HV7
         go_loopg [13] 4 (fun gn v13 wr => ∃ (m : Nat) (c3 : List (List Int)), gn = 4 - m ∧ m ≤ 4 ∧ Hid (impl_countWays.it (impl_countWays.one k W H l ds d x y) (impl_countWays.first d x y c2) m = some c3) ∧ Hid (impl_countWays.MV w wr a b (.slice (some ⟨gb, 0, none⟩) W cap) c3) ∧ Hid (wr.heap[gi]? = some (.stringIter ⟨#[101, 110, 115, 119]⟩ m)))
         case atStart => exact ⟨0, _, rfl, by omega, Lib.hid rfl, HV1, HI1⟩
         case round =>
          clear HV1 HI1
          obtain ⟨m, c3, hgn, hm, HM, HV, HI⟩ := hrel
          by_cases hm4 : m < 4
          ·obtain ⟨c3', hc3'⟩ := impl_countWays.it_at HCEL.out (4 - (m + 1)) (m + 1) (by omega)
           have HONE := Lib.hid (impl_countWays.it_next HM.out hc3')
           have HM' := Lib.hid hc3'
           have HMS := Lib.hid (impl_countWays.it_inv (P := fun c => impl_distancesTo.shape W H c = true) (fun _ _ _ hs h => impl_countWays.one_shape hs h) (impl_countWays.first_shape HYS.out) HM.out)
           obtain ⟨u8, hnx⟩ : ∃ u8 : Int, ∀ ty, (Instr.next (.pointer (some ⟨gi, 0, none⟩)) true ty).run Try.prog wr = .ok (.tuple #[.bool true, .int .i64 m, .int .i32 u8]) (impl_distancesTo.setIter wr gi (.stringIter ⟨#[101, 110, 115, 119]⟩ (m + 1))) :=
            ⟨_, fun ty => impl_distancesTo.next_at wr gi ⟨#[101, 110, 115, 119]⟩ m ty HI.out hm4 (impl_countWays.asc m hm4)⟩
           have HV2 := Lib.hid (HV.out.next hgi hab (.stringIter ⟨#[101, 110, 115, 119]⟩ (m + 1)))
           have HI2 := Lib.hid (impl_distancesTo.setIter_same (W := wr) (g := gi) (.stringIter ⟨#[101, 110, 115, 119]⟩ (m + 1)) (blk_lt HI.out))
           have hm0 : (0 : Int) ≤ (m : Int) := by omega
           have hm1 : (m : Int) < 4 := by omega
           clear hc3' HV HI
           go_upto_region 17 with (fail)
           clear hnx
           generalize impl_distancesTo.setIter wr gi (.stringIter ⟨#[101, 110, 115, 119]⟩ (m + 1)) = W5 at HV2 HI2 ⊢
           go_upto_region 18 with (fail)
           have HC6 := Lib.hid (impl_countWays.pair_C W5 (x : Int) (y : Int))
           have HB6 := below_alloc (Below.refl W5.heap.size W5) (.cells #[.int .i64 (x : Int), .int .i64 (y : Int)] 3)
           have HV6 := Lib.hid (HV2.out.below HB6)
           have HI6 := Lib.hid ((HB6.block _ (blk_lt HI2.out)).trans HI2.out)
           obtain ⟨gc, hgc⟩ : ∃ gc, gc = W5.heap.size := ⟨_, rfl⟩
           rw [← hgc] at HC6 ⊢
           generalize W5.alloc (.cells #[.int .i64 (x : Int), .int .i64 (y : Int)] 3) = W6 at HC6 HV6 HI6 ⊢
           clear hgc HB6 HV2 HI2
           have hcs := impl_countWays.one_cases HW.out HH.out HONE.out (by have := HD0.out; omega)
           have HNE := Lib.hid (fun (t : Bool) (ht : impl_nearer.f k W H l ds [(x : Int), (y : Int)] m = some t) => impl_nearer.clo k W H AL cL l B (some adD) cD ds (some ⟨gc, 0, none⟩) 2 x y m t W6 HW.out HH.out hx hy HSH.out (HV6.out.box HBX.out HBL.out) (Kd.C_below HL.out HV6.out.bel) hcL (Kd.C_below HD.out HV6.out.bel) HC6.out (by omega) ht)
           rcases hcs with ⟨ht, ec⟩ | ⟨ht, bx, by_, hmv, hbx, hby, ec⟩
           ·subst ec
            have HN := Lib.hid (HNE.out false ht)
            clear HNE ht
            go_wp2_with (go_at_call 71; refine HN.out.mono ?_; rintro e w7 ⟨rfl, hb7⟩; have HB7 := Lib.hid hb7; clear hb7)
            go_roundg (4 - (m + 1))
            case measure => omega
            case rel => exact ⟨m + 1, c3', rfl, by omega, HM', Lib.hid (HV6.out.below HB7.out), Lib.hid ((HB7.out.block _ (blk_lt HI6.out)).trans HI6.out)⟩
           ·have HN := Lib.hid (HNE.out true ht)
            have HEC := Lib.hid ec
            have HMV := Lib.hid (fun (w7 : World) (hb : Below W6.heap.size W6 w7) => impl_moved.calls (some ⟨gc, 0, none⟩) 2 [(x : Int), (y : Int)] m [(bx : Int), (by_ : Int)] w7 (Kd.C_below HC6.out hb) (Nat.le_refl 2) hmv)
            clear HNE ht ec hmv
            go_upto_region 20 with (first
             | (go_at_call 71; refine HN.out.mono ?_; rintro e w7 ⟨rfl, hb7⟩; have HB7 := Lib.hid hb7; clear hb7)
             | (go_at_call 72; refine (HMV.out _ HB7.out).mono ?_; rintro e w8 ⟨v8, rfl, hR8, hb8⟩; have HR8 := Lib.hid hR8; have HB8 := Lib.hid (below_then HB7.out HB7.out.size hb8); clear hR8 hb8))
            obtain ⟨A8, c8, rfl, _, hC8⟩ := Kd.R_reads HR8.out
            obtain ⟨ad8, rfl, _, f1, f2⟩ := impl_distancesTo.two hC8
            have HV9 := Lib.hid ((HV6.out.below HB8.out).below (below_drew (Below.refl _ _)))
            have HI9 := Lib.hid (show w8.drew.heap[gi]? = some (.stringIter ⟨#[101, 110, 115, 119]⟩ (m + 1)) from (HB8.out.block _ (blk_lt HI6.out)).trans HI6.out)
            have hlx : (c3.getD x []).length = H := by have := (impl_distancesTo.shape_len HMS.out).2 x (by omega); omega
            have hlb : (c3.getD bx []).length = H := by have := (impl_distancesTo.shape_len HMS.out).2 bx (by omega); omega
            obtain ⟨rb, cp, hrow, hrb, hcells, hset⟩ := impl_distancesTo.grid_row HV9.out.grid (i := x) hx (by omega)
            obtain ⟨rb2, cp2, hrow2, _, hcells2, _⟩ := impl_distancesTo.grid_row HV9.out.grid (i := bx) hbx (by omega)
            rw [hlx] at hrow hcells
            rw [hlb] at hrow2 hcells2
            obtain ⟨hc1, hfz⟩ := hcells y hy
            have hc2 := (hcells2 by_ hby).1
            have hV : rd (c3.getD x []) (y : Int) = impl_distancesTo.rd2 c3 x y := rfl
            have hV2 : rd (c3.getD bx []) (by_ : Int) = impl_distancesTo.rd2 c3 bx by_ := rfl
            rw [hV] at hc1
            rw [hV2] at hc2
            have HST := Lib.hid (show impl_countWays.MV w (w8.drew.setCell ⟨rb, y, none⟩ (.int .i64 (wrap64 (impl_distancesTo.rd2 c3 x y + impl_distancesTo.rd2 c3 bx by_)))) a b (.slice (some ⟨gb, 0, none⟩) W cap) c3' by rw [HEC.out]; exact HV9.out.put hrb y _ (hset y _))
            have HIT := Lib.hid (fun v => impl_distancesTo.iter_put (j := y) (x := v) HI9.out hrb.2 hgi)
            clear hset hcells hcells2 hlx hlb hV hV2
            generalize impl_distancesTo.rd2 c3 x y = V1 at hc1 HST
            generalize impl_distancesTo.rd2 c3 bx by_ = V2 at hc2 HST
            have k1 : w8.cell? ⟨gb, x, none⟩ = some (.slice (some ⟨rb, 0, none⟩) H cp) := hrow
            have k2 : w8.cell? ⟨gb, bx, none⟩ = some (.slice (some ⟨rb2, 0, none⟩) H cp2) := hrow2
            have k3 : w8.cell? ⟨rb, y, none⟩ = some (.int .i64 V1) := hc1
            have k4 : w8.cell? ⟨rb2, by_, none⟩ = some (.int .i64 V2) := hc2
            have k5 : w8.frozen? ⟨rb, y, none⟩ = false := hfz
            have b1 : (0 : Int) ≤ (bx : Int) := by omega
            have b2 : (bx : Int) < (W : Int) := by omega
            have b3 : (0 : Int) ≤ (by_ : Int) := by omega
            have b4 : (by_ : Int) < (H : Int) := by omega
            clear hrow hrow2 hc1 hc2 hfz hC8
            go_still_tail 20, (by kernel_rfl)
            change wpList _ _ _ _ _ w8.drew
            have j1 : w8.drew.cell? ⟨gb, x, none⟩ = some (.slice (some ⟨rb, 0, none⟩) H cp) := k1
            have j3 : w8.drew.cell? ⟨rb, y, none⟩ = some (.int .i64 V1) := k3
            have j5 : w8.drew.frozen? ⟨rb, y, none⟩ = false := k5
            clear k1 k2 k3 k4 k5 f1 f2 HV9 HI9 HR8 HB8 HB7 HN HMV HV6 HC6 HI6
            generalize w8.drew = W9 at HST HIT j1 j3 j5 ⊢
            go_wp2
            go_roundg (4 - (m + 1))
            case measure => omega
            case rel => exact ⟨m + 1, c3', rfl, by omega, HM', HST, Lib.hid (HIT.out _)⟩
          ·obtain rfl : m = 4 := by omega
           obtain rfl := Option.some.inj (HM.out.symm.trans HCEL.out)
           have hnx : ∀ ty, (Instr.next (.pointer (some ⟨gi, 0, none⟩)) true ty).run Try.prog wr = _ := fun ty => impl_distancesTo.next_end wr gi ⟨#[101, 110, 115, 119]⟩ 4 ty HI.out (by show ¬ 4 < 4; omega)
           go_wp2
           go_roundg (H - (y + 1))
           case measure => omega
           case rel => exact ⟨y + 1, c3, by go_num, rfl, by omega, HY', HV⟩
       ·rw [if_neg hR] at hcel
        obtain rfl := Option.some.inj hcel
        generalize impl_distancesTo.rd2 ds x y = R at hcell hR
        have z1 : (R == (d : Int)) = false := by simpa using hR
        have z2 : (R != (d : Int)) = true := by simpa using hR
        have z3 : decide (R = (d : Int)) = false := decide_eq_false hR
        clear hcel
        go_wp2
        go_roundg (H - (y + 1))
        case measure => omega
        case rel => exact ⟨y + 1, c2, by go_num, rfl, by omega, HY', HV⟩
      ·obtain rfl : y = H := by omega
       obtain rfl := Option.some.inj (HY.out.symm.trans HCOL.out)
       go_wp2
       go_roundg (W - (x + 1))
       case measure => omega
       case rel => exact ⟨x + 1, c2, by go_num, rfl, by omega, HC', HV⟩
    ·obtain rfl : x = W := by omega
     obtain rfl := Option.some.inj (HC.out.symm.trans HLAY.out)
     go_wp2
     go_roundg (Dn + 1 - (d + 1))
     case measure => omega
     case rel => exact ⟨d + 1, c, by go_num, rfl, by omega, HS', HV⟩
  ·obtain rfl : d = Dn + 1 := by omega
   obtain rfl := Option.some.inj (HS.out.symm.trans HSF.out)
   have HSS := Lib.hid (impl_countWays.it_inv (P := fun c => impl_distancesTo.shape W H c = true) (fun _ _ _ hs h => impl_countWays.lay_shape hs h) HS0.out HS.out)
   have t1 : decide (Dn + 1 ≤ Dn) = false := decide_eq_false (by omega)
   have t2 : ¬ ((Dn + 1 : Nat) : Int) ≤ (Dn : Int) := by omega
   have t3 : (Dn : Int) < ((Dn + 1 : Nat) : Int) := by omega
   go_wp2
   go_quiet (fail)
   have HV2 := Lib.hid (HV.out.below (pw_below_drewN (Below.refl _ _) nq))
   generalize wr.drewN nq = W2 at HV2 ⊢
   clear HV e1 e2 t1 t2 t3
   have e5 := pw_cell_below HV2.out.bel HE.out.2.2.1
   have e6 := pw_cell_below HV2.out.bel HE.out.2.2.2
   obtain ⟨rb, cp, hrow, hrb, hcells, _⟩ := impl_distancesTo.grid_row HV2.out.grid (i := ax) hx (by have := (impl_distancesTo.shape_len HSS.out).2 ax (by omega); omega)
   have hrl : (s.getD ax []).length = H := by have := (impl_distancesTo.shape_len HSS.out).2 ax (by omega); omega
   rw [hrl] at hrow hcells
   have hcf := (hcells ay hy).1
   have hrd : rd (s.getD ax []) (ay : Int) = impl_distancesTo.rd2 s ax ay := rfl
   rw [hrd] at hcf
   clear hcells hrl hrb hrd
   go_wp2
   go_quiet (fail)
   go_wp2
   go_ret
   exact ⟨rfl, pw_below_drewN HV2.out.bel _⟩
end Go.Proofs.Ytpedofomfhmnfaa.PFnExactCountShortestWays
