/- Cut by wip/cut.py out of the texts of this claim (printed by the kit's printer, or this session's own): what the row's theorem does not reach is struck. Not trusted: Lean checks it. -/
import Derived.Test.YtpedofomfhmnfaaZFnExactNeededBlocksPx0
import Derived.Test.YtpedofomfhmnfaaZFnExactNeededBlocksPx9
import Derived.Test.YtpedofomfhmnfaaZFnExactNeededBlocksPx13
namespace Go.Proofs.Ytpedofomfhmnfaa.PFnExactNeededBlocks
open Go.RowKit Go.Proofs.YtpedofomfhmnfaaW.PrintWords Go.Proofs.YtpedofomfhmnfaaW.PrintLast Go.Proofs.YtpedofomfhmnfaaW.PrintMore
attribute [local go_sem] max2_int min2_int max_two min_two max_three min_three max_four min_four
set_option linter.unusedVariables false
set_option linter.unusedSimpArgs false
def impl_distanceIn.f (k : Nat) (a0_0 : Int) (a0_1 : Int) (l0_2 : List (S58)) (l1 : List Int) (l2 : List Int) : Option (Int × Bool) := (impl_distancesTo.f k a0_0 a0_1 l0_2 l2).bind fun t241 => (if 0 < (l1.length : Int) then (if 0 ≤ (rd l1 0) then (if (rd l1 0) < (t241.length : Int) then (if 1 < (l1.length : Int) then (if 0 ≤ (rd l1 1) then (if (rd l1 1) < ((rd_L6 t241 (rd l1 0)).length : Int) then (some (mx 0 (rd (rd_L6 t241 (rd l1 0)) (rd l1 1)), decide ((rd (rd_L6 t241 (rd l1 0)) (rd l1 1)) ≥ 0))) else (none)) else (none)) else (none)) else (none)) else (none)) else (none))
theorem impl_distanceIn.mono : ∀ a0 a1 a2 a3 a4 k, LeO (impl_distanceIn.f k a0 a1 a2 a3 a4) (impl_distanceIn.f (k + 1) a0 a1 a2 a3 a4) := fun a0 a1 a2 a3 a4 k => LeO.bind (impl_distancesTo.mono _ _ _ _ _) (fun _ => LeO.refl _)
theorem impl_distanceIn.parts {g : List (List Int)} {l1 : List Int} {r1 : Int} {r2 : Bool} (h : (if 0 < (l1.length : Int) then (if 0 ≤ (rd l1 0) then (if (rd l1 0) < (g.length : Int) then (if 1 < (l1.length : Int) then (if 0 ≤ (rd l1 1) then (if (rd l1 1) < ((rd_L6 g (rd l1 0)).length : Int) then (some (mx 0 (rd (rd_L6 g (rd l1 0)) (rd l1 1)), decide ((rd (rd_L6 g (rd l1 0)) (rd l1 1)) ≥ 0))) else (none)) else (none)) else (none)) else (none)) else (none)) else (none)) = some (r1, r2)) :
  ∃ i j : Nat, rd l1 0 = (i : Int) ∧ rd l1 1 = (j : Int) ∧ i < g.length ∧ 1 < l1.length ∧ j < (g.getD i []).length ∧ r1 = mx 0 (rd (g.getD i []) (j : Int)) ∧ r2 = decide (0 ≤ rd (g.getD i []) (j : Int)) := by
 by_cases c1 : 0 < (l1.length : Int)
 ·rw [if_pos c1] at h
  by_cases c2 : 0 ≤ rd l1 0
  ·rw [if_pos c2] at h
   by_cases c3 : rd l1 0 < (g.length : Int)
   ·rw [if_pos c3] at h
    by_cases c4 : 1 < (l1.length : Int)
    ·rw [if_pos c4] at h
     by_cases c5 : 0 ≤ rd l1 1
     ·rw [if_pos c5] at h
      by_cases c6 : rd l1 1 < ((rd_L6 g (rd l1 0)).length : Int)
      ·rw [if_pos c6] at h
       simp only [Option.some.injEq, Prod.mk.injEq] at h
       obtain ⟨i, hi⟩ : ∃ n : Nat, rd l1 0 = (n : Int) := ⟨(rd l1 0).toNat, by omega⟩
       obtain ⟨j, hj⟩ : ∃ n : Nat, rd l1 1 = (n : Int) := ⟨(rd l1 1).toNat, by omega⟩
       rw [hi, hj] at h c6
       rw [hi] at c3
       have c7 : (j : Int) < ((g.getD i []).length : Int) := c6
       exact ⟨i, j, hi, hj, by omega, by omega, by omega, h.1.symm, h.2.symm⟩
      ·rw [if_neg c6] at h; cases h
     ·rw [if_neg c5] at h; cases h
    ·rw [if_neg c4] at h; cases h
   ·rw [if_neg c3] at h; cases h
  ·rw [if_neg c2] at h; cases h
 ·rw [if_neg c1] at h; cases h
set_option maxHeartbeats 4000000 in
set_option maxRecDepth 100000 in
theorem impl_distanceIn.calls (k : Nat) (a0_0 : Int) (a0_1 : Int) (A0_2 : Option Addr) (c0_2 : Nat) (l0_2 : List (S58)) (A1 : Option Addr) (c1 : Nat) (l1 : List Int) (A2 : Option Addr) (c2 : Nat) (l2 : List Int) (r1 : Int) (r2 : Bool) (w : World) (hr0_2 : Kd.C k58 w A0_2 l0_2.length l0_2) (hc0_2 : l0_2.length ≤ c0_2) (hr1 : Kd.C (Kd.int .i64) w A1 l1.length l1) (hc1 : l1.length ≤ c1) (hr2 : Kd.C (Kd.int .i64) w A2 l2.length l2) (hc2 : l2.length ≤ c2) (h : impl_distanceIn.f k a0_0 a0_1 l0_2 l1 l2 = some (r1, r2)) :
    Calls Try.prog 45 #[.agg #[.int .i64 a0_0, .int .i64 a0_1, .slice A0_2 l0_2.length c0_2], .slice A1 l1.length c1, .slice A2 l2.length c2] w fun e w' => e = .returned (.tuple #[.int .i64 r1, .bool r2]) ∧ Below w.heap.size w w' := by
  have hu := Try.underlying31
  unfold impl_distanceIn.f at h
  obtain ⟨g, hf, h⟩ := Option.bind_eq_some_iff.mp h;obtain ⟨i, j, ei, ej, hig, hl1, hjr, rfl, rfl⟩ := impl_distanceIn.parts h;clear h;obtain ⟨ad, rfl, hx⟩ := Kd.jc hr1 0 (by decide) (by omega);obtain ⟨ad', e', hy⟩ := Kd.jc hr1 1 (by decide) (by omega);obtain rfl := Option.some.inj e'
  have hx0 : w.cell? ad = some (.int .i64 (i : Int)) := by
    have h0 : w.cell? (ad.add 0) = some (.int .i64 (rd l1 0)) := hx;rw [ei] at h0
    rwa [show ad.add 0 = ad by simp [Addr.add]] at h0
  have hy0 : w.cell? ⟨ad.block, ad.off + 1, none⟩ = some (.int .i64 (j : Int)) := by
    have h0 : w.cell? (ad.add 1) = some (.int .i64 (rd l1 1)) := hy;rw [ej] at h0
    rwa [show ad.add 1 = ⟨ad.block, ad.off + 1, none⟩ by simp [Addr.add]] at h0
  clear hx hy ei ej;obtain ⟨R, hR⟩ : ∃ R, rd (g.getD i []) (j : Int) = R := ⟨_, rfl⟩;have P1 : 1 < l1.length := hl1;have P2 : (1 : Int) < (l1.length : Int) := by omega
  have P3 : (1 : Int) ≤ (l1.length : Int) := by omega
  have P4 : (0 : Int) < (l1.length : Int) := by omega
  have P0 : 0 < l1.length := by omega
  obtain ⟨gn, hgn⟩ : ∃ gn, g.length = gn := ⟨_, rfl⟩;obtain ⟨rn, hrn⟩ : ∃ rn, (g.getD i []).length = rn := ⟨_, rfl⟩;have Q1 : (i : Int) < (gn : Int) := by omega
  have Q2 : i < gn := by omega
  have Q3 : (0 : Int) ≤ (i : Int) := by omega
  have Q6 : (j : Int) < (rn : Int) := by omega
  have Q7 : j < rn := by omega
  have Q8 : (0 : Int) ≤ (j : Int) := by omega
  have HF := Lib.hid hf;have HL := Lib.hid hr0_2;have HA := Lib.hid hr2;have HGN := Lib.hid hgn;have HRN := Lib.hid hrn;have HRR := Lib.hid hR;rw [hR];clear hf hr0_2 hr2 hr1 hgn hrn hR hl1 hig hjr
  generalize hn1 : l1.length = n1 at *
  clear hn1;obtain ⟨m, hm, hm2⟩ : ∃ m, mx 0 R = m ∧ ((0 ≤ R ∧ m = R) ∨ (¬ 0 ≤ R ∧ m = 0)) := ⟨_, rfl, by unfold mx; split <;> omega⟩;rw [hm];have HM2 := Lib.hid hm2;clear hm hm2
  go_enter Try.func45, Try.ntmps45
  go_wp2_with fail
  have HV := Lib.hid (show (w.alloc (.cells #[.int .i64 a0_0, .int .i64 a0_1, .slice A0_2 l0_2.length c0_2] 31)).heap[w.heap.size]? = some (.cells #[.int .i64 a0_0, .int .i64 a0_1, .slice A0_2 l0_2.length c0_2] 31 (0, 0)) from blk_new w _);have HB := Lib.hid (qd (Below.refl w.heap.size w) (.cells #[.int .i64 a0_0, .int .i64 a0_1, .slice A0_2 l0_2.length c0_2] 31));have hx1 := qy HB.out hx0;have hy1 := qy HB.out hy0
  generalize (w.alloc (.cells #[.int .i64 a0_0, .int .i64 a0_1, .slice A0_2 l0_2.length c0_2] 31)) = W1 at HV HB hx1 hy1 ⊢
  obtain ⟨B0, hB0⟩ : ∃ B0, B0 = w.heap.size := ⟨_, rfl⟩;rw [← hB0] at HV ⊢;clear hB0 hx0 hy0;have hcz0 : W1.cell? ⟨B0, 0, none⟩ = some (.int .i64 a0_0) := (qc HV.out 0).trans rfl;have hcz1 : W1.cell? ⟨B0, 1, none⟩ = some (.int .i64 a0_1) := (qc HV.out 1).trans rfl;have hcz2 : W1.cell? ⟨B0, 2, none⟩ = some (.slice A0_2 l0_2.length c0_2) := (qc HV.out 2).trans rfl
  refine wp_region_held_drew (S := fun w' => w'.cell? ⟨B0, 0, none⟩ = some (.int .i64 a0_0) ∧ w'.cell? ⟨B0, 1, none⟩ = some (.int .i64 a0_1) ∧ w'.cell? ⟨B0, 2, none⟩ = some (.slice A0_2 l0_2.length c0_2) ∧ w'.cell? ad = some (.int .i64 (i : Int)) ∧ w'.cell? ⟨ad.block, ad.off + 1, none⟩ = some (.int .i64 (j : Int))) (by kernel_rfl) ⟨hcz0, hcz1, hcz2, hx1, hy1⟩ (fun hHeld => ?_)
  refine wpAnyH_take (i := 0) (oi := ?_) (v := ?_) ?_ (by kernel_rfl) (by kernel_rfl) (by kernel_rfl) ?_ (Or.inl ⟨?_, ?_⟩) (by assumption) ?_
  rotate_left 2
  focus ((try simp only [List.getElem?_toArray, List.getElem?_cons_succ, List.getElem?_cons_zero]); (first | done | rfl))
  focus exact (fun _ _ _ h => h)
  focus rfl
  focus (intro w hSw; (try dsimp only at hSw); go_simp; (try with_reducible rfl); done)
  (try simp only [Act.put, sA_, sB_, sC_])
  refine wpAnyH_take (i := 1) (oi := ?_) (v := ?_) ?_ (by kernel_rfl) (by kernel_rfl) (by kernel_rfl) ?_ (Or.inl ⟨?_, ?_⟩) (by assumption) ?_
  rotate_left 2
  focus ((try simp only [List.getElem?_toArray, List.getElem?_cons_succ, List.getElem?_cons_zero]); (first | done | rfl))
  focus exact (fun _ _ _ h => h)
  focus rfl
  focus (intro w hSw; (try dsimp only at hSw); go_simp; (try with_reducible rfl); done)
  (try simp only [Act.put, sA_, sB_, sC_])
  refine wpAnyH_take (i := 3) (oi := ?_) (v := ?_) ?_ (by kernel_rfl) (by kernel_rfl) (by kernel_rfl) ?_ (Or.inl ⟨?_, ?_⟩) (by assumption) ?_
  rotate_left 2
  focus ((try simp only [List.getElem?_toArray, List.getElem?_cons_succ, List.getElem?_cons_zero]); (first | done | rfl))
  focus exact (fun _ _ _ h => h)
  focus rfl
  focus (intro w hSw; (try dsimp only at hSw); go_simp; (try with_reducible rfl); done)
  (try simp only [Act.put, sA_, sB_, sC_])
  refine wpAnyH_take (i := 4) (oi := ?_) (v := ?_) ?_ (by kernel_rfl) (by kernel_rfl) (by kernel_rfl) ?_ (Or.inl ⟨?_, ?_⟩) (by assumption) ?_
  rotate_left 2
  focus ((try simp only [List.getElem?_toArray, List.getElem?_cons_succ, List.getElem?_cons_zero]); (first | done | rfl))
  focus exact (fun _ _ _ h => h)
  focus rfl
  focus (intro w hSw; (try dsimp only at hSw); go_simp; (try with_reducible rfl); done)
  (try simp only [Act.put, sA_, sB_, sC_])
  refine wpAnyH_take (i := 5) (oi := ?_) (v := ?_) ?_ (by kernel_rfl) (by kernel_rfl) (by kernel_rfl) ?_ (Or.inl ⟨?_, ?_⟩) (by assumption) ?_
  rotate_left 2
  focus ((try simp only [List.getElem?_toArray, List.getElem?_cons_succ, List.getElem?_cons_zero]); (first | done | rfl))
  focus exact (fun _ _ _ h => h)
  focus rfl
  focus (intro w hSw; (try dsimp only at hSw); go_simp; (try with_reducible rfl); done)
  (try simp only [Act.put, sA_, sB_, sC_])
  refine wpAnyH_take (i := 8) (oi := ?_) (v := ?_) ?_ (by kernel_rfl) (by kernel_rfl) (by kernel_rfl) ?_ (Or.inl ⟨?_, ?_⟩) (by assumption) ?_
  rotate_left 2
  focus ((try simp only [List.getElem?_toArray, List.getElem?_cons_succ, List.getElem?_cons_zero]); (first | done | rfl))
  focus exact (fun _ _ _ h => h)
  focus rfl
  focus (intro w hSw; (try dsimp only at hSw); go_simp; (try with_reducible rfl); done)
  (try simp only [Act.put, sA_, sB_, sC_])
  refine wpAnyH_take (i := 9) (oi := ?_) (v := ?_) ?_ (by kernel_rfl) (by kernel_rfl) (by kernel_rfl) ?_ (Or.inl ⟨?_, ?_⟩) (by assumption) ?_
  rotate_left 2
  focus ((try simp only [List.getElem?_toArray, List.getElem?_cons_succ, List.getElem?_cons_zero]); (first | done | rfl))
  focus exact (fun _ _ _ h => h)
  focus rfl
  focus (intro w hSw; (try dsimp only at hSw); go_simp; (try with_reducible rfl); done)
  (try simp only [Act.put, sA_, sB_, sC_])
  refine wpAnyH_take (i := 10) (oi := ?_) (v := ?_) ?_ (by kernel_rfl) (by kernel_rfl) (by kernel_rfl) ?_ (Or.inl ⟨?_, ?_⟩) (by assumption) ?_
  rotate_left 2
  focus ((try simp only [List.getElem?_toArray, List.getElem?_cons_succ, List.getElem?_cons_zero]); (first | done | rfl))
  focus exact (fun _ _ _ h => h)
  focus rfl
  focus (intro w hSw; (try dsimp only at hSw); go_simp; (try with_reducible rfl); done)
  (try simp only [Act.put, sA_, sB_, sC_])
  refine wpAnyH_ready (rs := [2]) (by kernel_rfl) (by simp) ?_
  refine AllReadyH.cons (o := ?_) ?_ (fun K hK => ?_) AllReadyH.nil
  rotate_left 1
  focus ((try simp only [List.getElem?_toArray, List.getElem?_cons_succ, List.getElem?_cons_zero]); (first | done | rfl))
  go_simp
  (go_at_call 47; refine (impl_distancesTo.calls k a0_0 a0_1 A0_2 c0_2 l0_2 A2 c2 l2 g _ (Kd.qz HL.out (zr HB.out)) hc0_2 (Kd.qz HA.out (zr HB.out)) hc2 HF.out).mono ?_; rintro e w2 ⟨v2, rfl, hS2, hb2⟩)
  obtain ⟨gb, gcap, ev, _, _, _⟩ := Kd.S_form hS2 (by have := HGN.out; omega);rw [HGN.out] at ev;subst ev;obtain ⟨rb, cp, hrow, _, hcells, _⟩ := impl_distancesTo.grid_row hS2 (i := i) Q2 (by have := HRN.out; omega);have hcell := (hcells j (by have := HRN.out; omega)).1;rw [HRN.out] at hrow;rw [HRR.out] at hcell;clear hHeld hcells hS2
  refine hK.out _ _ ⟨qy hb2 hcz0, qy hb2 hcz1, qy hb2 hcz2, qy hb2 hx1, qy hb2 hy1⟩ (fun hHeld => ?_)
  clear hK K
  (try simp only [Act.put, sA_, sB_, sC_])
  refine wpAnyH_take (i := 6) (oi := ?_) (v := ?_) ?_ (by kernel_rfl) (by kernel_rfl) (by kernel_rfl) ?_ (Or.inl ⟨?_, ?_⟩) (by assumption) ?_
  rotate_left 2
  focus ((try simp only [List.getElem?_toArray, List.getElem?_cons_succ, List.getElem?_cons_zero]); (first | done | rfl))
  focus exact (fun _ _ _ h => h)
  focus rfl
  focus (intro w hSw; (try dsimp only at hSw); go_simp; (try with_reducible rfl); done)
  (try simp only [Act.put, sA_, sB_, sC_])
  refine wpAnyH_ready (rs := [7]) (by kernel_rfl) (by simp) ?_
  refine AllReadyH.cons (o := ?_) ?_ (fun K hK => ?_) AllReadyH.nil
  rotate_left 1
  focus ((try simp only [List.getElem?_toArray, List.getElem?_cons_succ, List.getElem?_cons_zero]); (first | done | rfl))
  go_simp
  refine hK.out _ _ hHeld (fun hHeld => ?_)
  clear hK K
  (try simp only [Act.put, sA_, sB_, sC_])
  refine wpAnyH_take (i := 11) (oi := ?_) (v := ?_) ?_ (by kernel_rfl) (by kernel_rfl) (by kernel_rfl) ?_ (Or.inl ⟨?_, ?_⟩) (by assumption) ?_
  rotate_left 2
  focus ((try simp only [List.getElem?_toArray, List.getElem?_cons_succ, List.getElem?_cons_zero]); (first | done | rfl))
  focus exact (fun _ _ _ h => h)
  focus rfl
  focus (intro w hSw; (try dsimp only at hSw); go_simp; (try with_reducible rfl); done)
  (try simp only [Act.put, sA_, sB_, sC_])
  refine wpAnyH_ready (rs := [12]) (by kernel_rfl) (by simp) ?_
  refine AllReadyH.cons (o := ?_) ?_ (fun K hK => ?_) AllReadyH.nil
  rotate_left 1
  focus ((try simp only [List.getElem?_toArray, List.getElem?_cons_succ, List.getElem?_cons_zero]); (first | done | rfl))
  go_simp
  refine hK.out _ _ hHeld (fun hHeld => ?_)
  clear hK K
  (try simp only [Act.put, sA_, sB_, sC_])
  refine wpAnyH_take (i := 13) (oi := ?_) (v := ?_) ?_ (by kernel_rfl) (by kernel_rfl) (by kernel_rfl) ?_ (Or.inl ⟨?_, ?_⟩) (by assumption) ?_
  rotate_left 2
  focus ((try simp only [List.getElem?_toArray, List.getElem?_cons_succ, List.getElem?_cons_zero]); (first | done | rfl))
  focus exact (fun _ _ _ h => h)
  focus rfl
  focus (intro w hSw; (try dsimp only at hSw); go_simp; (try with_reducible rfl); done)
  (try simp only [Act.put, sA_, sB_, sC_])
  refine wpAnyH_done (by kernel_rfl) ?_ _
  have HBF := Lib.hid (zi (zr HB.out) HB.out.size hb2);clear hcz0 hcz1 hcz2 hx1 hy1 hrow hcell hb2 hHeld
  rcases HM2.out with ⟨hr, rfl⟩ | ⟨hr, rfl⟩
  · have t1 : decide (0 ≤ m) = true := decide_eq_true hr
    clear HM2
    go_wp2
    all_goals
      go_ret2
      refine ⟨?_, HBF.out⟩
      first
        | rfl
        | (obtain rfl : m = 0 := by omega
           rfl)
  · have t1 : decide (0 ≤ R) = false := decide_eq_false (by omega)
    clear HM2
    go_wp2
    all_goals
      go_ret2
      refine ⟨?_, HBF.out⟩
      first
        | rfl
        | (rw [decide_eq_false (show ¬ 0 ≤ R by omega)]; rfl)
        | (exfalso; omega)
def impl_blocksOf.put (w h : Int) (l : List S58) (x y : Int) (u : Bool) (acc : List S58) : Option (List S58) := (impl_isBlock.f w h l x y u).bind fun t => if t = true then (if acc.length < 1000000 then some (acc ++ [(⟨x, y, u⟩ : S58)]) else none) else some acc
mutual
def impl_blocksOf.l0 (w h : Int) (l : List S58) : Nat → Int → List S58 → Option (List S58)
 | 0, _, _ => none
 | k + 1, x, acc => if x < w then impl_blocksOf.l1 w h l k x 0 acc else some acc
def impl_blocksOf.l1 (w h : Int) (l : List S58) : Nat → Int → Int → List S58 → Option (List S58)
 | 0, _, _, _ => none
 | k + 1, x, y, acc => if y < h then (impl_blocksOf.put w h l x y false acc).bind fun a => (impl_blocksOf.put w h l x y true a).bind fun b => impl_blocksOf.l1 w h l k x (wrap64 (y + 1)) b else impl_blocksOf.l0 w h l k (wrap64 (x + 1)) acc
end
def impl_blocksOf.f (k : Nat) (a0_0 : Int) (a0_1 : Int) (l0_2 : List S58) : Option (List S58) := impl_blocksOf.l0 a0_0 a0_1 l0_2 k 0 []
theorem impl_blocksOf.zt (w h : Int) (l : List S58) : ∀ k, (∀ x acc, LeO (impl_blocksOf.l0 w h l k x acc) (impl_blocksOf.l0 w h l (k + 1) x acc)) ∧ (∀ x y acc, LeO (impl_blocksOf.l1 w h l k x y acc) (impl_blocksOf.l1 w h l (k + 1) x y acc))
 | 0 => ⟨fun _ _ r h => by simp [impl_blocksOf.l0] at h, fun _ _ _ r h => by simp [impl_blocksOf.l1] at h⟩
 | k + 1 => by
  obtain ⟨ih0, ih1⟩ := impl_blocksOf.zt w h l k
  refine ⟨fun x acc => ?_, fun x y acc => ?_⟩
  ·unfold impl_blocksOf.l0
   exact LeO.ite (ih1 _ _ _) (LeO.refl _)
  ·unfold impl_blocksOf.l1
   exact LeO.ite (LeO.bind (LeO.refl _) (fun _ => LeO.bind (LeO.refl _) (fun _ => ih1 _ _ _))) (ih0 _ _)
theorem impl_blocksOf.mono : ∀ a0 a1 a2 k, LeO (impl_blocksOf.f k a0 a1 a2) (impl_blocksOf.f (k + 1) a0 a1 a2) := fun a0 a1 a2 k => (impl_blocksOf.zt _ _ _ k).1 _ _
theorem impl_blocksOf.ix0 (x y : Int) (w : World) : (Instr.index 95 (.agg #[.int .i64 x, .int .i64 y, .bool false, .int .i64 x, .int .i64 y, .bool true]) (.int .i64 0)).run Try.prog w = .ok (.agg #[.int .i64 x, .int .i64 y, .bool false]) w := by kernel_rfl
theorem impl_blocksOf.ix1 (x y : Int) (w : World) : (Instr.index 95 (.agg #[.int .i64 x, .int .i64 y, .bool false, .int .i64 x, .int .i64 y, .bool true]) (.int .i64 1)).run Try.prog w = .ok (.agg #[.int .i64 x, .int .i64 y, .bool true]) w := by kernel_rfl
set_option maxHeartbeats 8000000 in
set_option maxRecDepth 100000 in
theorem impl_blocksOf.calls (k : Nat) (a0_0 : Int) (a0_1 : Int) (A0_2 : Option Addr) (c0_2 : Nat) (l0_2 : List S58) (r : List S58) (w : World) (hr0_2 : Kd.C k58 w A0_2 l0_2.length l0_2) (hc0_2 : l0_2.length ≤ c0_2) (h : impl_blocksOf.f k a0_0 a0_1 l0_2 = some r) :
  Calls Try.prog 53 #[.agg #[.int .i64 a0_0, .int .i64 a0_1, .slice A0_2 l0_2.length c0_2]] w fun e w' => ∃ v0_ : Value, e = .returned v0_ ∧ Kd.R k58 58 w' w.heap.size (fun _ => True) v0_ r ∧ Below w.heap.size w w' := by
 have hu := Try.underlying31;have hub := Try.underlying58;have HL := Lib.hid hr0_2;have HH := Lib.hid h;clear hr0_2 h
 go_enter Try.func53, Try.ntmps53
 go_upto_region 1 with (fail)
 have HV := Lib.hid (show (w.alloc (.cells #[.int .i64 a0_0, .int .i64 a0_1, .slice A0_2 l0_2.length c0_2] 31)).heap[w.heap.size]? = some (.cells #[.int .i64 a0_0, .int .i64 a0_1, .slice A0_2 l0_2.length c0_2] 31 (0, 0)) from blk_new w _);have HB := Lib.hid (qd (Below.refl w.heap.size w) (.cells #[.int .i64 a0_0, .int .i64 a0_1, .slice A0_2 l0_2.length c0_2] 31))
 generalize (w.alloc (.cells #[.int .i64 a0_0, .int .i64 a0_1, .slice A0_2 l0_2.length c0_2] 31)) = W1 at HV HB ⊢
 obtain ⟨B0, hB0⟩ : ∃ B0, B0 = w.heap.size := ⟨_, rfl⟩;rw [← hB0] at HV ⊢;clear hB0;have hcz0 : W1.cell? ⟨B0, 0, none⟩ = some (.int .i64 a0_0) := (qc HV.out 0).trans rfl
 go_wp2
 clear hcz0
 go_loopg [3, 10] k (fun kq v3 v10 wr => ∃ (x : Int) (acc : List S58), v10 = .int .i64 x ∧ Hid (impl_blocksOf.l0 a0_0 a0_1 l0_2 kq x acc = some r) ∧ Hid (kq ≤ k) ∧ Hid (Kd.R k58 58 wr W1.heap.size (fun _ => True) v3 acc) ∧ Hid (Below W1.heap.size W1 wr))
 case atStart => exact ⟨0, [], rfl, HH, Lib.hid (Nat.le_refl _), Lib.hid (Kd.R_nil _ _ _ _ _), Lib.hid (Below.refl _ _)⟩
 case round =>
  clear HH;obtain ⟨x, acc, rfl, HA, HK1, HO, HR⟩ := hrel;cases gk with
  | zero => exact absurd HA.out (by simp [impl_blocksOf.l0])
  | succ k1 =>
   have h := HA.out;clear HA
   simp only [impl_blocksOf.l0] at h
   by_cases c2 : x < a0_0
   ·rw [if_pos c2] at h
    have c2b : decide (x < a0_0) = true := decide_eq_true c2;have H' := Lib.hid h;clear h c2;have hcz1 : wr.cell? ⟨B0, 1, none⟩ = some (.int .i64 a0_1) := (qc ((HR.out.block _ (zd HV.out)).trans HV.out) 1).trans rfl
    go_wp2
    clear hcz1
    go_loopg [3, 15] k1 (fun kq v3 v15 wr => ∃ (y : Int) (acc : List S58), v15 = .int .i64 y ∧ Hid (impl_blocksOf.l1 a0_0 a0_1 l0_2 kq x y acc = some r) ∧ Hid (kq ≤ k1) ∧ Hid (Kd.R k58 58 wr W1.heap.size (fun _ => True) v3 acc) ∧ Hid (Below W1.heap.size W1 wr))
    case atStart => exact ⟨0, acc, rfl, H', Lib.hid (Nat.le_refl _), HO, HR⟩
    case round =>
     clear H' HO HR c2b;obtain ⟨y, acc, rfl, HA, HK2, HO, HR⟩ := hrel;cases gk with
     | zero => exact absurd HA.out (by simp [impl_blocksOf.l1])
     | succ k2 =>
      have h := HA.out;clear HA
      simp only [impl_blocksOf.l1] at h
      by_cases c3 : y < a0_1
      ·rw [if_pos c3] at h
       have c3b : decide (y < a0_1) = true := decide_eq_true c3;obtain ⟨a1, ha1, h⟩ := Option.bind_eq_some_iff.mp h;obtain ⟨a2, ha2, h⟩ := Option.bind_eq_some_iff.mp h;have HA1 := Lib.hid ha1;have HA2 := Lib.hid ha2;have H' := Lib.hid h;clear ha1 ha2 h c3
       go_wp2
       go_loopg [3, 25] 2 (fun gn v3 v25 wr => ∃ (m : Nat) (a : List S58), gn = 2 - m ∧ m ≤ 2 ∧ v25 = .int .i64 m ∧ Hid ((m = 0 ∧ a = acc) ∨ (m = 1 ∧ a = a1) ∨ (m = 2 ∧ a = a2)) ∧ Hid (Kd.R k58 58 wr W1.heap.size (fun _ => True) v3 a) ∧ Hid (Below W1.heap.size W1 wr))
       case atStart => exact ⟨0, acc, rfl, by omega, rfl, Lib.hid (.inl ⟨rfl, rfl⟩), HO, HR⟩
       case round =>
        clear HO HR c3b;obtain ⟨m, a, hgn, hm, rfl, HM, HO, HR⟩ := hrel
        rcases HM.out with ⟨rfl, rfl⟩ | ⟨rfl, rfl⟩ | ⟨rfl, rfl⟩
        ·clear HM
         have h1 := HA1.out
         unfold impl_blocksOf.put at h1
         obtain ⟨t, ht, h1⟩ := Option.bind_eq_some_iff.mp h1;have HT := Lib.hid ht;have hix := fun w => impl_blocksOf.ix0 x y w;clear ht
         go_upto_region 11 with (fail)
         clear hix;have HBX := Lib.hid (qg ((HR.out.block _ (zd HV.out)).trans HV.out) (.cells #[.int .i64 x, .int .i64 y, .bool false] 58));have HBN := Lib.hid (blk_new wr (.cells #[.int .i64 x, .int .i64 y, .bool false] 58));have HBW := Lib.hid (qd HR.out (.cells #[.int .i64 x, .int .i64 y, .bool false] 58));have HOW := Lib.hid (Kd.qm HO.out (.cells #[.int .i64 x, .int .i64 y, .bool false] 58));have HCL := Lib.hid (Kd.za (Kd.qz (Kd.qz HL.out HB.out) (zi (Below.refl _ _) (Nat.le_refl _) HR.out)) (.cells #[.int .i64 x, .int .i64 y, .bool false] 58))
         generalize wr.alloc (.cells #[.int .i64 x, .int .i64 y, .bool false] 58) = W2 at HBX HBN HBW HOW HCL ⊢
         obtain ⟨BB, hBB⟩ : ∃ BB, BB = wr.heap.size := ⟨_, rfl⟩;rw [← hBB] at HBN ⊢;clear hBB;have hcz0 : W2.cell? ⟨B0, 0, none⟩ = some (.int .i64 a0_0) := (qc HBX.out 0).trans rfl;have hcz1 : W2.cell? ⟨B0, 1, none⟩ = some (.int .i64 a0_1) := (qc HBX.out 1).trans rfl;have hcz2 : W2.cell? ⟨B0, 2, none⟩ = some (.slice A0_2 l0_2.length c0_2) := (qc HBX.out 2).trans rfl;have hb0 : W2.cell? ⟨BB, 0, none⟩ = some (.int .i64 x) := (qc HBN.out 0).trans rfl;have hb1 : W2.cell? ⟨BB, 1, none⟩ = some (.int .i64 y) := (qc HBN.out 1).trans rfl;have hb2' : W2.cell? ⟨BB, 2, none⟩ = some (.bool false) := (qc HBN.out 2).trans rfl;cases t with
         | false =>
          obtain rfl := Option.some.inj h1;clear h1
          go_wp2_with (go_at_call 68; refine (impl_isBlock.calls a0_0 a0_1 A0_2 c0_2 l0_2 x y false false _ HCL.out hc0_2 HT.out).mono ?_; rintro e w2 ⟨rfl, hb2⟩; have hd0 := qy hb2 hb0; have hd1 := qy hb2 hb1; have hd2 := qy hb2 hb2'; have HB2 := Lib.hid (zi HBW.out HBW.out.size hb2); have b0 := Lib.hid (Kd.qv HOW.out hb2); clear hb2)
          go_roundg (2 - 1)
          case measure => omega
          case rel => exact ⟨1, _, rfl, by omega, (by first | rfl | (simp; done)), Lib.hid (.inr (.inl ⟨rfl, rfl⟩)), b0, HB2⟩
         | true =>
          rw [if_pos rfl] at h1
          by_cases hq : a.length < 1000000
          ·rw [if_pos hq] at h1
           obtain rfl := Option.some.inj h1;have HQ := Lib.hid hq;clear h1 hq;obtain ⟨A5, c5, e5⟩ := Kd.zn HO.out;subst e5
           go_wp2_with (first | (go_at_call 68; refine (impl_isBlock.calls a0_0 a0_1 A0_2 c0_2 l0_2 x y false true _ HCL.out hc0_2 HT.out).mono ?_; rintro e w2 ⟨rfl, hb2⟩; have hd0 := qy hb2 hb0; have hd1 := qy hb2 hb1; have hd2 := qy hb2 hb2'; have HB2 := Lib.hid (zi HBW.out HBW.out.size hb2); have b0 := Lib.hid (Kd.qv HOW.out hb2); clear hb2) | ((with_reducible refine gate_builtin (b := .append) (xs := #[.tmp 31, .tmp 33]) rfl ?_); at_builtin; refine Kd.R_append k58 (w0 := W1) W1.heap.size rfl (.tmp 31) (.tmp 33) 29 58 (.agg #[(.int .i64 0), (.int .i64 0), (.bool false)]) 24 rfl Try.underlying29 jg rfl (by decide) (by omega) _ a (⟨x, y, false⟩ : S58) [.int .i64 x, .int .i64 y, .bool false] (fun _ => True) (fun _ => False) rfl rfl ?aP (fun _ hk => hk.elim) ?aF ?aO ?aB ?aS ?aL ?_; (case aP => exact k58_mkM _ _ _ (⟨x, y, false⟩ : S58)); (case aB => exact HB2.out); (case aF => exact (fun _ _ => trivial)); (case aO => exact b0.out); (case aS => exact (ql HB2.out)); (case aL => have := HQ.out; omega); intro v3 w3 ho hb hg hat; have b1 := Lib.hid ho; have HB3 := Lib.hid hb; clear ho hb hg hat))
           go_roundg (2 - 1)
           case measure => omega
           case rel => exact ⟨1, _, rfl, by omega, (by first | rfl | (simp; done)), Lib.hid (.inr (.inl ⟨rfl, rfl⟩)), b1, HB3⟩
          ·rw [if_neg hq] at h1; cases h1
        ·clear HM
         have h1 := HA2.out
         unfold impl_blocksOf.put at h1
         obtain ⟨t, ht, h1⟩ := Option.bind_eq_some_iff.mp h1;have HT := Lib.hid ht;have hix := fun w => impl_blocksOf.ix1 x y w;clear ht
         go_upto_region 11 with (fail)
         clear hix;have HBX := Lib.hid (qg ((HR.out.block _ (zd HV.out)).trans HV.out) (.cells #[.int .i64 x, .int .i64 y, .bool true] 58));have HBN := Lib.hid (blk_new wr (.cells #[.int .i64 x, .int .i64 y, .bool true] 58));have HBW := Lib.hid (qd HR.out (.cells #[.int .i64 x, .int .i64 y, .bool true] 58));have HOW := Lib.hid (Kd.qm HO.out (.cells #[.int .i64 x, .int .i64 y, .bool true] 58));have HCL := Lib.hid (Kd.za (Kd.qz (Kd.qz HL.out HB.out) (zi (Below.refl _ _) (Nat.le_refl _) HR.out)) (.cells #[.int .i64 x, .int .i64 y, .bool true] 58))
         generalize wr.alloc (.cells #[.int .i64 x, .int .i64 y, .bool true] 58) = W2 at HBX HBN HBW HOW HCL ⊢
         obtain ⟨BB, hBB⟩ : ∃ BB, BB = wr.heap.size := ⟨_, rfl⟩;rw [← hBB] at HBN ⊢;clear hBB;have hcz0 : W2.cell? ⟨B0, 0, none⟩ = some (.int .i64 a0_0) := (qc HBX.out 0).trans rfl;have hcz1 : W2.cell? ⟨B0, 1, none⟩ = some (.int .i64 a0_1) := (qc HBX.out 1).trans rfl;have hcz2 : W2.cell? ⟨B0, 2, none⟩ = some (.slice A0_2 l0_2.length c0_2) := (qc HBX.out 2).trans rfl;have hb0 : W2.cell? ⟨BB, 0, none⟩ = some (.int .i64 x) := (qc HBN.out 0).trans rfl;have hb1 : W2.cell? ⟨BB, 1, none⟩ = some (.int .i64 y) := (qc HBN.out 1).trans rfl;have hb2' : W2.cell? ⟨BB, 2, none⟩ = some (.bool true) := (qc HBN.out 2).trans rfl;cases t with
         | false =>
          obtain rfl := Option.some.inj h1;clear h1
          go_wp2_with (go_at_call 68; refine (impl_isBlock.calls a0_0 a0_1 A0_2 c0_2 l0_2 x y true false _ HCL.out hc0_2 HT.out).mono ?_; rintro e w2 ⟨rfl, hb2⟩; have hd0 := qy hb2 hb0; have hd1 := qy hb2 hb1; have hd2 := qy hb2 hb2'; have HB2 := Lib.hid (zi HBW.out HBW.out.size hb2); have b0 := Lib.hid (Kd.qv HOW.out hb2); clear hb2)
          go_roundg (2 - 2)
          case measure => omega
          case rel => exact ⟨2, _, rfl, by omega, (by first | rfl | (simp; done)), Lib.hid (.inr (.inr ⟨rfl, rfl⟩)), b0, HB2⟩
         | true =>
          rw [if_pos rfl] at h1
          by_cases hq : a.length < 1000000
          ·rw [if_pos hq] at h1
           obtain rfl := Option.some.inj h1;have HQ := Lib.hid hq;clear h1 hq;obtain ⟨A5, c5, e5⟩ := Kd.zn HO.out;subst e5
           go_wp2_with (first | (go_at_call 68; refine (impl_isBlock.calls a0_0 a0_1 A0_2 c0_2 l0_2 x y true true _ HCL.out hc0_2 HT.out).mono ?_; rintro e w2 ⟨rfl, hb2⟩; have hd0 := qy hb2 hb0; have hd1 := qy hb2 hb1; have hd2 := qy hb2 hb2'; have HB2 := Lib.hid (zi HBW.out HBW.out.size hb2); have b0 := Lib.hid (Kd.qv HOW.out hb2); clear hb2) | ((with_reducible refine gate_builtin (b := .append) (xs := #[.tmp 31, .tmp 33]) rfl ?_); at_builtin; refine Kd.R_append k58 (w0 := W1) W1.heap.size rfl (.tmp 31) (.tmp 33) 29 58 (.agg #[(.int .i64 0), (.int .i64 0), (.bool false)]) 24 rfl Try.underlying29 jg rfl (by decide) (by omega) _ a (⟨x, y, true⟩ : S58) [.int .i64 x, .int .i64 y, .bool true] (fun _ => True) (fun _ => False) rfl rfl ?aP (fun _ hk => hk.elim) ?aF ?aO ?aB ?aS ?aL ?_; (case aP => exact k58_mkM _ _ _ (⟨x, y, true⟩ : S58)); (case aB => exact HB2.out); (case aF => exact (fun _ _ => trivial)); (case aO => exact b0.out); (case aS => exact (ql HB2.out)); (case aL => have := HQ.out; omega); intro v3 w3 ho hb hg hat; have b1 := Lib.hid ho; have HB3 := Lib.hid hb; clear ho hb hg hat))
           go_roundg (2 - 2)
           case measure => omega
           case rel => exact ⟨2, _, rfl, by omega, (by first | rfl | (simp; done)), Lib.hid (.inr (.inr ⟨rfl, rfl⟩)), b1, HB3⟩
          ·rw [if_neg hq] at h1; cases h1
        ·clear HM
         go_wp2
         go_roundg k2
         case measure => have := HK1.out; have := HK2.out; omega
         case rel => exact ⟨wrap64 (y + 1), _, (by first | rfl | (simp; done)), H', Lib.hid (by have := HK2.out; omega), HO, HR⟩
      ·rw [if_neg c3] at h
       have c3b : decide (y < a0_1) = false := decide_eq_false c3;have H' := Lib.hid h;clear h c3
       go_wp2
       go_roundg k2
       case measure => have := HK1.out; have := HK2.out; omega
       case rel => exact ⟨wrap64 (x + 1), _, (by first | rfl | (simp; done)), H', Lib.hid (by have := HK1.out; have := HK2.out; omega), HO, HR⟩
   ·rw [if_neg c2] at h
    have c2b : decide (x < a0_0) = false := decide_eq_false c2;obtain rfl := Option.some.inj h;clear h
    go_wp2
    go_ret
    exact ⟨_, rfl, Kd.zp HO.out HB.out.size, zi HB.out HB.out.size HR.out⟩
def impl_Block_55.f (l0 : List S58) : Option (List S58) := if l0.length < 5864062014805 then some l0 else none
theorem impl_Block_55.info : (Try.prog.info? 58).map (fun i => (i.zero, i.size, i.bytes)) = some (some (.agg #[.int .i64 0, .int .i64 0, .bool false]), 3, 24) := by kernel_rfl
set_option maxHeartbeats 2000000 in
set_option maxRecDepth 100000 in
theorem impl_Block_55.calls (A0 : Option Addr) (c0 : Nat) (l0 : List S58) (r : List S58) (w : World) (hr0 : Kd.C k58 w A0 l0.length l0) (hc0 : l0.length ≤ c0) (h : impl_Block_55.f l0 = some r) :
  Calls Try.prog 55 #[.slice A0 l0.length c0] w fun e w' => ∃ v0_ : Value, e = .returned (v0_) ∧ Kd.R k58 58 w' w.heap.size (fun _ => True) v0_ r ∧ Below w.heap.size w w' := by
 have q22 : ∀ (w : World) (a : Option Addr) (n c n' c' : Nat), (binOp .eql 29 (.slice a n c) (.slice none n' c')).run Try.prog w = .ok (.bool a.isNone) w := fun w a n c n' c' => Lib.run_eql_slice_nil w _ _ a n c n' c' Try.underlying29
 unfold impl_Block_55.f at h
 by_cases hlen : l0.length < 5864062014805
 ·rw [if_pos hlen] at h
  cases Option.some.inj h
  cases A0 with
  | none =>
   have hn : l0 = [] := by
    rcases Nat.eq_zero_or_pos l0.length with e | e
    ·exact List.eq_nil_of_length_eq_zero e
    ·obtain ⟨ad, e', _⟩ := hr0.2.2 e
     cases e'
   have HN := qb.mk hn
   clear hn hr0 hc0 h
   go_enter Try.func55, Try.ntmps55
   go_wp2
   go_ret
   rw [HN.out]
   exact ⟨_, rfl, Kd.R_nil _ _ _ _ _, Below.refl _ _⟩
  | some ad =>
   have HR0 := qb.mk hr0
   have LM := qb.mk hlen
   have HB := qb.mk (Below.refl w.heap.size w)
   clear hr0 hc0 h hlen
   go_enter Try.func55, Try.ntmps55
   go_wp2_with (first | ((with_reducible refine ze (N := 5) rfl ?_); refine Kd.R_lit k58 _ 58 ?hg (N := 5) ?hd (xs := ([] : List S58)) (inner := []) (ok := fun _ => True) (okp := fun _ => True) ?hr ?hp (fun _ hk => hk) trivial (Below.refl _ _) (Nat.le_refl _) (by simp) ?_; (case hd => rfl); (case hg => rfl); (case hr => first | (go_simp; done) | (go_simp; rfl)); (case hp => exact (Reps.none _ _)); intro v119 w3 ho4 hb hg_ hnew_; clear hg_ hnew_; have n0_ := qb.mk (Kd.zp ho4 (ql (be0_ HB))); have n1_ := qb.mk (qp (be0_ HB) hb); clear HB; have HO120 := n0_; have HB := n1_; clear n0_ n1_; clear hb ho4) | ((with_reducible refine gate_builtin (b := .append) (xs := #[.tmp 5, .tmp 6]) rfl ?_); at_builtin; refine Kd.R_append_rows k58 (w0 := w) w.heap.size rfl (.tmp 5) (.tmp 6) 29 58 (.agg #[.int .i64 0, .int .i64 0, .bool false]) 24 rfl Try.underlying29 impl_Block_55.info rfl (by decide) (by omega) v119 [] l0 _ _ _ (fun _ => True) (fun _ => False) rfl rfl ?aO ?aR (fun _ _ h => h) (fun _ h => h.elim) ?aF ?aB ?aS ?aL ?_; (case aR => repeat (first | exact (Kd.qz HR0.out HB.out) | (with_reducible refine Kd.za ?_ _) | (with_reducible refine Kd.zb ?_ _) | (with_reducible refine Kd.zf ?_))); (case aB => exact (be0_ HB)); (case aF => exact (fun _ _ => trivial)); (case aO => exact (kr_ HO120)); (case aS => exact (ql (be0_ HB))); (case aL => have := LM.out; simp only [List.length_nil]; omega); intro v122 w5 ho hb hg hat; rw [List.nil_append] at ho; have n0_ := qb.mk (hb); have n1_ := qb.mk (ho); clear HB; clear HO120; have HB := n0_; have HO123 := n1_; clear n0_ n1_; clear ho hb hg hat))
   go_ret
   exact ⟨_, rfl, kr_ HO123, be0_ HB⟩
 ·rw [if_neg hlen] at h
  cases h
end Go.Proofs.Ytpedofomfhmnfaa.PFnExactNeededBlocks
