/- Cut by wip/cut.py out of the texts of this claim (printed by the kit's printer, or this session's own): what the row's theorem does not reach is struck. Not trusted: Lean checks it. -/
import Derived.Test.YtpopeedfgenebaaGreatZFnPostDeliversPx0
import Derived.Test.YtpopeedfgenebaaGreatZFnPostDeliversPx6
namespace Go.Proofs.YtpopeedfgenebaaGreat.PFnPostDelivers
open Go.RowKit Go.Proofs.YtpopeedfgenebaaGreatW.PrintWords Go.Proofs.YtpopeedfgenebaaGreatW.PrintLast Go.Proofs.YtpopeedfgenebaaGreatW.PrintMore
attribute [local go_sem] zq zo zx zw zk zj zp zn
set_option linter.unusedVariables false
set_option linter.unusedSimpArgs false
def spec_poTable.cross (b s t : Int) : Int := (spec_poCross.f b s t).getD 0
theorem spec_poTable.cross_f (b s t : Int) : spec_poCross.f b s t = some (spec_poTable.cross b s t) ∧ 0 ≤ spec_poTable.cross b s t ∧ spec_poTable.cross b s t ≤ 2 := by
 have h : ∃ r, spec_poCross.f b s t = some r ∧ 0 ≤ r ∧ r ≤ 2 := by
  unfold spec_poCross.f
  repeat' split
  all_goals exact ⟨_, rfl, (by omega), (by omega)⟩
 obtain ⟨r, hr, h0, h1⟩ := h
 unfold spec_poTable.cross
 rw [hr]
 exact ⟨rfl, h0, h1⟩
def spec_poTable.least (a b : Int) : Int := if a < b then a else b
def spec_poTable.upd (own cn : Int) (p : Int × Int) : Int × Int := if own < p.1 then (own, spec_poTable.least (0 + cn) 1000000000000001) else if own = p.1 then (p.1, spec_poTable.least (p.2 + cn) 1000000000000001) else p
def spec_poTable.side (b : Int) (R : (Nat → Int) × (Nat → Int)) (s : Nat) : Nat → Int × Int
 | 0 => (1000000, 0)
 | t + 1 => if R.1 t = 1000000 then spec_poTable.side b R s t else spec_poTable.upd (spec_poTable.cross b s t + R.1 t) (R.2 t) (spec_poTable.side b R s t)
def spec_poTable.rowAt (e : (Nat → Int) × (Nat → Int)) : List Int → (Nat → Int) × (Nat → Int)
 | [] => e
 | b :: l => (fun s => (spec_poTable.side b (spec_poTable.rowAt e l) s 2).1, fun s => (spec_poTable.side b (spec_poTable.rowAt e l) s 2).2)
def spec_poTable.endRow (a : Int) : (Nat → Int) × (Nat → Int) := (fun s => if a = 2 ∨ a = (s : Int) then 0 else 1000000, fun s => if a = 2 ∨ a = (s : Int) then 1 else 0)
def spec_poTable.R (a0 : ByteArray) (a1 : Int) (j : Nat) : (Nat → Int) × (Nat → Int) := spec_poTable.rowAt (spec_poTable.endRow a1) ((bytesOf a0).drop j)
theorem spec_poTable.R_end (a0 : ByteArray) (a1 : Int) : spec_poTable.R a0 a1 a0.size = spec_poTable.endRow a1 := by
 unfold spec_poTable.R
 rw [List.drop_of_length_le by_]
 rfl
theorem spec_poTable.R_step (a0 : ByteArray) (a1 : Int) (j : Nat) (hj : j < a0.size) : spec_poTable.R a0 a1 j = (fun s => (spec_poTable.side (bt a0 j) (spec_poTable.R a0 a1 (j + 1)) s 2).1, fun s => (spec_poTable.side (bt a0 j) (spec_poTable.R a0 a1 (j + 1)) s 2).2) := by
 have hl : j < (bytesOf a0).length := by rw [bytesOf_length]; exact hj
 unfold spec_poTable.R
 rw [List.drop_eq_getElem_cons hl, spec_poTable.rowAt]
 have hb : (bytesOf a0)[j] = bt a0 j := by rw [← rd_bytesOf]; simp [rd, hl]
 rw [hb]
def spec_poTable.tab (n : Nat) (f : Nat → Nat → Int) : List (List Int) := (List.range (n + 1)).map fun j => [f j 0, f j 1]
def spec_poTable.f (a0 : ByteArray) (a1 : Int) : Option (List (List Int) × List (List Int)) := if a0.size ≤ 60 then some (spec_poTable.tab a0.size (fun j s => (spec_poTable.R a0 a1 j).1 s), spec_poTable.tab a0.size (fun j s => (spec_poTable.R a0 a1 j).2 s)) else none
def spec_poTable.Ok (p : Int × Int) : Prop := 0 ≤ p.1 ∧ p.1 ≤ 1000000 ∧ 0 ≤ p.2 ∧ p.2 ≤ 1000000000000001
theorem spec_poTable.upd_ok {own cn : Int} {p : Int × Int} (h : spec_poTable.Ok p) (h0 : 0 ≤ own) (h1 : 0 ≤ cn) (h2 : cn ≤ 1000000000000001) : spec_poTable.Ok (spec_poTable.upd own cn p) := by
 unfold spec_poTable.Ok at *
 unfold spec_poTable.upd spec_poTable.least
 exact lF_
theorem spec_poTable.side_ok {b : Int} {R : (Nat → Int) × (Nat → Int)} (hR : ∀ t, spec_poTable.Ok (R.1 t, R.2 t)) (s : Nat) : ∀ t, spec_poTable.Ok (spec_poTable.side b R s t)
 | 0 => by unfold spec_poTable.Ok spec_poTable.side; omega
 | t + 1 => by
  have h := hR t
  have hc := (spec_poTable.cross_f b s t).2
  unfold spec_poTable.Ok at h
  unfold spec_poTable.side
  split
  ·exact spec_poTable.side_ok hR s t
  ·exact spec_poTable.upd_ok (spec_poTable.side_ok hR s t) (by have := h.1; simp only at this; omega) h.2.2.1 h.2.2.2
theorem spec_poTable.rowAt_ok {e : (Nat → Int) × (Nat → Int)} (he : ∀ t, spec_poTable.Ok (e.1 t, e.2 t)) : ∀ (l : List Int) (t : Nat), spec_poTable.Ok ((spec_poTable.rowAt e l).1 t, (spec_poTable.rowAt e l).2 t)
 | [], t => he t
 | b :: l, t => spec_poTable.side_ok (spec_poTable.rowAt_ok he l) t 2
theorem spec_poTable.R_ok (a0 : ByteArray) (a1 : Int) (j t : Nat) : spec_poTable.Ok ((spec_poTable.R a0 a1 j).1 t, (spec_poTable.R a0 a1 j).2 t) := by
 refine spec_poTable.rowAt_ok (fun t => ?_) _ t
 unfold spec_poTable.Ok spec_poTable.endRow
 simp only
 split <;> omega
def spec_poTable.TW (w wr : World) (n m : Nat) (few cnt : Nat → Nat → Int) : Prop :=
 wr.heap.size = w.heap.size + 2 + 2 * (n + 1 - m) ∧
 (∃ FA : Array Value, wr.heap[w.heap.size]? = some (.cells FA 28 (0, 0)) ∧ FA.size = n + 1 ∧ ∀ i, m ≤ i → i ≤ n → FA[i]? = some (.slice (some ⟨w.heap.size + 2 + 2 * (n - i), 0, none⟩) 2 2)) ∧
 (∃ CA : Array Value, wr.heap[w.heap.size + 1]? = some (.cells CA 28 (0, 0)) ∧ CA.size = n + 1 ∧ ∀ i, m ≤ i → i ≤ n → CA[i]? = some (.slice (some ⟨w.heap.size + 3 + 2 * (n - i), 0, none⟩) 2 2)) ∧
 (∀ i, m ≤ i → i ≤ n → wr.heap[w.heap.size + 2 + 2 * (n - i)]? = some (.cells #[.int .i64 (few i 0), .int .i64 (few i 1)] 3 (0, 0)) ∧ wr.heap[w.heap.size + 3 + 2 * (n - i)]? = some (.cells #[.int .i64 (cnt i 0), .int .i64 (cnt i 1)] 3 (0, 0))) ∧
 Below w.heap.size w wr
section
variable {w wr : World} {n m : Nat} {few cnt : Nat → Nat → Int}
theorem spec_poTable.pair_at {f : Nat → Int} {s : Nat} (hs : s < 2) : (#[Value.int .i64 (f 0), .int .i64 (f 1)] : Array Value)[s]? = some (.int .i64 (f s)) := by
 rcases (show s = 0 ∨ s = 1 by omega) with rfl | rfl <;> rfl
theorem spec_poTable.pair_set {f : Nat → Int} {s : Nat} (hs : s < 2) (x : Int) : (#[Value.int .i64 (f 0), .int .i64 (f 1)] : Array Value).setIfInBounds s (.int .i64 x) = #[.int .i64 (if 0 = s then x else f 0), .int .i64 (if 1 = s then x else f 1)] := by
 rcases (show s = 0 ∨ s = 1 by omega) with rfl | rfl <;> rfl
theorem spec_poTable.TW.rowF (h : spec_poTable.TW w wr n m few cnt) {i : Nat} (hm : m ≤ i) (hi : i ≤ n) : wr.cell? ⟨w.heap.size, i, none⟩ = some (.slice (some ⟨w.heap.size + 2 + 2 * (n - i), 0, none⟩) 2 2) := by
 obtain ⟨FA, h1, _, h2⟩ := h.2.1
 rw [qk h1]; exact h2 i hm hi
theorem spec_poTable.TW.rowC (h : spec_poTable.TW w wr n m few cnt) {i : Nat} (hm : m ≤ i) (hi : i ≤ n) : wr.cell? ⟨w.heap.size + 1, i, none⟩ = some (.slice (some ⟨w.heap.size + 3 + 2 * (n - i), 0, none⟩) 2 2) := by
 obtain ⟨FA, h1, _, h2⟩ := h.2.2.1
 rw [qk h1]; exact h2 i hm hi
theorem spec_poTable.TW.cF (h : spec_poTable.TW w wr n m few cnt) {i s : Nat} (hm : m ≤ i) (hi : i ≤ n) (hs : s < 2) : wr.cell? ⟨w.heap.size + 2 + 2 * (n - i), s, none⟩ = some (.int .i64 (few i s)) ∧ wr.frozen? ⟨w.heap.size + 2 + 2 * (n - i), s, none⟩ = false := by
 have h1 := (h.2.2.2.1 i hm hi).1
 exact ⟨(by rw [qk h1]; exact spec_poTable.pair_at hs), qi h1 s⟩
theorem spec_poTable.TW.cC (h : spec_poTable.TW w wr n m few cnt) {i s : Nat} (hm : m ≤ i) (hi : i ≤ n) (hs : s < 2) : wr.cell? ⟨w.heap.size + 3 + 2 * (n - i), s, none⟩ = some (.int .i64 (cnt i s)) ∧ wr.frozen? ⟨w.heap.size + 3 + 2 * (n - i), s, none⟩ = false := by
 have h1 := (h.2.2.2.1 i hm hi).2
 exact ⟨(by rw [qk h1]; exact spec_poTable.pair_at hs), qi h1 s⟩
theorem spec_poTable.TW.congr (h : spec_poTable.TW w wr n m few cnt) {few' cnt' : Nat → Nat → Int} (he : ∀ i s, m ≤ i → i ≤ n → s < 2 → few i s = few' i s ∧ cnt i s = cnt' i s) : spec_poTable.TW w wr n m few' cnt' := by
 obtain ⟨h0, h1, h2, h3, h4⟩ := h
 refine ⟨h0, h1, h2, fun i hm hi => ?_, h4⟩
 have e0 := he i 0 hm hi (by omega)
 have e1 := he i 1 hm hi (by omega)
 rw [← e0.1, ← e0.2, ← e1.1, ← e1.2]
 exact h3 i hm hi
theorem spec_poTable.TW.drewN (h : spec_poTable.TW w wr n m few cnt) (k : Nat) : spec_poTable.TW w (wr.drewN k) n m few cnt := ⟨h.1, h.2.1, h.2.2.1, h.2.2.2.1, qa h.2.2.2.2 k⟩
theorem spec_poTable.TW.drew (h : spec_poTable.TW w wr n m few cnt) : spec_poTable.TW w wr.drew n m few cnt := ⟨h.1, h.2.1, h.2.2.1, h.2.2.2.1, below_drew h.2.2.2.2⟩
theorem spec_poTable.TW.setF (h : spec_poTable.TW w wr n m few cnt) {i0 s0 : Nat} (hm : m ≤ i0) (hi0 : i0 ≤ n) (hs0 : s0 < 2) (x : Int) : spec_poTable.TW w (wr.setCell ⟨w.heap.size + 2 + 2 * (n - i0), s0, none⟩ (.int .i64 x)) n m (fun i s => if i = i0 ∧ s = s0 then x else few i s) cnt := by
 obtain ⟨h0, ⟨FA, f1, f2⟩, ⟨CA, g1, g2⟩, h3, h4⟩ := h
 refine ⟨(by simpa using h0), ⟨FA, zm f1 b0_ _, f2⟩, ⟨CA, zm g1 b0_ _, g2⟩, fun i hmi hi => ⟨?_, zm (h3 i hmi hi).2 b0_ _⟩, h4.setCell b0_ _⟩
 by_cases e : i = i0
 ·subst e
  have := blk_set (h3 i hmi hi).1 s0 (.int .i64 x)
  rw [spec_poTable.pair_set hs0] at this
  simpa using this
 ·have := zm (h3 i hmi hi).1 (p := ⟨w.heap.size + 2 + 2 * (n - i0), s0, none⟩) b0_ (.int .i64 x)
  simpa [e] using this
theorem spec_poTable.TW.setC (h : spec_poTable.TW w wr n m few cnt) {i0 s0 : Nat} (hm : m ≤ i0) (hi0 : i0 ≤ n) (hs0 : s0 < 2) (x : Int) : spec_poTable.TW w (wr.setCell ⟨w.heap.size + 3 + 2 * (n - i0), s0, none⟩ (.int .i64 x)) n m few (fun i s => if i = i0 ∧ s = s0 then x else cnt i s) := by
 obtain ⟨h0, ⟨FA, f1, f2⟩, ⟨CA, g1, g2⟩, h3, h4⟩ := h
 refine ⟨(by simpa using h0), ⟨FA, zm f1 b0_ _, f2⟩, ⟨CA, zm g1 b0_ _, g2⟩, fun i hmi hi => ⟨zm (h3 i hmi hi).1 b0_ _, ?_⟩, h4.setCell b0_ _⟩
 by_cases e : i = i0
 ·subst e
  have := blk_set (h3 i hmi hi).2 s0 (.int .i64 x)
  rw [spec_poTable.pair_set hs0] at this
  simpa using this
 ·have := zm (h3 i hmi hi).2 (p := ⟨w.heap.size + 3 + 2 * (n - i0), s0, none⟩) b0_ (.int .i64 x)
  simpa [e] using this
theorem spec_poTable.TW.look (h : spec_poTable.TW w wr n m few cnt) {i : Nat} (hm : m ≤ i) (hi : i ≤ n) : ∃ fb cb : Nat, (fb = w.heap.size + 2 + 2 * (n - i) ∧ cb = w.heap.size + 3 + 2 * (n - i)) ∧
  wr.cell? ⟨w.heap.size, i, none⟩ = some (.slice (some ⟨fb, 0, none⟩) 2 2) ∧ wr.cell? ⟨w.heap.size + 1, i, none⟩ = some (.slice (some ⟨cb, 0, none⟩) 2 2) ∧
  (∀ s, s < 2 → wr.cell? ⟨fb, s, none⟩ = some (.int .i64 (few i s)) ∧ wr.frozen? ⟨fb, s, none⟩ = false ∧ wr.cell? ⟨cb, s, none⟩ = some (.int .i64 (cnt i s)) ∧ wr.frozen? ⟨cb, s, none⟩ = false) ∧
  fb ≠ w.heap.size ∧ fb ≠ w.heap.size + 1 ∧ cb ≠ w.heap.size ∧ cb ≠ w.heap.size + 1 ∧ fb ≠ cb :=
 ⟨_, _, ⟨rfl, rfl⟩, h.rowF hm hi, h.rowC hm hi, fun s hs => ⟨(h.cF hm hi hs).1, (h.cF hm hi hs).2, (h.cC hm hi hs).1, (h.cC hm hi hs).2⟩, (by omega), (by omega), (by omega), (by omega), (by omega)⟩
theorem spec_poTable.TW.any (h : spec_poTable.TW w wr n m few cnt) {i : Nat} (hi : i ≤ n) : ∃ u v : Value, wr.cell? ⟨w.heap.size, i, none⟩ = some u ∧ wr.frozen? ⟨w.heap.size, i, none⟩ = false ∧ wr.cell? ⟨w.heap.size + 1, i, none⟩ = some v ∧ wr.frozen? ⟨w.heap.size + 1, i, none⟩ = false := by
 obtain ⟨FA, f1, f2, _⟩ := h.2.1
 obtain ⟨CA, g1, g2, _⟩ := h.2.2.1
 exact ⟨_, _, (by rw [qk f1]; exact Array.getElem?_eq_getElem (by omega)), qi f1 i, (by rw [qk g1]; exact Array.getElem?_eq_getElem (by omega)), qi g1 i⟩
theorem spec_poTable.TW.more (h : spec_poTable.TW w wr n (m + 1) few cnt) (hm : m ≤ n) (f0 f1 c0 c1 : Int) :
  spec_poTable.TW w ((((wr.setCell ⟨w.heap.size, m, none⟩ (.slice (some ⟨wr.heap.size, 0, none⟩) 2 2)).setCell ⟨w.heap.size + 1, m, none⟩ (.slice (some ⟨wr.heap.size + 1, 0, none⟩) 2 2)).alloc (.cells #[.int .i64 f0, .int .i64 f1] 3)).alloc (.cells #[.int .i64 c0, .int .i64 c1] 3)) n m
   (fun i s => if i = m then (if s = 0 then f0 else f1) else few i s) (fun i s => if i = m then (if s = 0 then c0 else c1) else cnt i s) := by
 obtain ⟨h0, ⟨FA, f1', f2, f3⟩, ⟨CA, g1, g2, g3⟩, h3, h4⟩ := h
 have z1 : wr.heap.size = w.heap.size + 2 + 2 * (n - m) := by omega
 refine ⟨ca_, ⟨FA.setIfInBounds m (.slice (some ⟨wr.heap.size, 0, none⟩) 2 2), ?_, (by simpa using f2), fun i hmi hi => ?_⟩, ⟨CA.setIfInBounds m (.slice (some ⟨wr.heap.size + 1, 0, none⟩) 2 2), ?_, (by simpa using g2), fun i hmi hi => ?_⟩, fun i hmi hi => ?_, ?_⟩
 ·exact qg (qg (zm (blk_set f1' m _) b0_ _) _) _
 ·by_cases e : i = m
  ·subst e
   rw [Array.getElem?_setIfInBounds_self_of_lt (by omega), z1]
  ·rw [Array.getElem?_setIfInBounds_ne (by omega)]; exact f3 i (by omega) hi
 ·exact qg (qg (blk_set (zm g1 b0_ _) m _) _) _
 ·by_cases e : i = m
  ·subst e
   rw [Array.getElem?_setIfInBounds_self_of_lt (by omega), z1]
   rw [show w.heap.size + 2 + 2 * (n - i) + 1 = w.heap.size + 3 + 2 * (n - i) by omega]
  ·rw [Array.getElem?_setIfInBounds_ne (by omega)]; exact g3 i (by omega) hi
 ·by_cases e : i = m
  ·subst e
   constructor
   ·rw [← z1]
    simpa using qg (blk_new ((wr.setCell ⟨w.heap.size, i, none⟩ (.slice (some ⟨wr.heap.size, 0, none⟩) 2 2)).setCell ⟨w.heap.size + 1, i, none⟩ (.slice (some ⟨wr.heap.size + 1, 0, none⟩) 2 2)) (.cells #[.int .i64 f0, .int .i64 f1] 3)) (.cells #[.int .i64 c0, .int .i64 c1] 3)
   ·rw [show w.heap.size + 3 + 2 * (n - i) = wr.heap.size + 1 by omega]
    have hnew := blk_new (((wr.setCell ⟨w.heap.size, i, none⟩ (.slice (some ⟨wr.heap.size, 0, none⟩) 2 2)).setCell ⟨w.heap.size + 1, i, none⟩ (.slice (some ⟨wr.heap.size + 1, 0, none⟩) 2 2)).alloc (.cells #[.int .i64 f0, .int .i64 f1] 3)) (.cells #[.int .i64 c0, .int .i64 c1] 3)
    simpa using hnew
  ·have hb := h3 i (by omega) hi
   simp only [if_neg e]
   exact ⟨qg (qg (zm (zm hb.1 b0_ _) b0_ _) _) _, qg (qg (zm (zm hb.2 b0_ _) b0_ _) _) _⟩
 ·have hB := (h4.setCell (p := ⟨w.heap.size, m, none⟩) b0_ (.slice (some ⟨wr.heap.size, 0, none⟩) 2 2)).setCell (p := ⟨w.heap.size + 1, m, none⟩) b0_ (.slice (some ⟨wr.heap.size + 1, 0, none⟩) 2 2)
  exact qd (qd hB _) _
end
theorem spec_poTable.TW.held {w wX : World} {n p s t : Nat} {few cnt : Nat → Nat → Int} (h : spec_poTable.TW w wX n p few cnt) (hp : p < n) (hs : s < 2) (ht : t < 2) {fb cb fn cn : Nat} (eb : fb = w.heap.size + 2 + 2 * (n - p) ∧ cb = w.heap.size + 3 + 2 * (n - p)) (en : fn = w.heap.size + 2 + 2 * (n - (p + 1)) ∧ cn = w.heap.size + 3 + 2 * (n - (p + 1))) {c C : Int} (vc : cnt p s = c) (vC : cnt (p + 1) t = C) :
  wX.cell? ⟨w.heap.size + 1, p, none⟩ = some (.slice (some ⟨cb, 0, none⟩) 2 2) ∧ wX.cell? ⟨cb, s, none⟩ = some (.int .i64 c) ∧ wX.frozen? ⟨cb, s, none⟩ = false ∧ wX.cell? ⟨w.heap.size + 1, p + 1, none⟩ = some (.slice (some ⟨cn, 0, none⟩) 2 2) ∧ wX.cell? ⟨cn, t, none⟩ = some (.int .i64 C) := by
 rw [eb.2, en.2, ← vc, ← vC]
 exact ⟨h.rowC (Nat.le_refl _) (by omega), (h.cC (Nat.le_refl _) (by omega) hs).1, (h.cC (Nat.le_refl _) (by omega) hs).2, h.rowC (by omega) (by omega), (h.cC (by omega) (by omega) ht).1⟩
theorem spec_poTable.shown {w wr : World} {n B off : Nat} {g : Nat → Nat → Int} {FA : Array Value} {ok : Nat → Prop} (hn : n ≤ 60) (hr : wr.heap[B]? = some (.cells FA 28 (0, 0))) (hz : FA.size = n + 1) (hf : ∀ i, i ≤ n → FA[i]? = some (.slice (some ⟨w.heap.size + off + 2 * (n - i), 0, none⟩) 2 2))
  (hc : ∀ i, i ≤ n → wr.heap[w.heap.size + off + 2 * (n - i)]? = some (.cells #[.int .i64 (g i 0), .int .i64 (g i 1)] 3 (0, 0))) (hB : w.heap.size ≤ B) (hB2 : B < w.heap.size + off) (hok : ok B) (hok2 : ∀ i, i ≤ n → ok (w.heap.size + off + 2 * (n - i))) :
  Kd.S (Kd.slice 3 (Kd.int .i64)) 28 wr w.heap.size ok (.slice (some ⟨B, 0, none⟩) (n + 1) (n + 1)) (spec_poTable.tab n g) := by
 have hl : (spec_poTable.tab n g).zipIdx.length = n + 1 := by simp [spec_poTable.tab]
 refine ⟨fun k => n - (k - w.heap.size - off) / 2, fun k hk => ?_, FA.toList, ?_, ?_, ?_⟩
 ·have : B = k := by simpa [Value.ownBlock] using hk
  rw [← this]; exact hok
 ·rw [hl]
  refine ⟨(by simp [hz, Kd.tag, Kd.slice]), .inr ⟨B, n + 1, FA, rfl, hB, hr, Nat.le_refl _, (by unfold maxLen; omega), (by simp [hz, Kd.tag, Kd.slice]), ?_⟩⟩
  simp [Kd.tag, Kd.slice]
  exact List.take_of_length_le (by simp [hz])
 ·rw [hl]; simp [hz, Kd.tag, Kd.slice]
 ·intro j p hj
  have hj' : j < n + 1 := by
   rcases Nat.lt_or_ge j (n + 1) with h | h
   ·exact h
   ·rw [List.getElem?_eq_none (by omega)] at hj; cases hj
  have hp : p = ([g j 0, g j 1], j) := by
   have : (spec_poTable.tab n g).zipIdx[j]? = some ([g j 0, g j 1], j) := Kd.zip_at (by simp [spec_poTable.tab, hj'])
   rw [this] at hj
   exact (Option.some.inj hj).symm
  have hd : ((FA.toList.drop (j * 1)).take 1) = [Value.slice (some ⟨w.heap.size + off + 2 * (n - j), 0, none⟩) 2 2] := by
   have h1 := hf j (by omega)
   rw [Nat.mul_one]
   have h2 : FA.toList[j]? = some (Value.slice (some ⟨w.heap.size + off + 2 * (n - j), 0, none⟩) 2 2) := by simpa using h1
   rw [List.drop_eq_getElem_cons ca_]
   rw [List.getElem?_eq_getElem ca_] at h2
   rw [Option.some.inj h2]
   simp
  subst hp
  show ∃ v, _ = [v] ∧ _
  refine ⟨_, hd, Kd.R_of_own (enc := Value.int .i64) (h1 := fun _ => rfl) ?_ ?_⟩
  ·refine ⟨(by simp [encs]), .inr ⟨w.heap.size + off + 2 * (n - j), 2, _, rfl, (by omega), hc j (by omega), Nat.le_refl _, (by unfold maxLen; omega), (by simp), ?_⟩⟩
   simp [encs]
  ·intro k hk
   have : w.heap.size + off + 2 * (n - j) = k := by simpa [Value.ownBlock] using hk
   subst this
   refine ⟨⟨hok2 j (by omega), ?_⟩, ?_⟩
   ·simp [Value.ownBlock]; omega
   ·simp only; omega
theorem spec_poTable.info22 : (Tryz.prog.info? 28).map (fun i => (i.zero, i.size, i.bytes)) = some (some (.slice none 0 0), 1, 24) := by kernel_rfl
def spec_poTable.nils (n : Nat) : Array Value := madeCells #[.slice none 0 0] (n + 1)
theorem spec_poTable.made (n : Nat) (hn : n ≤ 60) (W : World) : (Instr.makeSlice 92 (.int .i64 ((n : Int) + 1)) (.int .i64 ((n : Int) + 1))).run Tryz.prog W = .ok (.slice (some ⟨W.heap.size, 0, none⟩) (n + 1) (n + 1)) (W.alloc (.cells (spec_poTable.nils n) 28)) :=
 print_make_of (P := Tryz.prog) 92 28 (.slice none 0 0) 24 Tryz.underlying92 spec_poTable.info22 rfl (by omega) (n + 1) (by omega) W
theorem spec_poTable.TW.start (w : World) (n : Nat) (few cnt : Nat → Nat → Int) : spec_poTable.TW w ((w.alloc (.cells (spec_poTable.nils n) 28)).alloc (.cells (spec_poTable.nils n) 28)) n (n + 1) few cnt := by
 refine ⟨(by simp), ⟨spec_poTable.nils n, qg (blk_new _ _) _, (by simp [spec_poTable.nils, size_madeCells]), fun i h1 h2 => by omega⟩, ⟨spec_poTable.nils n, (by simpa using blk_new (w.alloc (.cells (spec_poTable.nils n) 28)) (.cells (spec_poTable.nils n) 28)), (by simp [spec_poTable.nils, size_madeCells]), fun i h1 h2 => by omega⟩, fun i h1 h2 => by omega, qd (qd (Below.refl _ _) _) _⟩
theorem spec_poTable.nils_at {n i : Nat} (h : i ≤ n) : ∃ u, (spec_poTable.nils n)[i]? = some u := ⟨_, Array.getElem?_eq_getElem (by simp [spec_poTable.nils, size_madeCells]; omega)⟩
theorem spec_poTable.TW.begin_ (w : World) (n : Nat) : spec_poTable.TW w ((((w.alloc (.cells ((spec_poTable.nils n).setIfInBounds n (.slice (some ⟨w.heap.size + 1 + 1, 0, none⟩) 2 2)) 28)).alloc (.cells ((spec_poTable.nils n).setIfInBounds n (.slice (some ⟨w.heap.size + 1 + 1 + 1, 0, none⟩) 2 2)) 28)).alloc (.cells #[.int .i64 1000000, .int .i64 1000000] 3)).alloc (.cells #[.int .i64 0, .int .i64 0] 3)) n n (fun _ _ => 1000000) (fun _ _ => 0) := by
 have hsz : (spec_poTable.nils n).size = n + 1 := by simp [spec_poTable.nils, size_madeCells]
 refine ⟨(by simp <;> omega), ⟨_, qg (qg (qg (blk_new _ _) _) _) _, (by simpa using hsz), fun i h1 h2 => ?_⟩, ⟨_, qg (qg (by simpa using blk_new (w.alloc _) _) _) _, (by simpa using hsz), fun i h1 h2 => ?_⟩, fun i h1 h2 => ?_, qd (qd (qd (qd (Below.refl _ _) _) _) _) _⟩
 ·obtain rfl : i = n := by omega
  rw [Array.getElem?_setIfInBounds_self_of_lt (by omega)]
  simp
 ·obtain rfl : i = n := by omega
  rw [Array.getElem?_setIfInBounds_self_of_lt (by omega)]
  simp
 ·obtain rfl : i = n := by omega
  rw [Nat.sub_self]
  exact ⟨qg (by simpa using blk_new ((w.alloc _).alloc _) _) _, (by simpa using blk_new (((w.alloc _).alloc _).alloc _) _)⟩
def spec_poTable.few1 (a1 : Int) (s : Nat) : Nat → Nat → Int := fun _ s' => if s' < s then (spec_poTable.endRow a1).1 s' else 1000000
def spec_poTable.cnt1 (a1 : Int) (s : Nat) : Nat → Nat → Int := fun _ s' => if s' < s then (spec_poTable.endRow a1).2 s' else 0
def spec_poTable.few2 (a0 : ByteArray) (a1 : Int) : Nat → Nat → Int := fun i s => (spec_poTable.R a0 a1 i).1 s
def spec_poTable.cnt2 (a0 : ByteArray) (a1 : Int) : Nat → Nat → Int := fun i s => (spec_poTable.R a0 a1 i).2 s
def spec_poTable.few3 (a0 : ByteArray) (a1 : Int) (p s : Nat) : Nat → Nat → Int := fun i s' => if i = p ∧ s ≤ s' then 1000000 else (spec_poTable.R a0 a1 i).1 s'
def spec_poTable.cnt3 (a0 : ByteArray) (a1 : Int) (p s : Nat) : Nat → Nat → Int := fun i s' => if i = p ∧ s ≤ s' then 0 else (spec_poTable.R a0 a1 i).2 s'
def spec_poTable.sd (a0 : ByteArray) (a1 : Int) (p s t : Nat) : Int × Int := spec_poTable.side (bt a0 p) (spec_poTable.R a0 a1 (p + 1)) s t
def spec_poTable.few4 (a0 : ByteArray) (a1 : Int) (p s t : Nat) : Nat → Nat → Int := fun i s' => if i = p ∧ s' = s then (spec_poTable.sd a0 a1 p s t).1 else spec_poTable.few3 a0 a1 p s i s'
def spec_poTable.cnt4 (a0 : ByteArray) (a1 : Int) (p s t : Nat) : Nat → Nat → Int := fun i s' => if i = p ∧ s' = s then (spec_poTable.sd a0 a1 p s t).2 else spec_poTable.cnt3 a0 a1 p s i s'
theorem spec_poTable.eq1 (a1 : Int) (n s : Nat) (i s' : Nat) (hi : n ≤ i) (hi' : i ≤ n) : (a1 = 2 ∨ a1 = (s : Int) → (if i = n ∧ s' = s then 0 else spec_poTable.few1 a1 s i s') = spec_poTable.few1 a1 (s + 1) i s' ∧ (if i = n ∧ s' = s then 1 else spec_poTable.cnt1 a1 s i s') = spec_poTable.cnt1 a1 (s + 1) i s') ∧
  (¬ (a1 = 2 ∨ a1 = (s : Int)) → spec_poTable.few1 a1 s i s' = spec_poTable.few1 a1 (s + 1) i s' ∧ spec_poTable.cnt1 a1 s i s' = spec_poTable.cnt1 a1 (s + 1) i s') := by
 obtain rfl : i = n := by omega
 unfold spec_poTable.few1 spec_poTable.cnt1 spec_poTable.endRow
 by_cases e : s' = s
 ·subst e
  have e1 : ¬ s' < s' := by omega
  have e2 : s' < s' + 1 := by omega
  simp only [if_neg e1, if_pos e2]
  constructor
  ·intro h; simp [h]
  ·intro h; simp only [if_neg h]; exact ⟨trivial, trivial⟩
 ·have e3 : ¬ (i = i ∧ s' = s) := by omega
  have e4 : (s' < s) ↔ (s' < s + 1) := by omega
  rw [if_neg e3, if_neg e3]
  simp only [e4]
  exact ⟨fun _ => ⟨trivial, trivial⟩, fun _ => ⟨trivial, trivial⟩⟩
theorem spec_poTable.eq12 (a0 : ByteArray) (a1 : Int) (i s' : Nat) (hi : a0.size ≤ i) (hi' : i ≤ a0.size) (hs : s' < 2) : spec_poTable.few1 a1 2 i s' = spec_poTable.few2 a0 a1 i s' ∧ spec_poTable.cnt1 a1 2 i s' = spec_poTable.cnt2 a0 a1 i s' := by
 obtain rfl : i = a0.size := by omega
 unfold spec_poTable.few1 spec_poTable.cnt1 spec_poTable.few2 spec_poTable.cnt2
 rw [spec_poTable.R_end]
 simp only [if_pos hs]
 exact ⟨trivial, trivial⟩
theorem spec_poTable.eq30 (a0 : ByteArray) (a1 : Int) (p i s' : Nat) : (if i = p then (if s' = 0 then (1000000 : Int) else 1000000) else spec_poTable.few2 a0 a1 i s') = spec_poTable.few3 a0 a1 p 0 i s' ∧ (if i = p then (if s' = 0 then (0 : Int) else 0) else spec_poTable.cnt2 a0 a1 i s') = spec_poTable.cnt3 a0 a1 p 0 i s' := by
 unfold spec_poTable.few2 spec_poTable.cnt2 spec_poTable.few3 spec_poTable.cnt3
 by_cases e : i = p
 ·have e' : i = p ∧ 0 ≤ s' := ⟨e, (by omega)⟩
  simp only [if_pos e, if_pos e', ite_self]
  exact ⟨trivial, trivial⟩
 ·have e' : ¬ (i = p ∧ 0 ≤ s') := fun h => e h.1
  simp only [if_neg e, if_neg e']
  exact ⟨trivial, trivial⟩
theorem spec_poTable.eq40 (a0 : ByteArray) (a1 : Int) (p s i s' : Nat) : spec_poTable.few3 a0 a1 p s i s' = spec_poTable.few4 a0 a1 p s 0 i s' ∧ spec_poTable.cnt3 a0 a1 p s i s' = spec_poTable.cnt4 a0 a1 p s 0 i s' := by
 unfold spec_poTable.few4 spec_poTable.cnt4 spec_poTable.few3 spec_poTable.cnt3 spec_poTable.sd spec_poTable.side
 by_cases e : i = p ∧ s' = s
 ·have e' : i = p ∧ s ≤ s' := ⟨e.1, (by omega)⟩
  simp only [if_pos e, if_pos e']
  exact ⟨trivial, trivial⟩
 ·simp only [if_neg e]
  exact ⟨trivial, trivial⟩
theorem spec_poTable.eq42 {a0 : ByteArray} {a1 : Int} {p : Nat} (hp : p < a0.size) (s i s' : Nat) : spec_poTable.few4 a0 a1 p s 2 i s' = spec_poTable.few3 a0 a1 p (s + 1) i s' ∧ spec_poTable.cnt4 a0 a1 p s 2 i s' = spec_poTable.cnt3 a0 a1 p (s + 1) i s' := by
 unfold spec_poTable.few4 spec_poTable.cnt4 spec_poTable.few3 spec_poTable.cnt3
 by_cases e : i = p ∧ s' = s
 ·obtain ⟨rfl, rfl⟩ := e
  have e' : ¬ (i = i ∧ s' + 1 ≤ s') := by omega
  rw [if_neg e', if_neg e', if_pos ⟨rfl, rfl⟩, if_pos ⟨rfl, rfl⟩, spec_poTable.R_step a0 a1 i hp]
  exact ⟨rfl, rfl⟩
 ·have e' : (i = p ∧ s ≤ s') ↔ (i = p ∧ s + 1 ≤ s') := by omega
  simp only [if_neg e, e']
  exact ⟨trivial, trivial⟩
theorem spec_poTable.eq32 (a0 : ByteArray) (a1 : Int) (p i s : Nat) (hs : s < 2) : spec_poTable.few3 a0 a1 p 2 i s = spec_poTable.few2 a0 a1 i s ∧ spec_poTable.cnt3 a0 a1 p 2 i s = spec_poTable.cnt2 a0 a1 i s := by
 unfold spec_poTable.few2 spec_poTable.cnt2 spec_poTable.few3 spec_poTable.cnt3
 have e : ¬ (i = p ∧ 2 ≤ s) := by omega
 simp only [if_neg e]
 exact ⟨trivial, trivial⟩
theorem spec_poTable.qc (b s t : Int) (w : World) (n : Nat) : Calls Tryz.prog 74 #[.int .u8 b, .int .i64 s, .int .i64 t] (w.drewN n) fun e w' => e = .returned (.int .i64 (spec_poTable.cross b s t)) ∧ ∃ m, w' = w.drewN m :=
 Calls.quiet_of ((spec_poCross.calls b s t _ _ (spec_poTable.cross_f b s t).1).mono fun _ _ ⟨he, ⟨hd⟩⟩ => ⟨he, hd⟩)
theorem spec_poTable.qstill (a b : Int) (w : World) : Calls Tryz.prog 55 #[.int .i64 a, .int .i64 b] w fun e w' => e = .returned (.int .i64 (spec_poTable.least a b)) ∧ w' = w := by
 unfold spec_poTable.least
 by_cases h : a < b
 ·rw [if_pos h]
  have d1 : decide (a < b) = true := decide_eq_true h
  go_enter Tryz.func55, Tryz.ntmps55
  go_wp2_with fail
  go_ret
  exact ⟨rfl, rfl⟩
 ·rw [if_neg h]
  have d1 : decide (a < b) = false := decide_eq_false h
  go_enter Tryz.func55, Tryz.ntmps55
  go_wp2_with fail
  go_ret
  exact ⟨rfl, rfl⟩
theorem spec_poTable.pick (a0 : ByteArray) (a1 : Int) (p s t : Nat) (hp : p < a0.size) : ∃ x F' C' f c : Int,
  (∀ (w : World) (n : Nat), Calls Tryz.prog 74 #[.int .u8 (((a0[p]'hp).toNat : Nat) : Int), .int .i64 s, .int .i64 t] (w.drewN n) fun e w' => e = .returned (.int .i64 x) ∧ ∃ m, w' = w.drewN m) ∧
  spec_poTable.few4 a0 a1 p s t p s = f ∧ spec_poTable.cnt4 a0 a1 p s t p s = c ∧ spec_poTable.few4 a0 a1 p s t (p + 1) t = F' ∧ spec_poTable.cnt4 a0 a1 p s t (p + 1) t = C' ∧
  spec_poTable.sd a0 a1 p s t = (f, c) ∧ spec_poTable.sd a0 a1 p s (t + 1) = (if F' = 1000000 then (f, c) else spec_poTable.upd (x + F') C' (f, c)) ∧ 0 ≤ x ∧ x ≤ 2 ∧ 0 ≤ F' ∧ F' ≤ 1000000 ∧ 0 ≤ C' ∧ C' ≤ 1000000000000001 ∧ 0 ≤ f ∧ f ≤ 1000000 ∧ 0 ≤ c ∧ c ≤ 1000000000000001 := by
 have hb : (((a0[p]'hp).toNat : Nat) : Int) = bt a0 (p : Int) := bt_at a0 (p : Int) hp
 have o1 := spec_poTable.side_ok (b := bt a0 (p : Int)) (fun t => spec_poTable.R_ok a0 a1 (p + 1) t) s t
 have o2 := spec_poTable.R_ok a0 a1 (p + 1) t
 have hx := (spec_poTable.cross_f (bt a0 (p : Int)) s t).2
 refine ⟨spec_poTable.cross (bt a0 (p : Int)) s t, (spec_poTable.R a0 a1 (p + 1)).1 t, (spec_poTable.R a0 a1 (p + 1)).2 t, (spec_poTable.sd a0 a1 p s t).1, (spec_poTable.sd a0 a1 p s t).2, fun w n => by rw [hb]; exact spec_poTable.qc (bt a0 (p : Int)) s t w n, ?_, ?_, ?_, ?_, rfl, rfl, hx.1, hx.2, o2.1, o2.2.1, o2.2.2.1, o2.2.2.2, o1.1, o1.2.1, o1.2.2.1, o1.2.2.2⟩
 ·simp [spec_poTable.few4]
 ·simp [spec_poTable.cnt4]
 ·simp [spec_poTable.few4, spec_poTable.few3]
 ·simp [spec_poTable.cnt4, spec_poTable.cnt3]
section
variable {a0 : ByteArray} {a1 : Int} {p s t : Nat} {f c : Int}
theorem spec_poTable.fin {f' c' : Int} (hs : spec_poTable.sd a0 a1 p s (t + 1) = (f', c')) (i s' : Nat) :
  (if i = p ∧ s' = s then f' else spec_poTable.few4 a0 a1 p s t i s') = spec_poTable.few4 a0 a1 p s (t + 1) i s' ∧ (if i = p ∧ s' = s then c' else spec_poTable.cnt4 a0 a1 p s t i s') = spec_poTable.cnt4 a0 a1 p s (t + 1) i s' := by
 unfold spec_poTable.few4 spec_poTable.cnt4
 rw [hs]
 exact lH_
theorem spec_poTable.fin0 (h0 : spec_poTable.sd a0 a1 p s t = (f, c)) (hs : spec_poTable.sd a0 a1 p s (t + 1) = (f, c)) (i s' : Nat) :
  spec_poTable.few4 a0 a1 p s t i s' = spec_poTable.few4 a0 a1 p s (t + 1) i s' ∧ spec_poTable.cnt4 a0 a1 p s t i s' = spec_poTable.cnt4 a0 a1 p s (t + 1) i s' := by
 unfold spec_poTable.few4 spec_poTable.cnt4
 rw [hs, h0]
 exact ⟨rfl, rfl⟩
theorem spec_poTable.finF {c' : Int} (h0 : spec_poTable.sd a0 a1 p s t = (f, c)) (hs : spec_poTable.sd a0 a1 p s (t + 1) = (f, c')) (i s' : Nat) :
  spec_poTable.few4 a0 a1 p s t i s' = spec_poTable.few4 a0 a1 p s (t + 1) i s' ∧ (if i = p ∧ s' = s then c' else spec_poTable.cnt4 a0 a1 p s t i s') = spec_poTable.cnt4 a0 a1 p s (t + 1) i s' := by
 unfold spec_poTable.few4 spec_poTable.cnt4
 rw [hs, h0]
 exact lH_
theorem spec_poTable.fin2 {f' c' d : Int} (hs : spec_poTable.sd a0 a1 p s (t + 1) = (f', c')) (i s' : Nat) :
  (if i = p ∧ s' = s then f' else spec_poTable.few4 a0 a1 p s t i s') = spec_poTable.few4 a0 a1 p s (t + 1) i s' ∧ (if i = p ∧ s' = s then c' else if i = p ∧ s' = s then d else spec_poTable.cnt4 a0 a1 p s t i s') = spec_poTable.cnt4 a0 a1 p s (t + 1) i s' := by
 refine ⟨(spec_poTable.fin hs i s').1, ?_⟩
 rw [← (spec_poTable.fin hs i s').2]
 by_cases e : i = p ∧ s' = s
 ·simp only [if_pos e]
 ·simp only [if_neg e]
end
set_option maxHeartbeats 4000000 in
set_option maxRecDepth 100000 in
theorem spec_poTable.calls (a0 : ByteArray) (a1 : Int) (r1 : List (List Int)) (r2 : List (List Int)) (w : World) (h : spec_poTable.f a0 a1 = some (r1, r2)) :
  Calls Tryz.prog 73 #[.string a0, .int .i64 a1] w fun e w' => ∃ v0_ v1_ : Value, e = .returned (.tuple #[v0_, v1_]) ∧ Kd.S (Kd.slice 3 (Kd.int .i64)) 28 w' w.heap.size (fun k_ => some k_ ≠ (v1_ : Value).ownBlock) v0_ r1 ∧ Kd.S (Kd.slice 3 (Kd.int .i64)) 28 w' w.heap.size (fun k_ => some k_ ≠ (v0_ : Value).ownBlock) v1_ r2 ∧ Below w.heap.size w w' := by
 unfold spec_poTable.f at h
 by_cases hs : a0.size ≤ 60
 ·rw [if_pos hs] at h
  simp only [Option.some.injEq, Prod.mk.injEq] at h
  have HE := Lib.hid h;clear h;have hmk := spec_poTable.made a0.size hs;obtain ⟨u, hu⟩ := spec_poTable.nils_at (n := a0.size) (Nat.le_refl _);have hnz : (spec_poTable.nils a0.size).size = a0.size + 1 := by simp [spec_poTable.nils, size_madeCells]
  have hlt : a0.size < (spec_poTable.nils a0.size).size := by omega
  generalize hNN : spec_poTable.nils a0.size = NN at *
  go_enter Tryz.func73, Tryz.ntmps73
  go_wp2_with fail
  rw [← hNN];have hbw := spec_poTable.TW.begin_ w a0.size
  generalize (((w.alloc (.cells ((spec_poTable.nils a0.size).setIfInBounds a0.size (.slice (some ⟨w.heap.size + 1 + 1, 0, none⟩) 2 2)) 28)).alloc (.cells ((spec_poTable.nils a0.size).setIfInBounds a0.size (.slice (some ⟨w.heap.size + 1 + 1 + 1, 0, none⟩) 2 2)) 28)).alloc (.cells #[.int .i64 1000000, .int .i64 1000000] 3)).alloc (.cells #[.int .i64 0, .int .i64 0] 3) = W4 at hbw ⊢
  clear hmk hu hnz hlt hNN;have HW := Lib.hid hbw;clear hbw
  go_loopw [9] (fun v wr => ∃ s : Nat, s ≤ 2 ∧ v = .int .i64 s ∧ spec_poTable.TW w wr a0.size a0.size (spec_poTable.few1 a1 s) (spec_poTable.cnt1 a1 s)) (fun v _ => 2 - (intOf v).toNat)
  case atStart => exact ⟨0, (by omega), rfl, HW.out.congr (fun i s _ _ _ => by simp [spec_poTable.few1, spec_poTable.cnt1])⟩
  case round =>
   obtain ⟨s, hs2, rfl, hbw⟩ := hrel;clear HW;have HW := Lib.hid hbw;clear hbw
   by_cases hlt : s < 2
   ·obtain ⟨fb, cb, eb, r1, r2, hcell, n1, n2, n3, n4, n5⟩ := HW.out.look (i := a0.size) (Nat.le_refl _) (Nat.le_refl _)
    obtain ⟨c3, f3, c4, f4⟩ := hcell s hlt;have EB := Lib.hid eb;clear hcell eb
    by_cases hend : a1 = 2 ∨ a1 = (s : Int)
    ·have hE : spec_poEnd.f a1 (s : Int) = some true := by
      unfold spec_poEnd.f
      rcases hend with e | e
      ·rw [if_pos e]
      ·split
       ·rfl
       ·rw [e]; simp
     have HE2 := Lib.hid hE;have HN := Lib.hid (fun i s' h1 h2 => (spec_poTable.eq1 a1 a0.size s i s' h1 h2).1 hend);clear hend hE
     go_wp2_with (go_at_call 89; refine (spec_poEnd.calls _ _ true _ HE2.out).mono ?_; rintro e w' ⟨rfl, ⟨nd, rfl⟩⟩)
     go_roundw
     case rel =>
      refine ⟨s + 1, (by omega), (by go_num), ?_⟩
      rw [EB.out.1, EB.out.2]
      exact (((HW.out.drewN _).setF (Nat.le_refl _) (Nat.le_refl _) hlt 0).setC (Nat.le_refl _) (Nat.le_refl _) hlt 1).congr (fun i s' h1 h2 _ => HN.out i s' h1 h2)
     case measure => simp [intOf] <;> omega
    ·have hE : spec_poEnd.f a1 (s : Int) = some false := by
      unfold spec_poEnd.f
      rw [if_neg (fun e => hend (.inl e))]
      simp
      exact fun e => hend (.inr e)
     have HE2 := Lib.hid hE;have HN := Lib.hid (fun i s' h1 h2 => (spec_poTable.eq1 a1 a0.size s i s' h1 h2).2 hend);clear hend hE
     go_wp2_with (go_at_call 89; refine (spec_poEnd.calls _ _ false _ HE2.out).mono ?_; rintro e w' ⟨rfl, ⟨nd, rfl⟩⟩)
     go_roundw
     case rel => exact ⟨s + 1, (by omega), (by go_num), (HW.out.drewN _).congr (fun i s' h1 h2 _ => HN.out i s' h1 h2)⟩
     case measure => simp [intOf] <;> omega
   ·have ev : ((s : Nat) : Int) = 2 := by omega
    rw [ev];obtain rfl : s = 2 := by omega
    clear ev;have hbw := HW.out.congr (fun i s h1 h2 h3 => spec_poTable.eq12 a0 a1 i s h1 h2 h3);clear HW;have HW := Lib.hid hbw;clear hbw
    go_wp2_with fail
    go_loopw [10] (fun v wr => ∃ m : Nat, m ≤ a0.size ∧ v = .int .i64 ((m : Int) - 1) ∧ spec_poTable.TW w wr a0.size m (spec_poTable.few2 a0 a1) (spec_poTable.cnt2 a0 a1)) (fun v _ => (intOf v + 1).toNat)
    case atStart => exact ⟨a0.size, Nat.le_refl _, rfl, HW.out⟩
    case round =>
     obtain ⟨m, hm, rfl, hbw⟩ := hrel;clear HW;have HW := Lib.hid hbw;clear hbw;cases m with
     | zero =>
      have e0 : ((0 : Nat) : Int) - 1 = -1 := by omega
      rw [e0]
      go_wp2_with fail
      go_ret2
      obtain ⟨FA, f1, f2, f3⟩ := HW.out.2.1;obtain ⟨CA, g1, g2, g3⟩ := HW.out.2.2.1;have hb := HW.out.2.2.2.1
      refine ⟨_, _, rfl, ?_, ?_, HW.out.2.2.2.2⟩
      ·rw [← HE.out.1]
       exact spec_poTable.shown hs f1 f2 (fun i hi => f3 i (by omega) hi) (fun i hi => (hb i (by omega) hi).1) (Nat.le_refl _) (by omega) cg_ (fun i hi => by simp [Value.ownBlock]; omega)
      ·rw [← HE.out.2]
       exact spec_poTable.shown (off := 3) hs g1 g2 (fun i hi => g3 i (by omega) hi) (fun i hi => (hb i (by omega) hi).2) (by omega) (by omega) cg_ (fun i hi => by simp [Value.ownBlock]; omega)
     | succ p =>
      have ep : ((p + 1 : Nat) : Int) - 1 = (p : Int) := by omega
      rw [ep];have hpn : p < a0.size := by omega
      obtain ⟨u1, u2, k1, k2, k3, k4⟩ := HW.out.any (i := p) (by omega);have hz1 : w.heap.size < wr.heap.size := by have := HW.out.1; omega
      have hz2 : w.heap.size + 1 < wr.heap.size := by have := HW.out.1; omega
      have hmore := HW.out.more (by omega) 1000000 1000000 0 0;have hbw := hmore.congr (fun i s' _ _ _ => spec_poTable.eq30 a0 a1 p i s');have HM := Lib.hid hbw;clear hmore hbw
      go_wp2_with fail
      go_loopw [11] (fun v wr => ∃ s : Nat, s ≤ 2 ∧ v = .int .i64 s ∧ spec_poTable.TW w wr a0.size p (spec_poTable.few3 a0 a1 p s) (spec_poTable.cnt3 a0 a1 p s)) (fun v _ => 2 - (intOf v).toNat)
      case atStart => exact ⟨0, (by omega), rfl, HM.out⟩
      case round =>
       obtain ⟨s, hs2, rfl, hbw⟩ := hrel;clear HW HM k1 k2 k3 k4 hz1 hz2;have HW := Lib.hid hbw;clear hbw
       by_cases hlt : s < 2
       ·have dlt : decide ((s : Int) < 2) = true := decide_eq_true (by omega)
        go_wp2_with fail
        go_loopw [12] (fun v wr => ∃ t : Nat, t ≤ 2 ∧ v = .int .i64 t ∧ spec_poTable.TW w wr a0.size p (spec_poTable.few4 a0 a1 p s t) (spec_poTable.cnt4 a0 a1 p s t)) (fun v _ => 2 - (intOf v).toNat)
        case atStart => exact ⟨0, (by omega), rfl, HW.out.congr (fun i s' _ _ _ => spec_poTable.eq40 a0 a1 p s i s')⟩
        case round =>
         obtain ⟨t, ht2, rfl, hbw⟩ := hrel;clear HW;have HW := Lib.hid hbw;clear hbw
         by_cases htt : t < 2
         ·obtain ⟨fb, cb, eb, r1, r2, hcell, n1, n2, n3, n4, n5⟩ := HW.out.look (i := p) (Nat.le_refl _) (by omega)
          obtain ⟨fn, cn, en, r3, r4, hcelln, n6, n7, n8, n9, n10⟩ := HW.out.look (i := p + 1) (by omega) (by omega);obtain ⟨x, F', C', f, c, hq, e1, e2, e3, e4, hsd0, hsd, hx0, hx1, o21, o22, o23, o24, o11, o12, o13, o14⟩ := spec_poTable.pick a0 a1 p s t hpn;obtain ⟨c1, f1, c2, f2⟩ := hcell s hlt;obtain ⟨c3, _, c4, _⟩ := hcelln t htt;rw [e1] at c1;rw [e2] at c2;rw [e3] at c3;rw [e4] at c4;have n11 : cn ≠ fb := by omega
          have n12 : cn ≠ cb := by omega
          have EB := Lib.hid eb;have EN := Lib.hid en;have E2 := Lib.hid e2;have E4 := Lib.hid e4;have HQ := Lib.hid hq;have HS0 := Lib.hid hsd0;have HS := Lib.hid hsd;clear e1 e2 e3 e4 hq hsd hsd0 hcell hcelln eb en;have hp0 : (0 : Int) ≤ (p : Int) := by omega
          have hp1 : (p : Int) < (a0.size : Int) := by omega
          by_cases hF : F' = 1000000
          ·have d0 : (F' == 1000000) = true := by rw [beq_iff_eq]; exact hF
           have HN := Lib.hid (spec_poTable.fin0 HS0.out (by rw [HS.out, if_pos hF]));clear hF
           go_wp2_with fail
           go_roundw
           case rel => exact ⟨t + 1, (by omega), (by go_num), HW.out.congr (fun i s' _ _ _ => HN.out i s')⟩
           case measure => simp [intOf] <;> omega
          ·have d0 : (F' == 1000000) = false := by rw [beq_eq_false_iff_ne]; exact hF
           have HS2 := HS.out;rw [if_neg hF] at HS2;have HSU := Lib.hid HS2;clear HS2 hF
           rcases Int.lt_trichotomy (x + F') f with hcmp | hcmp | hcmp
           ·have d1 : decide (x + F' < f) = true := decide_eq_true hcmp
            have hM : wrap64 (0 + C') = 0 + C' := by unfold wrap64; omega
            have hM2 : IntKind.i64.wrap (0 + C') = 0 + C' := by rw [IntKind.wrap_i64]; omega
            have hwp : IntKind.i64.wrap ((p : Int) + 1) = (p : Int) + 1 := by rw [IntKind.wrap_i64]; omega
            have hp2 : (p : Int) < (a0.size : Int) + 1 := by omega
            have hp3 : (0 : Int) ≤ (p : Int) + 1 := by omega
            have hp4 : (p : Int) + 1 < (a0.size : Int) + 1 := by omega
            have hq1 : (0 : Int) ≤ (s : Int) := by omega
            have hq2 : (s : Int) < 2 := by omega
            have hq3 : (0 : Int) ≤ (t : Int) := by omega
            have hq4 : (t : Int) < 2 := by omega
            have hq5 : (p : Int) < ((a0.size + 1 : Nat) : Int) := by omega
            have hq6 : (s : Int) < ((2 : Nat) : Int) := by omega
            have hq7 : (t : Int) < ((2 : Nat) : Int) := by omega
            have HN := Lib.hid (spec_poTable.fin2 (d := 0) (show spec_poTable.sd a0 a1 p s (t + 1) = (x + F', spec_poTable.least (0 + C') 1000000000000001) by rw [HSU.out]; unfold spec_poTable.upd; rw [if_pos (show x + F' < (f, c).1 from hcmp)]));clear hcmp
            go_wp2_with fail
            go_quiet ((go_at_call 74; exact HQ.out _ _))
            go_wp2_with fail
            have hX := ((HW.out.drewN nq).setF (Nat.le_refl _) (by omega) hlt (x + F')).setC (Nat.le_refl _) (by omega) hlt 0;rw [← EB.out.1, ← EB.out.2] at hX
            generalize (((wr.drewN nq).setCell ⟨fb, s, none⟩ (.int .i64 (x + F'))).setCell ⟨cb, s, none⟩ (.int .i64 0)) = wX at hX ⊢
            clear HW;obtain ⟨g1, g2, g3, g4, g5⟩ := hX.held (c := 0) (C := C') hpn hlt htt EB.out EN.out (by simp) (by simpa using E4.out);have HX := Lib.hid hX;clear hX r1 r2 r3 r4 c1 c2 c3 c4 f1 f2
            exact lr_
           ·have d1 : decide (x + F' < f) = false := decide_eq_false (by omega)
            have d2 : (x + F' == f) = true := by rw [beq_iff_eq]; omega
            have hM : wrap64 (c + C') = c + C' := by unfold wrap64; omega
            have hM2 : IntKind.i64.wrap (c + C') = c + C' := by rw [IntKind.wrap_i64]; omega
            have hwp : IntKind.i64.wrap ((p : Int) + 1) = (p : Int) + 1 := by rw [IntKind.wrap_i64]; omega
            have hp2 : (p : Int) < (a0.size : Int) + 1 := by omega
            have hp3 : (0 : Int) ≤ (p : Int) + 1 := by omega
            have hp4 : (p : Int) + 1 < (a0.size : Int) + 1 := by omega
            have hq1 : (0 : Int) ≤ (s : Int) := by omega
            have hq2 : (s : Int) < 2 := by omega
            have hq3 : (0 : Int) ≤ (t : Int) := by omega
            have hq4 : (t : Int) < 2 := by omega
            have hq5 : (p : Int) < ((a0.size + 1 : Nat) : Int) := by omega
            have hq6 : (s : Int) < ((2 : Nat) : Int) := by omega
            have hq7 : (t : Int) < ((2 : Nat) : Int) := by omega
            have HN := Lib.hid (spec_poTable.finF HS0.out (show spec_poTable.sd a0 a1 p s (t + 1) = (f, spec_poTable.least (c + C') 1000000000000001) by rw [HSU.out]; unfold spec_poTable.upd; rw [if_neg (show ¬ x + F' < (f, c).1 by simp only; omega), if_pos (show x + F' = (f, c).1 from hcmp)]));clear hcmp
            go_wp2_with fail
            go_quiet ((go_at_call 74; exact HQ.out _ _))
            go_wp2_with fail
            have hX := HW.out.drewN nq
            generalize (wr.drewN nq) = wX at hX ⊢
            clear HW;obtain ⟨g1, g2, g3, g4, g5⟩ := hX.held hpn hlt htt EB.out EN.out E2.out E4.out;have HX := Lib.hid hX;clear hX r1 r2 r3 r4 c1 c2 c3 c4 f1 f2
            exact lr_
           ·have d1 : decide (x + F' < f) = false := decide_eq_false (by omega)
            have d2 : (x + F' == f) = false := by rw [beq_eq_false_iff_ne]; omega
            have HN := Lib.hid (spec_poTable.fin0 HS0.out (by rw [HSU.out]; unfold spec_poTable.upd; rw [if_neg (show ¬ x + F' < (f, c).1 by simp only; omega), if_neg (show ¬ x + F' = (f, c).1 by simp only; omega)]));clear hcmp
            go_wp2_with fail
            go_quiet ((go_at_call 74; exact HQ.out _ _))
            go_wp2_with fail
            go_roundw
            case rel => exact ⟨t + 1, (by omega), (by go_num), (HW.out.drewN _).congr (fun i s' _ _ _ => HN.out i s')⟩
            case measure => simp [intOf] <;> omega
         ·obtain rfl : t = 2 := by omega
          go_wp2_with fail
          go_roundw
          case rel => exact ⟨s + 1, (by omega), (by go_num), HW.out.congr (fun i s' _ _ _ => spec_poTable.eq42 hpn s i s')⟩
          case measure => simp [intOf] <;> omega
       ·obtain rfl : s = 2 := by omega
        go_wp2_with fail
        go_roundw
        case rel => exact ⟨p, (by omega), (by go_num), HW.out.congr (fun i s' _ _ hs' => spec_poTable.eq32 a0 a1 p i s' hs')⟩
        case measure => simp [intOf] <;> omega
 ·rw [if_neg hs] at h
  cases h
end Go.Proofs.YtpopeedfgenebaaGreat.PFnPostDelivers
