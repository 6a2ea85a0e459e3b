/- Cut by wip/cut.py out of the texts of this claim (printed by the kit's printer, or this session's own): what the row's theorem does not reach is struck. Not trusted: Lean checks it. -/
import Derived.Test.YtohpaddcfcgmbaaZFnExactFarthestCornerPx0
import Derived.Test.YtohpaddcfcgmbaaZFnExactFarthestCornerPx5
import Derived.Test.YtohpaddcfcgmbaaZFnExactFarthestCornerPx6
namespace Go.Proofs.Ytohpaddcfcgmbaa.PFnExactFarthestCorner
open Go.RowKit Go.Proofs.YtohpaddcfcgmbaaW.PrintWords Go.Proofs.YtohpaddcfcgmbaaW.PrintLast Go.Proofs.YtohpaddcfcgmbaaW.PrintMore
attribute [local go_sem] max2_int min2_int max_two min_two max_three min_three max_four min_four
set_option linter.unusedVariables false
set_option linter.unusedSimpArgs false
def spec_avFar.sg : Nat → Int
 | 0 => 101
 | 1 => 110
 | 2 => 115
 | _ => 119
def spec_avFar.step (k : Nat) (W H : Int) (l : List S38) (at_ : Int) (s : Int) (st : List Int × List Int) : Option (List Int × List Int) :=
 (spec_avStep.f k W H l (at_ / H) (at_ % H) s).bind fun r => if r.2.2 = true then (if 0 ≤ wrap64 (wrap64 (r.1 * H) + r.2.1) ∧ wrap64 (wrap64 (r.1 * H) + r.2.1) < st.1.length ∧ st.2.length < 1000000 then (if rd st.1 (wrap64 (wrap64 (r.1 * H) + r.2.1)) < 0 then some (st.1.set (wrap64 (wrap64 (r.1 * H) + r.2.1)).toNat (wrap64 (rd st.1 at_ + 1)), st.2 ++ [wrap64 (wrap64 (r.1 * H) + r.2.1)]) else some st) else none) else some st
def spec_avFar.steps (k : Nat) (W H : Int) (l : List S38) (at_ : Int) : Nat → List Int × List Int → Option (List Int × List Int)
 | 0, st => some st
 | j + 1, st => (spec_avFar.steps k W H l at_ j st).bind fun s => spec_avFar.step k W H l at_ (spec_avFar.sg j) s
def spec_avFar.l1 (W H : Int) (l : List S38) : Nat → Nat → List Int × List Int → Option (List Int)
 | 0, _, _ => none
 | k + 1, i, st => if i < st.2.length then (if 0 ≤ rd st.2 i ∧ rd st.2 i < st.1.length then (spec_avFar.steps k W H l (rd st.2 i) 4 st).bind fun s => spec_avFar.l1 W H l k (i + 1) s else none) else some st.1
def spec_avFar.ok (W H : Int) (l1 : List Int) : Bool := decide (1 ≤ W ∧ W ≤ 8) && (decide (1 ≤ H ∧ H ≤ 8) && (decide (l1.length = 2) && (decide (0 ≤ rd l1 0 ∧ rd l1 0 ≤ W - 1) && decide (0 ≤ rd l1 1 ∧ rd l1 1 ≤ H - 1))))
def spec_avFar.f (k : Nat) (a0_0 : Int) (a0_1 : Int) (l0_2 : List S38) (l1 : List Int) : Option (List Int) := if spec_avFar.ok a0_0 a0_1 l1 = true then spec_avFar.l1 a0_0 a0_1 l0_2 k 0 ((List.replicate (a0_0 * a0_1).toNat (-1)).set (rd l1 0 * a0_1 + rd l1 1).toNat 0, [rd l1 0 * a0_1 + rd l1 1]) else none
theorem spec_avFar.steps_mono (k : Nat) (W H : Int) (l : List S38) (at_ : Int) : ∀ j st, LeO (spec_avFar.steps k W H l at_ j st) (spec_avFar.steps (k + 1) W H l at_ j st)
 | 0, _ => LeO.refl _
 | j + 1, st => LeO.bind (spec_avFar.steps_mono k W H l at_ j st) (fun _ => LeO.bind (spec_avStep.mono _ _ _ _ _ _ _) (fun _ => LeO.refl _))
theorem spec_avFar.l1_mono (W H : Int) (l : List S38) : ∀ k i st, LeO (spec_avFar.l1 W H l k i st) (spec_avFar.l1 W H l (k + 1) i st)
 | 0, _, _ => LeO.none _
 | k + 1, i, st => LeO.ite (LeO.ite (LeO.bind (spec_avFar.steps_mono k W H l _ _ _) (fun s => spec_avFar.l1_mono W H l k (i + 1) s)) (LeO.refl _)) (LeO.refl _)
theorem spec_avFar.mono : ∀ a0 a1 a2 a3 k, LeO (spec_avFar.f k a0 a1 a2 a3) (spec_avFar.f (k + 1) a0 a1 a2 a3) := fun a0 a1 a2 a3 k => LeO.ite (spec_avFar.l1_mono _ _ _ k _ _) (LeO.refl _)
theorem spec_avFar.steps_len {k : Nat} {W H : Int} {l : List S38} {at_ : Int} : ∀ {j : Nat} {st s : List Int × List Int}, spec_avFar.steps k W H l at_ j st = some s → s.1.length = st.1.length
 | 0, st, s, h => by cases h; rfl
 | j + 1, st, s, h => by
  obtain ⟨s1, h1, h2⟩ := Option.bind_eq_some_iff.mp h
  have e := spec_avFar.steps_len h1
  rw [← e]
  obtain ⟨r, _, h4⟩ := Option.bind_eq_some_iff.mp h2
  split at h4
  ·split at h4
   ·split at h4
    ·cases h4; simp
    ·cases h4; rfl
   ·cases h4
  ·cases h4; rfl
theorem spec_avFar.steps_at {k : Nat} {W H : Int} {l : List S38} {at_ : Int} {n : Nat} {st s : List Int × List Int} (h : spec_avFar.steps k W H l at_ n st = some s) : ∀ d j : Nat, j + d = n → ∃ s1, spec_avFar.steps k W H l at_ j st = some s1
 | 0, j, hj => ⟨s, by rw [show j = n by omega]; exact h⟩
 | d + 1, j, hj => by
  obtain ⟨s1, h1⟩ := spec_avFar.steps_at h d (j + 1) (by omega)
  obtain ⟨s2, h2, _⟩ := Option.bind_eq_some_iff.mp h1
  exact ⟨s2, h2⟩
structure spec_avFar.AV (w wr : World) (W H : Int) (V : Value) (far : List Int) (v : Value) (q : List Int) : Prop where
  box : wr.heap[w.heap.size]? = some (.cells #[.int .i64 W, .int .i64 H, V] 30 (0, 0))
  far : wr.heap[w.heap.size + 1]? = some (.cells (far.map (Value.int .i64)).toArray 3 (0, 0))
  row : Kd.R (Kd.int .i64) 3 wr w.heap.size (fun k_ => k_ ≠ w.heap.size + 1) v q
  bel : Below w.heap.size w wr
theorem spec_avFar.AV.below {w wr w1 : World} {W H : Int} {V v : Value} {far q : List Int} (h : spec_avFar.AV w wr W H V far v q) (hb : Below wr.heap.size wr w1) : spec_avFar.AV w w1 W H V far v q :=
 ⟨(hb.block _ (blk_lt h.box)).trans h.box, (hb.block _ (blk_lt h.far)).trans h.far, Kd.R_below h.row hb, below_then h.bel h.bel.size hb⟩
theorem spec_avFar.AV.drewN {w wr : World} {W H : Int} {V v : Value} {far q : List Int} (h : spec_avFar.AV w wr W H V far v q) (n : Nat) : spec_avFar.AV w (wr.drewN n) W H V far v q := h.below (pw_below_drewN (Below.refl _ _) n)
theorem spec_avFar.AV.cell {w wr : World} {W H : Int} {V v : Value} {far q : List Int} (h : spec_avFar.AV w wr W H V far v q) {i : Nat} (hi : i < far.length) : wr.cell? ⟨w.heap.size + 1, i, none⟩ = some (.int .i64 (rd far i)) := by
 rw [blk_cell h.far]
 simp [rd, hi]
theorem spec_avFar.AV.set {w wr : World} {W H : Int} {V v : Value} {far q : List Int} (h : spec_avFar.AV w wr W H V far v q) (i : Nat) (x : Int) : spec_avFar.AV w (wr.setCell ⟨w.heap.size + 1, i, none⟩ (.int .i64 x)) W H V (far.set i x) v q := by
 refine ⟨blk_far h.box (by simp) _, ?_, Kd.R_step h.row (fun k hk _ => Below.heap_setCell wr _ _ k (by simpa using hk)), h.bel.setCell (by simp) _⟩
 rw [blk_set h.far]
 congr 3
 apply Array.ext'
 simp [List.map_set]
theorem spec_avFar.AV.app {w wr w1 : World} {W H : Int} {V v v1 : Value} {far q ys : List Int} (h : spec_avFar.AV w wr W H V far v q) (ho : Kd.R (Kd.int .i64) 3 w1 w.heap.size (fun k_ => k_ ≠ w.heap.size + 1) v1 ys) (hb : Below w.heap.size w w1) (hg : wr.grownBy w1 v.ownBlock) : spec_avFar.AV w w1 W H V far v1 ys :=
 ⟨blk_grown h.box hg (Kd.R_ne h.row h.box (by decide)), blk_grown h.far hg (fun e => (Kd.R_bound h.row).1 _ e.symm |>.1 rfl), ho, hb⟩
def spec_avFar.fill (N j : Nat) : List Int := List.replicate j (-1) ++ List.replicate (N - j) 0
theorem spec_avFar.fill_set {N j : Nat} (h : j < N) : (spec_avFar.fill N j).set j (-1) = spec_avFar.fill N (j + 1) := by
 unfold spec_avFar.fill
 rw [List.set_append_right _ _ (by simp), List.length_replicate, Nat.sub_self, show N - j = (N - (j + 1)) + 1 by omega, List.replicate_succ, List.set_cons_zero, List.replicate_succ', List.append_assoc]
 rfl
theorem spec_avFar.fill_end (N : Nat) : spec_avFar.fill N N = List.replicate N (-1) := by simp [spec_avFar.fill]
theorem spec_avFar.fill_len {N j : Nat} (h : j ≤ N) : (spec_avFar.fill N j).length = N := by simp [spec_avFar.fill]; omega
theorem spec_avFar.AV.start (w : World) (W H : Int) (V : Value) (N : Nat) : spec_avFar.AV w ((w.alloc (.cells #[.int .i64 W, .int .i64 H, V] 30)).alloc (.cells (madeCells #[.int .i64 0] N) 3)) W H V (spec_avFar.fill N 0) (.slice none 0 0) [] := by
 refine ⟨blk_alloc (blk_new w _) _, ?_, Kd.R_nil _ _ _ _ _, below_alloc (below_alloc (Below.refl _ _) _) _⟩
 have h := blk_new (w.alloc (.cells #[.int .i64 W, .int .i64 H, V] 30)) (.cells (madeCells #[.int .i64 0] N) 3)
 have e : madeCells #[.int .i64 0] N = ((spec_avFar.fill N 0).map (Value.int .i64)).toArray := by
  apply Array.ext
  ·simp [madeCells, spec_avFar.fill]
  ·intro i h1 h2
   simp [madeCells, spec_avFar.fill, Nat.mod_one]
 rw [e] at h ⊢
 simpa using h
theorem spec_avFar.two {w : World} {A : Option Addr} {n : Nat} {x y : Int} (h : Kd.C (Kd.int .i64) w A n [x, y]) : ∃ ad, A = some ad ∧ n = 2 ∧ w.cell? ad = some (.int .i64 x) ∧ w.cell? ⟨ad.block, ad.off + 1, none⟩ = some (.int .i64 y) := by
 obtain rfl : n = 2 := h.1.symm
 obtain ⟨ad, rfl, hx⟩ := Kd.at_int h 0 (by decide) (by decide)
 obtain ⟨ad', e', hy⟩ := Kd.at_int h 1 (by decide) (by decide)
 obtain rfl := Option.some.inj e'
 refine ⟨ad, rfl, rfl, ?_, ?_⟩
 ·have h0 : w.cell? (ad.add 0) = some (.int .i64 x) := hx
  rwa [show ad.add 0 = ad by simp [Addr.add]] at h0
 ·have h0 : w.cell? (ad.add 1) = some (.int .i64 y) := hy
  rwa [show ad.add 1 = ⟨ad.block, ad.off + 1, none⟩ by simp [Addr.add]] at h0
theorem spec_avFar.AV.lit {w wr : World} {W H : Int} {V : Value} {far : List Int} (h : spec_avFar.AV w wr W H V far (.slice none 0 0) []) (x : Int) : spec_avFar.AV w (wr.alloc (.cells #[.int .i64 x] 3)) W H V far (.slice (some ⟨wr.heap.size, 0, none⟩) 1 1) [x] := by
 have h1 := h.below (below_alloc (Below.refl wr.heap.size wr) (.cells #[.int .i64 x] 3))
 refine ⟨h1.box, h1.far, Kd.R_of_own (enc := Value.int .i64) (h1 := fun _ => rfl) (own_lit_of (enc := Value.int .i64) wr w.heap.size 3 [x] h.bel.size (by simp)) ?_, h1.bel⟩
 intro k hk
 have h2 := blk_lt h.far
 have : wr.heap.size = k := by simpa [Value.ownBlock] using hk
 omega
theorem spec_avFar.AV.len {w wr : World} {W H : Int} {V : Value} {far q : List Int} {v : Value} (h : spec_avFar.AV w wr W H V far v q) : ∃ A c, v = .slice A q.length c := by
 obtain ⟨A, c, e⟩ := Kd.R_slice h.row
 exact ⟨A, c, e⟩
theorem spec_avFar.step_cases {k : Nat} {W H : Int} {l : List S38} {at_ s : Int} {st s' : List Int × List Int} (h : spec_avFar.step k W H l at_ s st = some s') : ∃ u v o, spec_avStep.f k W H l (at_ / H) (at_ % H) s = some (u, v, o) ∧
  (o = false ∧ s' = st ∨ o = true ∧ ∃ p : Nat, wrap64 (wrap64 (u * H) + v) = (p : Int) ∧ p < st.1.length ∧ st.2.length < 1000000 ∧ (rd st.1 (p : Int) < 0 ∧ s' = (st.1.set p (wrap64 (rd st.1 at_ + 1)), st.2 ++ [(p : Int)]) ∨ ¬ rd st.1 (p : Int) < 0 ∧ s' = st)) := by
 obtain ⟨⟨u, v, o⟩, h1, h2⟩ := Option.bind_eq_some_iff.mp h
 refine ⟨u, v, o, h1, ?_⟩
 simp only at h2
 cases o with
 | false => left; exact ⟨rfl, by simpa using h2.symm⟩
 | true =>
  right
  rw [if_pos rfl] at h2
  split at h2
  ·rename_i hc
   obtain ⟨p, hp⟩ : ∃ p : Nat, wrap64 (wrap64 (u * H) + v) = (p : Int) := ⟨(wrap64 (wrap64 (u * H) + v)).toNat, by omega⟩
   rw [hp] at hc h2
   refine ⟨rfl, p, hp, by omega, hc.2.2, ?_⟩
   split at h2
   ·left; exact ⟨by assumption, by simpa using h2.symm⟩
   ·right; exact ⟨by assumption, by simpa using h2.symm⟩
  ·cases h2
def spec_avFar.BY (wr : World) (g : Nat) : Prop := wr.heap[g]? = some (.cells #[.int .u8 101, .int .u8 110, .int .u8 115, .int .u8 119] 5 (4, 5))
theorem spec_avFar.blk_new' (w : World) (o : Obj) : (w.alloc o).heap[w.heap.size]? = some o := by
 show (w.heap.push o)[w.heap.size]? = _
 simp
theorem spec_avFar.BY.cell {wr : World} {g : Nat} (h : spec_avFar.BY wr g) {i : Nat} (hi : i < 4) : wr.cell? ⟨g, i, none⟩ = some (.int .u8 (spec_avFar.sg i)) := by
 rw [cell_of_row wr g i _ _ _ h]
 rcases (show i = 0 ∨ i = 1 ∨ i = 2 ∨ i = 3 by omega) with rfl | rfl | rfl | rfl <;> rfl
theorem spec_avFar.BY.below {wr w1 : World} {g : Nat} (h : spec_avFar.BY wr g) (hb : Below wr.heap.size wr w1) : spec_avFar.BY w1 g := (hb.block _ (blk_lt h)).trans h
theorem spec_avFar.BY.set {w wr : World} {W H : Int} {V v : Value} {far q : List Int} {g : Nat} (h : spec_avFar.BY wr g) (hv : spec_avFar.AV w wr W H V far v q) (i : Nat) (x : Value) : spec_avFar.BY (wr.setCell ⟨w.heap.size + 1, i, none⟩ x) g := by
 refine (Below.heap_setCell wr _ x g ?_).trans h
 rintro rfl
 have h1 := hv.far
 unfold spec_avFar.BY at h
 rw [h] at h1
 simp at h1
theorem spec_avFar.BY.app {w wr w1 : World} {W H : Int} {V v : Value} {far q : List Int} {g : Nat} (h : spec_avFar.BY wr g) (hv : spec_avFar.AV w wr W H V far v q) (hg : wr.grownBy w1 v.ownBlock) : spec_avFar.BY w1 g := by
 refine (hg.block g (blk_lt h) ?_).trans h
 intro e
 obtain ⟨cells, h1⟩ := Kd.R_typed hv.row g e.symm
 unfold spec_avFar.BY at h
 rw [h] at h1
 simp at h1
theorem spec_avFar.AV.res {w wr : World} {W H : Int} {V v : Value} {far q : List Int} {n : Nat} (h : spec_avFar.AV w wr W H V far v q) (hn : far.length = n) (hm : n ≤ 64) : Kd.R (Kd.int .i64) 3 wr w.heap.size (fun _ => True) (.slice (some ⟨w.heap.size + 1, 0, none⟩) n n) far := by
 subst hn
 refine Kd.R_of_own (enc := Value.int .i64) (h1 := fun _ => rfl) ⟨by simp [encs], .inr ⟨w.heap.size + 1, far.length, _, rfl, by omega, h.far, Nat.le_refl _, by unfold maxLen; omega, by simp, ?_⟩⟩ (fun _ _ => trivial)
 simp [encs]
 exact List.take_of_length_le (by simp)
theorem spec_avFar.info : (Try.prog.info? 3).map (fun i => (i.zero, i.size, i.bytes)) = some (some (.int .i64 0), 1, 8) := by kernel_rfl
set_option maxHeartbeats 4000000 in
set_option maxRecDepth 100000 in
theorem spec_avFar.calls (k : Nat) (a0_0 : Int) (a0_1 : Int) (A0_2 : Option Addr) (c0_2 : Nat) (l0_2 : List S38) (A1 : Option Addr) (c1 : Nat) (l1 : List Int) (r : List Int) (w : World) (hr0_2 : Kd.C k38 w A0_2 l0_2.length l0_2) (hc0_2 : l0_2.length ≤ c0_2) (hr1 : Kd.C (Kd.int .i64) w A1 l1.length l1) (hc1 : l1.length ≤ c1) (h : spec_avFar.f k a0_0 a0_1 l0_2 l1 = some r) :
  Calls Try.prog 84 #[.agg #[.int .i64 a0_0, .int .i64 a0_1, .slice A0_2 l0_2.length c0_2], .slice A1 l1.length c1] w fun e w' => ∃ v0_ : Value, e = .returned (v0_) ∧ Kd.R (Kd.int .i64) 3 w' w.heap.size (fun _ => True) v0_ r ∧ Below w.heap.size w w' := by
 have hu := Try.underlying30
 unfold spec_avFar.f at h
 by_cases hk : spec_avFar.ok a0_0 a0_1 l1 = true
 ·rw [if_pos hk] at h
  unfold spec_avFar.ok at hk
  simp only [Bool.and_eq_true, decide_eq_true_eq] at hk
  obtain ⟨⟨hW1, hW8⟩, ⟨hH1, hH8⟩, hl2, ⟨hx0, hx1⟩, hy0, hy1⟩ := hk
  match l1, hl2 with
  | [x, y], _ =>
  change 0 ≤ x at hx0
  change x ≤ a0_0 - 1 at hx1
  change 0 ≤ y at hy0
  change y ≤ a0_1 - 1 at hy1
  change spec_avFar.l1 a0_0 a0_1 l0_2 k 0 ((List.replicate (a0_0 * a0_1).toNat (-1)).set (x * a0_1 + y).toNat 0, [x * a0_1 + y]) = some r at h
  show Calls Try.prog 84 #[.agg #[.int .i64 a0_0, .int .i64 a0_1, .slice A0_2 l0_2.length c0_2], .slice A1 2 c1] w _
  obtain ⟨N, hN⟩ : ∃ N : Nat, a0_0 * a0_1 = (N : Int) := ⟨(a0_0 * a0_1).toNat, by rw [Int.toNat_of_nonneg (Int.mul_nonneg (by omega) (by omega))]⟩
  have hN64 : N ≤ 64 := by
   have := Int.mul_le_mul hW8 hH8 (by omega) (by omega)
   omega
  have hxy : 0 ≤ x * a0_1 + y ∧ x * a0_1 + y < (N : Int) := by
   have h1 := Int.mul_nonneg hx0 (show 0 ≤ a0_1 by omega)
   have h2 := Int.mul_le_mul_of_nonneg_right hx1 (show 0 ≤ a0_1 by omega)
   rw [Int.sub_mul, hN] at h2
   omega
  have HH := Lib.hid h
  have HC := Lib.hid hr0_2
  have HA := Lib.hid hr1
  have hmk := print_make (P := Try.prog) 42 3 .i64 8 Try.underlying42 spec_avFar.info (by omega) N (by omega)
  clear h hr0_2 hr1
  go_enter Try.func84, Try.ntmps84
  go_wp2
  have HV := Lib.hid (spec_avFar.AV.start w a0_0 a0_1 (.slice A0_2 l0_2.length c0_2) N)
  generalize ((w.alloc (.cells #[.int .i64 a0_0, .int .i64 a0_1, .slice A0_2 l0_2.length c0_2] 30)).alloc (.cells (madeCells #[.int .i64 0] N) 3)) = W1 at HV ⊢
  clear hmk
  go_loopw [24] (fun v wr => ∃ j : Nat, j ≤ N ∧ v = .int .i64 j ∧ spec_avFar.AV w wr a0_0 a0_1 (.slice A0_2 l0_2.length c0_2) (spec_avFar.fill N j) (.slice none 0 0) []) (fun v _ => N - (intOf v).toNat)
  case atStart => exact ⟨0, by omega, rfl, HV.out⟩
  case round =>
   obtain ⟨j, hj, rfl, hav⟩ := hrel
   clear HV
   have HV := Lib.hid hav
   by_cases hlt : j < N
   ·have hp0 : (0 : Int) ≤ (j : Int) := by omega
    have hp1 : (j : Int) < (N : Int) := by omega
    have hcell := hav.cell (show j < (spec_avFar.fill N j).length by rw [spec_avFar.fill_len hj]; exact hlt)
    have hfz := blk_frozen hav.far j
    clear hav
    go_wp2
    go_roundw
    case rel => exact ⟨j + 1, by omega, by go_num, by have h1 := HV.out.set j (-1); rwa [spec_avFar.fill_set hlt] at h1⟩
    case measure => simp [intOf]; omega
   ·obtain rfl : j = N := by omega
    clear hav
    obtain ⟨p, hp⟩ : ∃ p : Nat, x * a0_1 + y = (p : Int) := ⟨(x * a0_1 + y).toNat, by omega⟩
    have hpN : p < j := by omega
    have e1 : IntKind.i64.wrap (x * a0_1) = x * a0_1 := IntWalk.i64_in _ (by omega)
    have e2 : IntKind.i64.wrap (x * a0_1 + y) = (p : Int) := by rw [hp]; exact IntWalk.i64_in _ (by omega)
    have hp0 : (0 : Int) ≤ (p : Int) := by omega
    have hp1 : (p : Int) < (j : Int) := by omega
    obtain ⟨ad, rfl, _, hcx, hcy⟩ := spec_avFar.two (Kd.C_below HA.out HV.out.bel)
    have hcz1 : wr.cell? ⟨w.heap.size, 1, none⟩ = some (.int .i64 a0_1) := (blk_cell HV.out.box 1).trans rfl
    have hcell := HV.out.cell (show p < (spec_avFar.fill j j).length by rw [spec_avFar.fill_len hj]; exact hpN)
    have hfz := blk_frozen HV.out.far p
    have hpE := Lib.hid hp
    clear hp
    go_wp2
    go_still_tail 12, (by kernel_rfl)
    change wpList _ _ _ _ _ wr.drew
    generalize hwd : wr.drew = W2
    have HV2 := Lib.hid (show spec_avFar.AV w W2 a0_0 a0_1 (.slice A0_2 l0_2.length c0_2) (spec_avFar.fill j j) (.slice none 0 0) [] by rw [← hwd]; exact HV.out.below (below_drew (Below.refl _ _)))
    have hcell2 := HV2.out.cell (show p < (spec_avFar.fill j j).length by rw [spec_avFar.fill_len hj]; exact hpN)
    have hfz2 := blk_frozen HV2.out.far p
    clear hwd hcell hfz hcx hcy hcz1 HV
    go_wp2
    have HV3 := Lib.hid (HV2.out.set p 0)
    generalize W2.setCell ⟨w.heap.size + 1, p, none⟩ (.int .i64 0) = W3 at HV3 ⊢
    obtain ⟨ad', ead, _, hcx, hcy⟩ := spec_avFar.two (Kd.C_below HA.out HV3.out.bel)
    obtain rfl := Option.some.inj ead
    have hcz1 : W3.cell? ⟨w.heap.size, 1, none⟩ = some (.int .i64 a0_1) := (blk_cell HV3.out.box 1).trans rfl
    clear hcell2 hfz2 HV2 ead
    go_still_tail 10, (by kernel_rfl)
    change wpList _ _ _ _ _ W3.drew
    generalize hwd : W3.drew = W4
    have HV4 := Lib.hid (show spec_avFar.AV w W4 a0_0 a0_1 (.slice A0_2 l0_2.length c0_2) ((spec_avFar.fill j j).set p 0) (.slice none 0 0) [] by rw [← hwd]; exact HV3.out.below (below_drew (Below.refl _ _)))
    clear hwd hcx hcy hcz1 HV3
    go_wp2
    have HV5 := Lib.hid (HV4.out.lit (p : Int))
    generalize W4.alloc (.cells #[.int .i64 (p : Int)] 3) = W5 at HV5 ⊢
    rw [spec_avFar.fill_end] at HV5
    have HL := Lib.hid (show spec_avFar.l1 a0_0 a0_1 l0_2 k 0 ((List.replicate j (-1)).set p 0, [(p : Int)]) = some r by have h0 := HH.out; rw [hN, hpE.out] at h0; simpa using h0)
    clear HH HV4 e1 e2 hp0 hp1
    go_loopg [7, 8] k (fun kq v7 v8 wr => ∃ (i : Nat) (st : List Int × List Int), v8 = .int .i64 i ∧ Hid (spec_avFar.l1 a0_0 a0_1 l0_2 kq i st = some r) ∧ Hid (st.1.length = j) ∧ Hid (spec_avFar.AV w wr a0_0 a0_1 (.slice A0_2 l0_2.length c0_2) st.1 v7 st.2))
    case atStart => exact ⟨0, _, rfl, HL, Lib.hid (by simp), HV5⟩
    case round =>
     clear HL HV5
     obtain ⟨i, st, rfl, HL, HN, HV⟩ := hrel
     cases gk with
     | zero => exact absurd HL.out (by simp [spec_avFar.l1])
     | succ k1 =>
      have h := HL.out
      clear HL
      simp only [spec_avFar.l1] at h
      obtain ⟨Aq, cq, eq⟩ := HV.out.len
      subst eq
      have hql : st.2.length ≤ 9223372036854775807 := by
       have h0 := Kd.R_reads' HV.out.row
       have h1 := h0.2.2.2.1
       unfold maxLen at h1
       omega
      by_cases hi : i < st.2.length
      ·rw [if_pos hi] at h
       by_cases hat : 0 ≤ rd st.2 i ∧ rd st.2 i < st.1.length
       ·rw [if_pos hat] at h
        obtain ⟨s4, hs4, h⟩ := Option.bind_eq_some_iff.mp h
        have HS4 := Lib.hid hs4
        have HNX := Lib.hid h
        clear hs4 h
        have hi0 : (0 : Int) ≤ (i : Int) := by omega
        have hi1 : (i : Int) < (st.2.length : Int) := by omega
        obtain ⟨adq, eadq, hxq⟩ := Kd.at_int (Kd.R_reads' HV.out.row).2.2 (i : Int) hi0 hi1
        subst eadq
        rw [Int.toNat_natCast] at hxq
        obtain ⟨at_, hat_⟩ : ∃ at_ : Int, at_ = rd st.2 (i : Int) := ⟨_, rfl⟩
        rw [← hat_] at hat hxq HS4
        have HAT := Lib.hid hat_
        clear hat_
        have kc := fun (w : World) (C : Array Value) (n c : Nat) => Lib.run_convert_bytes_const (P := Try.prog) w 92 5 C n c Try.underlying92 Try.underlying5
        go_wp2
        have HV1 := Lib.hid (HV.out.below (below_alloc (Below.refl _ _) (.cells #[.int .u8 101, .int .u8 110, .int .u8 115, .int .u8 119] 5 (4, 5))))
        have HB1 := Lib.hid (show spec_avFar.BY (wr.alloc (.cells #[.int .u8 101, .int .u8 110, .int .u8 115, .int .u8 119] 5 (4, 5))) wr.heap.size from spec_avFar.blk_new' wr _)
        clear hxq kc HV
        generalize (wr.alloc (.cells #[.int .u8 101, .int .u8 110, .int .u8 115, .int .u8 119] 5 (4, 5))) = Wb at HV1 HB1 ⊢
        obtain ⟨gb, hgb⟩ : ∃ gb, gb = wr.heap.size := ⟨_, rfl⟩
        rw [← hgb] at HB1 ⊢
        clear hgb
        go_loopw [7, 67] (fun v7 v67 wr => ∃ (m : Nat) (s : List Int × List Int), m ≤ 4 ∧ v67 = .int .i64 m ∧ Hid (spec_avFar.steps k1 a0_0 a0_1 l0_2 at_ m st = some s) ∧ Hid (spec_avFar.AV w wr a0_0 a0_1 (.slice A0_2 l0_2.length c0_2) s.1 v7 s.2) ∧ Hid (spec_avFar.BY wr gb)) (fun _ v67 _ => 4 - (intOf v67).toNat)
        case atStart => exact ⟨0, st, by omega, rfl, Lib.hid rfl, HV1, HB1⟩
        case round =>
         clear HV1 HB1
         obtain ⟨m, s, hm, rfl, HS, HV, HB⟩ := hrel
         by_cases hm4 : m < 4
         ·obtain ⟨s', hs'⟩ := spec_avFar.steps_at HS4.out (4 - (m + 1)) (m + 1) (by omega)
          have hstep := hs'
          rw [spec_avFar.steps, HS.out, Option.bind_some] at hstep
          have HS' := Lib.hid hs'
          clear hs'
          have hby := HB.out.cell hm4
          have hm0 : (0 : Int) ≤ (m : Int) := by omega
          have hm1 : (m : Int) < 4 := by omega
          obtain ⟨sg, hsg⟩ : ∃ sg, sg = spec_avFar.sg m := ⟨_, rfl⟩
          rw [← hsg] at hstep hby
          clear hsg
          obtain ⟨u, v, o, hst, hcase⟩ := spec_avFar.step_cases hstep
          have HC1 := Lib.hid hcase
          have HST := Lib.hid hst
          have hlen := spec_avFar.steps_len HS.out
          have HLN := Lib.hid (hlen.trans HN.out)
          clear hstep hcase hst hlen
          have hcz0 : wr.cell? ⟨w.heap.size, 0, none⟩ = some (.int .i64 a0_0) := (blk_cell HV.out.box 0).trans rfl
          have hcz1 : wr.cell? ⟨w.heap.size, 1, none⟩ = some (.int .i64 a0_1) := (blk_cell HV.out.box 1).trans rfl
          have hcz2 : wr.cell? ⟨w.heap.size, 2, none⟩ = some (.slice A0_2 l0_2.length c0_2) := (blk_cell HV.out.box 2).trans rfl
          have hat64 : at_ < 64 := by have := HN.out; omega
          have hat0 := hat.1
          have hH0 : ¬ a0_1 = 0 := by omega
          have eq1 : IntKind.i64.wrap (at_.tdiv a0_1) = at_ / a0_1 := by rw [Int.tdiv_eq_ediv_of_nonneg hat0]; exact IntWalk.i64_in _ ⟨by have := Int.ediv_nonneg hat0 (show 0 ≤ a0_1 by omega); omega, by have := Int.ediv_le_self a0_1 hat0; omega⟩
          have eq2 : at_.tmod a0_1 = at_ % a0_1 := Int.tmod_eq_emod_of_nonneg hat0
          go_wp2
          go_region_held3 (fun w' => w'.cell? ⟨w.heap.size, 0, none⟩ = some (.int .i64 a0_0) ∧ w'.cell? ⟨w.heap.size, 1, none⟩ = some (.int .i64 a0_1) ∧ w'.cell? ⟨w.heap.size, 2, none⟩ = some (.slice A0_2 l0_2.length c0_2)) (first | go_keep | (exact ⟨pw_cell_below hb2 (by assumption), pw_cell_below hb2 (by assumption), pw_cell_below hb2 (by assumption)⟩))
           (first | (go_at_call 77; refine (spec_avStep.calls k1 a0_0 a0_1 A0_2 c0_2 l0_2 (at_ / a0_1) (at_ % a0_1) sg u v o _ (Kd.C_below HC.out (by first | exact HV.out.bel | exact below_drew HV.out.bel | exact pw_below_drewN HV.out.bel _)) hc0_2 HST.out).mono ?_; rintro e w2 ⟨rfl, hb2⟩))
          have HV2 := Lib.hid ((HV.out.below (below_drew (Below.refl _ _))).below hb2)
          have HB2 := Lib.hid ((HB.out.below (below_drew (Below.refl _ _))).below hb2)
          clear hb2 hcz0 hcz1 hcz2 hby HV HB eq1 eq2
          have hcz1 : w2.cell? ⟨w.heap.size, 1, none⟩ = some (.int .i64 a0_1) := (blk_cell HV2.out.box 1).trans rfl
          rcases HC1.out with ⟨rfl, rfl⟩ | ⟨rfl, p', hp', hpl, hql', ⟨hneg, rfl⟩ | ⟨hneg, rfl⟩⟩
          ·clear HC1
           go_wp2
           go_roundw
           case rel => exact ⟨m + 1, _, by omega, by go_num, HS', HV2, HB2⟩
           case measure => simp [intOf]; omega
          ·have hcp := HV2.out.cell hpl
           have hca := HV2.out.cell (show at_.toNat < s.1.length by have := HLN.out; have := HN.out; omega)
           rw [Int.toNat_of_nonneg hat0] at hca
           have hfz := blk_frozen HV2.out.far p'
           have hp0 : (0 : Int) ≤ (p' : Int) := by omega
           have hp1 : (p' : Int) < (j : Int) := by have := HLN.out; omega
           have hat1 : at_ < (j : Int) := by have := HN.out; omega
           have HQL := Lib.hid hql'
           have HV3 := Lib.hid (HV2.out.set p' (wrap64 (rd s.1 at_ + 1)))
           have HB3 := Lib.hid (HB2.out.set HV2.out p' (.int .i64 (wrap64 (rd s.1 at_ + 1))))
           clear hql' HC1
           go_upto_region 20 with (fail)
           generalize (w2.setCell ⟨w.heap.size + 1, p', none⟩ (.int .i64 (wrap64 (rd s.1 at_ + 1)))) = W3 at HV3 HB3 ⊢
           clear hcp hca hfz hcz1
           go_wp2_with ((with_reducible refine gate_builtin (b := .append) (xs := #[.tmp 108, .tmp 110]) rfl ?_); at_builtin; refine Kd.R_append (Kd.int .i64) (w0 := w) w.heap.size rfl (.tmp 108) (.tmp 110) 42 3 (.int .i64 0) 8 rfl Try.underlying42 spec_avFar.info rfl (by decide) (by omega) _ s.2 (p' : Int) [.int .i64 (p' : Int)] (fun k_ => k_ ≠ w.heap.size + 1) (fun _ => False) rfl rfl ?aP (fun _ hk => hk.elim) ?aF ?aO ?aB ?aS ?aL ?_; (case aP => exact rfl); (case aB => exact HV3.out.bel); (case aF => exact (fun k hk => by have := blk_lt HV3.out.far; omega)); (case aO => exact HV3.out.row); (case aS => exact HV3.out.bel.size); (case aL => have := HQL.out; omega); intro v1 w4 ho hb4 hg4 hat4; have HV4 := Lib.hid (HV3.out.app ho hb4 hg4); have HB4 := Lib.hid (HB3.out.app HV3.out hg4); clear HV3 HB3 ho hb4 hg4 hat4)
           go_roundw
           case rel => exact ⟨m + 1, _, by omega, by go_num, HS', HV4, HB4⟩
           case measure => simp [intOf]; omega
          ·have hcp := HV2.out.cell hpl
           have hfz := blk_frozen HV2.out.far p'
           have hp0 : (0 : Int) ≤ (p' : Int) := by omega
           have hp1 : (p' : Int) < (j : Int) := by have := HLN.out; omega
           clear HC1 hql'
           go_wp2
           go_roundw
           case rel => exact ⟨m + 1, _, by omega, by go_num, HS', HV2, HB2⟩
           case measure => simp [intOf]; omega
         ·obtain rfl : m = 4 := by omega
          obtain rfl := Option.some.inj (HS.out.symm.trans HS4.out)
          go_wp2
          go_roundg k1
          case measure => omega
          case rel => exact ⟨i + 1, s, by go_num, HNX, Lib.hid ((spec_avFar.steps_len HS.out).trans HN.out), HV⟩
       ·rw [if_neg hat] at h
        cases h
      ·rw [if_neg hi] at h
       obtain rfl := Option.some.inj h
       clear h
       go_wp2
       go_ret
       exact ⟨_, rfl, HV.out.res HN.out hN64, HV.out.bel⟩
 ·rw [if_neg hk] at h
  cases h
def spec_avFarthest.l0 : Nat → Int → Int → List Int → Int → Int → Option (Int × Int)
 | 0, _, _, _, _, _ => none
 | k + 1, x6, x7, x12, x13, x14 => if x14 < x13 then (if 0 ≤ x14 then (if x14 < (x12.length : Int) then (if (rd x12 x14) > x7 then (spec_avFarthest.l0 k x14 (rd x12 x14) x12 x13 (wrap64 (x14 + 1))) else (spec_avFarthest.l0 k x6 x7 x12 x13 (wrap64 (x14 + 1)))) else (none)) else (none)) else (some (x6, x7))
def spec_avFarthest.f (k : Nat) (a0_0 : Int) (a0_1 : Int) (l0_2 : List (S38)) (l1 : List Int) : Option (Int × Int) := (spec_avFar.f k a0_0 a0_1 l0_2 l1).bind fun t165 => (spec_avFarthest.l0 k 0 (-1) t165 (t165.length : Int) 0)
theorem spec_avFarthest.mono_l : ∀ k, (∀ y0 y1 y2 y3 y4, LeO (spec_avFarthest.l0 k y0 y1 y2 y3 y4) (spec_avFarthest.l0 (k + 1) y0 y1 y2 y3 y4))
 | 0 => fun _ _ _ _ _ r h => by simp [spec_avFarthest.l0] at h
 | k + 1 => by
  have ih0 := spec_avFarthest.mono_l k
  ·intro y0 y1 y2 y3 y4
   unfold spec_avFarthest.l0
   repeat' first
   | (with_reducible exact ih0 _ _ _ _ _)
   | (with_reducible exact spec_avFar.mono _ _ _ _ _)
   | (with_reducible exact LeO.refl _)
   | (with_reducible exact LeO.none _)
   | (with_reducible refine LeO.ite ?_ ?_)
   | (with_reducible refine LeO.bind ?_ (fun _ => ?_))
   | exact ih0 _ _ _ _ _
   | exact spec_avFar.mono _ _ _ _ _
   | exact LeO.none _
   | refine LeO.ite ?_ ?_
   | refine LeO.bind ?_ (fun _ => ?_)
theorem spec_avFarthest.mono : ∀ a0 a1 a2 a3 k, LeO (spec_avFarthest.f k a0 a1 a2 a3) (spec_avFarthest.f (k + 1) a0 a1 a2 a3) := by
 intro a0 a1 a2 a3 k
 have ih0 := spec_avFarthest.mono_l k
 unfold spec_avFarthest.f
 repeat' first
   | (with_reducible exact ih0 _ _ _ _ _)
   | (with_reducible exact spec_avFar.mono _ _ _ _ _)
   | (with_reducible exact LeO.refl _)
   | (with_reducible exact LeO.none _)
   | (with_reducible refine LeO.ite ?_ ?_)
   | (with_reducible refine LeO.bind ?_ (fun _ => ?_))
   | exact ih0 _ _ _ _ _
   | exact spec_avFar.mono _ _ _ _ _
   | exact LeO.none _
   | refine LeO.ite ?_ ?_
   | refine LeO.bind ?_ (fun _ => ?_)
set_option maxHeartbeats 8000000 in
set_option maxRecDepth 100000 in
theorem spec_avFarthest.calls (k : Nat) (a0_0 : Int) (a0_1 : Int) (A0_2 : Option Addr) (c0_2 : Nat) (l0_2 : List (S38)) (A1 : Option Addr) (c1 : Nat) (l1 : List Int) (r1 : Int) (r2 : Int) (w : World) (hr0_2 : Kd.C k38 w A0_2 l0_2.length l0_2) (hc0_2 : l0_2.length ≤ c0_2) (hr1 : Kd.C (Kd.int .i64) w A1 l1.length l1) (hc1 : l1.length ≤ c1) (h : spec_avFarthest.f k a0_0 a0_1 l0_2 l1 = some (r1, r2)) :
  Calls Try.prog 91 #[.agg #[.int .i64 a0_0, .int .i64 a0_1, .slice A0_2 l0_2.length c0_2], .slice A1 l1.length c1] w fun e w' => e = .returned (.tuple #[.int .i64 r1, .int .i64 r2]) ∧ Below w.heap.size w w' := by
 have hu30 := Try.underlying30
 have HR0_2 := Aside0.mk hr0_2
 have HC0_2 := Aside0.mk hc0_2
 clear hr0_2 hc0_2
 have HR1 := Aside0.mk hr1
 have HC1 := Aside0.mk hc1
 clear hr1 hc1
 have HB := Aside0.mk (Below.refl w.heap.size w)
 have H : ((spec_avFar.f k a0_0 a0_1 l0_2 l1).bind fun t165 => (spec_avFarthest.l0 k 0 (-1) t165 (t165.length : Int) 0)) = some (r1, r2) := h
 clear h
 replace H := Option.bind_eq_some_iff.mp H
 obtain ⟨t165, A30, H⟩ := H
 replace H : (spec_avFarthest.l0 k 0 (-1) t165 (t165.length : Int) 0) = some (r1, r2) := H
 have A3 := Aside0.mk A30
 clear A30
 have H' := Aside0.mk H
 clear H
 go_enter Try.func91, Try.ntmps91
 go_wp2_with (first | ((with_reducible refine gate_dst (N := 2) rfl ?_); refine box_event ?hg (N := 2) ?hd (cs := #[.int .i64 a0_0, .int .i64 a0_1, .slice A0_2 l0_2.length c0_2]) (t := 30) ?hr ?_; (case hd => rfl); (case hg => rfl); (case hr => first | (go_simp; done) | (go_simp; rfl)); intro gb164 hg w4 hbox hb; have n0_ := Aside0.mk (below_step (by repeat (first | (with_reducible first | exact HB.out | apply below_alloc | apply pw_below_drewN | apply below_drew1) | exact HB.out)) hb); have n1_ := Aside0.mk (hbox); have n2_ := Aside0.mk ((by rw [hg]; exact (below_size (by repeat (first | (with_reducible first | exact HB.out | apply below_alloc | apply pw_below_drewN | apply below_drew1) | exact HB.out))) : w.heap.size ≤ gb164)); have n3_ := Aside0.mk ((by rw [hg]; exact (below_size (by repeat (first | (with_reducible first | exact HB.out | apply below_alloc | apply pw_below_drewN | apply below_drew1) | exact HB.out))) : w.heap.size ≤ gb164)); clear HB; have HB := n0_; have BK164 := n1_; have GW164 := n2_; have GE164 := n3_; clear n0_ n1_ n2_ n3_; clear hb hbox hg; have hcz5_0 : w4.cell? ⟨gb164, 0, none⟩ = some (.int .i64 a0_0) := (blk_cell BK164.out 0).trans rfl; have hcz5_1 : w4.cell? ⟨gb164, 1, none⟩ = some (.int .i64 a0_1) := (blk_cell BK164.out 1).trans rfl; have hcz5_2 : w4.cell? ⟨gb164, 2, none⟩ = some (.slice A0_2 l0_2.length c0_2) := (blk_cell BK164.out 2).trans rfl; have hfz5_0 := blk_frozen BK164.out 0; have hfz5_1 := blk_frozen BK164.out 1; have hfz5_2 := blk_frozen BK164.out 2) | ((with_reducible refine gate_callee (f := 84) rfl ?_); refine goesL_ (some 12) rfl rfl Try.func84 (by kernel_rfl) rfl #[.agg #[.int .i64 a0_0, .int .i64 a0_1, .slice A0_2 l0_2.length c0_2], .slice A1 l1.length c1] rfl (by (try simp only [List.map_toArray, List.map_cons, List.map_nil]); first | done | rfl | (simp only [List.length_drop, List.length_take]; rfl)) ?_; (with_reducible refine (spec_avFar.calls k a0_0 a0_1 _ _ l0_2 _ _ l1 t165 _ ?side1 ?side2 ?side3 ?side4 A3.out).mono ?_); (case side1 => repeat (first | exact (Kd.C_below HR0_2.out HB.out) | (with_reducible refine Kd.C_alloc ?_ _) | (with_reducible refine Kd.C_drewN ?_ _) | (with_reducible refine Kd.C_drew ?_))); (case side2 => exact HC0_2.out); (case side3 => repeat (first | exact (Kd.C_below HR1.out HB.out) | (with_reducible refine Kd.C_alloc ?_ _) | (with_reducible refine Kd.C_drewN ?_ _) | (with_reducible refine Kd.C_drew ?_))); (case side4 => exact HC1.out); rintro e w6 ⟨v166, rfl, ho0, hb⟩; refine ⟨_, rfl, ?_⟩; have n0_ := Aside0.mk (Kd.R_lower ho0 (below_size (by repeat (first | (with_reducible first | exact HB.out | apply below_alloc | apply pw_below_drewN | apply below_drew1 | refine below_set ?_ GE164.out) | exact HB.out)))); have n1_ := Aside0.mk (blk_below (g := gb164) (o := .cells #[.int .i64 a0_0, .int .i64 a0_1, .slice A0_2 l0_2.length c0_2] 30 (0, 0)) (by (with_reducible repeat (first | refine blk_drewN ?_ _ | refine blk_drew ?_ | refine blk_alloc ?_ _)); exact BK164.out) hb); have n2_ := Aside0.mk (below_step (by repeat (first | (with_reducible first | exact HB.out | apply below_alloc | apply pw_below_drewN | apply below_drew1 | refine below_set ?_ GE164.out) | exact HB.out)) hb); clear BK164; clear HB; have HO167 := n0_; have BK164 := n1_; have HB := n2_; clear n0_ n1_ n2_; (try clear hb); (try clear hb2); (try clear hk); (try clear hi); (try clear ho0); obtain ⟨Ao7, co7, eo7⟩ := Kd.R_slice HO167.out; subst eo7))
 go_loopg [6, 7, 14] k (fun kq v6 v7 v14 w' => ∃ (x6_1 : Int) (x7_1 : Int) (x14_1 : Int), v6 = .int .i64 x6_1 ∧ v7 = .int .i64 x7_1 ∧ v14 = .int .i64 x14_1 ∧ Aside0 (spec_avFarthest.l0 kq x6_1 x7_1 t165 (t165.length : Int) x14_1 = some (r1, r2)) ∧ Aside0 (kq ≤ k) ∧ Aside0 (Kd.R (Kd.int .i64) 3 w' w.heap.size (fun _ => True) (.slice Ao7 t165.length co7) t165) ∧ Aside0 (w'.heap[gb164]? = some (.cells #[.int .i64 a0_0, .int .i64 a0_1, (.slice A0_2 l0_2.length c0_2)] 30 (0, 0))) ∧ Aside0 (Below w.heap.size w w'))
 case atStart => exact ⟨(0), ((-1)), (0), (by first | rfl | (simp; done) | (simp [*]; done)), (by first | rfl | (simp; done) | (simp [*]; done)), (by first | rfl | (simp; done) | (simp [*]; done)), H', ⟨Nat.le_refl _⟩, ⟨by (with_reducible repeat (first | apply Kd.R_alloc | apply Kd.R_drewN | apply Kd.R_drew)); exact HO167.out⟩, ⟨by (with_reducible repeat (first | refine blk_drewN ?_ _ | refine blk_drew ?_ | refine blk_alloc ?_ _)); exact BK164.out⟩, ⟨by repeat (first | (with_reducible first | exact HB.out | apply below_alloc | apply pw_below_drewN | apply below_drew1 | refine below_set ?_ GE164.out) | exact HB.out)⟩⟩
 case round =>
  clear H'
  try clear c1
  try clear p2
  try clear hcz5_0
  try clear hcz5_1
  try clear hcz5_2
  try clear hfz5_0
  try clear hfz5_1
  try clear hfz5_2
  obtain ⟨x6_1, x7_1, x14_1, rfl, rfl, rfl, HA, HK1, HO_12, BK164, HB⟩ := hrel
  cases gk with
  | zero => exact absurd HA.out (by simp [spec_avFarthest.l0])
  | succ k1 =>
   have H := HA.out
   clear HA
   simp only [spec_avFarthest.l0] at H
   by_cases c8 : x14_1 < (t165.length : Int)
   ·rw [if_pos c8] at H
    have c8b0 : decide (x14_1 < (t165.length : Int)) = true := decide_eq_true c8
    clear c8
    by_cases c9 : 0 ≤ x14_1
    ·rw [if_pos c9] at H
     have c9b0 : decide (0 ≤ x14_1) = true := decide_eq_true c9
     clear c9
     by_cases c10 : x14_1 < (t165.length : Int)
     ·rw [if_pos c10] at H
      have c10b0 : decide (x14_1 < (t165.length : Int)) = true := decide_eq_true c10
      clear c10
      by_cases c11 : (rd t165 x14_1) > x7_1
      ·rw [if_pos c11] at H
       have c11b0 : decide (x7_1 < (rd t165 x14_1)) = true := decide_eq_true c11
       clear c11
       have H' := Aside0.mk H
       clear H
       have p168 : 0 ≤ (x14_1 : Int) := of_decide_eq_true (by first | (with_reducible assumption) | assumption)
       have q168 : x14_1 < (t165.length : Int) := of_decide_eq_true (by first | (with_reducible assumption) | assumption)
       obtain ⟨ad168, e168, hx168_0⟩ := Kd.at_int (Kd.R_reads' HO_12.out).2.2 x14_1 p168 q168
       cases e168
       replace p168 := eq_true p168
       replace q168 := eq_true q168
       go_wp2
       go_roundg k1
       case measure => have := HK1.out; omega
       case rel => exact ⟨(x14_1), (rd t165 x14_1), (wrap64 (x14_1 + 1)), (by first | rfl | (simp; done) | (simp [*]; done)), (by first | rfl | (simp; done) | (simp [*]; done)), (by first | rfl | (simp; done) | (simp [*]; done)), H', ⟨by have := HK1.out; omega⟩, ⟨by (with_reducible repeat (first | apply Kd.R_alloc | apply Kd.R_drewN | apply Kd.R_drew)); exact HO_12.out⟩, ⟨by (with_reducible repeat (first | refine blk_drewN ?_ _ | refine blk_drew ?_ | refine blk_alloc ?_ _)); exact BK164.out⟩, ⟨by repeat (first | (with_reducible first | exact HB.out | apply below_alloc | apply pw_below_drewN | apply below_drew1 | refine below_set ?_ GE164.out) | exact HB.out)⟩⟩
      ·rw [if_neg c11] at H
       have c11b0 : decide (x7_1 < (rd t165 x14_1)) = false := decide_eq_false c11
       clear c11
       have H' := Aside0.mk H
       clear H
       have p168 : 0 ≤ (x14_1 : Int) := of_decide_eq_true (by first | (with_reducible assumption) | assumption)
       have q168 : x14_1 < (t165.length : Int) := of_decide_eq_true (by first | (with_reducible assumption) | assumption)
       obtain ⟨ad168, e168, hx168_0⟩ := Kd.at_int (Kd.R_reads' HO_12.out).2.2 x14_1 p168 q168
       cases e168
       replace p168 := eq_true p168
       replace q168 := eq_true q168
       go_wp2
       go_roundg k1
       case measure => have := HK1.out; omega
       case rel => exact ⟨(x6_1), (x7_1), (wrap64 (x14_1 + 1)), (by first | rfl | (simp; done) | (simp [*]; done)), (by first | rfl | (simp; done) | (simp [*]; done)), (by first | rfl | (simp; done) | (simp [*]; done)), H', ⟨by have := HK1.out; omega⟩, ⟨by (with_reducible repeat (first | apply Kd.R_alloc | apply Kd.R_drewN | apply Kd.R_drew)); exact HO_12.out⟩, ⟨by (with_reducible repeat (first | refine blk_drewN ?_ _ | refine blk_drew ?_ | refine blk_alloc ?_ _)); exact BK164.out⟩, ⟨by repeat (first | (with_reducible first | exact HB.out | apply below_alloc | apply pw_below_drewN | apply below_drew1 | refine below_set ?_ GE164.out) | exact HB.out)⟩⟩
     ·rw [if_neg c10] at H
      exact absurd H (by simp)
    ·rw [if_neg c9] at H
     exact absurd H (by simp)
   ·rw [if_neg c8] at H
    have c8b0 : decide (x14_1 < (t165.length : Int)) = false := decide_eq_false c8
    clear c8
    simp only [Option.some.injEq, Prod.mk.injEq] at H
    obtain ⟨rfl, rfl⟩ := H
    go_wp2
    go_ret2
    exact ⟨by first | rfl | (simp [errW_none, errW_some] <;> rfl) | (simp [*, errW_none, errW_some] <;> rfl), by repeat (first | (with_reducible first | exact HB.out | apply below_alloc | apply pw_below_drewN | apply below_drew1 | refine below_set ?_ GE164.out) | exact HB.out)⟩
def spec_FarthestCorner.f (k : Nat) (a0_0 : Int) (a0_1 : Int) (l0_2 : List (S38)) (l1 : List Int) : Option (List Int × Int × Bool) := (spec_avGood.f k a0_0 a0_1 l0_2).bind fun t170 => (if t170 = true then ((spec_avCorner.f a0_0 a0_1 l0_2 l1).bind fun t171 => (if t171 = true then ((spec_avFarthest.f k a0_0 a0_1 l0_2 l1).bind fun bt172 => (if a0_1 = 0 then (none) else (some ((([wrap64 (Int.tdiv bt172.1 a0_1), Int.tmod bt172.1 a0_1] : List Int)), bt172.2, true)))) else (some (([] : List Int), 0, false)))) else (some (([] : List Int), 0, false)))
theorem spec_FarthestCorner.mono : ∀ a0 a1 a2 a3 k, LeO (spec_FarthestCorner.f k a0 a1 a2 a3) (spec_FarthestCorner.f (k + 1) a0 a1 a2 a3) := by
 intro a0 a1 a2 a3 k
 unfold spec_FarthestCorner.f
 repeat' first
   | (with_reducible exact spec_avFarthest.mono _ _ _ _ _)
   | (with_reducible exact spec_avGood.mono _ _ _ _)
   | (with_reducible exact LeO.refl _)
   | (with_reducible exact LeO.none _)
   | (with_reducible refine LeO.ite ?_ ?_)
   | (with_reducible refine LeO.bind ?_ (fun _ => ?_))
   | exact spec_avFarthest.mono _ _ _ _ _
   | exact spec_avGood.mono _ _ _ _
   | exact LeO.none _
   | refine LeO.ite ?_ ?_
   | refine LeO.bind ?_ (fun _ => ?_)
def spec_FarthestCorner.T4 : Bool × List (List Nat × List Nat) := (true, [([], []), ([], []), ([1], [1]), ([0, 2], [0, 2]), ([], []), ([], []), ([5], [5]), ([4, 6], [4, 6]), ([3, 7], [3, 7]), ([], []), ([8, 0, 1, 2, 3, 4, 5, 6, 7, 8], [8]), ([9, 10, 0, 1, 2, 3, 4, 5, 6, 7, 8, 9, 10], [9]), ([11, 0, 1, 2, 3, 4, 5, 6, 7, 8, 9, 10, 11], [])])
def spec_FarthestCorner.B4 : List Nat := [0, 0, 2, 7, 0, 0, 32, 112, 255, 0, 511, 2047, 4095]
theorem spec_FarthestCorner.tab4 : rtab .any (opsOf Try.f44 4) = spec_FarthestCorner.T4 := by kernel_rfl
theorem spec_FarthestCorner.bits4 : waitsOk spec_FarthestCorner.T4.2 spec_FarthestCorner.B4 = true := by kernel_rfl
set_option maxHeartbeats 8000000 in
set_option maxRecDepth 100000 in
theorem spec_FarthestCorner.calls (k : Nat) (a0_0 : Int) (a0_1 : Int) (A0_2 : Option Addr) (c0_2 : Nat) (l0_2 : List (S38)) (A1 : Option Addr) (c1 : Nat) (l1 : List Int) (r1 : List Int) (r2 : Int) (r3 : Bool) (w : World) (hr0_2 : Kd.C k38 w A0_2 l0_2.length l0_2) (hc0_2 : l0_2.length ≤ c0_2) (hr1 : Kd.C (Kd.int .i64) w A1 l1.length l1) (hc1 : l1.length ≤ c1) (h : spec_FarthestCorner.f k a0_0 a0_1 l0_2 l1 = some (r1, r2, r3)) :
  Calls Try.prog 44 #[.agg #[.int .i64 a0_0, .int .i64 a0_1, .slice A0_2 l0_2.length c0_2], .slice A1 l1.length c1] w fun e w' => ∃ v0_ : Value, e = .returned (.tuple #[v0_, .int .i64 r2, .bool r3]) ∧ Kd.R (Kd.int .i64) 3 w' w.heap.size (fun _ => True) v0_ r1 ∧ Below w.heap.size w w' := by
 have hu30 := Try.underlying30
 have HR0_2 := Aside0.mk hr0_2
 have HC0_2 := Aside0.mk hc0_2
 clear hr0_2 hc0_2
 have HR1 := Aside0.mk hr1
 have HC1 := Aside0.mk hc1
 clear hr1 hc1
 have HB := Aside0.mk (Below.refl w.heap.size w)
 have H : ((spec_avGood.f k a0_0 a0_1 l0_2).bind fun t170 => (if t170 = true then ((spec_avCorner.f a0_0 a0_1 l0_2 l1).bind fun t171 => (if t171 = true then ((spec_avFarthest.f k a0_0 a0_1 l0_2 l1).bind fun bt172 => (if a0_1 = 0 then (none) else (some ((([wrap64 (Int.tdiv bt172.1 a0_1), Int.tmod bt172.1 a0_1] : List Int)), bt172.2, true)))) else (some (([] : List Int), 0, false)))) else (some (([] : List Int), 0, false)))) = some (r1, r2, r3) := h
 clear h
 replace H := Option.bind_eq_some_iff.mp H
 obtain ⟨t170, A30, H⟩ := H
 replace H : (if t170 = true then ((spec_avCorner.f a0_0 a0_1 l0_2 l1).bind fun t171 => (if t171 = true then ((spec_avFarthest.f k a0_0 a0_1 l0_2 l1).bind fun bt172 => (if a0_1 = 0 then (none) else (some ((([wrap64 (Int.tdiv bt172.1 a0_1), Int.tmod bt172.1 a0_1] : List Int)), bt172.2, true)))) else (some (([] : List Int), 0, false)))) else (some (([] : List Int), 0, false))) = some (r1, r2, r3) := H
 have A3 := Aside0.mk A30
 clear A30
 by_cases c4 : t170 = true
 ·subst c4
  have H1 : ((spec_avCorner.f a0_0 a0_1 l0_2 l1).bind fun t171 => (if t171 = true then ((spec_avFarthest.f k a0_0 a0_1 l0_2 l1).bind fun bt172 => (if a0_1 = 0 then (none) else (some ((([wrap64 (Int.tdiv bt172.1 a0_1), Int.tmod bt172.1 a0_1] : List Int)), bt172.2, true)))) else (some (([] : List Int), 0, false)))) = some (r1, r2, r3) := by rw [if_pos rfl] at H; exact H
  clear H
  have H := H1
  clear H1
  replace H := Option.bind_eq_some_iff.mp H
  obtain ⟨t171, A50, H⟩ := H
  replace H : (if t171 = true then ((spec_avFarthest.f k a0_0 a0_1 l0_2 l1).bind fun bt172 => (if a0_1 = 0 then (none) else (some ((([wrap64 (Int.tdiv bt172.1 a0_1), Int.tmod bt172.1 a0_1] : List Int)), bt172.2, true)))) else (some (([] : List Int), 0, false))) = some (r1, r2, r3) := H
  have A5 := Aside0.mk A50
  clear A50
  by_cases c6 : t171 = true
  ·subst c6
   have H1 : ((spec_avFarthest.f k a0_0 a0_1 l0_2 l1).bind fun bt172 => (if a0_1 = 0 then (none) else (some ((([wrap64 (Int.tdiv bt172.1 a0_1), Int.tmod bt172.1 a0_1] : List Int)), bt172.2, true)))) = some (r1, r2, r3) := by rw [if_pos rfl] at H; exact H
   clear H
   have H := H1
   clear H1
   replace H := Option.bind_eq_some_iff.mp H
   obtain ⟨⟨t172, t173⟩, A70, H⟩ := H
   replace H : (if a0_1 = 0 then (none) else (some ((([wrap64 (Int.tdiv t172 a0_1), Int.tmod t172 a0_1] : List Int)), t173, true))) = some (r1, r2, r3) := H
   have A7 := Aside0.mk A70
   clear A70
   by_cases c8 : a0_1 = 0
   ·rw [if_pos c8] at H
    exact absurd H (by simp)
   ·rw [if_neg c8] at H
    have c8b0 : (a0_1 == 0) = false := beq_eq_false_iff_ne.mpr c8
    have c8b1 : (a0_1 != 0) = true := bne_iff_ne.mpr c8
    obtain ⟨y174, hy174⟩ : ∃ y_ : List Int, y_ = (([wrap64 (Int.tdiv t172 a0_1), Int.tmod t172 a0_1] : List Int)) := ⟨_, rfl⟩
    replace H : (some (y174, t173, true)) = some (r1, r2, r3) := by first | (rw [hy174]; with_reducible exact H) | (have H2_ := (Option.bind_some _ _).symm.trans H; rw [hy174]; with_reducible exact H2_) | (have H2_ := (Option.bind_some _ _).symm.trans H; with_reducible exact H2_) | with_reducible exact H | (rw [hy174]; exact H) | exact H
    have Ny174 := Aside0.mk hy174
    clear hy174
    simp only [Option.some.injEq, Prod.mk.injEq] at H
    obtain ⟨rfl, rfl, rfl⟩ := H
    go_enter Try.func44, Try.ntmps44
    try go_wp2_with (first | ((with_reducible refine gate_dst (N := 2) rfl ?_); refine box_event ?hg (N := 2) ?hd (cs := #[.int .i64 a0_0, .int .i64 a0_1, .slice A0_2 l0_2.length c0_2]) (t := 30) ?hr ?_; (case hd => rfl); (case hg => rfl); (case hr => first | (go_simp; done) | (go_simp; rfl)); intro gb169 hg w9 hbox hb; have n0_ := Aside0.mk (below_step (by repeat (first | (with_reducible first | exact HB.out | apply below_alloc | apply pw_below_drewN | apply below_drew1) | exact HB.out)) hb); have n1_ := Aside0.mk (hbox); have n2_ := Aside0.mk ((by rw [hg]; exact (below_size (by repeat (first | (with_reducible first | exact HB.out | apply below_alloc | apply pw_below_drewN | apply below_drew1) | exact HB.out))) : w.heap.size ≤ gb169)); have n3_ := Aside0.mk ((by rw [hg]; exact (below_size (by repeat (first | (with_reducible first | exact HB.out | apply below_alloc | apply pw_below_drewN | apply below_drew1) | exact HB.out))) : w.heap.size ≤ gb169)); clear HB; have HB := n0_; have BK169 := n1_; have GW169 := n2_; have GE169 := n3_; clear n0_ n1_ n2_ n3_; clear hb hbox hg; have hcz10_0 : w9.cell? ⟨gb169, 0, none⟩ = some (.int .i64 a0_0) := (blk_cell BK169.out 0).trans rfl; have hcz10_1 : w9.cell? ⟨gb169, 1, none⟩ = some (.int .i64 a0_1) := (blk_cell BK169.out 1).trans rfl; have hcz10_2 : w9.cell? ⟨gb169, 2, none⟩ = some (.slice A0_2 l0_2.length c0_2) := (blk_cell BK169.out 2).trans rfl; have hfz10_0 := blk_frozen BK169.out 0; have hfz10_1 := blk_frozen BK169.out 1; have hfz10_2 := blk_frozen BK169.out 2) | ((with_reducible refine gate_callee (f := 67) rfl ?_); refine goesL_ (some 10) rfl rfl Try.func67 (by kernel_rfl) rfl #[.agg #[.int .i64 a0_0, .int .i64 a0_1, .slice A0_2 l0_2.length c0_2]] rfl (by (try simp only [List.map_toArray, List.map_cons, List.map_nil]); first | done | rfl | (simp only [List.length_drop, List.length_take]; rfl)) ?_; (with_reducible refine (spec_avGood.calls k a0_0 a0_1 _ _ l0_2 true _ ?side1 ?side2 A3.out).mono ?_); (case side1 => repeat (first | exact (Kd.C_below HR0_2.out HB.out) | (with_reducible refine Kd.C_alloc ?_ _) | (with_reducible refine Kd.C_drewN ?_ _) | (with_reducible refine Kd.C_drew ?_))); (case side2 => exact HC0_2.out); rintro e w11 ⟨rfl, hb⟩; refine ⟨_, rfl, ?_⟩; have n0_ := Aside0.mk (blk_below (g := gb169) (o := .cells #[.int .i64 a0_0, .int .i64 a0_1, .slice A0_2 l0_2.length c0_2] 30 (0, 0)) (by (with_reducible repeat (first | refine blk_drewN ?_ _ | refine blk_drew ?_ | refine blk_alloc ?_ _)); exact BK169.out) hb); have n1_ := Aside0.mk (below_step (by repeat (first | (with_reducible first | exact HB.out | apply below_alloc | apply pw_below_drewN | apply below_drew1 | refine below_set ?_ GE169.out) | exact HB.out)) hb); clear BK169; clear HB; have BK169 := n0_; have HB := n1_; clear n0_ n1_; (try clear hb); (try clear hb2); (try clear hk); (try clear hi); have hcz12_0 : w11.cell? ⟨gb169, 0, none⟩ = some (.int .i64 a0_0) := (blk_cell BK169.out 0).trans rfl; have hcz12_1 : w11.cell? ⟨gb169, 1, none⟩ = some (.int .i64 a0_1) := (blk_cell BK169.out 1).trans rfl; have hcz12_2 : w11.cell? ⟨gb169, 2, none⟩ = some (.slice A0_2 l0_2.length c0_2) := (blk_cell BK169.out 2).trans rfl; have hfz12_0 := blk_frozen BK169.out 0; have hfz12_1 := blk_frozen BK169.out 1; have hfz12_2 := blk_frozen BK169.out 2) | (go_at_call 76; (with_reducible refine (spec_avCorner.calls a0_0 a0_1 _ _ l0_2 _ _ l1 true _ ?side1 ?side2 ?side3 ?side4 A5.out).mono ?_); (case side1 => repeat (first | exact (Kd.C_below HR0_2.out HB.out) | (with_reducible refine Kd.C_alloc ?_ _) | (with_reducible refine Kd.C_drewN ?_ _) | (with_reducible refine Kd.C_drew ?_))); (case side2 => exact HC0_2.out); (case side3 => repeat (first | exact (Kd.C_below HR1.out HB.out) | (with_reducible refine Kd.C_alloc ?_ _) | (with_reducible refine Kd.C_drewN ?_ _) | (with_reducible refine Kd.C_drew ?_))); (case side4 => exact HC1.out); rintro e w13 ⟨rfl, hb⟩; have n0_ := Aside0.mk (blk_below (g := gb169) (o := .cells #[.int .i64 a0_0, .int .i64 a0_1, .slice A0_2 l0_2.length c0_2] 30 (0, 0)) (by (with_reducible repeat (first | refine blk_drewN ?_ _ | refine blk_drew ?_ | refine blk_alloc ?_ _)); exact BK169.out) hb); have n1_ := Aside0.mk (below_step (by repeat (first | (with_reducible first | exact HB.out | apply below_alloc | apply pw_below_drewN | apply below_drew1 | refine below_set ?_ GE169.out) | exact HB.out)) hb); clear BK169; clear HB; have BK169 := n0_; have HB := n1_; clear n0_ n1_; (try clear hb); (try clear hb2); (try clear hk); (try clear hi); have hcz14_0 : w13.cell? ⟨gb169, 0, none⟩ = some (.int .i64 a0_0) := (blk_cell BK169.out 0).trans rfl; have hcz14_1 : w13.cell? ⟨gb169, 1, none⟩ = some (.int .i64 a0_1) := (blk_cell BK169.out 1).trans rfl; have hcz14_2 : w13.cell? ⟨gb169, 2, none⟩ = some (.slice A0_2 l0_2.length c0_2) := (blk_cell BK169.out 2).trans rfl; have hfz14_0 := blk_frozen BK169.out 0; have hfz14_1 := blk_frozen BK169.out 1; have hfz14_2 := blk_frozen BK169.out 2) | ((with_reducible refine gate_callee (f := 91) rfl ?_); refine goesL_ (some 21) rfl rfl Try.func91 (by kernel_rfl) rfl #[.agg #[.int .i64 a0_0, .int .i64 a0_1, .slice A0_2 l0_2.length c0_2], .slice A1 l1.length c1] rfl (by (try simp only [List.map_toArray, List.map_cons, List.map_nil]); first | done | rfl | (simp only [List.length_drop, List.length_take]; rfl)) ?_; (with_reducible refine (spec_avFarthest.calls k a0_0 a0_1 _ _ l0_2 _ _ l1 t172 t173 _ ?side1 ?side2 ?side3 ?side4 A7.out).mono ?_); (case side1 => repeat (first | exact (Kd.C_below HR0_2.out HB.out) | (with_reducible refine Kd.C_alloc ?_ _) | (with_reducible refine Kd.C_drewN ?_ _) | (with_reducible refine Kd.C_drew ?_))); (case side2 => exact HC0_2.out); (case side3 => repeat (first | exact (Kd.C_below HR1.out HB.out) | (with_reducible refine Kd.C_alloc ?_ _) | (with_reducible refine Kd.C_drewN ?_ _) | (with_reducible refine Kd.C_drew ?_))); (case side4 => exact HC1.out); rintro e w15 ⟨rfl, hb⟩; refine ⟨_, rfl, ?_⟩; have n0_ := Aside0.mk (blk_below (g := gb169) (o := .cells #[.int .i64 a0_0, .int .i64 a0_1, .slice A0_2 l0_2.length c0_2] 30 (0, 0)) (by (with_reducible repeat (first | refine blk_drewN ?_ _ | refine blk_drew ?_ | refine blk_alloc ?_ _)); exact BK169.out) hb); have n1_ := Aside0.mk (below_step (by repeat (first | (with_reducible first | exact HB.out | apply below_alloc | apply pw_below_drewN | apply below_drew1 | refine below_set ?_ GE169.out) | exact HB.out)) hb); clear BK169; clear HB; have BK169 := n0_; have HB := n1_; clear n0_ n1_; (try clear hb); (try clear hb2); (try clear hk); (try clear hi)))
    have n0_ := Aside0.mk (blk_drew BK169.out)
    have n1_ := Aside0.mk (below_drew1 HB.out)
    clear BK169
    clear HB
    have BK169 := n0_
    have HB := n1_
    clear n0_ n1_
    refine start_ (n := 13) (S := fun w' => w'.cell? ⟨gb169, 0, none⟩ = some (.int .i64 a0_0) ∧ w'.cell? ⟨gb169, 1, none⟩ = some (.int .i64 a0_1) ∧ w'.cell? ⟨gb169, 2, none⟩ = some (.slice A0_2 l0_2.length c0_2)) (ds := []) #[false, false, false, false, false, false, false, false, false, false, false, false, false] (by kernel_rfl) rfl rfl ⟨(blk_cell BK169.out 0).trans rfl, (blk_cell BK169.out 1).trans rfl, (blk_cell BK169.out 2).trans rfl⟩ (fun hHeld => ?_); refine with_tabW spec_FarthestCorner.tab4 spec_FarthestCorner.bits4 (fun HT_ HW_ => ?_)
    generalize w15.drew = w16 at BK169 HB hHeld ⊢
    refine pure_ (i := 0) (N := some 24) (v := ?_) (a' := ?_) #[true, false, false, false, false, false, false, false, false, false, false, false, false] rfl rfl (any_of HT_.out (by kernel_rfl)) (fun _ _ _ h => h) (Or.inl ⟨by rfl, ?_⟩) ?_ ?_
    rotate_left
    ·intro w'
     go_simp
     with_reducible rfl
    rotate_left
    ·simp only [Act.put, List.setIfInBounds_toArray, List.set_cons_zero, List.set_cons_succ, i64_w, i32_w]
     rfl
    refine pure_ (i := 1) (N := some 25) (v := ?_) (a' := ?_) #[true, true, false, false, false, false, false, false, false, false, false, false, false] rfl rfl (any_of HT_.out (by kernel_rfl)) (fun _ _ _ h => h) (Or.inl ⟨by rfl, ?_⟩) ?_ ?_
    rotate_left
    ·intro w'
     go_simp
     with_reducible rfl
    rotate_left
    ·simp only [Act.put, List.setIfInBounds_toArray, List.set_cons_zero, List.set_cons_succ, i64_w, i32_w]
     rfl
    refine pure_ (i := 4) (N := some 28) (v := ?_) (a' := ?_) #[true, true, false, false, true, false, false, false, false, false, false, false, false] rfl rfl (any_of HT_.out (by kernel_rfl)) (fun _ _ _ h => h) (Or.inl ⟨by rfl, ?_⟩) ?_ ?_
    rotate_left
    ·intro w'
     go_simp
     with_reducible rfl
    rotate_left
    ·simp only [Act.put, List.setIfInBounds_toArray, List.set_cons_zero, List.set_cons_succ, i64_w, i32_w]
     rfl
    refine pure_ (i := 5) (N := some 29) (v := ?_) (a' := ?_) #[true, true, false, false, true, true, false, false, false, false, false, false, false] rfl rfl (any_of HT_.out (by kernel_rfl)) (fun _ _ _ h => h) (Or.inl ⟨by rfl, ?_⟩) ?_ ?_
    rotate_left
    ·intro w'
     go_simp
     with_reducible rfl
    rotate_left
    ·simp only [Act.put, List.setIfInBounds_toArray, List.set_cons_zero, List.set_cons_succ, i64_w, i32_w]
     rfl
    refine pure_ (i := 9) (N := some 33) (v := ?_) (a' := ?_) #[true, true, false, false, true, true, false, false, false, true, false, false, false] rfl rfl (any_of HT_.out (by kernel_rfl)) (fun _ _ _ h => h) (Or.inl ⟨by rfl, ?_⟩) ?_ ?_
    rotate_left
    ·intro w'
     go_simp
     with_reducible rfl
    rotate_left
    ·simp only [Act.put, List.setIfInBounds_toArray, List.set_cons_zero, List.set_cons_succ, i64_w, i32_w]
     rfl
    refine take_ (i := 2) (N := some 26) (v := ?_) (a' := ?_) #[true, true, true, false, true, true, false, false, false, true, false, false, false] rfl rfl (take_ofW HT_.out HW_.out (by kernel_rfl)) (fun _ _ _ h => h) (Or.inl ⟨by rfl, ?_⟩) hHeld ?_ ?_
    rotate_left
    ·rintro w' ⟨s0, s1, s2⟩
     go_simp
     with_reducible rfl
    rotate_left
    ·simp only [Act.put, List.setIfInBounds_toArray, List.set_cons_zero, List.set_cons_succ, i64_w, i32_w]
     rfl
    refine pure_ (i := 3) (N := some 27) (v := ?_) (a' := ?_) #[true, true, true, true, true, true, false, false, false, true, false, false, false] rfl rfl (any_of HT_.out (by kernel_rfl)) (fun _ _ _ h => h) (Or.inl ⟨by rfl, ?_⟩) ?_ ?_
    rotate_left
    ·intro w'
     go_simp
     with_reducible rfl
    rotate_left
    ·simp only [Act.put, List.setIfInBounds_toArray, List.set_cons_zero, List.set_cons_succ, i64_w, i32_w]
     rfl
    refine take_ (i := 6) (N := some 30) (v := ?_) (a' := ?_) #[true, true, true, true, true, true, true, false, false, true, false, false, false] rfl rfl (take_ofW HT_.out HW_.out (by kernel_rfl)) (fun _ _ _ h => h) (Or.inl ⟨by rfl, ?_⟩) hHeld ?_ ?_
    rotate_left
    ·rintro w' ⟨s0, s1, s2⟩
     go_simp
     with_reducible rfl
    rotate_left
    ·simp only [Act.put, List.setIfInBounds_toArray, List.set_cons_zero, List.set_cons_succ, i64_w, i32_w]
     rfl
    refine pure_ (i := 7) (N := some 31) (v := ?_) (a' := ?_) #[true, true, true, true, true, true, true, true, false, true, false, false, false] rfl rfl (any_of HT_.out (by kernel_rfl)) (fun _ _ _ h => h) (Or.inl ⟨by rfl, ?_⟩) ?_ ?_
    rotate_left
    ·intro w'
     go_simp
     with_reducible rfl
    rotate_left
    ·simp only [Act.put, List.setIfInBounds_toArray, List.set_cons_zero, List.set_cons_succ, i64_w, i32_w]
     rfl
    refine one_ (i := 8) (N := some 32) #[true, true, true, true, true, true, true, true, true, true, false, false, false] rfl rfl (one_of HT_.out (by kernel_rfl)) (by decide) (fun K hK => ?_)
    refine Kd.R_lit_step (Kd.int .i64) _ 3 ?hg (N := 32) ?hd (xs := ([wrap64 (Int.tdiv t172 a0_1), Int.tmod t172 a0_1] : List Int)) (inner := [.int .i64 (wrap64 (Int.tdiv t172 a0_1)), .int .i64 (Int.tmod t172 a0_1)]) (ok := fun _ => True) (okp := fun _ => True) ?hr ?hp (fun _ hk => hk) trivial (Below.refl _ _) (Nat.le_refl _) (by simp) ?_; (case hd => rfl); (case hg => rfl); (case hr => first | (go_simp; done) | (go_simp; rfl)); (case hp => exact (Reps.one (show Kd.M (Kd.int .i64) _ _ _ (wrap64 (Int.tdiv t172 a0_1)) [.int .i64 (wrap64 (Int.tdiv t172 a0_1))] from rfl) (Reps.one (show Kd.M (Kd.int .i64) _ _ _ (Int.tmod t172 a0_1) [.int .i64 (Int.tmod t172 a0_1)] from rfl) (Reps.none _ _))))
    intro v175 w17 ho18 hb hg_ hnew_
    clear hg_ hnew_
    (first | rw [← Ny174.out] at ho18 | (simp only [Int.reduceToNat] at ho18; rw [← Ny174.out] at ho18))
    have n0_ := Aside0.mk (Kd.R_lower ho18 (below_size (by repeat (first | (with_reducible first | exact HB.out | apply below_alloc | apply pw_below_drewN | apply below_drew1 | refine below_set ?_ GE169.out) | exact HB.out))))
    have n1_ := Aside0.mk (blk_below (g := gb169) (o := .cells #[.int .i64 a0_0, .int .i64 a0_1, .slice A0_2 l0_2.length c0_2] 30 (0, 0)) (by (with_reducible repeat (first | refine blk_drewN ?_ _ | refine blk_drew ?_ | refine blk_alloc ?_ _)); exact BK169.out) hb)
    have n2_ := Aside0.mk (below_step (by repeat (first | (with_reducible first | exact HB.out | apply below_alloc | apply pw_below_drewN | apply below_drew1 | refine below_set ?_ GE169.out) | exact HB.out)) hb)
    clear BK169
    clear HB
    have HO176 := n0_
    have BK169 := n1_
    have HB := n2_
    clear n0_ n1_ n2_
    clear hb ho18
    refine hK.out _ _ ⟨(blk_cell BK169.out 0).trans rfl, (blk_cell BK169.out 1).trans rfl, (blk_cell BK169.out 2).trans rfl⟩ (fun hHeld => ?_)
    clear hK K
    refine norm_ (a' := ?_) ?_ ?_
    rotate_left
    ·show Act.put _ (some 32) _ = _
     simp only [Act.put, List.setIfInBounds_toArray, List.set_cons_zero, List.set_cons_succ, i64_w, i32_w]
     rfl
    refine pure_ (i := 10) (N := some 4) (v := ?_) (a' := ?_) #[true, true, true, true, true, true, true, true, true, true, true, false, false] rfl rfl (any_of HT_.out (by kernel_rfl)) (fun _ _ _ h => h) (Or.inl ⟨by rfl, ?_⟩) ?_ ?_
    rotate_left
    ·intro w'
     go_simp
     with_reducible rfl
    rotate_left
    ·simp only [Act.put, List.setIfInBounds_toArray, List.set_cons_zero, List.set_cons_succ, i64_w, i32_w]
     rfl
    refine pure_ (i := 11) (N := some 5) (v := ?_) (a' := ?_) #[true, true, true, true, true, true, true, true, true, true, true, true, false] rfl rfl (any_of HT_.out (by kernel_rfl)) (fun _ _ _ h => h) (Or.inl ⟨by rfl, ?_⟩) ?_ ?_
    rotate_left
    ·intro w'
     go_simp
     with_reducible rfl
    rotate_left
    ·simp only [Act.put, List.setIfInBounds_toArray, List.set_cons_zero, List.set_cons_succ, i64_w, i32_w]
     rfl
    refine pure_ (i := 12) (N := some 6) (v := ?_) (a' := ?_) #[true, true, true, true, true, true, true, true, true, true, true, true, true] rfl rfl (any_of HT_.out (by kernel_rfl)) (fun _ _ _ h => h) (Or.inl ⟨by rfl, ?_⟩) ?_ ?_
    rotate_left
    ·intro w'
     go_simp
     with_reducible rfl
    rotate_left
    ·simp only [Act.put, List.setIfInBounds_toArray, List.set_cons_zero, List.set_cons_succ, i64_w, i32_w]
     rfl
    refine done_ (done_of HT_.out (by kernel_rfl)) ?_
    try go_wp2
    go_ret3
    exact ⟨_, by first | rfl | (simp [errW_none, errW_some] <;> rfl) | (simp [*, errW_none, errW_some] <;> rfl), by (with_reducible repeat (first | apply Kd.R_alloc | apply Kd.R_drewN | apply Kd.R_drew)); exact HO176.out, by repeat (first | (with_reducible first | exact HB.out | apply below_alloc | apply pw_below_drewN | apply below_drew1 | refine below_set ?_ GE169.out) | exact HB.out)⟩
  ·replace c6 := Bool.eq_false_iff.mpr c6
   subst c6
   have H1 : (some (([] : List Int), 0, false)) = some (r1, r2, r3) := by rw [if_neg (show ¬ (false = true) by decide)] at H; exact H
   clear H
   have H := H1
   clear H1
   simp only [Option.some.injEq, Prod.mk.injEq] at H
   obtain ⟨rfl, rfl, rfl⟩ := H
   go_enter Try.func44, Try.ntmps44
   go_wp2_with (first | ((with_reducible refine gate_dst (N := 2) rfl ?_); refine box_event ?hg (N := 2) ?hd (cs := #[.int .i64 a0_0, .int .i64 a0_1, .slice A0_2 l0_2.length c0_2]) (t := 30) ?hr ?_; (case hd => rfl); (case hg => rfl); (case hr => first | (go_simp; done) | (go_simp; rfl)); intro gb169 hg w19 hbox hb; have n0_ := Aside0.mk (below_step (by repeat (first | (with_reducible first | exact HB.out | apply below_alloc | apply pw_below_drewN | apply below_drew1) | exact HB.out)) hb); have n1_ := Aside0.mk (hbox); have n2_ := Aside0.mk ((by rw [hg]; exact (below_size (by repeat (first | (with_reducible first | exact HB.out | apply below_alloc | apply pw_below_drewN | apply below_drew1) | exact HB.out))) : w.heap.size ≤ gb169)); have n3_ := Aside0.mk ((by rw [hg]; exact (below_size (by repeat (first | (with_reducible first | exact HB.out | apply below_alloc | apply pw_below_drewN | apply below_drew1) | exact HB.out))) : w.heap.size ≤ gb169)); clear HB; have HB := n0_; have BK169 := n1_; have GW169 := n2_; have GE169 := n3_; clear n0_ n1_ n2_ n3_; clear hb hbox hg; have hcz20_0 : w19.cell? ⟨gb169, 0, none⟩ = some (.int .i64 a0_0) := (blk_cell BK169.out 0).trans rfl; have hcz20_1 : w19.cell? ⟨gb169, 1, none⟩ = some (.int .i64 a0_1) := (blk_cell BK169.out 1).trans rfl; have hcz20_2 : w19.cell? ⟨gb169, 2, none⟩ = some (.slice A0_2 l0_2.length c0_2) := (blk_cell BK169.out 2).trans rfl; have hfz20_0 := blk_frozen BK169.out 0; have hfz20_1 := blk_frozen BK169.out 1; have hfz20_2 := blk_frozen BK169.out 2) | ((with_reducible refine gate_callee (f := 67) rfl ?_); refine goesL_ (some 10) rfl rfl Try.func67 (by kernel_rfl) rfl #[.agg #[.int .i64 a0_0, .int .i64 a0_1, .slice A0_2 l0_2.length c0_2]] rfl (by (try simp only [List.map_toArray, List.map_cons, List.map_nil]); first | done | rfl | (simp only [List.length_drop, List.length_take]; rfl)) ?_; (with_reducible refine (spec_avGood.calls k a0_0 a0_1 _ _ l0_2 true _ ?side1 ?side2 A3.out).mono ?_); (case side1 => repeat (first | exact (Kd.C_below HR0_2.out HB.out) | (with_reducible refine Kd.C_alloc ?_ _) | (with_reducible refine Kd.C_drewN ?_ _) | (with_reducible refine Kd.C_drew ?_))); (case side2 => exact HC0_2.out); rintro e w21 ⟨rfl, hb⟩; refine ⟨_, rfl, ?_⟩; have n0_ := Aside0.mk (blk_below (g := gb169) (o := .cells #[.int .i64 a0_0, .int .i64 a0_1, .slice A0_2 l0_2.length c0_2] 30 (0, 0)) (by (with_reducible repeat (first | refine blk_drewN ?_ _ | refine blk_drew ?_ | refine blk_alloc ?_ _)); exact BK169.out) hb); have n1_ := Aside0.mk (below_step (by repeat (first | (with_reducible first | exact HB.out | apply below_alloc | apply pw_below_drewN | apply below_drew1 | refine below_set ?_ GE169.out) | exact HB.out)) hb); clear BK169; clear HB; have BK169 := n0_; have HB := n1_; clear n0_ n1_; (try clear hb); (try clear hb2); (try clear hk); (try clear hi); have hcz22_0 : w21.cell? ⟨gb169, 0, none⟩ = some (.int .i64 a0_0) := (blk_cell BK169.out 0).trans rfl; have hcz22_1 : w21.cell? ⟨gb169, 1, none⟩ = some (.int .i64 a0_1) := (blk_cell BK169.out 1).trans rfl; have hcz22_2 : w21.cell? ⟨gb169, 2, none⟩ = some (.slice A0_2 l0_2.length c0_2) := (blk_cell BK169.out 2).trans rfl; have hfz22_0 := blk_frozen BK169.out 0; have hfz22_1 := blk_frozen BK169.out 1; have hfz22_2 := blk_frozen BK169.out 2) | (go_at_call 76; (with_reducible refine (spec_avCorner.calls a0_0 a0_1 _ _ l0_2 _ _ l1 false _ ?side1 ?side2 ?side3 ?side4 A5.out).mono ?_); (case side1 => repeat (first | exact (Kd.C_below HR0_2.out HB.out) | (with_reducible refine Kd.C_alloc ?_ _) | (with_reducible refine Kd.C_drewN ?_ _) | (with_reducible refine Kd.C_drew ?_))); (case side2 => exact HC0_2.out); (case side3 => repeat (first | exact (Kd.C_below HR1.out HB.out) | (with_reducible refine Kd.C_alloc ?_ _) | (with_reducible refine Kd.C_drewN ?_ _) | (with_reducible refine Kd.C_drew ?_))); (case side4 => exact HC1.out); rintro e w23 ⟨rfl, hb⟩; have n0_ := Aside0.mk (blk_below (g := gb169) (o := .cells #[.int .i64 a0_0, .int .i64 a0_1, .slice A0_2 l0_2.length c0_2] 30 (0, 0)) (by (with_reducible repeat (first | refine blk_drewN ?_ _ | refine blk_drew ?_ | refine blk_alloc ?_ _)); exact BK169.out) hb); have n1_ := Aside0.mk (below_step (by repeat (first | (with_reducible first | exact HB.out | apply below_alloc | apply pw_below_drewN | apply below_drew1 | refine below_set ?_ GE169.out) | exact HB.out)) hb); clear BK169; clear HB; have BK169 := n0_; have HB := n1_; clear n0_ n1_; (try clear hb); (try clear hb2); (try clear hk); (try clear hi)))
   go_ret3
   exact ⟨_, by first | rfl | (simp [errW_none, errW_some] <;> rfl) | (simp [*, errW_none, errW_some] <;> rfl), by first | exact Kd.R_nil _ _ _ _ _ | exact Kd.N_nil _ _ _ _ _ | exact Kd.V_nil _ _ _ _ _ | exact Kd.Q_nil _ _ _ _ _ | exact Kd.S_nil _ _ _ _ _, by repeat (first | (with_reducible first | exact HB.out | apply below_alloc | apply pw_below_drewN | apply below_drew1 | refine below_set ?_ GE169.out) | exact HB.out)⟩
 ·replace c4 := Bool.eq_false_iff.mpr c4
  subst c4
  have H1 : (some (([] : List Int), 0, false)) = some (r1, r2, r3) := by rw [if_neg (show ¬ (false = true) by decide)] at H; exact H
  clear H
  have H := H1
  clear H1
  simp only [Option.some.injEq, Prod.mk.injEq] at H
  obtain ⟨rfl, rfl, rfl⟩ := H
  go_enter Try.func44, Try.ntmps44
  go_wp2_with (first | ((with_reducible refine gate_dst (N := 2) rfl ?_); refine box_event ?hg (N := 2) ?hd (cs := #[.int .i64 a0_0, .int .i64 a0_1, .slice A0_2 l0_2.length c0_2]) (t := 30) ?hr ?_; (case hd => rfl); (case hg => rfl); (case hr => first | (go_simp; done) | (go_simp; rfl)); intro gb169 hg w24 hbox hb; have n0_ := Aside0.mk (below_step (by repeat (first | (with_reducible first | exact HB.out | apply below_alloc | apply pw_below_drewN | apply below_drew1) | exact HB.out)) hb); have n1_ := Aside0.mk (hbox); have n2_ := Aside0.mk ((by rw [hg]; exact (below_size (by repeat (first | (with_reducible first | exact HB.out | apply below_alloc | apply pw_below_drewN | apply below_drew1) | exact HB.out))) : w.heap.size ≤ gb169)); have n3_ := Aside0.mk ((by rw [hg]; exact (below_size (by repeat (first | (with_reducible first | exact HB.out | apply below_alloc | apply pw_below_drewN | apply below_drew1) | exact HB.out))) : w.heap.size ≤ gb169)); clear HB; have HB := n0_; have BK169 := n1_; have GW169 := n2_; have GE169 := n3_; clear n0_ n1_ n2_ n3_; clear hb hbox hg; have hcz25_0 : w24.cell? ⟨gb169, 0, none⟩ = some (.int .i64 a0_0) := (blk_cell BK169.out 0).trans rfl; have hcz25_1 : w24.cell? ⟨gb169, 1, none⟩ = some (.int .i64 a0_1) := (blk_cell BK169.out 1).trans rfl; have hcz25_2 : w24.cell? ⟨gb169, 2, none⟩ = some (.slice A0_2 l0_2.length c0_2) := (blk_cell BK169.out 2).trans rfl; have hfz25_0 := blk_frozen BK169.out 0; have hfz25_1 := blk_frozen BK169.out 1; have hfz25_2 := blk_frozen BK169.out 2) | ((with_reducible refine gate_callee (f := 67) rfl ?_); refine goesL_ (some 10) rfl rfl Try.func67 (by kernel_rfl) rfl #[.agg #[.int .i64 a0_0, .int .i64 a0_1, .slice A0_2 l0_2.length c0_2]] rfl (by (try simp only [List.map_toArray, List.map_cons, List.map_nil]); first | done | rfl | (simp only [List.length_drop, List.length_take]; rfl)) ?_; (with_reducible refine (spec_avGood.calls k a0_0 a0_1 _ _ l0_2 false _ ?side1 ?side2 A3.out).mono ?_); (case side1 => repeat (first | exact (Kd.C_below HR0_2.out HB.out) | (with_reducible refine Kd.C_alloc ?_ _) | (with_reducible refine Kd.C_drewN ?_ _) | (with_reducible refine Kd.C_drew ?_))); (case side2 => exact HC0_2.out); rintro e w26 ⟨rfl, hb⟩; refine ⟨_, rfl, ?_⟩; have n0_ := Aside0.mk (blk_below (g := gb169) (o := .cells #[.int .i64 a0_0, .int .i64 a0_1, .slice A0_2 l0_2.length c0_2] 30 (0, 0)) (by (with_reducible repeat (first | refine blk_drewN ?_ _ | refine blk_drew ?_ | refine blk_alloc ?_ _)); exact BK169.out) hb); have n1_ := Aside0.mk (below_step (by repeat (first | (with_reducible first | exact HB.out | apply below_alloc | apply pw_below_drewN | apply below_drew1 | refine below_set ?_ GE169.out) | exact HB.out)) hb); clear BK169; clear HB; have BK169 := n0_; have HB := n1_; clear n0_ n1_; (try clear hb); (try clear hb2); (try clear hk); (try clear hi)))
  go_ret3
  exact ⟨_, by first | rfl | (simp [errW_none, errW_some] <;> rfl) | (simp [*, errW_none, errW_some] <;> rfl), by first | exact Kd.R_nil _ _ _ _ _ | exact Kd.N_nil _ _ _ _ _ | exact Kd.V_nil _ _ _ _ _ | exact Kd.Q_nil _ _ _ _ _ | exact Kd.S_nil _ _ _ _ _, by repeat (first | (with_reducible first | exact HB.out | apply below_alloc | apply pw_below_drewN | apply below_drew1 | refine below_set ?_ GE169.out) | exact HB.out)⟩
def impl_within.f (a0 : Int) (a1 : Int) (a2 : Int) : Option (Bool) := if a0 ≥ a1 then (some (decide (a0 ≤ a2))) else (some false)
set_option maxHeartbeats 8000000 in
set_option maxRecDepth 100000 in
theorem impl_within.calls (a0 : Int) (a1 : Int) (a2 : Int) (r : Bool) (w : World) (h : impl_within.f a0 a1 a2 = some r) :
  Calls Try.prog 101 #[.int .i64 a0, .int .i64 a1, .int .i64 a2] w fun e w' => e = .returned (.bool r) ∧ Drawn0 w w' := by
 have H : (if a0 ≥ a1 then (some (decide (a0 ≤ a2))) else (some false)) = some r := h
 clear h
 by_cases c4 : a0 ≥ a1
 ·rw [if_pos c4] at H
  have c4b0 : decide (a1 ≤ a0) = true := decide_eq_true c4
  clear c4
  obtain rfl := Option.some.inj H
  go_enter Try.func101, Try.ntmps101
  go_wp2
  go_ret
  exact ⟨by first | rfl | (simp; done) | (simp [*]; done), by repeat (first | exact Drawn0.refl _ | apply Drawn0.step)⟩
 ·rw [if_neg c4] at H
  have c4b0 : decide (a1 ≤ a0) = false := decide_eq_false c4
  clear c4
  obtain rfl := Option.some.inj H
  go_enter Try.func101, Try.ntmps101
  go_wp2
  go_ret
  exact ⟨by first | rfl | (simp; done) | (simp [*]; done), by repeat (first | exact Drawn0.refl _ | apply Drawn0.step)⟩
def cmp_Or_int.l0 : Nat → Int → List Int → Int → Int → Option (Int)
 | 0, _, _, _, _ => none
 | k + 1, x3, x6, x7, x8 => if x8 < x7 then (if 0 ≤ x8 then (if x8 < (x6.length : Int) then (if (rd x6 x8) = x3 then (cmp_Or_int.l0 k x3 x6 x7 (wrap64 (x8 + 1))) else (some (rd x6 x8))) else (none)) else (none)) else (some x3)
def cmp_Or_int.f (k : Nat) (l0 : List Int) : Option (Int) := cmp_Or_int.l0 k 0 l0 (l0.length : Int) 0
theorem cmp_Or_int.mono_l : ∀ k, (∀ y0 y1 y2 y3, LeO (cmp_Or_int.l0 k y0 y1 y2 y3) (cmp_Or_int.l0 (k + 1) y0 y1 y2 y3))
 | 0 => fun _ _ _ _ r h => by simp [cmp_Or_int.l0] at h
 | k + 1 => by
  have ih0 := cmp_Or_int.mono_l k
  ·intro y0 y1 y2 y3
   unfold cmp_Or_int.l0
   repeat' first
   | (with_reducible exact ih0 _ _ _ _)
   | (with_reducible exact LeO.refl _)
   | (with_reducible exact LeO.none _)
   | (with_reducible refine LeO.ite ?_ ?_)
   | (with_reducible refine LeO.bind ?_ (fun _ => ?_))
   | exact ih0 _ _ _ _
   | exact LeO.none _
   | refine LeO.ite ?_ ?_
   | refine LeO.bind ?_ (fun _ => ?_)
theorem cmp_Or_int.mono : ∀ a0 k, LeO (cmp_Or_int.f k a0) (cmp_Or_int.f (k + 1) a0) := by
 intro a0 k
 have ih0 := cmp_Or_int.mono_l k
 unfold cmp_Or_int.f
 repeat' first
   | (with_reducible exact ih0 _ _ _ _)
   | (with_reducible exact LeO.refl _)
   | (with_reducible exact LeO.none _)
   | (with_reducible refine LeO.ite ?_ ?_)
   | (with_reducible refine LeO.bind ?_ (fun _ => ?_))
   | exact ih0 _ _ _ _
   | exact LeO.none _
   | refine LeO.ite ?_ ?_
   | refine LeO.bind ?_ (fun _ => ?_)
set_option maxHeartbeats 8000000 in
set_option maxRecDepth 100000 in
theorem cmp_Or_int.calls (k : Nat) (A0 : Option Addr) (c0 : Nat) (l0 : List Int) (r : Int) (w : World) (hr0 : Kd.C (Kd.int .i64) w A0 l0.length l0) (hc0 : l0.length ≤ c0) (h : cmp_Or_int.f k l0 = some r) :
  Calls Try.prog 123 #[.slice A0 l0.length c0] w fun e w' => e = .returned (.int .i64 r) ∧ Drawn0 w w' := by
 have HR0 := Aside0.mk hr0
 have HC0 := Aside0.mk hc0
 clear hr0 hc0
 have H : (cmp_Or_int.l0 k 0 l0 (l0.length : Int) 0) = some r := h
 clear h
 have H' := Aside0.mk H
 clear H
 go_enter Try.func123, Try.ntmps123
 go_wp2
 go_loopg [8] k (fun kq v8 w' => ∃ (x8_1 : Int), v8 = .int .i64 x8_1 ∧ Aside0 (cmp_Or_int.l0 kq 0 l0 (l0.length : Int) x8_1 = some r) ∧ Aside0 (kq ≤ k) ∧ Drawn0 w w')
 case atStart => exact ⟨(0), (by first | rfl | (simp; done) | (simp [*]; done)), H', ⟨Nat.le_refl _⟩, by repeat (first | exact Drawn0.refl _ | apply Drawn0.step)⟩
 case round =>
  clear H'
  try clear c1
  obtain ⟨x8_1, rfl, HA, HK1, ⟨m1, rfl⟩⟩ := hrel
  cases gk with
  | zero => exact absurd HA.out (by simp [cmp_Or_int.l0])
  | succ k1 =>
   have H := HA.out
   clear HA
   simp only [cmp_Or_int.l0] at H
   by_cases c2 : x8_1 < (l0.length : Int)
   ·rw [if_pos c2] at H
    have c2b0 : decide (x8_1 < (l0.length : Int)) = true := decide_eq_true c2
    clear c2
    by_cases c3 : 0 ≤ x8_1
    ·rw [if_pos c3] at H
     have c3b0 : decide (0 ≤ x8_1) = true := decide_eq_true c3
     clear c3
     by_cases c4 : x8_1 < (l0.length : Int)
     ·rw [if_pos c4] at H
      have c4b0 : decide (x8_1 < (l0.length : Int)) = true := decide_eq_true c4
      clear c4
      by_cases c5 : (rd l0 x8_1) = 0
      ·rw [if_pos c5] at H
       have c5b0 : ((rd l0 x8_1) == 0) = true := beq_iff_eq.mpr c5
       have c5b1 : ((rd l0 x8_1) != 0) = false := bne_eq_false_iff_eq.mpr c5
       clear c5
       have H' := Aside0.mk H
       clear H
       have p177 : 0 ≤ (x8_1 : Int) := of_decide_eq_true (by first | (with_reducible assumption) | assumption)
       have q177 : x8_1 < (l0.length : Int) := of_decide_eq_true (by first | (with_reducible assumption) | assumption)
       obtain ⟨ad177, e177, hx177_0⟩ := Kd.at_int HR0.out x8_1 p177 q177
       cases e177
       replace p177 := eq_true p177
       replace q177 := eq_true q177
       go_wp2
       go_roundg k1
       case measure => have := HK1.out; omega
       case rel => exact ⟨(wrap64 (x8_1 + 1)), (by first | rfl | (simp; done) | (simp [*]; done)), H', ⟨by have := HK1.out; omega⟩, by repeat (first | exact Drawn0.refl _ | apply Drawn0.step)⟩
      ·rw [if_neg c5] at H
       have c5b0 : ((rd l0 x8_1) == 0) = false := beq_eq_false_iff_ne.mpr c5
       have c5b1 : ((rd l0 x8_1) != 0) = true := bne_iff_ne.mpr c5
       obtain rfl := Option.some.inj H
       have p177 : 0 ≤ (x8_1 : Int) := of_decide_eq_true (by first | (with_reducible assumption) | assumption)
       have q177 : x8_1 < (l0.length : Int) := of_decide_eq_true (by first | (with_reducible assumption) | assumption)
       obtain ⟨ad177, e177, hx177_0⟩ := Kd.at_int HR0.out x8_1 p177 q177
       cases e177
       replace p177 := eq_true p177
       replace q177 := eq_true q177
       go_wp2
       go_ret
       exact ⟨by first | rfl | (simp; done) | (simp [*]; done), by repeat (first | exact Drawn0.refl _ | apply Drawn0.step)⟩
     ·rw [if_neg c4] at H
      exact absurd H (by simp)
    ·rw [if_neg c3] at H
     exact absurd H (by simp)
   ·rw [if_neg c2] at H
    have c2b0 : decide (x8_1 < (l0.length : Int)) = false := decide_eq_false c2
    clear c2
    obtain rfl := Option.some.inj H
    go_wp2
    go_ret
    exact ⟨by first | rfl | (simp; done) | (simp [*]; done), by repeat (first | exact Drawn0.refl _ | apply Drawn0.step)⟩
def cmp_isNaN_int.f (a0 : Int) : Option (Bool) := some (a0 != a0)
set_option maxHeartbeats 8000000 in
set_option maxRecDepth 100000 in
theorem cmp_isNaN_int.calls (a0 : Int) (r : Bool) (w : World) (h : cmp_isNaN_int.f a0 = some r) :
  Calls Try.prog 140 #[.int .i64 a0] w fun e w' => e = .returned (.bool r) ∧ Drawn0 w w' := by
 have H : (some (a0 != a0)) = some r := h
 clear h
 obtain rfl := Option.some.inj H
 go_enter Try.func140, Try.ntmps140
 go_wp2
 go_ret
 exact ⟨by first | rfl | (simp; done) | (simp [*]; done), by repeat (first | exact Drawn0.refl _ | apply Drawn0.step)⟩
end Go.Proofs.Ytohpaddcfcgmbaa.PFnExactFarthestCorner
