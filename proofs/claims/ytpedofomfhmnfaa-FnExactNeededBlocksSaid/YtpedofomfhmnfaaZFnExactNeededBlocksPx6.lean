/- Cut by wip/cut.py out of the texts of this claim (printed by the kit's printer, or this session's own): what the row's theorem does not reach is struck. Not trusted: Lean checks it. -/
import Derived.Test.YtpedofomfhmnfaaZFnExactNeededBlocksPx0
import Derived.Test.YtpedofomfhmnfaaZFnExactNeededBlocksPx5
namespace Go.Proofs.Ytpedofomfhmnfaa.PFnExactNeededBlocks
open Go.RowKit Go.Proofs.YtpedofomfhmnfaaW.PrintWords Go.Proofs.YtpedofomfhmnfaaW.PrintLast Go.Proofs.YtpedofomfhmnfaaW.PrintMore
attribute [local go_sem] max2_int min2_int max_two min_two max_three min_three max_four min_four
set_option linter.unusedVariables false
set_option linter.unusedSimpArgs false
def spec_avFar.sg : Nat → Int
 | 0 => 101
 | 1 => 110
 | 2 => 115
 | _ => 119
def spec_avFar.step (k : Nat) (W H : Int) (l : List S58) (at_ : Int) (s : Int) (st : List Int × List Int) : Option (List Int × List Int) :=
 (spec_avStep.f k W H l (at_ / H) (at_ % H) s).bind fun r => if r.2.2 = true then (if 0 ≤ wrap64 (wrap64 (r.1 * H) + r.2.1) ∧ wrap64 (wrap64 (r.1 * H) + r.2.1) < st.1.length ∧ st.2.length < 1000000 then (if rd st.1 (wrap64 (wrap64 (r.1 * H) + r.2.1)) < 0 then some (st.1.set (wrap64 (wrap64 (r.1 * H) + r.2.1)).toNat (wrap64 (rd st.1 at_ + 1)), st.2 ++ [wrap64 (wrap64 (r.1 * H) + r.2.1)]) else some st) else none) else some st
def spec_avFar.steps (k : Nat) (W H : Int) (l : List S58) (at_ : Int) : Nat → List Int × List Int → Option (List Int × List Int)
 | 0, st => some st
 | j + 1, st => (spec_avFar.steps k W H l at_ j st).bind fun s => spec_avFar.step k W H l at_ (spec_avFar.sg j) s
def spec_avFar.l1 (W H : Int) (l : List S58) : Nat → Nat → List Int × List Int → Option (List Int)
 | 0, _, _ => none
 | k + 1, i, st => if i < st.2.length then (if 0 ≤ rd st.2 i ∧ rd st.2 i < st.1.length then (spec_avFar.steps k W H l (rd st.2 i) 4 st).bind fun s => spec_avFar.l1 W H l k (i + 1) s else none) else some st.1
def spec_avFar.ok (W H : Int) (l1 : List Int) : Bool := decide (1 ≤ W ∧ W ≤ 8) && (decide (1 ≤ H ∧ H ≤ 8) && (decide (l1.length = 2) && (decide (0 ≤ rd l1 0 ∧ rd l1 0 ≤ W - 1) && decide (0 ≤ rd l1 1 ∧ rd l1 1 ≤ H - 1))))
def spec_avFar.f (k : Nat) (a0_0 : Int) (a0_1 : Int) (l0_2 : List S58) (l1 : List Int) : Option (List Int) := if spec_avFar.ok a0_0 a0_1 l1 = true then spec_avFar.l1 a0_0 a0_1 l0_2 k 0 ((List.replicate (a0_0 * a0_1).toNat (-1)).set (rd l1 0 * a0_1 + rd l1 1).toNat 0, [rd l1 0 * a0_1 + rd l1 1]) else none
theorem spec_avFar.steps_mono (k : Nat) (W H : Int) (l : List S58) (at_ : Int) : ∀ j st, LeO (spec_avFar.steps k W H l at_ j st) (spec_avFar.steps (k + 1) W H l at_ j st)
 | 0, _ => LeO.refl _
 | j + 1, st => LeO.bind (spec_avFar.steps_mono k W H l at_ j st) (fun _ => LeO.bind (spec_avStep.mono _ _ _ _ _ _ _) (fun _ => LeO.refl _))
theorem spec_avFar.l1_mono (W H : Int) (l : List S58) : ∀ k i st, LeO (spec_avFar.l1 W H l k i st) (spec_avFar.l1 W H l (k + 1) i st)
 | 0, _, _ => LeO.none _
 | k + 1, i, st => LeO.ite (LeO.ite (LeO.bind (spec_avFar.steps_mono k W H l _ _ _) (fun s => spec_avFar.l1_mono W H l k (i + 1) s)) (LeO.refl _)) (LeO.refl _)
theorem spec_avFar.mono : ∀ a0 a1 a2 a3 k, LeO (spec_avFar.f k a0 a1 a2 a3) (spec_avFar.f (k + 1) a0 a1 a2 a3) := fun a0 a1 a2 a3 k => LeO.ite (spec_avFar.l1_mono _ _ _ k _ _) (LeO.refl _)
theorem spec_avFar.steps_len {k : Nat} {W H : Int} {l : List S58} {at_ : Int} : ∀ {j : Nat} {st s : List Int × List Int}, spec_avFar.steps k W H l at_ j st = some s → s.1.length = st.1.length
 | 0, st, s, h => by cases h; rfl
 | j + 1, st, s, h => by
  obtain ⟨s1, h1, h2⟩ := Option.bind_eq_some_iff.mp h
  have e := spec_avFar.steps_len h1
  rw [← e]
  obtain ⟨r, _, h4⟩ := Option.bind_eq_some_iff.mp h2
  split at h4
  ·split at h4
   ·split at h4
    ·cases h4; simp
    ·cases h4; rfl
   ·cases h4
  ·cases h4; rfl
theorem spec_avFar.steps_at {k : Nat} {W H : Int} {l : List S58} {at_ : Int} {n : Nat} {st s : List Int × List Int} (h : spec_avFar.steps k W H l at_ n st = some s) : ∀ d j : Nat, j + d = n → ∃ s1, spec_avFar.steps k W H l at_ j st = some s1
 | 0, j, hj => ⟨s, by rw [show j = n by omega]; exact h⟩
 | d + 1, j, hj => by
  obtain ⟨s1, h1⟩ := spec_avFar.steps_at h d (j + 1) (by omega)
  obtain ⟨s2, h2, _⟩ := Option.bind_eq_some_iff.mp h1
  exact ⟨s2, h2⟩
structure spec_avFar.AV (w wr : World) (W H : Int) (V : Value) (far : List Int) (v : Value) (q : List Int) : Prop where
  box : wr.heap[w.heap.size]? = some (.cells #[.int .i64 W, .int .i64 H, V] 31 (0, 0))
  far : wr.heap[w.heap.size + 1]? = some (.cells (far.map (Value.int .i64)).toArray 3 (0, 0))
  row : Kd.R (Kd.int .i64) 3 wr w.heap.size (fun k_ => k_ ≠ w.heap.size + 1) v q
  bel : Below w.heap.size w wr
theorem spec_avFar.AV.below {w wr w1 : World} {W H : Int} {V v : Value} {far q : List Int} (h : spec_avFar.AV w wr W H V far v q) (hb : Below wr.heap.size wr w1) : spec_avFar.AV w w1 W H V far v q :=
 ⟨(hb.block _ (zd h.box)).trans h.box, (hb.block _ (zd h.far)).trans h.far, Kd.qv h.row hb, zi h.bel h.bel.size hb⟩
theorem spec_avFar.AV.drewN {w wr : World} {W H : Int} {V v : Value} {far q : List Int} (h : spec_avFar.AV w wr W H V far v q) (n : Nat) : spec_avFar.AV w (wr.drewN n) W H V far v q := h.below (qa (Below.refl _ _) n)
theorem spec_avFar.AV.cell {w wr : World} {W H : Int} {V v : Value} {far q : List Int} (h : spec_avFar.AV w wr W H V far v q) {i : Nat} (hi : i < far.length) : wr.cell? ⟨w.heap.size + 1, i, none⟩ = some (.int .i64 (rd far i)) := by
 rw [qc h.far]
 simp [rd, hi]
theorem spec_avFar.AV.set {w wr : World} {W H : Int} {V v : Value} {far q : List Int} (h : spec_avFar.AV w wr W H V far v q) (i : Nat) (x : Int) : spec_avFar.AV w (wr.setCell ⟨w.heap.size + 1, i, none⟩ (.int .i64 x)) W H V (far.set i x) v q := by
 refine ⟨zk h.box (by simp) _, ?_, Kd.R_step h.row (fun k hk _ => Below.heap_setCell wr _ _ k (by simpa using hk)), h.bel.setCell (by simp) _⟩
 rw [blk_set h.far]
 congr 3
 apply Array.ext'
 simp [List.map_set]
theorem spec_avFar.AV.app {w wr w1 : World} {W H : Int} {V v v1 : Value} {far q ys : List Int} (h : spec_avFar.AV w wr W H V far v q) (ho : Kd.R (Kd.int .i64) 3 w1 w.heap.size (fun k_ => k_ ≠ w.heap.size + 1) v1 ys) (hb : Below w.heap.size w w1) (hg : wr.grownBy w1 v.ownBlock) : spec_avFar.AV w w1 W H V far v1 ys :=
 ⟨zq h.box hg (Kd.R_ne h.row h.box (by decide)), zq h.far hg (fun e => (Kd.R_bound h.row).1 _ e.symm |>.1 rfl), ho, hb⟩
def spec_avFar.fill (N j : Nat) : List Int := List.replicate j (-1) ++ List.replicate (N - j) 0
theorem spec_avFar.fill_set {N j : Nat} (h : j < N) : (spec_avFar.fill N j).set j (-1) = spec_avFar.fill N (j + 1) := by
 unfold spec_avFar.fill
 rw [List.set_append_right _ _ (by simp), List.length_replicate, Nat.sub_self, show N - j = (N - (j + 1)) + 1 by omega, List.replicate_succ, sB_, List.replicate_succ', List.append_assoc]
 rfl
theorem spec_avFar.fill_end (N : Nat) : spec_avFar.fill N N = List.replicate N (-1) := by simp [spec_avFar.fill]
theorem spec_avFar.fill_len {N j : Nat} (h : j ≤ N) : (spec_avFar.fill N j).length = N := by simp [spec_avFar.fill]; omega
theorem spec_avFar.AV.start (w : World) (W H : Int) (V : Value) (N : Nat) : spec_avFar.AV w ((w.alloc (.cells #[.int .i64 W, .int .i64 H, V] 31)).alloc (.cells (madeCells #[.int .i64 0] N) 3)) W H V (spec_avFar.fill N 0) (.slice none 0 0) [] := by
 refine ⟨qg (blk_new w _) _, ?_, Kd.R_nil _ _ _ _ _, qd (qd (Below.refl _ _) _) _⟩
 have h := blk_new (w.alloc (.cells #[.int .i64 W, .int .i64 H, V] 31)) (.cells (madeCells #[.int .i64 0] N) 3)
 have e : madeCells #[.int .i64 0] N = ((spec_avFar.fill N 0).map (Value.int .i64)).toArray := by
  apply Array.ext
  ·simp [madeCells, spec_avFar.fill]
  ·intro i h1 h2
   simp [madeCells, spec_avFar.fill, Nat.mod_one]
 rw [e] at h ⊢
 simpa using h
theorem spec_avFar.two {w : World} {A : Option Addr} {n : Nat} {x y : Int} (h : Kd.C (Kd.int .i64) w A n [x, y]) : ∃ ad, A = some ad ∧ n = 2 ∧ w.cell? ad = some (.int .i64 x) ∧ w.cell? ⟨ad.block, ad.off + 1, none⟩ = some (.int .i64 y) := by
 obtain rfl : n = 2 := h.1.symm
 obtain ⟨ad, rfl, hx⟩ := Kd.jc h 0 (by decide) (by decide)
 obtain ⟨ad', e', hy⟩ := Kd.jc h 1 (by decide) (by decide)
 obtain rfl := Option.some.inj e'
 refine ⟨ad, rfl, rfl, ?_, ?_⟩
 ·have h0 : w.cell? (ad.add 0) = some (.int .i64 x) := hx
  rwa [show ad.add 0 = ad by simp [Addr.add]] at h0
 ·have h0 : w.cell? (ad.add 1) = some (.int .i64 y) := hy
  rwa [show ad.add 1 = ⟨ad.block, ad.off + 1, none⟩ by simp [Addr.add]] at h0
theorem spec_avFar.AV.lit {w wr : World} {W H : Int} {V : Value} {far : List Int} (h : spec_avFar.AV w wr W H V far (.slice none 0 0) []) (x : Int) : spec_avFar.AV w (wr.alloc (.cells #[.int .i64 x] 3)) W H V far (.slice (some ⟨wr.heap.size, 0, none⟩) 1 1) [x] := by
 have h1 := h.below (qd (Below.refl wr.heap.size wr) (.cells #[.int .i64 x] 3))
 refine ⟨h1.box, h1.far, Kd.R_of_own (enc := Value.int .i64) (h1 := fun _ => rfl) (own_lit_of (enc := Value.int .i64) wr w.heap.size 3 [x] h.bel.size (by simp)) ?_, h1.bel⟩
 intro k hk
 have h2 := zd h.far
 have : wr.heap.size = k := by simpa [Value.ownBlock] using hk
 omega
theorem spec_avFar.AV.len {w wr : World} {W H : Int} {V : Value} {far q : List Int} {v : Value} (h : spec_avFar.AV w wr W H V far v q) : ∃ A c, v = .slice A q.length c := by
 obtain ⟨A, c, e⟩ := Kd.zn h.row
 exact ⟨A, c, e⟩
theorem spec_avFar.step_cases {k : Nat} {W H : Int} {l : List S58} {at_ s : Int} {st s' : List Int × List Int} (h : spec_avFar.step k W H l at_ s st = some s') : ∃ u v o, spec_avStep.f k W H l (at_ / H) (at_ % H) s = some (u, v, o) ∧
  (o = false ∧ s' = st ∨ o = true ∧ ∃ p : Nat, wrap64 (wrap64 (u * H) + v) = (p : Int) ∧ p < st.1.length ∧ st.2.length < 1000000 ∧ (rd st.1 (p : Int) < 0 ∧ s' = (st.1.set p (wrap64 (rd st.1 at_ + 1)), st.2 ++ [(p : Int)]) ∨ ¬ rd st.1 (p : Int) < 0 ∧ s' = st)) := by
 obtain ⟨⟨u, v, o⟩, h1, h2⟩ := Option.bind_eq_some_iff.mp h
 refine ⟨u, v, o, h1, ?_⟩
 simp only at h2
 cases o with
 | false => left; exact ⟨rfl, by simpa using h2.symm⟩
 | true =>
  right
  rw [if_pos rfl] at h2
  split at h2
  ·rename_i hc
   obtain ⟨p, hp⟩ : ∃ p : Nat, wrap64 (wrap64 (u * H) + v) = (p : Int) := ⟨(wrap64 (wrap64 (u * H) + v)).toNat, by omega⟩
   rw [hp] at hc h2
   refine ⟨rfl, p, hp, by omega, hc.2.2, ?_⟩
   split at h2
   ·left; exact ⟨by assumption, by simpa using h2.symm⟩
   ·right; exact ⟨by assumption, by simpa using h2.symm⟩
  ·cases h2
def spec_avFar.BY (wr : World) (g : Nat) : Prop := wr.heap[g]? = some (.cells #[.int .u8 101, .int .u8 110, .int .u8 115, .int .u8 119] 5 (4, 5))
theorem spec_avFar.blk_new' (w : World) (o : Obj) : (w.alloc o).heap[w.heap.size]? = some o := by
 show (w.heap.push o)[w.heap.size]? = _
 simp
theorem spec_avFar.BY.cell {wr : World} {g : Nat} (h : spec_avFar.BY wr g) {i : Nat} (hi : i < 4) : wr.cell? ⟨g, i, none⟩ = some (.int .u8 (spec_avFar.sg i)) := by
 rw [cell_of_row wr g i _ _ _ h]
 rcases (show i = 0 ∨ i = 1 ∨ i = 2 ∨ i = 3 by omega) with rfl | rfl | rfl | rfl <;> rfl
theorem spec_avFar.BY.below {wr w1 : World} {g : Nat} (h : spec_avFar.BY wr g) (hb : Below wr.heap.size wr w1) : spec_avFar.BY w1 g := (hb.block _ (zd h)).trans h
theorem spec_avFar.BY.set {w wr : World} {W H : Int} {V v : Value} {far q : List Int} {g : Nat} (h : spec_avFar.BY wr g) (hv : spec_avFar.AV w wr W H V far v q) (i : Nat) (x : Value) : spec_avFar.BY (wr.setCell ⟨w.heap.size + 1, i, none⟩ x) g := by
 refine (Below.heap_setCell wr _ x g ?_).trans h
 rintro rfl
 have h1 := hv.far
 unfold spec_avFar.BY at h
 rw [h] at h1
 simp at h1
theorem spec_avFar.BY.app {w wr w1 : World} {W H : Int} {V v : Value} {far q : List Int} {g : Nat} (h : spec_avFar.BY wr g) (hv : spec_avFar.AV w wr W H V far v q) (hg : wr.grownBy w1 v.ownBlock) : spec_avFar.BY w1 g := by
 refine (hg.block g (zd h) ?_).trans h
 intro e
 obtain ⟨cells, h1⟩ := Kd.R_typed hv.row g e.symm
 unfold spec_avFar.BY at h
 rw [h] at h1
 simp at h1
theorem spec_avFar.AV.res {w wr : World} {W H : Int} {V v : Value} {far q : List Int} {n : Nat} (h : spec_avFar.AV w wr W H V far v q) (hn : far.length = n) (hm : n ≤ 64) : Kd.R (Kd.int .i64) 3 wr w.heap.size (fun _ => True) (.slice (some ⟨w.heap.size + 1, 0, none⟩) n n) far := by
 subst hn
 refine Kd.R_of_own (enc := Value.int .i64) (h1 := fun _ => rfl) ⟨by simp [encs], .inr ⟨w.heap.size + 1, far.length, _, rfl, by omega, h.far, Nat.le_refl _, by unfold maxLen; omega, by simp, ?_⟩⟩ (fun _ _ => trivial)
 simp [encs]
 exact List.take_of_length_le (by simp)
theorem spec_avFar.info : (Try.prog.info? 3).map (fun i => (i.zero, i.size, i.bytes)) = some (some (.int .i64 0), 1, 8) := by kernel_rfl
set_option maxHeartbeats 4000000 in
set_option maxRecDepth 100000 in
theorem spec_avFar.calls (k : Nat) (a0_0 : Int) (a0_1 : Int) (A0_2 : Option Addr) (c0_2 : Nat) (l0_2 : List S58) (A1 : Option Addr) (c1 : Nat) (l1 : List Int) (r : List Int) (w : World) (hr0_2 : Kd.C k58 w A0_2 l0_2.length l0_2) (hc0_2 : l0_2.length ≤ c0_2) (hr1 : Kd.C (Kd.int .i64) w A1 l1.length l1) (hc1 : l1.length ≤ c1) (h : spec_avFar.f k a0_0 a0_1 l0_2 l1 = some r) :
  Calls Try.prog 41 #[.agg #[.int .i64 a0_0, .int .i64 a0_1, .slice A0_2 l0_2.length c0_2], .slice A1 l1.length c1] w fun e w' => ∃ v0_ : Value, e = .returned (v0_) ∧ Kd.R (Kd.int .i64) 3 w' w.heap.size (fun _ => True) v0_ r ∧ Below w.heap.size w w' := by
 have hu := Try.underlying31
 unfold spec_avFar.f at h
 by_cases hk : spec_avFar.ok a0_0 a0_1 l1 = true
 ·rw [if_pos hk] at h
  unfold spec_avFar.ok at hk
  simp only [Bool.and_eq_true, decide_eq_true_eq] at hk
  obtain ⟨⟨hW1, hW8⟩, ⟨hH1, hH8⟩, hl2, ⟨hx0, hx1⟩, hy0, hy1⟩ := hk
  match l1, hl2 with
  | [x, y], _ =>
  change 0 ≤ x at hx0
  change x ≤ a0_0 - 1 at hx1
  change 0 ≤ y at hy0
  change y ≤ a0_1 - 1 at hy1
  change spec_avFar.l1 a0_0 a0_1 l0_2 k 0 ((List.replicate (a0_0 * a0_1).toNat (-1)).set (x * a0_1 + y).toNat 0, [x * a0_1 + y]) = some r at h
  show Calls Try.prog 41 #[.agg #[.int .i64 a0_0, .int .i64 a0_1, .slice A0_2 l0_2.length c0_2], .slice A1 2 c1] w _
  obtain ⟨N, hN⟩ : ∃ N : Nat, a0_0 * a0_1 = (N : Int) := ⟨(a0_0 * a0_1).toNat, by rw [Int.toNat_of_nonneg (Int.mul_nonneg (by omega) (by omega))]⟩
  have hN64 : N ≤ 64 := by
   have := Int.mul_le_mul hW8 hH8 (by omega) (by omega)
   omega
  have hxy : 0 ≤ x * a0_1 + y ∧ x * a0_1 + y < (N : Int) := by
   have h1 := Int.mul_nonneg hx0 (show 0 ≤ a0_1 by omega);have h2 := Int.mul_le_mul_of_nonneg_right hx1 (show 0 ≤ a0_1 by omega);rw [Int.sub_mul, hN] at h2
   omega
  have HH := Lib.hid h;have HC := Lib.hid hr0_2;have HA := Lib.hid hr1;have hmk := print_make (P := Try.prog) 25 3 .i64 8 Try.underlying25 spec_avFar.info (by omega) N (by omega);clear h hr0_2 hr1
  go_enter Try.func41, Try.ntmps41
  go_wp2
  have HV := Lib.hid (spec_avFar.AV.start w a0_0 a0_1 (.slice A0_2 l0_2.length c0_2) N)
  generalize ((w.alloc (.cells #[.int .i64 a0_0, .int .i64 a0_1, .slice A0_2 l0_2.length c0_2] 31)).alloc (.cells (madeCells #[.int .i64 0] N) 3)) = W1 at HV ⊢
  clear hmk
  go_loopw [24] (fun v wr => ∃ j : Nat, j ≤ N ∧ v = .int .i64 j ∧ spec_avFar.AV w wr a0_0 a0_1 (.slice A0_2 l0_2.length c0_2) (spec_avFar.fill N j) (.slice none 0 0) []) (fun v _ => N - (intOf v).toNat)
  case atStart => exact ⟨0, by omega, rfl, HV.out⟩
  case round =>
   obtain ⟨j, hj, rfl, hav⟩ := hrel;clear HV;have HV := Lib.hid hav
   by_cases hlt : j < N
   ·have hp0 : (0 : Int) ≤ (j : Int) := by omega
    have hp1 : (j : Int) < (N : Int) := by omega
    have hcell := hav.cell (show j < (spec_avFar.fill N j).length by rw [spec_avFar.fill_len hj]; exact hlt);have hfz := qj hav.far j;clear hav
    go_wp2
    go_roundw
    case rel => exact ⟨j + 1, by omega, by go_num, by have h1 := HV.out.set j (-1); rwa [spec_avFar.fill_set hlt] at h1⟩
    case measure => simp [intOf]; omega
   ·obtain rfl : j = N := by omega
    clear hav;obtain ⟨p, hp⟩ : ∃ p : Nat, x * a0_1 + y = (p : Int) := ⟨(x * a0_1 + y).toNat, by omega⟩;have hpN : p < j := by omega
    have e1 : IntKind.i64.wrap (x * a0_1) = x * a0_1 := IntWalk.i64_in _ (by omega);have e2 : IntKind.i64.wrap (x * a0_1 + y) = (p : Int) := by rw [hp]; exact IntWalk.i64_in _ (by omega)
    have hp0 : (0 : Int) ≤ (p : Int) := by omega
    have hp1 : (p : Int) < (j : Int) := by omega
    obtain ⟨ad, rfl, _, hcx, hcy⟩ := spec_avFar.two (Kd.qz HA.out HV.out.bel);have hcz1 : wr.cell? ⟨w.heap.size, 1, none⟩ = some (.int .i64 a0_1) := (qc HV.out.box 1).trans rfl;have hcell := HV.out.cell (show p < (spec_avFar.fill j j).length by rw [spec_avFar.fill_len hj]; exact hpN);have hfz := qj HV.out.far p;have hpE := Lib.hid hp;clear hp
    go_wp2
    go_still_tail 12, (by kernel_rfl)
    change wpList _ _ _ _ _ wr.drew
    generalize hwd : wr.drew = W2
    have HV2 := Lib.hid (show spec_avFar.AV w W2 a0_0 a0_1 (.slice A0_2 l0_2.length c0_2) (spec_avFar.fill j j) (.slice none 0 0) [] by rw [← hwd]; exact HV.out.below (zr (Below.refl _ _)));have hcell2 := HV2.out.cell (show p < (spec_avFar.fill j j).length by rw [spec_avFar.fill_len hj]; exact hpN);have hfz2 := qj HV2.out.far p;clear hwd hcell hfz hcx hcy hcz1 HV
    go_wp2
    have HV3 := Lib.hid (HV2.out.set p 0)
    generalize W2.setCell ⟨w.heap.size + 1, p, none⟩ (.int .i64 0) = W3 at HV3 ⊢
    obtain ⟨ad', ead, _, hcx, hcy⟩ := spec_avFar.two (Kd.qz HA.out HV3.out.bel);obtain rfl := Option.some.inj ead;have hcz1 : W3.cell? ⟨w.heap.size, 1, none⟩ = some (.int .i64 a0_1) := (qc HV3.out.box 1).trans rfl;clear hcell2 hfz2 HV2 ead
    go_still_tail 10, (by kernel_rfl)
    change wpList _ _ _ _ _ W3.drew
    generalize hwd : W3.drew = W4
    have HV4 := Lib.hid (show spec_avFar.AV w W4 a0_0 a0_1 (.slice A0_2 l0_2.length c0_2) ((spec_avFar.fill j j).set p 0) (.slice none 0 0) [] by rw [← hwd]; exact HV3.out.below (zr (Below.refl _ _)));clear hwd hcx hcy hcz1 HV3
    go_wp2
    have HV5 := Lib.hid (HV4.out.lit (p : Int))
    generalize W4.alloc (.cells #[.int .i64 (p : Int)] 3) = W5 at HV5 ⊢
    rw [spec_avFar.fill_end] at HV5;have HL := Lib.hid (show spec_avFar.l1 a0_0 a0_1 l0_2 k 0 ((List.replicate j (-1)).set p 0, [(p : Int)]) = some r by have h0 := HH.out; rw [hN, hpE.out] at h0; simpa using h0);clear HH HV4 e1 e2 hp0 hp1
    go_loopg [7, 8] k (fun kq v7 v8 wr => ∃ (i : Nat) (st : List Int × List Int), v8 = .int .i64 i ∧ Hid (spec_avFar.l1 a0_0 a0_1 l0_2 kq i st = some r) ∧ Hid (st.1.length = j) ∧ Hid (spec_avFar.AV w wr a0_0 a0_1 (.slice A0_2 l0_2.length c0_2) st.1 v7 st.2))
    case atStart => exact ⟨0, _, rfl, HL, Lib.hid (by simp), HV5⟩
    case round =>
     clear HL HV5;obtain ⟨i, st, rfl, HL, HN, HV⟩ := hrel;cases gk with
     | zero => exact absurd HL.out (by simp [spec_avFar.l1])
     | succ k1 =>
      have h := HL.out;clear HL
      simp only [spec_avFar.l1] at h
      obtain ⟨Aq, cq, eq⟩ := HV.out.len;subst eq
      have hql : st.2.length ≤ 9223372036854775807 := by
       have h0 := Kd.qw HV.out.row;have h1 := h0.2.2.2.1
       unfold maxLen at h1
       omega
      by_cases hi : i < st.2.length
      ·rw [if_pos hi] at h
       by_cases hat : 0 ≤ rd st.2 i ∧ rd st.2 i < st.1.length
       ·rw [if_pos hat] at h
        obtain ⟨s4, hs4, h⟩ := Option.bind_eq_some_iff.mp h;have HS4 := Lib.hid hs4;have HNX := Lib.hid h;clear hs4 h;have hi0 : (0 : Int) ≤ (i : Int) := by omega
        have hi1 : (i : Int) < (st.2.length : Int) := by omega
        obtain ⟨adq, eadq, hxq⟩ := Kd.jc (Kd.qw HV.out.row).2.2 (i : Int) hi0 hi1;subst eadq;rw [Int.toNat_natCast] at hxq;obtain ⟨at_, hat_⟩ : ∃ at_ : Int, at_ = rd st.2 (i : Int) := ⟨_, rfl⟩;rw [← hat_] at hat hxq HS4;have HAT := Lib.hid hat_;clear hat_;have kc := fun (w : World) (C : Array Value) (n c : Nat) => Lib.run_convert_bytes_const (P := Try.prog) w 65 5 C n c Try.underlying65 Try.underlying5
        go_wp2
        have HV1 := Lib.hid (HV.out.below (qd (Below.refl _ _) (.cells #[.int .u8 101, .int .u8 110, .int .u8 115, .int .u8 119] 5 (4, 5))));have HB1 := Lib.hid (show spec_avFar.BY (wr.alloc (.cells #[.int .u8 101, .int .u8 110, .int .u8 115, .int .u8 119] 5 (4, 5))) wr.heap.size from spec_avFar.blk_new' wr _);clear hxq kc HV
        generalize (wr.alloc (.cells #[.int .u8 101, .int .u8 110, .int .u8 115, .int .u8 119] 5 (4, 5))) = Wb at HV1 HB1 ⊢
        obtain ⟨gb, hgb⟩ : ∃ gb, gb = wr.heap.size := ⟨_, rfl⟩;rw [← hgb] at HB1 ⊢;clear hgb
        go_loopw [7, 67] (fun v7 v67 wr => ∃ (m : Nat) (s : List Int × List Int), m ≤ 4 ∧ v67 = .int .i64 m ∧ Hid (spec_avFar.steps k1 a0_0 a0_1 l0_2 at_ m st = some s) ∧ Hid (spec_avFar.AV w wr a0_0 a0_1 (.slice A0_2 l0_2.length c0_2) s.1 v7 s.2) ∧ Hid (spec_avFar.BY wr gb)) (fun _ v67 _ => 4 - (intOf v67).toNat)
        case atStart => exact ⟨0, st, by omega, rfl, Lib.hid rfl, HV1, HB1⟩
        case round =>
         clear HV1 HB1;obtain ⟨m, s, hm, rfl, HS, HV, HB⟩ := hrel
         by_cases hm4 : m < 4
         ·obtain ⟨s', hs'⟩ := spec_avFar.steps_at HS4.out (4 - (m + 1)) (m + 1) (by omega)
          have hstep := hs';rw [spec_avFar.steps, HS.out, Option.bind_some] at hstep;have HS' := Lib.hid hs';clear hs';have hby := HB.out.cell hm4;have hm0 : (0 : Int) ≤ (m : Int) := by omega
          have hm1 : (m : Int) < 4 := by omega
          obtain ⟨sg, hsg⟩ : ∃ sg, sg = spec_avFar.sg m := ⟨_, rfl⟩
          rw [← hsg] at hstep hby
          clear hsg;obtain ⟨u, v, o, hst, hcase⟩ := spec_avFar.step_cases hstep;have HC1 := Lib.hid hcase;have HST := Lib.hid hst;have hlen := spec_avFar.steps_len HS.out;have HLN := Lib.hid (hlen.trans HN.out);clear hstep hcase hst hlen;have hcz0 : wr.cell? ⟨w.heap.size, 0, none⟩ = some (.int .i64 a0_0) := (qc HV.out.box 0).trans rfl;have hcz1 : wr.cell? ⟨w.heap.size, 1, none⟩ = some (.int .i64 a0_1) := (qc HV.out.box 1).trans rfl;have hcz2 : wr.cell? ⟨w.heap.size, 2, none⟩ = some (.slice A0_2 l0_2.length c0_2) := (qc HV.out.box 2).trans rfl;have hat64 : at_ < 64 := by have := HN.out; omega
          have hat0 := hat.1;have hH0 : ¬ a0_1 = 0 := by omega
          have eq1 : IntKind.i64.wrap (at_.tdiv a0_1) = at_ / a0_1 := by rw [Int.tdiv_eq_ediv_of_nonneg hat0]; exact IntWalk.i64_in _ ⟨by have := Int.ediv_nonneg hat0 (show 0 ≤ a0_1 by omega); omega, by have := Int.ediv_le_self a0_1 hat0; omega⟩
          have eq2 : at_.tmod a0_1 = at_ % a0_1 := Int.tmod_eq_emod_of_nonneg hat0
          go_wp2
          go_region_held3 (fun w' => w'.cell? ⟨w.heap.size, 0, none⟩ = some (.int .i64 a0_0) ∧ w'.cell? ⟨w.heap.size, 1, none⟩ = some (.int .i64 a0_1) ∧ w'.cell? ⟨w.heap.size, 2, none⟩ = some (.slice A0_2 l0_2.length c0_2)) (first | go_keep | (exact ⟨qy hb2 (by assumption), qy hb2 (by assumption), qy hb2 (by assumption)⟩))
           (first | (go_at_call 42; refine (spec_avStep.calls k1 a0_0 a0_1 A0_2 c0_2 l0_2 (at_ / a0_1) (at_ % a0_1) sg u v o _ (Kd.qz HC.out (by first | exact HV.out.bel | exact zr HV.out.bel | exact qa HV.out.bel _)) hc0_2 HST.out).mono ?_; rintro e w2 ⟨rfl, hb2⟩))
          have HV2 := Lib.hid ((HV.out.below (zr (Below.refl _ _))).below hb2);have HB2 := Lib.hid ((HB.out.below (zr (Below.refl _ _))).below hb2);clear hb2 hcz0 hcz1 hcz2 hby HV HB eq1 eq2;have hcz1 : w2.cell? ⟨w.heap.size, 1, none⟩ = some (.int .i64 a0_1) := (qc HV2.out.box 1).trans rfl
          rcases HC1.out with ⟨rfl, rfl⟩ | ⟨rfl, p', hp', hpl, hql', ⟨hneg, rfl⟩ | ⟨hneg, rfl⟩⟩
          ·clear HC1
           go_wp2
           go_roundw
           case rel => exact ⟨m + 1, _, by omega, by go_num, HS', HV2, HB2⟩
           case measure => simp [intOf]; omega
          ·have hcp := HV2.out.cell hpl
           have hca := HV2.out.cell (show at_.toNat < s.1.length by have := HLN.out; have := HN.out; omega);rw [Int.toNat_of_nonneg hat0] at hca;have hfz := qj HV2.out.far p';have hp0 : (0 : Int) ≤ (p' : Int) := by omega
           have hp1 : (p' : Int) < (j : Int) := by have := HLN.out; omega
           have hat1 : at_ < (j : Int) := by have := HN.out; omega
           have HQL := Lib.hid hql';have HV3 := Lib.hid (HV2.out.set p' (wrap64 (rd s.1 at_ + 1)));have HB3 := Lib.hid (HB2.out.set HV2.out p' (.int .i64 (wrap64 (rd s.1 at_ + 1))));clear hql' HC1
           go_upto_region 20 with (fail)
           generalize (w2.setCell ⟨w.heap.size + 1, p', none⟩ (.int .i64 (wrap64 (rd s.1 at_ + 1)))) = W3 at HV3 HB3 ⊢
           clear hcp hca hfz hcz1
           go_wp2_with ((with_reducible refine gate_builtin (b := .append) (xs := #[.tmp 108, .tmp 110]) rfl ?_); at_builtin; refine Kd.R_append (Kd.int .i64) (w0 := w) w.heap.size rfl (.tmp 108) (.tmp 110) 25 3 (.int .i64 0) 8 rfl Try.underlying25 spec_avFar.info rfl (by decide) (by omega) _ s.2 (p' : Int) [.int .i64 (p' : Int)] (fun k_ => k_ ≠ w.heap.size + 1) (fun _ => False) rfl rfl ?aP (fun _ hk => hk.elim) ?aF ?aO ?aB ?aS ?aL ?_; (case aP => exact rfl); (case aB => exact HV3.out.bel); (case aF => exact (fun k hk => by have := zd HV3.out.far; omega)); (case aO => exact HV3.out.row); (case aS => exact HV3.out.bel.size); (case aL => have := HQL.out; omega); intro v1 w4 ho hb4 hg4 hat4; have HV4 := Lib.hid (HV3.out.app ho hb4 hg4); have HB4 := Lib.hid (HB3.out.app HV3.out hg4); clear HV3 HB3 ho hb4 hg4 hat4)
           go_roundw
           case rel => exact ⟨m + 1, _, by omega, by go_num, HS', HV4, HB4⟩
           case measure => simp [intOf]; omega
          ·have hcp := HV2.out.cell hpl
           have hfz := qj HV2.out.far p';have hp0 : (0 : Int) ≤ (p' : Int) := by omega
           have hp1 : (p' : Int) < (j : Int) := by have := HLN.out; omega
           clear HC1 hql'
           go_wp2
           go_roundw
           case rel => exact ⟨m + 1, _, by omega, by go_num, HS', HV2, HB2⟩
           case measure => simp [intOf]; omega
         ·obtain rfl : m = 4 := by omega
          obtain rfl := Option.some.inj (HS.out.symm.trans HS4.out)
          go_wp2
          go_roundg k1
          case measure => omega
          case rel => exact ⟨i + 1, s, by go_num, HNX, Lib.hid ((spec_avFar.steps_len HS.out).trans HN.out), HV⟩
       ·rw [if_neg hat] at h
        cases h
      ·rw [if_neg hi] at h
       obtain rfl := Option.some.inj h;clear h
       go_wp2
       go_ret
       exact ⟨_, rfl, HV.out.res HN.out hN64, HV.out.bel⟩
 ·rw [if_neg hk] at h
  cases h
def spec_avDistance.f (k : Nat) (a0_0 : Int) (a0_1 : Int) (l0_2 : List (S58)) (l1 : List Int) (l2 : List Int) : Option (Int) := (spec_avFar.f k a0_0 a0_1 l0_2 l1).bind fun t161 => (if 0 < (l2.length : Int) then (if 1 < (l2.length : Int) then (if 0 ≤ (wrap64 ((wrap64 ((rd l2 0) * a0_1)) + (rd l2 1))) then (if (wrap64 ((wrap64 ((rd l2 0) * a0_1)) + (rd l2 1))) < (t161.length : Int) then (some (rd t161 (wrap64 ((wrap64 ((rd l2 0) * a0_1)) + (rd l2 1))))) else (none)) else (none)) else (none)) else (none))
theorem spec_avDistance.mono : ∀ a0 a1 a2 a3 a4 k, LeO (spec_avDistance.f k a0 a1 a2 a3 a4) (spec_avDistance.f (k + 1) a0 a1 a2 a3 a4) := fun a0 a1 a2 a3 a4 k => LeO.bind (spec_avFar.mono _ _ _ _ _) (fun _ => LeO.refl _)
set_option maxHeartbeats 4000000 in
set_option maxRecDepth 100000 in
theorem spec_avDistance.calls (k : Nat) (a0_0 : Int) (a0_1 : Int) (A0_2 : Option Addr) (c0_2 : Nat) (l0_2 : List (S58)) (A1 : Option Addr) (c1 : Nat) (l1 : List Int) (A2 : Option Addr) (c2 : Nat) (l2 : List Int) (r : Int) (w : World) (hr0_2 : Kd.C k58 w A0_2 l0_2.length l0_2) (hc0_2 : l0_2.length ≤ c0_2) (hr1 : Kd.C (Kd.int .i64) w A1 l1.length l1) (hc1 : l1.length ≤ c1) (hr2 : Kd.C (Kd.int .i64) w A2 l2.length l2) (hc2 : l2.length ≤ c2) (h : spec_avDistance.f k a0_0 a0_1 l0_2 l1 l2 = some r) :
  Calls Try.prog 40 #[.agg #[.int .i64 a0_0, .int .i64 a0_1, .slice A0_2 l0_2.length c0_2], .slice A1 l1.length c1, .slice A2 l2.length c2] w fun e w' => e = .returned (.int .i64 r) ∧ Below w.heap.size w w' := by
 have hu := Try.underlying31
 unfold spec_avDistance.f at h
 obtain ⟨far, hf, h⟩ := Option.bind_eq_some_iff.mp h
 by_cases h1 : 1 < (l2.length : Int)
 ·rw [if_pos (show 0 < (l2.length : Int) by omega), if_pos h1] at h
  obtain ⟨ad, rfl, hx⟩ := Kd.jc hr2 0 (by decide) (by omega);obtain ⟨ad', e', hy⟩ := Kd.jc hr2 1 (by decide) (by omega);obtain rfl := Option.some.inj e'
  have hx0 : w.cell? ad = some (.int .i64 (rd l2 0)) := by
   have h0 : w.cell? (ad.add 0) = some (.int .i64 (rd l2 0)) := hx
   rwa [show ad.add 0 = ad by simp [Addr.add]] at h0
  have hy0 : w.cell? ⟨ad.block, ad.off + 1, none⟩ = some (.int .i64 (rd l2 1)) := by
   have h0 : w.cell? (ad.add 1) = some (.int .i64 (rd l2 1)) := hy
   rwa [show ad.add 1 = ⟨ad.block, ad.off + 1, none⟩ by simp [Addr.add]] at h0
  generalize rd l2 0 = x at h hx0
  generalize rd l2 1 = y at h hy0
  clear hx hy;obtain ⟨m, hm⟩ : ∃ m, IntKind.i64.wrap (x * a0_1) = m := ⟨_, rfl⟩;obtain ⟨q, hq⟩ : ∃ q, IntKind.i64.wrap (m + y) = q := ⟨_, rfl⟩;have HM : wrap64 (x * a0_1) = m := (IntWalk.i64_left _).symm.trans hm;have HQ : wrap64 (m + y) = q := (IntWalk.i64_left _).symm.trans hq;rw [HM, HQ] at h
  by_cases h2 : 0 ≤ q
  ·rw [if_pos h2] at h
   by_cases h3 : q < (far.length : Int)
   ·rw [if_pos h3] at h
    obtain rfl := Option.some.inj h;obtain ⟨i, rfl⟩ : ∃ n : Nat, q = (n : Int) := ⟨q.toNat, by omega⟩;have M1 : decide (1 < (l2.length : Int)) = true := decide_eq_true (by omega);have M0 : decide (0 < (l2.length : Int)) = true := decide_eq_true (by omega);have P1 : 1 < l2.length := by omega
    have P2 : (1 : Int) < (l2.length : Int) := by omega
    have P3 : (1 : Int) ≤ (l2.length : Int) := by omega
    have P4 : (0 : Int) < (l2.length : Int) := by omega
    have P0 : 0 < l2.length := by omega
    have L1 : decide ((1 : Nat) < l2.length) = true := decide_eq_true (by omega);have L0 : decide ((0 : Nat) < l2.length) = true := decide_eq_true (by omega);have HF := Lib.hid hf;have HL := Lib.hid hr0_2;have HA := Lib.hid hr1;have H3 := Lib.hid h3;have Q1 : (i : Int) < (far.length : Int) := h3;have Q2 : i < far.length := by omega
    have Q3 : (0 : Int) ≤ (i : Int) := by omega
    have Q4 : decide ((i : Int) < (far.length : Int)) = true := decide_eq_true h3;have Q5 : (i : Int) ≤ (far.length : Int) := by omega
    clear h1 h h2 h3 hf hr0_2 hr1 hr2 HM HQ
    generalize hn2 : l2.length = n2 at *
    go_enter Try.func40, Try.ntmps40
    go_wp2_with fail
    have HV := Lib.hid (show (w.alloc (.cells #[.int .i64 a0_0, .int .i64 a0_1, .slice A0_2 l0_2.length c0_2] 31)).heap[w.heap.size]? = some (.cells #[.int .i64 a0_0, .int .i64 a0_1, .slice A0_2 l0_2.length c0_2] 31 (0, 0)) from blk_new w _);have HB := Lib.hid (qd (Below.refl w.heap.size w) (.cells #[.int .i64 a0_0, .int .i64 a0_1, .slice A0_2 l0_2.length c0_2] 31));have hx1 := qy HB.out hx0;have hy1 := qy HB.out hy0
    generalize (w.alloc (.cells #[.int .i64 a0_0, .int .i64 a0_1, .slice A0_2 l0_2.length c0_2] 31)) = W1 at HV HB hx1 hy1 ⊢
    obtain ⟨B0, hB0⟩ : ∃ B0, B0 = w.heap.size := ⟨_, rfl⟩;rw [← hB0] at HV ⊢;clear hB0 hx0 hy0;have hcz0 : W1.cell? ⟨B0, 0, none⟩ = some (.int .i64 a0_0) := (qc HV.out 0).trans rfl;have hcz1 : W1.cell? ⟨B0, 1, none⟩ = some (.int .i64 a0_1) := (qc HV.out 1).trans rfl;have hcz2 : W1.cell? ⟨B0, 2, none⟩ = some (.slice A0_2 l0_2.length c0_2) := (qc HV.out 2).trans rfl
    refine wp_region_held_drew (S := fun w' => w'.cell? ⟨B0, 0, none⟩ = some (.int .i64 a0_0) ∧ w'.cell? ⟨B0, 1, none⟩ = some (.int .i64 a0_1) ∧ w'.cell? ⟨B0, 2, none⟩ = some (.slice A0_2 l0_2.length c0_2) ∧ w'.cell? ad = some (.int .i64 x) ∧ w'.cell? ⟨ad.block, ad.off + 1, none⟩ = some (.int .i64 y)) (by kernel_rfl) ⟨hcz0, hcz1, hcz2, hx1, hy1⟩ (fun hHeld => ?_)
    refine wpAnyH_take (i := 0) (oi := ?_) (v := ?_) ?_ (by kernel_rfl) (by kernel_rfl) (by kernel_rfl) ?_ (Or.inl ⟨?_, ?_⟩) (by assumption) ?_
    rotate_left 2
    focus ((try simp only [List.getElem?_toArray, List.getElem?_cons_succ, List.getElem?_cons_zero]); (first | done | rfl))
    focus exact (fun _ _ _ h => h)
    focus rfl
    focus (intro w hSw; (try dsimp only at hSw); go_simp; (try with_reducible rfl); done)
    (try simp only [Act.put, sA_, sB_, sC_])
    refine wpAnyH_take (i := 1) (oi := ?_) (v := ?_) ?_ (by kernel_rfl) (by kernel_rfl) (by kernel_rfl) ?_ (Or.inl ⟨?_, ?_⟩) (by assumption) ?_
    rotate_left 2
    focus ((try simp only [List.getElem?_toArray, List.getElem?_cons_succ, List.getElem?_cons_zero]); (first | done | rfl))
    focus exact (fun _ _ _ h => h)
    focus rfl
    focus (intro w hSw; (try dsimp only at hSw); go_simp; (try with_reducible rfl); done)
    (try simp only [Act.put, sA_, sB_, sC_])
    refine wpAnyH_take (i := 3) (oi := ?_) (v := ?_) ?_ (by kernel_rfl) (by kernel_rfl) (by kernel_rfl) ?_ (Or.inl ⟨?_, ?_⟩) (by assumption) ?_
    rotate_left 2
    focus ((try simp only [List.getElem?_toArray, List.getElem?_cons_succ, List.getElem?_cons_zero]); (first | done | rfl))
    focus exact (fun _ _ _ h => h)
    focus rfl
    focus (intro w hSw; (try dsimp only at hSw); go_simp; (try with_reducible rfl); done)
    (try simp only [Act.put, sA_, sB_, sC_])
    refine wpAnyH_take (i := 4) (oi := ?_) (v := ?_) ?_ (by kernel_rfl) (by kernel_rfl) (by kernel_rfl) ?_ (Or.inl ⟨?_, ?_⟩) (by assumption) ?_
    rotate_left 2
    focus ((try simp only [List.getElem?_toArray, List.getElem?_cons_succ, List.getElem?_cons_zero]); (first | done | rfl))
    focus exact (fun _ _ _ h => h)
    focus rfl
    focus (intro w hSw; (try dsimp only at hSw); go_simp; (try with_reducible rfl); done)
    (try simp only [Act.put, sA_, sB_, sC_])
    refine wpAnyH_take (i := 5) (oi := ?_) (v := ?_) ?_ (by kernel_rfl) (by kernel_rfl) (by kernel_rfl) ?_ (Or.inl ⟨?_, ?_⟩) (by assumption) ?_
    rotate_left 2
    focus ((try simp only [List.getElem?_toArray, List.getElem?_cons_succ, List.getElem?_cons_zero]); (first | done | rfl))
    focus exact (fun _ _ _ h => h)
    focus rfl
    focus (intro w hSw; (try dsimp only at hSw); go_simp; (try with_reducible rfl); done)
    (try simp only [Act.put, sA_, sB_, sC_])
    refine wpAnyH_take (i := 6) (oi := ?_) (v := ?_) ?_ (by kernel_rfl) (by kernel_rfl) (by kernel_rfl) ?_ (Or.inl ⟨?_, ?_⟩) (by assumption) ?_
    rotate_left 2
    focus ((try simp only [List.getElem?_toArray, List.getElem?_cons_succ, List.getElem?_cons_zero]); (first | done | rfl))
    focus exact (fun _ _ _ h => h)
    focus rfl
    focus (intro w hSw; (try dsimp only at hSw); go_simp; (try with_reducible rfl); done)
    (try simp only [Act.put, sA_, sB_, sC_])
    refine wpAnyH_take (i := 7) (oi := ?_) (v := ?_) ?_ (by kernel_rfl) (by kernel_rfl) (by kernel_rfl) ?_ (Or.inl ⟨?_, ?_⟩) (by assumption) ?_
    rotate_left 2
    focus ((try simp only [List.getElem?_toArray, List.getElem?_cons_succ, List.getElem?_cons_zero]); (first | done | rfl))
    focus exact (fun _ _ _ h => h)
    focus rfl
    focus (intro w hSw; (try dsimp only at hSw); go_simp; (try with_reducible rfl); done)
    (try simp only [Act.put, sA_, sB_, sC_])
    refine wpAnyH_take (i := 8) (oi := ?_) (v := ?_) ?_ (by kernel_rfl) (by kernel_rfl) (by kernel_rfl) ?_ (Or.inl ⟨?_, ?_⟩) (by assumption) ?_
    rotate_left 2
    focus ((try simp only [List.getElem?_toArray, List.getElem?_cons_succ, List.getElem?_cons_zero]); (first | done | rfl))
    focus exact (fun _ _ _ h => h)
    focus rfl
    focus (intro w hSw; (try dsimp only at hSw); go_simp; (try with_reducible rfl); done)
    (try simp only [Act.put, sA_, sB_, sC_])
    refine wpAnyH_take (i := 9) (oi := ?_) (v := ?_) ?_ (by kernel_rfl) (by kernel_rfl) (by kernel_rfl) ?_ (Or.inl ⟨?_, ?_⟩) (by assumption) ?_
    rotate_left 2
    focus ((try simp only [List.getElem?_toArray, List.getElem?_cons_succ, List.getElem?_cons_zero]); (first | done | rfl))
    focus exact (fun _ _ _ h => h)
    focus rfl
    focus (intro w hSw; (try dsimp only at hSw); go_simp; (try with_reducible rfl); done)
    (try simp only [Act.put, sA_, sB_, sC_])
    refine wpAnyH_take (i := 10) (oi := ?_) (v := ?_) ?_ (by kernel_rfl) (by kernel_rfl) (by kernel_rfl) ?_ (Or.inl ⟨?_, ?_⟩) (by assumption) ?_
    rotate_left 2
    focus ((try simp only [List.getElem?_toArray, List.getElem?_cons_succ, List.getElem?_cons_zero]); (first | done | rfl))
    focus exact (fun _ _ _ h => h)
    focus rfl
    focus (intro w hSw; (try dsimp only at hSw); go_simp; (try with_reducible rfl); done)
    (try simp only [Act.put, sA_, sB_, sC_])
    refine wpAnyH_take (i := 11) (oi := ?_) (v := ?_) ?_ (by kernel_rfl) (by kernel_rfl) (by kernel_rfl) ?_ (Or.inl ⟨?_, ?_⟩) (by assumption) ?_
    rotate_left 2
    focus ((try simp only [List.getElem?_toArray, List.getElem?_cons_succ, List.getElem?_cons_zero]); (first | done | rfl))
    focus exact (fun _ _ _ h => h)
    focus rfl
    focus (intro w hSw; (try dsimp only at hSw); go_simp; (try with_reducible rfl); done)
    (try simp only [Act.put, sA_, sB_, sC_])
    refine wpAnyH_take (i := 12) (oi := ?_) (v := ?_) ?_ (by kernel_rfl) (by kernel_rfl) (by kernel_rfl) ?_ (Or.inl ⟨?_, ?_⟩) (by assumption) ?_
    rotate_left 2
    focus ((try simp only [List.getElem?_toArray, List.getElem?_cons_succ, List.getElem?_cons_zero]); (first | done | rfl))
    focus exact (fun _ _ _ h => h)
    focus rfl
    focus (intro w hSw; (try dsimp only at hSw); go_simp; (try with_reducible rfl); done)
    (try simp only [Act.put, sA_, sB_, sC_])
    refine wpAnyH_ready (rs := [2]) (by kernel_rfl) (by simp) ?_
    refine AllReadyH.cons (o := ?_) ?_ (fun K hK => ?_) AllReadyH.nil
    rotate_left 1
    focus ((try simp only [List.getElem?_toArray, List.getElem?_cons_succ, List.getElem?_cons_zero]); (first | done | rfl))
    go_simp
    (go_at_call 41; refine (spec_avFar.calls k a0_0 a0_1 A0_2 c0_2 l0_2 A1 c1 l1 far _ (Kd.qz HL.out (zr HB.out)) hc0_2 (Kd.qz HA.out (zr HB.out)) hc1 HF.out).mono ?_; rintro e w2 ⟨v2, rfl, hR2, hb2⟩; obtain ⟨rb9, c9, rfl, _, _, _⟩ := Kd.R_form hR2 (by omega); obtain ⟨ad9, e9, hz9⟩ := Kd.jc (Kd.qw hR2).2.2 (i : Int) (by omega) (by have := H3.out; omega); cases e9; rw [Int.toNat_natCast, add_plain] at hz9; change w2.cell? ⟨rb9, i, none⟩ = some (.int .i64 (rd far (i : Int))) at hz9)
    clear hHeld
    refine hK.out _ _ ⟨qy hb2 hcz0, qy hb2 hcz1, qy hb2 hcz2, qy hb2 hx1, qy hb2 hy1⟩ (fun hHeld => ?_)
    clear hK K
    (try simp only [Act.put, sA_, sB_, sC_])
    refine wpAnyH_take (i := 13) (oi := ?_) (v := ?_) ?_ (by kernel_rfl) (by kernel_rfl) (by kernel_rfl) ?_ (Or.inl ⟨?_, ?_⟩) (by assumption) ?_
    rotate_left 2
    focus ((try simp only [List.getElem?_toArray, List.getElem?_cons_succ, List.getElem?_cons_zero]); (first | done | rfl))
    focus exact (fun _ _ _ h => h)
    focus rfl
    focus (intro w hSw; (try dsimp only at hSw); go_simp; (try with_reducible rfl); done)
    (try simp only [Act.put, sA_, sB_, sC_])
    refine wpAnyH_ready (rs := [14]) (by kernel_rfl) (by simp) ?_
    refine AllReadyH.cons (o := ?_) ?_ (fun K hK => ?_) AllReadyH.nil
    rotate_left 1
    focus ((try simp only [List.getElem?_toArray, List.getElem?_cons_succ, List.getElem?_cons_zero]); (first | done | rfl))
    go_simp
    refine hK.out _ _ hHeld (fun hHeld => ?_)
    clear hK K
    (try simp only [Act.put, sA_, sB_, sC_])
    refine wpAnyH_take (i := 15) (oi := ?_) (v := ?_) ?_ (by kernel_rfl) (by kernel_rfl) (by kernel_rfl) ?_ (Or.inl ⟨?_, ?_⟩) (by assumption) ?_
    rotate_left 2
    focus ((try simp only [List.getElem?_toArray, List.getElem?_cons_succ, List.getElem?_cons_zero]); (first | done | rfl))
    focus exact (fun _ _ _ h => h)
    focus rfl
    focus (intro w hSw; (try dsimp only at hSw); go_simp; (try with_reducible rfl); done)
    (try simp only [Act.put, sA_, sB_, sC_])
    refine wpAnyH_done (by kernel_rfl) ?_ _
    go_wp2
    go_ret
    exact ⟨rfl, zi (zr HB.out) HB.out.size (by assumption)⟩
   ·rw [if_neg h3] at h; cases h
  ·rw [if_neg h2] at h; cases h
 ·by_cases h0 : 0 < (l2.length : Int)
  ·rw [if_pos h0, if_neg h1] at h; cases h
  ·rw [if_neg h0] at h; cases h
end Go.Proofs.Ytpedofomfhmnfaa.PFnExactNeededBlocks
