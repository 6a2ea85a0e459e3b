/- Cut by wip/cut.py out of the texts of this claim (printed by the kit's printer, or this session's own): what the row's theorem does not reach is struck. Not trusted: Lean checks it. -/
import Derived.Test.YtpedofomfhmnfaaZFnExactCountShortestWaysPx0
import Derived.Test.YtpedofomfhmnfaaZFnExactCountShortestWaysPx5
import Derived.Test.YtpedofomfhmnfaaZFnExactCountShortestWaysPx6
namespace Go.Proofs.Ytpedofomfhmnfaa.PFnExactCountShortestWays
open Go.RowKit Go.Proofs.YtpedofomfhmnfaaW.PrintWords Go.Proofs.YtpedofomfhmnfaaW.PrintLast Go.Proofs.YtpedofomfhmnfaaW.PrintMore
attribute [local go_sem] max2_int min2_int max_two min_two max_three min_three max_four min_four
set_option linter.unusedVariables false
set_option linter.unusedSimpArgs false
def spec_CountShortestWays.it {α : Type} (G : Nat → α → Option α) (s : α) : Nat → Option α
 | 0 => some s
 | j + 1 => (spec_CountShortestWays.it G s j).bind (G j)
theorem spec_CountShortestWays.it_le {α : Type} {G G' : Nat → α → Option α} (h : ∀ j s, LeO (G j s) (G' j s)) (s : α) : ∀ n, LeO (spec_CountShortestWays.it G s n) (spec_CountShortestWays.it G' s n)
 | 0 => LeO.refl _
 | n + 1 => LeO.bind (spec_CountShortestWays.it_le h s n) (fun _ => h _ _)
theorem spec_CountShortestWays.it_at {α : Type} {G : Nat → α → Option α} {s r : α} {n : Nat} (h : spec_CountShortestWays.it G s n = some r) : ∀ d j : Nat, j + d = n → ∃ s1, spec_CountShortestWays.it G s j = some s1
 | 0, j, hj => ⟨r, by rw [show j = n by omega]; exact h⟩
 | d + 1, j, hj => by
  obtain ⟨s1, h1⟩ := spec_CountShortestWays.it_at h d (j + 1) (by omega)
  obtain ⟨s2, h2, _⟩ := Option.bind_eq_some_iff.mp h1
  exact ⟨s2, h2⟩
theorem spec_CountShortestWays.it_next {α : Type} {G : Nat → α → Option α} {s r r' : α} {n : Nat} (h : spec_CountShortestWays.it G s n = some r) (h' : spec_CountShortestWays.it G s (n + 1) = some r') : G n r = some r' := by
 simp only [spec_CountShortestWays.it] at h'
 rw [h] at h'
 exact h'
theorem spec_CountShortestWays.it_inv {α : Type} {G : Nat → α → Option α} {P : α → Prop} (hG : ∀ j s s', P s → G j s = some s' → P s') {s : α} (h0 : P s) : ∀ {n : Nat} {r : α}, spec_CountShortestWays.it G s n = some r → P r
 | 0, r, h => by obtain rfl := Option.some.inj h; exact h0
 | n + 1, r, h => by
  obtain ⟨s2, h2, h3⟩ := Option.bind_eq_some_iff.mp h
  exact hG _ _ _ (spec_CountShortestWays.it_inv hG h0 h2) h3
def spec_CountShortestWays.pair (W H : Int) (l : List Int) : Bool := decide (l.length = 2) && (decide (0 ≤ rd l 0 ∧ rd l 0 ≤ W - 1) && decide (0 ≤ rd l 1 ∧ rd l 1 ≤ H - 1))
def spec_CountShortestWays.ok (W H : Int) (l1 l2 : List Int) : Bool := decide (1 ≤ W ∧ W ≤ 8) && (decide (1 ≤ H ∧ H ≤ 8) && (spec_CountShortestWays.pair W H l1 && spec_CountShortestWays.pair W H l2))
def spec_CountShortestWays.one (k : Nat) (W H : Int) (l : List S58) (far : List Int) (d at_ : Nat) (j : Nat) (c : List Int) : Option (List Int) := (spec_avStep.f k W H l ((at_ : Int) / H) ((at_ : Int) % H) (spec_avFar.sg j)).bind fun r => if r.2.2 = true then (if 0 ≤ wrap64 (wrap64 (r.1 * H) + r.2.1) ∧ wrap64 (wrap64 (r.1 * H) + r.2.1) < far.length then (if rd far (wrap64 (wrap64 (r.1 * H) + r.2.1)) = (d : Int) - 1 then some (c.set at_ (wrap64 (rd c at_ + rd c (wrap64 (wrap64 (r.1 * H) + r.2.1))))) else some c) else none) else some c
def spec_CountShortestWays.cel (k : Nat) (W H : Int) (l : List S58) (far : List Int) (d at_ : Nat) (c : List Int) : Option (List Int) := if rd far at_ = (d : Int) then spec_CountShortestWays.it (spec_CountShortestWays.one k W H l far d at_) c 4 else some c
def spec_CountShortestWays.lay (k : Nat) (W H : Int) (l : List S58) (far : List Int) (d : Nat) (c : List Int) : Option (List Int) := spec_CountShortestWays.it (spec_CountShortestWays.cel k W H l far (d + 1)) c far.length
def spec_CountShortestWays.ways (k : Nat) (W H : Int) (l : List S58) (l1 l2 : List Int) (D : Int) : Option Int := if spec_CountShortestWays.ok W H l1 l2 = true ∧ D ≤ 1000 then (spec_avFar.f k W H l l2).bind fun far => if (far.length : Int) = W * H then (spec_CountShortestWays.it (spec_CountShortestWays.lay k W H l far) ((List.replicate far.length 0).set (rd l2 0 * H + rd l2 1).toNat 1) D.toNat).bind fun c => some (rd c (rd l1 0 * H + rd l1 1)) else none else none
def spec_CountShortestWays.f (k : Nat) (a0_0 : Int) (a0_1 : Int) (l0_2 : List S58) (l1 : List Int) (l2 : List Int) : Option (Int × Bool) := (spec_avAsked.f k a0_0 a0_1 l0_2 l1 l2).bind fun t => if t = true then (spec_avDistance.f k a0_0 a0_1 l0_2 l1 l2).bind fun d => if d < 0 then some (0, false) else (spec_CountShortestWays.ways k a0_0 a0_1 l0_2 l1 l2 d).bind fun r => some (r, true) else some (0, false)
theorem spec_CountShortestWays.lay_le (k : Nat) (W H : Int) (l : List S58) (far : List Int) (d : Nat) (c : List Int) : LeO (spec_CountShortestWays.lay k W H l far d c) (spec_CountShortestWays.lay (k + 1) W H l far d c) := spec_CountShortestWays.it_le (fun _ _ => LeO.ite (spec_CountShortestWays.it_le (fun _ _ => LeO.bind (spec_avStep.mono _ _ _ _ _ _ _) (fun _ => LeO.refl _)) _ _) (LeO.refl _)) _ _
theorem spec_CountShortestWays.mono : ∀ a0 a1 a2 a3 a4 k, LeO (spec_CountShortestWays.f k a0 a1 a2 a3 a4) (spec_CountShortestWays.f (k + 1) a0 a1 a2 a3 a4) := fun a0 a1 a2 a3 a4 k => LeO.bind (spec_avAsked.mono _ _ _ _ _ _) (fun _ => LeO.ite (LeO.bind (spec_avDistance.mono _ _ _ _ _ _) (fun _ => LeO.ite (LeO.refl _) (LeO.bind (LeO.ite (LeO.bind (spec_avFar.mono _ _ _ _ _) (fun _ => LeO.ite (LeO.bind (spec_CountShortestWays.it_le (fun _ _ => spec_CountShortestWays.lay_le _ _ _ _ _ _ _) _ _) (fun _ => LeO.refl _)) (LeO.refl _))) (LeO.refl _)) (fun _ => LeO.refl _)))) (LeO.refl _))
theorem spec_CountShortestWays.one_len {k : Nat} {W H : Int} {l : List S58} {far : List Int} {d at_ j n : Nat} {c c' : List Int} (hc : c.length = n) (h : spec_CountShortestWays.one k W H l far d at_ j c = some c') : c'.length = n := by
 unfold spec_CountShortestWays.one at h
 obtain ⟨r, _, h⟩ := Option.bind_eq_some_iff.mp h
 split at h
 ·split at h
  ·split at h
   ·obtain rfl := Option.some.inj h; simpa using hc
   ·obtain rfl := Option.some.inj h; exact hc
  ·cases h
 ·obtain rfl := Option.some.inj h; exact hc
theorem spec_CountShortestWays.cel_len {k : Nat} {W H : Int} {l : List S58} {far : List Int} {d at_ n : Nat} {c c' : List Int} (hc : c.length = n) (h : spec_CountShortestWays.cel k W H l far d at_ c = some c') : c'.length = n := by
 unfold spec_CountShortestWays.cel at h
 split at h
 ·exact spec_CountShortestWays.it_inv (P := fun c : List Int => c.length = n) (fun _ _ _ hs h => spec_CountShortestWays.one_len hs h) hc h
 ·obtain rfl := Option.some.inj h; exact hc
theorem spec_CountShortestWays.lay_len {k : Nat} {W H : Int} {l : List S58} {far : List Int} {d n : Nat} {c c' : List Int} (hc : c.length = n) (h : spec_CountShortestWays.lay k W H l far d c = some c') : c'.length = n := spec_CountShortestWays.it_inv (P := fun c : List Int => c.length = n) (fun _ _ _ hs h => spec_CountShortestWays.cel_len hs h) hc h
theorem spec_CountShortestWays.one_cases {k : Nat} {W H : Int} {l : List S58} {far : List Int} {d at_ j : Nat} {c c' : List Int} (h : spec_CountShortestWays.one k W H l far d at_ j c = some c') : ∃ u v o, spec_avStep.f k W H l ((at_ : Int) / H) ((at_ : Int) % H) (spec_avFar.sg j) = some (u, v, o) ∧
  (o = false ∧ c' = c ∨ o = true ∧ ∃ p : Nat, wrap64 (wrap64 (u * H) + v) = (p : Int) ∧ p < far.length ∧ (rd far (p : Int) = (d : Int) - 1 ∧ c' = c.set at_ (wrap64 (rd c at_ + rd c (p : Int))) ∨ ¬ rd far (p : Int) = (d : Int) - 1 ∧ c' = c)) := by
 obtain ⟨⟨u, v, o⟩, h1, h2⟩ := Option.bind_eq_some_iff.mp h
 refine ⟨u, v, o, h1, ?_⟩
 simp only at h2
 cases o with
 | false => left; exact ⟨rfl, by simpa using h2.symm⟩
 | true =>
  right
  rw [if_pos rfl] at h2
  split at h2
  ·rename_i hc
   obtain ⟨p, hp⟩ : ∃ p : Nat, wrap64 (wrap64 (u * H) + v) = (p : Int) := ⟨(wrap64 (wrap64 (u * H) + v)).toNat, by omega⟩
   rw [hp] at hc h2
   refine ⟨rfl, p, hp, by omega, ?_⟩
   split at h2
   ·left; exact ⟨by assumption, by simpa using h2.symm⟩
   ·right; exact ⟨by assumption, by simpa using h2.symm⟩
  ·cases h2
structure spec_CountShortestWays.WV (w wr : World) (B : Nat) (W H : Int) (V : Value) (g : Nat) (fv : Value) (far c : List Int) : Prop where
  box : wr.heap[B]? = some (.cells #[.int .i64 W, .int .i64 H, V] 31 (0, 0))
  ways : wr.heap[g]? = some (.cells (c.map (Value.int .i64)).toArray 3 (0, 0))
  row : Kd.R (Kd.int .i64) 3 wr w.heap.size (fun k_ => k_ < g) fv far
  bel : Below w.heap.size w wr
  hg : B < g
  hw : w.heap.size < g
section
variable {w wr w1 : World} {W H : Int} {V fv : Value} {B g : Nat} {far c : List Int}
theorem spec_CountShortestWays.WV.below (h : spec_CountShortestWays.WV w wr B W H V g fv far c) (hb : Below wr.heap.size wr w1) : spec_CountShortestWays.WV w w1 B W H V g fv far c :=
 ⟨(hb.block _ (blk_lt h.box)).trans h.box, (hb.block _ (blk_lt h.ways)).trans h.ways, Kd.R_below h.row hb, below_then h.bel h.bel.size hb, h.hg, h.hw⟩
theorem spec_CountShortestWays.WV.cell (h : spec_CountShortestWays.WV w wr B W H V g fv far c) {i : Nat} (hi : i < c.length) : wr.cell? ⟨g, i, none⟩ = some (.int .i64 (rd c i)) := by
 rw [blk_cell h.ways]
 simp [rd, hi]
theorem spec_CountShortestWays.WV.set (h : spec_CountShortestWays.WV w wr B W H V g fv far c) (i : Nat) (x : Int) : spec_CountShortestWays.WV w (wr.setCell ⟨g, i, none⟩ (.int .i64 x)) B W H V g fv far (c.set i x) := by
 have h1 := h.hg
 have h2 := h.hw
 refine ⟨blk_far h.box (by simp only; omega) _, ?_, Kd.R_step h.row (fun k hk _ => Below.heap_setCell wr _ _ k (by simp only; omega)), h.bel.setCell (by simp only; omega) _, h.hg, h.hw⟩
 rw [blk_set h.ways]
 congr 3
 apply Array.ext'
 simp [List.map_set]
theorem spec_CountShortestWays.WV.fcell {fa : Addr} {n fc : Nat} (h : spec_CountShortestWays.WV w wr B W H V g (.slice (some fa) n fc) far c) {i : Nat} (hi : i < n) : wr.cell? (fa.add i) = some (.int .i64 (rd far i)) := by
 obtain ⟨ad, e2, hx⟩ := Kd.at_int (Kd.R_reads' h.row).2.2 (i : Int) (by omega) (by have := (Kd.R_reads' h.row).1; omega)
 obtain rfl := Option.some.inj e2
 rwa [Int.toNat_natCast] at hx
theorem spec_CountShortestWays.BY_set {gb : Nat} (h : spec_avFar.BY wr gb) (hv : spec_CountShortestWays.WV w wr B W H V g fv far c) (i : Nat) (x : Value) : spec_avFar.BY (wr.setCell ⟨g, i, none⟩ x) gb := by
 refine (Below.heap_setCell wr _ x gb ?_).trans h
 rintro rfl
 have h1 := hv.ways
 unfold spec_avFar.BY at h
 rw [h] at h1
 simp at h1
end
theorem spec_CountShortestWays.made (N : Nat) : madeCells #[.int .i64 0] N = ((List.replicate N 0).map (Value.int .i64)).toArray := by
 apply Array.ext
 ·simp [madeCells]
 ·intro i h1 h2
  simp [madeCells, Nat.mod_one]
theorem spec_CountShortestWays.info : (Try.prog.info? 3).map (fun i => (i.zero, i.size, i.bytes)) = some (some (.int .i64 0), 1, 8) := by kernel_rfl
theorem spec_CountShortestWays.place {W H x y : Int} (hH : 1 ≤ H) (hx : 0 ≤ x ∧ x ≤ W - 1) (hy : 0 ≤ y ∧ y ≤ H - 1) {N : Nat} (hN : W * H = (N : Int)) : 0 ≤ x * H ∧ x * H + y < (N : Int) := by
 have h1 : 0 ≤ x * H := Int.mul_nonneg hx.1 (by omega)
 have h2 : x * H ≤ (W - 1) * H := Int.mul_le_mul_of_nonneg_right hx.2 (by omega)
 rw [Int.sub_mul, Int.one_mul] at h2
 omega
set_option maxHeartbeats 8000000 in
set_option maxRecDepth 100000 in
theorem spec_CountShortestWays.calls (k : Nat) (a0_0 : Int) (a0_1 : Int) (A0_2 : Option Addr) (c0_2 : Nat) (l0_2 : List S58) (A1 : Option Addr) (c1 : Nat) (l1 : List Int) (A2 : Option Addr) (c2 : Nat) (l2 : List Int) (r1 : Int) (r2 : Bool) (w : World) (hr0_2 : Kd.C k58 w A0_2 l0_2.length l0_2) (hc0_2 : l0_2.length ≤ c0_2) (hr1 : Kd.C (Kd.int .i64) w A1 l1.length l1) (hc1 : l1.length ≤ c1) (hr2 : Kd.C (Kd.int .i64) w A2 l2.length l2) (hc2 : l2.length ≤ c2) (h : spec_CountShortestWays.f k a0_0 a0_1 l0_2 l1 l2 = some (r1, r2)) :
    Calls Try.prog 16 #[.agg #[.int .i64 a0_0, .int .i64 a0_1, .slice A0_2 l0_2.length c0_2], .slice A1 l1.length c1, .slice A2 l2.length c2] w fun e w' => e = .returned (.tuple #[.int .i64 r1, .bool r2]) ∧ Below w.heap.size w w' := by
  unfold spec_CountShortestWays.f at h
  obtain ⟨t, ht, h⟩ := Option.bind_eq_some_iff.mp h
  have hu := Try.underlying31
  have HT := Lib.hid ht
  have HL := Lib.hid hr0_2
  have HA := Lib.hid hr1
  have HA2 := Lib.hid hr2
  have HB0 := Lib.hid (below_alloc (Below.refl w.heap.size w) (.cells #[.int .i64 a0_0, .int .i64 a0_1, .slice A0_2 l0_2.length c0_2] 31))
  have HX0 := Lib.hid (blk_new w (.cells #[.int .i64 a0_0, .int .i64 a0_1, .slice A0_2 l0_2.length c0_2] 31))
  clear ht hr0_2 hr1 hr2
  cases t with
  | false =>
    cases h
    go_enter Try.func16, Try.ntmps16
    go_upto_region 1 with (fail)
    generalize w.alloc (.cells #[.int .i64 a0_0, .int .i64 a0_1, .slice A0_2 l0_2.length c0_2] 31) = W1 at HX0 HB0 ⊢
    obtain ⟨B, hB⟩ : ∃ B, B = w.heap.size := ⟨_, rfl⟩
    rw [← hB] at HX0 ⊢
    clear hB
    have hcz0 : W1.cell? ⟨B, 0, none⟩ = some (.int .i64 a0_0) := (blk_cell HX0.out 0).trans rfl
    have hcz1 : W1.cell? ⟨B, 1, none⟩ = some (.int .i64 a0_1) := (blk_cell HX0.out 1).trans rfl
    have hcz2 : W1.cell? ⟨B, 2, none⟩ = some (.slice A0_2 l0_2.length c0_2) := (blk_cell HX0.out 2).trans rfl
    go_wp2_with (go_at_call 39; refine (spec_avAsked.calls k a0_0 a0_1 A0_2 c0_2 l0_2 A1 c1 l1 A2 c2 l2 false _ (Kd.C_below HL.out HB0.out) hc0_2 (Kd.C_below HA.out HB0.out) hc1 (Kd.C_below HA2.out HB0.out) hc2 HT.out).mono ?_; rintro e w2 ⟨rfl, hb2⟩; have HB2 := Lib.hid (below_then HB0.out HB0.out.size hb2); clear hb2)
    go_ret2
    exact ⟨rfl, HB2.out⟩
  | true =>
    rw [if_pos rfl] at h
    obtain ⟨d, hdi, h⟩ := Option.bind_eq_some_iff.mp h
    have HDI := Lib.hid hdi
    clear hdi
    by_cases hd : d < 0
    · rw [if_pos hd] at h
      cases h
      have t1 : decide (d < 0) = true := decide_eq_true hd
      go_enter Try.func16, Try.ntmps16
      go_upto_region 1 with (fail)
      generalize w.alloc (.cells #[.int .i64 a0_0, .int .i64 a0_1, .slice A0_2 l0_2.length c0_2] 31) = W1 at HX0 HB0 ⊢
      obtain ⟨B, hB⟩ : ∃ B, B = w.heap.size := ⟨_, rfl⟩
      rw [← hB] at HX0 ⊢
      clear hB
      have hcz0 : W1.cell? ⟨B, 0, none⟩ = some (.int .i64 a0_0) := (blk_cell HX0.out 0).trans rfl
      have hcz1 : W1.cell? ⟨B, 1, none⟩ = some (.int .i64 a0_1) := (blk_cell HX0.out 1).trans rfl
      have hcz2 : W1.cell? ⟨B, 2, none⟩ = some (.slice A0_2 l0_2.length c0_2) := (blk_cell HX0.out 2).trans rfl
      go_wp2_with (first
        | (go_at_call 39; refine (spec_avAsked.calls k a0_0 a0_1 A0_2 c0_2 l0_2 A1 c1 l1 A2 c2 l2 true _ (Kd.C_below HL.out HB0.out) hc0_2 (Kd.C_below HA.out HB0.out) hc1 (Kd.C_below HA2.out HB0.out) hc2 HT.out).mono ?_; rintro e w2 ⟨rfl, hb2⟩; have HB2 := Lib.hid (below_then HB0.out HB0.out.size hb2); have HX2 := Lib.hid ((hb2.block _ (blk_lt HX0.out)).trans HX0.out); have hcz0 := (blk_cell HX2.out 0).trans rfl; have hcz1 := (blk_cell HX2.out 1).trans rfl; have hcz2 := (blk_cell HX2.out 2).trans rfl; clear hb2)
        | (go_at_call 40; refine (spec_avDistance.calls k a0_0 a0_1 A0_2 c0_2 l0_2 A1 c1 l1 A2 c2 l2 d _ (Kd.C_below HL.out HB2.out) hc0_2 (Kd.C_below HA.out HB2.out) hc1 (Kd.C_below HA2.out HB2.out) hc2 HDI.out).mono ?_; rintro e w3 ⟨rfl, hb3⟩; have HB3 := Lib.hid (below_then HB2.out HB2.out.size hb3); clear hb3))
      go_ret2
      exact ⟨rfl, HB3.out⟩
    · rw [if_neg hd] at h
      obtain ⟨r, hw, h⟩ := Option.bind_eq_some_iff.mp h
      cases h
      unfold spec_CountShortestWays.ways at hw
      by_cases hok : spec_CountShortestWays.ok a0_0 a0_1 l1 l2 = true ∧ d ≤ 1000
      case neg => rw [if_neg hok] at hw; cases hw
      rw [if_pos hok] at hw
      obtain ⟨far, hfar, hw⟩ := Option.bind_eq_some_iff.mp hw
      by_cases hfl : (far.length : Int) = a0_0 * a0_1
      case neg => rw [if_neg hfl] at hw; cases hw
      rw [if_pos hfl] at hw
      obtain ⟨cF, hcF, hw⟩ := Option.bind_eq_some_iff.mp hw
      obtain rfl := Option.some.inj hw
      clear hw
      obtain ⟨hok, hd1⟩ := hok
      unfold spec_CountShortestWays.ok spec_CountShortestWays.pair at hok
      simp only [Bool.and_eq_true, decide_eq_true_eq] at hok
      obtain ⟨hW, hH, ⟨hp1, hx1, hy1⟩, hp2, hx2, hy2⟩ := hok
      obtain ⟨x, y, rfl⟩ : ∃ x y, l1 = [x, y] := by
        match l1, hp1 with
        | [x, y], _ => exact ⟨x, y, rfl⟩
      obtain ⟨x', y', rfl⟩ : ∃ x y, l2 = [x, y] := by
        match l2, hp2 with
        | [x, y], _ => exact ⟨x, y, rfl⟩
      change 0 ≤ x ∧ x ≤ a0_0 - 1 at hx1
      change 0 ≤ y ∧ y ≤ a0_1 - 1 at hy1
      change 0 ≤ x' ∧ x' ≤ a0_0 - 1 at hx2
      change 0 ≤ y' ∧ y' ≤ a0_1 - 1 at hy2
      change spec_CountShortestWays.it (spec_CountShortestWays.lay k a0_0 a0_1 l0_2 far) ((List.replicate far.length 0).set (x' * a0_1 + y').toNat 1) d.toNat = some cF at hcF
      show Calls _ _ _ _ fun e w' => e = .returned (.tuple #[.int .i64 (rd cF (x * a0_1 + y)), .bool true]) ∧ Below w.heap.size w w'
      obtain ⟨D, rfl⟩ : ∃ n : Nat, d = (n : Int) := ⟨d.toNat, by omega⟩
      obtain ⟨N, hN⟩ : ∃ N, N = far.length := ⟨_, rfl⟩
      have hNN : a0_0 * a0_1 = (N : Int) := by omega
      have hN64 : N ≤ 64 := by
        have := Int.mul_le_mul hW.2 hH.2 (by omega) (by omega)
        omega
      obtain ⟨u1, u2⟩ := spec_CountShortestWays.place hH.1 hx1 hy1 hNN
      obtain ⟨u3, u4⟩ := spec_CountShortestWays.place hH.1 hx2 hy2 hNN
      obtain ⟨p, hp⟩ : ∃ p : Nat, x * a0_1 + y = (p : Int) := ⟨(x * a0_1 + y).toNat, by omega⟩
      obtain ⟨q, hq⟩ : ∃ p : Nat, x' * a0_1 + y' = (p : Int) := ⟨(x' * a0_1 + y').toNat, by omega⟩
      rw [hq, Int.toNat_natCast, Int.toNat_natCast, ← hN] at hcF
      rw [hp]
      have e1 : IntKind.i64.wrap (x * a0_1) = x * a0_1 := IntWalk.i64_in _ (by omega)
      have e2 : IntKind.i64.wrap (x * a0_1 + y) = (p : Int) := by rw [hp]; exact IntWalk.i64_in _ (by omega)
      have e3 : IntKind.i64.wrap (x' * a0_1) = x' * a0_1 := IntWalk.i64_in _ (by omega)
      have e4 : IntKind.i64.wrap (x' * a0_1 + y') = (q : Int) := by rw [hq]; exact IntWalk.i64_in _ (by omega)
      have HEQ := Lib.hid (And.intro e1 (And.intro e2 (And.intro e3 e4)))
      have hpN : p < N := by omega
      have hqN : q < N := by omega
      have HFAR := Lib.hid hfar
      have HFL := Lib.hid hN
      have HCF := Lib.hid hcF
      have HWH := Lib.hid (And.intro hW hH)
      have hmk := print_make (P := Try.prog) 25 3 .i64 8 Try.underlying25 spec_CountShortestWays.info (by omega) N (by omega)
      have t0 : ¬ (D : Int) < 0 := by omega
      have hH0 : ¬ a0_1 = 0 := by omega
      have hD1 : D ≤ 1000 := by omega
      clear hfar hcF hd hfl hN hNN hd1 e1 e2 e3 e4 hp hq u1 u2 u3 u4 hp1 hp2 hx1 hy1 hx2 hy2 hW hH
      go_enter Try.func16, Try.ntmps16
      go_upto_region 1 with (fail)
      have hBsz : w.heap.size < (w.alloc (.cells #[.int .i64 a0_0, .int .i64 a0_1, .slice A0_2 l0_2.length c0_2] 31)).heap.size := by simp
      generalize w.alloc (.cells #[.int .i64 a0_0, .int .i64 a0_1, .slice A0_2 l0_2.length c0_2] 31) = W1 at HX0 HB0 hBsz ⊢
      obtain ⟨B, hB⟩ : ∃ B, B = w.heap.size := ⟨_, rfl⟩
      have HBE := Lib.hid hB
      rw [← hB] at HX0 hBsz ⊢
      clear hB
      have hcz0 : W1.cell? ⟨B, 0, none⟩ = some (.int .i64 a0_0) := (blk_cell HX0.out 0).trans rfl
      have hcz1 : W1.cell? ⟨B, 1, none⟩ = some (.int .i64 a0_1) := (blk_cell HX0.out 1).trans rfl
      have hcz2 : W1.cell? ⟨B, 2, none⟩ = some (.slice A0_2 l0_2.length c0_2) := (blk_cell HX0.out 2).trans rfl
      go_upto_region 4 with (first
        | (go_at_call 39; refine (spec_avAsked.calls k a0_0 a0_1 A0_2 c0_2 l0_2 A1 c1 [x, y] A2 c2 [x', y'] true _ (Kd.C_below HL.out HB0.out) hc0_2 (Kd.C_below HA.out HB0.out) hc1 (Kd.C_below HA2.out HB0.out) hc2 HT.out).mono ?_; rintro e w2 ⟨rfl, hb2⟩; have HB2 := Lib.hid (below_then HB0.out HB0.out.size hb2); have HX2 := Lib.hid ((hb2.block _ (blk_lt HX0.out)).trans HX0.out); have hcz0 := (blk_cell HX2.out 0).trans rfl; have hcz1 := (blk_cell HX2.out 1).trans rfl; have hcz2 := (blk_cell HX2.out 2).trans rfl; clear hb2)
        | (go_at_call 40; refine (spec_avDistance.calls k a0_0 a0_1 A0_2 c0_2 l0_2 A1 c1 [x, y] A2 c2 [x', y'] D _ (Kd.C_below HL.out HB2.out) hc0_2 (Kd.C_below HA.out HB2.out) hc1 (Kd.C_below HA2.out HB2.out) hc2 HDI.out).mono ?_; rintro e w3 ⟨rfl, hb3⟩; have HB3 := Lib.hid (below_then HB2.out HB2.out.size hb3); have HX3 := Lib.hid ((hb3.block _ (blk_lt HX2.out)).trans HX2.out); have hcz0 := (blk_cell HX3.out 0).trans rfl; have hcz1 := (blk_cell HX3.out 1).trans rfl; have hcz2 := (blk_cell HX3.out 2).trans rfl; clear hb3)
        | (go_at_call 41; refine (spec_avFar.calls k a0_0 a0_1 A0_2 c0_2 l0_2 A2 c2 [x', y'] far _ (Kd.C_below HL.out HB3.out) hc0_2 (Kd.C_below HA2.out HB3.out) hc2 HFAR.out).mono ?_; rintro e w4 ⟨v4, rfl, hR4, hb4⟩; have HR4 := Lib.hid (Kd.R_lower hR4 HB3.out.size); have HB4 := Lib.hid (below_then HB3.out HB3.out.size hb4); have HX4 := Lib.hid ((hb4.block _ (blk_lt HX3.out)).trans HX3.out); clear hb4 hR4))
      obtain ⟨fa, fc, ev, _⟩ := (show ∃ fa fc, v4 = .slice (some fa) N fc ∧ True from by
        obtain ⟨A, cp, e⟩ := Kd.R_slice HR4.out
        subst e
        obtain ⟨ad, e2, _⟩ := Kd.at_int (Kd.R_reads' HR4.out).2.2 (0 : Int) (by omega) (by have := HFL.out; omega)
        subst e2
        exact ⟨ad, cp, by rw [HFL.out], trivial⟩)
      subst ev
      clear hcz0 hcz1 hcz2 HX2 HX3 HB2 HX0
      go_upto_region 5 with (fail)
      have HV := Lib.hid (show spec_CountShortestWays.WV w (w4.alloc (.cells (madeCells #[.int .i64 0] N) 3)) B a0_0 a0_1 (.slice A0_2 l0_2.length c0_2) w4.heap.size (.slice (some fa) N fc) far (List.replicate N 0) from ⟨blk_alloc HX4.out _, by rw [← spec_CountShortestWays.made]; exact blk_new w4 _, Kd.R_mono (Kd.R_alloc (Kd.R_bound HR4.out) _) (fun k hk => hk.2.2.1), below_alloc HB4.out _, blk_lt HX4.out, by have h0 := blk_lt HX4.out; rw [HBE.out] at h0; exact h0⟩)
      generalize w4.alloc (.cells (madeCells #[.int .i64 0] N) 3) = W5 at HV ⊢
      obtain ⟨g, hg⟩ : ∃ g, g = w4.heap.size := ⟨_, rfl⟩
      rw [← hg] at HV ⊢
      clear hg HR4 HX4 HB4 HB3 hBsz hmk
      obtain ⟨ad2, e2a, _, hx2, hy2⟩ := spec_avFar.two (Kd.C_below HA2.out HV.out.bel)
      subst e2a
      have hcz1 : W5.cell? ⟨B, 1, none⟩ = some (.int .i64 a0_1) := (blk_cell HV.out.box 1).trans rfl
      have hcell := HV.out.cell (show q < (List.replicate N 0).length by simp; exact hqN)
      have hfz := blk_frozen HV.out.ways q
      obtain ⟨e1, e2, e3, e4⟩ := HEQ.out
      have q0 : (0 : Int) ≤ (q : Int) := by omega
      have q1 : (q : Int) < (N : Int) := by omega
      have p0 : (0 : Int) ≤ (p : Int) := by omega
      have p1 : (p : Int) < (N : Int) := by omega
      go_still_tail 12, (by kernel_rfl)
      change wpList _ _ _ _ _ W5.drew
      generalize hwd : W5.drew = W6
      have HV2 := Lib.hid (show spec_CountShortestWays.WV w W6 B a0_0 a0_1 (.slice A0_2 l0_2.length c0_2) g (.slice (some fa) N fc) far (List.replicate N 0) by rw [← hwd]; exact HV.out.below (below_drew (Below.refl _ _)))
      have hcell2 := HV2.out.cell (show q < (List.replicate N 0).length by simp; exact hqN)
      have hfz2 := blk_frozen HV2.out.ways q
      clear hwd hcell hfz hx2 hy2 hcz1 HV e1 e2 e3 e4
      go_upto_region 6 with (fail)
      have HV3 := Lib.hid (HV2.out.set q 1)
      generalize W6.setCell ⟨g, q, none⟩ (.int .i64 1) = W7 at HV3 ⊢
      clear hcell2 hfz2 HV2
      go_wp2
      go_loopg [10] D (fun gn v10 wr => ∃ (n : Nat) (c : List Int), v10 = .int .i64 ((n + 1 : Nat) : Int) ∧ gn = D - n ∧ n ≤ D ∧ Hid (spec_CountShortestWays.it (spec_CountShortestWays.lay k a0_0 a0_1 l0_2 far) ((List.replicate N 0).set q 1) n = some c) ∧ Hid (spec_CountShortestWays.WV w wr B a0_0 a0_1 (.slice A0_2 l0_2.length c0_2) g (.slice (some fa) N fc) far c))
      case atStart => exact ⟨0, _, rfl, by omega, by omega, Lib.hid rfl, HV3⟩
      case round =>
        clear HV3
        obtain ⟨n, c, rfl, hgn, hnD, HC, HV⟩ := hrel
        have HCL := Lib.hid (spec_CountShortestWays.it_inv (P := fun c : List Int => c.length = N) (fun _ _ _ hs h => spec_CountShortestWays.lay_len hs h) (by simp) HC.out)
        have hcz0 : wr.cell? ⟨B, 0, none⟩ = some (.int .i64 a0_0) := (blk_cell HV.out.box 0).trans rfl
        have hcz1 : wr.cell? ⟨B, 1, none⟩ = some (.int .i64 a0_1) := (blk_cell HV.out.box 1).trans rfl
        have hcz2 : wr.cell? ⟨B, 2, none⟩ = some (.slice A0_2 l0_2.length c0_2) := (blk_cell HV.out.box 2).trans rfl
        have HDD := Lib.hid (spec_avDistance.calls k a0_0 a0_1 A0_2 c0_2 l0_2 A1 c1 [x, y] (some ad2) c2 [x', y'] D wr (Kd.C_below HL.out HV.out.bel) hc0_2 (Kd.C_below HA.out HV.out.bel) hc1 (Kd.C_below HA2.out HV.out.bel) hc2 HDI.out)
        by_cases hn : n < D
        · have t1 : decide (n + 1 ≤ D) = true := decide_eq_true hn
          have t2 : ((n + 1 : Nat) : Int) ≤ (D : Int) := by omega
          have t3 : decide ((n : Int) + 1 ≤ (D : Int)) = true := decide_eq_true (by omega)
          obtain ⟨c', hc'⟩ := spec_CountShortestWays.it_at HCF.out (D - (n + 1)) (n + 1) (by omega)
          have HLAY := Lib.hid (spec_CountShortestWays.it_next HC.out hc')
          have HC' := Lib.hid hc'
          clear hc'
          go_upto_region 9 with (go_at_call 40; refine HDD.out.mono ?_; rintro e w8 ⟨rfl, hb8⟩; have HV8 := Lib.hid (HV.out.below hb8); clear hb8)
          clear HV HDD hcz0 hcz1 hcz2 t1 t2 t3
          go_wp2
          go_loopg [59] N (fun gn v59 wr => ∃ (a : Nat) (c2 : List Int), v59 = .int .i64 a ∧ gn = N - a ∧ a ≤ N ∧ Hid (spec_CountShortestWays.it (spec_CountShortestWays.cel k a0_0 a0_1 l0_2 far (n + 1)) c a = some c2) ∧ Hid (spec_CountShortestWays.WV w wr B a0_0 a0_1 (.slice A0_2 l0_2.length c0_2) g (.slice (some fa) N fc) far c2))
          case atStart => exact ⟨0, c, rfl, by omega, by omega, Lib.hid rfl, HV8⟩
          case round =>
            clear HV8
            obtain ⟨a, c2, rfl, hga, haN, HY, HV⟩ := hrel
            by_cases ha : a < N
            · have hlay := HLAY.out
              unfold spec_CountShortestWays.lay at hlay
              rw [← HFL.out] at hlay
              obtain ⟨c2', hc2'⟩ := spec_CountShortestWays.it_at hlay (N - (a + 1)) (a + 1) (by omega)
              have hcel := spec_CountShortestWays.it_next HY.out hc2'
              have HY' := Lib.hid hc2'
              have HYL := Lib.hid (spec_CountShortestWays.it_inv (P := fun c : List Int => c.length = N) (fun _ _ _ hs h => spec_CountShortestWays.cel_len hs h) HCL.out HY.out)
              have hfc := HV.out.fcell ha
              have a0 : (0 : Int) ≤ (a : Int) := by omega
              have a1 : (a : Int) < (N : Int) := by omega
              unfold spec_CountShortestWays.cel at hcel
              clear hlay hc2'
              by_cases hR : rd far (a : Int) = ((n + 1 : Nat) : Int)
              · rw [if_pos hR] at hcel
                rw [hR] at hfc
                have HCEL := Lib.hid hcel
                clear hcel hR
                have kc := fun (w : World) (C : Array Value) (n c : Nat) => Lib.run_convert_bytes_const (P := Try.prog) w 65 5 C n c Try.underlying65 Try.underlying5
                go_wp2
                have HV1 := Lib.hid (HV.out.below (below_alloc (Below.refl _ _) (.cells #[.int .u8 101, .int .u8 110, .int .u8 115, .int .u8 119] 5 (4, 5))))
                have HB1 := Lib.hid (show spec_avFar.BY (wr.alloc (.cells #[.int .u8 101, .int .u8 110, .int .u8 115, .int .u8 119] 5 (4, 5))) wr.heap.size from spec_avFar.blk_new' wr _)
                clear hfc kc HV
                generalize (wr.alloc (.cells #[.int .u8 101, .int .u8 110, .int .u8 115, .int .u8 119] 5 (4, 5))) = Wb at HV1 HB1 ⊢
                obtain ⟨gb, hgb⟩ : ∃ gb, gb = wr.heap.size := ⟨_, rfl⟩
                rw [← hgb] at HB1 ⊢
                clear hgb
                go_loopg [70] 4 (fun gn v70 wr => ∃ (m : Nat) (c3 : List Int), v70 = .int .i64 m ∧ gn = 4 - m ∧ m ≤ 4 ∧ Hid (spec_CountShortestWays.it (spec_CountShortestWays.one k a0_0 a0_1 l0_2 far (n + 1) a) c2 m = some c3) ∧ Hid (spec_CountShortestWays.WV w wr B a0_0 a0_1 (.slice A0_2 l0_2.length c0_2) g (.slice (some fa) N fc) far c3) ∧ Hid (spec_avFar.BY wr gb))
                case atStart => exact ⟨0, c2, rfl, by omega, by omega, Lib.hid rfl, HV1, HB1⟩
                case round =>
                  clear HV1 HB1
                  obtain ⟨m, c3, rfl, hgm, hm, HM, HV, HB⟩ := hrel
                  by_cases hm4 : m < 4
                  · obtain ⟨c3', hc3'⟩ := spec_CountShortestWays.it_at HCEL.out (4 - (m + 1)) (m + 1) (by omega)
                    have hone := spec_CountShortestWays.it_next HM.out hc3'
                    have HM' := Lib.hid hc3'
                    have HML := Lib.hid (spec_CountShortestWays.it_inv (P := fun c : List Int => c.length = N) (fun _ _ _ hs h => spec_CountShortestWays.one_len hs h) HYL.out HM.out)
                    have hby := HB.out.cell hm4
                    have hm0 : (0 : Int) ≤ (m : Int) := by omega
                    have hm1 : (m : Int) < 4 := by omega
                    obtain ⟨u, v, o, hst, hcase⟩ := spec_CountShortestWays.one_cases hone
                    have HC1 := Lib.hid hcase
                    generalize spec_avFar.sg m = sg at hby hst
                    have HST := Lib.hid hst
                    clear hone hcase hst hc3'
                    have hcz0 : wr.cell? ⟨B, 0, none⟩ = some (.int .i64 a0_0) := (blk_cell HV.out.box 0).trans rfl
                    have hcz1 : wr.cell? ⟨B, 1, none⟩ = some (.int .i64 a0_1) := (blk_cell HV.out.box 1).trans rfl
                    have hcz2 : wr.cell? ⟨B, 2, none⟩ = some (.slice A0_2 l0_2.length c0_2) := (blk_cell HV.out.box 2).trans rfl
                    have eq1 : IntKind.i64.wrap ((a : Int).tdiv a0_1) = (a : Int) / a0_1 := by rw [Int.tdiv_eq_ediv_of_nonneg a0]; exact IntWalk.i64_in _ ⟨by have := Int.ediv_nonneg a0 (show 0 ≤ a0_1 by have := HWH.out; omega); omega, by have := Int.ediv_le_self a0_1 a0; omega⟩
                    have eq3 : IntKind.i64.wrap ((a : Int) / a0_1) = (a : Int) / a0_1 := by rw [← Int.tdiv_eq_ediv_of_nonneg a0, eq1, Int.tdiv_eq_ediv_of_nonneg a0]
                    have eq2 : (a : Int).tmod a0_1 = (a : Int) % a0_1 := Int.tmod_eq_emod_of_nonneg a0
                    go_wp2
                    go_region_held3 (fun w' => w'.cell? ⟨B, 0, none⟩ = some (.int .i64 a0_0) ∧ w'.cell? ⟨B, 1, none⟩ = some (.int .i64 a0_1) ∧ w'.cell? ⟨B, 2, none⟩ = some (.slice A0_2 l0_2.length c0_2)) (first | go_keep | (exact ⟨pw_cell_below hb2 (by assumption), pw_cell_below hb2 (by assumption), pw_cell_below hb2 (by assumption)⟩))
                      (first | (go_at_call 42; (with_reducible refine (spec_avStep.calls k a0_0 a0_1 A0_2 c0_2 l0_2 ((a : Int) / a0_1) ((a : Int) % a0_1) sg u v o _ (Kd.C_below HL.out (by first | exact HV.out.bel | exact below_drew HV.out.bel | exact pw_below_drewN HV.out.bel _)) hc0_2 HST.out).mono ?_); rintro e w2 ⟨rfl, hb2⟩))
                    have HV2 := Lib.hid ((HV.out.below (below_drew (Below.refl _ _))).below hb2)
                    have HB2 := Lib.hid ((HB.out.below (below_drew (Below.refl _ _))).below hb2)
                    clear hb2 hcz0 hcz1 hcz2 hby HV HB eq1 eq2 eq3
                    have hcz1 : w2.cell? ⟨B, 1, none⟩ = some (.int .i64 a0_1) := (blk_cell HV2.out.box 1).trans rfl
                    rcases HC1.out with ⟨rfl, rfl⟩ | ⟨rfl, p', hp', hpl, ⟨hq, rfl⟩ | ⟨hq, rfl⟩⟩
                    · clear HC1
                      go_wp2
                      go_roundg (4 - (m + 1))
                      case measure => omega
                      case rel => exact ⟨m + 1, _, by go_num, rfl, by omega, HM', HV2, HB2⟩
                    · have hpN' : p' < N := by have := HFL.out; omega
                      have hfp := HV2.out.fcell hpN'
                      rw [hq] at hfp
                      have hc1' := HV2.out.cell (show a < c3.length by rw [HML.out]; exact ha)
                      have hc2'' := HV2.out.cell (show p' < c3.length by rw [HML.out]; exact hpN')
                      have hfz := blk_frozen HV2.out.ways a
                      have pp0 : (0 : Int) ≤ (p' : Int) := by omega
                      have pp1 : (p' : Int) < (N : Int) := by omega
                      have HPP := Lib.hid hpN'
                      clear HC1 hq hpl hpN'
                      go_upto_region 19 with (fail)
                      clear hcz1 hfp
                      have HV3 := Lib.hid (HV2.out.below (below_drew (Below.refl _ _)))
                      have HB3 := Lib.hid (HB2.out.below (below_drew (Below.refl _ _)))
                      have HST3 := Lib.hid (HV3.out.set a (wrap64 (rd c3 (a : Int) + rd c3 (p' : Int))))
                      have HBT3 := Lib.hid (spec_CountShortestWays.BY_set HB3.out HV3.out a (.int .i64 (wrap64 (rd c3 (a : Int) + rd c3 (p' : Int)))))
                      clear HST
                      generalize rd c3 (a : Int) = V1 at hc1' HST3 HBT3 HM'
                      generalize rd c3 (p' : Int) = V2 at hc2'' HST3 HBT3 HM'
                      go_still_tail 10, (by kernel_rfl)
                      change wpList _ _ _ _ _ w2.drew
                      have j1 : w2.drew.cell? ⟨g, a, none⟩ = some (.int .i64 V1) := hc1'
                      have j3 : w2.drew.frozen? ⟨g, a, none⟩ = false := hfz
                      clear hc1' hc2'' hfz HV2 HB2 HV3 HB3 hp'
                      generalize w2.drew = W9 at HST3 HBT3 j1 j3 ⊢
                      go_wp2
                      go_roundg (4 - (m + 1))
                      case measure => omega
                      case rel => exact ⟨m + 1, _, by go_num, rfl, by omega, HM', HST3, HBT3⟩
                    · have hpN' : p' < N := by have := HFL.out; omega
                      have hfp := HV2.out.fcell hpN'
                      generalize rd far (p' : Int) = F at hfp hq
                      have z1 : (F == ((n + 1 : Nat) : Int) - 1) = false := by simpa using hq
                      have z3 : decide (F = ((n + 1 : Nat) : Int) - 1) = false := decide_eq_false hq
                      have z4 : (F == (n : Int)) = false := by have h0 : ¬ F = (n : Int) := by omega
                                                               simpa using h0
                      have pp0 : (0 : Int) ≤ (p' : Int) := by omega
                      have pp1 : (p' : Int) < (N : Int) := by omega
                      clear HC1 hpl hpN' hq
                      go_wp2
                      go_roundg (4 - (m + 1))
                      case measure => omega
                      case rel => exact ⟨m + 1, _, by go_num, rfl, by omega, HM', HV2, HB2⟩
                  · obtain rfl : m = 4 := by omega
                    obtain rfl := Option.some.inj (HM.out.symm.trans HCEL.out)
                    go_wp2
                    go_roundg (N - (a + 1))
                    case measure => omega
                    case rel => exact ⟨a + 1, c3, by go_num, rfl, by omega, HY', HV⟩
              · rw [if_neg hR] at hcel
                obtain rfl := Option.some.inj hcel
                generalize rd far (a : Int) = F at hfc hR
                have z1 : (F == ((n + 1 : Nat) : Int)) = false := by simpa using hR
                have z2 : (F != ((n + 1 : Nat) : Int)) = true := by simpa using hR
                have z3 : decide (F = ((n + 1 : Nat) : Int)) = false := decide_eq_false hR
                clear hcel
                go_wp2
                go_roundg (N - (a + 1))
                case measure => omega
                case rel => exact ⟨a + 1, c2, by go_num, rfl, by omega, HY', HV⟩
            · obtain rfl : a = N := by omega
              have hlay := HLAY.out
              unfold spec_CountShortestWays.lay at hlay
              rw [← HFL.out] at hlay
              obtain rfl := Option.some.inj (HY.out.symm.trans hlay)
              clear hlay
              go_wp2
              go_roundg (D - (n + 1))
              case measure => omega
              case rel => exact ⟨n + 1, c2, by go_num, rfl, by omega, HC', HV⟩
        · obtain rfl : n = D := by omega
          obtain rfl := Option.some.inj (HC.out.symm.trans HCF.out)
          have t1 : decide (n + 1 ≤ n) = false := decide_eq_false (by omega)
          have t2 : ¬ ((n + 1 : Nat) : Int) ≤ (n : Int) := by omega
          go_upto_region 22 with (go_at_call 40; refine HDD.out.mono ?_; rintro e w8 ⟨rfl, hb8⟩; have HV8 := Lib.hid (HV.out.below hb8); clear hb8)
          clear HV HDD hcz0 hcz1 hcz2 t1 t2
          obtain ⟨ad1, e1a, _, hx1, hy1⟩ := spec_avFar.two (Kd.C_below HA.out HV8.out.bel)
          subst e1a
          have hcz1 : w8.cell? ⟨B, 1, none⟩ = some (.int .i64 a0_1) := (blk_cell HV8.out.box 1).trans rfl
          have hcell := HV8.out.cell (show p < c.length by rw [HCL.out]; exact hpN)
          obtain ⟨e1, e2, _, _⟩ := HEQ.out
          go_quiet (fail)
          go_wp2
          go_ret2
          exact ⟨rfl, pw_below_drewN HV8.out.bel _⟩
def impl_within.f (a0 : Int) (a1 : Int) (a2 : Int) : Option (Bool) := if a0 ≥ a1 then (some (decide (a0 ≤ a2))) else (some false)
set_option maxHeartbeats 8000000 in
set_option maxRecDepth 100000 in
theorem impl_within.calls (a0 : Int) (a1 : Int) (a2 : Int) (r : Bool) (w : World) (h : impl_within.f a0 a1 a2 = some r) :
  Calls Try.prog 61 #[.int .i64 a0, .int .i64 a1, .int .i64 a2] w fun e w' => e = .returned (.bool r) ∧ Drawn0 w w' := by
 have H : (if a0 ≥ a1 then (some (decide (a0 ≤ a2))) else (some false)) = some r := h
 clear h
 by_cases c4 : a0 ≥ a1
 ·rw [if_pos c4] at H
  have c4b0 : decide (a1 ≤ a0) = true := decide_eq_true c4
  clear c4
  obtain rfl := Option.some.inj H
  go_enter Try.func61, Try.ntmps61
  go_wp2
  go_ret
  exact ⟨by first | rfl | (simp; done) | (simp [*]; done), by repeat (first | exact Drawn0.refl _ | apply Drawn0.step)⟩
 ·rw [if_neg c4] at H
  have c4b0 : decide (a1 ≤ a0) = false := decide_eq_false c4
  clear c4
  obtain rfl := Option.some.inj H
  go_enter Try.func61, Try.ntmps61
  go_wp2
  go_ret
  exact ⟨by first | rfl | (simp; done) | (simp [*]; done), by repeat (first | exact Drawn0.refl _ | apply Drawn0.step)⟩
def cmp_Or_int.l0 : Nat → Int → List Int → Int → Int → Option (Int)
 | 0, _, _, _, _ => none
 | k + 1, x3, x6, x7, x8 => if x8 < x7 then (if 0 ≤ x8 then (if x8 < (x6.length : Int) then (if (rd x6 x8) = x3 then (cmp_Or_int.l0 k x3 x6 x7 (wrap64 (x8 + 1))) else (some (rd x6 x8))) else (none)) else (none)) else (some x3)
def cmp_Or_int.f (k : Nat) (l0 : List Int) : Option (Int) := cmp_Or_int.l0 k 0 l0 (l0.length : Int) 0
theorem cmp_Or_int.mono_l : ∀ k, (∀ y0 y1 y2 y3, LeO (cmp_Or_int.l0 k y0 y1 y2 y3) (cmp_Or_int.l0 (k + 1) y0 y1 y2 y3))
 | 0 => fun _ _ _ _ r h => by simp [cmp_Or_int.l0] at h
 | k + 1 => by
  have ih0 := cmp_Or_int.mono_l k
  ·intro y0 y1 y2 y3
   unfold cmp_Or_int.l0
   repeat' first
   | (with_reducible exact ih0 _ _ _ _)
   | (with_reducible exact LeO.refl _)
   | (with_reducible exact LeO.none _)
   | (with_reducible refine LeO.ite ?_ ?_)
   | (with_reducible refine LeO.bind ?_ (fun _ => ?_))
   | exact ih0 _ _ _ _
   | exact LeO.none _
   | refine LeO.ite ?_ ?_
   | refine LeO.bind ?_ (fun _ => ?_)
theorem cmp_Or_int.mono : ∀ a0 k, LeO (cmp_Or_int.f k a0) (cmp_Or_int.f (k + 1) a0) := by
 intro a0 k
 have ih0 := cmp_Or_int.mono_l k
 unfold cmp_Or_int.f
 repeat' first
   | (with_reducible exact ih0 _ _ _ _)
   | (with_reducible exact LeO.refl _)
   | (with_reducible exact LeO.none _)
   | (with_reducible refine LeO.ite ?_ ?_)
   | (with_reducible refine LeO.bind ?_ (fun _ => ?_))
   | exact ih0 _ _ _ _
   | exact LeO.none _
   | refine LeO.ite ?_ ?_
   | refine LeO.bind ?_ (fun _ => ?_)
set_option maxHeartbeats 8000000 in
set_option maxRecDepth 100000 in
theorem cmp_Or_int.calls (k : Nat) (A0 : Option Addr) (c0 : Nat) (l0 : List Int) (r : Int) (w : World) (hr0 : Kd.C (Kd.int .i64) w A0 l0.length l0) (hc0 : l0.length ≤ c0) (h : cmp_Or_int.f k l0 = some r) :
  Calls Try.prog 80 #[.slice A0 l0.length c0] w fun e w' => e = .returned (.int .i64 r) ∧ Drawn0 w w' := by
 have HR0 := Aside0.mk hr0
 have HC0 := Aside0.mk hc0
 clear hr0 hc0
 have H : (cmp_Or_int.l0 k 0 l0 (l0.length : Int) 0) = some r := h
 clear h
 have H' := Aside0.mk H
 clear H
 go_enter Try.func80, Try.ntmps80
 go_wp2
 go_loopg [8] k (fun kq v8 w' => ∃ (x8_1 : Int), v8 = .int .i64 x8_1 ∧ Aside0 (cmp_Or_int.l0 kq 0 l0 (l0.length : Int) x8_1 = some r) ∧ Aside0 (kq ≤ k) ∧ Drawn0 w w')
 case atStart => exact ⟨(0), (by first | rfl | (simp; done) | (simp [*]; done)), H', ⟨Nat.le_refl _⟩, by repeat (first | exact Drawn0.refl _ | apply Drawn0.step)⟩
 case round =>
  clear H'
  obtain ⟨x8_1, rfl, HA, HK1, ⟨m1, rfl⟩⟩ := hrel
  cases gk with
  | zero => exact absurd HA.out (by simp [cmp_Or_int.l0])
  | succ k1 =>
   have H := HA.out
   clear HA
   simp only [cmp_Or_int.l0] at H
   by_cases c2 : x8_1 < (l0.length : Int)
   ·rw [if_pos c2] at H
    have c2b0 : decide (x8_1 < (l0.length : Int)) = true := decide_eq_true c2
    clear c2
    by_cases c3 : 0 ≤ x8_1
    ·rw [if_pos c3] at H
     have c3b0 : decide (0 ≤ x8_1) = true := decide_eq_true c3
     clear c3
     by_cases c4 : x8_1 < (l0.length : Int)
     ·rw [if_pos c4] at H
      have c4b0 : decide (x8_1 < (l0.length : Int)) = true := decide_eq_true c4
      clear c4
      by_cases c5 : (rd l0 x8_1) = 0
      ·rw [if_pos c5] at H
       have c5b0 : ((rd l0 x8_1) == 0) = true := beq_iff_eq.mpr c5
       have c5b1 : ((rd l0 x8_1) != 0) = false := bne_eq_false_iff_eq.mpr c5
       clear c5
       have H' := Aside0.mk H
       clear H
       have p160 : 0 ≤ (x8_1 : Int) := of_decide_eq_true (by first | (with_reducible assumption) | assumption)
       have q160 : x8_1 < (l0.length : Int) := of_decide_eq_true (by first | (with_reducible assumption) | assumption)
       obtain ⟨ad160, e160, hx160_0⟩ := Kd.at_int HR0.out x8_1 p160 q160
       cases e160
       replace p160 := eq_true p160
       replace q160 := eq_true q160
       go_wp2
       go_roundg k1
       case measure => have := HK1.out; omega
       case rel => exact ⟨(wrap64 (x8_1 + 1)), (by first | rfl | (simp; done) | (simp [*]; done)), H', ⟨by have := HK1.out; omega⟩, by repeat (first | exact Drawn0.refl _ | apply Drawn0.step)⟩
      ·rw [if_neg c5] at H
       have c5b0 : ((rd l0 x8_1) == 0) = false := beq_eq_false_iff_ne.mpr c5
       have c5b1 : ((rd l0 x8_1) != 0) = true := bne_iff_ne.mpr c5
       obtain rfl := Option.some.inj H
       have p160 : 0 ≤ (x8_1 : Int) := of_decide_eq_true (by first | (with_reducible assumption) | assumption)
       have q160 : x8_1 < (l0.length : Int) := of_decide_eq_true (by first | (with_reducible assumption) | assumption)
       obtain ⟨ad160, e160, hx160_0⟩ := Kd.at_int HR0.out x8_1 p160 q160
       cases e160
       replace p160 := eq_true p160
       replace q160 := eq_true q160
       go_wp2
       go_ret
       exact ⟨by first | rfl | (simp; done) | (simp [*]; done), by repeat (first | exact Drawn0.refl _ | apply Drawn0.step)⟩
     ·rw [if_neg c4] at H
      exact absurd H (by simp)
    ·rw [if_neg c3] at H
     exact absurd H (by simp)
   ·rw [if_neg c2] at H
    have c2b0 : decide (x8_1 < (l0.length : Int)) = false := decide_eq_false c2
    clear c2
    obtain rfl := Option.some.inj H
    go_wp2
    go_ret
    exact ⟨by first | rfl | (simp; done) | (simp [*]; done), by repeat (first | exact Drawn0.refl _ | apply Drawn0.step)⟩
def cmp_isNaN_int.f (a0 : Int) : Option (Bool) := some (a0 != a0)
set_option maxHeartbeats 8000000 in
set_option maxRecDepth 100000 in
theorem cmp_isNaN_int.calls (a0 : Int) (r : Bool) (w : World) (h : cmp_isNaN_int.f a0 = some r) :
  Calls Try.prog 95 #[.int .i64 a0] w fun e w' => e = .returned (.bool r) ∧ Drawn0 w w' := by
 have H : (some (a0 != a0)) = some r := h
 clear h
 obtain rfl := Option.some.inj H
 go_enter Try.func95, Try.ntmps95
 go_wp2
 go_ret
 exact ⟨by first | rfl | (simp; done) | (simp [*]; done), by repeat (first | exact Drawn0.refl _ | apply Drawn0.step)⟩
def cmp_Compare_int.f (a0 : Int) (a1 : Int) : Option (Int) := (cmp_isNaN_int.f a0).bind fun t161 => ((cmp_isNaN_int.f a1).bind fun t162 => (if t161 = true then (if t162 = true then (some 0) else (some (-1))) else (if t162 = true then (some 1) else (if a0 < a1 then (some (-1)) else (if a0 > a1 then (some 1) else (some 0))))))
set_option maxHeartbeats 8000000 in
set_option maxRecDepth 100000 in
theorem cmp_Compare_int.calls (a0 : Int) (a1 : Int) (r : Int) (w : World) (h : cmp_Compare_int.f a0 a1 = some r) :
  Calls Try.prog 81 #[.int .i64 a0, .int .i64 a1] w fun e w' => e = .returned (.int .i64 r) ∧ Drawn0 w w' := by
 have H : ((cmp_isNaN_int.f a0).bind fun t161 => ((cmp_isNaN_int.f a1).bind fun t162 => (if t161 = true then (if t162 = true then (some 0) else (some (-1))) else (if t162 = true then (some 1) else (if a0 < a1 then (some (-1)) else (if a0 > a1 then (some 1) else (some 0))))))) = some r := h
 clear h
 replace H := Option.bind_eq_some_iff.mp H
 obtain ⟨t161, A30, H⟩ := H
 replace H : ((cmp_isNaN_int.f a1).bind fun t162 => (if t161 = true then (if t162 = true then (some 0) else (some (-1))) else (if t162 = true then (some 1) else (if a0 < a1 then (some (-1)) else (if a0 > a1 then (some 1) else (some 0)))))) = some r := H
 have A3 := Aside0.mk A30
 clear A30
 replace H := Option.bind_eq_some_iff.mp H
 obtain ⟨t162, A40, H⟩ := H
 replace H : (if t161 = true then (if t162 = true then (some 0) else (some (-1))) else (if t162 = true then (some 1) else (if a0 < a1 then (some (-1)) else (if a0 > a1 then (some 1) else (some 0))))) = some r := H
 have A4 := Aside0.mk A40
 clear A40
 by_cases c5 : t161 = true
 ·subst c5
  have H1 : (if t162 = true then (some 0) else (some (-1))) = some r := by rw [if_pos rfl] at H; exact H
  clear H
  have H := H1
  clear H1
  by_cases c6 : t162 = true
  ·subst c6
   have H1 : (some 0) = some r := by rw [if_pos rfl] at H; exact H
   clear H
   have H := H1
   clear H1
   obtain rfl := Option.some.inj H
   go_enter Try.func81, Try.ntmps81
   go_wp2_with (first | ((with_reducible refine gate_callee (f := 95) rfl ?_); refine goesL_ (some 8) rfl rfl Try.func95 (by kernel_rfl) rfl #[.int .i64 a0] rfl (by (try simp only [List.map_toArray, List.map_cons, List.map_nil]); first | done | rfl | (simp only [List.length_drop, List.length_take]; rfl)) ?_; (with_reducible refine (cmp_isNaN_int.calls a0 true _ A3.out).mono ?_); rintro e w' ⟨rfl, ⟨nd, rfl⟩⟩; refine ⟨_, rfl, ?_⟩) | ((with_reducible refine gate_callee (f := 95) rfl ?_); refine goesL_ (some 10) rfl rfl Try.func95 (by kernel_rfl) rfl #[.int .i64 a1] rfl (by (try simp only [List.map_toArray, List.map_cons, List.map_nil]); first | done | rfl | (simp only [List.length_drop, List.length_take]; rfl)) ?_; (with_reducible refine (cmp_isNaN_int.calls a1 true _ A4.out).mono ?_); rintro e w' ⟨rfl, ⟨nd, rfl⟩⟩; refine ⟨_, rfl, ?_⟩))
   go_ret
   exact ⟨by first | rfl | (simp; done) | (simp [*]; done), by repeat (first | exact Drawn0.refl _ | apply Drawn0.step)⟩
  ·replace c6 := Bool.eq_false_iff.mpr c6
   subst c6
   have H1 : (some (-1)) = some r := by rw [if_neg (show ¬ (false = true) by decide)] at H; exact H
   clear H
   have H := H1
   clear H1
   obtain rfl := Option.some.inj H
   go_enter Try.func81, Try.ntmps81
   go_wp2_with (first | ((with_reducible refine gate_callee (f := 95) rfl ?_); refine goesL_ (some 8) rfl rfl Try.func95 (by kernel_rfl) rfl #[.int .i64 a0] rfl (by (try simp only [List.map_toArray, List.map_cons, List.map_nil]); first | done | rfl | (simp only [List.length_drop, List.length_take]; rfl)) ?_; (with_reducible refine (cmp_isNaN_int.calls a0 true _ A3.out).mono ?_); rintro e w' ⟨rfl, ⟨nd, rfl⟩⟩; refine ⟨_, rfl, ?_⟩) | ((with_reducible refine gate_callee (f := 95) rfl ?_); refine goesL_ (some 10) rfl rfl Try.func95 (by kernel_rfl) rfl #[.int .i64 a1] rfl (by (try simp only [List.map_toArray, List.map_cons, List.map_nil]); first | done | rfl | (simp only [List.length_drop, List.length_take]; rfl)) ?_; (with_reducible refine (cmp_isNaN_int.calls a1 false _ A4.out).mono ?_); rintro e w' ⟨rfl, ⟨nd, rfl⟩⟩; refine ⟨_, rfl, ?_⟩))
   go_ret
   exact ⟨by first | rfl | (simp; done) | (simp [*]; done), by repeat (first | exact Drawn0.refl _ | apply Drawn0.step)⟩
 ·replace c5 := Bool.eq_false_iff.mpr c5
  subst c5
  have H1 : (if t162 = true then (some 1) else (if a0 < a1 then (some (-1)) else (if a0 > a1 then (some 1) else (some 0)))) = some r := by rw [if_neg (show ¬ (false = true) by decide)] at H; exact H
  clear H
  have H := H1
  clear H1
  by_cases c7 : t162 = true
  ·subst c7
   have H1 : (some 1) = some r := by rw [if_pos rfl] at H; exact H
   clear H
   have H := H1
   clear H1
   obtain rfl := Option.some.inj H
   go_enter Try.func81, Try.ntmps81
   go_wp2_with (first | ((with_reducible refine gate_callee (f := 95) rfl ?_); refine goesL_ (some 8) rfl rfl Try.func95 (by kernel_rfl) rfl #[.int .i64 a0] rfl (by (try simp only [List.map_toArray, List.map_cons, List.map_nil]); first | done | rfl | (simp only [List.length_drop, List.length_take]; rfl)) ?_; (with_reducible refine (cmp_isNaN_int.calls a0 false _ A3.out).mono ?_); rintro e w' ⟨rfl, ⟨nd, rfl⟩⟩; refine ⟨_, rfl, ?_⟩) | ((with_reducible refine gate_callee (f := 95) rfl ?_); refine goesL_ (some 10) rfl rfl Try.func95 (by kernel_rfl) rfl #[.int .i64 a1] rfl (by (try simp only [List.map_toArray, List.map_cons, List.map_nil]); first | done | rfl | (simp only [List.length_drop, List.length_take]; rfl)) ?_; (with_reducible refine (cmp_isNaN_int.calls a1 true _ A4.out).mono ?_); rintro e w' ⟨rfl, ⟨nd, rfl⟩⟩; refine ⟨_, rfl, ?_⟩))
   go_ret
   exact ⟨by first | rfl | (simp; done) | (simp [*]; done), by repeat (first | exact Drawn0.refl _ | apply Drawn0.step)⟩
  ·replace c7 := Bool.eq_false_iff.mpr c7
   subst c7
   have H1 : (if a0 < a1 then (some (-1)) else (if a0 > a1 then (some 1) else (some 0))) = some r := by rw [if_neg (show ¬ (false = true) by decide)] at H; exact H
   clear H
   have H := H1
   clear H1
   by_cases c8 : a0 < a1
   ·rw [if_pos c8] at H
    have c8b0 : decide (a0 < a1) = true := decide_eq_true c8
    clear c8
    obtain rfl := Option.some.inj H
    go_enter Try.func81, Try.ntmps81
    go_wp2_with (first | ((with_reducible refine gate_callee (f := 95) rfl ?_); refine goesL_ (some 8) rfl rfl Try.func95 (by kernel_rfl) rfl #[.int .i64 a0] rfl (by (try simp only [List.map_toArray, List.map_cons, List.map_nil]); first | done | rfl | (simp only [List.length_drop, List.length_take]; rfl)) ?_; (with_reducible refine (cmp_isNaN_int.calls a0 false _ A3.out).mono ?_); rintro e w' ⟨rfl, ⟨nd, rfl⟩⟩; refine ⟨_, rfl, ?_⟩) | ((with_reducible refine gate_callee (f := 95) rfl ?_); refine goesL_ (some 10) rfl rfl Try.func95 (by kernel_rfl) rfl #[.int .i64 a1] rfl (by (try simp only [List.map_toArray, List.map_cons, List.map_nil]); first | done | rfl | (simp only [List.length_drop, List.length_take]; rfl)) ?_; (with_reducible refine (cmp_isNaN_int.calls a1 false _ A4.out).mono ?_); rintro e w' ⟨rfl, ⟨nd, rfl⟩⟩; refine ⟨_, rfl, ?_⟩))
    go_ret
    exact ⟨by first | rfl | (simp; done) | (simp [*]; done), by repeat (first | exact Drawn0.refl _ | apply Drawn0.step)⟩
   ·rw [if_neg c8] at H
    have c8b0 : decide (a0 < a1) = false := decide_eq_false c8
    clear c8
    by_cases c9 : a0 > a1
    ·rw [if_pos c9] at H
     have c9b0 : decide (a1 < a0) = true := decide_eq_true c9
     clear c9
     obtain rfl := Option.some.inj H
     go_enter Try.func81, Try.ntmps81
     go_wp2_with (first | ((with_reducible refine gate_callee (f := 95) rfl ?_); refine goesL_ (some 8) rfl rfl Try.func95 (by kernel_rfl) rfl #[.int .i64 a0] rfl (by (try simp only [List.map_toArray, List.map_cons, List.map_nil]); first | done | rfl | (simp only [List.length_drop, List.length_take]; rfl)) ?_; (with_reducible refine (cmp_isNaN_int.calls a0 false _ A3.out).mono ?_); rintro e w' ⟨rfl, ⟨nd, rfl⟩⟩; refine ⟨_, rfl, ?_⟩) | ((with_reducible refine gate_callee (f := 95) rfl ?_); refine goesL_ (some 10) rfl rfl Try.func95 (by kernel_rfl) rfl #[.int .i64 a1] rfl (by (try simp only [List.map_toArray, List.map_cons, List.map_nil]); first | done | rfl | (simp only [List.length_drop, List.length_take]; rfl)) ?_; (with_reducible refine (cmp_isNaN_int.calls a1 false _ A4.out).mono ?_); rintro e w' ⟨rfl, ⟨nd, rfl⟩⟩; refine ⟨_, rfl, ?_⟩))
     go_ret
     exact ⟨by first | rfl | (simp; done) | (simp [*]; done), by repeat (first | exact Drawn0.refl _ | apply Drawn0.step)⟩
    ·rw [if_neg c9] at H
     have c9b0 : decide (a1 < a0) = false := decide_eq_false c9
     clear c9
     obtain rfl := Option.some.inj H
     go_enter Try.func81, Try.ntmps81
     go_wp2_with (first | ((with_reducible refine gate_callee (f := 95) rfl ?_); refine goesL_ (some 8) rfl rfl Try.func95 (by kernel_rfl) rfl #[.int .i64 a0] rfl (by (try simp only [List.map_toArray, List.map_cons, List.map_nil]); first | done | rfl | (simp only [List.length_drop, List.length_take]; rfl)) ?_; (with_reducible refine (cmp_isNaN_int.calls a0 false _ A3.out).mono ?_); rintro e w' ⟨rfl, ⟨nd, rfl⟩⟩; refine ⟨_, rfl, ?_⟩) | ((with_reducible refine gate_callee (f := 95) rfl ?_); refine goesL_ (some 10) rfl rfl Try.func95 (by kernel_rfl) rfl #[.int .i64 a1] rfl (by (try simp only [List.map_toArray, List.map_cons, List.map_nil]); first | done | rfl | (simp only [List.length_drop, List.length_take]; rfl)) ?_; (with_reducible refine (cmp_isNaN_int.calls a1 false _ A4.out).mono ?_); rintro e w' ⟨rfl, ⟨nd, rfl⟩⟩; refine ⟨_, rfl, ?_⟩))
     go_ret
     exact ⟨by first | rfl | (simp; done) | (simp [*]; done), by repeat (first | exact Drawn0.refl _ | apply Drawn0.step)⟩
end Go.Proofs.Ytpedofomfhmnfaa.PFnExactCountShortestWays
