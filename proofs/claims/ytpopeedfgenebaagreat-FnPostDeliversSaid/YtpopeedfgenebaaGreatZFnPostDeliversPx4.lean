/- Cut by wip/cut.py out of the texts of this claim (printed by the kit's printer, or this session's own): what the row's theorem does not reach is struck. Not trusted: Lean checks it. -/
import Derived.Test.YtpopeedfgenebaaGreatZFnPostDeliversPx0
import Derived.Test.YtpopeedfgenebaaGreatZFnPostDeliversPx3
namespace Go.Proofs.YtpopeedfgenebaaGreat.PFnPostDelivers
open Go.RowKit Go.Proofs.YtpopeedfgenebaaGreatW.PrintWords Go.Proofs.YtpopeedfgenebaaGreatW.PrintLast Go.Proofs.YtpopeedfgenebaaGreatW.PrintMore
attribute [local go_sem] zq zo zx zw zk zj zp zn
set_option linter.unusedVariables false
set_option linter.unusedSimpArgs false
def impl_bestRoute.cross (b s t : Int) : Int := (impl_crossingsAt.f b s t).getD 0
theorem impl_bestRoute.cross_f (b s t : Int) : impl_crossingsAt.f b s t = some (impl_bestRoute.cross b s t) ∧ 0 ≤ impl_bestRoute.cross b s t ∧ impl_bestRoute.cross b s t ≤ 2 := by
 have h : ∃ r, impl_crossingsAt.f b s t = some r ∧ 0 ≤ r ∧ r ≤ 2 := by
  unfold impl_crossingsAt.f
  repeat' split
  all_goals exact ⟨_, rfl, (by omega), (by omega)⟩
 obtain ⟨r, hr, h0, h1⟩ := h
 unfold impl_bestRoute.cross
 rw [hr]
 exact ⟨rfl, h0, h1⟩
def impl_bestRoute.upd (own cn : Int) (p : Int × Int) : Int × Int := if own < p.1 then (own, mn 1000000000000001 (0 + cn)) else if own = p.1 then (p.1, mn 1000000000000001 (p.2 + cn)) else p
def impl_bestRoute.side (b : Int) (R : (Nat → Int) × (Nat → Int)) (s : Nat) : Nat → Int × Int
 | 0 => (1000000, 0)
 | t + 1 => impl_bestRoute.upd (impl_bestRoute.cross b s t + R.1 t) (R.2 t) (impl_bestRoute.side b R s t)
def impl_bestRoute.rowAt (e : (Nat → Int) × (Nat → Int)) : List Int → (Nat → Int) × (Nat → Int)
 | [] => e
 | b :: l => (fun s => (impl_bestRoute.side b (impl_bestRoute.rowAt e l) s 2).1, fun s => (impl_bestRoute.side b (impl_bestRoute.rowAt e l) s 2).2)
def impl_bestRoute.endRow (a : Int) : (Nat → Int) × (Nat → Int) := (fun s => if a ≠ 2 ∧ (s : Int) ≠ a then 1000000 else 0, fun s => if a ≠ 2 ∧ (s : Int) ≠ a then 0 else 1)
def impl_bestRoute.R (a0 : ByteArray) (a1 : Int) (j : Nat) : (Nat → Int) × (Nat → Int) := impl_bestRoute.rowAt (impl_bestRoute.endRow a1) ((bytesOf a0).drop j)
theorem impl_bestRoute.R_end (a0 : ByteArray) (a1 : Int) : impl_bestRoute.R a0 a1 a0.size = impl_bestRoute.endRow a1 := by
 unfold impl_bestRoute.R
 rw [List.drop_of_length_le by_]
 rfl
theorem impl_bestRoute.R_step (a0 : ByteArray) (a1 : Int) (j : Nat) (hj : j < a0.size) : impl_bestRoute.R a0 a1 j = (fun s => (impl_bestRoute.side (bt a0 j) (impl_bestRoute.R a0 a1 (j + 1)) s 2).1, fun s => (impl_bestRoute.side (bt a0 j) (impl_bestRoute.R a0 a1 (j + 1)) s 2).2) := by
 have hl : j < (bytesOf a0).length := by rw [bytesOf_length]; exact hj
 unfold impl_bestRoute.R
 rw [List.drop_eq_getElem_cons hl, impl_bestRoute.rowAt]
 have hb : (bytesOf a0)[j] = bt a0 j := by rw [← rd_bytesOf]; simp [rd, hl]
 rw [hb]
def impl_bestRoute.leave (a0 : ByteArray) (a1 : Int) (j s : Nat) : Nat := if impl_bestRoute.cross (bt a0 j) s 0 + (impl_bestRoute.R a0 a1 (j + 1)).1 0 = (impl_bestRoute.R a0 a1 j).1 s then 0 else 1
def impl_bestRoute.come (a0 : ByteArray) (a1 : Int) : Nat → Nat
 | 0 => 0
 | j + 1 => impl_bestRoute.leave a0 a1 j (impl_bestRoute.come a0 a1 j)
def impl_bestRoute.sides (a0 : ByteArray) (a1 : Int) (n : Nat) : List Int := (List.range n).map fun j => ((impl_bestRoute.come a0 a1 (j + 1) : Nat) : Int)
def impl_bestRoute.f (a0 : ByteArray) (a1 : Int) : Option (Int × List Int × Int) := if a0.size ≤ 60 then some ((impl_bestRoute.R a0 a1 0).1 0, impl_bestRoute.sides a0 a1 a0.size, (impl_bestRoute.R a0 a1 0).2 0) else none
def impl_bestRoute.Ok (p : Int × Int) : Prop := 0 ≤ p.1 ∧ p.1 ≤ 1000000 ∧ 0 ≤ p.2 ∧ p.2 ≤ 1000000000000001
theorem impl_bestRoute.upd_ok {own cn : Int} {p : Int × Int} (h : impl_bestRoute.Ok p) (h0 : 0 ≤ own) (h1 : 0 ≤ cn) (h2 : cn ≤ 1000000000000001) : impl_bestRoute.Ok (impl_bestRoute.upd own cn p) := by
 unfold impl_bestRoute.Ok at *
 unfold impl_bestRoute.upd mn
 exact lF_
theorem impl_bestRoute.side_ok {b : Int} {R : (Nat → Int) × (Nat → Int)} (hR : ∀ t, impl_bestRoute.Ok (R.1 t, R.2 t)) (s : Nat) : ∀ t, impl_bestRoute.Ok (impl_bestRoute.side b R s t)
 | 0 => by unfold impl_bestRoute.Ok impl_bestRoute.side; omega
 | t + 1 => by
  have h := hR t
  have hc := (impl_bestRoute.cross_f b s t).2
  unfold impl_bestRoute.Ok at h
  exact impl_bestRoute.upd_ok (impl_bestRoute.side_ok hR s t) (by have := h.1; simp only at this; omega) h.2.2.1 h.2.2.2
theorem impl_bestRoute.rowAt_ok {e : (Nat → Int) × (Nat → Int)} (he : ∀ t, impl_bestRoute.Ok (e.1 t, e.2 t)) : ∀ (l : List Int) (t : Nat), impl_bestRoute.Ok ((impl_bestRoute.rowAt e l).1 t, (impl_bestRoute.rowAt e l).2 t)
 | [], t => he t
 | b :: l, t => impl_bestRoute.side_ok (impl_bestRoute.rowAt_ok he l) t 2
theorem impl_bestRoute.R_ok (a0 : ByteArray) (a1 : Int) (j t : Nat) : impl_bestRoute.Ok ((impl_bestRoute.R a0 a1 j).1 t, (impl_bestRoute.R a0 a1 j).2 t) := by
 refine impl_bestRoute.rowAt_ok (fun t => ?_) _ t
 unfold impl_bestRoute.Ok impl_bestRoute.endRow
 simp only
 split <;> omega
def impl_bestRoute.arr (n : Nat) (f : Nat → Nat → Int) : Array Value := ((List.range (2 * (n + 1))).map fun k => Value.int .i64 (f (k / 2) (k % 2))).toArray
theorem impl_bestRoute.arr_at {n : Nat} (f : Nat → Nat → Int) {i s : Nat} (hi : i ≤ n) (hs : s < 2) : (impl_bestRoute.arr n f)[i * 2 + s]? = some (.int .i64 (f i s)) := by
 unfold impl_bestRoute.arr
 rw [List.getElem?_toArray, List.getElem?_map, List.getElem?_range (by omega), Option.map_some]
 rw [show (i * 2 + s) / 2 = i by omega, show (i * 2 + s) % 2 = s by omega]
theorem impl_bestRoute.arr_congr {n : Nat} {f g : Nat → Nat → Int} (h : ∀ i s, i ≤ n → s < 2 → f i s = g i s) : impl_bestRoute.arr n f = impl_bestRoute.arr n g := by
 unfold impl_bestRoute.arr
 congr 1
 exact List.map_congr_left (fun k hk => by rw [h (k / 2) (k % 2) (by have := List.mem_range.1 hk; omega) (by omega)])
theorem impl_bestRoute.arr_set {n : Nat} (f : Nat → Nat → Int) {i0 s0 : Nat} (hs : s0 < 2) (x : Int) : (impl_bestRoute.arr n f).setIfInBounds (i0 * 2 + s0) (.int .i64 x) = impl_bestRoute.arr n (fun i s => if i = i0 ∧ s = s0 then x else f i s) := by
 unfold impl_bestRoute.arr
 rw [sA_]
 congr 1
 apply List.ext_getElem
 ·simp
 ·intro k h1 h2
  simp only [List.length_set, List.length_map, List.length_range] at h1
  rw [List.getElem_set]
  simp only [List.getElem_map, List.getElem_range]
  by_cases e : i0 * 2 + s0 = k
  ·rw [if_pos e, if_pos (by omega)]
  ·rw [if_neg e, if_neg (by omega)]
def impl_bestRoute.BW (w wr : World) (F C n : Nat) (few cnt : Nat → Nat → Int) : Prop :=
 wr.heap[F]? = some (.cells (impl_bestRoute.arr n few) 90 (0, 0)) ∧ wr.heap[C]? = some (.cells (impl_bestRoute.arr n cnt) 90 (0, 0)) ∧ F ≠ C ∧ w.heap.size ≤ F ∧ w.heap.size ≤ C ∧ Below w.heap.size w wr
section
variable {w wr : World} {F C n : Nat} {few cnt : Nat → Nat → Int}
theorem impl_bestRoute.BW.cF (h : impl_bestRoute.BW w wr F C n few cnt) {i s : Nat} (hi : i ≤ n) (hs : s < 2) : wr.cell? ⟨F, i * 2 + s, none⟩ = some (.int .i64 (few i s)) := by rw [qk h.1]; exact impl_bestRoute.arr_at few hi hs
theorem impl_bestRoute.BW.fF (h : impl_bestRoute.BW w wr F C n few cnt) (i : Nat) : wr.frozen? ⟨F, i, none⟩ = false := qi h.1 i
theorem impl_bestRoute.BW.cC (h : impl_bestRoute.BW w wr F C n few cnt) {i s : Nat} (hi : i ≤ n) (hs : s < 2) : wr.cell? ⟨C, i * 2 + s, none⟩ = some (.int .i64 (cnt i s)) := by rw [qk h.2.1]; exact impl_bestRoute.arr_at cnt hi hs
theorem impl_bestRoute.BW.fC (h : impl_bestRoute.BW w wr F C n few cnt) (i : Nat) : wr.frozen? ⟨C, i, none⟩ = false := qi h.2.1 i
theorem impl_bestRoute.BW.congr (h : impl_bestRoute.BW w wr F C n few cnt) {few' cnt' : Nat → Nat → Int} (he : ∀ i s, i ≤ n → s < 2 → few i s = few' i s ∧ cnt i s = cnt' i s) : impl_bestRoute.BW w wr F C n few' cnt' := by
 obtain ⟨h1, h2, h3⟩ := h
 refine ⟨?_, ?_, h3⟩
 ·rw [← impl_bestRoute.arr_congr (fun i s hi hs => (he i s hi hs).1)]; exact h1
 ·rw [← impl_bestRoute.arr_congr (fun i s hi hs => (he i s hi hs).2)]; exact h2
theorem impl_bestRoute.BW.drew (h : impl_bestRoute.BW w wr F C n few cnt) : impl_bestRoute.BW w wr.drew F C n few cnt := ⟨h.1, h.2.1, h.2.2.1, h.2.2.2.1, h.2.2.2.2.1, below_drew h.2.2.2.2.2⟩
theorem impl_bestRoute.BW.drewN (h : impl_bestRoute.BW w wr F C n few cnt) (k : Nat) : impl_bestRoute.BW w (wr.drewN k) F C n few cnt := ⟨h.1, h.2.1, h.2.2.1, h.2.2.2.1, h.2.2.2.2.1, qa h.2.2.2.2.2 k⟩
theorem impl_bestRoute.BW.alloc (h : impl_bestRoute.BW w wr F C n few cnt) (o : Obj) : impl_bestRoute.BW w (wr.alloc o) F C n few cnt := ⟨qg h.1 o, qg h.2.1 o, h.2.2.1, h.2.2.2.1, h.2.2.2.2.1, below_then h.2.2.2.2.2 h.2.2.2.2.2.size ((Below.refl _ _).alloc (Nat.le_refl _) o)⟩
theorem impl_bestRoute.BW.far (h : impl_bestRoute.BW w wr F C n few cnt) {p : Addr} (h1 : F ≠ p.block) (h2 : C ≠ p.block) (hp : w.heap.size ≤ p.block) (u : Value) : impl_bestRoute.BW w (wr.setCell p u) F C n few cnt := ⟨zm h.1 h1 u, zm h.2.1 h2 u, h.2.2.1, h.2.2.2.1, h.2.2.2.2.1, h.2.2.2.2.2.setCell hp u⟩
theorem impl_bestRoute.BW.setF (h : impl_bestRoute.BW w wr F C n few cnt) {i0 s0 : Nat} (hs0 : s0 < 2) (x : Int) : impl_bestRoute.BW w (wr.setCell ⟨F, i0 * 2 + s0, none⟩ (.int .i64 x)) F C n (fun i s => if i = i0 ∧ s = s0 then x else few i s) cnt := by
 obtain ⟨h1, h2, h3, h4, h5, h6⟩ := h
 refine ⟨?_, zm h2 (Ne.symm h3) _, h3, h4, h5, h6.setCell h4 _⟩
 have := blk_set h1 (i0 * 2 + s0) (.int .i64 x)
 rwa [impl_bestRoute.arr_set few hs0 x] at this
theorem impl_bestRoute.BW.setC (h : impl_bestRoute.BW w wr F C n few cnt) {i0 s0 : Nat} (hs0 : s0 < 2) (x : Int) : impl_bestRoute.BW w (wr.setCell ⟨C, i0 * 2 + s0, none⟩ (.int .i64 x)) F C n few (fun i s => if i = i0 ∧ s = s0 then x else cnt i s) := by
 obtain ⟨h1, h2, h3, h4, h5, h6⟩ := h
 refine ⟨zm h1 h3 _, ?_, h3, h4, h5, h6.setCell h5 _⟩
 have := blk_set h2 (i0 * 2 + s0) (.int .i64 x)
 rwa [impl_bestRoute.arr_set cnt hs0 x] at this
end
theorem impl_bestRoute.info : (Tryz.prog.info? 90).map (fun i => (i.zero, i.size, i.bytes)) = some (some (.agg #[.int .i64 0, .int .i64 0]), 2, 16) := by kernel_rfl
theorem impl_bestRoute.made (n : Nat) (hn : n ≤ 60) (W : World) : (Instr.makeSlice 89 (.int .i64 ((n : Int) + 1)) (.int .i64 ((n : Int) + 1))).run Tryz.prog W = .ok (.slice (some ⟨W.heap.size, 0, none⟩) (n + 1) (n + 1)) (W.alloc (.cells (impl_bestRoute.arr n fun _ _ => 0) 90)) := by
 obtain ⟨i0, hi, hz0, hz1, hz2⟩ := info_parts impl_bestRoute.info
 have h := run_make W 89 90 i0 _ Tryz.underlying89 hi hz0 .i64 .i64 ((n : Int) + 1) ((n : Int) + 1) (by omega) (by omega) (by rw [hz2]; omega) (by omega)
 rw [hz1] at h
 have e : ((n : Int) + 1).toNat = n + 1 := by omega
 rw [e] at h
 have ea : madeCells (Value.cells (.agg #[.int .i64 0, .int .i64 0])) ((n + 1) * 2) = impl_bestRoute.arr n fun _ _ => 0 := by
  apply Array.ext'
  simp only [impl_bestRoute.arr, madeCells]
  apply List.ext_getElem
  ·simp; omega
  ·intro k h1 h2
   simp [Value.cells]
   have : k % 2 = 0 ∨ k % 2 = 1 := by omega
   rcases this with e | e <;> simp [e]
 rw [ea] at h
 exact h
theorem impl_bestRoute.qc (b s t : Int) (w : World) (n : Nat) : Calls Tryz.prog 71 #[.int .u8 b, .int .i64 s, .int .i64 t] (w.drewN n) fun e w' => e = .returned (.int .i64 (impl_bestRoute.cross b s t)) ∧ ∃ m, w' = w.drewN m :=
 Calls.quiet_of ((impl_crossingsAt.calls b s t _ _ (impl_bestRoute.cross_f b s t).1).mono fun _ _ ⟨he, ⟨hd⟩⟩ => ⟨he, hd⟩)
def impl_bestRoute.few1 (a1 : Int) (n s : Nat) : Nat → Nat → Int := fun i s' => if i = n ∧ s' < s then (impl_bestRoute.endRow a1).1 s' else 0
def impl_bestRoute.cnt1 (a1 : Int) (n s : Nat) : Nat → Nat → Int := fun i s' => if i = n ∧ s' < s then (impl_bestRoute.endRow a1).2 s' else 0
def impl_bestRoute.few2 (a0 : ByteArray) (a1 : Int) (m : Nat) : Nat → Nat → Int := fun i s => if m ≤ i then (impl_bestRoute.R a0 a1 i).1 s else 0
def impl_bestRoute.cnt2 (a0 : ByteArray) (a1 : Int) (m : Nat) : Nat → Nat → Int := fun i s => if m ≤ i then (impl_bestRoute.R a0 a1 i).2 s else 0
def impl_bestRoute.few3 (a0 : ByteArray) (a1 : Int) (p s : Nat) : Nat → Nat → Int := fun i s' => if p + 1 ≤ i ∨ (i = p ∧ s' < s) then (impl_bestRoute.R a0 a1 i).1 s' else 0
def impl_bestRoute.cnt3 (a0 : ByteArray) (a1 : Int) (p s : Nat) : Nat → Nat → Int := fun i s' => if p + 1 ≤ i ∨ (i = p ∧ s' < s) then (impl_bestRoute.R a0 a1 i).2 s' else 0
def impl_bestRoute.sd (a0 : ByteArray) (a1 : Int) (p s t : Nat) : Int × Int := impl_bestRoute.side (bt a0 p) (impl_bestRoute.R a0 a1 (p + 1)) s t
def impl_bestRoute.few4 (a0 : ByteArray) (a1 : Int) (p s t : Nat) : Nat → Nat → Int := fun i s' => if i = p ∧ s' = s then (impl_bestRoute.sd a0 a1 p s t).1 else impl_bestRoute.few3 a0 a1 p s i s'
def impl_bestRoute.cnt4 (a0 : ByteArray) (a1 : Int) (p s t : Nat) : Nat → Nat → Int := fun i s' => if i = p ∧ s' = s then (impl_bestRoute.sd a0 a1 p s t).2 else impl_bestRoute.cnt3 a0 a1 p s i s'
theorem impl_bestRoute.eq40 (a0 : ByteArray) (a1 : Int) (p s i s' : Nat) : (if i = p ∧ s' = s then (1000000 : Int) else impl_bestRoute.few3 a0 a1 p s i s') = impl_bestRoute.few4 a0 a1 p s 0 i s' ∧ impl_bestRoute.cnt3 a0 a1 p s i s' = impl_bestRoute.cnt4 a0 a1 p s 0 i s' := by
 unfold impl_bestRoute.few4 impl_bestRoute.cnt4 impl_bestRoute.cnt3 impl_bestRoute.sd impl_bestRoute.side
 by_cases e : i = p ∧ s' = s
 ·have e' : ¬ (p + 1 ≤ i ∨ i = p ∧ s' < s) := by omega
  simp only [if_pos e, if_neg e']
  exact ⟨(by trivial), (by trivial)⟩
 ·simp only [if_neg e]
  exact ⟨(by trivial), (by trivial)⟩
theorem impl_bestRoute.eq42 {a0 : ByteArray} {a1 : Int} {p : Nat} (hp : p < a0.size) (s i s' : Nat) : impl_bestRoute.few4 a0 a1 p s 2 i s' = impl_bestRoute.few3 a0 a1 p (s + 1) i s' ∧ impl_bestRoute.cnt4 a0 a1 p s 2 i s' = impl_bestRoute.cnt3 a0 a1 p (s + 1) i s' := by
 unfold impl_bestRoute.few4 impl_bestRoute.cnt4 impl_bestRoute.few3 impl_bestRoute.cnt3
 by_cases e : i = p ∧ s' = s
 ·obtain ⟨rfl, rfl⟩ := e
  have e' : i + 1 ≤ i ∨ i = i ∧ s' < s' + 1 := .inr ⟨rfl, (by omega)⟩
  rw [if_pos e', if_pos e', if_pos ⟨rfl, rfl⟩, if_pos ⟨rfl, rfl⟩, impl_bestRoute.R_step a0 a1 i hp]
  exact ⟨rfl, rfl⟩
 ·simp only [if_neg e]
  by_cases e2 : p + 1 ≤ i ∨ i = p ∧ s' < s
  ·have e3 : p + 1 ≤ i ∨ i = p ∧ s' < s + 1 := by omega
   simp only [if_pos e2, if_pos e3]
   exact ⟨trivial, trivial⟩
  ·have e3 : ¬ (p + 1 ≤ i ∨ i = p ∧ s' < s + 1) := by omega
   simp only [if_neg e2, if_neg e3]
   exact ⟨trivial, trivial⟩
theorem impl_bestRoute.eq30 (a0 : ByteArray) (a1 : Int) (p i s : Nat) : impl_bestRoute.few2 a0 a1 (p + 1) i s = impl_bestRoute.few3 a0 a1 p 0 i s ∧ impl_bestRoute.cnt2 a0 a1 (p + 1) i s = impl_bestRoute.cnt3 a0 a1 p 0 i s := by
 unfold impl_bestRoute.few2 impl_bestRoute.cnt2 impl_bestRoute.few3 impl_bestRoute.cnt3
 have e : (p + 1 ≤ i) ↔ (p + 1 ≤ i ∨ i = p ∧ s < 0) := by omega
 simp only [← e]
 exact ⟨trivial, trivial⟩
theorem impl_bestRoute.eq32 (a0 : ByteArray) (a1 : Int) (p i s : Nat) (hs : s < 2) : impl_bestRoute.few3 a0 a1 p 2 i s = impl_bestRoute.few2 a0 a1 p i s ∧ impl_bestRoute.cnt3 a0 a1 p 2 i s = impl_bestRoute.cnt2 a0 a1 p i s := by
 unfold impl_bestRoute.few2 impl_bestRoute.cnt2 impl_bestRoute.few3 impl_bestRoute.cnt3
 have e : (p + 1 ≤ i ∨ i = p ∧ s < 2) ↔ p ≤ i := by omega
 simp only [e]
 exact ⟨trivial, trivial⟩
theorem impl_bestRoute.four {a0 : ByteArray} {a1 : Int} {p s t : Nat} : impl_bestRoute.few4 a0 a1 p s t p s = (impl_bestRoute.sd a0 a1 p s t).1 ∧ impl_bestRoute.cnt4 a0 a1 p s t p s = (impl_bestRoute.sd a0 a1 p s t).2 ∧ impl_bestRoute.few4 a0 a1 p s t (p + 1) = (impl_bestRoute.R a0 a1 (p + 1)).1 ∧ impl_bestRoute.cnt4 a0 a1 p s t (p + 1) = (impl_bestRoute.R a0 a1 (p + 1)).2 := by
 unfold impl_bestRoute.few4 impl_bestRoute.cnt4 impl_bestRoute.few3 impl_bestRoute.cnt3
 refine ⟨(by simp), (by simp), funext fun t => ?_, funext fun t => ?_⟩
 ·have e : ¬ (p + 1 = p ∧ t = s) := by omega
  simp
 ·simp
theorem impl_bestRoute.pick (a0 : ByteArray) (a1 : Int) (p s t : Nat) (hp : p < a0.size) : ∃ x F' C' f c : Int,
  (∀ (w : World) (n : Nat), Calls Tryz.prog 71 #[.int .u8 (((a0[p]'hp).toNat : Nat) : Int), .int .i64 s, .int .i64 t] (w.drewN n) fun e w' => e = .returned (.int .i64 x) ∧ ∃ m, w' = w.drewN m) ∧
  impl_bestRoute.few4 a0 a1 p s t p s = f ∧ impl_bestRoute.cnt4 a0 a1 p s t p s = c ∧ impl_bestRoute.few4 a0 a1 p s t (p + 1) t = F' ∧ impl_bestRoute.cnt4 a0 a1 p s t (p + 1) t = C' ∧
  impl_bestRoute.sd a0 a1 p s (t + 1) = impl_bestRoute.upd (x + F') C' (f, c) ∧ 0 ≤ x ∧ x ≤ 2 ∧ 0 ≤ F' ∧ F' ≤ 1000000 ∧ 0 ≤ C' ∧ C' ≤ 1000000000000001 ∧ 0 ≤ f ∧ f ≤ 1000000 ∧ 0 ≤ c ∧ c ≤ 1000000000000001 := by
 have o1 := impl_bestRoute.side_ok (b := bt a0 (p : Int)) (fun t => impl_bestRoute.R_ok a0 a1 (p + 1) t) s t
 have o2 := impl_bestRoute.R_ok a0 a1 (p + 1) t
 have hx := (impl_bestRoute.cross_f (bt a0 (p : Int)) s t).2
 have hb : (((a0[p]'hp).toNat : Nat) : Int) = bt a0 (p : Int) := bt_at a0 (p : Int) hp
 refine ⟨impl_bestRoute.cross (bt a0 (p : Int)) s t, _, _, _, _, fun w n => by rw [hb]; exact impl_bestRoute.qc (bt a0 (p : Int)) s t w n, impl_bestRoute.four.1, impl_bestRoute.four.2.1, congrFun impl_bestRoute.four.2.2.1 t, congrFun impl_bestRoute.four.2.2.2 t, rfl, hx.1, hx.2, o2.1, o2.2.1, o2.2.2.1, o2.2.2.2, o1.1, o1.2.1, o1.2.2.1, o1.2.2.2⟩
section
variable {a0 : ByteArray} {a1 : Int} {p s t : Nat} {x F' C' f c : Int}
theorem impl_bestRoute.fin_lt (hs : impl_bestRoute.sd a0 a1 p s (t + 1) = impl_bestRoute.upd (x + F') C' (f, c)) (h : x + F' < f) (i s' : Nat) :
  (if i = p ∧ s' = s then x + F' else impl_bestRoute.few4 a0 a1 p s t i s') = impl_bestRoute.few4 a0 a1 p s (t + 1) i s' ∧
  (if i = p ∧ s' = s then (if C' < 1000000000000001 then C' else 1000000000000001) else if i = p ∧ s' = s then 0 else impl_bestRoute.cnt4 a0 a1 p s t i s') = impl_bestRoute.cnt4 a0 a1 p s (t + 1) i s' := by
 unfold impl_bestRoute.upd mn at hs
 rw [if_pos h, Int.zero_add] at hs
 unfold impl_bestRoute.few4 impl_bestRoute.cnt4
 rw [hs]
 exact lH_
theorem impl_bestRoute.fin_eq (hs : impl_bestRoute.sd a0 a1 p s (t + 1) = impl_bestRoute.upd (x + F') C' (f, c)) (hf : impl_bestRoute.few4 a0 a1 p s t p s = f) (h : x + F' = f) (i s' : Nat) :
  impl_bestRoute.few4 a0 a1 p s t i s' = impl_bestRoute.few4 a0 a1 p s (t + 1) i s' ∧
  (if i = p ∧ s' = s then (if c + C' < 1000000000000001 then c + C' else 1000000000000001) else impl_bestRoute.cnt4 a0 a1 p s t i s') = impl_bestRoute.cnt4 a0 a1 p s (t + 1) i s' := by
 unfold impl_bestRoute.upd mn at hs
 rw [if_neg (show ¬ x + F' < (f, c).1 by simp only; omega), if_pos (show x + F' = (f, c).1 from h)] at hs
 by_cases e : i = p ∧ s' = s
 ·obtain ⟨rfl, rfl⟩ := e
  rw [hf]
  unfold impl_bestRoute.few4 impl_bestRoute.cnt4
  rw [hs]
  simp
 ·unfold impl_bestRoute.few4 impl_bestRoute.cnt4
  simp only [if_neg e]; exact ⟨trivial, trivial⟩
theorem impl_bestRoute.fin_gt (hs : impl_bestRoute.sd a0 a1 p s (t + 1) = impl_bestRoute.upd (x + F') C' (f, c)) (hf : impl_bestRoute.few4 a0 a1 p s t p s = f) (hc : impl_bestRoute.cnt4 a0 a1 p s t p s = c) (h : f < x + F') (i s' : Nat) :
  impl_bestRoute.few4 a0 a1 p s t i s' = impl_bestRoute.few4 a0 a1 p s (t + 1) i s' ∧ impl_bestRoute.cnt4 a0 a1 p s t i s' = impl_bestRoute.cnt4 a0 a1 p s (t + 1) i s' := by
 unfold impl_bestRoute.upd at hs
 rw [if_neg (show ¬ x + F' < (f, c).1 by simp only; omega), if_neg (show ¬ x + F' = (f, c).1 by simp only; omega)] at hs
 by_cases e : i = p ∧ s' = s
 ·obtain ⟨rfl, rfl⟩ := e
  rw [hf, hc]
  unfold impl_bestRoute.few4 impl_bestRoute.cnt4
  rw [hs]
  simp
 ·unfold impl_bestRoute.few4 impl_bestRoute.cnt4
  simp only [if_neg e]; exact ⟨trivial, trivial⟩
end
def impl_bestRoute.sarr (a0 : ByteArray) (a1 : Int) (n j : Nat) : Array Value := ((List.range n).map fun q => Value.int .i64 (if q < j then ((impl_bestRoute.come a0 a1 (q + 1) : Nat) : Int) else 0)).toArray
theorem impl_bestRoute.sarr_set {a0 : ByteArray} {a1 : Int} {n j : Nat} : (impl_bestRoute.sarr a0 a1 n j).setIfInBounds j (.int .i64 ((impl_bestRoute.come a0 a1 (j + 1) : Nat) : Int)) = impl_bestRoute.sarr a0 a1 n (j + 1) := by
 unfold impl_bestRoute.sarr
 rw [sA_]
 congr 1
 apply List.ext_getElem
 ·simp
 ·intro k h1 h2
  rw [List.getElem_set]
  simp only [List.getElem_map, List.getElem_range]
  by_cases e : j = k
  ·subst e; rw [if_pos rfl, if_pos (by omega)]
  ·rw [if_neg e]
   by_cases e2 : k < j
   ·rw [if_pos e2, if_pos (by omega)]
   ·rw [if_neg e2, if_neg (by omega)]
theorem impl_bestRoute.sarr_zero (a0 : ByteArray) (a1 : Int) (n : Nat) : madeCells #[Value.int .i64 0] n = impl_bestRoute.sarr a0 a1 n 0 := by
 apply Array.ext'
 simp only [impl_bestRoute.sarr, madeCells]
 apply List.ext_getElem
 ·simp
 ·intro k h1 h2
  simp [Nat.mod_one]
theorem impl_bestRoute.sarr_at {a0 : ByteArray} {a1 : Int} {n j q : Nat} (h : q < n) : ∃ u, (impl_bestRoute.sarr a0 a1 n j)[q]? = some u := by
 refine ⟨_, Array.getElem?_eq_getElem (by simp [impl_bestRoute.sarr]; exact h)⟩
theorem impl_bestRoute.sarr_R {a0 : ByteArray} {a1 : Int} {n S : Nat} {w wr : World} (hn : n ≤ 60) (h : wr.heap[S]? = some (.cells (impl_bestRoute.sarr a0 a1 n n) 3 (0, 0))) (hb : w.heap.size ≤ S) :
  Kd.R (Kd.int .i64) 3 wr w.heap.size (fun _ => True) (.slice (some ⟨S, 0, none⟩) n n) (impl_bestRoute.sides a0 a1 n) := by
 have hl : (impl_bestRoute.sides a0 a1 n).length = n := by simp [impl_bestRoute.sides]
 have he : (impl_bestRoute.sarr a0 a1 n n).toList = encs (Value.int .i64) (impl_bestRoute.sides a0 a1 n) := by
  simp only [impl_bestRoute.sarr, encs, impl_bestRoute.sides, List.map_map]
  exact List.map_congr_left (fun q hq => by rw [if_pos (List.mem_range.1 hq)]; rfl)
 have := Kd.R_of_own (enc := Value.int .i64) (h1 := fun _ => rfl) (e := 3) (w := wr) (base := w.heap.size) (ok := fun _ => True) (v := .slice (some ⟨S, 0, none⟩) n n) (xs := impl_bestRoute.sides a0 a1 n) (by
  rw [hl]
  refine ⟨(by simp [encs, hl]), .inr ⟨S, n, _, rfl, hb, h, Nat.le_refl _, (by unfold maxLen; omega), (by simp [impl_bestRoute.sarr]), ?_⟩⟩
  rw [he, Nat.mul_one, List.take_of_length_le (by simp [encs, hl])]) (fun _ _ => trivial)
 exact this
theorem impl_bestRoute.come_lt (a0 : ByteArray) (a1 : Int) : ∀ j, impl_bestRoute.come a0 a1 j < 2
 | 0 => by unfold impl_bestRoute.come; omega
 | j + 1 => by unfold impl_bestRoute.come impl_bestRoute.leave; split <;> omega
theorem impl_bestRoute.info3 : (Tryz.prog.info? 3).map (fun i => (i.zero, i.size, i.bytes)) = some (some (.int .i64 0), 1, 8) := by kernel_rfl
theorem impl_bestRoute.pick2 (a0 : ByteArray) (a1 : Int) (j : Nat) (hj : j < a0.size) : ∃ x F' f : Int,
  (∀ (w : World) (n : Nat), Calls Tryz.prog 71 #[.int .u8 (((a0[j]'hj).toNat : Nat) : Int), .int .i64 (impl_bestRoute.come a0 a1 j : Nat), .int .i64 0] (w.drewN n) fun e w' => e = .returned (.int .i64 x) ∧ ∃ m, w' = w.drewN m) ∧
  impl_bestRoute.few2 a0 a1 0 (j + 1) 0 = F' ∧ impl_bestRoute.few2 a0 a1 0 j (impl_bestRoute.come a0 a1 j) = f ∧ (x + F' = f → impl_bestRoute.come a0 a1 (j + 1) = 0) ∧ (x + F' ≠ f → impl_bestRoute.come a0 a1 (j + 1) = 1) ∧ 0 ≤ x ∧ x ≤ 2 ∧ 0 ≤ F' ∧ F' ≤ 1000000 := by
 have hb : (((a0[j]'hj).toNat : Nat) : Int) = bt a0 (j : Int) := bt_at a0 (j : Int) hj
 have o := impl_bestRoute.R_ok a0 a1 (j + 1) 0
 have hx := (impl_bestRoute.cross_f (bt a0 (j : Int)) (impl_bestRoute.come a0 a1 j : Nat) 0).2
 refine ⟨impl_bestRoute.cross (bt a0 (j : Int)) (impl_bestRoute.come a0 a1 j : Nat) 0, _, _, fun w n => by rw [hb]; exact impl_bestRoute.qc _ _ _ w n, rfl, rfl, ?_, ?_, hx.1, hx.2, ?_, ?_⟩
 ·intro h
  simp only [impl_bestRoute.few2, Nat.zero_le, if_true] at h
  rw [impl_bestRoute.come, impl_bestRoute.leave, if_pos h]
 ·intro h
  simp only [impl_bestRoute.few2, Nat.zero_le, if_true] at h
  rw [impl_bestRoute.come, impl_bestRoute.leave, if_neg h]
 ·simpa [impl_bestRoute.few2] using o.1
 ·simpa [impl_bestRoute.few2] using o.2.1
set_option maxHeartbeats 4000000 in
set_option maxRecDepth 100000 in
theorem impl_bestRoute.calls (a0 : ByteArray) (a1 : Int) (r1 : Int) (r2 : List Int) (r3 : Int) (w : World) (h : impl_bestRoute.f a0 a1 = some (r1, r2, r3)) :
  Calls Tryz.prog 35 #[.string a0, .int .i64 a1] w fun e w' => ∃ v1_ : Value, e = .returned (.tuple #[.int .i64 r1, v1_, .int .i64 r3]) ∧ Kd.R (Kd.int .i64) 3 w' w.heap.size (fun _ => True) v1_ r2 ∧ Below w.heap.size w w' := by
 unfold impl_bestRoute.f at h
 by_cases hs : a0.size ≤ 60
 ·rw [if_pos hs] at h
  simp only [Option.some.injEq, Prod.mk.injEq] at h
  have HE := Lib.hid h;clear h;have hmk := impl_bestRoute.made a0.size hs;have hw : IntKind.i64.wrap ((a0.size : Int) + 1) = (a0.size : Int) + 1 := by rw [IntKind.wrap_i64]; omega
  go_enter Tryz.func35, Tryz.ntmps35
  go_upto_region 2 with (fail)
  go_cut [8, 9] (fun v8 v9 wr => ∃ F C, v8 = .slice (some ⟨F, 0, none⟩) (a0.size + 1) (a0.size + 1) ∧ v9 = .slice (some ⟨C, 0, none⟩) (a0.size + 1) (a0.size + 1) ∧ impl_bestRoute.BW w wr F C a0.size (fun _ _ => 0) (fun _ _ => 0))
  case first =>
   go_region
   all_goals
    go_wp2_with fail
    go_meet
    refine ⟨_, _, rfl, rfl, ?_⟩
    refine ⟨?_, ?_, (by omega), (by omega), (by omega), ?_⟩
    ·first
      | exact qj (qg (blk_new _ _) _)
      | exact qj (by simpa using blk_new (w.alloc _) _)
    ·first
      | exact qj (qg (blk_new _ _) _)
      | exact qj (by simpa using blk_new (w.alloc _) _)
    ·exact below_drew (qd (qd (Below.refl _ _) _) _)
  case rest =>
   obtain ⟨F, C, rfl, rfl, hbw⟩ := hcut;clear hmk hw;have HW := Lib.hid hbw;clear hbw
   go_wp2_with fail
   go_loopw [27] (fun v wr => ∃ s : Nat, s ≤ 2 ∧ v = .int .i64 s ∧ impl_bestRoute.BW w wr F C a0.size (impl_bestRoute.few1 a1 a0.size s) (impl_bestRoute.cnt1 a1 a0.size s)) (fun v _ => 2 - (intOf v).toNat)
   case atStart => exact ⟨0, (by omega), rfl, HW.out.congr (fun i s _ _ => by simp [impl_bestRoute.few1, impl_bestRoute.cnt1])⟩
   case round =>
    obtain ⟨s, hs2, rfl, hbw⟩ := hrel;clear HW;have HW := Lib.hid hbw;clear hbw
    by_cases hlt : s < 2
    ·have c1 := HW.out.cC (i := a0.size) (Nat.le_refl _) hlt
     have f1 := HW.out.fC (a0.size * 2 + s);have c2 := HW.out.cF (i := a0.size) (Nat.le_refl _) hlt;have f2 := HW.out.fF (a0.size * 2 + s);have hFC := HW.out.2.2.1
     by_cases hend : a1 ≠ 2 ∧ (s : Int) ≠ a1
     ·have b1 : (a1 != 2) = true := by simpa using hend.1
      have b2 : ((s : Int) != a1) = true := by simpa using hend.2
      have HN := Lib.hid (show ∀ i s', (if i = a0.size ∧ s' = s then (1000000 : Int) else impl_bestRoute.few1 a1 a0.size s i s') = impl_bestRoute.few1 a1 a0.size (s + 1) i s' ∧ (if i = a0.size ∧ s' = s then (0 : Int) else if i = a0.size ∧ s' = s then (1 : Int) else impl_bestRoute.cnt1 a1 a0.size s i s') = impl_bestRoute.cnt1 a1 a0.size (s + 1) i s' from fun i s' => by
       unfold impl_bestRoute.few1 impl_bestRoute.cnt1 impl_bestRoute.endRow
       by_cases e : i = a0.size ∧ s' = s
       ·obtain ⟨rfl, rfl⟩ := e
        simp [hend.1, hend.2]
       ·rw [if_neg e, if_neg e, if_neg e]
        by_cases e2 : i = a0.size ∧ s' < s
        ·rw [if_pos e2, if_pos ⟨e2.1, (by omega)⟩, if_pos e2, if_pos ⟨e2.1, (by omega)⟩]; exact ⟨rfl, rfl⟩
        ·rw [if_neg e2, if_neg (fun h => e2 ⟨h.1, (by omega)⟩), if_neg e2, if_neg (fun h => e2 ⟨h.1, (by omega)⟩)]; exact ⟨rfl, rfl⟩)
      clear hend
      go_wp2_with fail
      go_region
      all_goals
       go_wp2_with fail
       go_roundw
       case rel =>
        refine ⟨s + 1, (by omega), (by go_num), ?_⟩
        first
         | exact (((HW.out.setC hlt 1).setF hlt 1000000).setC hlt 0).drew.congr (fun i s _ _ => HN.out i s)
         | exact (((HW.out.setC hlt 1).setC hlt 0).setF hlt 1000000).drew.congr (fun i s _ _ => HN.out i s)
       case measure => simp [intOf] <;> omega
     ·have HN := Lib.hid (show ∀ i s', impl_bestRoute.few1 a1 a0.size s i s' = impl_bestRoute.few1 a1 a0.size (s + 1) i s' ∧ (if i = a0.size ∧ s' = s then (1 : Int) else impl_bestRoute.cnt1 a1 a0.size s i s') = impl_bestRoute.cnt1 a1 a0.size (s + 1) i s' from fun i s' => by
       unfold impl_bestRoute.few1 impl_bestRoute.cnt1 impl_bestRoute.endRow
       by_cases e : i = a0.size ∧ s' = s
       ·obtain ⟨rfl, rfl⟩ := e
        simp only [if_neg hend]
        simp
       ·rw [if_neg e]
        by_cases e2 : i = a0.size ∧ s' < s
        ·rw [if_pos e2, if_pos ⟨e2.1, (by omega)⟩, if_pos e2, if_pos ⟨e2.1, (by omega)⟩]; exact ⟨rfl, rfl⟩
        ·rw [if_neg e2, if_neg (fun h => e2 ⟨h.1, (by omega)⟩), if_neg e2, if_neg (fun h => e2 ⟨h.1, (by omega)⟩)]; exact ⟨rfl, rfl⟩)
      by_cases ha : a1 = 2
      ·have b1 : (a1 != 2) = false := by simpa using ha
       exact lS_
      ·have b1 : (a1 != 2) = true := by simpa using ha
       have b2 : ((s : Int) != a1) = false := by simp; omega
       exact lS_
    ·obtain rfl : s = 2 := by omega
     have hbw := HW.out.congr (few' := impl_bestRoute.few2 a0 a1 a0.size) (cnt' := impl_bestRoute.cnt2 a0 a1 a0.size) (fun i s hi hs => by
      unfold impl_bestRoute.few1 impl_bestRoute.cnt1 impl_bestRoute.few2 impl_bestRoute.cnt2
      by_cases e : i = a0.size
      ·subst e; simp [hs, impl_bestRoute.R_end]
      ·have e1 : ¬ (i = a0.size ∧ s < 2) := fun h => e h.1
       have e2 : ¬ a0.size ≤ i := by omega
       rw [if_neg e1, if_neg e1, if_neg e2, if_neg e2]; exact ⟨rfl, rfl⟩)
     clear HW;have HW := Lib.hid hbw;clear hbw
     go_wp2_with fail
     go_loopw [11] (fun v wr => ∃ m : Nat, m ≤ a0.size ∧ v = .int .i64 ((m : Int) - 1) ∧ impl_bestRoute.BW w wr F C a0.size (impl_bestRoute.few2 a0 a1 m) (impl_bestRoute.cnt2 a0 a1 m)) (fun v _ => (intOf v + 1).toNat)
     case atStart => exact ⟨a0.size, Nat.le_refl _, rfl, HW.out⟩
     case round =>
      obtain ⟨m, hm, rfl, hbw⟩ := hrel;clear HW;have HW := Lib.hid hbw;clear hbw;cases m with
      | zero =>
       have e0 : ((0 : Nat) : Int) - 1 = -1 := by omega
       rw [e0];have hmk := print_make (P := Tryz.prog) 28 3 .i64 8 Tryz.underlying28 impl_bestRoute.info3 (by omega) a0.size (by omega);rw [impl_bestRoute.sarr_zero a0 a1 a0.size] at hmk
       go_wp2_with fail
       obtain ⟨S, hS⟩ : ∃ S, S = wr.heap.size := ⟨_, rfl⟩;have hsr : (wr.alloc (.cells (impl_bestRoute.sarr a0 a1 a0.size 0) 3)).heap[S]? = some (.cells (impl_bestRoute.sarr a0 a1 a0.size 0) 3 (0, 0)) := by rw [hS]; exact blk_new _ _
       have hFS : F ≠ S := by rw [hS]; have := zv HW.out.1; omega
       have hCS : C ≠ S := by rw [hS]; have := zv HW.out.2.1; omega
       have hwS : w.heap.size ≤ S := by rw [hS]; exact HW.out.2.2.2.2.2.size
       have hbw := HW.out.alloc (.cells (impl_bestRoute.sarr a0 a1 a0.size 0) 3);rw [← hS];clear HW hmk hS e0;have HW := Lib.hid (And.intro hbw hsr);clear hbw hsr
       go_loopw [137, 16] (fun v v16 wq => ∃ j : Nat, j ≤ a0.size ∧ v = .int .i64 j ∧ v16 = .int .i64 (impl_bestRoute.come a0 a1 j : Nat) ∧ impl_bestRoute.BW w wq F C a0.size (impl_bestRoute.few2 a0 a1 0) (impl_bestRoute.cnt2 a0 a1 0) ∧ wq.heap[S]? = some (.cells (impl_bestRoute.sarr a0 a1 a0.size j) 3 (0, 0))) (fun v _ _ => a0.size - (intOf v).toNat)
       case atStart => exact ⟨0, (by omega), rfl, rfl, HW.out.1, HW.out.2⟩
       case round =>
        obtain ⟨j, hj, rfl, rfl, hbw, hsr⟩ := hrel;clear HW;have HW := Lib.hid hbw;have HR := Lib.hid hsr;clear hbw hsr
        by_cases hlt : j < a0.size
        ·obtain ⟨x, F', f, hq, e1, e2, n0, n1, hx0, hx1, o21, o22⟩ := impl_bestRoute.pick2 a0 a1 j hlt
         have hc := impl_bestRoute.come_lt a0 a1 j;have c3 := HW.out.cF (i := j + 1) (s := 0) (by omega) (by omega);have c1 := HW.out.cF (i := j) (s := impl_bestRoute.come a0 a1 j) (by omega) hc;rw [e1, Nat.add_zero] at c3;rw [e2] at c1;obtain ⟨u, hu⟩ := impl_bestRoute.sarr_at (a0 := a0) (a1 := a1) (j := j) hlt;have c5 : wr.cell? ⟨S, j, none⟩ = some u := by rw [qk HR.out]; exact hu
         have f5 : wr.frozen? ⟨S, j, none⟩ = false := qi HR.out j;have HQ := Lib.hid hq;have N0 := Lib.hid n0;have N1 := Lib.hid n1;clear e1 e2 hq n0 n1 hu;have hp0 : (0 : Int) ≤ (j : Int) := by omega
         have hp1 : (j : Int) < (a0.size : Int) := by omega
         have hwx : IntKind.i64.wrap ((j : Int) + 1) = (j : Int) + 1 := by rw [IntKind.wrap_i64]; omega
         have hws : IntKind.i64.wrap (x + F') = x + F' := by rw [IntKind.wrap_i64]; omega
         by_cases hcmp : x + F' = f
         ·have d1 : (x + F' != f) = false := by simpa using hcmp
          have HN := Lib.hid (N0.out hcmp);clear hcmp
          exact ls_
         ·have d1 : (x + F' != f) = true := by simpa using hcmp
          have HN := Lib.hid (N1.out hcmp);clear hcmp
          exact ls_
        ·obtain rfl : j = a0.size := by omega
         have c1 := HW.out.cF (i := 0) (s := 0) (by omega) (by omega);have c2 := HW.out.cC (i := 0) (s := 0) (by omega) (by omega);have e1 : impl_bestRoute.few2 a0 a1 0 0 0 = r1 := HE.out.1;have e2 : impl_bestRoute.cnt2 a0 a1 0 0 0 = r3 := HE.out.2.2;rw [e1] at c1;rw [e2] at c2;clear e1 e2
         go_wp2_with fail
         go_region
         all_goals
          go_wp2_with fail
          go_ret3
          refine ⟨_, rfl, ?_, ?_⟩
          ·rw [← HE.out.2.1]
           exact impl_bestRoute.sarr_R hs (qj HR.out) hwS
          ·exact below_drew HW.out.2.2.2.2.2
      | succ p =>
       have ep : ((p + 1 : Nat) : Int) - 1 = (p : Int) := by omega
       rw [ep];have hpn : p < a0.size := by omega
       go_wp2_with fail
       go_loopw [59] (fun v wr => ∃ s : Nat, s ≤ 2 ∧ v = .int .i64 s ∧ impl_bestRoute.BW w wr F C a0.size (impl_bestRoute.few3 a0 a1 p s) (impl_bestRoute.cnt3 a0 a1 p s)) (fun v _ => 2 - (intOf v).toNat)
       case atStart =>
        exact ⟨0, (by omega), rfl, HW.out.congr (fun i s _ _ => impl_bestRoute.eq30 a0 a1 p i s)⟩
       case round =>
        obtain ⟨s, hs2, rfl, hbw⟩ := hrel;clear HW;have HW := Lib.hid hbw;clear hbw
        by_cases hlt : s < 2
        ·have c1 := HW.out.cF (i := p) (by omega) hlt
         have f1 := HW.out.fF (p * 2 + s)
         go_wp2_with fail
         go_loopw [67] (fun v wr => ∃ t : Nat, t ≤ 2 ∧ v = .int .i64 t ∧ impl_bestRoute.BW w wr F C a0.size (impl_bestRoute.few4 a0 a1 p s t) (impl_bestRoute.cnt4 a0 a1 p s t)) (fun v _ => 2 - (intOf v).toNat)
         case atStart =>
          exact ⟨0, (by omega), rfl, (HW.out.setF hlt 1000000).congr (fun i s' _ _ => impl_bestRoute.eq40 a0 a1 p s i s')⟩
         case round =>
          obtain ⟨t, ht2, rfl, hbw⟩ := hrel;clear HW c1 f1;have HW := Lib.hid hbw;clear hbw
          by_cases htt : t < 2
          ·have c1 := HW.out.cF (i := p) (s := s) (by omega) hlt
           have f1 := HW.out.fF (p * 2 + s);have c2 := HW.out.cC (i := p) (s := s) (by omega) hlt;have f2 := HW.out.fC (p * 2 + s);have c3 := HW.out.cF (i := p + 1) (s := t) (by omega) htt;have c4 := HW.out.cC (i := p + 1) (s := t) (by omega) htt;obtain ⟨x, F', C', f, c, hq, e1, e2, e3, e4, hsd, hx0, hx1, o21, o22, o23, o24, o11, o12, o13, o14⟩ := impl_bestRoute.pick a0 a1 p s t hpn;rw [e1] at c1;rw [e2] at c2;rw [e3] at c3;rw [e4] at c4;have HF := Lib.hid e1;have HC := Lib.hid e2;clear e1 e2 e3 e4;have HQ := Lib.hid hq;have HS := Lib.hid hsd;clear hq hsd;have hp0 : (0 : Int) ≤ (p : Int) := by omega
           have hp1 : (p : Int) < (a0.size : Int) := by omega
           have hFC := HW.out.2.2.1;have hM : wrap64 (0 + C') = C' := by unfold wrap64; omega
           have hM2 : IntKind.i64.wrap (0 + C') = C' := by rw [IntKind.wrap_i64]; omega
           rcases Int.lt_trichotomy (x + F') f with hcmp | hcmp | hcmp
           ·have d1 : decide (x + F' < f) = true := decide_eq_true hcmp
            have HN := Lib.hid (impl_bestRoute.fin_lt HS.out hcmp);clear hcmp
            go_wp2_with fail
            go_quiet ((go_at_call 71; exact HQ.out _ _))
            go_wp2_with fail
            go_region
            all_goals
             go_wp2_with fail
             go_region
             all_goals
              go_wp2_with fail
              go_roundw
              case rel =>
               exact ⟨t + 1, (by omega), (by go_num), (((((HW.out.drewN _).setF hlt _).setC hlt _).setC hlt _).drew).congr (fun i s' _ _ => HN.out i s')⟩
              case measure => simp [intOf] <;> omega
           ·have d1 : decide (x + F' < f) = false := decide_eq_false (by omega)
            have d2 : (x + F' == f) = true := by rw [beq_iff_eq]; omega
            have HN := Lib.hid (impl_bestRoute.fin_eq HS.out HF.out hcmp);clear hcmp
            go_wp2_with fail
            go_quiet ((go_at_call 71; exact HQ.out _ _))
            go_wp2_with fail
            go_region
            all_goals
             go_wp2_with fail
             go_roundw
             case rel =>
              exact ⟨t + 1, (by omega), (by go_num), ((HW.out.drewN _).setC hlt _).congr (fun i s' _ _ => HN.out i s')⟩
             case measure => simp [intOf] <;> omega
           ·have d1 : decide (x + F' < f) = false := decide_eq_false (by omega)
            have d2 : (x + F' == f) = false := by rw [beq_eq_false_iff_ne]; omega
            have HN := Lib.hid (impl_bestRoute.fin_gt HS.out HF.out HC.out hcmp);clear hcmp
            go_wp2_with fail
            go_quiet ((go_at_call 71; exact HQ.out _ _))
            go_wp2_with fail
            go_roundw
            case rel =>
             exact ⟨t + 1, (by omega), (by go_num), (HW.out.drewN _).congr (fun i s' _ _ => HN.out i s')⟩
            case measure => simp [intOf] <;> omega
          ·obtain rfl : t = 2 := by omega
           go_wp2_with fail
           go_roundw
           case rel => exact ⟨s + 1, (by omega), (by go_num), HW.out.congr (fun i s' _ _ => impl_bestRoute.eq42 hpn s i s')⟩
           case measure => simp [intOf] <;> omega
        ·obtain rfl : s = 2 := by omega
         go_wp2_with fail
         go_roundw
         case rel => exact ⟨p, (by omega), (by go_num), HW.out.congr (fun i s' _ hs' => impl_bestRoute.eq32 a0 a1 p i s' hs')⟩
         case measure => simp [intOf] <;> omega
 ·rw [if_neg hs] at h
  cases h
def impl_numberAt.f (a0_0 : Int) (a0_1 : Int) (a1 : Int) (a2 : Int) : Option (Int) := if a0_0 = 1 then (some (wrap64 ((wrap64 ((wrap64 (2 * a2)) + 1)) + a1))) else (if a1 = 1 then (some (wrap64 ((wrap64 (2 * a0_1)) - a2))) else (some (wrap64 (a2 + 1))))
set_option maxHeartbeats 8000000 in
set_option maxRecDepth 100000 in
theorem impl_numberAt.calls (a0_0 : Int) (a0_1 : Int) (a1 : Int) (a2 : Int) (r : Int) (w : World) (h : impl_numberAt.f a0_0 a0_1 a1 a2 = some r) :
  Calls Tryz.prog 72 #[.agg #[.int .i64 a0_0, .int .i64 a0_1], .int .i64 a1, .int .i64 a2] w fun e w' => e = .returned (.int .i64 r) ∧ Below w.heap.size w w' := by
 have hu25 := Tryz.underlying25
 have HB := qb.mk (Below.refl w.heap.size w)
 have H := h; clear h; unfold impl_numberAt.f at H
 replace H := iE_ H; obtain ⟨c4b0, c4b1, H⟩ | ⟨c4, c4b0, c4b1, H⟩ := H
 ·obtain rfl := Option.some.inj H
  go_enter Tryz.func72, Tryz.ntmps72
  go_wp2_with (first | (refine bE_ 3 #[.int .i64 a0_0, .int .i64 a0_1] 25 ?_; intro gb213 hg w5 hbox hb; have BK213 := qb.mk (hbox); have GW213 := qb.mk (b5_); have GE213 := qb.mk (b5_); replace HB := qb.mk ac_; clear hb hbox hg; have hcz6_0 := cC_ BK213 0; have hcz6_1 := cC_ BK213 1; have hfz6_0 := qi BK213.out 0; have hfz6_1 := qi BK213.out 1))
  go_ret
  exact ⟨er_, be1_ HB GE213⟩
 ·replace H := iE_ H; obtain ⟨c7b0, c7b1, H⟩ | ⟨c7, c7b0, c7b1, H⟩ := H
  ·obtain rfl := Option.some.inj H
   go_enter Tryz.func72, Tryz.ntmps72
   go_wp2_with (first | (refine bE_ 3 #[.int .i64 a0_0, .int .i64 a0_1] 25 ?_; intro gb213 hg w8 hbox hb; have BK213 := qb.mk (hbox); have GW213 := qb.mk (b5_); have GE213 := qb.mk (b5_); replace HB := qb.mk ac_; clear hb hbox hg; have hcz9_0 := cC_ BK213 0; have hcz9_1 := cC_ BK213 1; have hfz9_0 := qi BK213.out 0; have hfz9_1 := qi BK213.out 1))
   go_ret
   exact ⟨er_, be1_ HB GE213⟩
  ·obtain rfl := Option.some.inj H
   go_enter Tryz.func72, Tryz.ntmps72
   go_wp2_with (first | (refine bE_ 3 #[.int .i64 a0_0, .int .i64 a0_1] 25 ?_; intro gb213 hg w10 hbox hb; have BK213 := qb.mk (hbox); have GW213 := qb.mk (b5_); have GE213 := qb.mk (b5_); replace HB := qb.mk ac_; clear hb hbox hg; have hcz11_0 := cC_ BK213 0; have hcz11_1 := cC_ BK213 1; have hfz11_0 := qi BK213.out 0; have hfz11_1 := qi BK213.out 1))
   go_ret
   exact ⟨er_, be1_ HB GE213⟩
end Go.Proofs.YtpopeedfgenebaaGreat.PFnPostDelivers
