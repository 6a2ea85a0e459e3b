/- Cut by wip/cut.py out of the texts of this claim (printed by the kit's printer, or this session's own): what the row's theorem does not reach is struck. Not trusted: Lean checks it. -/
import Derived.Test.YtpedofomfhmnfaaDoorZFnExactCityTextPx10
import Derived.Deep.Slices
import Derived.Deep.Fields
import Derived.Deep.Strs
import Derived.ChangeSame
import Derived.Lib.SmallJoins
namespace Go.Proofs.YtpedofomfhmnfaaDoor.PFnExactCityText
open Go.RowKit Go.Proofs.YtpedofomfhmnfaaDoorW.PrintWords Go.Proofs.YtpedofomfhmnfaaDoorW.PrintLast Go.Proofs.YtpedofomfhmnfaaDoorW.PrintMore
set_option linter.unusedVariables false
theorem three {l : List Value} (h : l.length = 3) : ∃ a b c, l = [a, b, c] := by
 match l, h with
 | [a, b, c], _ => exact ⟨a, b, c, rfl⟩
theorem blocks_C {H : Type} {enc : TypeId × Value → H} {w : World} {base : Nat} {spare : Nat → Bool} {held : Bool} {fuel : Nat} {cs : List Value} {x : DataW H × List MemPlace} (h : DataW.trod enc Tryd.prog w base spare held fuel 22 cs = some x) :
  ∃ (A : Option Addr) (c : Nat) (bs : List S46), cs = [.slice A bs.length c] ∧ bs.length ≤ c ∧ c ≤ maxLen ∧ Kd.C k46 w A bs.length bs ∧ ∀ b ∈ bs, (Lit.int .i64 b.f0).wf = true ∧ (Lit.int .i64 b.f1).wf = true := by
 rcases Go.Deep.open_slice Tryd.underlying22 h with ⟨rfl, _⟩ | ⟨a, len, cap, m, n, D, Pl, rfl, _, hl, hm, hmm, _, hi⟩
 ·exact ⟨none, 0, [], rfl, Nat.le_refl _, by unfold maxLen; omega, ⟨rfl, by simp, fun h => absurd h (by simp)⟩, fun b hb => by simp at hb⟩
 ·have hC : Tryd.prog.cellsOf 46 = 3 := by kernel_rfl
  have e3 : Tryd.prog.cellsOf 3 = 1 := by kernel_rfl
  have e4 : Tryd.prog.cellsOf 4 = 1 := by kernel_rfl
  have one : ∀ i, i < len → ∃ s : S46, w.cell? (a.add (i * 3)) = some (.int .i64 s.f0) ∧ w.cell? (a.add (i * 3 + 1)) = some (.int .i64 s.f1) ∧ w.cell? (a.add (i * 3 + 2)) = some (.bool s.f2) ∧ (Lit.int .i64 s.f0).wf = true ∧ (Lit.int .i64 s.f1).wf = true := by
   intro i hil
   obtain ⟨cs', hc, ht⟩ := hi i (by rw [hmm]; split <;> omega)
   rw [hC] at hc
   obtain ⟨_, hcl, hat⟩ := World.cells?_some hc
   obtain ⟨y0, y1, y2, n', _, _, h0, h1, h2⟩ := Go.Deep.trod_struct3 Tryd.underlying46 ht
   obtain ⟨c0, c1, c2, rfl⟩ := three hcl
   simp [e3, e4] at h0 h1 h2
   obtain ⟨n0, q0, _, w0⟩ := DataW.trod_int Tryd.underlying3 h0
   obtain ⟨n1, q1, _, w1⟩ := DataW.trod_int Tryd.underlying3 h1
   obtain ⟨b, q2, _⟩ := DataW.trod_bool Tryd.underlying4 h2
   simp at q0 q1 q2
   subst q0 q1 q2
   have k0 := hat 0 (by omega)
   have k1 := hat 1 (by omega)
   have k2 := hat 2 (by omega)
   rw [Go.Deep.add_add] at k0 k1 k2
   exact ⟨⟨n0, n1, b⟩, k0, k1, k2, w0, w1⟩
  obtain ⟨g, hg⟩ : ∃ g : Nat → S46, ∀ i, i < len → w.cell? (a.add (i * 3)) = some (.int .i64 (g i).f0) ∧ w.cell? (a.add (i * 3 + 1)) = some (.int .i64 (g i).f1) ∧ w.cell? (a.add (i * 3 + 2)) = some (.bool (g i).f2) ∧ (Lit.int .i64 (g i).f0).wf = true ∧ (Lit.int .i64 (g i).f1).wf = true :=
   ⟨fun i => if h : i < len then (one i h).choose else z46, fun i h => by simp only [dif_pos h]; exact (one i h).choose_spec⟩
  have hlen : ((List.range len).map g).length = len := by simp
  refine ⟨some a, cap, (List.range len).map g, by rw [hlen], by rw [hlen]; exact hl, hm, ?_, fun b hb => ?_⟩
  ·rw [hlen]
   refine ⟨hlen, by unfold maxLen at hm; omega, fun _ => ⟨a, rfl, fun j p hp => ?_⟩⟩
   rw [List.getElem?_map] at hp
   have hj : j < len := by
    rcases Nat.lt_or_ge j len with h | h
    ·exact h
    ·rw [List.getElem?_eq_none (by simpa using h)] at hp; cases hp
   rw [List.getElem?_range hj] at hp
   cases Option.some.inj hp
   obtain ⟨k0, k1, k2, _⟩ := hg j hj
   refine ⟨[.int .i64 (g j).f0, .int .i64 (g j).f1, .bool (g j).f2], rfl, ⟨[_], [_, _], rfl, rfl, [_], [_], rfl, rfl, rfl⟩, fun i u hu => ?_⟩
   show w.cell? (a.add (j * 3 + i)) = some u
   match i, hu with
   | 0, hu => cases hu; exact k0
   | 1, hu => cases hu; exact k1
   | 2, hu => cases hu; exact k2
   | i + 3, hu => simp at hu
  ·obtain ⟨j, hj, rfl⟩ := List.mem_map.1 hb
   exact (hg j (List.mem_range.1 hj)).2.2.2
def laws_FnExactCityText.Pure : Prop := ∀ (a0_0 : Int) (a0_1 : Int) (l0_2 : List (S46)), (Lit.int .i64 a0_0).wf = true → (Lit.int .i64 a0_1).wf = true → l0_2.length ≤ maxLen → (∀ b ∈ l0_2, (Lit.int .i64 b.f0).wf = true ∧ (Lit.int .i64 b.f1).wf = true) → ∃ k, laws_FnExactCityText.f k a0_0 a0_1 l0_2 = some true
theorem laws_FnExactCityText.walk (P : laws_FnExactCityText.Pure) (a0_0 : Int) (a0_1 : Int) (A0_2 : Option Addr) (c0_2 : Nat) (l0_2 : List (S46)) (w : World) (w0_0 : (Lit.int .i64 a0_0).wf = true) (w0_1 : (Lit.int .i64 a0_1).wf = true) (hr0_2 : Kd.C k46 w A0_2 l0_2.length l0_2) (hl0_2 : l0_2.length ≤ c0_2) (hm0_2 : c0_2 ≤ maxLen) (hb0_2 : ∀ b ∈ l0_2, (Lit.int .i64 b.f0).wf = true ∧ (Lit.int .i64 b.f1).wf = true) :
  Calls Tryd.prog 3 #[.agg #[.int .i64 a0_0, .int .i64 a0_1, .slice A0_2 l0_2.length c0_2]] w fun e w' => e = .returned (.bool true) ∧ Below w.heap.size w w' := by
 obtain ⟨k, h⟩ := P a0_0 a0_1 l0_2 w0_0 w0_1 (Nat.le_trans hl0_2 hm0_2) hb0_2
 refine (laws_FnExactCityText.calls k a0_0 a0_1 A0_2 c0_2 l0_2 true w hr0_2 hl0_2 h).mono ?_
 rintro e w' ⟨rfl, hd⟩
 exact ⟨rfl, hd⟩
end Go.Proofs.YtpedofomfhmnfaaDoor.PFnExactCityText
