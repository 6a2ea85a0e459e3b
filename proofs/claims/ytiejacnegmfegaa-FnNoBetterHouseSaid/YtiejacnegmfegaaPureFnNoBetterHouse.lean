/- No house has a lesser sum of walks than those that are told, and these are all with this sum: plain lists and numbers. -/
import Derived.Test.YtiejacnegmfegaaPFnNoBetterHousex4
import Derived.Test.YtiejacnegmfegaaKit
namespace Go.Proofs.Ytiejacnegmfegaa.Pure
open Go.RowKit Go.Proofs.YtiejacnegmfegaaW.PrintWords Go.Proofs.YtiejacnegmfegaaW.PrintLast Go.Proofs.YtiejacnegmfegaaW.PrintMore Go.Proofs.YtiejacnegmfegaaKit
open Go.Proofs.Ytiejacnegmfegaa.PFnNoBetterHouse
namespace NoBetterHouse
/-! People: what both sides say of a list of people. -/
def people (l : List Int) : Bool := decide (1 ≤ (l.length : Int) ∧ (l.length : Int) ≤ 60) && (l.all (fun x => decide (0 ≤ x ∧ x ≤ 1000)) && decide (0 < l.sum))
theorem people_len {l : List Int} (h : people l = true) : 1 ≤ l.length ∧ l.length ≤ 60 := by
  simp only [people, Bool.and_eq_true, decide_eq_true_eq] at h; omega
theorem people_mem {l : List Int} (h : people l = true) : ∀ x ∈ l, 0 ≤ x ∧ x ≤ 1000 := by
  simp only [people, Bool.and_eq_true, decide_eq_true_eq, List.all_eq_true] at h
  exact h.2.1
theorem people_get {l : List Int} (h : people l = true) (i : Nat) (hi : i < l.length) : 0 ≤ l[i] ∧ l[i] ≤ 1000 := people_mem h _ (List.getElem_mem hi)
theorem people_sum {l : List Int} (h : people l = true) : 0 < l.sum := by
  simp only [people, Bool.and_eq_true, decide_eq_true_eq] at h
  exact h.2.2
theorem people_take {l : List Int} (h : people l = true) (i : Nat) : 0 ≤ (l.take i).sum ∧ (l.take i).sum ≤ 60000 := by
  have h1 := sum_bounds (l.take i) 1000 (fun x hx => people_mem h x (List.mem_of_mem_take hx))
  have h2 := people_len h
  have h3 : (l.take i).length ≤ 60 := by simp; omega
  omega
theorem ge_le (a b c : Int) : (if a ≥ b then some (decide (a ≤ c)) else some false) = some (decide (b ≤ a ∧ a ≤ c)) := by
  by_cases h : a ≥ b
  · rw [if_pos h]; simp [show b ≤ a from h]
  · rw [if_neg h]; simp; omega
theorem l1In_f (a b c : Int) : spec_l1In.f a b c = some (decide (b ≤ a ∧ a ≤ c)) := by unfold spec_l1In.f; exact ge_le a b c
theorem within_f (a b c : Int) : impl_within.f a b c = some (decide (b ≤ a ∧ a ≤ c)) := by unfold impl_within.f; exact ge_le a b c
theorem l1All_ev (l : List Int) (hl : l.length ≤ 1048576) (a b : Int) : Ev (fun k => spec_l1All.f k l a b) (l.all fun x => decide (a ≤ x ∧ x ≤ b)) := by
  rw [← runL_all _ l 0]
  refine ev_loop0 l (fun k i (_ : Unit) => spec_l1All.l0 k a b l (l.length : Int) i) _ _ (fun _ _ => True) () trivial (fun i s hi _ => ?_) (fun s _ => ?_)
  · have hw : wrap64 ((i : Int) + 1) = (i : Int) + 1 := w64 (by omega) (by omega)
    constructor
    · intro s' e
      refine ⟨trivial, fun r hr => Ev.to _ (fun k => ?_) hr⟩
      by_cases hp : a ≤ l[i] ∧ l[i] ≤ b
      · simp only [spec_l1All.l0]
        rw [if_pos (by omega), if_pos (by omega), if_pos (by omega), l1In_f, rd_get l i hi, decide_eq_true hp, hw]; rfl
      · simp [hp] at e
    · intro r e
      by_cases hp : a ≤ l[i] ∧ l[i] ≤ b
      · simp [hp] at e
      · rw [if_neg (by simpa using hp)] at e
        cases e
        refine Ev.stop fun k => ?_
        simp only [spec_l1All.l0]
        rw [if_pos (by omega), if_pos (by omega), if_pos (by omega), l1In_f, rd_get l i hi, decide_eq_false hp]; rfl
  · exact Ev.stop fun k => by simp only [spec_l1All.l0]; rw [if_neg (by omega)]
theorem allWithin_l0 (a b : Int) (l : List Int) (n : Int) : ∀ k i, impl_allWithin.l0 k a b l n i = spec_l1All.l0 k a b l n i
  | 0, _ => rfl
  | k + 1, i => by simp only [impl_allWithin.l0, spec_l1All.l0, within_f, l1In_f, allWithin_l0 a b l n k]
theorem allWithin_ev (l : List Int) (hl : l.length ≤ 1048576) (a b : Int) : Ev (fun k => impl_allWithin.f k l a b) (l.all fun x => decide (a ≤ x ∧ x ≤ b)) :=
  Ev.congr (fun k => by unfold impl_allWithin.f; exact allWithin_l0 _ _ _ _ _ _) (l1All_ev l hl a b)
theorem mdSum_ev (l : List Int) (hl : l.length ≤ 60) (hm : ∀ x ∈ l, 0 ≤ x ∧ x ≤ 1000) : Ev (fun k => spec_mdSum.f k l) l.sum := by
  have e := foldI_sum l 0 0
  rw [Int.zero_add] at e
  rw [← e]
  refine ev_fold l (fun k i s => spec_mdSum.l0 k s l (l.length : Int) i) _ (fun s => s) (fun i s => 0 ≤ s ∧ s ≤ 1000 * i) 0 (by simp) (fun i s hi hs => ?_) (fun s _ => ?_)
  · have hx := hm _ (List.getElem_mem hi)
    refine ⟨by omega, fun r hr => Ev.to _ (fun k => ?_) hr⟩
    simp only [spec_mdSum.l0]
    rw [if_pos (by omega), if_pos (by omega), if_pos (by omega), rd_get l i hi, w64 (x := (i : Int) + 1) (by omega) (by omega), w64 (by omega) (by omega)]
  · exact Ev.stop fun k => by simp only [spec_mdSum.l0]; rw [if_neg (by omega)]
theorem sumOf_l0 (l : List Int) (n : Int) : ∀ k s i, impl_sumOf.l0 k s l n i = spec_mdSum.l0 k s l n i
  | 0, _, _ => rfl
  | k + 1, s, i => by simp only [impl_sumOf.l0, spec_mdSum.l0, sumOf_l0 l n k]
theorem sumOf_ev (l : List Int) (hl : l.length ≤ 60) (hm : ∀ x ∈ l, 0 ≤ x ∧ x ≤ 1000) : Ev (fun k => impl_sumOf.f k l) l.sum :=
  Ev.congr (fun k => by unfold impl_sumOf.f; exact sumOf_l0 _ _ _ _ _) (mdSum_ev l hl hm)
theorem mdGood_ev (l : List Int) (hl : l.length ≤ 1048576) : Ev (fun k => spec_mdGood.f k l) (people l) := by
  unfold spec_mdGood.f people
  simp only [l1In_f, Option.bind_some]
  by_cases h1 : 1 ≤ (l.length : Int) ∧ (l.length : Int) ≤ 60
  · simp only [decide_eq_true h1, if_true, Bool.true_and]
    refine Ev.bind (l1All_ev l hl 0 1000) ?_
    cases h2 : l.all fun x => decide (0 ≤ x ∧ x ≤ 1000)
    · simpa using Ev.now false
    · simp only [if_true, Bool.true_and]
      refine Ev.mapb (fun t => decide (t > 0)) (mdSum_ev l (by omega) ?_)
      simpa [List.all_eq_true] using h2
  · simp only [decide_eq_false h1, Bool.false_and]
    simpa using Ev.now false
theorem ArePeople_ev (l : List Int) (hl : l.length ≤ 1048576) : Ev (fun k => impl_ArePeople.f k l) (people l) := by
  unfold impl_ArePeople.f people
  simp only [within_f, Option.bind_some]
  by_cases h1 : 1 ≤ (l.length : Int) ∧ (l.length : Int) ≤ 60
  · simp only [decide_eq_true h1, if_true, Bool.true_and]
    refine Ev.bind (allWithin_ev l hl 0 1000) ?_
    cases h2 : l.all fun x => decide (0 ≤ x ∧ x ≤ 1000)
    · simpa using Ev.now false
    · simp only [if_true, Bool.true_and]
      refine Ev.mapb (fun t => decide (t > 0)) (sumOf_ev l (by omega) ?_)
      simpa [List.all_eq_true] using h2
  · simp only [decide_eq_false h1, Bool.false_and]
    simpa using Ev.now false
def houseOk (l : List Int) (a : Int) : Bool := people l && decide (0 ≤ a ∧ a ≤ (l.length : Int) - 1)
theorem hasHouse_ev (l : List Int) (hl : l.length ≤ 1048576) (a : Int) : Ev (fun k => impl_hasHouse.f k l a) (houseOk l a) := by
  unfold impl_hasHouse.f houseOk
  refine Ev.bind (ArePeople_ev l hl) ?_
  cases h : people l
  · simpa using Ev.now false
  · simp only [if_true, Bool.true_and, within_f, Option.bind_some]
    rw [w64 (by omega) (by omega)]
    exact Ev.now _
/-! Absolute values. -/
def absV (x : Int) : Int := if x > wrap64 (-x) then x else wrap64 (-x)
theorem l1Abs_f (x : Int) : spec_l1Abs.f x = some (absV x) := by
  unfold spec_l1Abs.f spec_l1Most.f absV; split <;> rfl
theorem absOf_f (x : Int) : impl_absOf.f x = some (absV x) := by
  unfold impl_absOf.f absV mx
  congr 1
  split <;> split <;> omega
theorem absV_eq {x : Int} (h1 : -9223372036854775807 ≤ x) (h2 : x ≤ 9223372036854775807) : absV x = if x < 0 then -x else x := by
  unfold absV
  rw [w64 (by omega) (by omega)]
  split <;> split <;> omega
/-! The nearest box of a house. -/
def nearS (h : Int) (x s : Int) : Int := if absV (wrap64 (x - h)) < absV (wrap64 (s - h)) then x else s
def nearV (bs : List Int) (h : Int) : Int := foldI (fun _ x s => nearS h x s) 0 bs (rd bs 0)
theorem nearestBox_ev (bs : List Int) (h0 : 0 < bs.length) (hl : bs.length ≤ 1048576) (h : Int) : Ev (fun k => impl_nearestBox.f k bs h) (nearV bs h) := by
  unfold impl_nearestBox.f
  refine Ev.itet (by omega) ?_
  refine ev_fold bs (fun k i s => impl_nearestBox.l0 k h s bs (bs.length : Int) i) _ (fun s => s) (fun _ _ => True) _ trivial (fun i s hi _ => ⟨trivial, fun r hr => Ev.to _ (fun k => ?_) hr⟩) (fun s _ => Ev.stop fun k => ?_)
  · simp only [impl_nearestBox.l0, nearS]
    rw [if_pos (by omega), if_pos (by omega), if_pos (by omega), absOf_f, absOf_f, Option.bind_some, Option.bind_some, rd_get bs i hi, w64 (x := (i : Int) + 1) (by omega) (by omega)]
    split <;> rfl
  · simp only [impl_nearestBox.l0]; rw [if_neg (by omega)]
theorem near_mem (h : Int) : ∀ (bs : List Int) (i : Nat) (s : Int), foldI (fun _ x s => nearS h x s) i bs s = s ∨ foldI (fun _ x s => nearS h x s) i bs s ∈ bs
  | [], _, _ => .inl rfl
  | x :: xs, i, s => by
    simp only [foldI]
    rcases near_mem h xs (i + 1) (nearS h x s) with e | e
    · rw [e]
      unfold nearS
      split
      · exact .inr (by simp)
      · exact .inl rfl
    · exact .inr (by simp [e])
theorem nearV_mem (bs : List Int) (h0 : 0 < bs.length) (h : Int) : nearV bs h ∈ bs := by
  unfold nearV
  rcases near_mem h bs 0 (rd bs 0) with e | e
  · rw [e, show (0 : Int) = ((0 : Nat) : Int) from rfl, rd_get bs 0 h0]
    exact List.getElem_mem h0
  · exact e
theorem nearV_one (a h : Int) : nearV [a] h = a := by
  simp [nearV, foldI, nearS, rd]
/-! The sum of walks to the nearest of some boxes. -/
def sumB (l bs : List Int) : Int := foldI (fun i x s => wrap64 (s + wrap64 (x * absV (wrap64 (nearV bs i - (i : Int)))))) 0 l 0
theorem boxesSum_ev (l bs : List Int) (hl : l.length ≤ 1048576) (h0 : 0 < bs.length) (hb : bs.length ≤ 1048576) : Ev (fun k => impl_boxesSum.f k l bs) (sumB l bs) := by
  refine ev_fold l (fun k i s => impl_boxesSum.l0 k bs s l (l.length : Int) i) _ (fun s => s) (fun _ _ => True) 0 trivial (fun i s hi _ => ⟨trivial, fun r hr => ?_⟩) (fun s _ => Ev.stop fun k => ?_)
  · refine Ev.to (f := fun k => (impl_nearestBox.f k bs (i : Int)).bind fun t => impl_boxesSum.l0 k bs (wrap64 (s + wrap64 (l[i] * absV (wrap64 (t - (i : Int)))))) l (l.length : Int) ((i : Int) + 1)) (fun k => ?_) (Ev.bind (nearestBox_ev bs h0 hb i) hr)
    simp only [impl_boxesSum.l0]
    rw [if_pos (by omega), if_pos (by omega), if_pos (by omega), rd_get l i hi, w64 (x := (i : Int) + 1) (by omega) (by omega)]
    simp only [absOf_f, Option.bind_some]
  · simp only [impl_boxesSum.l0]; rw [if_neg (by omega)]
/-! The sum of walks to a house. -/
def walkV (l : List Int) (a : Int) : Int := foldI (fun i x s => wrap64 (s + wrap64 (x * absV (wrap64 ((i : Int) - a))))) 0 l 0
theorem mdWalks_ev (l : List Int) (hl : l.length ≤ 1048576) (a : Int) : Ev (fun k => spec_mdWalks.f k l a) (walkV l a) := by
  refine ev_fold l (fun k i s => spec_mdWalks.l0 k a s l (l.length : Int) i) _ (fun s => s) (fun _ _ => True) 0 trivial (fun i s hi _ => ⟨trivial, fun r hr => Ev.to _ (fun k => ?_) hr⟩) (fun s _ => Ev.stop fun k => ?_)
  · simp only [spec_mdWalks.l0]
    rw [if_pos (by omega), if_pos (by omega), if_pos (by omega), l1Abs_f, Option.bind_some, rd_get l i hi, w64 (x := (i : Int) + 1) (by omega) (by omega)]
  · simp only [spec_mdWalks.l0]; rw [if_neg (by omega)]
/-! The walk to one box. -/
theorem foldI_congr {α σ : Type} (f g : Nat → α → σ → σ) (n : Nat) : ∀ (l : List α) (i : Nat) (s : σ), i + l.length ≤ n → (∀ j x s, j < n → f j x s = g j x s) → foldI f i l s = foldI g i l s
  | [], _, _, _, _ => rfl
  | x :: xs, i, s, hi, h => by
    simp only [List.length_cons] at hi
    simp only [foldI]
    rw [h i x s (by omega)]
    exact foldI_congr f g n xs (i + 1) _ (by omega) h
theorem abs_sym {a b : Int} (ha : 0 ≤ a) (ha' : a ≤ 1048576) (hb : 0 ≤ b) (hb' : b ≤ 1048576) : absV (wrap64 (a - b)) = absV (wrap64 (b - a)) := by
  rw [w64 (by omega) (by omega), w64 (by omega) (by omega), absV_eq (by omega) (by omega), absV_eq (by omega) (by omega)]
  split <;> split <;> omega
theorem sumB_one (l : List Int) (hl : l.length ≤ 1048576) (a : Int) (h0 : 0 ≤ a) (h1 : a ≤ 1048576) : sumB l [a] = walkV l a := by
  unfold sumB walkV
  refine foldI_congr _ _ l.length l 0 0 (by omega) (fun j x s hj => ?_)
  rw [nearV_one, abs_sym h0 h1 (by omega) (by omega)]
def tab (f : Nat → Int) (n : Nat) : List Int := (List.range n).map f
theorem tab_succ (f : Nat → Int) (n : Nat) : tab f (n + 1) = tab f n ++ [f n] := by simp [tab, List.range_succ]
theorem tab_length (f : Nat → Int) (n : Nat) : (tab f n).length = n := by simp [tab]
theorem tab_rd (f : Nat → Int) (n i : Nat) (h : i < n) : rd (tab f n) (i : Int) = f i := by
  rw [rd_get _ i (by rw [tab_length]; exact h)]
  simp [tab]
theorem spec_tab (l : List Int) (hl : l.length ≤ 1048576) : Ev (fun k => spec_mdTable.f k l false) (tab (fun i => walkV l i) l.length) := by
  unfold spec_mdTable.f
  have key : ∀ (d i : Nat), i + d = l.length → Ev (fun k => spec_mdTable.l0 k l false (tab (fun i => walkV l i) i) (l.length : Int) (i : Int)) (tab (fun i => walkV l i) l.length) := by
    intro d
    induction d with
    | zero =>
      intro i hi
      obtain rfl : i = l.length := by omega
      exact Ev.stop fun k => by simp only [spec_mdTable.l0]; rw [if_neg (by omega)]
    | succ d ih =>
      intro i hi
      have := ih (i + 1) (by omega)
      rw [tab_succ] at this
      refine Ev.to (f := fun k => (spec_mdWalks.f k l (i : Int)).bind fun t => spec_mdTable.l0 k l false (tab (fun i => walkV l i) i ++ [t]) (l.length : Int) ((i + 1 : Nat) : Int)) (fun k => ?_) (Ev.bind (mdWalks_ev l hl i) this)
      simp only [spec_mdTable.l0]
      rw [if_pos (by omega), if_neg (by simp), w64 (x := (i : Int) + 1) (by omega) (by omega)]
      simp only [tab_length, if_pos (show i < 17592186044416 by omega)]
      rfl
  have := key l.length 0 (by omega)
  simpa [tab] using this
/-- The houses told so far, and their sum. -/
def st (V : Int → Int) : Nat → List Int × Int
  | 0 => ([], 0)
  | j + 1 => if ((st V j).1.length : Int) = 0 ∨ V j < (st V j).2 then ([(j : Int)], V j) else if V j = (st V j).2 then ((st V j).1 ++ [(j : Int)], (st V j).2) else st V j
theorem st_inv (V : Int → Int) : ∀ j : Nat, (0 < j → (st V j).1 ≠ []) ∧ (∀ i : Nat, i < j → (st V j).2 ≤ V i) ∧ (∀ x, x ∈ (st V j).1 ↔ ∃ i : Nat, i < j ∧ x = (i : Int) ∧ V i = (st V j).2) ∧ (st V j).1.length ≤ j
  | 0 => ⟨fun h => absurd h (by omega), fun i h => absurd h (by omega), fun x => ⟨fun h => absurd h (by simp [st]), fun ⟨i, h, _⟩ => absurd h (by omega)⟩, by simp [st]⟩
  | j + 1 => by
    obtain ⟨h1, h2, h3, h4⟩ := st_inv V j
    simp only [st]
    by_cases c : ((st V j).1.length : Int) = 0 ∨ V j < (st V j).2
    · rw [if_pos c]
      have hlt : ∀ i : Nat, i < j → V j < V i := by
        intro i hi
        rcases c with c | c
        · exact absurd (List.eq_nil_of_length_eq_zero (by omega)) (h1 (by omega))
        · have := h2 i hi; omega
      refine ⟨fun _ => by simp, fun i hi => ?_, fun x => ⟨fun hx => ?_, fun ⟨i, hi, e, ev⟩ => ?_⟩, by simp⟩
      · rcases Nat.lt_or_ge i j with h | h
        · have := hlt i h; show V j ≤ V i; omega
        · obtain rfl : i = j := by omega
          exact Int.le_refl _
      · simp only [List.mem_singleton] at hx
        exact ⟨j, by omega, hx, rfl⟩
      · rcases Nat.lt_or_ge i j with h | h
        · have := hlt i h; have ev' : V i = V j := ev; omega
        · obtain rfl : i = j := by omega
          simp [e]
    · rw [if_neg c]
      simp only [not_or] at c
      have h0 : (st V j).1 ≠ [] := fun e => c.1 (by rw [e]; rfl)
      by_cases c2 : V j = (st V j).2
      · rw [if_pos c2]
        refine ⟨fun _ => by simp, fun i hi => ?_, fun x => ⟨fun hx => ?_, fun ⟨i, hi, e, ev⟩ => ?_⟩, by simp; omega⟩
        · rcases Nat.lt_or_ge i j with h | h
          · exact h2 i h
          · obtain rfl : i = j := by omega
            show (st V i).2 ≤ V i; omega
        · rcases List.mem_append.1 hx with hx | hx
          · obtain ⟨i, a, b, d⟩ := (h3 x).1 hx
            exact ⟨i, by omega, b, d⟩
          · simp only [List.mem_singleton] at hx
            exact ⟨j, by omega, hx, c2⟩
        · rcases Nat.lt_or_ge i j with h | h
          · exact List.mem_append.2 (.inl ((h3 x).2 ⟨i, h, e, ev⟩))
          · obtain rfl : i = j := by omega
            exact List.mem_append.2 (.inr (by simp [e]))
      · rw [if_neg c2]
        refine ⟨fun _ => h0, fun i hi => ?_, fun x => ⟨fun hx => ?_, fun ⟨i, hi, e, ev⟩ => ?_⟩, by omega⟩
        · rcases Nat.lt_or_ge i j with h | h
          · exact h2 i h
          · obtain rfl : i = j := by omega
            omega
        · obtain ⟨i, a, b, d⟩ := (h3 x).1 hx
          exact ⟨i, by omega, b, d⟩
        · rcases Nat.lt_or_ge i j with h | h
          · exact (h3 x).2 ⟨i, h, e, ev⟩
          · obtain rfl : i = j := by omega
            exact absurd ev c2
theorem spec_best (V : Int → Int) (n : Nat) (hn : n ≤ 1048576) : Ev (fun k => spec_mdBest.f k (tab (fun i => V i) n)) (st V n).1 := by
  unfold spec_mdBest.f
  rw [tab_length]
  have key : ∀ (d i : Nat), i + d = n → Ev (fun k => spec_mdBest.l0 k (tab (fun i => V i) n) (st V i).1 (tab (fun i => V i) n) (n : Int) (i : Int)) (st V n).1 := by
    intro d
    induction d with
    | zero =>
      intro i hi
      obtain rfl : i = n := by omega
      exact Ev.stop fun k => by simp only [spec_mdBest.l0]; rw [if_neg (by omega)]
    | succ d ih =>
      intro i hi
      have ih := ih (i + 1) (by omega)
      obtain ⟨i1, i2, i3, i4⟩ := st_inv V i
      refine Ev.succ ?_
      simp only [spec_mdBest.l0, tab_length]
      rw [tab_rd _ n i (by omega)]
      refine Ev.itet (by omega) (Ev.itet (by omega) (Ev.itet (by omega) ?_))
      by_cases c : ((st V i).1.length : Int) = 0
      · refine Ev.itet c (Ev.succ ?_)
        simp only [spec_mdBest.j1]
        rw [w64 (x := (i : Int) + 1) (by omega) (by omega)]
        refine Ev.itet trivial ?_
        rw [st, if_pos (Or.inl c)] at ih
        exact ih
      · have hm : rd (st V i).1 0 ∈ (st V i).1 := by
          rw [show (0 : Int) = ((0 : Nat) : Int) from rfl, rd_get _ 0 (by omega)]
          exact List.getElem_mem _
        obtain ⟨q, hq, eq, ev⟩ := (i3 _).1 hm
        rw [eq, tab_rd _ n q (by omega), ev]
        refine Ev.itef c (Ev.itet (by omega) (Ev.itet (by omega) (Ev.itet (by omega) (Ev.succ ?_))))
        simp only [spec_mdBest.j1, tab_length]
        rw [w64 (x := (i : Int) + 1) (by omega) (by omega), eq, tab_rd _ n q (by omega), ev]
        by_cases c2 : V i < (st V i).2
        · refine Ev.itet (by simpa using c2) ?_
          rw [st, if_pos (Or.inr c2)] at ih
          exact ih
        · refine Ev.itef (by simpa using c2) (Ev.itet (by omega) (Ev.itet (by omega) (Ev.itet (by omega) ?_)))
          rw [st, if_neg (not_or.mpr ⟨c, c2⟩)] at ih
          by_cases c3 : V i = (st V i).2
          · rw [if_pos c3] at ih
            exact Ev.itet c3 (Ev.itet (by omega) ih)
          · rw [if_neg c3] at ih
            exact Ev.itef c3 ih
  exact key n 0 (by omega)
theorem impl_best (l : List Int) (hl : l.length ≤ 60) : Ev (fun k => impl_BestHouses.l0 k l k 0 [] 0) (st (walkV l) l.length).1 := by
  have key : ∀ (d i : Nat), i + d = l.length → ∃ K, ∀ p k, K ≤ p → K ≤ k → impl_BestHouses.l0 p l k (i : Int) (st (walkV l) i).1 (st (walkV l) i).2 = some (st (walkV l) l.length).1 := by
    intro d
    induction d with
    | zero =>
      intro i hi
      obtain rfl : i = l.length := by omega
      refine ⟨1, fun p k _ hk => ?_⟩
      obtain ⟨k, rfl⟩ : ∃ j, k = j + 1 := ⟨k - 1, by omega⟩
      simp only [impl_BestHouses.l0]
      rw [if_neg (by omega)]
    | succ d ih =>
      intro i hi
      obtain ⟨K, ih⟩ := ih (i + 1) (by omega)
      obtain ⟨K1, hb⟩ := boxesSum_ev l [(i : Int)] (by omega) (by simp) (by simp)
      obtain ⟨i1, i2, i3, i4⟩ := st_inv (walkV l) i
      refine ⟨K + K1 + 1, fun p k hp hk => ?_⟩
      obtain ⟨k, rfl⟩ : ∃ j, k = j + 1 := ⟨k - 1, by omega⟩
      have ih := ih p k (by omega) (by omega)
      have hb : impl_boxesSum.f p l [(i : Int)] = some (sumB l [(i : Int)]) := hb p (by omega)
      simp only [impl_BestHouses.l0]
      rw [if_pos (by omega), hb, sumB_one l (by omega) i (by omega) (by omega), Option.bind_some, w64 (x := (i : Int) + 1) (by omega) (by omega)]
      rw [st] at ih
      by_cases c : ((st (walkV l) i).1.length : Int) = 0 ∨ walkV l i < (st (walkV l) i).2
      · rw [if_pos c] at ih ⊢
        exact ih
      · rw [if_neg c] at ih ⊢
        by_cases c3 : walkV l i = (st (walkV l) i).2
        · rw [if_pos c3] at ih ⊢
          rw [if_pos (by omega)]
          exact ih
        · rw [if_neg c3] at ih ⊢
          exact ih
  obtain ⟨K, h⟩ := key l.length 0 (by omega)
  exact ⟨K, fun k hk => h k k hk hk⟩
theorem people_len60 {l : List Int} (h : people l = true) : 1 ≤ l.length ∧ l.length ≤ 60 := by
  have := people_len h
  omega
theorem td_one (l : List Int) (hl : l.length ≤ 60) (h : Int) (h0 : 0 ≤ h) (h1 : h < l.length) : Ev (fun k => laws_tdWalks.f k l [h]) (walkV l h) := by
  refine ev_fold l (fun k i s => laws_tdWalks.l0 k l [h] s l (l.length : Int) i) (fun i x s => wrap64 (s + wrap64 (x * absV (wrap64 ((i : Int) - h))))) (fun s => s) (fun _ _ => True) 0 trivial (fun i s hi _ => ⟨trivial, fun r hr => Ev.succ ?_⟩) (fun s _ => Ev.stop fun k => ?_)
  · simp only [laws_tdWalks.l0]
    rw [rd_get l i hi]
    refine Ev.itet (by omega) (Ev.itet (by omega) (Ev.itet (by omega) (Ev.succ ?_)))
    simp only [laws_tdWalks.l1]
    rw [show rd [h] 0 = h from rfl, w64 (x := (0 : Int) + 1) (by omega) (by omega)]
    refine Ev.itet (by simp) (Ev.itet (by simp) (Ev.itet (by simp) (Ev.succ ?_)))
    simp only [laws_tdWalks.l1]
    refine Ev.itef (by simp) ?_
    have e : mn (l.length : Int) (mx (wrap64 (h - i)) (wrap64 ((i : Int) - h))) = absV (wrap64 ((i : Int) - h)) := by
      rw [w64 (x := h - i) (by omega) (by omega), w64 (x := (i : Int) - h) (by omega) (by omega), absV_eq (by omega) (by omega)]
      unfold mn mx
      repeat' split
      all_goals omega
    rw [e, w64 (x := (i : Int) + 1) (by omega) (by omega)]
    exact hr
  · simp only [laws_tdWalks.l0]; rw [if_neg (by omega)]
theorem walksTo_ev (l : List Int) (hp : people l = true) (a : Int) (h0 : 0 ≤ a) (h1 : a < l.length) : Ev (fun k => impl_WalksTo.f k l a) (walkV l a, true) := by
  have hl := people_len60 hp
  unfold impl_WalksTo.f
  refine Ev.bind (hasHouse_ev l (by omega) a) (Ev.itet ?_ ?_)
  · unfold houseOk
    rw [hp, Bool.true_and, decide_eq_true_eq]
    omega
  · rw [← sumB_one l (by omega) a h0 (by omega)]
    exact Ev.mapb (fun t => (t, true)) (boxesSum_ev l [a] (by omega) (by simp) (by simp))
theorem loop_ev (l : List Int) (hp : people l = true) (a : Int) (h0 : 0 ≤ a) (h1 : a < l.length) (b : List Int) (m : Int) (hb : 0 < b.length) (hb6 : b.length ≤ 60)
    (hm : ∀ x ∈ b, 0 ≤ x ∧ x < l.length ∧ walkV l x = m) (hmin : m ≤ walkV l a) (hall : walkV l a = m → a ∈ b) :
    ∀ (d i : Nat) (t : Bool), i + d = b.length → (t = true ↔ a ∈ b.take i) → Ev (fun k => laws_FnNoBetterHouse.l0 k l a b b m t b (b.length : Int) (i : Int)) true
  | 0, i, t, hi, ht => by
    have hl := people_len60 hp
    refine Ev.succ ?_
    simp only [laws_FnNoBetterHouse.l0]
    refine Ev.itef (by omega) (Ev.bind (walksTo_ev l hp a h0 h1) (Ev.itet (by omega) (Ev.itet rfl (Ev.bind (td_one l hl.2 a h0 h1) (Ev.itet rfl (Ev.itet hmin ?_))))))
    rw [List.take_of_length_le (by omega)] at ht
    have e : (t == (walkV l a == m)) = true := by
      rw [beq_iff_eq, Bool.eq_iff_iff, ht, beq_iff_eq]
      exact ⟨fun h => (hm a h).2.2, hall⟩
    rw [e]
    exact Ev.now _
  | d + 1, i, t, hi, ht => by
    have hl := people_len60 hp
    have hlt : i < b.length := by omega
    have hx := hm b[i] (List.getElem_mem hlt)
    refine Ev.succ ?_
    simp only [laws_FnNoBetterHouse.l0]
    rw [rd_get b i hlt, w64 (x := (i : Int) + 1) (by omega) (by omega)]
    have htd := td_one l hl.2 b[i] hx.1 hx.2.1
    rw [hx.2.2] at htd
    have e : b.take (i + 1) = b.take i ++ [b[i]] := List.take_succ_eq_append_getElem hlt
    refine Ev.itet (by omega) (Ev.itet (by omega) (Ev.itet (by omega) ?_))
    cases t with
    | true =>
      refine Ev.itet (by simp) (Ev.itet (by omega) (Ev.itet (by simp) (Ev.bind htd (Ev.itet rfl ?_))))
      have := loop_ev l hp a h0 h1 b m hb hb6 hm hmin hall d (i + 1) true (by omega) (by rw [e]; exact ⟨fun _ => List.mem_append.2 (.inl (ht.1 rfl)), fun _ => rfl⟩)
      simpa using this
    | false =>
      refine Ev.itef (by simp) (Ev.itet (by omega) (Ev.itet (by simp) (Ev.bind htd (Ev.itet rfl ?_))))
      have hn : ¬ a ∈ b.take i := fun h => by have := ht.2 h; cases this
      have := loop_ev l hp a h0 h1 b m hb hb6 hm hmin hall d (i + 1) (b[i] == a) (by omega) (by rw [e, beq_iff_eq]; exact ⟨fun h => List.mem_append.2 (.inr (by rw [h]; simp)), fun h => by rcases List.mem_append.1 h with h | h; exact absurd h hn; exact (List.mem_singleton.1 h).symm⟩)
      simpa using this
theorem main : laws_FnNoBetterHouse.Pure := by
  intro l a _ _ _ _
  refine Ev.rounds ?_
  unfold laws_FnNoBetterHouse.f
  by_cases hbig : (l.length : Int) > 1000
  · exact Ev.itet hbig (Ev.now _)
  refine Ev.itef hbig ?_
  have hl : l.length ≤ 1048576 := by omega
  cases hp : people l with
  | false =>
    have hi : Ev (fun k => impl_BestHouses.f k l) ([], false) := by
      unfold impl_BestHouses.f
      refine Ev.bind (ArePeople_ev l hl) ?_
      rw [hp]
      exact Ev.itef (by simp) (Ev.now _)
    have hs : Ev (fun k => spec_BestHouses.f k l) ([], false) := by
      unfold spec_BestHouses.f
      refine Ev.bind (mdGood_ev l hl) ?_
      rw [hp]
      exact Ev.itef (by simp) (Ev.now _)
    refine Ev.bind hi (Ev.bind hs (Ev.itef (by simp) (Ev.succ ?_)))
    simp only [laws_FnNoBetterHouse.j0]
    refine Ev.itef (by simp) (Ev.itef (by simp) (Ev.succ ?_))
    simp only [laws_FnNoBetterHouse.j1]
    exact Ev.itet trivial (Ev.now _)
  | true =>
    have h60 := people_len60 hp
    have hi : Ev (fun k => impl_BestHouses.f k l) ((st (walkV l) l.length).1, true) := by
      unfold impl_BestHouses.f
      refine Ev.bind (ArePeople_ev l hl) ?_
      rw [hp]
      exact Ev.itet rfl (Ev.bind (impl_best l h60.2) (Ev.now _))
    have hs : Ev (fun k => spec_BestHouses.f k l) ((st (walkV l) l.length).1, true) := by
      unfold spec_BestHouses.f
      refine Ev.bind (mdGood_ev l hl) ?_
      rw [hp]
      exact Ev.itet rfl (Ev.bind (spec_tab l hl) (Ev.bind (spec_best (walkV l) l.length hl) (Ev.now _)))
    obtain ⟨s1, s2, s3, s4⟩ := st_inv (walkV l) l.length
    refine Ev.bind hi (Ev.bind hs (Ev.itef (by simp) (Ev.succ ?_)))
    generalize (st (walkV l) l.length).2 = m at s2 s3
    generalize (st (walkV l) l.length).1 = b at s1 s3 s4
    simp only [laws_FnNoBetterHouse.j0]
    refine Ev.itef (by simp) (Ev.itet (by simp) ?_)
    by_cases a0 : a < 0
    · refine Ev.itet a0 (Ev.succ ?_)
      simp only [laws_FnNoBetterHouse.j1]
      exact Ev.itet trivial (Ev.now _)
    refine Ev.itef a0 (Ev.succ ?_)
    simp only [laws_FnNoBetterHouse.j1]
    by_cases a1 : a ≥ (l.length : Int)
    · exact Ev.itet (by simpa using a1) (Ev.now _)
    refine Ev.itef (by simpa using a1) ?_
    match b, s1 (by omega), s3, s4 with
    | x :: xs, _, s3, s4 =>
      have e1 : mn 1 ((x :: xs).length : Int) = 1 := by
        unfold mn
        simp only [List.length_cons]
        split <;> omega
      rw [e1]
      have hm : ∀ y ∈ x :: xs, 0 ≤ y ∧ y < l.length ∧ walkV l y = m := by
        intro y hy
        obtain ⟨i, hi, e, ev⟩ := (s3 y).1 hy
        exact ⟨by omega, by omega, by rw [e]; exact ev⟩
      have hx := hm x (by simp)
      have htd := td_one l h60.2 x hx.1 hx.2.1
      rw [hx.2.2] at htd
      obtain ⟨an, rfl⟩ : ∃ an : Nat, a = (an : Int) := ⟨a.toNat, by omega⟩
      have hfin := loop_ev l hp an (by omega) (by omega) (x :: xs) m (by simp) (by omega) hm (s2 an (by omega)) (fun h => (s3 _).2 ⟨an, by omega, rfl, h⟩) (x :: xs).length 0 false (by omega) (by simp)
      refine Ev.itet (by omega) (Ev.itet (by simp only [List.length_cons]; omega) (Ev.bind (a := m) ?_ hfin))
      simpa using htd
end NoBetterHouse
theorem FnNoBetterHouse : laws_FnNoBetterHouse.Pure := NoBetterHouse.main
end Go.Proofs.Ytiejacnegmfegaa.Pure
