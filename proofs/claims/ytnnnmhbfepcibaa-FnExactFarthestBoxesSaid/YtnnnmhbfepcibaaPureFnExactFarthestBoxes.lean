/- The Lean functions printed of both sides say the same least farthest walk with so many boxes, for all arguments. No condition beyond the printed bounds. -/
import Derived.Test.YtnnnmhbfepcibaaPFnExactFarthestBoxesx3
import Derived.Test.YtnnnmhbfepcibaaKit
namespace Go.Proofs.Ytnnnmhbfepcibaa.Pure
open Go.RowKit Go.Proofs.YtnnnmhbfepcibaaW.PrintWords Go.Proofs.YtnnnmhbfepcibaaW.PrintLast Go.Proofs.YtnnnmhbfepcibaaW.PrintMore Go.Proofs.YtnnnmhbfepcibaaKit
open Go.Proofs.Ytnnnmhbfepcibaa.PFnExactFarthestBoxes
namespace FarthestBoxes
/-! People: what both sides say of a list of people. -/
def people (l : List Int) : Bool := decide (1 ≤ (l.length : Int) ∧ (l.length : Int) ≤ 60) && (l.all (fun x => decide (0 ≤ x ∧ x ≤ 1000)) && decide (0 < l.sum))
theorem people_len {l : List Int} (h : people l = true) : 1 ≤ l.length ∧ l.length ≤ 60 := by
  simp only [people, Bool.and_eq_true, decide_eq_true_eq] at h; omega
theorem people_mem {l : List Int} (h : people l = true) : ∀ x ∈ l, 0 ≤ x ∧ x ≤ 1000 := by
  simp only [people, Bool.and_eq_true, decide_eq_true_eq, List.all_eq_true] at h
  exact h.2.1
theorem people_get {l : List Int} (h : people l = true) (i : Nat) (hi : i < l.length) : 0 ≤ l[i] ∧ l[i] ≤ 1000 := people_mem h _ (List.getElem_mem hi)
theorem people_sum {l : List Int} (h : people l = true) : 0 < l.sum := by
  simp only [people, Bool.and_eq_true, decide_eq_true_eq] at h
  exact h.2.2
theorem people_take {l : List Int} (h : people l = true) (i : Nat) : 0 ≤ (l.take i).sum ∧ (l.take i).sum ≤ 60000 := by
  have h1 := sum_bounds (l.take i) 1000 (fun x hx => people_mem h x (List.mem_of_mem_take hx))
  have h2 := people_len h
  have h3 : (l.take i).length ≤ 60 := by simp; omega
  omega

theorem ge_le (a b c : Int) : (if a ≥ b then some (decide (a ≤ c)) else some false) = some (decide (b ≤ a ∧ a ≤ c)) := by
  by_cases h : a ≥ b
  · rw [if_pos h]; simp [show b ≤ a from h]
  · rw [if_neg h]; simp; omega
theorem l1In_f (a b c : Int) : spec_l1In.f a b c = some (decide (b ≤ a ∧ a ≤ c)) := by unfold spec_l1In.f; exact ge_le a b c
theorem within_f (a b c : Int) : impl_within.f a b c = some (decide (b ≤ a ∧ a ≤ c)) := by unfold impl_within.f; exact ge_le a b c

theorem l1All_ev (l : List Int) (hl : l.length ≤ 1048576) (a b : Int) : Ev (fun k => spec_l1All.f k l a b) (l.all fun x => decide (a ≤ x ∧ x ≤ b)) := by
  rw [← runL_all _ l 0]
  refine ev_loop0 l (fun k i (_ : Unit) => spec_l1All.l0 k a b l (l.length : Int) i) _ _ (fun _ _ => True) () trivial (fun i s hi _ => ?_) (fun s _ => ?_)
  · have hw : wrap64 ((i : Int) + 1) = (i : Int) + 1 := w64 (by omega) (by omega)
    constructor
    · intro s' e
      refine ⟨trivial, fun r hr => Ev.to _ (fun k => ?_) hr⟩
      by_cases hp : a ≤ l[i] ∧ l[i] ≤ b
      · simp only [spec_l1All.l0]
        rw [if_pos (by omega), if_pos (by omega), if_pos (by omega), l1In_f, rd_get l i hi, decide_eq_true hp, hw]; rfl
      · simp [hp] at e
    · intro r e
      by_cases hp : a ≤ l[i] ∧ l[i] ≤ b
      · simp [hp] at e
      · rw [if_neg (by simpa using hp)] at e
        cases e
        refine Ev.stop fun k => ?_
        simp only [spec_l1All.l0]
        rw [if_pos (by omega), if_pos (by omega), if_pos (by omega), l1In_f, rd_get l i hi, decide_eq_false hp]; rfl
  · exact Ev.stop fun k => by simp only [spec_l1All.l0]; rw [if_neg (by omega)]
theorem allWithin_l0 (a b : Int) (l : List Int) (n : Int) : ∀ k i, impl_allWithin.l0 k a b l n i = spec_l1All.l0 k a b l n i
  | 0, _ => rfl
  | k + 1, i => by simp only [impl_allWithin.l0, spec_l1All.l0, within_f, l1In_f, allWithin_l0 a b l n k]
theorem allWithin_ev (l : List Int) (hl : l.length ≤ 1048576) (a b : Int) : Ev (fun k => impl_allWithin.f k l a b) (l.all fun x => decide (a ≤ x ∧ x ≤ b)) :=
  Ev.congr (fun k => by unfold impl_allWithin.f; exact allWithin_l0 _ _ _ _ _ _) (l1All_ev l hl a b)
theorem mdSum_ev (l : List Int) (hl : l.length ≤ 60) (hm : ∀ x ∈ l, 0 ≤ x ∧ x ≤ 1000) : Ev (fun k => spec_mdSum.f k l) l.sum := by
  have e := foldI_sum l 0 0
  rw [Int.zero_add] at e
  rw [← e]
  refine ev_fold l (fun k i s => spec_mdSum.l0 k s l (l.length : Int) i) _ (fun s => s) (fun i s => 0 ≤ s ∧ s ≤ 1000 * i) 0 (by simp) (fun i s hi hs => ?_) (fun s _ => ?_)
  · have hx := hm _ (List.getElem_mem hi)
    refine ⟨by omega, fun r hr => Ev.to _ (fun k => ?_) hr⟩
    simp only [spec_mdSum.l0]
    rw [if_pos (by omega), if_pos (by omega), if_pos (by omega), rd_get l i hi, w64 (x := (i : Int) + 1) (by omega) (by omega), w64 (by omega) (by omega)]
  · exact Ev.stop fun k => by simp only [spec_mdSum.l0]; rw [if_neg (by omega)]
theorem sumOf_l0 (l : List Int) (n : Int) : ∀ k s i, impl_sumOf.l0 k s l n i = spec_mdSum.l0 k s l n i
  | 0, _, _ => rfl
  | k + 1, s, i => by simp only [impl_sumOf.l0, spec_mdSum.l0, sumOf_l0 l n k]
theorem sumOf_ev (l : List Int) (hl : l.length ≤ 60) (hm : ∀ x ∈ l, 0 ≤ x ∧ x ≤ 1000) : Ev (fun k => impl_sumOf.f k l) l.sum :=
  Ev.congr (fun k => by unfold impl_sumOf.f; exact sumOf_l0 _ _ _ _ _) (mdSum_ev l hl hm)
theorem mdGood_ev (l : List Int) (hl : l.length ≤ 1048576) : Ev (fun k => spec_mdGood.f k l) (people l) := by
  unfold spec_mdGood.f people
  simp only [l1In_f, Option.bind_some]
  by_cases h1 : 1 ≤ (l.length : Int) ∧ (l.length : Int) ≤ 60
  · simp only [decide_eq_true h1, if_true, Bool.true_and]
    refine Ev.bind (l1All_ev l hl 0 1000) ?_
    cases h2 : l.all fun x => decide (0 ≤ x ∧ x ≤ 1000)
    · simpa using Ev.now false
    · simp only [if_true, Bool.true_and]
      refine Ev.mapb (fun t => decide (t > 0)) (mdSum_ev l (by omega) ?_)
      simpa [List.all_eq_true] using h2
  · simp only [decide_eq_false h1, Bool.false_and]
    simpa using Ev.now false
theorem ArePeople_ev (l : List Int) (hl : l.length ≤ 1048576) : Ev (fun k => impl_ArePeople.f k l) (people l) := by
  unfold impl_ArePeople.f people
  simp only [within_f, Option.bind_some]
  by_cases h1 : 1 ≤ (l.length : Int) ∧ (l.length : Int) ≤ 60
  · simp only [decide_eq_true h1, if_true, Bool.true_and]
    refine Ev.bind (allWithin_ev l hl 0 1000) ?_
    cases h2 : l.all fun x => decide (0 ≤ x ∧ x ≤ 1000)
    · simpa using Ev.now false
    · simp only [if_true, Bool.true_and]
      refine Ev.mapb (fun t => decide (t > 0)) (sumOf_ev l (by omega) ?_)
      simpa [List.all_eq_true] using h2
  · simp only [decide_eq_false h1, Bool.false_and]
    simpa using Ev.now false
/-! The laws' own copies and comparisons of lists of numbers. -/
theorem toIntS_ev (l : List Int) (hl : l.length ≤ 1048576) : Ev (fun k => laws_toIntS.f k l) l := by
  unfold laws_toIntS.f
  refine Ev.itet (by omega) (Ev.itet (by omega) ?_)
  have key : ∀ (d i : Nat), i + d = l.length → Ev (fun k => laws_toIntS.l0 k l (l.take i ++ List.replicate d 0) (i : Int)) l := by
    intro d
    induction d with
    | zero =>
      intro i hi
      refine Ev.stop fun k => ?_
      simp only [laws_toIntS.l0]
      rw [if_neg (by omega), List.take_of_length_le (by omega)]
      simp
    | succ d ih =>
      intro i hi
      have hlt : i < l.length := by omega
      refine Ev.to _ (fun k => ?_) (ih (i + 1) (by omega))
      simp only [laws_toIntS.l0]
      rw [if_pos (by omega), if_pos (by omega), if_pos (by simp; omega), rd_get l i hlt, w64 (by omega) (by omega)]
      have e : (l.take i ++ List.replicate (d + 1) 0).set (i : Int).toNat l[i] = l.take (i + 1) ++ List.replicate d 0 := by
        rw [List.take_succ_eq_append_getElem hlt, Int.toNat_natCast, List.set_append_right _ _ (by simp; omega)]
        have : i - (l.take i).length = 0 := by simp; omega
        rw [this, List.replicate_succ, List.set_cons_zero, List.append_assoc]
        rfl
      rw [e]
      rfl
  have := key l.length 0 (by omega)
  simpa using this
theorem eqIntS_ev (l : List Int) (hl : l.length ≤ 1048576) : Ev (fun k => laws_eqIntS.f k l l) true := by
  unfold laws_eqIntS.f
  refine Ev.itet rfl ?_
  have := runL_all (fun _ => true) l 0
  rw [show (l.all fun _ => true) = true by simp] at this
  rw [← this]
  refine ev_loop0 l (fun k i (_ : Unit) => laws_eqIntS.l0 k l l i) _ _ (fun _ _ => True) () trivial (fun i s hi _ => ⟨fun s' e => ⟨trivial, fun r hr => Ev.to _ (fun k => ?_) hr⟩, fun r e => by simp at e⟩) (fun s _ => Ev.stop fun k => ?_)
  · simp only [laws_eqIntS.l0]
    rw [if_pos (by omega), if_pos (by omega), if_pos (by omega), if_pos trivial, w64 (by omega) (by omega)]
  · simp only [laws_eqIntS.l0]
    rw [if_neg (by omega)]
/-! How many boxes are enough for a longest walk. -/
def need (far : Nat) : List Int → Nat → Int → Int
  | [], _, c => c
  | x :: xs, 0, c => if x > 0 then need far xs (2 * far) (c + 1) else need far xs 0 c
  | _ :: xs, s + 1, c => need far xs s c
theorem need_drop (far : Nat) : ∀ (xs : List Int) (s : Nat) (c : Int), need far xs s c = need far (xs.drop s) 0 c
  | [], s, c => by simp [need]
  | x :: xs, 0, c => rfl
  | x :: xs, s + 1, c => by simp only [need, List.drop_succ_cons]; exact need_drop far xs s c
theorem mdNeed_l0 (l : List Int) (hl : l.length ≤ 60) (far : Nat) (hf : far ≤ 1000) : ∀ (d i : Nat) (c r : Int), i + d = l.length → 0 ≤ c → c ≤ i → -1 ≤ r → r ≤ 3000 →
    Ev (fun k => spec_mdNeed.l0 k (far : Int) c r l (l.length : Int) (i : Int)) (need far (l.drop i) (r - i + 1).toNat c) := by
  intro d
  induction d with
  | zero =>
    intro i c r hi h0 h1 h2 h3
    rw [List.drop_of_length_le (by omega)]
    exact Ev.stop fun k => by simp only [spec_mdNeed.l0, need]; rw [if_neg (by omega)]
  | succ d ih =>
    intro i c r hi h0 h1 h2 h3
    have hlt : i < l.length := by omega
    have w1 : wrap64 ((i : Int) + 1) = ((i + 1 : Nat) : Int) := by rw [w64 (by omega) (by omega)]; rfl
    rw [List.drop_eq_getElem_cons hlt]
    by_cases hr : (i : Int) > r
    · rw [show (r - (i : Int) + 1).toNat = 0 by omega]
      simp only [need]
      by_cases hx : l[i] > 0
      · rw [if_pos hx]
        have := ih (i + 1) (c + 1) ((i : Int) + 2 * far) (by omega) (by omega) (by omega) (by omega) (by omega)
        rw [show ((i : Int) + 2 * far - ((i + 1 : Nat) : Int) + 1).toNat = 2 * far by omega] at this
        refine Ev.to _ (fun k => ?_) this
        simp only [spec_mdNeed.l0]
        rw [if_pos (by omega), if_pos (by omega), if_pos (by omega), rd_get l i hlt, if_pos hx, if_pos hr, w1, w64 (x := c + 1) (by omega) (by omega), w64 (x := 2 * (far : Int)) (by omega) (by omega), w64 (by omega) (by omega)]
      · rw [if_neg hx]
        have := ih (i + 1) c r (by omega) (by omega) (by omega) (by omega) (by omega)
        rw [show (r - ((i + 1 : Nat) : Int) + 1).toNat = 0 by omega] at this
        refine Ev.to _ (fun k => ?_) this
        simp only [spec_mdNeed.l0]
        rw [if_pos (by omega), if_pos (by omega), if_pos (by omega), rd_get l i hlt, if_neg hx, w1]
    · obtain ⟨s, hs⟩ : ∃ s, (r - (i : Int) + 1).toNat = s + 1 := ⟨(r - (i : Int)).toNat, by omega⟩
      rw [hs]
      simp only [need]
      have := ih (i + 1) c r (by omega) (by omega) (by omega) (by omega) (by omega)
      rw [show (r - ((i + 1 : Nat) : Int) + 1).toNat = s by omega] at this
      refine Ev.to _ (fun k => ?_) this
      simp only [spec_mdNeed.l0]
      rw [if_pos (by omega), if_pos (by omega), if_pos (by omega), if_neg hr, w1]
      split <;> rfl
theorem fewest_l0 (l : List Int) (hl : l.length ≤ 60) (far : Nat) (hf : far ≤ 1000) : ∀ (d h : Nat) (c : Int), l.length - h ≤ d → h ≤ 3000 → 0 ≤ c → c ≤ h →
    Ev (fun k => impl_fewestBoxes.l0 k l (far : Int) c (h : Int)) (need far (l.drop h) 0 c) := by
  intro d
  induction d with
  | zero =>
    intro h c hd _ _ _
    rw [List.drop_of_length_le (by omega)]
    exact Ev.stop fun k => by simp only [impl_fewestBoxes.l0, need]; rw [if_neg (by omega)]
  | succ d ih =>
    intro h c hd hh h0 h1
    by_cases hlt : h < l.length
    · rw [List.drop_eq_getElem_cons hlt]
      simp only [need]
      by_cases hx : l[h] > 0
      · rw [if_pos hx, need_drop, List.drop_drop]
        have := ih (h + 1 + 2 * far) (c + 1) (by omega) (by omega) (by omega) (by omega)
        refine Ev.to _ (fun k => ?_) this
        simp only [impl_fewestBoxes.l0]
        rw [if_pos (by omega), if_pos (by omega), rd_get l h hlt, if_pos hx, w64 (x := c + 1) (by omega) (by omega), w64 (x := 2 * (far : Int)) (by omega) (by omega), w64 (x := (h : Int) + 2 * far) (by omega) (by omega), w64 (by omega) (by omega)]
        rw [show (h : Int) + 2 * far + 1 = ((h + 1 + 2 * far : Nat) : Int) by omega]
      · rw [if_neg hx]
        have := ih (h + 1) c (by omega) (by omega) (by omega) (by omega)
        refine Ev.to _ (fun k => ?_) this
        simp only [impl_fewestBoxes.l0]
        rw [if_pos (by omega), if_pos (by omega), rd_get l h hlt, if_neg hx, w64 (by omega) (by omega)]
        rfl
    · rw [List.drop_of_length_le (by omega)]
      exact Ev.stop fun k => by simp only [impl_fewestBoxes.l0, need]; rw [if_neg (by omega)]
theorem mdNeed_ev (l : List Int) (hl : l.length ≤ 60) (far : Nat) (hf : far ≤ 1000) : Ev (fun k => spec_mdNeed.f k l (far : Int)) (need far l 0 0) := by
  have := mdNeed_l0 l hl far hf l.length 0 0 (-1) (by omega) (by omega) (by omega) (by omega) (by omega)
  unfold spec_mdNeed.f
  simpa using this
theorem fewest_ev (l : List Int) (hl : l.length ≤ 60) (far : Nat) (hf : far ≤ 1000) : Ev (fun k => impl_fewestBoxes.f k l (far : Int)) (need far l 0 0) := by
  have := fewest_l0 l hl far hf l.length 0 0 (by omega) (by omega) (by omega) (by omega)
  unfold impl_fewestBoxes.f
  simpa using this
def manyOk (l : List Int) (m : Int) : Bool := people l && decide (1 ≤ m ∧ m ≤ if 5 < (l.length : Int) then 5 else l.length)
theorem mdMany_ev (l : List Int) (hl : l.length ≤ 1048576) (m : Int) : Ev (fun k => spec_mdMany.f k l m) (manyOk l m) := by
  unfold spec_mdMany.f manyOk
  refine Ev.bind (mdGood_ev l hl) ?_
  cases people l
  · simpa using Ev.now false
  · simp only [if_true, Bool.true_and, spec_l1Least.f, l1In_f]
    by_cases h5 : 5 < (l.length : Int)
    · simp only [if_pos h5, Option.bind_some]; exact Ev.now _
    · simp only [if_neg h5, Option.bind_some]; exact Ev.now _
theorem areMany_ev (l : List Int) (hl : l.length ≤ 1048576) (m : Int) : Ev (fun k => impl_areMany.f k l m) (manyOk l m) := by
  unfold impl_areMany.f manyOk
  refine Ev.bind (ArePeople_ev l hl) ?_
  cases people l
  · simpa using Ev.now false
  · simp only [if_true, Bool.true_and, within_f, Option.bind_some, mn]
    have e : (if (l.length : Int) < 5 then (l.length : Int) else 5) = if 5 < (l.length : Int) then 5 else l.length := by split <;> split <;> omega
    rw [e]
    exact Ev.now _
/-- With steps as many as the street has houses one box is enough. -/
theorem need_skip (far : Nat) : ∀ (xs : List Int) (s : Nat) (c : Int), xs.length ≤ s → need far xs s c = c
  | [], _, _, _ => rfl
  | x :: xs, 0, _, h => by simp at h
  | x :: xs, s + 1, c, h => by simp only [need]; exact need_skip far xs s c (by simpa using h)
theorem need_wide (far : Nat) : ∀ (xs : List Int) (c : Int), xs.length ≤ 2 * far → need far xs 0 c ≤ c + 1
  | [], c, _ => by simp only [need]; omega
  | x :: xs, c, h => by
    simp only [List.length_cons] at h
    simp only [need]
    by_cases hx : x > 0
    · rw [if_pos hx, need_skip far xs _ _ (by omega)]; omega
    · rw [if_neg hx]; exact need_wide far xs c (by omega)
theorem both (l : List Int) (hl : l.length ≤ 60) (m : Int) (hm : 1 ≤ m) : ∀ (d f : Nat), f + d = 60 → ∃ r, Ev (fun k => spec_FarthestBoxes.l0 k l m (f : Int)) r ∧ Ev (fun k => impl_FarthestBoxes.l0 k l m (f : Int)) r := by
  intro d
  induction d with
  | zero =>
    intro f hf
    have h1 := need_wide f l 0 (by omega)
    refine ⟨((f : Int), true), Ev.succ ?_, Ev.succ ?_⟩
    · simp only [spec_FarthestBoxes.l0]
      exact Ev.bind (mdNeed_ev l hl f (by omega)) (Ev.itef (by omega) (Ev.now _))
    · simp only [impl_FarthestBoxes.l0]
      exact Ev.bind (fewest_ev l hl f (by omega)) (Ev.itef (by omega) (Ev.now _))
  | succ d ih =>
    intro f hf
    by_cases hc : need f l 0 0 > m
    · obtain ⟨r, h1, h2⟩ := ih (f + 1) (by omega)
      have w : wrap64 ((f : Int) + 1) = ((f + 1 : Nat) : Int) := by rw [w64 (by omega) (by omega)]; rfl
      refine ⟨r, Ev.succ ?_, Ev.succ ?_⟩
      · simp only [spec_FarthestBoxes.l0, w]
        exact Ev.bind (mdNeed_ev l hl f (by omega)) (Ev.itet hc h1)
      · simp only [impl_FarthestBoxes.l0, w]
        exact Ev.bind (fewest_ev l hl f (by omega)) (Ev.itet hc h2)
    · refine ⟨((f : Int), true), Ev.succ ?_, Ev.succ ?_⟩
      · simp only [spec_FarthestBoxes.l0]
        exact Ev.bind (mdNeed_ev l hl f (by omega)) (Ev.itef hc (Ev.now _))
      · simp only [impl_FarthestBoxes.l0]
        exact Ev.bind (fewest_ev l hl f (by omega)) (Ev.itef hc (Ev.now _))
theorem all (l : List Int) (hl : l.length ≤ 1048576) (m : Int) : ∃ r, Ev (fun k => spec_FarthestBoxes.f k l m) r ∧ Ev (fun k => impl_FarthestBoxes.f k l m) r := by
  unfold spec_FarthestBoxes.f impl_FarthestBoxes.f
  cases h : manyOk l m
  · exact ⟨_, Ev.bind (mdMany_ev l hl m) (by rw [h]; exact Ev.itef (by simp) (Ev.now _)), Ev.bind (areMany_ev l hl m) (by rw [h]; exact Ev.itef (by simp) (Ev.now _))⟩
  · have h' := h
    simp only [manyOk, Bool.and_eq_true, decide_eq_true_eq] at h'
    obtain ⟨r, h1, h2⟩ := both l (people_len h'.1).2 m h'.2.1 60 0 rfl
    exact ⟨r, Ev.bind (mdMany_ev l hl m) (by rw [h]; exact Ev.itet rfl h1), Ev.bind (areMany_ev l hl m) (by rw [h]; exact Ev.itet rfl h2)⟩
theorem main : laws_FnExactFarthestBoxes.Pure := by
  intro l m _ _ _ _
  refine Ev.rounds ?_
  unfold laws_FnExactFarthestBoxes.f
  by_cases h : (l.length : Int) > 1048576
  · exact Ev.itet h (Ev.now _)
  · have hl : l.length ≤ 1048576 := by omega
    obtain ⟨r, h1, h2⟩ := all l hl m
    refine Ev.itef h (Ev.bind (toIntS_ev l hl) (Ev.bind h1 (Ev.bind (toIntS_ev l hl) (Ev.bind h2 (Ev.itet rfl (Ev.succ ?_))))))
    simp only [laws_FnExactFarthestBoxes.j0]
    exact Ev.itef (by simp) (Ev.bind (toIntS_ev l hl) (Ev.bind (eqIntS_ev l hl) (Ev.itet rfl (Ev.now _))))
end FarthestBoxes
theorem FnExactFarthestBoxes : laws_FnExactFarthestBoxes.Pure := FarthestBoxes.main
end Go.Proofs.Ytnnnmhbfepcibaa.Pure
