/- The Lean functions printed of both sides say the same box of each house, in memory of its own, for all arguments. No condition beyond the printed bounds. -/
import Derived.Test.YtnnnmhbfepcibaaPFnExactBoxOfEachx4
import Derived.Test.YtnnnmhbfepcibaaKit
namespace Go.Proofs.Ytnnnmhbfepcibaa.Pure
open Go.RowKit Go.Proofs.YtnnnmhbfepcibaaW.PrintWords Go.Proofs.YtnnnmhbfepcibaaW.PrintLast Go.Proofs.YtnnnmhbfepcibaaW.PrintMore Go.Proofs.YtnnnmhbfepcibaaKit
open Go.Proofs.Ytnnnmhbfepcibaa.PFnExactBoxOfEach
namespace BoxOfEach
/-! People: what both sides say of a list of people. -/
def people (l : List Int) : Bool := decide (1 ≤ (l.length : Int) ∧ (l.length : Int) ≤ 60) && (l.all (fun x => decide (0 ≤ x ∧ x ≤ 1000)) && decide (0 < l.sum))
theorem people_len {l : List Int} (h : people l = true) : 1 ≤ l.length ∧ l.length ≤ 60 := by
  simp only [people, Bool.and_eq_true, decide_eq_true_eq] at h; omega
theorem people_mem {l : List Int} (h : people l = true) : ∀ x ∈ l, 0 ≤ x ∧ x ≤ 1000 := by
  simp only [people, Bool.and_eq_true, decide_eq_true_eq, List.all_eq_true] at h
  exact h.2.1
theorem people_get {l : List Int} (h : people l = true) (i : Nat) (hi : i < l.length) : 0 ≤ l[i] ∧ l[i] ≤ 1000 := people_mem h _ (List.getElem_mem hi)
theorem people_sum {l : List Int} (h : people l = true) : 0 < l.sum := by
  simp only [people, Bool.and_eq_true, decide_eq_true_eq] at h
  exact h.2.2
theorem people_take {l : List Int} (h : people l = true) (i : Nat) : 0 ≤ (l.take i).sum ∧ (l.take i).sum ≤ 60000 := by
  have h1 := sum_bounds (l.take i) 1000 (fun x hx => people_mem h x (List.mem_of_mem_take hx))
  have h2 := people_len h
  have h3 : (l.take i).length ≤ 60 := by simp; omega
  omega

theorem ge_le (a b c : Int) : (if a ≥ b then some (decide (a ≤ c)) else some false) = some (decide (b ≤ a ∧ a ≤ c)) := by
  by_cases h : a ≥ b
  · rw [if_pos h]; simp [show b ≤ a from h]
  · rw [if_neg h]; simp; omega
theorem l1In_f (a b c : Int) : spec_l1In.f a b c = some (decide (b ≤ a ∧ a ≤ c)) := by unfold spec_l1In.f; exact ge_le a b c
theorem within_f (a b c : Int) : impl_within.f a b c = some (decide (b ≤ a ∧ a ≤ c)) := by unfold impl_within.f; exact ge_le a b c

theorem l1All_ev (l : List Int) (hl : l.length ≤ 1048576) (a b : Int) : Ev (fun k => spec_l1All.f k l a b) (l.all fun x => decide (a ≤ x ∧ x ≤ b)) := by
  rw [← runL_all _ l 0]
  refine ev_loop0 l (fun k i (_ : Unit) => spec_l1All.l0 k a b l (l.length : Int) i) _ _ (fun _ _ => True) () trivial (fun i s hi _ => ?_) (fun s _ => ?_)
  · have hw : wrap64 ((i : Int) + 1) = (i : Int) + 1 := w64 (by omega) (by omega)
    constructor
    · intro s' e
      refine ⟨trivial, fun r hr => Ev.to _ (fun k => ?_) hr⟩
      by_cases hp : a ≤ l[i] ∧ l[i] ≤ b
      · simp only [spec_l1All.l0]
        rw [if_pos (by omega), if_pos (by omega), if_pos (by omega), l1In_f, rd_get l i hi, decide_eq_true hp, hw]; rfl
      · simp [hp] at e
    · intro r e
      by_cases hp : a ≤ l[i] ∧ l[i] ≤ b
      · simp [hp] at e
      · rw [if_neg (by simpa using hp)] at e
        cases e
        refine Ev.stop fun k => ?_
        simp only [spec_l1All.l0]
        rw [if_pos (by omega), if_pos (by omega), if_pos (by omega), l1In_f, rd_get l i hi, decide_eq_false hp]; rfl
  · exact Ev.stop fun k => by simp only [spec_l1All.l0]; rw [if_neg (by omega)]
theorem allWithin_l0 (a b : Int) (l : List Int) (n : Int) : ∀ k i, impl_allWithin.l0 k a b l n i = spec_l1All.l0 k a b l n i
  | 0, _ => rfl
  | k + 1, i => by simp only [impl_allWithin.l0, spec_l1All.l0, within_f, l1In_f, allWithin_l0 a b l n k]
theorem allWithin_ev (l : List Int) (hl : l.length ≤ 1048576) (a b : Int) : Ev (fun k => impl_allWithin.f k l a b) (l.all fun x => decide (a ≤ x ∧ x ≤ b)) :=
  Ev.congr (fun k => by unfold impl_allWithin.f; exact allWithin_l0 _ _ _ _ _ _) (l1All_ev l hl a b)
theorem mdSum_ev (l : List Int) (hl : l.length ≤ 60) (hm : ∀ x ∈ l, 0 ≤ x ∧ x ≤ 1000) : Ev (fun k => spec_mdSum.f k l) l.sum := by
  have e := foldI_sum l 0 0
  rw [Int.zero_add] at e
  rw [← e]
  refine ev_fold l (fun k i s => spec_mdSum.l0 k s l (l.length : Int) i) _ (fun s => s) (fun i s => 0 ≤ s ∧ s ≤ 1000 * i) 0 (by simp) (fun i s hi hs => ?_) (fun s _ => ?_)
  · have hx := hm _ (List.getElem_mem hi)
    refine ⟨by omega, fun r hr => Ev.to _ (fun k => ?_) hr⟩
    simp only [spec_mdSum.l0]
    rw [if_pos (by omega), if_pos (by omega), if_pos (by omega), rd_get l i hi, w64 (x := (i : Int) + 1) (by omega) (by omega), w64 (by omega) (by omega)]
  · exact Ev.stop fun k => by simp only [spec_mdSum.l0]; rw [if_neg (by omega)]
theorem sumOf_l0 (l : List Int) (n : Int) : ∀ k s i, impl_sumOf.l0 k s l n i = spec_mdSum.l0 k s l n i
  | 0, _, _ => rfl
  | k + 1, s, i => by simp only [impl_sumOf.l0, spec_mdSum.l0, sumOf_l0 l n k]
theorem sumOf_ev (l : List Int) (hl : l.length ≤ 60) (hm : ∀ x ∈ l, 0 ≤ x ∧ x ≤ 1000) : Ev (fun k => impl_sumOf.f k l) l.sum :=
  Ev.congr (fun k => by unfold impl_sumOf.f; exact sumOf_l0 _ _ _ _ _) (mdSum_ev l hl hm)
theorem mdGood_ev (l : List Int) (hl : l.length ≤ 1048576) : Ev (fun k => spec_mdGood.f k l) (people l) := by
  unfold spec_mdGood.f people
  simp only [l1In_f, Option.bind_some]
  by_cases h1 : 1 ≤ (l.length : Int) ∧ (l.length : Int) ≤ 60
  · simp only [decide_eq_true h1, if_true, Bool.true_and]
    refine Ev.bind (l1All_ev l hl 0 1000) ?_
    cases h2 : l.all fun x => decide (0 ≤ x ∧ x ≤ 1000)
    · simpa using Ev.now false
    · simp only [if_true, Bool.true_and]
      refine Ev.mapb (fun t => decide (t > 0)) (mdSum_ev l (by omega) ?_)
      simpa [List.all_eq_true] using h2
  · simp only [decide_eq_false h1, Bool.false_and]
    simpa using Ev.now false
theorem ArePeople_ev (l : List Int) (hl : l.length ≤ 1048576) : Ev (fun k => impl_ArePeople.f k l) (people l) := by
  unfold impl_ArePeople.f people
  simp only [within_f, Option.bind_some]
  by_cases h1 : 1 ≤ (l.length : Int) ∧ (l.length : Int) ≤ 60
  · simp only [decide_eq_true h1, if_true, Bool.true_and]
    refine Ev.bind (allWithin_ev l hl 0 1000) ?_
    cases h2 : l.all fun x => decide (0 ≤ x ∧ x ≤ 1000)
    · simpa using Ev.now false
    · simp only [if_true, Bool.true_and]
      refine Ev.mapb (fun t => decide (t > 0)) (sumOf_ev l (by omega) ?_)
      simpa [List.all_eq_true] using h2
  · simp only [decide_eq_false h1, Bool.false_and]
    simpa using Ev.now false
/-! Absolute values. -/
def absV (x : Int) : Int := if x > wrap64 (-x) then x else wrap64 (-x)
theorem l1Abs_f (x : Int) : spec_l1Abs.f x = some (absV x) := by
  unfold spec_l1Abs.f spec_l1Most.f absV; split <;> rfl
theorem absOf_f (x : Int) : impl_absOf.f x = some (absV x) := by
  unfold impl_absOf.f absV mx
  congr 1
  split <;> split <;> omega
theorem absV_eq {x : Int} (h1 : -9223372036854775807 ≤ x) (h2 : x ≤ 9223372036854775807) : absV x = if x < 0 then -x else x := by
  unfold absV
  rw [w64 (by omega) (by omega)]
  split <;> split <;> omega
/-! The laws' own copies and comparisons of lists of numbers. -/
theorem toIntS_ev (l : List Int) (hl : l.length ≤ 1048576) : Ev (fun k => laws_toIntS.f k l) l := by
  unfold laws_toIntS.f
  refine Ev.itet (by omega) (Ev.itet (by omega) ?_)
  have key : ∀ (d i : Nat), i + d = l.length → Ev (fun k => laws_toIntS.l0 k l (l.take i ++ List.replicate d 0) (i : Int)) l := by
    intro d
    induction d with
    | zero =>
      intro i hi
      refine Ev.stop fun k => ?_
      simp only [laws_toIntS.l0]
      rw [if_neg (by omega), List.take_of_length_le (by omega)]
      simp
    | succ d ih =>
      intro i hi
      have hlt : i < l.length := by omega
      refine Ev.to _ (fun k => ?_) (ih (i + 1) (by omega))
      simp only [laws_toIntS.l0]
      rw [if_pos (by omega), if_pos (by omega), if_pos (by simp; omega), rd_get l i hlt, w64 (by omega) (by omega)]
      have e : (l.take i ++ List.replicate (d + 1) 0).set (i : Int).toNat l[i] = l.take (i + 1) ++ List.replicate d 0 := by
        rw [List.take_succ_eq_append_getElem hlt, Int.toNat_natCast, List.set_append_right _ _ (by simp; omega)]
        have : i - (l.take i).length = 0 := by simp; omega
        rw [this, List.replicate_succ, List.set_cons_zero, List.append_assoc]
        rfl
      rw [e]
      rfl
  have := key l.length 0 (by omega)
  simpa using this
theorem eqIntS_ev (l : List Int) (hl : l.length ≤ 1048576) : Ev (fun k => laws_eqIntS.f k l l) true := by
  unfold laws_eqIntS.f
  refine Ev.itet rfl ?_
  have := runL_all (fun _ => true) l 0
  rw [show (l.all fun _ => true) = true by simp] at this
  rw [← this]
  refine ev_loop0 l (fun k i (_ : Unit) => laws_eqIntS.l0 k l l i) _ _ (fun _ _ => True) () trivial (fun i s hi _ => ⟨fun s' e => ⟨trivial, fun r hr => Ev.to _ (fun k => ?_) hr⟩, fun r e => by simp at e⟩) (fun s _ => Ev.stop fun k => ?_)
  · simp only [laws_eqIntS.l0]
    rw [if_pos (by omega), if_pos (by omega), if_pos (by omega), if_pos trivial, w64 (by omega) (by omega)]
  · simp only [laws_eqIntS.l0]
    rw [if_neg (by omega)]
/-! The nearest box of a house. -/
def nearS (h : Int) (x s : Int) : Int := if absV (wrap64 (x - h)) < absV (wrap64 (s - h)) then x else s
def nearV (bs : List Int) (h : Int) : Int := foldI (fun _ x s => nearS h x s) 0 bs (rd bs 0)
theorem nearestBox_ev (bs : List Int) (h0 : 0 < bs.length) (hl : bs.length ≤ 1048576) (h : Int) : Ev (fun k => impl_nearestBox.f k bs h) (nearV bs h) := by
  unfold impl_nearestBox.f
  refine Ev.itet (by omega) ?_
  refine ev_fold bs (fun k i s => impl_nearestBox.l0 k h s bs (bs.length : Int) i) _ (fun s => s) (fun _ _ => True) _ trivial (fun i s hi _ => ⟨trivial, fun r hr => Ev.to _ (fun k => ?_) hr⟩) (fun s _ => Ev.stop fun k => ?_)
  · simp only [impl_nearestBox.l0, nearS]
    rw [if_pos (by omega), if_pos (by omega), if_pos (by omega), absOf_f, absOf_f, Option.bind_some, Option.bind_some, rd_get bs i hi, w64 (x := (i : Int) + 1) (by omega) (by omega)]
    split <;> rfl
  · simp only [impl_nearestBox.l0]; rw [if_neg (by omega)]
theorem near_mem (h : Int) : ∀ (bs : List Int) (i : Nat) (s : Int), foldI (fun _ x s => nearS h x s) i bs s = s ∨ foldI (fun _ x s => nearS h x s) i bs s ∈ bs
  | [], _, _ => .inl rfl
  | x :: xs, i, s => by
    simp only [foldI]
    rcases near_mem h xs (i + 1) (nearS h x s) with e | e
    · rw [e]
      unfold nearS
      split
      · exact .inr (by simp)
      · exact .inl rfl
    · exact .inr (by simp [e])
theorem nearV_mem (bs : List Int) (h0 : 0 < bs.length) (h : Int) : nearV bs h ∈ bs := by
  unfold nearV
  rcases near_mem h bs 0 (rd bs 0) with e | e
  · rw [e, show (0 : Int) = ((0 : Nat) : Int) from rfl, rd_get bs 0 h0]
    exact List.getElem_mem h0
  · exact e
theorem nearV_one (a h : Int) : nearV [a] h = a := by
  simp [nearV, foldI, nearS, rd]
theorem mdNear_l0 (h : Int) (bs : List Int) (n : Int) : ∀ k s i, spec_mdNear.l0 k h s bs n i = impl_nearestBox.l0 k h s bs n i
  | 0, _, _ => rfl
  | k + 1, s, i => by simp only [spec_mdNear.l0, impl_nearestBox.l0, absOf_f, l1Abs_f, Option.bind_some, mdNear_l0 h bs n k]
theorem mdNear_ev (bs : List Int) (h0 : 0 < bs.length) (hl : bs.length ≤ 1048576) (h : Int) : Ev (fun k => spec_mdNear.f k bs h) (nearV bs h) :=
  Ev.congr (fun k => by unfold spec_mdNear.f impl_nearestBox.f; rw [mdNear_l0]) (nearestBox_ev bs h0 hl h)
/-! Lists that rise. -/
theorem increasing_l0 (bs : List Int) (hl : bs.length ≤ 1048576) : ∀ (d i : Nat), i + d = bs.length ∨ (bs.length < i ∧ d = 0) → 1 ≤ i → ∃ b, Ev (fun k => impl_increasing.l0 k bs (i : Int)) b ∧ (b = true ↔ ∀ j, i ≤ j → j < bs.length → bs.getD (j - 1) 0 < bs.getD j 0) := by
  intro d
  induction d with
  | zero =>
    intro i hi h1
    refine ⟨true, Ev.stop fun k => by simp only [impl_increasing.l0]; rw [if_neg (by omega)], ?_⟩
    simp only [true_iff]
    intro j h2 h3
    omega
  | succ d ih =>
    intro i hi h1
    have hlt : i < bs.length := by omega
    have e1 : rd bs (wrap64 ((i : Int) - 1)) = bs.getD (i - 1) 0 := by
      rw [w64 (by omega) (by omega), show (i : Int) - 1 = ((i - 1 : Nat) : Int) by omega]
      unfold rd; simp
    have e2 : rd bs (i : Int) = bs.getD i 0 := by unfold rd; simp
    have ew : wrap64 ((i : Int) - 1) = (i : Int) - 1 := w64 (by omega) (by omega)
    by_cases hc : bs.getD (i - 1) 0 ≥ bs.getD i 0
    · refine ⟨false, Ev.stop fun k => ?_, ?_⟩
      · simp only [impl_increasing.l0, e1, e2]
        rw [if_pos (by omega), if_pos (by omega), if_pos (by omega), if_pos (by omega), if_pos hc]
      · simp only [Bool.false_eq_true, false_iff]
        intro h
        have := h i (Nat.le_refl _) hlt
        omega
    · obtain ⟨b, hb, hiff⟩ := ih (i + 1) (by omega) (by omega)
      refine ⟨b, Ev.to _ (fun k => ?_) hb, ?_⟩
      · simp only [impl_increasing.l0, e1, e2]
        rw [if_pos (by omega), if_pos (by omega), if_pos (by omega), if_pos (by omega), if_neg hc, w64 (x := (i : Int) + 1) (by omega) (by omega)]
        rfl
      · rw [hiff]
        constructor
        · intro h j h2 h3
          rcases Nat.eq_or_lt_of_le h2 with rfl | h4
          · omega
          · exact h j h4 h3
        · intro h j h2 h3
          exact h j (by omega) h3
theorem increasing_ev (bs : List Int) (hl : bs.length ≤ 1048576) : ∃ b, Ev (fun k => impl_increasing.f k bs) b ∧ (b = true ↔ ∀ j, 1 ≤ j → j < bs.length → bs.getD (j - 1) 0 < bs.getD j 0) := by
  rcases Nat.lt_or_ge bs.length 1 with h | h
  · exact increasing_l0 bs hl 0 1 (by omega) (by omega)
  · exact increasing_l0 bs hl (bs.length - 1) 1 (by omega) (by omega)
theorem rising_l0 (bs : List Int) (hl : bs.length ≤ 1048576) (lo hi : Int) : ∀ (d i : Nat), i + d = bs.length → ∃ b, Ev (fun k => spec_l1Rising.l0 k bs lo hi bs (bs.length : Int) (i : Int)) b ∧
    (b = true ↔ ∀ j, i ≤ j → j < bs.length → (lo ≤ bs.getD j 0 ∧ bs.getD j 0 ≤ hi) ∧ (0 < j → bs.getD (j - 1) 0 < bs.getD j 0)) := by
  intro d
  induction d with
  | zero =>
    intro i hi
    refine ⟨true, Ev.stop fun k => by simp only [spec_l1Rising.l0]; rw [if_neg (by omega)], ?_⟩
    simp only [true_iff]
    intro j h2 h3
    omega
  | succ d ih =>
    intro i hi'
    have hlt : i < bs.length := by omega
    have e2 : rd bs (i : Int) = bs.getD i 0 := by unfold rd; simp
    by_cases hr : lo ≤ bs.getD i 0 ∧ bs.getD i 0 ≤ hi
    · by_cases hc : 0 < i ∧ bs.getD (i - 1) 0 ≥ bs.getD i 0
      · refine ⟨false, Ev.stop fun k => ?_, ?_⟩
        · have e1 : rd bs (wrap64 ((i : Int) - 1)) = bs.getD (i - 1) 0 := by
            rw [w64 (by omega) (by omega), show (i : Int) - 1 = ((i - 1 : Nat) : Int) by omega]
            unfold rd; simp
          have ew : wrap64 ((i : Int) - 1) = (i : Int) - 1 := w64 (by omega) (by omega)
          simp only [spec_l1Rising.l0, e1, e2, l1In_f, Option.bind_some]
          rw [if_pos (by omega), if_pos (by omega), if_pos (by omega), decide_eq_true hr, if_pos rfl, if_pos (by omega), if_pos (by omega), if_pos (by omega), if_pos hc.2]
        · simp only [Bool.false_eq_true, false_iff]
          intro h
          have := (h i (Nat.le_refl _) hlt).2 hc.1
          omega
      · obtain ⟨b, hb, hiff⟩ := ih (i + 1) (by omega)
        refine ⟨b, Ev.to _ (fun k => ?_) hb, ?_⟩
        · simp only [spec_l1Rising.l0, e2, l1In_f, Option.bind_some]
          rw [if_pos (by omega), if_pos (by omega), if_pos (by omega), decide_eq_true hr, if_pos rfl]
          by_cases hi0 : 0 < i
          · have e1 : rd bs (wrap64 ((i : Int) - 1)) = bs.getD (i - 1) 0 := by
              rw [w64 (by omega) (by omega), show (i : Int) - 1 = ((i - 1 : Nat) : Int) by omega]
              unfold rd; simp
            have ew : wrap64 ((i : Int) - 1) = (i : Int) - 1 := w64 (by omega) (by omega)
            rw [if_pos (by omega), if_pos (by omega), if_pos (by omega), e1, if_neg (fun h => hc ⟨hi0, h⟩), w64 (x := (i : Int) + 1) (by omega) (by omega)]
            rfl
          · rw [if_neg (by omega), w64 (x := (i : Int) + 1) (by omega) (by omega)]
            rfl
        · rw [hiff]
          constructor
          · intro h j h2 h3
            rcases Nat.eq_or_lt_of_le h2 with rfl | h4
            · exact ⟨hr, fun h0 => by omega⟩
            · exact h j h4 h3
          · intro h j h2 h3
            exact h j (by omega) h3
    · refine ⟨false, Ev.stop fun k => ?_, ?_⟩
      · simp only [spec_l1Rising.l0, e2, l1In_f, Option.bind_some]
        rw [if_pos (by omega), if_pos (by omega), if_pos (by omega), decide_eq_false hr]; rfl
      · simp only [Bool.false_eq_true, false_iff]
        intro h
        exact hr (h i (Nat.le_refl _) hlt).1
theorem rising_ev (bs : List Int) (hl : bs.length ≤ 1048576) (lo hi : Int) : ∃ b, Ev (fun k => spec_l1Rising.f k bs lo hi) b ∧
    (b = true ↔ ∀ j, j < bs.length → (lo ≤ bs.getD j 0 ∧ bs.getD j 0 ≤ hi) ∧ (0 < j → bs.getD (j - 1) 0 < bs.getD j 0)) := by
  obtain ⟨b, hb, h⟩ := rising_l0 bs hl lo hi bs.length 0 (by omega)
  refine ⟨b, hb, h.trans ⟨fun h j hj => h j (by omega) hj, fun h j _ hj => h j hj⟩⟩
theorem all_getD (l : List Int) (p : Int → Bool) : l.all p = true ↔ ∀ j, j < l.length → p (l.getD j 0) = true := by
  rw [List.all_eq_true]
  constructor
  · intro h j hj
    have : l.getD j 0 = l[j] := by simp [hj]
    rw [this]
    exact h _ (List.getElem_mem hj)
  · intro h x hx
    obtain ⟨j, hj, rfl⟩ := List.getElem_of_mem hx
    have := h j hj
    simpa [hj] using this
/-- The two ways to ask for a rising list in a range tell the same. -/
theorem rising_both (bs : List Int) (hl : bs.length ≤ 1048576) (lo hi : Int) : ∃ b, Ev (fun k => spec_l1Rising.f k bs lo hi) b ∧
    Ev (fun k => (impl_increasing.f k bs).bind fun t => if t = true then (impl_allWithin.f k bs lo hi).bind fun t' => some t' else some false) b ∧ (b = true → (∀ x ∈ bs, lo ≤ x ∧ x ≤ hi) ∧ ∀ j, 1 ≤ j → j < bs.length → bs.getD (j - 1) 0 < bs.getD j 0) := by
  obtain ⟨b, hb, h⟩ := rising_ev bs hl lo hi
  obtain ⟨c, hc, h'⟩ := increasing_ev bs hl
  have ha := all_getD bs (fun x => decide (lo ≤ x ∧ x ≤ hi))
  have e : b = (c && bs.all fun x => decide (lo ≤ x ∧ x ≤ hi)) := by
    rw [Bool.eq_iff_iff, Bool.and_eq_true, h, h', ha]
    simp only [decide_eq_true_eq]
    constructor
    · intro h
      exact ⟨fun j h1 h2 => (h j h2).2 (by omega), fun j hj => (h j hj).1⟩
    · intro h j hj
      exact ⟨h.2 j hj, fun h0 => h.1 j (by omega) hj⟩
  refine ⟨b, hb, ?_, ?_⟩
  · refine Ev.bind hc ?_
    rw [e]
    cases c
    · simpa using Ev.now false
    · simp only [if_true, Bool.true_and]
      exact Ev.mapb (fun t => t) (allWithin_ev bs hl lo hi)
  · intro hb'
    rw [e, Bool.and_eq_true, h'] at hb'
    refine ⟨fun x hx => ?_, hb'.1⟩
    simpa using (List.all_eq_true.1 hb'.2) x hx
/-! People and boxes. -/
theorem boxes_both (l bs : List Int) (hl : l.length ≤ 1048576) (hb : bs.length ≤ 1048576) : ∃ b, Ev (fun k => spec_mdBoxes.f k l bs) b ∧ Ev (fun k => impl_areBoxes.f k l bs) b ∧
    (b = true → people l = true ∧ 0 < bs.length ∧ ∀ x ∈ bs, 0 ≤ x ∧ x ≤ (l.length : Int) - 1) := by
  unfold spec_mdBoxes.f impl_areBoxes.f
  cases hp : people l
  · refine ⟨false, Ev.bind (mdGood_ev l hl) ?_, Ev.bind (ArePeople_ev l hl) ?_, by simp⟩
    · rw [hp]; exact Ev.itef (by simp) (Ev.now _)
    · rw [hp]; exact Ev.itef (by simp) (Ev.now _)
  · have hn := people_len hp
    by_cases h5 : 1 ≤ (bs.length : Int) ∧ (bs.length : Int) ≤ 5
    · obtain ⟨b, h1, h2, h3⟩ := rising_both bs hb 0 ((l.length : Int) - 1)
      have w : wrap64 ((l.length : Int) - 1) = (l.length : Int) - 1 := w64 (by omega) (by omega)
      refine ⟨b, Ev.bind (mdGood_ev l hl) ?_, Ev.bind (ArePeople_ev l hl) ?_, fun hb => ⟨rfl, by omega, (h3 hb).1⟩⟩
      · rw [hp]
        simp only [l1In_f, Option.bind_some, decide_eq_true h5, w]
        exact Ev.itet (by trivial) (Ev.itet (by trivial) (Ev.mapb (fun t => t) h1))
      · rw [hp]
        simp only [within_f, Option.bind_some, decide_eq_true h5, w]
        exact Ev.itet (by trivial) (Ev.itet (by trivial) h2)
    · refine ⟨false, Ev.bind (mdGood_ev l hl) ?_, Ev.bind (ArePeople_ev l hl) ?_, by simp⟩
      · rw [hp]
        simp only [l1In_f, Option.bind_some, decide_eq_false h5]
        exact Ev.itet (by trivial) (Ev.itef (by simp) (Ev.now _))
      · rw [hp]
        simp only [within_f, Option.bind_some, decide_eq_false h5]
        exact Ev.itet (by trivial) (Ev.itef (by simp) (Ev.now _))
/-! The laws' marks in memory. -/
def upto (k : Int) : Nat → List Int
  | 0 => []
  | n + 1 => k :: upto (k + 1) n
theorem upto_length (k : Int) (n : Nat) : (upto k n).length = n := by
  induction n generalizing k with
  | zero => rfl
  | succ n ih => simp [upto, ih]
theorem upto_get (k : Int) (n i : Nat) (h : i < (upto k n).length) : (upto k n)[i] = k + i := by
  induction n generalizing k i with
  | zero => simp [upto] at h
  | succ n ih =>
    cases i with
    | zero => simp [upto]
    | succ i =>
      simp only [upto, List.getElem_cons_succ]
      rw [ih (k + 1) i (by simpa [upto] using h)]
      omega
theorem upto_snoc (k : Int) (n : Nat) : upto k (n + 1) = upto k n ++ [k + n] := by
  induction n generalizing k with
  | zero => simp [upto]
  | succ n ih =>
    rw [upto, ih (k + 1)]
    simp only [upto, List.cons_append, List.cons.injEq, true_and]
    congr 2
    omega
theorem markIntS_ev (l : List Int) (hl : l.length ≤ 1048576) (k0 : Int) (h0 : 0 ≤ k0) (h1 : k0 ≤ 1048577) : Ev (fun k => laws_markIntS.f k l k0) (k0 + l.length, upto k0 l.length) := by
  unfold laws_markIntS.f
  have key : ∀ (d i : Nat), i + d = l.length → Ev (fun k => laws_markIntS.l0 k (upto k0 i ++ l.drop i) (k0 + i) (i : Int)) (k0 + l.length, upto k0 l.length) := by
    intro d
    induction d with
    | zero =>
      intro i hi
      obtain rfl : i = l.length := by omega
      refine Ev.stop fun k => ?_
      simp only [laws_markIntS.l0]
      rw [if_neg (by simp [upto_length])]
      simp
    | succ d ih =>
      intro i hi
      have hlt : i < l.length := by omega
      refine Ev.to _ (fun k => ?_) (ih (i + 1) (by omega))
      simp only [laws_markIntS.l0]
      have hlen : ((upto k0 i ++ l.drop i).length : Int) = l.length := by simp [upto_length]; omega
      rw [hlen, if_pos (by omega), if_pos (by omega), w64 (x := k0 + i + 1) (by omega) (by omega), w64 (x := (i : Int) + 1) (by omega) (by omega)]
      have e : (upto k0 i ++ l.drop i).set (i : Int).toNat (k0 + i) = upto k0 (i + 1) ++ l.drop (i + 1) := by
        rw [Int.toNat_natCast, List.set_append_right _ _ (by simp [upto_length]), upto_length, Nat.sub_self, List.drop_eq_getElem_cons hlt, List.set_cons_zero, upto_snoc, List.append_assoc]
        rfl
      rw [e, show k0 + (i : Int) + 1 = k0 + ((i + 1 : Nat) : Int) by omega, show (i : Int) + 1 = ((i + 1 : Nat) : Int) by omega]
  have := key l.length 0 (by omega)
  simpa [upto] using this
theorem heldIntS_ev (n : Nat) (hn : n ≤ 1048576) (k0 : Int) (h0 : 0 ≤ k0) (h1 : k0 ≤ 1048577) : Ev (fun k => laws_heldIntS.f k (upto k0 n) k0) (k0 + n) := by
  unfold laws_heldIntS.f
  have key : ∀ (d i : Nat), i + d = n → Ev (fun k => laws_heldIntS.l0 k (upto k0 n) (k0 + i) (i : Int)) (k0 + n) := by
    intro d
    induction d with
    | zero =>
      intro i hi
      obtain rfl : i = n := by omega
      refine Ev.stop fun k => ?_
      simp only [laws_heldIntS.l0]
      rw [if_neg (by simp [upto_length])]
    | succ d ih =>
      intro i hi
      refine Ev.to _ (fun k => ?_) (ih (i + 1) (by omega))
      simp only [laws_heldIntS.l0]
      have hlen : ((upto k0 n).length : Int) = n := by simp [upto_length]
      have hi' : i < (upto k0 n).length := by rw [upto_length]; omega
      rw [hlen, if_pos (by omega), if_pos (by omega), rd_get _ i hi', upto_get k0 n i hi', if_pos rfl, w64 (x := k0 + i + 1) (by omega) (by omega), w64 (x := (i : Int) + 1) (by omega) (by omega)]
      rw [show k0 + (i : Int) + 1 = k0 + ((i + 1 : Nat) : Int) by omega, show (i : Int) + 1 = ((i + 1 : Nat) : Int) by omega]
  have := key n 0 (by omega)
  simpa using this
def tab (f : Nat → Int) (n : Nat) : List Int := (List.range n).map f
theorem tab_succ (f : Nat → Int) (n : Nat) : tab f (n + 1) = tab f n ++ [f n] := by simp [tab, List.range_succ]
theorem tab_length (f : Nat → Int) (n : Nat) : (tab f n).length = n := by simp [tab]
theorem spec_tab (l bs : List Int) (hl : l.length ≤ 1048576) (h0 : 0 < bs.length) (hb : bs.length ≤ 1048576) : Ev (fun k => spec_BoxOfEach.l0 k bs [] (l.length : Int) 0) (tab (fun i => nearV bs i) l.length, true) := by
  have key : ∀ (d i : Nat), i + d = l.length → Ev (fun k => spec_BoxOfEach.l0 k bs (tab (fun i => nearV bs i) i) (l.length : Int) (i : Int)) (tab (fun i => nearV bs i) l.length, true) := by
    intro d
    induction d with
    | zero =>
      intro i hi
      obtain rfl : i = l.length := by omega
      exact Ev.stop fun k => by simp only [spec_BoxOfEach.l0]; rw [if_neg (by omega)]
    | succ d ih =>
      intro i hi
      have := ih (i + 1) (by omega)
      rw [tab_succ] at this
      refine Ev.to (f := fun k => (spec_mdNear.f k bs (i : Int)).bind fun t => spec_BoxOfEach.l0 k bs (tab (fun i => nearV bs i) i ++ [t]) (l.length : Int) ((i + 1 : Nat) : Int)) (fun k => ?_) (Ev.bind (mdNear_ev bs h0 hb i) this)
      simp only [spec_BoxOfEach.l0]
      rw [if_pos (by omega), w64 (x := (i : Int) + 1) (by omega) (by omega)]
      simp only [tab_length, if_pos (show i < 17592186044416 by omega)]
      rfl
  have := key l.length 0 (by omega)
  simpa [tab] using this
theorem impl_tab (l bs : List Int) (hl : l.length ≤ 1048576) (h0 : 0 < bs.length) (hb : bs.length ≤ 1048576) : Ev (fun k => impl_BoxOfEach.l0 k bs (List.replicate l.length 0) (l.length : Int) 0) (tab (fun i => nearV bs i) l.length, true) := by
  have key : ∀ (d i : Nat), i + d = l.length → Ev (fun k => impl_BoxOfEach.l0 k bs (tab (fun i => nearV bs i) i ++ List.replicate d 0) (l.length : Int) (i : Int)) (tab (fun i => nearV bs i) l.length, true) := by
    intro d
    induction d with
    | zero =>
      intro i hi
      obtain rfl : i = l.length := by omega
      exact Ev.stop fun k => by simp only [impl_BoxOfEach.l0]; rw [if_neg (by omega)]; simp
    | succ d ih =>
      intro i hi
      have := ih (i + 1) (by omega)
      have e : tab (fun i => nearV bs i) (i + 1) ++ List.replicate d 0 = (tab (fun i => nearV bs i) i ++ List.replicate (d + 1) 0).set (i : Int).toNat (nearV bs (i : Int)) := by
        rw [Int.toNat_natCast, List.set_append_right _ _ (by simp [tab_length]), tab_length, Nat.sub_self, List.replicate_succ, List.set_cons_zero, tab_succ, List.append_assoc]
        rfl
      rw [e] at this
      refine Ev.to (f := fun k => (impl_nearestBox.f k bs (i : Int)).bind fun t => impl_BoxOfEach.l0 k bs ((tab (fun i => nearV bs i) i ++ List.replicate (d + 1) 0).set (i : Int).toNat t) (l.length : Int) ((i + 1 : Nat) : Int)) (fun k => ?_) (Ev.bind (nearestBox_ev bs h0 hb i) this)
      simp only [impl_BoxOfEach.l0]
      rw [if_pos (by omega), w64 (x := (i : Int) + 1) (by omega) (by omega)]
      simp only [List.length_append, tab_length, List.length_replicate, if_pos (show (0 : Int) ≤ (i : Int) by omega), if_pos (show (i : Int) < ((i + (d + 1) : Nat) : Int) by omega)]
      rfl
  have := key l.length 0 (by omega)
  simpa [tab] using this
theorem both (l bs : List Int) (hl : l.length ≤ 1048576) (hb : bs.length ≤ 1048576) : ∃ r, Ev (fun k => spec_BoxOfEach.f k l bs) r ∧ Ev (fun k => impl_BoxOfEach.f k l bs) r ∧ r.1.length ≤ 1048576 := by
  unfold spec_BoxOfEach.f impl_BoxOfEach.f
  obtain ⟨b, h1, h2, h3⟩ := boxes_both l bs hl hb
  cases b
  · exact ⟨_, Ev.bind h1 (Ev.itef (by simp) (Ev.now _)), Ev.bind h2 (Ev.itef (by simp) (Ev.now _)), by simp⟩
  · obtain ⟨hp, h0, hr⟩ := h3 rfl
    refine ⟨_, Ev.bind h1 (Ev.itet rfl (spec_tab l bs hl h0 hb)), Ev.bind h2 (Ev.itet rfl (Ev.itet (by omega) (Ev.itet (by omega) ?_))), by rw [tab_length]; exact hl⟩
    simpa using impl_tab l bs hl h0 hb
theorem main : laws_FnExactBoxOfEach.Pure := by
  intro l bs _ _ _ _ _ _
  refine Ev.rounds ?_
  unfold laws_FnExactBoxOfEach.f
  by_cases h : (l.length : Int) > 1048576
  · exact Ev.itet h (Ev.now _)
  by_cases h' : (bs.length : Int) > 1048576
  · exact Ev.itef h (Ev.itet h' (Ev.now _))
  · have hl : l.length ≤ 1048576 := by omega
    have hb : bs.length ≤ 1048576 := by omega
    obtain ⟨r, h1, h2, hr⟩ := both l bs hl hb
    refine Ev.itef h (Ev.itef h' (Ev.bind (toIntS_ev l hl) (Ev.bind (toIntS_ev bs hb) (Ev.bind h1 (Ev.bind (toIntS_ev l hl) (Ev.bind (toIntS_ev bs hb) (Ev.bind h2 (Ev.bind (eqIntS_ev _ hr) (Ev.itet rfl (Ev.succ ?_))))))))))
    simp only [laws_FnExactBoxOfEach.j0]
    refine Ev.itef (by simp) (Ev.bind (toIntS_ev l hl) (Ev.bind (eqIntS_ev l hl) (Ev.itet rfl (Ev.bind (toIntS_ev bs hb) (Ev.bind (eqIntS_ev bs hb) (Ev.itet rfl (Ev.bind (markIntS_ev l hl 1 (by omega) (by omega)) (Ev.bind (markIntS_ev bs hb (1 + (l.length : Int)) (by omega) (by omega)) (Ev.itef (by simp; omega) (Ev.bind (eqIntS_ev _ hr) (Ev.itet rfl (Ev.succ ?_))))))))))))
    simp only [laws_FnExactBoxOfEach.j1]
    refine Ev.itef (by simp) (Ev.bind (markIntS_ev _ hr 1 (by omega) (by omega)) (Ev.bind (heldIntS_ev _ hr 1 (by omega) (by omega)) (Ev.itef (by simp; omega) (Ev.itet rfl (Ev.bind (toIntS_ev l hl) (Ev.bind (toIntS_ev bs hb) (Ev.bind h2 (Ev.bind (eqIntS_ev _ hr) (Ev.itet rfl (Ev.succ ?_))))))))))
    simp only [laws_FnExactBoxOfEach.j2]
    exact Ev.itef (by simp) (Ev.bind (heldIntS_ev _ hr 1 (by omega) (by omega)) (Ev.itef (by simp; omega) (Ev.itet rfl (Ev.now _))))
end BoxOfEach
theorem FnExactBoxOfEach : laws_FnExactBoxOfEach.Pure := BoxOfEach.main
end Go.Proofs.Ytnnnmhbfepcibaa.Pure
