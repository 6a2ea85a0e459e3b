/- The Lean functions printed of both sides say the same deliveries of some numbers, for all arguments. No condition beyond the printed bounds. -/
import Derived.Test.YtpopeedfgenebaaWalkFnExactDeliveriesOf
import Derived.Test.YtpopeedfgenebaaKit
namespace Go.Proofs.Ytpopeedfgenebaa.Pure
open Go.RowKit Go.Proofs.YtpopeedfgenebaaW.PrintWords Go.Proofs.YtpopeedfgenebaaW.PrintLast Go.Proofs.YtpopeedfgenebaaW.PrintMore Go.Proofs.YtpopeedfgenebaaKit
open Go.Proofs.Ytpopeedfgenebaa.PFnExactDeliveriesOf
namespace DeliveriesOf
theorem ge_le (a b c : Int) : (if a ≥ b then some (decide (a ≤ c)) else some false) = some (decide (b ≤ a ∧ a ≤ c)) := by
  by_cases h : a ≥ b
  · rw [if_pos h]; simp [show b ≤ a from h]
  · rw [if_neg h]; simp; omega
theorem l1In_f (a b c : Int) : spec_l1In.f a b c = some (decide (b ≤ a ∧ a ≤ c)) := by unfold spec_l1In.f; exact ge_le a b c
theorem within_f (a b c : Int) : impl_within.f a b c = some (decide (b ≤ a ∧ a ≤ c)) := by unfold impl_within.f; exact ge_le a b c
theorem allWithin_ev (l : List Int) (hl : l.length ≤ 1048576) (a b : Int) : Ev (fun k => impl_allWithin.f k l a b) (l.all fun x => decide (a ≤ x ∧ x ≤ b)) := by
  rw [← runL_all _ l 0]
  refine ev_loop0 l (fun k i (_ : Unit) => impl_allWithin.l0 k a b l (l.length : Int) i) _ _ (fun _ _ => True) () trivial (fun i s hi _ => ?_) (fun s _ => ?_)
  · have hw : wrap64 ((i : Int) + 1) = (i : Int) + 1 := w64 (by omega) (by omega)
    constructor
    · intro s' e
      refine ⟨trivial, fun r hr => Ev.to _ (fun k => ?_) hr⟩
      by_cases hp : a ≤ l[i] ∧ l[i] ≤ b
      · simp only [impl_allWithin.l0]
        rw [if_pos (by omega), if_pos (by omega), if_pos (by omega), within_f, rd_get l i hi, decide_eq_true hp, hw]; rfl
      · simp [hp] at e
    · intro r e
      by_cases hp : a ≤ l[i] ∧ l[i] ≤ b
      · simp [hp] at e
      · rw [if_neg (by simpa using hp)] at e
        cases e
        refine Ev.stop fun k => ?_
        simp only [impl_allWithin.l0]
        rw [if_pos (by omega), if_pos (by omega), if_pos (by omega), within_f, rd_get l i hi, decide_eq_false hp]; rfl
  · exact Ev.stop fun k => by simp only [impl_allWithin.l0]; rw [if_neg (by omega)]
theorem eqIntS_ev (l : List Int) (hl : l.length ≤ 1048576) : Ev (fun k => laws_eqIntS.f k l l) true := by
  unfold laws_eqIntS.f
  refine Ev.itet rfl ?_
  have := runL_all (fun _ => true) l 0
  rw [show (l.all fun _ => true) = true by simp] at this
  rw [← this]
  refine ev_loop0 l (fun k i (_ : Unit) => laws_eqIntS.l0 k l l i) _ _ (fun _ _ => True) () trivial (fun i s hi _ => ⟨fun s' e => ⟨trivial, fun r hr => Ev.to _ (fun k => ?_) hr⟩, fun r e => by simp at e⟩) (fun s _ => Ev.stop fun k => ?_)
  · simp only [laws_eqIntS.l0]
    rw [if_pos (by omega), if_pos (by omega), if_pos (by omega), if_pos trivial, w64 (by omega) (by omega)]
  · simp only [laws_eqIntS.l0]
    rw [if_neg (by omega)]
/-! The laws' own copies and comparisons of lists of numbers. -/
theorem toIntS_ev (l : List Int) (hl : l.length ≤ 1048576) : Ev (fun k => laws_toIntS.f k l) l := by
  unfold laws_toIntS.f
  refine Ev.itet (by omega) (Ev.itet (by omega) ?_)
  have key : ∀ (d i : Nat), i + d = l.length → Ev (fun k => laws_toIntS.l0 k l (l.take i ++ List.replicate d 0) (i : Int)) l := by
    intro d
    induction d with
    | zero =>
      intro i hi
      refine Ev.stop fun k => ?_
      simp only [laws_toIntS.l0]
      rw [if_neg (by omega), List.take_of_length_le (by omega)]
      simp
    | succ d ih =>
      intro i hi
      have hlt : i < l.length := by omega
      refine Ev.to _ (fun k => ?_) (ih (i + 1) (by omega))
      simp only [laws_toIntS.l0]
      rw [if_pos (by omega), if_pos (by omega), if_pos (by simp; omega), rd_get l i hlt, w64 (by omega) (by omega)]
      have e : (l.take i ++ List.replicate (d + 1) 0).set (i : Int).toNat l[i] = l.take (i + 1) ++ List.replicate d 0 := by
        rw [List.take_succ_eq_append_getElem hlt, Int.toNat_natCast, List.set_append_right _ _ (by simp; omega)]
        have : i - (l.take i).length = 0 := by simp; omega
        rw [this, List.replicate_succ, List.set_cons_zero, List.append_assoc]
        rfl
      rw [e]
      rfl
  have := key l.length 0 (by omega)
  simpa using this
/-! Lists that rise. -/
theorem increasing_l0 (bs : List Int) (hl : bs.length ≤ 1048576) : ∀ (d i : Nat), i + d = bs.length ∨ (bs.length < i ∧ d = 0) → 1 ≤ i → ∃ b, Ev (fun k => impl_increasing.l0 k bs (i : Int)) b ∧ (b = true ↔ ∀ j, i ≤ j → j < bs.length → bs.getD (j - 1) 0 < bs.getD j 0) := by
  intro d
  induction d with
  | zero =>
    intro i hi h1
    refine ⟨true, Ev.stop fun k => by simp only [impl_increasing.l0]; rw [if_neg (by omega)], ?_⟩
    simp only [true_iff]
    intro j h2 h3
    omega
  | succ d ih =>
    intro i hi h1
    have hlt : i < bs.length := by omega
    have e1 : rd bs (wrap64 ((i : Int) - 1)) = bs.getD (i - 1) 0 := by
      rw [w64 (by omega) (by omega), show (i : Int) - 1 = ((i - 1 : Nat) : Int) by omega]
      unfold rd; simp
    have e2 : rd bs (i : Int) = bs.getD i 0 := by unfold rd; simp
    have ew : wrap64 ((i : Int) - 1) = (i : Int) - 1 := w64 (by omega) (by omega)
    by_cases hc : bs.getD (i - 1) 0 ≥ bs.getD i 0
    · refine ⟨false, Ev.stop fun k => ?_, ?_⟩
      · simp only [impl_increasing.l0, e1, e2]
        rw [if_pos (by omega), if_pos (by omega), if_pos (by omega), if_pos (by omega), if_pos hc]
      · simp only [Bool.false_eq_true, false_iff]
        intro h
        have := h i (Nat.le_refl _) hlt
        omega
    · obtain ⟨b, hb, hiff⟩ := ih (i + 1) (by omega) (by omega)
      refine ⟨b, Ev.to _ (fun k => ?_) hb, ?_⟩
      · simp only [impl_increasing.l0, e1, e2]
        rw [if_pos (by omega), if_pos (by omega), if_pos (by omega), if_pos (by omega), if_neg hc, w64 (x := (i : Int) + 1) (by omega) (by omega)]
        rfl
      · rw [hiff]
        constructor
        · intro h j h2 h3
          rcases Nat.eq_or_lt_of_le h2 with rfl | h4
          · omega
          · exact h j h4 h3
        · intro h j h2 h3
          exact h j (by omega) h3
theorem increasing_ev (bs : List Int) (hl : bs.length ≤ 1048576) : ∃ b, Ev (fun k => impl_increasing.f k bs) b ∧ (b = true ↔ ∀ j, 1 ≤ j → j < bs.length → bs.getD (j - 1) 0 < bs.getD j 0) := by
  rcases Nat.lt_or_ge bs.length 1 with h | h
  · exact increasing_l0 bs hl 0 1 (by omega) (by omega)
  · exact increasing_l0 bs hl (bs.length - 1) 1 (by omega) (by omega)
theorem rising_l0 (bs : List Int) (hl : bs.length ≤ 1048576) (lo hi : Int) : ∀ (d i : Nat), i + d = bs.length → ∃ b, Ev (fun k => spec_l1Rising.l0 k bs lo hi bs (bs.length : Int) (i : Int)) b ∧
    (b = true ↔ ∀ j, i ≤ j → j < bs.length → (lo ≤ bs.getD j 0 ∧ bs.getD j 0 ≤ hi) ∧ (0 < j → bs.getD (j - 1) 0 < bs.getD j 0)) := by
  intro d
  induction d with
  | zero =>
    intro i hi
    refine ⟨true, Ev.stop fun k => by simp only [spec_l1Rising.l0]; rw [if_neg (by omega)], ?_⟩
    simp only [true_iff]
    intro j h2 h3
    omega
  | succ d ih =>
    intro i hi'
    have hlt : i < bs.length := by omega
    have e2 : rd bs (i : Int) = bs.getD i 0 := by unfold rd; simp
    by_cases hr : lo ≤ bs.getD i 0 ∧ bs.getD i 0 ≤ hi
    · by_cases hc : 0 < i ∧ bs.getD (i - 1) 0 ≥ bs.getD i 0
      · refine ⟨false, Ev.stop fun k => ?_, ?_⟩
        · have e1 : rd bs (wrap64 ((i : Int) - 1)) = bs.getD (i - 1) 0 := by
            rw [w64 (by omega) (by omega), show (i : Int) - 1 = ((i - 1 : Nat) : Int) by omega]
            unfold rd; simp
          have ew : wrap64 ((i : Int) - 1) = (i : Int) - 1 := w64 (by omega) (by omega)
          simp only [spec_l1Rising.l0, e1, e2, l1In_f, Option.bind_some]
          rw [if_pos (by omega), if_pos (by omega), if_pos (by omega), decide_eq_true hr, if_pos rfl, if_pos (by omega), if_pos (by omega), if_pos (by omega), if_pos hc.2]
        · simp only [Bool.false_eq_true, false_iff]
          intro h
          have := (h i (Nat.le_refl _) hlt).2 hc.1
          omega
      · obtain ⟨b, hb, hiff⟩ := ih (i + 1) (by omega)
        refine ⟨b, Ev.to _ (fun k => ?_) hb, ?_⟩
        · simp only [spec_l1Rising.l0, e2, l1In_f, Option.bind_some]
          rw [if_pos (by omega), if_pos (by omega), if_pos (by omega), decide_eq_true hr, if_pos rfl]
          by_cases hi0 : 0 < i
          · have e1 : rd bs (wrap64 ((i : Int) - 1)) = bs.getD (i - 1) 0 := by
              rw [w64 (by omega) (by omega), show (i : Int) - 1 = ((i - 1 : Nat) : Int) by omega]
              unfold rd; simp
            have ew : wrap64 ((i : Int) - 1) = (i : Int) - 1 := w64 (by omega) (by omega)
            rw [if_pos (by omega), if_pos (by omega), if_pos (by omega), e1, if_neg (fun h => hc ⟨hi0, h⟩), w64 (x := (i : Int) + 1) (by omega) (by omega)]
            rfl
          · rw [if_neg (by omega), w64 (x := (i : Int) + 1) (by omega) (by omega)]
            rfl
        · rw [hiff]
          constructor
          · intro h j h2 h3
            rcases Nat.eq_or_lt_of_le h2 with rfl | h4
            · exact ⟨hr, fun h0 => by omega⟩
            · exact h j h4 h3
          · intro h j h2 h3
            exact h j (by omega) h3
    · refine ⟨false, Ev.stop fun k => ?_, ?_⟩
      · simp only [spec_l1Rising.l0, e2, l1In_f, Option.bind_some]
        rw [if_pos (by omega), if_pos (by omega), if_pos (by omega), decide_eq_false hr]; rfl
      · simp only [Bool.false_eq_true, false_iff]
        intro h
        exact hr (h i (Nat.le_refl _) hlt).1
theorem rising_ev (bs : List Int) (hl : bs.length ≤ 1048576) (lo hi : Int) : ∃ b, Ev (fun k => spec_l1Rising.f k bs lo hi) b ∧
    (b = true ↔ ∀ j, j < bs.length → (lo ≤ bs.getD j 0 ∧ bs.getD j 0 ≤ hi) ∧ (0 < j → bs.getD (j - 1) 0 < bs.getD j 0)) := by
  obtain ⟨b, hb, h⟩ := rising_l0 bs hl lo hi bs.length 0 (by omega)
  refine ⟨b, hb, h.trans ⟨fun h j hj => h j (by omega) hj, fun h j _ hj => h j hj⟩⟩
theorem all_getD (l : List Int) (p : Int → Bool) : l.all p = true ↔ ∀ j, j < l.length → p (l.getD j 0) = true := by
  rw [List.all_eq_true]
  constructor
  · intro h j hj
    have : l.getD j 0 = l[j] := by simp [hj]
    rw [this]
    exact h _ (List.getElem_mem hj)
  · intro h x hx
    obtain ⟨j, hj, rfl⟩ := List.getElem_of_mem hx
    have := h j hj
    simpa [hj] using this
/-- The two ways to ask for a rising list in a range tell the same. -/
theorem rising_both (bs : List Int) (hl : bs.length ≤ 1048576) (lo hi : Int) : ∃ b, Ev (fun k => spec_l1Rising.f k bs lo hi) b ∧
    Ev (fun k => (impl_increasing.f k bs).bind fun t => if t = true then (impl_allWithin.f k bs lo hi).bind fun t' => some t' else some false) b ∧ (b = true → (∀ x ∈ bs, lo ≤ x ∧ x ≤ hi) ∧ ∀ j, 1 ≤ j → j < bs.length → bs.getD (j - 1) 0 < bs.getD j 0) := by
  obtain ⟨b, hb, h⟩ := rising_ev bs hl lo hi
  obtain ⟨c, hc, h'⟩ := increasing_ev bs hl
  have ha := all_getD bs (fun x => decide (lo ≤ x ∧ x ≤ hi))
  have e : b = (c && bs.all fun x => decide (lo ≤ x ∧ x ≤ hi)) := by
    rw [Bool.eq_iff_iff, Bool.and_eq_true, h, h', ha]
    simp only [decide_eq_true_eq]
    constructor
    · intro h
      exact ⟨fun j h1 h2 => (h j h2).2 (by omega), fun j hj => (h j hj).1⟩
    · intro h j hj
      exact ⟨h.2 j hj, fun h0 => h.1 j (by omega) hj⟩
  refine ⟨b, hb, ?_, ?_⟩
  · refine Ev.bind hc ?_
    rw [e]
    cases c
    · simpa using Ev.now false
    · simp only [if_true, Bool.true_and]
      exact Ev.mapb (fun t => t) (allWithin_ev bs hl lo hi)
  · intro hb'
    rw [e, Bool.and_eq_true, h'] at hb'
    refine ⟨fun x hx => ?_, hb'.1⟩
    simpa using (List.all_eq_true.1 hb'.2) x hx
/-! Strings made of bytes. -/
def str (l : List UInt8) : ByteArray := ⟨l.toArray⟩
theorem str_app (l m : List UInt8) : str l ++ str m = str (l ++ m) := by
  apply ba_ext
  simp [str]
theorem str_push (l : List UInt8) (b : UInt8) : str l ++ (⟨#[b]⟩ : ByteArray) = str (l ++ [b]) := str_app l [b]
theorem str_size (l : List UInt8) : (str l).size = l.length := rfl
theorem str_cut (s : ByteArray) (i : Nat) (h : i < s.data.toList.length) : s.extract i (i + 1) = str [s.data.toList[i]] := by
  apply ba_ext
  rw [data_extract, List.drop_eq_getElem_cons h]
  simp [str]
def toI (l : List UInt8) : List Int := l.map fun b => (b.toNat : Int)
theorem strOf_toI (l : List UInt8) : strOfNums (toI l) = str l := by
  apply ba_ext
  simp only [strOfNums, toI, str, List.map_map]
  have e : ∀ l : List UInt8, List.map ((fun n : Int => UInt8.ofNat n.toNat) ∘ fun b : UInt8 => (b.toNat : Int)) l = l := by
    intro l
    induction l with
    | nil => rfl
    | cons b l ih => rw [List.map_cons, ih]; simp
  exact e l
/-! Deliveries of numbers. -/
theorem adj_pw (l : List Int) (h : ∀ j, 1 ≤ j → j < l.length → l.getD (j - 1) 0 < l.getD j 0) : l.Pairwise (· < ·) := by
  have g : ∀ j (hj : j < l.length), l.getD j 0 = l[j] := fun j hj => by simp [hj]
  have ht : ∀ d i (hj : i + d + 1 < l.length), l[i] < l[i + d + 1] := by
    intro d
    induction d with
    | zero =>
      intro i hj
      have := h (i + 1) (by omega) hj
      rw [g _ (by omega), g _ hj] at this
      exact this
    | succ d ih =>
      intro i hj
      have h1 := ih i (by omega)
      have := h (i + d + 1 + 1) (by omega) hj
      have e : i + d + 1 + 1 - 1 = i + d + 1 := by omega
      rw [e, g _ (by omega), g (i + d + 1 + 1) hj] at this
      exact Int.lt_trans h1 this
  refine List.pairwise_iff_getElem.2 fun i j hi hj hij => ?_
  have := ht (j - i - 1) i (by omega)
  simpa [show i + (j - i - 1) + 1 = j by omega] using this
theorem pw_adj {l : List Int} (h : l.Pairwise (· < ·)) : ∀ j, 1 ≤ j → j < l.length → l.getD (j - 1) 0 < l.getD j 0 := by
  intro j h1 h2
  have := List.pairwise_iff_getElem.1 h (j - 1) j (by omega) h2 (by omega)
  simpa [h2, show j - 1 < l.length by omega] using this
/-- A rising list in a range. -/
def rise (l : List Int) (lo hi : Int) : Bool := (l.all fun x => decide (lo ≤ x ∧ x ≤ hi)) && decide (l.Pairwise (· < ·))
theorem rise_iff (l : List Int) (lo hi : Int) : rise l lo hi = true ↔ (∀ x ∈ l, lo ≤ x ∧ x ≤ hi) ∧ l.Pairwise (· < ·) := by
  unfold rise
  rw [Bool.and_eq_true, List.all_eq_true, decide_eq_true_eq]
  simp only [decide_eq_true_eq]
theorem l1Rising_ev (l : List Int) (hl : l.length ≤ 1048576) (lo hi : Int) : Ev (fun k => spec_l1Rising.f k l lo hi) (rise l lo hi) := by
  obtain ⟨b, hb, h⟩ := rising_ev l hl lo hi
  have ha := all_getD l (fun x => decide (lo ≤ x ∧ x ≤ hi))
  simp only [decide_eq_true_eq] at ha
  have e : b = rise l lo hi := by
    rw [Bool.eq_iff_iff, h]
    unfold rise
    rw [Bool.and_eq_true, ha, decide_eq_true_eq]
    exact ⟨fun h => ⟨fun j hj => (h j hj).1, adj_pw l (fun j h1 h2 => (h j h2).2 (by omega))⟩, fun h j hj => ⟨h.1 j hj, fun h0 => pw_adj h.2 j (by omega) hj⟩⟩
  rw [← e]
  exact hb
theorem implRising_ev (l : List Int) (hl : l.length ≤ 1048576) (lo hi : Int) : Ev (fun k => (impl_increasing.f k l).bind fun t => if t = true then impl_allWithin.f k l lo hi else some false) (rise l lo hi) := by
  obtain ⟨c, hc, h⟩ := increasing_ev l hl
  have e : c = decide (l.Pairwise (· < ·)) := by
    rw [Bool.eq_iff_iff, h, decide_eq_true_eq]
    exact ⟨adj_pw l, pw_adj⟩
  refine Ev.bind hc ?_
  unfold rise
  rw [← e]
  cases c
  · rw [Bool.and_false]
    exact Ev.itef (by simp) (Ev.now _)
  · rw [Bool.and_true]
    exact Ev.itet rfl (allWithin_ev l hl lo hi)
def houses (kd p : Int) : Int := if kd = 0 then p else 2 * p
/-- The number of a house. -/
def nn (kd p o j : Int) : Int := if kd = 1 then 2 * j + 1 + o else if o = 1 then 2 * p - j else j + 1
theorem nuNumber_f (kd p o j : Int) (hp : 1 ≤ p ∧ p ≤ 1000) (hj : 0 ≤ j ∧ j < p) (ho : o = 0 ∨ o = 1) : spec_nuNumber.f kd p o j = some (nn kd p o j) := by
  unfold spec_nuNumber.f nn
  rw [w64 (x := 2 * j) (by omega) (by omega), w64 (x := 2 * j + 1) (by omega) (by omega), w64 (x := 2 * j + 1 + o) (by omega) (by omega), w64 (x := 2 * p) (by omega) (by omega), w64 (x := 2 * p - j) (by omega) (by omega), w64 (x := j + 1) (by omega) (by omega)]
  split
  · rfl
  · split <;> rfl
theorem nn_inj (kd p : Int) (o j o' j' : Int) (hj : 0 ≤ j ∧ j < p) (ho : o = 0 ∨ o = 1) (hj' : 0 ≤ j' ∧ j' < p) (ho' : o' = 0 ∨ o' = 1) (h : nn kd p o j = nn kd p o' j') : o = o' ∧ j = j' := by
  unfold nn at h
  split at h
  · omega
  · split at h <;> split at h <;> omega
/-- Each number of a house is one of a side and a plot. -/
theorem plotOf_val (kd p n : Int) (hk : 0 ≤ kd ∧ kd ≤ 2) (hp : 1 ≤ p ∧ p ≤ 1000) (hn : 1 ≤ n ∧ n ≤ houses kd p) : ∃ o j : Int, impl_plotOf.f kd p n = some (o, j) ∧ (o = 0 ∨ o = 1) ∧ (0 ≤ j ∧ j < p) ∧ nn kd p o j = n ∧ (o = 1 → kd > 0) := by
  unfold houses at hn
  unfold impl_plotOf.f nn
  by_cases h1 : kd = 1
  · rw [if_pos h1]
    rw [if_neg (by omega)] at hn
    have e1 : wrap64 (n - 1) = n - 1 := w64 (by omega) (by omega)
    have e2 : Int.tmod (n - 1) 2 = (n - 1) % 2 := Int.tmod_eq_emod_of_nonneg (by omega)
    have e3 : Int.tdiv (n - 1) 2 = (n - 1) / 2 := Int.tdiv_eq_ediv_of_nonneg (by omega)
    have e4 : wrap64 ((n - 1) / 2) = (n - 1) / 2 := w64 (by omega) (by omega)
    refine ⟨(n - 1) % 2, (n - 1) / 2, by rw [e1, e2, e3, e4], by omega, by omega, ?_, by omega⟩
    rw [if_pos h1]
    omega
  · rw [if_neg h1]
    by_cases h2 : n > p
    · rw [if_pos h2]
      have hk0 : kd ≠ 0 := fun e => by rw [if_pos e] at hn; omega
      rw [if_neg hk0] at hn
      refine ⟨1, 2 * p - n, by rw [w64 (x := 2 * p) (by omega) (by omega), w64 (by omega) (by omega)], .inr rfl, by omega, ?_, by omega⟩
      rw [if_neg h1, if_pos rfl]
      omega
    · rw [if_neg h2]
      refine ⟨0, n - 1, by rw [w64 (by omega) (by omega)], .inl rfl, by omega, ?_, by omega⟩
      rw [if_neg h1, if_neg (by decide)]
      omega
def sg (a b : Bool) : UInt8 := if a = true then (if b = true then 98 else 108) else if b = true then 114 else 45
def hasL (kd p : Int) (l : List Int) (j : Nat) : Bool := decide (nn kd p 0 j ∈ l)
def hasR (kd p : Int) (l : List Int) (j : Nat) : Bool := decide (kd > 0) && decide (nn kd p 1 j ∈ l)
/-- The deliveries of some numbers. -/
def drow (kd p : Int) (l : List Int) (n : Nat) : List UInt8 := (List.range n).map fun j => sg (hasL kd p l j) (hasR kd p l j)
theorem drow_len (kd p : Int) (l : List Int) (n : Nat) : (drow kd p l n).length = n := by simp [drow]
theorem drow_get (kd p : Int) (l : List Int) (n j : Nat) (h : j < (drow kd p l n).length) : (drow kd p l n)[j] = sg (hasL kd p l j) (hasR kd p l j) := by simp [drow]
theorem drow_succ (kd p : Int) (l : List Int) (n : Nat) : drow kd p l (n + 1) = drow kd p l n ++ [sg (hasL kd p l n) (hasR kd p l n)] := by
  unfold drow
  rw [List.range_succ, List.map_append]
  rfl
theorem l1Has_ev (l : List Int) (hl : l.length ≤ 1048576) (n : Int) : Ev (fun k => spec_l1Has.f k l n) (decide (n ∈ l)) := by
  have key : ∀ (d i : Nat), i + d = l.length → Ev (fun k => spec_l1Has.l0 k n l (l.length : Int) (i : Int)) (decide (n ∈ l.drop i)) := by
    intro d
    induction d with
    | zero =>
      intro i hi
      rw [List.drop_eq_nil_of_le (by omega)]
      exact Ev.stop fun k => by simp only [spec_l1Has.l0]; rw [if_neg (by omega)]; rfl
    | succ d ih =>
      intro i hi
      have hlt : i < l.length := by omega
      have ih := ih (i + 1) (by omega)
      have hw : wrap64 ((i : Int) + 1) = ((i + 1 : Nat) : Int) := by rw [w64 (by omega) (by omega)]; rfl
      rw [List.drop_eq_getElem_cons hlt]
      refine Ev.succ ?_
      simp only [spec_l1Has.l0]
      rw [rd_get l i hlt, hw]
      refine Ev.itet (by omega) (Ev.itet (by omega) (Ev.itet (by omega) ?_))
      by_cases h : l[i] = n
      · have e : decide (n ∈ l[i] :: l.drop (i + 1)) = true := by simp [h]
        rw [e]
        exact Ev.itet h (Ev.now _)
      · have e : decide (n ∈ l[i] :: l.drop (i + 1)) = decide (n ∈ l.drop (i + 1)) := by
          apply decide_eq_decide.mpr
          rw [List.mem_cons]
          exact ⟨fun h' => h'.elim (fun e => (h e.symm).elim) (fun e => e), .inr⟩
        rw [e]
        exact Ev.itef h ih
  have := key l.length 0 (by omega)
  unfold spec_l1Has.f
  simpa using this
theorem j3_ev {kd p : Int} {l : List Int} {x : ByteArray} {j : Int} {a b c : Bool} {r : ByteArray × Bool} (hx : x.size ≤ 1048576) (hc : c = (a && b))
    (h : Ev (fun k => spec_DeliveriesOf.l0 k l (x ++ ⟨#[sg a b]⟩) (wrap64 (j + 1)) kd p) r) : Ev (fun k => spec_DeliveriesOf.j3 k l x j a b c kd p) r := by
  subst hc
  refine Ev.succ ?_
  simp only [spec_DeliveriesOf.j3]
  cases a <;> cases b <;> simp only [Bool.and_true, Bool.and_false, Bool.false_eq_true, if_false, if_true] <;> exact Ev.itet (by omega) h
theorem j2_ev {kd p : Int} {l : List Int} {x : ByteArray} {j : Int} {a b : Bool} {r : ByteArray × Bool} (hx : x.size ≤ 1048576)
    (h : Ev (fun k => spec_DeliveriesOf.l0 k l (x ++ ⟨#[sg a b]⟩) (wrap64 (j + 1)) kd p) r) : Ev (fun k => spec_DeliveriesOf.j2 k l x j a b kd p) r := by
  refine Ev.succ ?_
  simp only [spec_DeliveriesOf.j2]
  cases a
  · exact Ev.itef (by simp) (j3_ev hx (by simp) h)
  · exact Ev.itet rfl (j3_ev hx (by simp) h)
theorem made_l0 (kd : Int) (n : Nat) (l : List Int) (hl : l.length ≤ 1048576) (hn : 1 ≤ n ∧ n ≤ 60) : ∀ (d j : Nat), j + d = n → Ev (fun k => spec_DeliveriesOf.l0 k l (str (drow kd n l j)) (j : Int) kd n) (str (drow kd n l n), true) := by
  intro d
  induction d with
  | zero =>
    intro j hj
    obtain rfl : j = n := by omega
    exact Ev.stop fun k => by simp only [spec_DeliveriesOf.l0]; rw [if_neg (by omega)]
  | succ d ih =>
    intro j hj
    have ih := ih (j + 1) (by omega)
    have hw : wrap64 ((j : Int) + 1) = ((j + 1 : Nat) : Int) := by rw [w64 (by omega) (by omega)]; rfl
    rw [drow_succ, ← str_push, ← hw] at ih
    refine Ev.succ ?_
    simp only [spec_DeliveriesOf.l0]
    rw [nuNumber_f kd n 0 j (by omega) (by omega) (.inl rfl), nuNumber_f kd n 1 j (by omega) (by omega) (.inr rfl)]
    simp only [Option.bind_some]
    have hs : (str (drow kd n l j)).size ≤ 1048576 := by rw [str_size, drow_len]; omega
    refine Ev.itet (by omega) (Ev.bind (l1Has_ev l hl _) ?_)
    by_cases hk : kd > 0
    · refine Ev.itet hk (Ev.bind (l1Has_ev l hl _) (j2_ev hs ?_))
      have e : hasR kd n l j = decide (nn kd n 1 j ∈ l) := by unfold hasR; rw [decide_eq_true hk, Bool.true_and]
      rw [← e]
      exact ih
    · refine Ev.itef hk (j2_ev hs ?_)
      have e : hasR kd n l j = false := by unfold hasR; rw [decide_eq_false hk, Bool.false_and]
      rw [← e]
      exact ih
/-- One number more. -/
theorem put_step (kd : Int) (n : Nat) (l : List Int) (hk : 0 ≤ kd ∧ kd ≤ 2) (hn : 1 ≤ n ∧ n ≤ 60) (x : Int) (hx : x ∉ l) (h1 : 1 ≤ x ∧ x ≤ houses kd n) : ∃ o j : Int, impl_plotOf.f kd n x = some (o, j) ∧ impl_DeliveriesOf.step (toI (drow kd n l n)) o j = some (toI (drow kd n (l ++ [x]) n)) := by
  obtain ⟨o, j, hf, ho, hj, hnn, hko⟩ := plotOf_val kd n x hk (by omega) h1
  refine ⟨o, j, hf, ?_⟩
  obtain ⟨i, rfl⟩ : ∃ i : Nat, j = (i : Int) := ⟨j.toNat, by omega⟩
  have hin : i < n := by omega
  have hlen : (toI (drow kd n l n)).length = n := by simp [toI, drow_len]
  have old : ∀ o' j' : Int, (o' = 0 ∨ o' = 1) → (0 ≤ j' ∧ j' < n) → ¬ (o' = o ∧ j' = i) → decide (nn kd n o' j' ∈ l ++ [x]) = decide (nn kd n o' j' ∈ l) := by
    intro o' j' ho' hj' hne
    apply decide_eq_decide.mpr
    rw [List.mem_append, List.mem_singleton]
    refine ⟨fun h => h.elim id (fun e => ?_), .inl⟩
    have := nn_inj kd n o' j' o i hj' ho' hj ho (e.trans hnn.symm)
    exact (hne this).elim
  have new : decide (nn kd n o i ∈ l ++ [x]) = true := by simp [hnn]
  have was : decide (nn kd n o i ∈ l) = false := by simpa [hnn] using hx
  unfold impl_DeliveriesOf.step
  rw [if_pos (by omega), Int.toNat_natCast]
  congr 1
  refine List.ext_getElem (by simp [toI, drow_len]) fun m hm1 hm2 => ?_
  have hm : m < n := by simpa [hlen] using hm1
  have e1 : (toI (drow kd n (l ++ [x]) n))[m] = ((sg (hasL kd n (l ++ [x]) m) (hasR kd n (l ++ [x]) m)).toNat : Int) := by simp [toI, drow_get]
  have e2 : ∀ h, (toI (drow kd n l n))[m]'h = ((sg (hasL kd n l m) (hasR kd n l m)).toNat : Int) := by intro h; simp [toI, drow_get]
  rw [e1, List.getElem_set]
  by_cases hmi : i = m
  · subst hmi
    rw [if_pos rfl, rd_get _ _ (by omega), e2]
    rcases ho with rfl | rfl
    · have hR : hasR kd n (l ++ [x]) i = hasR kd n l i := by
        unfold hasR
        rw [old 1 i (.inr rfl) hj (by omega)]
      have hL : hasL kd n (l ++ [x]) i = true := new
      have hL' : hasL kd n l i = false := was
      rw [hR, hL, hL']
      cases hasR kd n l i <;> rfl
    · have hL : hasL kd n (l ++ [x]) i = hasL kd n l i := old 0 i (.inl rfl) hj (by omega)
      have hk0 := hko rfl
      have hR : hasR kd n (l ++ [x]) i = true := by unfold hasR; rw [decide_eq_true hk0, new]; rfl
      have hR' : hasR kd n l i = false := by unfold hasR; rw [was, Bool.and_false]
      rw [hL, hR, hR']
      cases hasL kd n l i <;> rfl
  · rw [if_neg hmi, e2]
    have hL : hasL kd n (l ++ [x]) m = hasL kd n l m := old 0 m (.inl rfl) (by omega) (by omega)
    have hR : hasR kd n (l ++ [x]) m = hasR kd n l m := by
      unfold hasR
      rw [old 1 m (.inr rfl) (by omega) (by omega)]
    rw [hL, hR]
theorem rows_f (kd : Int) (n : Nat) (l : List Int) (hk : 0 ≤ kd ∧ kd ≤ 2) (hn : 1 ≤ n ∧ n ≤ 60) (hr : ∀ x ∈ l, 1 ≤ x ∧ x ≤ houses kd n) (hp : l.Pairwise (· < ·)) : ∀ i, i ≤ l.length → impl_DeliveriesOf.rows kd n l i = some (toI (drow kd n (l.take i) n))
  | 0, _ => by
    rw [impl_DeliveriesOf.rows, Int.toNat_natCast]
    congr 1
    refine List.ext_getElem (by simp [toI, drow_len]) fun m h1 h2 => ?_
    have e1 : (toI (drow kd n (l.take 0) n))[m] = ((sg (hasL kd n (l.take 0) m) (hasR kd n (l.take 0) m)).toNat : Int) := by simp [toI, drow_get]
    rw [e1, List.getElem_replicate]
    simp [hasL, hasR, sg]
  | i + 1, h => by
    have hlt : i < l.length := by omega
    have hnot : l[i] ∉ l.take i := by
      intro hm
      obtain ⟨j, hj, e⟩ := List.getElem_of_mem hm
      have hji : j < i := by simp at hj; omega
      have h2 := List.pairwise_iff_getElem.1 hp j i (by omega) hlt hji
      rw [List.getElem_take] at e
      omega
    obtain ⟨o, j, h1, h2⟩ := put_step kd n (l.take i) hk hn l[i] hnot (hr _ (List.getElem_mem hlt))
    rw [impl_DeliveriesOf.rows, rows_f kd n l hk hn hr hp i (by omega), Option.bind_some, rd_get l i hlt, h1, Option.bind_some, h2, List.take_succ_eq_append_getElem hlt]
/-- What is asked of a street and numbers. -/
def okD (kd p : Int) (l : List Int) : Bool := decide (0 ≤ kd ∧ kd ≤ 2) && (decide (1 ≤ p ∧ p ≤ 1000) && (decide (p ≤ 60) && rise l 1 (houses kd p)))
def resD (kd p : Int) (l : List Int) : ByteArray × Bool := if okD kd p l then (str (drow kd p l p.toNat), true) else (⟨#[]⟩, false)
theorem specD_ev (kd p : Int) (l : List Int) (hl : l.length ≤ 1048576) : Ev (fun k => spec_DeliveriesOf.f k kd p l) (resD kd p l) := by
  unfold spec_DeliveriesOf.f spec_nuGood.f spec_nuHouses.f resD okD
  simp only [l1In_f, Option.bind_some]
  have no : Ev (fun k => spec_DeliveriesOf.j0 k l true kd p) (⟨#[]⟩, false) := Ev.stop fun k => by simp only [spec_DeliveriesOf.j0]; rw [if_pos trivial]
  by_cases h1 : 0 ≤ kd ∧ kd ≤ 2
  · rw [decide_eq_true h1]
    simp only [if_true, Option.bind_some, Bool.true_and]
    by_cases h2 : 1 ≤ p ∧ p ≤ 1000
    · rw [decide_eq_true h2]
      simp only [Bool.true_and]
      refine Ev.itet (by trivial) ?_
      by_cases h3 : p ≤ 60
      · rw [decide_eq_true h3, Bool.true_and]
        refine Ev.itef (by omega) ?_
        have e : (if kd = 0 then some p else some (wrap64 (2 * p))) = some (houses kd p) := by
          unfold houses
          rw [w64 (by omega) (by omega)]
          split <;> rfl
        rw [e]
        simp only [Option.bind_some]
        refine Ev.bind (l1Rising_ev l hl 1 _) ?_
        cases hr : rise l 1 (houses kd p)
        · exact no
        · obtain ⟨n, rfl⟩ : ∃ n : Nat, p = (n : Int) := ⟨p.toNat, by omega⟩
          refine Ev.succ ?_
          simp only [spec_DeliveriesOf.j0]
          refine Ev.itef (by simp) ?_
          simp only [if_true, Int.toNat_natCast]
          exact made_l0 kd n l hl (by omega) n 0 (by omega)
      · rw [decide_eq_false h3, Bool.false_and]
        exact Ev.itet (by omega) no
    · rw [decide_eq_false h2, Bool.false_and]
      exact Ev.itef (by simp) no
  · rw [decide_eq_false h1, Bool.false_and]
    simp only [Bool.false_eq_true, if_false, Option.bind_some]
    exact no
theorem implD_ev (kd p : Int) (l : List Int) (hl : l.length ≤ 1048576) : Ev (fun k => impl_DeliveriesOf.f k kd p l) (resD kd p l) := by
  unfold impl_DeliveriesOf.f impl_DeliveriesOf.ok impl_IsStreet.f impl_housesOf.f resD okD
  simp only [within_f, Option.bind_some]
  by_cases h1 : 0 ≤ kd ∧ kd ≤ 2
  · rw [decide_eq_true h1]
    simp only [if_true, Option.bind_some, Bool.true_and]
    by_cases h2 : 1 ≤ p ∧ p ≤ 1000
    · rw [decide_eq_true h2]
      simp only [if_true, Bool.true_and]
      by_cases h3 : p ≤ 60
      · rw [decide_eq_true h3, Bool.true_and]
        have e : (if kd = 0 then some p else some (wrap64 (2 * p))) = some (houses kd p) := by
          unfold houses
          rw [w64 (by omega) (by omega)]
          split <;> rfl
        rw [e]
        simp only [Option.bind_some]
        have h60 : ¬ p > 60 := by omega
        simp only [if_neg h60]
        refine Ev.bind (implRising_ev l hl 1 _) ?_
        cases hr : rise l 1 (houses kd p)
        · exact Ev.itef (by simp) (Ev.now _)
        · obtain ⟨n, rfl⟩ : ∃ n : Nat, p = (n : Int) := ⟨p.toNat, by omega⟩
          obtain ⟨h4, h5⟩ := (rise_iff _ _ _).1 hr
          have e2 := rows_f kd n l h1 (by omega) h4 h5 l.length (Nat.le_refl _)
          rw [List.take_length] at e2
          refine Ev.itet rfl (Ev.itet ⟨by omega, h3, hl⟩ ?_)
          rw [e2, Option.bind_some, strOf_toI, if_pos rfl, Int.toNat_natCast]
          exact Ev.now _
      · have h60 : p > 60 := by omega
        rw [decide_eq_false h3, Bool.false_and]
        simp only [if_pos h60, Option.bind_some]
        exact Ev.itef (by simp) (Ev.now _)
    · rw [decide_eq_false h2, Bool.false_and]
      simp only [Bool.false_eq_true, if_false, Option.bind_some]
      exact Ev.now _
  · rw [decide_eq_false h1, Bool.false_and]
    simp only [Bool.false_eq_true, if_false, Option.bind_some]
    exact Ev.now _
theorem main : laws_FnExactDeliveriesOf.Pure := by
  intro kd p l _ _ _ _ _
  refine Ev.rounds ?_
  unfold laws_FnExactDeliveriesOf.f
  by_cases h : (l.length : Int) > 1048576
  · exact Ev.itet h (Ev.now _)
  · have hl : l.length ≤ 1048576 := by omega
    simp only [laws_toStreet.f, Option.bind_some]
    refine Ev.itef h (Ev.bind (toIntS_ev l hl) (Ev.bind (specD_ev kd p l hl) (Ev.bind (toIntS_ev l hl) (Ev.bind (implD_ev kd p l hl) (Ev.itet rfl (Ev.succ ?_))))))
    simp only [laws_FnExactDeliveriesOf.j0]
    exact Ev.itef (by simp) (Ev.bind (toIntS_ev l hl) (Ev.bind (eqIntS_ev _ hl) (Ev.itet rfl (Ev.now _))))
end DeliveriesOf
theorem FnExactDeliveriesOf : laws_FnExactDeliveriesOf.Pure := DeliveriesOf.main
end Go.Proofs.Ytpopeedfgenebaa.Pure
