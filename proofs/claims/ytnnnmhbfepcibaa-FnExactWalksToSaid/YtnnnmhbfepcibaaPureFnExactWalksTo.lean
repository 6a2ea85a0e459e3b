/- The Lean functions printed of both sides say the same sum of walks, for all arguments. No condition beyond the printed bounds. -/
import Derived.Test.YtnnnmhbfepcibaaPFnExactWalksTox3
import Derived.Test.YtnnnmhbfepcibaaKit
namespace Go.Proofs.Ytnnnmhbfepcibaa.Pure
open Go.RowKit Go.Proofs.YtnnnmhbfepcibaaW.PrintWords Go.Proofs.YtnnnmhbfepcibaaW.PrintLast Go.Proofs.YtnnnmhbfepcibaaW.PrintMore Go.Proofs.YtnnnmhbfepcibaaKit
open Go.Proofs.Ytnnnmhbfepcibaa.PFnExactWalksTo
namespace WalksTo
/-! People: what both sides say of a list of people. -/
def people (l : List Int) : Bool := decide (1 ≤ (l.length : Int) ∧ (l.length : Int) ≤ 60) && (l.all (fun x => decide (0 ≤ x ∧ x ≤ 1000)) && decide (0 < l.sum))
theorem people_len {l : List Int} (h : people l = true) : 1 ≤ l.length ∧ l.length ≤ 60 := by
  simp only [people, Bool.and_eq_true, decide_eq_true_eq] at h; omega
theorem people_mem {l : List Int} (h : people l = true) : ∀ x ∈ l, 0 ≤ x ∧ x ≤ 1000 := by
  simp only [people, Bool.and_eq_true, decide_eq_true_eq, List.all_eq_true] at h
  exact h.2.1
theorem people_get {l : List Int} (h : people l = true) (i : Nat) (hi : i < l.length) : 0 ≤ l[i] ∧ l[i] ≤ 1000 := people_mem h _ (List.getElem_mem hi)
theorem people_sum {l : List Int} (h : people l = true) : 0 < l.sum := by
  simp only [people, Bool.and_eq_true, decide_eq_true_eq] at h
  exact h.2.2
theorem people_take {l : List Int} (h : people l = true) (i : Nat) : 0 ≤ (l.take i).sum ∧ (l.take i).sum ≤ 60000 := by
  have h1 := sum_bounds (l.take i) 1000 (fun x hx => people_mem h x (List.mem_of_mem_take hx))
  have h2 := people_len h
  have h3 : (l.take i).length ≤ 60 := by simp; omega
  omega

theorem ge_le (a b c : Int) : (if a ≥ b then some (decide (a ≤ c)) else some false) = some (decide (b ≤ a ∧ a ≤ c)) := by
  by_cases h : a ≥ b
  · rw [if_pos h]; simp [show b ≤ a from h]
  · rw [if_neg h]; simp; omega
theorem l1In_f (a b c : Int) : spec_l1In.f a b c = some (decide (b ≤ a ∧ a ≤ c)) := by unfold spec_l1In.f; exact ge_le a b c
theorem within_f (a b c : Int) : impl_within.f a b c = some (decide (b ≤ a ∧ a ≤ c)) := by unfold impl_within.f; exact ge_le a b c

theorem l1All_ev (l : List Int) (hl : l.length ≤ 1048576) (a b : Int) : Ev (fun k => spec_l1All.f k l a b) (l.all fun x => decide (a ≤ x ∧ x ≤ b)) := by
  rw [← runL_all _ l 0]
  refine ev_loop0 l (fun k i (_ : Unit) => spec_l1All.l0 k a b l (l.length : Int) i) _ _ (fun _ _ => True) () trivial (fun i s hi _ => ?_) (fun s _ => ?_)
  · have hw : wrap64 ((i : Int) + 1) = (i : Int) + 1 := w64 (by omega) (by omega)
    constructor
    · intro s' e
      refine ⟨trivial, fun r hr => Ev.to _ (fun k => ?_) hr⟩
      by_cases hp : a ≤ l[i] ∧ l[i] ≤ b
      · simp only [spec_l1All.l0]
        rw [if_pos (by omega), if_pos (by omega), if_pos (by omega), l1In_f, rd_get l i hi, decide_eq_true hp, hw]; rfl
      · simp [hp] at e
    · intro r e
      by_cases hp : a ≤ l[i] ∧ l[i] ≤ b
      · simp [hp] at e
      · rw [if_neg (by simpa using hp)] at e
        cases e
        refine Ev.stop fun k => ?_
        simp only [spec_l1All.l0]
        rw [if_pos (by omega), if_pos (by omega), if_pos (by omega), l1In_f, rd_get l i hi, decide_eq_false hp]; rfl
  · exact Ev.stop fun k => by simp only [spec_l1All.l0]; rw [if_neg (by omega)]
theorem allWithin_l0 (a b : Int) (l : List Int) (n : Int) : ∀ k i, impl_allWithin.l0 k a b l n i = spec_l1All.l0 k a b l n i
  | 0, _ => rfl
  | k + 1, i => by simp only [impl_allWithin.l0, spec_l1All.l0, within_f, l1In_f, allWithin_l0 a b l n k]
theorem allWithin_ev (l : List Int) (hl : l.length ≤ 1048576) (a b : Int) : Ev (fun k => impl_allWithin.f k l a b) (l.all fun x => decide (a ≤ x ∧ x ≤ b)) :=
  Ev.congr (fun k => by unfold impl_allWithin.f; exact allWithin_l0 _ _ _ _ _ _) (l1All_ev l hl a b)
theorem mdSum_ev (l : List Int) (hl : l.length ≤ 60) (hm : ∀ x ∈ l, 0 ≤ x ∧ x ≤ 1000) : Ev (fun k => spec_mdSum.f k l) l.sum := by
  have e := foldI_sum l 0 0
  rw [Int.zero_add] at e
  rw [← e]
  refine ev_fold l (fun k i s => spec_mdSum.l0 k s l (l.length : Int) i) _ (fun s => s) (fun i s => 0 ≤ s ∧ s ≤ 1000 * i) 0 (by simp) (fun i s hi hs => ?_) (fun s _ => ?_)
  · have hx := hm _ (List.getElem_mem hi)
    refine ⟨by omega, fun r hr => Ev.to _ (fun k => ?_) hr⟩
    simp only [spec_mdSum.l0]
    rw [if_pos (by omega), if_pos (by omega), if_pos (by omega), rd_get l i hi, w64 (x := (i : Int) + 1) (by omega) (by omega), w64 (by omega) (by omega)]
  · exact Ev.stop fun k => by simp only [spec_mdSum.l0]; rw [if_neg (by omega)]
theorem sumOf_l0 (l : List Int) (n : Int) : ∀ k s i, impl_sumOf.l0 k s l n i = spec_mdSum.l0 k s l n i
  | 0, _, _ => rfl
  | k + 1, s, i => by simp only [impl_sumOf.l0, spec_mdSum.l0, sumOf_l0 l n k]
theorem sumOf_ev (l : List Int) (hl : l.length ≤ 60) (hm : ∀ x ∈ l, 0 ≤ x ∧ x ≤ 1000) : Ev (fun k => impl_sumOf.f k l) l.sum :=
  Ev.congr (fun k => by unfold impl_sumOf.f; exact sumOf_l0 _ _ _ _ _) (mdSum_ev l hl hm)
theorem mdGood_ev (l : List Int) (hl : l.length ≤ 1048576) : Ev (fun k => spec_mdGood.f k l) (people l) := by
  unfold spec_mdGood.f people
  simp only [l1In_f, Option.bind_some]
  by_cases h1 : 1 ≤ (l.length : Int) ∧ (l.length : Int) ≤ 60
  · simp only [decide_eq_true h1, if_true, Bool.true_and]
    refine Ev.bind (l1All_ev l hl 0 1000) ?_
    cases h2 : l.all fun x => decide (0 ≤ x ∧ x ≤ 1000)
    · simpa using Ev.now false
    · simp only [if_true, Bool.true_and]
      refine Ev.mapb (fun t => decide (t > 0)) (mdSum_ev l (by omega) ?_)
      simpa [List.all_eq_true] using h2
  · simp only [decide_eq_false h1, Bool.false_and]
    simpa using Ev.now false
theorem ArePeople_ev (l : List Int) (hl : l.length ≤ 1048576) : Ev (fun k => impl_ArePeople.f k l) (people l) := by
  unfold impl_ArePeople.f people
  simp only [within_f, Option.bind_some]
  by_cases h1 : 1 ≤ (l.length : Int) ∧ (l.length : Int) ≤ 60
  · simp only [decide_eq_true h1, if_true, Bool.true_and]
    refine Ev.bind (allWithin_ev l hl 0 1000) ?_
    cases h2 : l.all fun x => decide (0 ≤ x ∧ x ≤ 1000)
    · simpa using Ev.now false
    · simp only [if_true, Bool.true_and]
      refine Ev.mapb (fun t => decide (t > 0)) (sumOf_ev l (by omega) ?_)
      simpa [List.all_eq_true] using h2
  · simp only [decide_eq_false h1, Bool.false_and]
    simpa using Ev.now false
/-! A house of people, and absolute values. -/
def houseOk (l : List Int) (a : Int) : Bool := people l && decide (0 ≤ a ∧ a ≤ (l.length : Int) - 1)
theorem houseOk_people {l : List Int} {a : Int} (h : houseOk l a = true) : people l = true := by
  simp only [houseOk, Bool.and_eq_true] at h; exact h.1
theorem houseOk_lt {l : List Int} {a : Int} (h : houseOk l a = true) : 0 ≤ a ∧ a < l.length := by
  simp only [houseOk, Bool.and_eq_true, decide_eq_true_eq] at h; omega
theorem mdHouse_ev (l : List Int) (hl : l.length ≤ 1048576) (a : Int) : Ev (fun k => spec_mdHouse.f k l a) (houseOk l a) := by
  unfold spec_mdHouse.f houseOk
  refine Ev.bind (mdGood_ev l hl) ?_
  cases h : people l
  · simpa using Ev.now false
  · simp only [if_true, Bool.true_and, l1In_f, Option.bind_some]
    rw [w64 (by omega) (by omega)]
    exact Ev.now _
theorem hasHouse_ev (l : List Int) (hl : l.length ≤ 1048576) (a : Int) : Ev (fun k => impl_hasHouse.f k l a) (houseOk l a) := by
  unfold impl_hasHouse.f houseOk
  refine Ev.bind (ArePeople_ev l hl) ?_
  cases h : people l
  · simpa using Ev.now false
  · simp only [if_true, Bool.true_and, within_f, Option.bind_some]
    rw [w64 (by omega) (by omega)]
    exact Ev.now _
/-! Absolute values. -/
def absV (x : Int) : Int := if x > wrap64 (-x) then x else wrap64 (-x)
theorem l1Abs_f (x : Int) : spec_l1Abs.f x = some (absV x) := by
  unfold spec_l1Abs.f spec_l1Most.f absV; split <;> rfl
theorem absOf_f (x : Int) : impl_absOf.f x = some (absV x) := by
  unfold impl_absOf.f absV mx
  congr 1
  split <;> split <;> omega
theorem absV_eq {x : Int} (h1 : -9223372036854775807 ≤ x) (h2 : x ≤ 9223372036854775807) : absV x = if x < 0 then -x else x := by
  unfold absV
  rw [w64 (by omega) (by omega)]
  split <;> split <;> omega
/-! The laws' own copies and comparisons of lists of numbers. -/
theorem toIntS_ev (l : List Int) (hl : l.length ≤ 1048576) : Ev (fun k => laws_toIntS.f k l) l := by
  unfold laws_toIntS.f
  refine Ev.itet (by omega) (Ev.itet (by omega) ?_)
  have key : ∀ (d i : Nat), i + d = l.length → Ev (fun k => laws_toIntS.l0 k l (l.take i ++ List.replicate d 0) (i : Int)) l := by
    intro d
    induction d with
    | zero =>
      intro i hi
      refine Ev.stop fun k => ?_
      simp only [laws_toIntS.l0]
      rw [if_neg (by omega), List.take_of_length_le (by omega)]
      simp
    | succ d ih =>
      intro i hi
      have hlt : i < l.length := by omega
      refine Ev.to _ (fun k => ?_) (ih (i + 1) (by omega))
      simp only [laws_toIntS.l0]
      rw [if_pos (by omega), if_pos (by omega), if_pos (by simp; omega), rd_get l i hlt, w64 (by omega) (by omega)]
      have e : (l.take i ++ List.replicate (d + 1) 0).set (i : Int).toNat l[i] = l.take (i + 1) ++ List.replicate d 0 := by
        rw [List.take_succ_eq_append_getElem hlt, Int.toNat_natCast, List.set_append_right _ _ (by simp; omega)]
        have : i - (l.take i).length = 0 := by simp; omega
        rw [this, List.replicate_succ, List.set_cons_zero, List.append_assoc]
        rfl
      rw [e]
      rfl
  have := key l.length 0 (by omega)
  simpa using this
theorem eqIntS_ev (l : List Int) (hl : l.length ≤ 1048576) : Ev (fun k => laws_eqIntS.f k l l) true := by
  unfold laws_eqIntS.f
  refine Ev.itet rfl ?_
  have := runL_all (fun _ => true) l 0
  rw [show (l.all fun _ => true) = true by simp] at this
  rw [← this]
  refine ev_loop0 l (fun k i (_ : Unit) => laws_eqIntS.l0 k l l i) _ _ (fun _ _ => True) () trivial (fun i s hi _ => ⟨fun s' e => ⟨trivial, fun r hr => Ev.to _ (fun k => ?_) hr⟩, fun r e => by simp at e⟩) (fun s _ => Ev.stop fun k => ?_)
  · simp only [laws_eqIntS.l0]
    rw [if_pos (by omega), if_pos (by omega), if_pos (by omega), if_pos trivial, w64 (by omega) (by omega)]
  · simp only [laws_eqIntS.l0]
    rw [if_neg (by omega)]
/-! The nearest box of a house. -/
def nearS (h : Int) (x s : Int) : Int := if absV (wrap64 (x - h)) < absV (wrap64 (s - h)) then x else s
def nearV (bs : List Int) (h : Int) : Int := foldI (fun _ x s => nearS h x s) 0 bs (rd bs 0)
theorem nearestBox_ev (bs : List Int) (h0 : 0 < bs.length) (hl : bs.length ≤ 1048576) (h : Int) : Ev (fun k => impl_nearestBox.f k bs h) (nearV bs h) := by
  unfold impl_nearestBox.f
  refine Ev.itet (by omega) ?_
  refine ev_fold bs (fun k i s => impl_nearestBox.l0 k h s bs (bs.length : Int) i) _ (fun s => s) (fun _ _ => True) _ trivial (fun i s hi _ => ⟨trivial, fun r hr => Ev.to _ (fun k => ?_) hr⟩) (fun s _ => Ev.stop fun k => ?_)
  · simp only [impl_nearestBox.l0, nearS]
    rw [if_pos (by omega), if_pos (by omega), if_pos (by omega), absOf_f, absOf_f, Option.bind_some, Option.bind_some, rd_get bs i hi, w64 (x := (i : Int) + 1) (by omega) (by omega)]
    split <;> rfl
  · simp only [impl_nearestBox.l0]; rw [if_neg (by omega)]
theorem near_mem (h : Int) : ∀ (bs : List Int) (i : Nat) (s : Int), foldI (fun _ x s => nearS h x s) i bs s = s ∨ foldI (fun _ x s => nearS h x s) i bs s ∈ bs
  | [], _, _ => .inl rfl
  | x :: xs, i, s => by
    simp only [foldI]
    rcases near_mem h xs (i + 1) (nearS h x s) with e | e
    · rw [e]
      unfold nearS
      split
      · exact .inr (by simp)
      · exact .inl rfl
    · exact .inr (by simp [e])
theorem nearV_mem (bs : List Int) (h0 : 0 < bs.length) (h : Int) : nearV bs h ∈ bs := by
  unfold nearV
  rcases near_mem h bs 0 (rd bs 0) with e | e
  · rw [e, show (0 : Int) = ((0 : Nat) : Int) from rfl, rd_get bs 0 h0]
    exact List.getElem_mem h0
  · exact e
theorem nearV_one (a h : Int) : nearV [a] h = a := by
  simp [nearV, foldI, nearS, rd]
/-! The sum of walks to the nearest of some boxes. -/
def sumB (l bs : List Int) : Int := foldI (fun i x s => wrap64 (s + wrap64 (x * absV (wrap64 (nearV bs i - (i : Int)))))) 0 l 0
theorem boxesSum_ev (l bs : List Int) (hl : l.length ≤ 1048576) (h0 : 0 < bs.length) (hb : bs.length ≤ 1048576) : Ev (fun k => impl_boxesSum.f k l bs) (sumB l bs) := by
  refine ev_fold l (fun k i s => impl_boxesSum.l0 k bs s l (l.length : Int) i) _ (fun s => s) (fun _ _ => True) 0 trivial (fun i s hi _ => ⟨trivial, fun r hr => ?_⟩) (fun s _ => Ev.stop fun k => ?_)
  · refine Ev.to (f := fun k => (impl_nearestBox.f k bs (i : Int)).bind fun t => impl_boxesSum.l0 k bs (wrap64 (s + wrap64 (l[i] * absV (wrap64 (t - (i : Int)))))) l (l.length : Int) ((i : Int) + 1)) (fun k => ?_) (Ev.bind (nearestBox_ev bs h0 hb i) hr)
    simp only [impl_boxesSum.l0]
    rw [if_pos (by omega), if_pos (by omega), if_pos (by omega), rd_get l i hi, w64 (x := (i : Int) + 1) (by omega) (by omega)]
    simp only [absOf_f, Option.bind_some]
  · simp only [impl_boxesSum.l0]; rw [if_neg (by omega)]
/-! The sum of walks to a house. -/
def walkV (l : List Int) (a : Int) : Int := foldI (fun i x s => wrap64 (s + wrap64 (x * absV (wrap64 ((i : Int) - a))))) 0 l 0
theorem mdWalks_ev (l : List Int) (hl : l.length ≤ 1048576) (a : Int) : Ev (fun k => spec_mdWalks.f k l a) (walkV l a) := by
  refine ev_fold l (fun k i s => spec_mdWalks.l0 k a s l (l.length : Int) i) _ (fun s => s) (fun _ _ => True) 0 trivial (fun i s hi _ => ⟨trivial, fun r hr => Ev.to _ (fun k => ?_) hr⟩) (fun s _ => Ev.stop fun k => ?_)
  · simp only [spec_mdWalks.l0]
    rw [if_pos (by omega), if_pos (by omega), if_pos (by omega), l1Abs_f, Option.bind_some, rd_get l i hi, w64 (x := (i : Int) + 1) (by omega) (by omega)]
  · simp only [spec_mdWalks.l0]; rw [if_neg (by omega)]
/-! The walk to one box. -/
theorem foldI_congr {α σ : Type} (f g : Nat → α → σ → σ) (n : Nat) : ∀ (l : List α) (i : Nat) (s : σ), i + l.length ≤ n → (∀ j x s, j < n → f j x s = g j x s) → foldI f i l s = foldI g i l s
  | [], _, _, _, _ => rfl
  | x :: xs, i, s, hi, h => by
    simp only [List.length_cons] at hi
    simp only [foldI]
    rw [h i x s (by omega)]
    exact foldI_congr f g n xs (i + 1) _ (by omega) h
theorem abs_sym {a b : Int} (ha : 0 ≤ a) (ha' : a ≤ 1048576) (hb : 0 ≤ b) (hb' : b ≤ 1048576) : absV (wrap64 (a - b)) = absV (wrap64 (b - a)) := by
  rw [w64 (by omega) (by omega), w64 (by omega) (by omega), absV_eq (by omega) (by omega), absV_eq (by omega) (by omega)]
  split <;> split <;> omega
theorem sumB_one (l : List Int) (hl : l.length ≤ 1048576) (a : Int) (h0 : 0 ≤ a) (h1 : a ≤ 1048576) : sumB l [a] = walkV l a := by
  unfold sumB walkV
  refine foldI_congr _ _ l.length l 0 0 (by omega) (fun j x s hj => ?_)
  rw [nearV_one, abs_sym h0 h1 (by omega) (by omega)]
def res (l : List Int) (a : Int) : Int × Bool := if houseOk l a then (walkV l a, true) else (0, false)
theorem spec_ev (l : List Int) (hl : l.length ≤ 1048576) (a : Int) : Ev (fun k => spec_WalksTo.f k l a) (res l a) := by
  unfold spec_WalksTo.f res
  exact Ev.bind (mdHouse_ev l hl a) (Ev.ite (fun _ => Ev.mapb (fun t => (t, true)) (mdWalks_ev l hl a)) (fun _ => Ev.now _))
theorem impl_ev (l : List Int) (hl : l.length ≤ 1048576) (a : Int) : Ev (fun k => impl_WalksTo.f k l a) (res l a) := by
  unfold impl_WalksTo.f res
  refine Ev.bind (hasHouse_ev l hl a) (Ev.ite (fun h => ?_) (fun _ => Ev.now _))
  have hb := houseOk_lt h
  have hp := people_len (houseOk_people h)
  rw [← sumB_one l hl a hb.1 (by omega)]
  exact Ev.mapb (fun t => (t, true)) (boxesSum_ev l [a] hl (by simp) (by simp))
theorem main : laws_FnExactWalksTo.Pure := by
  intro l a _ _ _ _
  refine Ev.rounds ?_
  unfold laws_FnExactWalksTo.f
  by_cases h : (l.length : Int) > 1048576
  · exact Ev.itet h (Ev.now _)
  · have hl : l.length ≤ 1048576 := by omega
    refine Ev.itef h (Ev.bind (toIntS_ev l hl) (Ev.bind (spec_ev l hl a) (Ev.bind (toIntS_ev l hl) (Ev.bind (impl_ev l hl a) (Ev.itet rfl (Ev.succ ?_))))))
    simp only [laws_FnExactWalksTo.j0]
    exact Ev.itef (by simp) (Ev.bind (toIntS_ev l hl) (Ev.bind (eqIntS_ev l hl) (Ev.itet rfl (Ev.now _))))
end WalksTo
theorem FnExactWalksTo : laws_FnExactWalksTo.Pure := WalksTo.main
end Go.Proofs.Ytnnnmhbfepcibaa.Pure
