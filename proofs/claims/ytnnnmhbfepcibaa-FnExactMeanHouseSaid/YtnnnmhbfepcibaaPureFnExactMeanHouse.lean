/- The Lean functions printed of both sides say the same mean, for all arguments. No condition beyond the printed bounds. -/
import Derived.Test.YtnnnmhbfepcibaaPFnExactMeanHousex2
import Derived.Test.YtnnnmhbfepcibaaKit
namespace Go.Proofs.Ytnnnmhbfepcibaa.Pure
open Go.RowKit Go.Proofs.YtnnnmhbfepcibaaW.PrintWords Go.Proofs.YtnnnmhbfepcibaaW.PrintLast Go.Proofs.YtnnnmhbfepcibaaW.PrintMore Go.Proofs.YtnnnmhbfepcibaaKit
open Go.Proofs.Ytnnnmhbfepcibaa.PFnExactMeanHouse
namespace MeanHouse
/-! People: what both sides say of a list of people. -/
def people (l : List Int) : Bool := decide (1 ≤ (l.length : Int) ∧ (l.length : Int) ≤ 60) && (l.all (fun x => decide (0 ≤ x ∧ x ≤ 1000)) && decide (0 < l.sum))
theorem people_len {l : List Int} (h : people l = true) : 1 ≤ l.length ∧ l.length ≤ 60 := by
  simp only [people, Bool.and_eq_true, decide_eq_true_eq] at h; omega
theorem people_mem {l : List Int} (h : people l = true) : ∀ x ∈ l, 0 ≤ x ∧ x ≤ 1000 := by
  simp only [people, Bool.and_eq_true, decide_eq_true_eq, List.all_eq_true] at h
  exact h.2.1
theorem people_get {l : List Int} (h : people l = true) (i : Nat) (hi : i < l.length) : 0 ≤ l[i] ∧ l[i] ≤ 1000 := people_mem h _ (List.getElem_mem hi)
theorem people_sum {l : List Int} (h : people l = true) : 0 < l.sum := by
  simp only [people, Bool.and_eq_true, decide_eq_true_eq] at h
  exact h.2.2
theorem people_take {l : List Int} (h : people l = true) (i : Nat) : 0 ≤ (l.take i).sum ∧ (l.take i).sum ≤ 60000 := by
  have h1 := sum_bounds (l.take i) 1000 (fun x hx => people_mem h x (List.mem_of_mem_take hx))
  have h2 := people_len h
  have h3 : (l.take i).length ≤ 60 := by simp; omega
  omega

theorem ge_le (a b c : Int) : (if a ≥ b then some (decide (a ≤ c)) else some false) = some (decide (b ≤ a ∧ a ≤ c)) := by
  by_cases h : a ≥ b
  · rw [if_pos h]; simp [show b ≤ a from h]
  · rw [if_neg h]; simp; omega
theorem l1In_f (a b c : Int) : spec_l1In.f a b c = some (decide (b ≤ a ∧ a ≤ c)) := by unfold spec_l1In.f; exact ge_le a b c
theorem within_f (a b c : Int) : impl_within.f a b c = some (decide (b ≤ a ∧ a ≤ c)) := by unfold impl_within.f; exact ge_le a b c

theorem l1All_ev (l : List Int) (hl : l.length ≤ 1048576) (a b : Int) : Ev (fun k => spec_l1All.f k l a b) (l.all fun x => decide (a ≤ x ∧ x ≤ b)) := by
  rw [← runL_all _ l 0]
  refine ev_loop0 l (fun k i (_ : Unit) => spec_l1All.l0 k a b l (l.length : Int) i) _ _ (fun _ _ => True) () trivial (fun i s hi _ => ?_) (fun s _ => ?_)
  · have hw : wrap64 ((i : Int) + 1) = (i : Int) + 1 := w64 (by omega) (by omega)
    constructor
    · intro s' e
      refine ⟨trivial, fun r hr => Ev.to _ (fun k => ?_) hr⟩
      by_cases hp : a ≤ l[i] ∧ l[i] ≤ b
      · simp only [spec_l1All.l0]
        rw [if_pos (by omega), if_pos (by omega), if_pos (by omega), l1In_f, rd_get l i hi, decide_eq_true hp, hw]; rfl
      · simp [hp] at e
    · intro r e
      by_cases hp : a ≤ l[i] ∧ l[i] ≤ b
      · simp [hp] at e
      · rw [if_neg (by simpa using hp)] at e
        cases e
        refine Ev.stop fun k => ?_
        simp only [spec_l1All.l0]
        rw [if_pos (by omega), if_pos (by omega), if_pos (by omega), l1In_f, rd_get l i hi, decide_eq_false hp]; rfl
  · exact Ev.stop fun k => by simp only [spec_l1All.l0]; rw [if_neg (by omega)]
theorem allWithin_l0 (a b : Int) (l : List Int) (n : Int) : ∀ k i, impl_allWithin.l0 k a b l n i = spec_l1All.l0 k a b l n i
  | 0, _ => rfl
  | k + 1, i => by simp only [impl_allWithin.l0, spec_l1All.l0, within_f, l1In_f, allWithin_l0 a b l n k]
theorem allWithin_ev (l : List Int) (hl : l.length ≤ 1048576) (a b : Int) : Ev (fun k => impl_allWithin.f k l a b) (l.all fun x => decide (a ≤ x ∧ x ≤ b)) :=
  Ev.congr (fun k => by unfold impl_allWithin.f; exact allWithin_l0 _ _ _ _ _ _) (l1All_ev l hl a b)
theorem mdSum_ev (l : List Int) (hl : l.length ≤ 60) (hm : ∀ x ∈ l, 0 ≤ x ∧ x ≤ 1000) : Ev (fun k => spec_mdSum.f k l) l.sum := by
  have e := foldI_sum l 0 0
  rw [Int.zero_add] at e
  rw [← e]
  refine ev_fold l (fun k i s => spec_mdSum.l0 k s l (l.length : Int) i) _ (fun s => s) (fun i s => 0 ≤ s ∧ s ≤ 1000 * i) 0 (by simp) (fun i s hi hs => ?_) (fun s _ => ?_)
  · have hx := hm _ (List.getElem_mem hi)
    refine ⟨by omega, fun r hr => Ev.to _ (fun k => ?_) hr⟩
    simp only [spec_mdSum.l0]
    rw [if_pos (by omega), if_pos (by omega), if_pos (by omega), rd_get l i hi, w64 (x := (i : Int) + 1) (by omega) (by omega), w64 (by omega) (by omega)]
  · exact Ev.stop fun k => by simp only [spec_mdSum.l0]; rw [if_neg (by omega)]
theorem sumOf_l0 (l : List Int) (n : Int) : ∀ k s i, impl_sumOf.l0 k s l n i = spec_mdSum.l0 k s l n i
  | 0, _, _ => rfl
  | k + 1, s, i => by simp only [impl_sumOf.l0, spec_mdSum.l0, sumOf_l0 l n k]
theorem sumOf_ev (l : List Int) (hl : l.length ≤ 60) (hm : ∀ x ∈ l, 0 ≤ x ∧ x ≤ 1000) : Ev (fun k => impl_sumOf.f k l) l.sum :=
  Ev.congr (fun k => by unfold impl_sumOf.f; exact sumOf_l0 _ _ _ _ _) (mdSum_ev l hl hm)
theorem mdGood_ev (l : List Int) (hl : l.length ≤ 1048576) : Ev (fun k => spec_mdGood.f k l) (people l) := by
  unfold spec_mdGood.f people
  simp only [l1In_f, Option.bind_some]
  by_cases h1 : 1 ≤ (l.length : Int) ∧ (l.length : Int) ≤ 60
  · simp only [decide_eq_true h1, if_true, Bool.true_and]
    refine Ev.bind (l1All_ev l hl 0 1000) ?_
    cases h2 : l.all fun x => decide (0 ≤ x ∧ x ≤ 1000)
    · simpa using Ev.now false
    · simp only [if_true, Bool.true_and]
      refine Ev.mapb (fun t => decide (t > 0)) (mdSum_ev l (by omega) ?_)
      simpa [List.all_eq_true] using h2
  · simp only [decide_eq_false h1, Bool.false_and]
    simpa using Ev.now false
theorem ArePeople_ev (l : List Int) (hl : l.length ≤ 1048576) : Ev (fun k => impl_ArePeople.f k l) (people l) := by
  unfold impl_ArePeople.f people
  simp only [within_f, Option.bind_some]
  by_cases h1 : 1 ≤ (l.length : Int) ∧ (l.length : Int) ≤ 60
  · simp only [decide_eq_true h1, if_true, Bool.true_and]
    refine Ev.bind (allWithin_ev l hl 0 1000) ?_
    cases h2 : l.all fun x => decide (0 ≤ x ∧ x ≤ 1000)
    · simpa using Ev.now false
    · simp only [if_true, Bool.true_and]
      refine Ev.mapb (fun t => decide (t > 0)) (sumOf_ev l (by omega) ?_)
      simpa [List.all_eq_true] using h2
  · simp only [decide_eq_false h1, Bool.false_and]
    simpa using Ev.now false
theorem l1Abs_pos {x : Int} (h0 : 0 ≤ x) (h1 : x ≤ 1048576) : spec_l1Abs.f x = some x := by
  unfold spec_l1Abs.f spec_l1Most.f
  rw [w64 (by omega) (by omega)]
  by_cases h : x > -x
  · rw [if_pos h]; rfl
  · rw [if_neg h, show -x = x by omega]; rfl
/-! The laws' own copies and comparisons of lists of numbers. -/
theorem toIntS_ev (l : List Int) (hl : l.length ≤ 1048576) : Ev (fun k => laws_toIntS.f k l) l := by
  unfold laws_toIntS.f
  refine Ev.itet (by omega) (Ev.itet (by omega) ?_)
  have key : ∀ (d i : Nat), i + d = l.length → Ev (fun k => laws_toIntS.l0 k l (l.take i ++ List.replicate d 0) (i : Int)) l := by
    intro d
    induction d with
    | zero =>
      intro i hi
      refine Ev.stop fun k => ?_
      simp only [laws_toIntS.l0]
      rw [if_neg (by omega), List.take_of_length_le (by omega)]
      simp
    | succ d ih =>
      intro i hi
      have hlt : i < l.length := by omega
      refine Ev.to _ (fun k => ?_) (ih (i + 1) (by omega))
      simp only [laws_toIntS.l0]
      rw [if_pos (by omega), if_pos (by omega), if_pos (by simp; omega), rd_get l i hlt, w64 (by omega) (by omega)]
      have e : (l.take i ++ List.replicate (d + 1) 0).set (i : Int).toNat l[i] = l.take (i + 1) ++ List.replicate d 0 := by
        rw [List.take_succ_eq_append_getElem hlt, Int.toNat_natCast, List.set_append_right _ _ (by simp; omega)]
        have : i - (l.take i).length = 0 := by simp; omega
        rw [this, List.replicate_succ, List.set_cons_zero, List.append_assoc]
        rfl
      rw [e]
      rfl
  have := key l.length 0 (by omega)
  simpa using this
theorem eqIntS_ev (l : List Int) (hl : l.length ≤ 1048576) : Ev (fun k => laws_eqIntS.f k l l) true := by
  unfold laws_eqIntS.f
  refine Ev.itet rfl ?_
  have := runL_all (fun _ => true) l 0
  rw [show (l.all fun _ => true) = true by simp] at this
  rw [← this]
  refine ev_loop0 l (fun k i (_ : Unit) => laws_eqIntS.l0 k l l i) _ _ (fun _ _ => True) () trivial (fun i s hi _ => ⟨fun s' e => ⟨trivial, fun r hr => Ev.to _ (fun k => ?_) hr⟩, fun r e => by simp at e⟩) (fun s _ => Ev.stop fun k => ?_)
  · simp only [laws_eqIntS.l0]
    rw [if_pos (by omega), if_pos (by omega), if_pos (by omega), if_pos trivial, w64 (by omega) (by omega)]
  · simp only [laws_eqIntS.l0]
    rw [if_neg (by omega)]
def numV (l : List Int) : Int := foldI (fun i x s => s + (i : Int) * x) 0 l 0
theorem num_step {l : List Int} (hp : people l = true) {i : Nat} (hi : i < l.length) : 0 ≤ (i : Int) * l[i] ∧ (i : Int) * l[i] ≤ 60000 := by
  have hx := people_get hp i hi
  have hl := people_len hp
  refine ⟨Int.mul_nonneg (by omega) hx.1, ?_⟩
  have := Int.mul_le_mul (a := (i : Int)) (b := l[i]) (c := 60) (d := 1000) (by omega) hx.2 hx.1 (by omega)
  omega
theorem num_ev (l : List Int) (hl : l.length ≤ 1048576) (hp : people l = true) : Ev (fun k => spec_mdWalks.f k l 0) (numV l) := by
  have hn := people_len hp
  refine ev_fold l (fun k i s => spec_mdWalks.l0 k 0 s l (l.length : Int) i) _ (fun s => s) (fun i s => 0 ≤ s ∧ s ≤ 60000 * i) 0 (by simp) (fun i s hi hs => ?_) (fun s _ => Ev.stop fun k => ?_)
  · have hx := num_step hp hi
    refine ⟨by omega, fun r hr => Ev.to _ (fun k => ?_) hr⟩
    simp only [spec_mdWalks.l0]
    rw [if_pos (by omega), if_pos (by omega), if_pos (by omega), Int.sub_zero, w64 (x := (i : Int)) (by omega) (by omega), l1Abs_pos (by omega) (by omega), Option.bind_some, rd_get l i hi, w64 (x := (i : Int) + 1) (by omega) (by omega), Int.mul_comm l[i], w64 (x := (i : Int) * l[i]) (by omega) (by omega), w64 (by omega) (by omega)]
  · simp only [spec_mdWalks.l0]; rw [if_neg (by omega)]
theorem gcd_ev : ∀ (d : Nat) (a b : Int), b.toNat ≤ d → 0 ≤ a → a ≤ 10000000 → 0 ≤ b → b ≤ 10000000 → (0 < a ∨ 0 < b) → ∃ g, 0 < g ∧ Ev (fun k => impl_divisorOf.l0 k a b) g
  | 0, a, b, hd, h0, h1, h2, h3, h => ⟨a, by omega, Ev.stop fun k => by simp only [impl_divisorOf.l0]; rw [if_neg (by omega)]⟩
  | d + 1, a, b, hd, h0, h1, h2, h3, h => by
    by_cases hb : b > 0
    · have e : Int.tmod a b = a % b := Int.tmod_eq_emod_of_nonneg h0
      have m1 := Int.emod_nonneg a (b := b) (by omega)
      have m2 := Int.emod_lt_of_pos a hb
      obtain ⟨g, hg, hE⟩ := gcd_ev d b (a % b) (by omega) (by omega) (by omega) m1 (by omega) (by omega)
      exact ⟨g, hg, Ev.to _ (fun k => by simp only [impl_divisorOf.l0]; rw [if_pos hb, if_neg (by omega), e]) hE⟩
    · exact ⟨a, by omega, Ev.stop fun k => by simp only [impl_divisorOf.l0]; rw [if_neg hb]⟩
theorem spec_l0 (n m : Int) : ∀ k a b, spec_MeanHouse.l0 k n m a b = (impl_divisorOf.l0 k a b).bind fun g => if g = 0 then none else some (wrap64 (Int.tdiv n g), wrap64 (Int.tdiv m g), true)
  | 0, _, _ => rfl
  | k + 1, a, b => by
    simp only [spec_MeanHouse.l0, impl_divisorOf.l0]
    by_cases hb : b > 0
    · rw [if_pos hb, if_pos hb, if_neg (by omega), if_neg (by omega)]; exact spec_l0 n m k _ _
    · rw [if_neg hb, if_neg hb]; rfl
theorem impl_l0 (l : List Int) (hl : l.length ≤ 1048576) (hp : people l = true) (m : Int) (r : Int × Int × Bool) (h : Ev (fun k => (impl_divisorOf.f k (numV l) m).bind fun g => if g = 0 then none else some (wrap64 (Int.tdiv (numV l) g), wrap64 (Int.tdiv m g), true)) r) :
    Ev (fun k => impl_MeanHouse.l0 k 0 m l (l.length : Int) 0) r := by
  have hn := people_len hp
  refine ev_fold l (fun k i s => impl_MeanHouse.l0 k s m l (l.length : Int) i) (fun i x s => s + (i : Int) * x) (fun s => if s = numV l then r else r) (fun i s => 0 ≤ s ∧ s ≤ 60000 * i ∧ foldI (fun i x s => s + (i : Int) * x) i (l.drop i) s = numV l) 0 (by simp [numV]) (fun i s hi hs => ?_) (fun s hs => ?_) |> fun h => by simpa using h
  · have hx := num_step hp hi
    obtain ⟨h1, h2, h3⟩ := hs
    rw [List.drop_eq_getElem_cons hi] at h3
    refine ⟨⟨by omega, by omega, h3⟩, fun r hr => Ev.to _ (fun k => ?_) hr⟩
    simp only [impl_MeanHouse.l0]
    rw [if_pos (by omega), if_pos (by omega), if_pos (by omega), rd_get l i hi, w64 (x := (i : Int) + 1) (by omega) (by omega), w64 (x := (i : Int) * l[i]) (by omega) (by omega), w64 (by omega) (by omega)]
  · obtain ⟨h1, h2, h3⟩ := hs
    rw [List.drop_length] at h3
    simp only [foldI] at h3
    subst h3
    simp only [if_true]
    exact Ev.to _ (fun k => by simp only [impl_MeanHouse.l0]; rw [if_neg (by omega)]) h
theorem both (l : List Int) (hl : l.length ≤ 1048576) : ∃ r, Ev (fun k => spec_MeanHouse.f k l) r ∧ Ev (fun k => impl_MeanHouse.f k l) r := by
  unfold spec_MeanHouse.f impl_MeanHouse.f
  cases hp : people l
  · refine ⟨(0, 0, false), Ev.bind (mdGood_ev l hl) ?_, Ev.bind (ArePeople_ev l hl) ?_⟩
    · rw [hp]; exact Ev.itef (by simp) (Ev.now _)
    · rw [hp]; exact Ev.itef (by simp) (Ev.now _)
  · have hn := people_len hp
    have hs := people_sum hp
    have hs' := people_take hp l.length
    rw [List.take_length] at hs'
    have hv : 0 ≤ numV l ∧ numV l ≤ 3600000 := by
      have key : ∀ (d i : Nat) (s : Int), i + d = l.length → 0 ≤ s → s ≤ 60000 * i → 0 ≤ foldI (fun i x s => s + (i : Int) * x) i (l.drop i) s ∧ foldI (fun i x s => s + (i : Int) * x) i (l.drop i) s ≤ 60000 * l.length := by
        intro d
        induction d with
        | zero =>
          intro i s hi h0 h1
          rw [List.drop_of_length_le (by omega)]
          simp only [foldI]
          omega
        | succ d ih =>
          intro i s hi h0 h1
          have hlt : i < l.length := by omega
          have hx := num_step hp hlt
          rw [List.drop_eq_getElem_cons hlt]
          simp only [foldI]
          exact ih (i + 1) _ (by omega) (by omega) (by omega)
      have := key l.length 0 0 (by omega) (by omega) (by omega)
      simp only [List.drop_zero] at this
      unfold numV
      omega
    obtain ⟨g, hg, hE⟩ := gcd_ev l.sum.toNat (numV l) l.sum (by omega) hv.1 (by omega) (by omega) (by omega) (by omega)
    have hfin : Ev (fun k => (impl_divisorOf.f k (numV l) l.sum).bind fun g => if g = 0 then none else some (wrap64 (Int.tdiv (numV l) g), wrap64 (Int.tdiv l.sum g), true)) (wrap64 (Int.tdiv (numV l) g), wrap64 (Int.tdiv l.sum g), true) := by
      unfold impl_divisorOf.f
      exact Ev.bind hE (Ev.itef (by omega) (Ev.now _))
    refine ⟨(wrap64 (Int.tdiv (numV l) g), wrap64 (Int.tdiv l.sum g), true), Ev.bind (mdGood_ev l hl) ?_, Ev.bind (ArePeople_ev l hl) ?_⟩
    · rw [hp]
      refine Ev.itet rfl (Ev.bind (num_ev l hl hp) (Ev.bind (mdSum_ev l hn.2 (people_mem hp)) ?_))
      exact Ev.congr (fun k => spec_l0 _ _ k _ _) hfin
    · rw [hp]
      exact Ev.itet rfl (Ev.bind (sumOf_ev l hn.2 (people_mem hp)) (impl_l0 l hl hp _ _ hfin))
theorem main : laws_FnExactMeanHouse.Pure := by
  intro l _ _ _
  refine Ev.rounds ?_
  unfold laws_FnExactMeanHouse.f
  by_cases h : (l.length : Int) > 1048576
  · exact Ev.itet h (Ev.now _)
  · have hl : l.length ≤ 1048576 := by omega
    obtain ⟨r, h1, h2⟩ := both l hl
    refine Ev.itef h (Ev.bind (toIntS_ev l hl) (Ev.bind h1 (Ev.bind (toIntS_ev l hl) (Ev.bind h2 (Ev.itet rfl (Ev.itet rfl (Ev.succ ?_)))))))
    simp only [laws_FnExactMeanHouse.j0]
    exact Ev.itef (by simp) (Ev.bind (toIntS_ev l hl) (Ev.bind (eqIntS_ev l hl) (Ev.itet rfl (Ev.now _))))
end MeanHouse
theorem FnExactMeanHouse : laws_FnExactMeanHouse.Pure := MeanHouse.main
end Go.Proofs.Ytnnnmhbfepcibaa.Pure
