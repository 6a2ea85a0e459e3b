/- The Lean functions printed of both sides say the same people from the last house on, in memory of their own, for all arguments. No condition beyond the printed bounds. -/
import Derived.Test.YtnnnmhbfepcibaaPFnExactMirrorPeoplex3
import Derived.Test.YtnnnmhbfepcibaaKit
namespace Go.Proofs.Ytnnnmhbfepcibaa.Pure
open Go.RowKit Go.Proofs.YtnnnmhbfepcibaaW.PrintWords Go.Proofs.YtnnnmhbfepcibaaW.PrintLast Go.Proofs.YtnnnmhbfepcibaaW.PrintMore Go.Proofs.YtnnnmhbfepcibaaKit
open Go.Proofs.Ytnnnmhbfepcibaa.PFnExactMirrorPeople
namespace MirrorPeople
/-! People: what both sides say of a list of people. -/
def people (l : List Int) : Bool := decide (1 ≤ (l.length : Int) ∧ (l.length : Int) ≤ 60) && (l.all (fun x => decide (0 ≤ x ∧ x ≤ 1000)) && decide (0 < l.sum))
theorem people_len {l : List Int} (h : people l = true) : 1 ≤ l.length ∧ l.length ≤ 60 := by
  simp only [people, Bool.and_eq_true, decide_eq_true_eq] at h; omega
theorem people_mem {l : List Int} (h : people l = true) : ∀ x ∈ l, 0 ≤ x ∧ x ≤ 1000 := by
  simp only [people, Bool.and_eq_true, decide_eq_true_eq, List.all_eq_true] at h
  exact h.2.1
theorem people_get {l : List Int} (h : people l = true) (i : Nat) (hi : i < l.length) : 0 ≤ l[i] ∧ l[i] ≤ 1000 := people_mem h _ (List.getElem_mem hi)
theorem people_sum {l : List Int} (h : people l = true) : 0 < l.sum := by
  simp only [people, Bool.and_eq_true, decide_eq_true_eq] at h
  exact h.2.2
theorem people_take {l : List Int} (h : people l = true) (i : Nat) : 0 ≤ (l.take i).sum ∧ (l.take i).sum ≤ 60000 := by
  have h1 := sum_bounds (l.take i) 1000 (fun x hx => people_mem h x (List.mem_of_mem_take hx))
  have h2 := people_len h
  have h3 : (l.take i).length ≤ 60 := by simp; omega
  omega

theorem ge_le (a b c : Int) : (if a ≥ b then some (decide (a ≤ c)) else some false) = some (decide (b ≤ a ∧ a ≤ c)) := by
  by_cases h : a ≥ b
  · rw [if_pos h]; simp [show b ≤ a from h]
  · rw [if_neg h]; simp; omega
theorem l1In_f (a b c : Int) : spec_l1In.f a b c = some (decide (b ≤ a ∧ a ≤ c)) := by unfold spec_l1In.f; exact ge_le a b c
theorem within_f (a b c : Int) : impl_within.f a b c = some (decide (b ≤ a ∧ a ≤ c)) := by unfold impl_within.f; exact ge_le a b c

theorem l1All_ev (l : List Int) (hl : l.length ≤ 1048576) (a b : Int) : Ev (fun k => spec_l1All.f k l a b) (l.all fun x => decide (a ≤ x ∧ x ≤ b)) := by
  rw [← runL_all _ l 0]
  refine ev_loop0 l (fun k i (_ : Unit) => spec_l1All.l0 k a b l (l.length : Int) i) _ _ (fun _ _ => True) () trivial (fun i s hi _ => ?_) (fun s _ => ?_)
  · have hw : wrap64 ((i : Int) + 1) = (i : Int) + 1 := w64 (by omega) (by omega)
    constructor
    · intro s' e
      refine ⟨trivial, fun r hr => Ev.to _ (fun k => ?_) hr⟩
      by_cases hp : a ≤ l[i] ∧ l[i] ≤ b
      · simp only [spec_l1All.l0]
        rw [if_pos (by omega), if_pos (by omega), if_pos (by omega), l1In_f, rd_get l i hi, decide_eq_true hp, hw]; rfl
      · simp [hp] at e
    · intro r e
      by_cases hp : a ≤ l[i] ∧ l[i] ≤ b
      · simp [hp] at e
      · rw [if_neg (by simpa using hp)] at e
        cases e
        refine Ev.stop fun k => ?_
        simp only [spec_l1All.l0]
        rw [if_pos (by omega), if_pos (by omega), if_pos (by omega), l1In_f, rd_get l i hi, decide_eq_false hp]; rfl
  · exact Ev.stop fun k => by simp only [spec_l1All.l0]; rw [if_neg (by omega)]
theorem allWithin_l0 (a b : Int) (l : List Int) (n : Int) : ∀ k i, impl_allWithin.l0 k a b l n i = spec_l1All.l0 k a b l n i
  | 0, _ => rfl
  | k + 1, i => by simp only [impl_allWithin.l0, spec_l1All.l0, within_f, l1In_f, allWithin_l0 a b l n k]
theorem allWithin_ev (l : List Int) (hl : l.length ≤ 1048576) (a b : Int) : Ev (fun k => impl_allWithin.f k l a b) (l.all fun x => decide (a ≤ x ∧ x ≤ b)) :=
  Ev.congr (fun k => by unfold impl_allWithin.f; exact allWithin_l0 _ _ _ _ _ _) (l1All_ev l hl a b)
theorem mdSum_ev (l : List Int) (hl : l.length ≤ 60) (hm : ∀ x ∈ l, 0 ≤ x ∧ x ≤ 1000) : Ev (fun k => spec_mdSum.f k l) l.sum := by
  have e := foldI_sum l 0 0
  rw [Int.zero_add] at e
  rw [← e]
  refine ev_fold l (fun k i s => spec_mdSum.l0 k s l (l.length : Int) i) _ (fun s => s) (fun i s => 0 ≤ s ∧ s ≤ 1000 * i) 0 (by simp) (fun i s hi hs => ?_) (fun s _ => ?_)
  · have hx := hm _ (List.getElem_mem hi)
    refine ⟨by omega, fun r hr => Ev.to _ (fun k => ?_) hr⟩
    simp only [spec_mdSum.l0]
    rw [if_pos (by omega), if_pos (by omega), if_pos (by omega), rd_get l i hi, w64 (x := (i : Int) + 1) (by omega) (by omega), w64 (by omega) (by omega)]
  · exact Ev.stop fun k => by simp only [spec_mdSum.l0]; rw [if_neg (by omega)]
theorem sumOf_l0 (l : List Int) (n : Int) : ∀ k s i, impl_sumOf.l0 k s l n i = spec_mdSum.l0 k s l n i
  | 0, _, _ => rfl
  | k + 1, s, i => by simp only [impl_sumOf.l0, spec_mdSum.l0, sumOf_l0 l n k]
theorem sumOf_ev (l : List Int) (hl : l.length ≤ 60) (hm : ∀ x ∈ l, 0 ≤ x ∧ x ≤ 1000) : Ev (fun k => impl_sumOf.f k l) l.sum :=
  Ev.congr (fun k => by unfold impl_sumOf.f; exact sumOf_l0 _ _ _ _ _) (mdSum_ev l hl hm)
theorem mdGood_ev (l : List Int) (hl : l.length ≤ 1048576) : Ev (fun k => spec_mdGood.f k l) (people l) := by
  unfold spec_mdGood.f people
  simp only [l1In_f, Option.bind_some]
  by_cases h1 : 1 ≤ (l.length : Int) ∧ (l.length : Int) ≤ 60
  · simp only [decide_eq_true h1, if_true, Bool.true_and]
    refine Ev.bind (l1All_ev l hl 0 1000) ?_
    cases h2 : l.all fun x => decide (0 ≤ x ∧ x ≤ 1000)
    · simpa using Ev.now false
    · simp only [if_true, Bool.true_and]
      refine Ev.mapb (fun t => decide (t > 0)) (mdSum_ev l (by omega) ?_)
      simpa [List.all_eq_true] using h2
  · simp only [decide_eq_false h1, Bool.false_and]
    simpa using Ev.now false
theorem ArePeople_ev (l : List Int) (hl : l.length ≤ 1048576) : Ev (fun k => impl_ArePeople.f k l) (people l) := by
  unfold impl_ArePeople.f people
  simp only [within_f, Option.bind_some]
  by_cases h1 : 1 ≤ (l.length : Int) ∧ (l.length : Int) ≤ 60
  · simp only [decide_eq_true h1, if_true, Bool.true_and]
    refine Ev.bind (allWithin_ev l hl 0 1000) ?_
    cases h2 : l.all fun x => decide (0 ≤ x ∧ x ≤ 1000)
    · simpa using Ev.now false
    · simp only [if_true, Bool.true_and]
      refine Ev.mapb (fun t => decide (t > 0)) (sumOf_ev l (by omega) ?_)
      simpa [List.all_eq_true] using h2
  · simp only [decide_eq_false h1, Bool.false_and]
    simpa using Ev.now false
/-! The laws' own copies and comparisons of lists of numbers. -/
theorem toIntS_ev (l : List Int) (hl : l.length ≤ 1048576) : Ev (fun k => laws_toIntS.f k l) l := by
  unfold laws_toIntS.f
  refine Ev.itet (by omega) (Ev.itet (by omega) ?_)
  have key : ∀ (d i : Nat), i + d = l.length → Ev (fun k => laws_toIntS.l0 k l (l.take i ++ List.replicate d 0) (i : Int)) l := by
    intro d
    induction d with
    | zero =>
      intro i hi
      refine Ev.stop fun k => ?_
      simp only [laws_toIntS.l0]
      rw [if_neg (by omega), List.take_of_length_le (by omega)]
      simp
    | succ d ih =>
      intro i hi
      have hlt : i < l.length := by omega
      refine Ev.to _ (fun k => ?_) (ih (i + 1) (by omega))
      simp only [laws_toIntS.l0]
      rw [if_pos (by omega), if_pos (by omega), if_pos (by simp; omega), rd_get l i hlt, w64 (by omega) (by omega)]
      have e : (l.take i ++ List.replicate (d + 1) 0).set (i : Int).toNat l[i] = l.take (i + 1) ++ List.replicate d 0 := by
        rw [List.take_succ_eq_append_getElem hlt, Int.toNat_natCast, List.set_append_right _ _ (by simp; omega)]
        have : i - (l.take i).length = 0 := by simp; omega
        rw [this, List.replicate_succ, List.set_cons_zero, List.append_assoc]
        rfl
      rw [e]
      rfl
  have := key l.length 0 (by omega)
  simpa using this
theorem eqIntS_ev (l : List Int) (hl : l.length ≤ 1048576) : Ev (fun k => laws_eqIntS.f k l l) true := by
  unfold laws_eqIntS.f
  refine Ev.itet rfl ?_
  have := runL_all (fun _ => true) l 0
  rw [show (l.all fun _ => true) = true by simp] at this
  rw [← this]
  refine ev_loop0 l (fun k i (_ : Unit) => laws_eqIntS.l0 k l l i) _ _ (fun _ _ => True) () trivial (fun i s hi _ => ⟨fun s' e => ⟨trivial, fun r hr => Ev.to _ (fun k => ?_) hr⟩, fun r e => by simp at e⟩) (fun s _ => Ev.stop fun k => ?_)
  · simp only [laws_eqIntS.l0]
    rw [if_pos (by omega), if_pos (by omega), if_pos (by omega), if_pos trivial, w64 (by omega) (by omega)]
  · simp only [laws_eqIntS.l0]
    rw [if_neg (by omega)]
/-! The laws' marks in memory. -/
def upto (k : Int) : Nat → List Int
  | 0 => []
  | n + 1 => k :: upto (k + 1) n
theorem upto_length (k : Int) (n : Nat) : (upto k n).length = n := by
  induction n generalizing k with
  | zero => rfl
  | succ n ih => simp [upto, ih]
theorem upto_get (k : Int) (n i : Nat) (h : i < (upto k n).length) : (upto k n)[i] = k + i := by
  induction n generalizing k i with
  | zero => simp [upto] at h
  | succ n ih =>
    cases i with
    | zero => simp [upto]
    | succ i =>
      simp only [upto, List.getElem_cons_succ]
      rw [ih (k + 1) i (by simpa [upto] using h)]
      omega
theorem upto_snoc (k : Int) (n : Nat) : upto k (n + 1) = upto k n ++ [k + n] := by
  induction n generalizing k with
  | zero => simp [upto]
  | succ n ih =>
    rw [upto, ih (k + 1)]
    simp only [upto, List.cons_append, List.cons.injEq, true_and]
    congr 2
    omega
theorem markIntS_ev (l : List Int) (hl : l.length ≤ 1048576) (k0 : Int) (h0 : 0 ≤ k0) (h1 : k0 ≤ 1048577) : Ev (fun k => laws_markIntS.f k l k0) (k0 + l.length, upto k0 l.length) := by
  unfold laws_markIntS.f
  have key : ∀ (d i : Nat), i + d = l.length → Ev (fun k => laws_markIntS.l0 k (upto k0 i ++ l.drop i) (k0 + i) (i : Int)) (k0 + l.length, upto k0 l.length) := by
    intro d
    induction d with
    | zero =>
      intro i hi
      obtain rfl : i = l.length := by omega
      refine Ev.stop fun k => ?_
      simp only [laws_markIntS.l0]
      rw [if_neg (by simp [upto_length])]
      simp
    | succ d ih =>
      intro i hi
      have hlt : i < l.length := by omega
      refine Ev.to _ (fun k => ?_) (ih (i + 1) (by omega))
      simp only [laws_markIntS.l0]
      have hlen : ((upto k0 i ++ l.drop i).length : Int) = l.length := by simp [upto_length]; omega
      rw [hlen, if_pos (by omega), if_pos (by omega), w64 (x := k0 + i + 1) (by omega) (by omega), w64 (x := (i : Int) + 1) (by omega) (by omega)]
      have e : (upto k0 i ++ l.drop i).set (i : Int).toNat (k0 + i) = upto k0 (i + 1) ++ l.drop (i + 1) := by
        rw [Int.toNat_natCast, List.set_append_right _ _ (by simp [upto_length]), upto_length, Nat.sub_self, List.drop_eq_getElem_cons hlt, List.set_cons_zero, upto_snoc, List.append_assoc]
        rfl
      rw [e, show k0 + (i : Int) + 1 = k0 + ((i + 1 : Nat) : Int) by omega, show (i : Int) + 1 = ((i + 1 : Nat) : Int) by omega]
  have := key l.length 0 (by omega)
  simpa [upto] using this
theorem heldIntS_ev (n : Nat) (hn : n ≤ 1048576) (k0 : Int) (h0 : 0 ≤ k0) (h1 : k0 ≤ 1048577) : Ev (fun k => laws_heldIntS.f k (upto k0 n) k0) (k0 + n) := by
  unfold laws_heldIntS.f
  have key : ∀ (d i : Nat), i + d = n → Ev (fun k => laws_heldIntS.l0 k (upto k0 n) (k0 + i) (i : Int)) (k0 + n) := by
    intro d
    induction d with
    | zero =>
      intro i hi
      obtain rfl : i = n := by omega
      refine Ev.stop fun k => ?_
      simp only [laws_heldIntS.l0]
      rw [if_neg (by simp [upto_length])]
    | succ d ih =>
      intro i hi
      refine Ev.to _ (fun k => ?_) (ih (i + 1) (by omega))
      simp only [laws_heldIntS.l0]
      have hlen : ((upto k0 n).length : Int) = n := by simp [upto_length]
      have hi' : i < (upto k0 n).length := by rw [upto_length]; omega
      rw [hlen, if_pos (by omega), if_pos (by omega), rd_get _ i hi', upto_get k0 n i hi', if_pos rfl, w64 (x := k0 + i + 1) (by omega) (by omega), w64 (x := (i : Int) + 1) (by omega) (by omega)]
      rw [show k0 + (i : Int) + 1 = k0 + ((i + 1 : Nat) : Int) by omega, show (i : Int) + 1 = ((i + 1 : Nat) : Int) by omega]
  have := key n 0 (by omega)
  simpa using this
theorem spec_rev (l : List Int) (hl : l.length ≤ 1048576) : Ev (fun k => spec_MirrorPeople.l0 k l [] ((l.length : Int) - 1)) (l.reverse, true) := by
  have key : ∀ (i : Nat), i ≤ l.length → Ev (fun k => spec_MirrorPeople.l0 k l (l.drop i).reverse ((i : Int) - 1)) (l.reverse, true) := by
    intro i
    induction i with
    | zero => exact fun _ => Ev.stop fun k => by simp only [spec_MirrorPeople.l0]; rw [if_neg (by omega)]; simp
    | succ i ih =>
      intro hi
      have := ih (by omega)
      rw [List.drop_eq_getElem_cons (by omega), List.reverse_cons] at this
      refine Ev.to _ (fun k => ?_) this
      simp only [spec_MirrorPeople.l0]
      have e : ((i + 1 : Nat) : Int) - 1 = (i : Int) := by omega
      rw [e, if_pos (by omega), if_pos (by omega), if_pos (by omega), if_pos (by simp; omega), rd_get l i (by omega), w64 (by omega) (by omega)]
  have := key l.length (Nat.le_refl _)
  simpa using this
theorem impl_rev (l : List Int) (hl : l.length ≤ 1048576) (hl0 : 0 < l.length) : Ev (fun k => slices_Reverse_int_int.f k l) l.reverse := by
  have key : ∀ (d i : Nat) (x : List Int), l.length - 2 * i ≤ 2 * d + 1 → 2 * i ≤ l.length + 1 → x.length = l.length → (∀ p, p < l.length → x.getD p 0 = if p < i ∨ l.length ≤ p + i then l.getD (l.length - 1 - p) 0 else l.getD p 0) →
      Ev (fun k => slices_Reverse_int_int.l0 k x (i : Int) ((l.length : Int) - 1 - (i : Int))) l.reverse := by
    intro d
    induction d with
    | zero =>
      intro i x hd hi hx hp
      refine Ev.stop fun k => ?_
      simp only [slices_Reverse_int_int.l0]
      rw [if_neg (by omega)]
      congr 1
      apply List.ext_getElem
      · simp [hx]
      · intro p h1 h2
        have := hp p (by omega)
        rw [List.getElem_reverse]
        have hq : p < l.length := by omega
        simp only [List.getD_eq_getElem?_getD, List.getElem?_eq_getElem h1, Option.getD_some] at this
        rw [this]
        split
        · simp [show l.length - 1 - p < l.length by omega]
        · have : l.length - 1 - p = p := by omega
          simp [hq, this]
    | succ d ih =>
      intro i x hd hi hx hp
      by_cases hc : 2 * i + 1 < l.length
      · have hj : ((l.length : Int) - 1 - (i : Int)) = ((l.length - 1 - i : Nat) : Int) := by omega
        have h1 : i < x.length := by omega
        have h2 : l.length - 1 - i < x.length := by omega
        refine Ev.to _ (fun k => ?_) (ih (i + 1) ((x.set i (x[l.length - 1 - i])).set (l.length - 1 - i) x[i]) (by omega) (by omega) (by simp [hx]) (fun p hp' => ?_))
        · simp only [slices_Reverse_int_int.l0]
          rw [hj, if_pos (by omega), if_pos (by omega), if_pos (by omega), if_pos (by omega), if_pos (by omega), rd_get x i h1, rd_get x _ h2, w64 (x := (i : Int) + 1) (by omega) (by omega), w64 (by omega) (by omega)]
          rw [show ((l.length - 1 - i : Nat) : Int) - 1 = (l.length : Int) - 1 - ((i + 1 : Nat) : Int) by omega, show (i : Int) + 1 = ((i + 1 : Nat) : Int) by omega]
          simp only [Int.toNat_natCast]
        · have a1 := hp i (by omega)
          have a2 := hp (l.length - 1 - i) (by omega)
          rw [if_neg (by omega)] at a1 a2
          have b1 : x[i] = l.getD i 0 := by rw [← a1]; simp [h1]
          have b2 : x[l.length - 1 - i] = l.getD (l.length - 1 - i) 0 := by rw [← a2]; simp [h2]
          have a := hp p hp'
          rw [b1, b2]
          simp only [List.getD_eq_getElem?_getD, List.getElem?_set] at a ⊢
          by_cases e1 : l.length - 1 - i = p
          · subst e1
            rw [if_pos rfl, if_pos (by simp; omega), if_pos (by omega)]
            simp only [Option.getD_some]
            congr 2
            omega
          · rw [if_neg e1]
            by_cases e2 : i = p
            · subst e2
              rw [if_pos rfl, if_pos (by omega), if_pos (by omega)]
              simp only [Option.getD_some]
            · rw [if_neg e2, a]
              by_cases h3 : p < i ∨ l.length ≤ p + i
              · rw [if_pos h3, if_pos (by omega)]
              · rw [if_neg h3, if_neg (by omega)]
      · exact ih i x (by omega) hi hx hp
  unfold slices_Reverse_int_int.f
  rw [w64 (by omega) (by omega)]
  have := key l.length 0 l (by omega) (by omega) rfl (fun p hp => by rw [if_neg (by omega)])
  simpa using this
def res (l : List Int) : List Int × Bool := if people l then (l.reverse, true) else ([], false)
theorem res_len (l : List Int) (hl : l.length ≤ 1048576) : (res l).1.length ≤ 1048576 := by
  unfold res
  split
  · simpa using hl
  · simp
theorem spec_ev (l : List Int) (hl : l.length ≤ 1048576) : Ev (fun k => spec_MirrorPeople.f k l) (res l) := by
  unfold spec_MirrorPeople.f res
  refine Ev.bind (mdGood_ev l hl) (Ev.ite (fun h => ?_) (fun _ => Ev.now _))
  have hn := people_len h
  rw [w64 (by omega) (by omega)]
  exact spec_rev l hl
theorem impl_ev (l : List Int) (hl : l.length ≤ 1048576) : Ev (fun k => impl_MirrorPeople.f k l) (res l) := by
  unfold impl_MirrorPeople.f res
  refine Ev.bind (ArePeople_ev l hl) (Ev.ite (fun h => ?_) (fun _ => Ev.now _))
  have hn := people_len h
  unfold slices_Clone_int_int.f
  rw [if_pos (by omega)]
  simp only [Option.bind_some]
  exact Ev.mapb (fun t => (t, true)) (impl_rev l hl (by omega))
theorem main : laws_FnExactMirrorPeople.Pure := by
  intro l _ _ _
  refine Ev.rounds ?_
  unfold laws_FnExactMirrorPeople.f
  by_cases h : (l.length : Int) > 1048576
  · exact Ev.itet h (Ev.now _)
  · have hl : l.length ≤ 1048576 := by omega
    have hr := res_len l hl
    refine Ev.itef h (Ev.bind (toIntS_ev l hl) (Ev.bind (spec_ev l hl) (Ev.bind (toIntS_ev l hl) (Ev.bind (impl_ev l hl) (Ev.bind (eqIntS_ev _ hr) (Ev.itet rfl (Ev.succ ?_)))))))
    simp only [laws_FnExactMirrorPeople.j0]
    refine Ev.itef (by simp) (Ev.bind (toIntS_ev l hl) (Ev.bind (eqIntS_ev l hl) (Ev.itet rfl (Ev.bind (markIntS_ev l hl 1 (by omega) (by omega)) (Ev.itef (by simp; omega) (Ev.bind (eqIntS_ev _ hr) (Ev.itet rfl (Ev.succ ?_))))))))
    simp only [laws_FnExactMirrorPeople.j1]
    refine Ev.itef (by simp) (Ev.bind (markIntS_ev _ hr 1 (by omega) (by omega)) (Ev.bind (heldIntS_ev _ hr 1 (by omega) (by omega)) (Ev.itef (by simp; omega) (Ev.itet rfl (Ev.bind (toIntS_ev l hl) (Ev.bind (impl_ev l hl) (Ev.bind (eqIntS_ev _ hr) (Ev.itet rfl (Ev.succ ?_)))))))))
    simp only [laws_FnExactMirrorPeople.j2]
    exact Ev.itef (by simp) (Ev.bind (heldIntS_ev _ hr 1 (by omega) (by omega)) (Ev.itef (by simp; omega) (Ev.itet rfl (Ev.now _))))
end MirrorPeople
theorem FnExactMirrorPeople : laws_FnExactMirrorPeople.Pure := MirrorPeople.main
end Go.Proofs.Ytnnnmhbfepcibaa.Pure
