/- The Lean functions printed of both sides say the same people when some have moved, in memory of their own, for all arguments. No condition beyond the printed bounds. -/
import Derived.Test.YtnnnmhbfepcibaaPFnExactMovedPeoplex3
import Derived.Test.YtnnnmhbfepcibaaKit
namespace Go.Proofs.Ytnnnmhbfepcibaa.Pure
open Go.RowKit Go.Proofs.YtnnnmhbfepcibaaW.PrintWords Go.Proofs.YtnnnmhbfepcibaaW.PrintLast Go.Proofs.YtnnnmhbfepcibaaW.PrintMore Go.Proofs.YtnnnmhbfepcibaaKit
open Go.Proofs.Ytnnnmhbfepcibaa.PFnExactMovedPeople
namespace MovedPeople
/-! People: what both sides say of a list of people. -/
def people (l : List Int) : Bool := decide (1 ≤ (l.length : Int) ∧ (l.length : Int) ≤ 60) && (l.all (fun x => decide (0 ≤ x ∧ x ≤ 1000)) && decide (0 < l.sum))
theorem people_len {l : List Int} (h : people l = true) : 1 ≤ l.length ∧ l.length ≤ 60 := by
  simp only [people, Bool.and_eq_true, decide_eq_true_eq] at h; omega
theorem people_mem {l : List Int} (h : people l = true) : ∀ x ∈ l, 0 ≤ x ∧ x ≤ 1000 := by
  simp only [people, Bool.and_eq_true, decide_eq_true_eq, List.all_eq_true] at h
  exact h.2.1
theorem people_get {l : List Int} (h : people l = true) (i : Nat) (hi : i < l.length) : 0 ≤ l[i] ∧ l[i] ≤ 1000 := people_mem h _ (List.getElem_mem hi)
theorem people_sum {l : List Int} (h : people l = true) : 0 < l.sum := by
  simp only [people, Bool.and_eq_true, decide_eq_true_eq] at h
  exact h.2.2
theorem people_take {l : List Int} (h : people l = true) (i : Nat) : 0 ≤ (l.take i).sum ∧ (l.take i).sum ≤ 60000 := by
  have h1 := sum_bounds (l.take i) 1000 (fun x hx => people_mem h x (List.mem_of_mem_take hx))
  have h2 := people_len h
  have h3 : (l.take i).length ≤ 60 := by simp; omega
  omega

theorem ge_le (a b c : Int) : (if a ≥ b then some (decide (a ≤ c)) else some false) = some (decide (b ≤ a ∧ a ≤ c)) := by
  by_cases h : a ≥ b
  · rw [if_pos h]; simp [show b ≤ a from h]
  · rw [if_neg h]; simp; omega
theorem l1In_f (a b c : Int) : spec_l1In.f a b c = some (decide (b ≤ a ∧ a ≤ c)) := by unfold spec_l1In.f; exact ge_le a b c
theorem within_f (a b c : Int) : impl_within.f a b c = some (decide (b ≤ a ∧ a ≤ c)) := by unfold impl_within.f; exact ge_le a b c

theorem l1All_ev (l : List Int) (hl : l.length ≤ 1048576) (a b : Int) : Ev (fun k => spec_l1All.f k l a b) (l.all fun x => decide (a ≤ x ∧ x ≤ b)) := by
  rw [← runL_all _ l 0]
  refine ev_loop0 l (fun k i (_ : Unit) => spec_l1All.l0 k a b l (l.length : Int) i) _ _ (fun _ _ => True) () trivial (fun i s hi _ => ?_) (fun s _ => ?_)
  · have hw : wrap64 ((i : Int) + 1) = (i : Int) + 1 := w64 (by omega) (by omega)
    constructor
    · intro s' e
      refine ⟨trivial, fun r hr => Ev.to _ (fun k => ?_) hr⟩
      by_cases hp : a ≤ l[i] ∧ l[i] ≤ b
      · simp only [spec_l1All.l0]
        rw [if_pos (by omega), if_pos (by omega), if_pos (by omega), l1In_f, rd_get l i hi, decide_eq_true hp, hw]; rfl
      · simp [hp] at e
    · intro r e
      by_cases hp : a ≤ l[i] ∧ l[i] ≤ b
      · simp [hp] at e
      · rw [if_neg (by simpa using hp)] at e
        cases e
        refine Ev.stop fun k => ?_
        simp only [spec_l1All.l0]
        rw [if_pos (by omega), if_pos (by omega), if_pos (by omega), l1In_f, rd_get l i hi, decide_eq_false hp]; rfl
  · exact Ev.stop fun k => by simp only [spec_l1All.l0]; rw [if_neg (by omega)]
theorem allWithin_l0 (a b : Int) (l : List Int) (n : Int) : ∀ k i, impl_allWithin.l0 k a b l n i = spec_l1All.l0 k a b l n i
  | 0, _ => rfl
  | k + 1, i => by simp only [impl_allWithin.l0, spec_l1All.l0, within_f, l1In_f, allWithin_l0 a b l n k]
theorem allWithin_ev (l : List Int) (hl : l.length ≤ 1048576) (a b : Int) : Ev (fun k => impl_allWithin.f k l a b) (l.all fun x => decide (a ≤ x ∧ x ≤ b)) :=
  Ev.congr (fun k => by unfold impl_allWithin.f; exact allWithin_l0 _ _ _ _ _ _) (l1All_ev l hl a b)
theorem mdSum_ev (l : List Int) (hl : l.length ≤ 60) (hm : ∀ x ∈ l, 0 ≤ x ∧ x ≤ 1000) : Ev (fun k => spec_mdSum.f k l) l.sum := by
  have e := foldI_sum l 0 0
  rw [Int.zero_add] at e
  rw [← e]
  refine ev_fold l (fun k i s => spec_mdSum.l0 k s l (l.length : Int) i) _ (fun s => s) (fun i s => 0 ≤ s ∧ s ≤ 1000 * i) 0 (by simp) (fun i s hi hs => ?_) (fun s _ => ?_)
  · have hx := hm _ (List.getElem_mem hi)
    refine ⟨by omega, fun r hr => Ev.to _ (fun k => ?_) hr⟩
    simp only [spec_mdSum.l0]
    rw [if_pos (by omega), if_pos (by omega), if_pos (by omega), rd_get l i hi, w64 (x := (i : Int) + 1) (by omega) (by omega), w64 (by omega) (by omega)]
  · exact Ev.stop fun k => by simp only [spec_mdSum.l0]; rw [if_neg (by omega)]
theorem sumOf_l0 (l : List Int) (n : Int) : ∀ k s i, impl_sumOf.l0 k s l n i = spec_mdSum.l0 k s l n i
  | 0, _, _ => rfl
  | k + 1, s, i => by simp only [impl_sumOf.l0, spec_mdSum.l0, sumOf_l0 l n k]
theorem sumOf_ev (l : List Int) (hl : l.length ≤ 60) (hm : ∀ x ∈ l, 0 ≤ x ∧ x ≤ 1000) : Ev (fun k => impl_sumOf.f k l) l.sum :=
  Ev.congr (fun k => by unfold impl_sumOf.f; exact sumOf_l0 _ _ _ _ _) (mdSum_ev l hl hm)
theorem mdGood_ev (l : List Int) (hl : l.length ≤ 1048576) : Ev (fun k => spec_mdGood.f k l) (people l) := by
  unfold spec_mdGood.f people
  simp only [l1In_f, Option.bind_some]
  by_cases h1 : 1 ≤ (l.length : Int) ∧ (l.length : Int) ≤ 60
  · simp only [decide_eq_true h1, if_true, Bool.true_and]
    refine Ev.bind (l1All_ev l hl 0 1000) ?_
    cases h2 : l.all fun x => decide (0 ≤ x ∧ x ≤ 1000)
    · simpa using Ev.now false
    · simp only [if_true, Bool.true_and]
      refine Ev.mapb (fun t => decide (t > 0)) (mdSum_ev l (by omega) ?_)
      simpa [List.all_eq_true] using h2
  · simp only [decide_eq_false h1, Bool.false_and]
    simpa using Ev.now false
theorem ArePeople_ev (l : List Int) (hl : l.length ≤ 1048576) : Ev (fun k => impl_ArePeople.f k l) (people l) := by
  unfold impl_ArePeople.f people
  simp only [within_f, Option.bind_some]
  by_cases h1 : 1 ≤ (l.length : Int) ∧ (l.length : Int) ≤ 60
  · simp only [decide_eq_true h1, if_true, Bool.true_and]
    refine Ev.bind (allWithin_ev l hl 0 1000) ?_
    cases h2 : l.all fun x => decide (0 ≤ x ∧ x ≤ 1000)
    · simpa using Ev.now false
    · simp only [if_true, Bool.true_and]
      refine Ev.mapb (fun t => decide (t > 0)) (sumOf_ev l (by omega) ?_)
      simpa [List.all_eq_true] using h2
  · simp only [decide_eq_false h1, Bool.false_and]
    simpa using Ev.now false
/-! A house of people, and absolute values. -/
def houseOk (l : List Int) (a : Int) : Bool := people l && decide (0 ≤ a ∧ a ≤ (l.length : Int) - 1)
theorem houseOk_people {l : List Int} {a : Int} (h : houseOk l a = true) : people l = true := by
  simp only [houseOk, Bool.and_eq_true] at h; exact h.1
theorem houseOk_lt {l : List Int} {a : Int} (h : houseOk l a = true) : 0 ≤ a ∧ a < l.length := by
  simp only [houseOk, Bool.and_eq_true, decide_eq_true_eq] at h; omega
theorem mdHouse_ev (l : List Int) (hl : l.length ≤ 1048576) (a : Int) : Ev (fun k => spec_mdHouse.f k l a) (houseOk l a) := by
  unfold spec_mdHouse.f houseOk
  refine Ev.bind (mdGood_ev l hl) ?_
  cases h : people l
  · simpa using Ev.now false
  · simp only [if_true, Bool.true_and, l1In_f, Option.bind_some]
    rw [w64 (by omega) (by omega)]
    exact Ev.now _
theorem hasHouse_ev (l : List Int) (hl : l.length ≤ 1048576) (a : Int) : Ev (fun k => impl_hasHouse.f k l a) (houseOk l a) := by
  unfold impl_hasHouse.f houseOk
  refine Ev.bind (ArePeople_ev l hl) ?_
  cases h : people l
  · simpa using Ev.now false
  · simp only [if_true, Bool.true_and, within_f, Option.bind_some]
    rw [w64 (by omega) (by omega)]
    exact Ev.now _
/-! The laws' own copies and comparisons of lists of numbers. -/
theorem toIntS_ev (l : List Int) (hl : l.length ≤ 1048576) : Ev (fun k => laws_toIntS.f k l) l := by
  unfold laws_toIntS.f
  refine Ev.itet (by omega) (Ev.itet (by omega) ?_)
  have key : ∀ (d i : Nat), i + d = l.length → Ev (fun k => laws_toIntS.l0 k l (l.take i ++ List.replicate d 0) (i : Int)) l := by
    intro d
    induction d with
    | zero =>
      intro i hi
      refine Ev.stop fun k => ?_
      simp only [laws_toIntS.l0]
      rw [if_neg (by omega), List.take_of_length_le (by omega)]
      simp
    | succ d ih =>
      intro i hi
      have hlt : i < l.length := by omega
      refine Ev.to _ (fun k => ?_) (ih (i + 1) (by omega))
      simp only [laws_toIntS.l0]
      rw [if_pos (by omega), if_pos (by omega), if_pos (by simp; omega), rd_get l i hlt, w64 (by omega) (by omega)]
      have e : (l.take i ++ List.replicate (d + 1) 0).set (i : Int).toNat l[i] = l.take (i + 1) ++ List.replicate d 0 := by
        rw [List.take_succ_eq_append_getElem hlt, Int.toNat_natCast, List.set_append_right _ _ (by simp; omega)]
        have : i - (l.take i).length = 0 := by simp; omega
        rw [this, List.replicate_succ, List.set_cons_zero, List.append_assoc]
        rfl
      rw [e]
      rfl
  have := key l.length 0 (by omega)
  simpa using this
theorem eqIntS_ev (l : List Int) (hl : l.length ≤ 1048576) : Ev (fun k => laws_eqIntS.f k l l) true := by
  unfold laws_eqIntS.f
  refine Ev.itet rfl ?_
  have := runL_all (fun _ => true) l 0
  rw [show (l.all fun _ => true) = true by simp] at this
  rw [← this]
  refine ev_loop0 l (fun k i (_ : Unit) => laws_eqIntS.l0 k l l i) _ _ (fun _ _ => True) () trivial (fun i s hi _ => ⟨fun s' e => ⟨trivial, fun r hr => Ev.to _ (fun k => ?_) hr⟩, fun r e => by simp at e⟩) (fun s _ => Ev.stop fun k => ?_)
  · simp only [laws_eqIntS.l0]
    rw [if_pos (by omega), if_pos (by omega), if_pos (by omega), if_pos trivial, w64 (by omega) (by omega)]
  · simp only [laws_eqIntS.l0]
    rw [if_neg (by omega)]
/-! The laws' marks in memory. -/
def upto (k : Int) : Nat → List Int
  | 0 => []
  | n + 1 => k :: upto (k + 1) n
theorem upto_length (k : Int) (n : Nat) : (upto k n).length = n := by
  induction n generalizing k with
  | zero => rfl
  | succ n ih => simp [upto, ih]
theorem upto_get (k : Int) (n i : Nat) (h : i < (upto k n).length) : (upto k n)[i] = k + i := by
  induction n generalizing k i with
  | zero => simp [upto] at h
  | succ n ih =>
    cases i with
    | zero => simp [upto]
    | succ i =>
      simp only [upto, List.getElem_cons_succ]
      rw [ih (k + 1) i (by simpa [upto] using h)]
      omega
theorem upto_snoc (k : Int) (n : Nat) : upto k (n + 1) = upto k n ++ [k + n] := by
  induction n generalizing k with
  | zero => simp [upto]
  | succ n ih =>
    rw [upto, ih (k + 1)]
    simp only [upto, List.cons_append, List.cons.injEq, true_and]
    congr 2
    omega
theorem markIntS_ev (l : List Int) (hl : l.length ≤ 1048576) (k0 : Int) (h0 : 0 ≤ k0) (h1 : k0 ≤ 1048577) : Ev (fun k => laws_markIntS.f k l k0) (k0 + l.length, upto k0 l.length) := by
  unfold laws_markIntS.f
  have key : ∀ (d i : Nat), i + d = l.length → Ev (fun k => laws_markIntS.l0 k (upto k0 i ++ l.drop i) (k0 + i) (i : Int)) (k0 + l.length, upto k0 l.length) := by
    intro d
    induction d with
    | zero =>
      intro i hi
      obtain rfl : i = l.length := by omega
      refine Ev.stop fun k => ?_
      simp only [laws_markIntS.l0]
      rw [if_neg (by simp [upto_length])]
      simp
    | succ d ih =>
      intro i hi
      have hlt : i < l.length := by omega
      refine Ev.to _ (fun k => ?_) (ih (i + 1) (by omega))
      simp only [laws_markIntS.l0]
      have hlen : ((upto k0 i ++ l.drop i).length : Int) = l.length := by simp [upto_length]; omega
      rw [hlen, if_pos (by omega), if_pos (by omega), w64 (x := k0 + i + 1) (by omega) (by omega), w64 (x := (i : Int) + 1) (by omega) (by omega)]
      have e : (upto k0 i ++ l.drop i).set (i : Int).toNat (k0 + i) = upto k0 (i + 1) ++ l.drop (i + 1) := by
        rw [Int.toNat_natCast, List.set_append_right _ _ (by simp [upto_length]), upto_length, Nat.sub_self, List.drop_eq_getElem_cons hlt, List.set_cons_zero, upto_snoc, List.append_assoc]
        rfl
      rw [e, show k0 + (i : Int) + 1 = k0 + ((i + 1 : Nat) : Int) by omega, show (i : Int) + 1 = ((i + 1 : Nat) : Int) by omega]
  have := key l.length 0 (by omega)
  simpa [upto] using this
theorem heldIntS_ev (n : Nat) (hn : n ≤ 1048576) (k0 : Int) (h0 : 0 ≤ k0) (h1 : k0 ≤ 1048577) : Ev (fun k => laws_heldIntS.f k (upto k0 n) k0) (k0 + n) := by
  unfold laws_heldIntS.f
  have key : ∀ (d i : Nat), i + d = n → Ev (fun k => laws_heldIntS.l0 k (upto k0 n) (k0 + i) (i : Int)) (k0 + n) := by
    intro d
    induction d with
    | zero =>
      intro i hi
      obtain rfl : i = n := by omega
      refine Ev.stop fun k => ?_
      simp only [laws_heldIntS.l0]
      rw [if_neg (by simp [upto_length])]
    | succ d ih =>
      intro i hi
      refine Ev.to _ (fun k => ?_) (ih (i + 1) (by omega))
      simp only [laws_heldIntS.l0]
      have hlen : ((upto k0 n).length : Int) = n := by simp [upto_length]
      have hi' : i < (upto k0 n).length := by rw [upto_length]; omega
      rw [hlen, if_pos (by omega), if_pos (by omega), rd_get _ i hi', upto_get k0 n i hi', if_pos rfl, w64 (x := k0 + i + 1) (by omega) (by omega), w64 (x := (i : Int) + 1) (by omega) (by omega)]
      rw [show k0 + (i : Int) + 1 = k0 + ((i + 1 : Nat) : Int) by omega, show (i : Int) + 1 = ((i + 1 : Nat) : Int) by omega]
  have := key n 0 (by omega)
  simpa using this
theorem sum_set (v : Int) : ∀ (l : List Int) (i : Nat) (h : i < l.length), (l.set i v).sum = l.sum - l[i] + v
  | x :: xs, 0, _ => by simp; omega
  | x :: xs, i + 1, h => by
    have := sum_set v xs i (by simpa using h)
    simp only [List.set_cons_succ, List.sum_cons, List.getElem_cons_succ, this]
    omega
def moved (l : List Int) (i j : Nat) (m : Int) : List Int := (l.set i (l.getD i 0 - m)).set j (l.getD j 0 + m)
theorem moved_people {l : List Int} (hp : people l = true) {i j : Nat} (hi : i < l.length) (hj : j < l.length) (hij : i ≠ j) {m : Int} (h1 : 1 ≤ m) (h2 : m ≤ l.getD i 0) : people (moved l i j m) = decide (l.getD j 0 + m ≤ 1000) := by
  have hn := people_len hp
  have hm := people_mem hp
  have hs := people_sum hp
  have gi : l.getD i 0 = l[i] := by simp [hi]
  have gj : l.getD j 0 = l[j] := by simp [hj]
  have bi := hm _ (List.getElem_mem hi)
  have bj := hm _ (List.getElem_mem hj)
  have hsum : (moved l i j m).sum = l.sum := by
    unfold moved
    rw [sum_set _ _ j (by simpa using hj), sum_set _ _ i hi, List.getElem_set_ne hij]
    omega
  have hlen : (moved l i j m).length = l.length := by simp [moved]
  by_cases hc : l.getD j 0 + m ≤ 1000
  · rw [decide_eq_true hc]
    simp only [people, Bool.and_eq_true, decide_eq_true_eq, hlen, hsum, List.all_eq_true]
    refine ⟨by omega, fun x hx => ?_, hs⟩
    unfold moved at hx
    rcases List.mem_or_eq_of_mem_set hx with hx | rfl
    · rcases List.mem_or_eq_of_mem_set hx with hx | rfl
      · exact hm x hx
      · omega
    · omega
  · rw [decide_eq_false hc]
    rw [Bool.eq_false_iff]
    intro ht
    have := people_mem ht (l.getD j 0 + m) (by
      unfold moved
      exact List.mem_set (by simpa using hj) _)
    omega
def res (l : List Int) (a b m : Int) : List Int × Bool :=
  if houseOk l a && (houseOk l b && (decide (a ≠ b) && decide (1 ≤ m ∧ m ≤ l.getD a.toNat 0))) then (if l.getD b.toNat 0 + m ≤ 1000 then (moved l a.toNat b.toNat m, true) else ([], false)) else ([], false)
theorem res_len (l : List Int) (hl : l.length ≤ 1048576) (a b m : Int) : (res l a b m).1.length ≤ 1048576 := by
  unfold res
  split
  · split
    · simpa [moved] using hl
    · simp
  · simp
theorem rd_eq (l : List Int) (a : Int) : rd l a = l.getD a.toNat 0 := rfl
theorem spec_ev (l : List Int) (hl : l.length ≤ 1048576) (a b m : Int) : Ev (fun k => spec_MovedPeople.f k l a b m) (res l a b m) := by
  unfold spec_MovedPeople.f res
  have hno : Ev (fun k => spec_MovedPeople.j0 k l a b m true) ([], false) := Ev.stop fun k => rfl
  refine Ev.bind (mdHouse_ev l hl a) ?_
  cases h1 : houseOk l a
  · exact Ev.itef (by simp) hno
  refine Ev.itet rfl (Ev.bind (mdHouse_ev l hl b) ?_)
  cases h2 : houseOk l b
  · exact Ev.itef (by simp) hno
  refine Ev.itet rfl ?_
  have ha := houseOk_lt h1
  have hb := houseOk_lt h2
  have hp := houseOk_people h1
  have hn := people_len hp
  by_cases he : a = b
  · rw [decide_eq_false (by simpa using he)]
    exact Ev.itet he hno
  rw [decide_eq_true he]
  refine Ev.itef he (Ev.itet ha.1 (Ev.itet ha.2 ?_))
  simp only [l1In_f, Option.bind_some, rd_eq, Bool.true_and]
  by_cases hm : 1 ≤ m ∧ m ≤ l.getD a.toNat 0
  · rw [decide_eq_true hm]
    show Ev _ (if l.getD b.toNat 0 + m ≤ 1000 then (moved l a.toNat b.toNat m, true) else ([], false))
    have g1 : l.getD a.toNat 0 = l[a.toNat]'(by omega) := by simp [show a.toNat < l.length by omega]
    have g2 : l.getD b.toNat 0 = l[b.toNat]'(by omega) := by simp [show b.toNat < l.length by omega]
    have b1 := people_get hp a.toNat (by omega)
    have b2 := people_get hp b.toNat (by omega)
    have e : moved l a.toNat b.toNat m = (l.set a.toNat (wrap64 (l.getD a.toNat 0 - m))).set b.toNat (wrap64 ((l.set a.toNat (wrap64 (l.getD a.toNat 0 - m))).getD b.toNat 0 + m)) := by
      have hne : a.toNat ≠ b.toNat := by omega
      unfold moved
      rw [w64 (x := l.getD a.toNat 0 - m) (by omega) (by omega)]
      have : (l.set a.toNat (l.getD a.toNat 0 - m)).getD b.toNat 0 = l.getD b.toNat 0 := by
        simp [List.getD_eq_getElem?_getD, List.getElem?_set_ne hne]
      rw [this, w64 (by omega) (by omega)]
    have hpp := moved_people hp (i := a.toNat) (j := b.toNat) (by omega) (by omega) (by omega) hm.1 hm.2
    have hlen : (moved l a.toNat b.toNat m).length ≤ 1048576 := by simpa [moved] using hl
    have hg := mdGood_ev _ hlen
    rw [hpp] at hg
    refine Ev.to (f := fun k => (spec_mdGood.f k (moved l a.toNat b.toNat m)).bind fun t => if t = true then some (moved l a.toNat b.toNat m, true) else some ([], false)) (fun k => ?_) (Ev.bind hg ?_)
    · simp only [spec_MovedPeople.j0, spec_l1Own.f, Option.bind_some, List.nil_append, List.length_nil]
      rw [if_neg (by simp), if_pos (by omega)]
      simp only [Option.bind_some]
      rw [if_pos ha.1, if_pos ha.2, if_pos hb.1, if_pos hb.2, rd_eq, rd_eq, ← e]
    · by_cases hc : l.getD b.toNat 0 + m ≤ 1000
      · rw [decide_eq_true hc, if_pos hc]; exact Ev.itet rfl (Ev.now _)
      · rw [decide_eq_false hc, if_neg hc]; exact Ev.itef (by simp) (Ev.now _)
  · rw [decide_eq_false hm]
    exact hno
theorem impl_ev (l : List Int) (hl : l.length ≤ 1048576) (a b m : Int) : Ev (fun k => impl_MovedPeople.f k l a b m) (res l a b m) := by
  unfold impl_MovedPeople.f res
  refine Ev.bind (hasHouse_ev l hl a) ?_
  cases h1 : houseOk l a
  · exact Ev.itef (by simp) (Ev.now _)
  refine Ev.itet rfl (Ev.bind (hasHouse_ev l hl b) ?_)
  cases h2 : houseOk l b
  · exact Ev.itef (by simp) (Ev.now _)
  refine Ev.itet rfl ?_
  have ha := houseOk_lt h1
  have hb := houseOk_lt h2
  have hp := houseOk_people h1
  have hn := people_len hp
  by_cases he : a = b
  · rw [decide_eq_false (by simpa using he)]
    exact Ev.itet he (Ev.now _)
  rw [decide_eq_true he]
  refine Ev.itef he (Ev.itet ha.1 (Ev.itet ha.2 ?_))
  simp only [within_f, Option.bind_some, Bool.true_and]
  by_cases hm : 1 ≤ m ∧ m ≤ l.getD a.toNat 0
  · rw [decide_eq_true (show 1 ≤ m ∧ m ≤ rd l a from hm), decide_eq_true hm]
    have g1 : l.getD a.toNat 0 = l[a.toNat]'(by omega) := by simp [show a.toNat < l.length by omega]
    have g2 : l.getD b.toNat 0 = l[b.toNat]'(by omega) := by simp [show b.toNat < l.length by omega]
    have b1 := people_get hp a.toNat (by omega)
    have b2 := people_get hp b.toNat (by omega)
    refine Ev.itet rfl (Ev.itet hb.1 (Ev.itet hb.2 ?_))
    show Ev _ (if l.getD b.toNat 0 + m ≤ 1000 then (moved l a.toNat b.toNat m, true) else ([], false))
    have w2 : wrap64 (rd l b + m) = l.getD b.toNat 0 + m := by rw [rd_eq]; exact w64 (by omega) (by omega)
    by_cases hc : l.getD b.toNat 0 + m ≤ 1000
    · rw [if_pos hc]
      refine Ev.itef (by rw [w2]; omega) ?_
      have e : moved l a.toNat b.toNat m = (l.set a.toNat (wrap64 (l.getD a.toNat 0 - m))).set b.toNat (wrap64 ((l.set a.toNat (wrap64 (l.getD a.toNat 0 - m))).getD b.toNat 0 + m)) := by
        have hne : a.toNat ≠ b.toNat := by omega
        unfold moved
        rw [w64 (x := l.getD a.toNat 0 - m) (by omega) (by omega)]
        have : (l.set a.toNat (l.getD a.toNat 0 - m)).getD b.toNat 0 = l.getD b.toNat 0 := by
          simp [List.getD_eq_getElem?_getD, List.getElem?_set_ne hne]
        rw [this, w64 (by omega) (by omega)]
      refine Ev.some_ fun k => ?_
      simp only [slices_Clone_int_int.f]
      rw [if_pos (by omega)]
      simp only [Option.bind_some]
      rw [if_pos ha.2, if_pos hb.2, rd_eq, rd_eq, ← e]
    · rw [if_neg hc]
      exact Ev.itet (by rw [w2]; omega) (Ev.now _)
  · rw [decide_eq_false (show ¬ (1 ≤ m ∧ m ≤ rd l a) from hm), decide_eq_false hm]
    exact Ev.itef (by simp) (Ev.now _)
theorem main : laws_FnExactMovedPeople.Pure := by
  intro l a b m _ _ _ _ _ _
  refine Ev.rounds ?_
  unfold laws_FnExactMovedPeople.f
  by_cases h : (l.length : Int) > 1048576
  · exact Ev.itet h (Ev.now _)
  · have hl : l.length ≤ 1048576 := by omega
    have hr := res_len l hl a b m
    refine Ev.itef h (Ev.bind (toIntS_ev l hl) (Ev.bind (spec_ev l hl a b m) (Ev.bind (toIntS_ev l hl) (Ev.bind (impl_ev l hl a b m) (Ev.bind (eqIntS_ev _ hr) (Ev.itet rfl (Ev.succ ?_)))))))
    simp only [laws_FnExactMovedPeople.j0]
    refine Ev.itef (by simp) (Ev.bind (toIntS_ev l hl) (Ev.bind (eqIntS_ev l hl) (Ev.itet rfl (Ev.bind (markIntS_ev l hl 1 (by omega) (by omega)) (Ev.itef (by simp; omega) (Ev.bind (eqIntS_ev _ hr) (Ev.itet rfl (Ev.succ ?_))))))))
    simp only [laws_FnExactMovedPeople.j1]
    refine Ev.itef (by simp) (Ev.bind (markIntS_ev _ hr 1 (by omega) (by omega)) (Ev.bind (heldIntS_ev _ hr 1 (by omega) (by omega)) (Ev.itef (by simp; omega) (Ev.itet rfl (Ev.bind (toIntS_ev l hl) (Ev.bind (impl_ev l hl a b m) (Ev.bind (eqIntS_ev _ hr) (Ev.itet rfl (Ev.succ ?_)))))))))
    simp only [laws_FnExactMovedPeople.j2]
    exact Ev.itef (by simp) (Ev.bind (heldIntS_ev _ hr 1 (by omega) (by omega)) (Ev.itef (by simp; omega) (Ev.itet rfl (Ev.now _))))
end MovedPeople
theorem FnExactMovedPeople : laws_FnExactMovedPeople.Pure := MovedPeople.main
end Go.Proofs.Ytnnnmhbfepcibaa.Pure
