/- The Lean functions printed of both sides say the same number of houses, for all texts. No condition beyond the printed bounds. -/
import Derived.Test.YtghcfpnjkhefeaaPFnExactCountDeliveredx1
import Derived.Test.YtghcfpnjkhefeaaKit
namespace Go.Proofs.Ytghcfpnjkhefeaa.Pure
open Go.RowKit Go.Proofs.YtghcfpnjkhefeaaW.PrintWords Go.Proofs.YtghcfpnjkhefeaaW.PrintLast Go.Proofs.YtghcfpnjkhefeaaW.PrintMore Go.Proofs.YtghcfpnjkhefeaaKit
open Go.Proofs.Ytghcfpnjkhefeaa.PFnExactCountDelivered
namespace CountDelivered
theorem ge_le (a b c : Int) : (if a ≥ b then some (decide (a ≤ c)) else some false) = some (decide (b ≤ a ∧ a ≤ c)) := by
  by_cases h : a ≥ b
  · rw [if_pos h]; simp [show b ≤ a from h]
  · rw [if_neg h]; simp; omega
theorem l1In_f (a b c : Int) : spec_l1In.f a b c = some (decide (b ≤ a ∧ a ≤ c)) := by unfold spec_l1In.f; exact ge_le a b c
theorem within_f (a b c : Int) : impl_within.f a b c = some (decide (b ≤ a ∧ a ≤ c)) := by unfold impl_within.f; exact ge_le a b c
/-! Texts of deliveries. -/
def sgn (b : UInt8) : Bool := b == 108 || (b == 114 || (b == 98 || b == 45))
def deliv (s : ByteArray) : Bool := decide (1 ≤ (s.size : Int) ∧ (s.size : Int) ≤ 60) && s.data.toList.all sgn
theorem deliv_len {s : ByteArray} (h : deliv s = true) : 1 ≤ s.size ∧ s.size ≤ 60 := by
  simp only [deliv, Bool.and_eq_true, decide_eq_true_eq] at h; omega
theorem deliv_mem {s : ByteArray} (h : deliv s = true) : ∀ b ∈ s.data.toList, sgn b = true := by
  simp only [deliv, Bool.and_eq_true, List.all_eq_true] at h
  exact h.2
theorem eq108 (b : UInt8) : ((b.toNat : Int) = 108) ↔ b = 108 := byte_eq b 108 (by decide)
theorem eq114 (b : UInt8) : ((b.toNat : Int) = 114) ↔ b = 114 := byte_eq b 114 (by decide)
theorem eq98 (b : UInt8) : ((b.toNat : Int) = 98) ↔ b = 98 := byte_eq b 98 (by decide)
theorem eq45 (b : UInt8) : ((b.toNat : Int) = 45) ↔ b = 45 := byte_eq b 45 (by decide)
theorem poGood_l0 (s : ByteArray) (hs : s.size ≤ 1048576) : Ev (fun k => spec_poGood.l0 k s 0) (s.data.toList.all sgn) := by
  rw [← runL_all _ s.data.toList 0]
  refine ev_loop0 s.data.toList (fun k i (_ : Unit) => spec_poGood.l0 k s i) _ _ (fun _ _ => True) () trivial (fun i u hi _ => ?_) (fun u _ => ?_)
  · have hi' : i < s.size := by rw [← len_data]; exact hi
    have hw : wrap64 ((i : Int) + 1) = (i : Int) + 1 := w64 (by omega) (by omega)
    have key : ∀ k, spec_poGood.l0 (k + 1) s (i : Int) = if sgn s.data.toList[i] = true then spec_poGood.l0 k s ((i : Int) + 1) else some false := by
      intro k
      simp only [spec_poGood.l0]
      rw [if_pos (by omega), if_pos (by omega), bt_get s i hi, hw]
      simp only [eq108, eq114, eq98, eq45, sgn, Bool.or_eq_true, beq_iff_eq]
      by_cases h1 : s.data.toList[i] = 108
      · rw [if_pos h1, if_pos (Or.inl h1)]
      rw [if_neg h1]
      by_cases h2 : s.data.toList[i] = 114
      · rw [if_pos h2, if_pos (Or.inr (Or.inl h2))]
      rw [if_neg h2]
      by_cases h3 : s.data.toList[i] = 98
      · rw [if_pos h3, if_pos (Or.inr (Or.inr (Or.inl h3)))]
      rw [if_neg h3]
      by_cases h4 : s.data.toList[i] = 45
      · rw [if_pos h4, if_pos (Or.inr (Or.inr (Or.inr h4)))]
      · rw [if_neg h4, if_neg (by rintro (h | h | h | h) <;> contradiction)]
    constructor
    · intro s' e
      cases hp : sgn s.data.toList[i]
      · rw [hp] at e; simp at e
      · exact ⟨trivial, fun r hr => Ev.to _ (fun k => by rw [key, hp, if_pos rfl]) hr⟩
    · intro r e
      cases hp : sgn s.data.toList[i]
      · rw [hp] at e
        cases e
        exact Ev.stop fun k => by rw [key, hp]; rfl
      · rw [hp] at e; simp at e
  · exact Ev.stop fun k => by simp only [spec_poGood.l0]; rw [if_neg (by rw [len_data]; omega)]
theorem poGood_ev (s : ByteArray) (hs : s.size ≤ 1048576) : Ev (fun k => spec_poGood.f k s) (deliv s) := by
  unfold spec_poGood.f deliv
  simp only [l1In_f, Option.bind_some]
  cases decide (1 ≤ (s.size : Int) ∧ (s.size : Int) ≤ 60)
  · exact Ev.itef (by simp) (Ev.now _)
  · exact Ev.itet rfl (poGood_l0 s hs)
theorem index_sgn (b : UInt8) : (Lib.indexByte [108, 114, 98, 45] b < 0) ↔ ¬ sgn b = true := by
  have h1 : Lib.indexByte [45] b = if 45 = b then 0 else -1 := by simp [Lib.indexByte]
  simp only [Lib.indexByte, sgn, Bool.or_eq_true, beq_iff_eq]
  by_cases e1 : (108 : UInt8) = b
  · subst e1; simp
  by_cases e2 : (114 : UInt8) = b
  · subst e2; simp
  by_cases e3 : (98 : UInt8) = b
  · subst e3; simp
  by_cases e4 : (45 : UInt8) = b
  · subst e4; simp
  · simp [e1, e2, e3, e4, Ne.symm e1, Ne.symm e2, Ne.symm e3, Ne.symm e4]
theorem AreDeliveries_ev (s : ByteArray) (hs : s.size ≤ 1048576) : Ev (fun k => impl_AreDeliveries.f k s) (deliv s) := by
  unfold impl_AreDeliveries.f
  have e : deliv s = runL (fun _ x (_ : Unit) => if sgn x then (Sum.inl () : Unit ⊕ Bool) else .inr false) (fun _ => decide (1 ≤ (s.size : Int) ∧ (s.size : Int) ≤ 60)) 0 s.data.toList () := by
    have gen : ∀ (l : List UInt8) (i : Nat) (c : Bool), runL (fun _ x (_ : Unit) => if sgn x then (Sum.inl () : Unit ⊕ Bool) else .inr false) (fun _ => c) i l () = (c && l.all sgn) := by
      intro l
      induction l with
      | nil => intro i c; simp [runL]
      | cons x xs ih =>
        intro i c
        simp only [runL, List.all_cons]
        cases sgn x
        · simp
        · simp only [if_true, Bool.true_and]; exact ih _ _
    rw [gen]
    rfl
  rw [e]
  refine ev_loop0 s.data.toList (fun k i (_ : Unit) => impl_AreDeliveries.l0 k s (s.size : Int) i) _ _ (fun _ _ => True) () trivial (fun i u hi _ => ?_) (fun u _ => ?_)
  · have hi' : i < s.size := by rw [← len_data]; exact hi
    have hw : wrap64 ((i : Int) + 1) = (i : Int) + 1 := w64 (by omega) (by omega)
    have key : ∀ k, impl_AreDeliveries.l0 (k + 1) s (s.size : Int) (i : Int) = if sgn s.data.toList[i] = true then impl_AreDeliveries.l0 k s (s.size : Int) ((i : Int) + 1) else some false := by
      intro k
      simp only [impl_AreDeliveries.l0, strings_IndexByte.f, Option.bind_some]
      rw [if_pos (by omega), if_pos (by omega), if_pos (by omega), bt_get s i hi, byte_back, hw]
      by_cases hp : sgn s.data.toList[i] = true
      · rw [if_pos hp, if_neg (fun h => (index_sgn _).1 h hp)]
      · rw [if_neg hp, if_pos ((index_sgn _).2 hp)]
    constructor
    · intro s' e
      cases hp : sgn s.data.toList[i]
      · rw [hp] at e; simp at e
      · exact ⟨trivial, fun r hr => Ev.to _ (fun k => by rw [key, hp, if_pos rfl]) hr⟩
    · intro r e
      cases hp : sgn s.data.toList[i]
      · rw [hp] at e
        cases e
        exact Ev.stop fun k => by rw [key, hp]; rfl
      · rw [hp] at e; simp at e
  · exact Ev.stop fun k => by simp only [impl_AreDeliveries.l0, within_f, Option.bind_some]; rw [if_neg (by rw [len_data]; omega)]
/-! How many houses there is something for. -/
def many (b : UInt8) : Int := if b = 98 then 2 else if b = 45 then 0 else 1
def cnt (l : List UInt8) : Int := foldI (fun _ b s => s + many b) 0 l 0
theorem cnt_from : ∀ (l : List UInt8) (i : Nat) (s : Int), foldI (fun _ b s => s + many b) i l s = s + cnt l
  | [], _, s => by simp [foldI, cnt]
  | b :: l, i, s => by
    have h1 := cnt_from l (i + 1) (s + many b)
    have h2 := cnt_from l (0 + 1) (0 + many b)
    simp only [foldI, cnt] at h1 h2 ⊢
    omega
theorem cnt_cons (b : UInt8) (l : List UInt8) : cnt (b :: l) = many b + cnt l := by
  have := cnt_from l (0 + 1) (0 + many b)
  simp only [cnt, foldI] at this ⊢
  omega
theorem many_le (b : UInt8) : 0 ≤ many b ∧ many b ≤ 2 := by unfold many; split <;> (try split) <;> omega
theorem cnt_le : ∀ l : List UInt8, 0 ≤ cnt l ∧ cnt l ≤ 2 * l.length
  | [] => by simp [cnt, foldI]
  | b :: l => by
    have := cnt_le l
    have h := many_le b
    rw [cnt_cons]
    simp only [List.length_cons]
    omega
theorem poMany_f (b : UInt8) : spec_poMany.f (b.toNat : Int) = some (many b) := by
  simp only [spec_poMany.f, many, eq98, eq45]
  split
  · rfl
  · split <;> rfl
theorem poCount_ev (s : ByteArray) (hs : s.size ≤ 1048576) : Ev (fun k => spec_poCount.f k s) (cnt s.data.toList) := by
  refine ev_fold s.data.toList (fun k i c => spec_poCount.l0 k s c i) _ (fun c => c) (fun i c => 0 ≤ c ∧ c ≤ 2 * i) 0 (by simp) (fun i c hi hc => ?_) (fun c _ => Ev.stop fun k => ?_)
  · have hi' : i < s.size := by rw [← len_data]; exact hi
    have hm := many_le s.data.toList[i]
    refine ⟨by omega, fun r hr => Ev.to _ (fun k => ?_) hr⟩
    simp only [spec_poCount.l0]
    rw [if_pos (by omega), if_pos (by omega), bt_get s i hi, poMany_f, Option.bind_some, w64 (x := (i : Int) + 1) (by omega) (by omega), w64 (by omega) (by omega)]
  · simp only [spec_poCount.l0]
    rw [if_neg (by rw [len_data]; omega)]
theorem count_cnt : ∀ (l : List UInt8), (∀ b ∈ l, sgn b = true) → ((l.count 108 : Nat) : Int) + (l.count 114 : Nat) + 2 * (l.count 98 : Nat) = cnt l
  | [], _ => by simp [cnt, foldI]
  | b :: l, h => by
    have ih := count_cnt l (fun x hx => h x (by simp [hx]))
    have hb := h b (by simp)
    rw [cnt_cons]
    simp only [sgn, Bool.or_eq_true, beq_iff_eq] at hb
    rcases hb with rfl | rfl | rfl | rfl <;> simp [many] <;> omega
theorem count_le' (l : List UInt8) (b : UInt8) : l.count b ≤ l.length := List.count_le_length
theorem countDelivered_f (s : ByteArray) (hs : s.size ≤ 1048576) (h : ∀ b ∈ s.data.toList, sgn b = true) : impl_countDelivered.f s = some (cnt s.data.toList) := by
  have e1 : strings_Count.f s (⟨#[108]⟩ : ByteArray) = some ((s.data.toList.count 108 : Nat) : Int) := rfl
  have e2 : strings_Count.f s (⟨#[114]⟩ : ByteArray) = some ((s.data.toList.count 114 : Nat) : Int) := rfl
  have e3 : strings_Count.f s (⟨#[98]⟩ : ByteArray) = some ((s.data.toList.count 98 : Nat) : Int) := rfl
  have l1 := count_le' s.data.toList 108
  have l2 := count_le' s.data.toList 114
  have l3 := count_le' s.data.toList 98
  rw [len_data] at l1 l2 l3
  unfold impl_countDelivered.f
  rw [e1, e2, e3]
  simp only [Option.bind_some]
  rw [w64 (x := ((s.data.toList.count 108 : Nat) : Int) + (s.data.toList.count 114 : Nat)) (by omega) (by omega), w64 (x := 2 * ((s.data.toList.count 98 : Nat) : Int)) (by omega) (by omega), w64 (by omega) (by omega), count_cnt _ h]
def res (s : ByteArray) : Int × Bool := if deliv s then (cnt s.data.toList, true) else (0, false)
theorem spec_ev (s : ByteArray) (hs : s.size ≤ 1048576) : Ev (fun k => spec_CountDelivered.f k s) (res s) := by
  unfold spec_CountDelivered.f res
  exact Ev.bind (poGood_ev s hs) (Ev.ite (fun _ => Ev.mapb (fun t => (t, true)) (poCount_ev s hs)) (fun _ => Ev.now _))
theorem impl_ev (s : ByteArray) (hs : s.size ≤ 1048576) : Ev (fun k => impl_CountDelivered.f k s) (res s) := by
  unfold impl_CountDelivered.f res
  exact Ev.bind (AreDeliveries_ev s hs) (Ev.ite (fun h => by rw [countDelivered_f s hs (deliv_mem h)]; exact Ev.now _) (fun _ => Ev.now _))
theorem main : laws_FnExactCountDelivered.Pure := by
  intro s _
  refine Ev.rounds ?_
  unfold laws_FnExactCountDelivered.f
  by_cases h : (s.size : Int) > 1048576
  · exact Ev.itet h (Ev.now _)
  · have hs : s.size ≤ 1048576 := by omega
    exact Ev.itef h (Ev.bind (spec_ev s hs) (Ev.bind (impl_ev s hs) (Ev.itet rfl (Ev.itef (by simp) (Ev.now _)))))
end CountDelivered
theorem FnExactCountDelivered : laws_FnExactCountDelivered.Pure := CountDelivered.main
end Go.Proofs.Ytghcfpnjkhefeaa.Pure
