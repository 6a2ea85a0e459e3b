/- The Lean functions printed of both sides say the same number of crossings of a route, for all arguments. No condition beyond the printed bounds. -/
import Derived.Test.YtghcfpnjkhefeaaPFnExactRouteCrossingsx3
import Derived.Test.YtghcfpnjkhefeaaKit
namespace Go.Proofs.Ytghcfpnjkhefeaa.Pure
open Go.RowKit Go.Proofs.YtghcfpnjkhefeaaW.PrintWords Go.Proofs.YtghcfpnjkhefeaaW.PrintLast Go.Proofs.YtghcfpnjkhefeaaW.PrintMore Go.Proofs.YtghcfpnjkhefeaaKit
open Go.Proofs.Ytghcfpnjkhefeaa.PFnExactRouteCrossings
namespace RouteCrossings
theorem ge_le (a b c : Int) : (if a ≥ b then some (decide (a ≤ c)) else some false) = some (decide (b ≤ a ∧ a ≤ c)) := by
  by_cases h : a ≥ b
  · rw [if_pos h]; simp [show b ≤ a from h]
  · rw [if_neg h]; simp; omega
theorem l1In_f (a b c : Int) : spec_l1In.f a b c = some (decide (b ≤ a ∧ a ≤ c)) := by unfold spec_l1In.f; exact ge_le a b c
theorem within_f (a b c : Int) : impl_within.f a b c = some (decide (b ≤ a ∧ a ≤ c)) := by unfold impl_within.f; exact ge_le a b c
theorem l1All_ev (l : List Int) (hl : l.length ≤ 1048576) (a b : Int) : Ev (fun k => spec_l1All.f k l a b) (l.all fun x => decide (a ≤ x ∧ x ≤ b)) := by
  rw [← runL_all _ l 0]
  refine ev_loop0 l (fun k i (_ : Unit) => spec_l1All.l0 k a b l (l.length : Int) i) _ _ (fun _ _ => True) () trivial (fun i s hi _ => ?_) (fun s _ => ?_)
  · have hw : wrap64 ((i : Int) + 1) = (i : Int) + 1 := w64 (by omega) (by omega)
    constructor
    · intro s' e
      refine ⟨trivial, fun r hr => Ev.to _ (fun k => ?_) hr⟩
      by_cases hp : a ≤ l[i] ∧ l[i] ≤ b
      · simp only [spec_l1All.l0]
        rw [if_pos (by omega), if_pos (by omega), if_pos (by omega), l1In_f, rd_get l i hi, decide_eq_true hp, hw]; rfl
      · simp [hp] at e
    · intro r e
      by_cases hp : a ≤ l[i] ∧ l[i] ≤ b
      · simp [hp] at e
      · rw [if_neg (by simpa using hp)] at e
        cases e
        refine Ev.stop fun k => ?_
        simp only [spec_l1All.l0]
        rw [if_pos (by omega), if_pos (by omega), if_pos (by omega), l1In_f, rd_get l i hi, decide_eq_false hp]; rfl
  · exact Ev.stop fun k => by simp only [spec_l1All.l0]; rw [if_neg (by omega)]
theorem allWithin_l0 (a b : Int) (l : List Int) (n : Int) : ∀ k i, impl_allWithin.l0 k a b l n i = spec_l1All.l0 k a b l n i
  | 0, _ => rfl
  | k + 1, i => by simp only [impl_allWithin.l0, spec_l1All.l0, within_f, l1In_f, allWithin_l0 a b l n k]
theorem allWithin_ev (l : List Int) (hl : l.length ≤ 1048576) (a b : Int) : Ev (fun k => impl_allWithin.f k l a b) (l.all fun x => decide (a ≤ x ∧ x ≤ b)) :=
  Ev.congr (fun k => by unfold impl_allWithin.f; exact allWithin_l0 _ _ _ _ _ _) (l1All_ev l hl a b)
/-! The laws' own copies and comparisons of lists of numbers. -/
theorem toIntS_ev (l : List Int) (hl : l.length ≤ 1048576) : Ev (fun k => laws_toIntS.f k l) l := by
  unfold laws_toIntS.f
  refine Ev.itet (by omega) (Ev.itet (by omega) ?_)
  have key : ∀ (d i : Nat), i + d = l.length → Ev (fun k => laws_toIntS.l0 k l (l.take i ++ List.replicate d 0) (i : Int)) l := by
    intro d
    induction d with
    | zero =>
      intro i hi
      refine Ev.stop fun k => ?_
      simp only [laws_toIntS.l0]
      rw [if_neg (by omega), List.take_of_length_le (by omega)]
      simp
    | succ d ih =>
      intro i hi
      have hlt : i < l.length := by omega
      refine Ev.to _ (fun k => ?_) (ih (i + 1) (by omega))
      simp only [laws_toIntS.l0]
      rw [if_pos (by omega), if_pos (by omega), if_pos (by simp; omega), rd_get l i hlt, w64 (by omega) (by omega)]
      have e : (l.take i ++ List.replicate (d + 1) 0).set (i : Int).toNat l[i] = l.take (i + 1) ++ List.replicate d 0 := by
        rw [List.take_succ_eq_append_getElem hlt, Int.toNat_natCast, List.set_append_right _ _ (by simp; omega)]
        have : i - (l.take i).length = 0 := by simp; omega
        rw [this, List.replicate_succ, List.set_cons_zero, List.append_assoc]
        rfl
      rw [e]
      rfl
  have := key l.length 0 (by omega)
  simpa using this
theorem eqIntS_ev (l : List Int) (hl : l.length ≤ 1048576) : Ev (fun k => laws_eqIntS.f k l l) true := by
  unfold laws_eqIntS.f
  refine Ev.itet rfl ?_
  have := runL_all (fun _ => true) l 0
  rw [show (l.all fun _ => true) = true by simp] at this
  rw [← this]
  refine ev_loop0 l (fun k i (_ : Unit) => laws_eqIntS.l0 k l l i) _ _ (fun _ _ => True) () trivial (fun i s hi _ => ⟨fun s' e => ⟨trivial, fun r hr => Ev.to _ (fun k => ?_) hr⟩, fun r e => by simp at e⟩) (fun s _ => Ev.stop fun k => ?_)
  · simp only [laws_eqIntS.l0]
    rw [if_pos (by omega), if_pos (by omega), if_pos (by omega), if_pos trivial, w64 (by omega) (by omega)]
  · simp only [laws_eqIntS.l0]
    rw [if_neg (by omega)]
/-! Texts of deliveries. -/
def sgn (b : UInt8) : Bool := b == 108 || (b == 114 || (b == 98 || b == 45))
def deliv (s : ByteArray) : Bool := decide (1 ≤ (s.size : Int) ∧ (s.size : Int) ≤ 60) && s.data.toList.all sgn
theorem deliv_len {s : ByteArray} (h : deliv s = true) : 1 ≤ s.size ∧ s.size ≤ 60 := by
  simp only [deliv, Bool.and_eq_true, decide_eq_true_eq] at h; omega
theorem deliv_mem {s : ByteArray} (h : deliv s = true) : ∀ b ∈ s.data.toList, sgn b = true := by
  simp only [deliv, Bool.and_eq_true, List.all_eq_true] at h
  exact h.2
theorem eq108 (b : UInt8) : ((b.toNat : Int) = 108) ↔ b = 108 := byte_eq b 108 (by decide)
theorem eq114 (b : UInt8) : ((b.toNat : Int) = 114) ↔ b = 114 := byte_eq b 114 (by decide)
theorem eq98 (b : UInt8) : ((b.toNat : Int) = 98) ↔ b = 98 := byte_eq b 98 (by decide)
theorem eq45 (b : UInt8) : ((b.toNat : Int) = 45) ↔ b = 45 := byte_eq b 45 (by decide)
theorem poGood_l0 (s : ByteArray) (hs : s.size ≤ 1048576) : Ev (fun k => spec_poGood.l0 k s 0) (s.data.toList.all sgn) := by
  rw [← runL_all _ s.data.toList 0]
  refine ev_loop0 s.data.toList (fun k i (_ : Unit) => spec_poGood.l0 k s i) _ _ (fun _ _ => True) () trivial (fun i u hi _ => ?_) (fun u _ => ?_)
  · have hi' : i < s.size := by rw [← len_data]; exact hi
    have hw : wrap64 ((i : Int) + 1) = (i : Int) + 1 := w64 (by omega) (by omega)
    have key : ∀ k, spec_poGood.l0 (k + 1) s (i : Int) = if sgn s.data.toList[i] = true then spec_poGood.l0 k s ((i : Int) + 1) else some false := by
      intro k
      simp only [spec_poGood.l0]
      rw [if_pos (by omega), if_pos (by omega), bt_get s i hi, hw]
      simp only [eq108, eq114, eq98, eq45, sgn, Bool.or_eq_true, beq_iff_eq]
      by_cases h1 : s.data.toList[i] = 108
      · rw [if_pos h1, if_pos (Or.inl h1)]
      rw [if_neg h1]
      by_cases h2 : s.data.toList[i] = 114
      · rw [if_pos h2, if_pos (Or.inr (Or.inl h2))]
      rw [if_neg h2]
      by_cases h3 : s.data.toList[i] = 98
      · rw [if_pos h3, if_pos (Or.inr (Or.inr (Or.inl h3)))]
      rw [if_neg h3]
      by_cases h4 : s.data.toList[i] = 45
      · rw [if_pos h4, if_pos (Or.inr (Or.inr (Or.inr h4)))]
      · rw [if_neg h4, if_neg (by rintro (h | h | h | h) <;> contradiction)]
    constructor
    · intro s' e
      cases hp : sgn s.data.toList[i]
      · rw [hp] at e; simp at e
      · exact ⟨trivial, fun r hr => Ev.to _ (fun k => by rw [key, hp, if_pos rfl]) hr⟩
    · intro r e
      cases hp : sgn s.data.toList[i]
      · rw [hp] at e
        cases e
        exact Ev.stop fun k => by rw [key, hp]; rfl
      · rw [hp] at e; simp at e
  · exact Ev.stop fun k => by simp only [spec_poGood.l0]; rw [if_neg (by rw [len_data]; omega)]
theorem poGood_ev (s : ByteArray) (hs : s.size ≤ 1048576) : Ev (fun k => spec_poGood.f k s) (deliv s) := by
  unfold spec_poGood.f deliv
  simp only [l1In_f, Option.bind_some]
  cases decide (1 ≤ (s.size : Int) ∧ (s.size : Int) ≤ 60)
  · exact Ev.itef (by simp) (Ev.now _)
  · exact Ev.itet rfl (poGood_l0 s hs)
theorem index_sgn (b : UInt8) : (Lib.indexByte [108, 114, 98, 45] b < 0) ↔ ¬ sgn b = true := by
  have h1 : Lib.indexByte [45] b = if 45 = b then 0 else -1 := by simp [Lib.indexByte]
  simp only [Lib.indexByte, sgn, Bool.or_eq_true, beq_iff_eq]
  by_cases e1 : (108 : UInt8) = b
  · subst e1; simp
  by_cases e2 : (114 : UInt8) = b
  · subst e2; simp
  by_cases e3 : (98 : UInt8) = b
  · subst e3; simp
  by_cases e4 : (45 : UInt8) = b
  · subst e4; simp
  · simp [e1, e2, e3, e4, Ne.symm e1, Ne.symm e2, Ne.symm e3, Ne.symm e4]
theorem AreDeliveries_ev (s : ByteArray) (hs : s.size ≤ 1048576) : Ev (fun k => impl_AreDeliveries.f k s) (deliv s) := by
  unfold impl_AreDeliveries.f
  have e : deliv s = runL (fun _ x (_ : Unit) => if sgn x then (Sum.inl () : Unit ⊕ Bool) else .inr false) (fun _ => decide (1 ≤ (s.size : Int) ∧ (s.size : Int) ≤ 60)) 0 s.data.toList () := by
    have gen : ∀ (l : List UInt8) (i : Nat) (c : Bool), runL (fun _ x (_ : Unit) => if sgn x then (Sum.inl () : Unit ⊕ Bool) else .inr false) (fun _ => c) i l () = (c && l.all sgn) := by
      intro l
      induction l with
      | nil => intro i c; simp [runL]
      | cons x xs ih =>
        intro i c
        simp only [runL, List.all_cons]
        cases sgn x
        · simp
        · simp only [if_true, Bool.true_and]; exact ih _ _
    rw [gen]
    rfl
  rw [e]
  refine ev_loop0 s.data.toList (fun k i (_ : Unit) => impl_AreDeliveries.l0 k s (s.size : Int) i) _ _ (fun _ _ => True) () trivial (fun i u hi _ => ?_) (fun u _ => ?_)
  · have hi' : i < s.size := by rw [← len_data]; exact hi
    have hw : wrap64 ((i : Int) + 1) = (i : Int) + 1 := w64 (by omega) (by omega)
    have key : ∀ k, impl_AreDeliveries.l0 (k + 1) s (s.size : Int) (i : Int) = if sgn s.data.toList[i] = true then impl_AreDeliveries.l0 k s (s.size : Int) ((i : Int) + 1) else some false := by
      intro k
      simp only [impl_AreDeliveries.l0, strings_IndexByte.f, Option.bind_some]
      rw [if_pos (by omega), if_pos (by omega), if_pos (by omega), bt_get s i hi, byte_back, hw]
      by_cases hp : sgn s.data.toList[i] = true
      · rw [if_pos hp, if_neg (fun h => (index_sgn _).1 h hp)]
      · rw [if_neg hp, if_pos ((index_sgn _).2 hp)]
    constructor
    · intro s' e
      cases hp : sgn s.data.toList[i]
      · rw [hp] at e; simp at e
      · exact ⟨trivial, fun r hr => Ev.to _ (fun k => by rw [key, hp, if_pos rfl]) hr⟩
    · intro r e
      cases hp : sgn s.data.toList[i]
      · rw [hp] at e
        cases e
        exact Ev.stop fun k => by rw [key, hp]; rfl
      · rw [hp] at e; simp at e
  · exact Ev.stop fun k => by simp only [impl_AreDeliveries.l0, within_f, Option.bind_some]; rw [if_neg (by rw [len_data]; omega)]
theorem cross_eq (a b c : Int) : impl_crossingsAt.f a b c = spec_poCross.f a b c := by
  unfold impl_crossingsAt.f spec_poCross.f
  by_cases h1 : b = c
  · rw [if_pos h1, if_pos h1]
    by_cases h2 : a = 98
    · rw [if_pos h2, if_pos h2]
    rw [if_neg h2, if_neg h2]
    by_cases h3 : a = 114
    · subst h3; simp
    · by_cases h4 : a = 108
      · subst h4; simp
      · simp [h3, h4]
  · rw [if_neg h1, if_neg h1]
theorem cross_some (a b c : Int) : ∃ r, spec_poCross.f a b c = some r := by
  unfold spec_poCross.f
  repeat' split
  all_goals exact ⟨_, rfl⟩
theorem l0_eq (s : ByteArray) (l : List Int) (n : Int) : ∀ k a b i, impl_RouteCrossings.l0 k s a b l n i = spec_RouteCrossings.l0 k s a b l n i
  | 0, _, _, _ => rfl
  | k + 1, a, b, i => by simp only [impl_RouteCrossings.l0, spec_RouteCrossings.l0, cross_eq, l0_eq s l n k]
theorem l0_ev (s : ByteArray) (l : List Int) (hl : l.length ≤ 1048576) (hs : l.length = s.size) : ∃ r, Ev (fun k => spec_RouteCrossings.l0 k s 0 0 l (l.length : Int) 0) r := by
  have key : ∀ (d i : Nat) (a b : Int), i + d = l.length → ∃ r, Ev (fun k => spec_RouteCrossings.l0 k s a b l (l.length : Int) (i : Int)) r := by
    intro d
    induction d with
    | zero =>
      intro i a b hi
      exact ⟨_, Ev.stop fun k => by simp only [spec_RouteCrossings.l0]; rw [if_neg (by omega)]⟩
    | succ d ih =>
      intro i a b hi
      obtain ⟨c, hc⟩ := cross_some (bt s i) b (rd l i)
      obtain ⟨r, hr⟩ := ih (i + 1) (wrap64 (a + c)) (rd l i) (by omega)
      refine ⟨r, Ev.to _ (fun k => ?_) hr⟩
      simp only [spec_RouteCrossings.l0]
      rw [if_pos (by omega), if_pos (by omega), if_pos (by omega), if_pos (by omega), hc, Option.bind_some, w64 (x := (i : Int) + 1) (by omega) (by omega)]
      rfl
  exact key l.length 0 0 0 (by omega)
theorem both (s : ByteArray) (l : List Int) (hs : s.size ≤ 1048576) (hl : l.length ≤ 1048576) : ∃ r, Ev (fun k => spec_RouteCrossings.f k s l) r ∧ Ev (fun k => impl_RouteCrossings.f k s l) r := by
  unfold spec_RouteCrossings.f impl_RouteCrossings.f
  have n1 : Ev (fun k => spec_RouteCrossings.j0 k s l true) (0, false) := Ev.stop fun k => rfl
  have n2 : Ev (fun k => impl_RouteCrossings.j0 k s l true) (0, false) := Ev.stop fun k => rfl
  cases hd : deliv s
  · exact ⟨_, Ev.bind (poGood_ev s hs) (by rw [hd]; exact Ev.itef (by simp) n1), Ev.bind (AreDeliveries_ev s hs) (by rw [hd]; exact Ev.itef (by simp) n2)⟩
  by_cases hlen : (l.length : Int) = (s.size : Int)
  · cases ha : l.all fun x => decide (0 ≤ x ∧ x ≤ 1)
    · exact ⟨_, Ev.bind (poGood_ev s hs) (by rw [hd]; exact Ev.itet rfl (Ev.itet hlen (Ev.bind (l1All_ev l hl 0 1) (by rw [ha]; exact n1)))), Ev.bind (AreDeliveries_ev s hs) (by rw [hd]; exact Ev.itet rfl (Ev.itet hlen (Ev.bind (allWithin_ev l hl 0 1) (by rw [ha]; exact n2))))⟩
    · obtain ⟨r, hr⟩ := l0_ev s l hl (by omega)
      refine ⟨r, Ev.bind (poGood_ev s hs) (by rw [hd]; exact Ev.itet rfl (Ev.itet hlen (Ev.bind (l1All_ev l hl 0 1) (by rw [ha]; exact Ev.to _ (fun k => by simp only [spec_RouteCrossings.j0]; rfl) hr)))), Ev.bind (AreDeliveries_ev s hs) (by rw [hd]; exact Ev.itet rfl (Ev.itet hlen (Ev.bind (allWithin_ev l hl 0 1) (by rw [ha]; exact Ev.to _ (fun k => by simp only [impl_RouteCrossings.j0, l0_eq]; rfl) hr))))⟩
  · exact ⟨_, Ev.bind (poGood_ev s hs) (by rw [hd]; exact Ev.itet rfl (Ev.itef hlen n1)), Ev.bind (AreDeliveries_ev s hs) (by rw [hd]; exact Ev.itet rfl (Ev.itef hlen n2))⟩
theorem main : laws_FnExactRouteCrossings.Pure := by
  intro s l _ _ _ _
  refine Ev.rounds ?_
  unfold laws_FnExactRouteCrossings.f
  by_cases h : (s.size : Int) > 1048576
  · exact Ev.itet h (Ev.now _)
  by_cases h' : (l.length : Int) > 1048576
  · exact Ev.itef h (Ev.itet h' (Ev.now _))
  · have hs : s.size ≤ 1048576 := by omega
    have hl : l.length ≤ 1048576 := by omega
    obtain ⟨r, h1, h2⟩ := both s l hs hl
    refine Ev.itef h (Ev.itef h' (Ev.bind (toIntS_ev l hl) (Ev.bind h1 (Ev.bind (toIntS_ev l hl) (Ev.bind h2 (Ev.itet rfl (Ev.succ ?_)))))))
    simp only [laws_FnExactRouteCrossings.j0]
    exact Ev.itef (by simp) (Ev.bind (toIntS_ev l hl) (Ev.bind (eqIntS_ev l hl) (Ev.itet rfl (Ev.now _))))
end RouteCrossings
theorem FnExactRouteCrossings : laws_FnExactRouteCrossings.Pure := RouteCrossings.main
end Go.Proofs.Ytghcfpnjkhefeaa.Pure
