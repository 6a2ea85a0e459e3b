/- The Lean functions printed of both sides say the same numbers of a route, for all arguments. No condition beyond the printed bounds. -/
import Derived.Test.YtghcfpnjkhefeaaWalkFnExactRouteNumbers
import Derived.Test.YtghcfpnjkhefeaaKit
namespace Go.Proofs.Ytghcfpnjkhefeaa.Pure
open Go.RowKit Go.Proofs.YtghcfpnjkhefeaaW.PrintWords Go.Proofs.YtghcfpnjkhefeaaW.PrintLast Go.Proofs.YtghcfpnjkhefeaaW.PrintMore Go.Proofs.YtghcfpnjkhefeaaKit
open Go.Proofs.Ytghcfpnjkhefeaa.PFnExactRouteNumbers
namespace RouteNumbers
theorem ge_le (a b c : Int) : (if a ≥ b then some (decide (a ≤ c)) else some false) = some (decide (b ≤ a ∧ a ≤ c)) := by
  by_cases h : a ≥ b
  · rw [if_pos h]; simp [show b ≤ a from h]
  · rw [if_neg h]; simp; omega
theorem l1In_f (a b c : Int) : spec_l1In.f a b c = some (decide (b ≤ a ∧ a ≤ c)) := by unfold spec_l1In.f; exact ge_le a b c
theorem within_f (a b c : Int) : impl_within.f a b c = some (decide (b ≤ a ∧ a ≤ c)) := by unfold impl_within.f; exact ge_le a b c
/-! Texts of deliveries. -/
def sgn (b : UInt8) : Bool := b == 108 || (b == 114 || (b == 98 || b == 45))
def deliv (s : ByteArray) : Bool := decide (1 ≤ (s.size : Int) ∧ (s.size : Int) ≤ 60) && s.data.toList.all sgn
theorem deliv_len {s : ByteArray} (h : deliv s = true) : 1 ≤ s.size ∧ s.size ≤ 60 := by
  simp only [deliv, Bool.and_eq_true, decide_eq_true_eq] at h; omega
theorem deliv_mem {s : ByteArray} (h : deliv s = true) : ∀ b ∈ s.data.toList, sgn b = true := by
  simp only [deliv, Bool.and_eq_true, List.all_eq_true] at h
  exact h.2
theorem eq108 (b : UInt8) : ((b.toNat : Int) = 108) ↔ b = 108 := byte_eq b 108 (by decide)
theorem eq114 (b : UInt8) : ((b.toNat : Int) = 114) ↔ b = 114 := byte_eq b 114 (by decide)
theorem eq98 (b : UInt8) : ((b.toNat : Int) = 98) ↔ b = 98 := byte_eq b 98 (by decide)
theorem eq45 (b : UInt8) : ((b.toNat : Int) = 45) ↔ b = 45 := byte_eq b 45 (by decide)
theorem poGood_l0 (s : ByteArray) (hs : s.size ≤ 1048576) : Ev (fun k => spec_poGood.l0 k s 0) (s.data.toList.all sgn) := by
  rw [← runL_all _ s.data.toList 0]
  refine ev_loop0 s.data.toList (fun k i (_ : Unit) => spec_poGood.l0 k s i) _ _ (fun _ _ => True) () trivial (fun i u hi _ => ?_) (fun u _ => ?_)
  · have hi' : i < s.size := by rw [← len_data]; exact hi
    have hw : wrap64 ((i : Int) + 1) = (i : Int) + 1 := w64 (by omega) (by omega)
    have key : ∀ k, spec_poGood.l0 (k + 1) s (i : Int) = if sgn s.data.toList[i] = true then spec_poGood.l0 k s ((i : Int) + 1) else some false := by
      intro k
      simp only [spec_poGood.l0]
      rw [if_pos (by omega), if_pos (by omega), bt_get s i hi, hw]
      simp only [eq108, eq114, eq98, eq45, sgn, Bool.or_eq_true, beq_iff_eq]
      by_cases h1 : s.data.toList[i] = 108
      · rw [if_pos h1, if_pos (Or.inl h1)]
      rw [if_neg h1]
      by_cases h2 : s.data.toList[i] = 114
      · rw [if_pos h2, if_pos (Or.inr (Or.inl h2))]
      rw [if_neg h2]
      by_cases h3 : s.data.toList[i] = 98
      · rw [if_pos h3, if_pos (Or.inr (Or.inr (Or.inl h3)))]
      rw [if_neg h3]
      by_cases h4 : s.data.toList[i] = 45
      · rw [if_pos h4, if_pos (Or.inr (Or.inr (Or.inr h4)))]
      · rw [if_neg h4, if_neg (by rintro (h | h | h | h) <;> contradiction)]
    constructor
    · intro s' e
      cases hp : sgn s.data.toList[i]
      · rw [hp] at e; simp at e
      · exact ⟨trivial, fun r hr => Ev.to _ (fun k => by rw [key, hp, if_pos rfl]) hr⟩
    · intro r e
      cases hp : sgn s.data.toList[i]
      · rw [hp] at e
        cases e
        exact Ev.stop fun k => by rw [key, hp]; rfl
      · rw [hp] at e; simp at e
  · exact Ev.stop fun k => by simp only [spec_poGood.l0]; rw [if_neg (by rw [len_data]; omega)]
theorem poGood_ev (s : ByteArray) (hs : s.size ≤ 1048576) : Ev (fun k => spec_poGood.f k s) (deliv s) := by
  unfold spec_poGood.f deliv
  simp only [l1In_f, Option.bind_some]
  cases decide (1 ≤ (s.size : Int) ∧ (s.size : Int) ≤ 60)
  · exact Ev.itef (by simp) (Ev.now _)
  · exact Ev.itet rfl (poGood_l0 s hs)
theorem index_sgn (b : UInt8) : (Lib.indexByte [108, 114, 98, 45] b < 0) ↔ ¬ sgn b = true := by
  have h1 : Lib.indexByte [45] b = if 45 = b then 0 else -1 := by simp [Lib.indexByte]
  simp only [Lib.indexByte, sgn, Bool.or_eq_true, beq_iff_eq]
  by_cases e1 : (108 : UInt8) = b
  · subst e1; simp
  by_cases e2 : (114 : UInt8) = b
  · subst e2; simp
  by_cases e3 : (98 : UInt8) = b
  · subst e3; simp
  by_cases e4 : (45 : UInt8) = b
  · subst e4; simp
  · simp [e1, e2, e3, e4, Ne.symm e1, Ne.symm e2, Ne.symm e3, Ne.symm e4]
theorem AreDeliveries_ev (s : ByteArray) (hs : s.size ≤ 1048576) : Ev (fun k => impl_AreDeliveries.f k s) (deliv s) := by
  unfold impl_AreDeliveries.f
  have e : deliv s = runL (fun _ x (_ : Unit) => if sgn x then (Sum.inl () : Unit ⊕ Bool) else .inr false) (fun _ => decide (1 ≤ (s.size : Int) ∧ (s.size : Int) ≤ 60)) 0 s.data.toList () := by
    have gen : ∀ (l : List UInt8) (i : Nat) (c : Bool), runL (fun _ x (_ : Unit) => if sgn x then (Sum.inl () : Unit ⊕ Bool) else .inr false) (fun _ => c) i l () = (c && l.all sgn) := by
      intro l
      induction l with
      | nil => intro i c; simp [runL]
      | cons x xs ih =>
        intro i c
        simp only [runL, List.all_cons]
        cases sgn x
        · simp
        · simp only [if_true, Bool.true_and]; exact ih _ _
    rw [gen]
    rfl
  rw [e]
  refine ev_loop0 s.data.toList (fun k i (_ : Unit) => impl_AreDeliveries.l0 k s (s.size : Int) i) _ _ (fun _ _ => True) () trivial (fun i u hi _ => ?_) (fun u _ => ?_)
  · have hi' : i < s.size := by rw [← len_data]; exact hi
    have hw : wrap64 ((i : Int) + 1) = (i : Int) + 1 := w64 (by omega) (by omega)
    have key : ∀ k, impl_AreDeliveries.l0 (k + 1) s (s.size : Int) (i : Int) = if sgn s.data.toList[i] = true then impl_AreDeliveries.l0 k s (s.size : Int) ((i : Int) + 1) else some false := by
      intro k
      simp only [impl_AreDeliveries.l0, strings_IndexByte.f, Option.bind_some]
      rw [if_pos (by omega), if_pos (by omega), if_pos (by omega), bt_get s i hi, byte_back, hw]
      by_cases hp : sgn s.data.toList[i] = true
      · rw [if_pos hp, if_neg (fun h => (index_sgn _).1 h hp)]
      · rw [if_neg hp, if_pos ((index_sgn _).2 hp)]
    constructor
    · intro s' e
      cases hp : sgn s.data.toList[i]
      · rw [hp] at e; simp at e
      · exact ⟨trivial, fun r hr => Ev.to _ (fun k => by rw [key, hp, if_pos rfl]) hr⟩
    · intro r e
      cases hp : sgn s.data.toList[i]
      · rw [hp] at e
        cases e
        exact Ev.stop fun k => by rw [key, hp]; rfl
      · rw [hp] at e; simp at e
  · exact Ev.stop fun k => by simp only [impl_AreDeliveries.l0, within_f, Option.bind_some]; rw [if_neg (by rw [len_data]; omega)]
/-! The table of the spec's side and the best route of the implementation say the same. -/
theorem cross_eq (a b c : Int) : impl_crossingsAt.f a b c = spec_poCross.f a b c := by
  unfold impl_crossingsAt.f spec_poCross.f
  by_cases h1 : b = c
  · rw [if_pos h1, if_pos h1]
    by_cases h2 : a = 98
    · rw [if_pos h2, if_pos h2]
    rw [if_neg h2, if_neg h2]
    by_cases h3 : a = 114
    · subst h3; simp
    · by_cases h4 : a = 108
      · subst h4; simp
      · simp [h3, h4]
  · rw [if_neg h1, if_neg h1]
theorem crossR (b s t : Int) : impl_bestRoute.cross b s t = spec_poTable.cross b s t := by unfold impl_bestRoute.cross spec_poTable.cross; rw [cross_eq]
theorem upd_eq (o c : Int) (p : Int × Int) : impl_bestRoute.upd o c p = spec_poTable.upd o c p := by
  have h : ∀ x : Int, mn 1000000000000001 x = spec_poTable.least x 1000000000000001 := by
    intro x; unfold mn spec_poTable.least; rfl
  unfold impl_bestRoute.upd spec_poTable.upd
  rw [h, h]
def good (m : Int) (p : Int × Int) : Prop := (p.1 = 1000000 ∧ p.2 = 0) ∨ p.1 ≤ m
theorem side_eq {b m : Int} {R : (Nat → Int) × (Nat → Int)} (hm : m ≤ 200) (hR : ∀ t, good m (R.1 t, R.2 t)) (hok : ∀ t, spec_poTable.Ok (R.1 t, R.2 t)) (s : Nat) :
    ∀ k, impl_bestRoute.side b R s k = spec_poTable.side b R s k ∧ good (m + 2) (spec_poTable.side b R s k)
  | 0 => ⟨rfl, .inl ⟨rfl, rfl⟩⟩
  | k + 1 => by
    obtain ⟨e, g⟩ := side_eq hm hR hok s k
    have o := spec_poTable.side_ok (b := b) hok s k
    have hx := (spec_poTable.cross_f b s k).2
    have hk := hR k
    unfold impl_bestRoute.side spec_poTable.side
    rw [e, crossR, upd_eq]
    generalize spec_poTable.side b R s k = p at g o
    generalize spec_poTable.cross b s k = x at hx
    obtain ⟨f, c⟩ := p
    simp only [good, spec_poTable.Ok] at g o hk ⊢
    by_cases h : R.1 k = 1000000
    · rw [if_pos h]
      have hc : R.2 k = 0 := by omega
      refine ⟨?_, g⟩
      rw [h, hc]
      unfold spec_poTable.upd spec_poTable.least
      simp only
      by_cases h1 : x + 1000000 = f
      · rw [if_neg (by omega), if_pos h1]
        congr 1
        by_cases h2 : c + 0 < 1000000000000001
        · rw [if_pos h2]; omega
        · rw [if_neg h2]; omega
      · rw [if_neg (by omega), if_neg h1]
    · rw [if_neg h]
      refine ⟨rfl, ?_⟩
      unfold spec_poTable.upd
      simp only
      by_cases h1 : x + R.1 k < f
      · rw [if_pos h1]; right; simp only; omega
      · rw [if_neg h1]
        by_cases h2 : x + R.1 k = f
        · rw [if_pos h2]; right; simp only; omega
        · rw [if_neg h2]; exact g
theorem side_fin {b m : Int} {R : (Nat → Int) × (Nat → Int)} (hm : m ≤ 200) (hf : R.1 0 ≤ m ∨ R.1 1 ≤ m) (s : Nat) : (spec_poTable.side b R s 2).1 ≤ m + 2 := by
  have up : ∀ k, (spec_poTable.side b R s (k + 1)).1 ≤ (spec_poTable.side b R s k).1 ∧ (R.1 k ≤ m → (spec_poTable.side b R s (k + 1)).1 ≤ m + 2) := by
    intro k
    have hx := (spec_poTable.cross_f b s k).2
    rw [spec_poTable.side]
    generalize spec_poTable.side b R s k = p
    generalize spec_poTable.cross b s k = x at hx
    by_cases h : R.1 k = 1000000
    · rw [if_pos h]; exact ⟨Int.le_refl _, fun h' => by omega⟩
    · rw [if_neg h]
      unfold spec_poTable.upd
      by_cases h1 : x + R.1 k < p.1
      · rw [if_pos h1]; simp only; omega
      · rw [if_neg h1]
        by_cases h2 : x + R.1 k = p.1
        · rw [if_pos h2]; simp only; omega
        · rw [if_neg h2]; omega
  have h0 := up 0
  have h1 := up 1
  rcases hf with h | h
  · have := h0.2 h; have := h1.1; simp only [Nat.zero_add, Nat.reduceAdd] at *; omega
  · exact h1.2 h
theorem end_eq (a : Int) : impl_bestRoute.endRow a = spec_poTable.endRow a := by
  unfold impl_bestRoute.endRow spec_poTable.endRow
  congr 1 <;> funext s <;> (by_cases h : a = 2 ∨ a = (s : Int)) <;> (first | (rw [if_pos h, if_neg (by omega)]) | (rw [if_neg h, if_pos (by omega)]))
theorem end_ok (a : Int) (t : Nat) : spec_poTable.Ok ((spec_poTable.endRow a).1 t, (spec_poTable.endRow a).2 t) := by
  unfold spec_poTable.Ok spec_poTable.endRow
  simp only
  split <;> omega
theorem row_eq (a : Int) : ∀ l : List Int, l.length ≤ 60 → impl_bestRoute.rowAt (impl_bestRoute.endRow a) l = spec_poTable.rowAt (spec_poTable.endRow a) l ∧ ∀ t, good (2 * (l.length : Int)) ((spec_poTable.rowAt (spec_poTable.endRow a) l).1 t, (spec_poTable.rowAt (spec_poTable.endRow a) l).2 t)
  | [], _ => ⟨end_eq a, fun t => by
      unfold good spec_poTable.rowAt spec_poTable.endRow
      simp only
      by_cases h : a = 2 ∨ a = (t : Int)
      · rw [if_pos h]; right; simp
      · rw [if_neg h, if_neg h]; left; exact ⟨rfl, rfl⟩⟩
  | b :: l, hl => by
    simp only [List.length_cons] at hl
    obtain ⟨e, g⟩ := row_eq a l (by omega)
    have hs := fun s => side_eq (b := b) (by omega) g (fun t => spec_poTable.rowAt_ok (end_ok a) l t) s 2
    constructor
    · unfold impl_bestRoute.rowAt spec_poTable.rowAt
      rw [e]
      congr 1 <;> funext s <;> rw [(hs s).1]
    · intro t
      have := (hs t).2
      rw [List.length_cons, show (2 * ((l.length + 1 : Nat) : Int)) = 2 * (l.length : Int) + 2 by omega]
      exact this
theorem R_eq (s : ByteArray) (a : Int) (hs : s.size ≤ 60) (j : Nat) : impl_bestRoute.R s a j = spec_poTable.R s a j := (row_eq a _ (by rw [List.length_drop, bytesOf_length]; omega)).1
theorem row_fin (a : Int) (ha : 0 ≤ a ∧ a ≤ 2) : ∀ l : List Int, l.length ≤ 60 → (spec_poTable.rowAt (spec_poTable.endRow a) l).1 0 ≤ 2 * (l.length : Int) ∨ (spec_poTable.rowAt (spec_poTable.endRow a) l).1 1 ≤ 2 * (l.length : Int)
  | [], _ => by
    unfold spec_poTable.rowAt spec_poTable.endRow
    simp only [List.length_nil]
    by_cases h : a = 1
    · right; rw [if_pos (by omega)]; omega
    · left; rw [if_pos (by omega)]; omega
  | b :: l, hl => by
    simp only [List.length_cons] at hl
    left
    have := side_fin (b := b) (m := 2 * (l.length : Int)) (by omega) (row_fin a ha l (by omega)) 0
    rw [List.length_cons, show (2 * ((l.length + 1 : Nat) : Int)) = 2 * (l.length : Int) + 2 by omega]
    exact this
theorem R_fin (s : ByteArray) (a : Int) (ha : 0 ≤ a ∧ a ≤ 2) (hs : s.size ≤ 60) (j : Nat) (hj : j < s.size) (t : Nat) : (spec_poTable.R s a j).1 t ≤ 200 := by
  rw [spec_poTable.R_step s a j hj]
  have hl : ((bytesOf s).drop (j + 1)).length ≤ 60 := by rw [List.length_drop, bytesOf_length]; omega
  have := side_fin (b := bt s j) (m := 2 * (((bytesOf s).drop (j + 1)).length : Int)) (R := spec_poTable.R s a (j + 1)) (by omega) (row_fin a ha _ hl) t
  simp only; omega
theorem R_good (s : ByteArray) (a : Int) (hs : s.size ≤ 60) (j t : Nat) : good 200 ((spec_poTable.R s a j).1 t, (spec_poTable.R s a j).2 t) := by
  have hl : ((bytesOf s).drop j).length ≤ 60 := by rw [List.length_drop, bytesOf_length]; omega
  have := (row_eq a _ hl).2 t
  unfold good at *
  rcases this with h | h
  · exact .inl h
  · right; exact Int.le_trans h (by omega)
theorem tab_len (n : Nat) (f : Nat → Nat → Int) : (spec_poTable.tab n f).length = n + 1 := by simp [spec_poTable.tab]
theorem tab_at (n : Nat) (f : Nat → Nat → Int) {j : Nat} (hj : j ≤ n) : rd_L2 (spec_poTable.tab n f) (j : Int) = [f j 0, f j 1] := by
  unfold rd_L2 spec_poTable.tab
  rw [List.getD_eq_getElem?_getD, List.getElem?_map, show ((j : Int)).toNat = j by omega, List.getElem?_range (by omega)]
  rfl
theorem tab_at0 (n : Nat) (f : Nat → Nat → Int) : rd_L2 (spec_poTable.tab n f) 0 = [f 0 0, f 0 1] := tab_at n f (Nat.zero_le n)
def asked (s : ByteArray) (a : Int) : Bool := deliv s && decide (0 ≤ a ∧ a ≤ 2)
theorem asked_len {s : ByteArray} {a : Int} (h : asked s a = true) : 1 ≤ s.size ∧ s.size ≤ 60 ∧ 0 ≤ a ∧ a ≤ 2 := by
  simp only [asked, Bool.and_eq_true, decide_eq_true_eq] at h
  exact ⟨(deliv_len h.1).1, (deliv_len h.1).2, h.2⟩
theorem isDelivered_ev (s : ByteArray) (a : Int) (hs : s.size ≤ 1048576) : Ev (fun k => impl_isDelivered.f k s a) (asked s a) := by
  unfold impl_isDelivered.f asked
  refine Ev.bind (AreDeliveries_ev s hs) ?_
  cases deliv s
  · exact Ev.itef (by simp) (Ev.now _)
  · exact Ev.itet rfl (by simp only [within_f, Option.bind_some, Bool.true_and]; exact Ev.now _)
theorem table_f (s : ByteArray) (a : Int) (hs : s.size ≤ 60) : spec_poTable.f s a = some (spec_poTable.tab s.size (fun j t => (spec_poTable.R s a j).1 t), spec_poTable.tab s.size (fun j t => (spec_poTable.R s a j).2 t)) := by
  unfold spec_poTable.f; rw [if_pos hs]
theorem best_f (s : ByteArray) (a : Int) (hs : s.size ≤ 60) : impl_bestRoute.f s a = some ((spec_poTable.R s a 0).1 0, impl_bestRoute.sides s a s.size, (spec_poTable.R s a 0).2 0) := by
  unfold impl_bestRoute.f; rw [if_pos hs, R_eq s a hs]
theorem eqIntS_ev (l : List Int) (hl : l.length ≤ 1048576) : Ev (fun k => laws_eqIntS.f k l l) true := by
  unfold laws_eqIntS.f
  refine Ev.itet rfl ?_
  have := runL_all (fun _ => true) l 0
  rw [show (l.all fun _ => true) = true by simp] at this
  rw [← this]
  refine ev_loop0 l (fun k i (_ : Unit) => laws_eqIntS.l0 k l l i) _ _ (fun _ _ => True) () trivial (fun i s hi _ => ⟨fun s' e => ⟨trivial, fun r hr => Ev.to _ (fun k => ?_) hr⟩, fun r e => by simp at e⟩) (fun s _ => Ev.stop fun k => ?_)
  · simp only [laws_eqIntS.l0]
    rw [if_pos (by omega), if_pos (by omega), if_pos (by omega), if_pos trivial, w64 (by omega) (by omega)]
  · simp only [laws_eqIntS.l0]
    rw [if_neg (by omega)]
/-! The laws' marks in memory. -/
def upto (k : Int) : Nat → List Int
  | 0 => []
  | n + 1 => k :: upto (k + 1) n
theorem upto_length (k : Int) (n : Nat) : (upto k n).length = n := by
  induction n generalizing k with
  | zero => rfl
  | succ n ih => simp [upto, ih]
theorem upto_get (k : Int) (n i : Nat) (h : i < (upto k n).length) : (upto k n)[i] = k + i := by
  induction n generalizing k i with
  | zero => simp [upto] at h
  | succ n ih =>
    cases i with
    | zero => simp [upto]
    | succ i =>
      simp only [upto, List.getElem_cons_succ]
      rw [ih (k + 1) i (by simpa [upto] using h)]
      omega
theorem upto_snoc (k : Int) (n : Nat) : upto k (n + 1) = upto k n ++ [k + n] := by
  induction n generalizing k with
  | zero => simp [upto]
  | succ n ih =>
    rw [upto, ih (k + 1)]
    simp only [upto, List.cons_append, List.cons.injEq, true_and]
    congr 2
    omega
theorem markIntS_ev (l : List Int) (hl : l.length ≤ 1048576) (k0 : Int) (h0 : 0 ≤ k0) (h1 : k0 ≤ 1048577) : Ev (fun k => laws_markIntS.f k l k0) (k0 + l.length, upto k0 l.length) := by
  unfold laws_markIntS.f
  have key : ∀ (d i : Nat), i + d = l.length → Ev (fun k => laws_markIntS.l0 k (upto k0 i ++ l.drop i) (k0 + i) (i : Int)) (k0 + l.length, upto k0 l.length) := by
    intro d
    induction d with
    | zero =>
      intro i hi
      obtain rfl : i = l.length := by omega
      refine Ev.stop fun k => ?_
      simp only [laws_markIntS.l0]
      rw [if_neg (by simp [upto_length])]
      simp
    | succ d ih =>
      intro i hi
      have hlt : i < l.length := by omega
      refine Ev.to _ (fun k => ?_) (ih (i + 1) (by omega))
      simp only [laws_markIntS.l0]
      have hlen : ((upto k0 i ++ l.drop i).length : Int) = l.length := by simp [upto_length]; omega
      rw [hlen, if_pos (by omega), if_pos (by omega), w64 (x := k0 + i + 1) (by omega) (by omega), w64 (x := (i : Int) + 1) (by omega) (by omega)]
      have e : (upto k0 i ++ l.drop i).set (i : Int).toNat (k0 + i) = upto k0 (i + 1) ++ l.drop (i + 1) := by
        rw [Int.toNat_natCast, List.set_append_right _ _ (by simp [upto_length]), upto_length, Nat.sub_self, List.drop_eq_getElem_cons hlt, List.set_cons_zero, upto_snoc, List.append_assoc]
        rfl
      rw [e, show k0 + (i : Int) + 1 = k0 + ((i + 1 : Nat) : Int) by omega, show (i : Int) + 1 = ((i + 1 : Nat) : Int) by omega]
  have := key l.length 0 (by omega)
  simpa [upto] using this
theorem heldIntS_ev (n : Nat) (hn : n ≤ 1048576) (k0 : Int) (h0 : 0 ≤ k0) (h1 : k0 ≤ 1048577) : Ev (fun k => laws_heldIntS.f k (upto k0 n) k0) (k0 + n) := by
  unfold laws_heldIntS.f
  have key : ∀ (d i : Nat), i + d = n → Ev (fun k => laws_heldIntS.l0 k (upto k0 n) (k0 + i) (i : Int)) (k0 + n) := by
    intro d
    induction d with
    | zero =>
      intro i hi
      obtain rfl : i = n := by omega
      refine Ev.stop fun k => ?_
      simp only [laws_heldIntS.l0]
      rw [if_neg (by simp [upto_length])]
    | succ d ih =>
      intro i hi
      refine Ev.to _ (fun k => ?_) (ih (i + 1) (by omega))
      simp only [laws_heldIntS.l0]
      have hlen : ((upto k0 n).length : Int) = n := by simp [upto_length]
      have hi' : i < (upto k0 n).length := by rw [upto_length]; omega
      rw [hlen, if_pos (by omega), if_pos (by omega), rd_get _ i hi', upto_get k0 n i hi', if_pos rfl, w64 (x := k0 + i + 1) (by omega) (by omega), w64 (x := (i : Int) + 1) (by omega) (by omega)]
      rw [show k0 + (i : Int) + 1 = k0 + ((i + 1 : Nat) : Int) by omega, show (i : Int) + 1 = ((i + 1 : Nat) : Int) by omega]
  have := key n 0 (by omega)
  simpa using this
/-! The first best route. -/
def F (s : ByteArray) (a : Int) : Nat → Nat → Int := fun j t => (spec_poTable.R s a j).1 t
theorem rd2 (f : Nat → Int) {c : Nat} (hc : c < 2) : rd [f 0, f 1] (c : Int) = f c := by
  rcases (show c = 0 ∨ c = 1 by omega) with rfl | rfl <;> rfl
theorem sides_succ (s : ByteArray) (a : Int) (i : Nat) : impl_bestRoute.sides s a (i + 1) = impl_bestRoute.sides s a i ++ [((impl_bestRoute.come s a (i + 1) : Nat) : Int)] := by
  unfold impl_bestRoute.sides
  rw [List.range_succ, List.map_append]
  rfl
theorem sides_len (s : ByteArray) (a : Int) (i : Nat) : (impl_bestRoute.sides s a i).length = i := by simp [impl_bestRoute.sides]
theorem come_succ (s : ByteArray) (a : Int) (hs : s.size ≤ 60) (i : Nat) : impl_bestRoute.come s a (i + 1) = if spec_poTable.cross (bt s i) (impl_bestRoute.come s a i : Nat) 0 + F s a (i + 1) 0 = F s a i (impl_bestRoute.come s a i) then 0 else 1 := by
  rw [impl_bestRoute.come]
  unfold impl_bestRoute.leave
  rw [R_eq s a hs, R_eq s a hs, crossR]
  rfl
theorem l0_ev (s : ByteArray) (a : Int) (hs : s.size ≤ 60) (ha : 0 ≤ a ∧ a ≤ 2) : ∀ (d i : Nat), i + d = s.size → Ev (fun k => spec_poSides.l0 k s (spec_poTable.tab s.size (F s a)) (impl_bestRoute.sides s a i) ((impl_bestRoute.come s a i : Nat) : Int) (i : Int)) (impl_bestRoute.sides s a s.size) := by
  intro d
  induction d with
  | zero =>
    intro i hi
    obtain rfl : i = s.size := by omega
    exact Ev.stop fun k => by simp only [spec_poSides.l0]; rw [if_neg (by omega)]
  | succ d ih =>
    intro i hi
    refine Ev.to _ (fun k => ?_) (ih (i + 1) (by omega))
    have hw : wrap64 ((i : Int) + 1) = ((i + 1 : Nat) : Int) := by rw [w64 (by omega) (by omega)]; rfl
    have hc := impl_bestRoute.come_lt s a i
    have t1 := tab_at s.size (F s a) (j := i + 1) (by omega)
    have t0 := tab_at s.size (F s a) (j := i) (by omega)
    have hx := spec_poTable.cross_f (bt s i) (impl_bestRoute.come s a i : Nat) 0
    have hfin := R_fin s a ha hs i (by omega) (impl_bestRoute.come s a i)
    have hg := R_good s a hs (i + 1) 0
    have hok := spec_poTable.R_ok s a (i + 1) 0
    have hcs := come_succ s a hs i
    rw [sides_succ]
    simp only [spec_poSides.l0]
    rw [hw, t1, t0, tab_len, if_pos (by omega), if_pos (by omega), if_pos (by omega), if_pos (by simp), sides_len]
    rw [show rd [F s a (i + 1) 0, F s a (i + 1) 1] 0 = F s a (i + 1) 0 from rfl, rd2 (F s a i) hc]
    change (spec_poTable.R s a i).1 (impl_bestRoute.come s a i) ≤ 200 at hfin
    have hfin' : F s a i (impl_bestRoute.come s a i) ≤ 200 := hfin
    have hok' : 0 ≤ F s a (i + 1) 0 ∧ F s a (i + 1) 0 ≤ 1000000 := ⟨hok.1, hok.2.1⟩
    rw [hx.1, Option.bind_some]
    generalize hC : impl_bestRoute.come s a i = c at *
    generalize spec_poTable.cross (bt s i) (c : Nat) 0 = x at *
    generalize F s a (i + 1) 0 = f1 at *
    generalize F s a i c = f0 at *
    by_cases hF : f1 = 1000000
    · rw [if_pos hF, if_pos (by omega)]
      rw [if_neg (by omega)] at hcs
      rw [hcs]
      rfl
    · rw [if_neg hF, if_pos (by omega), if_pos (by omega), if_pos (by omega), if_pos (by simp; omega), w64 (by omega) (by omega)]
      by_cases he : x + f1 = f0
      · rw [if_pos he, if_pos (by omega)]
        rw [if_pos he] at hcs
        rw [hcs]
        rfl
      · rw [if_neg he, if_pos (by omega)]
        rw [if_neg he] at hcs
        rw [hcs]
        rfl
theorem poSides_ev (s : ByteArray) (a : Int) (hs : s.size ≤ 60) (ha : 0 ≤ a ∧ a ≤ 2) : Ev (fun k => spec_poSides.f k s a) (impl_bestRoute.sides s a s.size) := by
  unfold spec_poSides.f
  rw [table_f s a hs]
  exact l0_ev s a hs ha s.size 0 (by omega)
/-! A street and its text. -/
def sgnR (b : UInt8) : Bool := b == 114 || b == 98
def fits (kd p : Int) (s : ByteArray) : Bool := decide (0 ≤ kd ∧ kd ≤ 2) && (decide (1 ≤ p ∧ p ≤ 1000) && (deliv s && (decide ((s.size : Int) = p) && (decide (kd > 0) || !s.data.toList.any sgnR))))
theorem fits_deliv {kd p : Int} {s : ByteArray} (h : fits kd p s = true) : deliv s = true := by
  simp only [fits, Bool.and_eq_true] at h
  exact h.2.2.1
theorem fits_len {kd p : Int} {s : ByteArray} (h : fits kd p s = true) : 1 ≤ s.size ∧ s.size ≤ 60 := deliv_len (fits_deliv h)
theorem fits_l0 (kd p : Int) (s : ByteArray) (hs : s.size ≤ 1048576) : Ev (fun k => spec_poFits.l0 k s 0 kd p) (decide (kd ≠ 0) || !s.data.toList.any sgnR) := by
  have key : ∀ (d i : Nat), i + d = s.data.toList.length → Ev (fun k => spec_poFits.l0 k s (i : Int) kd p) (decide (kd ≠ 0) || !(s.data.toList.drop i).any sgnR) := by
    intro d
    induction d with
    | zero =>
      intro i hi
      have e : s.data.toList.drop i = [] := List.drop_of_length_le (by omega)
      rw [e]
      have e2 : (decide (kd ≠ 0) || !([] : List UInt8).any sgnR) = true := by simp
      rw [e2]
      exact Ev.stop fun k => by simp only [spec_poFits.l0]; rw [if_neg (by rw [len_data] at hi; omega)]
    | succ d ih =>
      intro i hi
      have hlt : i < s.data.toList.length := by omega
      have hsz : i < s.size := by rw [← len_data]; exact hlt
      have hw : wrap64 ((i : Int) + 1) = ((i + 1 : Nat) : Int) := by rw [w64 (by omega) (by omega)]; rfl
      rw [List.drop_eq_getElem_cons hlt, List.any_cons]
      by_cases hk : kd = 0
      · subst hk
        by_cases h1 : s.data.toList[i] = 114
        · have e : (decide ((0 : Int) ≠ 0) || !(sgnR s.data.toList[i] || (s.data.toList.drop (i + 1)).any sgnR)) = false := by rw [h1]; simp [sgnR]
          rw [e]
          exact Ev.stop fun k => by simp only [spec_poFits.l0, bt_get s i hlt, eq114]; rw [if_pos (by omega), if_pos trivial, if_pos (by omega), if_pos h1]
        by_cases h2 : s.data.toList[i] = 98
        · have e : (decide ((0 : Int) ≠ 0) || !(sgnR s.data.toList[i] || (s.data.toList.drop (i + 1)).any sgnR)) = false := by rw [h2]; simp [sgnR]
          rw [e]
          exact Ev.stop fun k => by simp only [spec_poFits.l0, bt_get s i hlt, eq114, eq98]; rw [if_pos (by omega), if_pos trivial, if_pos (by omega), if_neg h1, if_pos h2]
        · have e : sgnR s.data.toList[i] = false := by unfold sgnR; rw [Bool.or_eq_false_iff]; exact ⟨beq_eq_false_iff_ne.mpr h1, beq_eq_false_iff_ne.mpr h2⟩
          rw [e, Bool.false_or]
          refine Ev.to _ (fun k => ?_) (ih (i + 1) (by omega))
          simp only [spec_poFits.l0, bt_get s i hlt, eq114, eq98]
          rw [if_pos (by omega), if_pos trivial, if_pos (by omega), if_neg h1, if_neg h2, hw]
      · have e : (decide (kd ≠ 0) || !(sgnR s.data.toList[i] || (s.data.toList.drop (i + 1)).any sgnR)) = (decide (kd ≠ 0) || !(s.data.toList.drop (i + 1)).any sgnR) := by simp [hk]
        rw [e]
        refine Ev.to _ (fun k => ?_) (ih (i + 1) (by omega))
        simp only [spec_poFits.l0]
        rw [if_pos (by omega), if_neg hk, hw]
  have := key s.data.toList.length 0 (by omega)
  simpa using this
theorem poFits_ev (kd p : Int) (s : ByteArray) (hs : s.size ≤ 1048576) : Ev (fun k => spec_poFits.f k kd p s) (fits kd p s) := by
  unfold spec_poFits.f spec_nuGood.f fits
  simp only [l1In_f, Option.bind_some]
  have no : ∀ (b : Bool), b = true → Ev (fun k => spec_poFits.j0 k s b kd p) false := by
    intro b hb
    refine Ev.succ ?_
    simp only [spec_poFits.j0]
    exact Ev.itet hb (Ev.now _)
  by_cases h1 : 0 ≤ kd ∧ kd ≤ 2
  · have e1 : decide (0 ≤ kd ∧ kd ≤ 2) = true := decide_eq_true h1
    rw [e1]
    simp only [if_true, Option.bind_some, Bool.true_and]
    by_cases h2 : 1 ≤ p ∧ p ≤ 1000
    · have e2 : decide (1 ≤ p ∧ p ≤ 1000) = true := decide_eq_true h2
      rw [e2]
      simp only [Bool.true_and]
      refine Ev.itet (by trivial) (Ev.bind (poGood_ev s hs) ?_)
      cases hd : deliv s
      · exact Ev.itef (by simp) (no _ rfl)
      · refine Ev.itet rfl ?_
        by_cases h3 : (s.size : Int) = p
        · have e3 : ((s.size : Int) != p) = false := by simpa using h3
          have e4 : decide ((s.size : Int) = p) = true := decide_eq_true h3
          rw [e3, e4]
          simp only [Bool.true_and]
          refine Ev.succ ?_
          simp only [spec_poFits.j0]
          refine Ev.itef (by simp) ?_
          have e5 : decide (kd > 0) = decide (kd ≠ 0) := by apply decide_eq_decide.mpr; omega
          rw [e5]
          exact fits_l0 kd p s hs
        · have e3 : ((s.size : Int) != p) = true := by simpa using h3
          have e4 : decide ((s.size : Int) = p) = false := decide_eq_false h3
          rw [e4]
          exact no _ e3
    · have e2 : decide (1 ≤ p ∧ p ≤ 1000) = false := decide_eq_false h2
      rw [e2]
      exact Ev.itef (by simp) (no _ rfl)
  · have e1 : decide (0 ≤ kd ∧ kd ≤ 2) = false := decide_eq_false h1
    rw [e1, Bool.false_and]
    simp only [Bool.false_eq_true, if_false]
    exact no _ rfl
theorem any_list : ∀ l : List UInt8, Lib.containsAny l [114, 98] = l.any sgnR
  | [] => by simp [Lib.containsAny, Lib.indexAny]
  | b :: l => by
    have ih := any_list l
    have ge := Lib.indexAny_ge [114, 98] l
    unfold Lib.containsAny at *
    rw [List.any_cons, ← ih, Lib.indexAny]
    have hc : ([114, 98] : List UInt8).contains b = sgnR b := by rw [Bool.eq_iff_iff]; simp [sgnR]
    rw [hc]
    cases sgnR b
    · simp only [Bool.false_or]
      by_cases h : Lib.indexAny l [114, 98] = -1
      · rw [h]; decide
      · have h' : (Lib.indexAny l [114, 98] == -1) = false := by simpa using h
        rw [h', if_neg (by decide), if_neg (by decide)]
        exact decide_eq_decide.mpr (by omega)
    · simp
theorem any_rb (s : ByteArray) (h : deliv s = true) (hs : s.size ≤ 60) : strings_ContainsAny.f s ⟨#[114, 98]⟩ = some (s.data.toList.any sgnR) := by
  have ha : strings_ContainsAny.ascii s = true := by
    unfold strings_ContainsAny.ascii
    rw [List.all_eq_true]
    intro b hb
    have := deliv_mem h b hb
    simp only [sgn, Bool.or_eq_true, beq_iff_eq] at this
    rcases this with rfl | rfl | rfl | rfl <;> decide
  unfold strings_ContainsAny.f
  rw [if_pos ⟨by omega, by decide, ha, by decide⟩]
  congr 1
  exact any_list s.data.toList
theorem isStreetText_ev (kd p : Int) (s : ByteArray) (hs : s.size ≤ 1048576) : Ev (fun k => impl_isStreetText.f k kd p s) (fits kd p s) := by
  unfold impl_isStreetText.f impl_IsStreet.f fits
  simp only [within_f, Option.bind_some]
  by_cases h1 : 0 ≤ kd ∧ kd ≤ 2
  · have e1 : decide (0 ≤ kd ∧ kd ≤ 2) = true := decide_eq_true h1
    rw [e1]
    simp only [if_true, Option.bind_some, Bool.true_and]
    cases e2 : decide (1 ≤ p ∧ p ≤ 1000)
    · exact Ev.itef (by simp) (Ev.now _)
    · refine Ev.itet rfl (Ev.bind (AreDeliveries_ev s hs) ?_)
      cases hd : deliv s
      · exact Ev.itef (by simp) (Ev.now _)
      · refine Ev.itet rfl ?_
        by_cases h3 : (s.size : Int) = p
        · have e4 : decide ((s.size : Int) = p) = true := decide_eq_true h3
          rw [e4]
          simp only [Bool.true_and]
          refine Ev.itet h3.symm ?_
          by_cases hk : kd > 0
          · rw [decide_eq_true hk]
            exact Ev.itet hk (Ev.now _)
          · rw [decide_eq_false hk]
            refine Ev.itef hk ?_
            rw [any_rb s hd (deliv_len hd).2, Option.bind_some]
            exact Ev.now _
        · have e4 : decide ((s.size : Int) = p) = false := decide_eq_false h3
          rw [e4]
          exact Ev.itef (fun e => h3 e.symm) (Ev.now _)
  · have e1 : decide (0 ≤ kd ∧ kd ≤ 2) = false := decide_eq_false h1
    rw [e1, Bool.false_and]
    simp only [Bool.false_eq_true, if_false]
    exact Ev.now _
/-! A plot's houses. -/
theorem num_eq (k p o j : Int) : spec_nuNumber.f k p o j = some (impl_routeNumbers.num k p o j) := by
  have h := impl_routeNumbers.num_f k p o j
  rw [← h]
  unfold spec_nuNumber.f impl_numberAt.f
  rfl
theorem houses_step (s : ByteArray) (kd p : Int) (j i : Nat) (own : List Int) (acc : List Int) (o : Int) (hj : j < s.size) (hi : i < own.length) (ho : rd own (i : Int) = o) (h01 : o = 0 ∨ o = 1) (ha : acc.length < 17592186044416) (hl : own.length = 2) {r : List Int}
    (h : Ev (fun k => spec_poHouses.l0 k s (j : Int) (impl_routeNumbers.one kd p (bt s j) j o acc) own (own.length : Int) ((i + 1 : Nat) : Int) kd p) r) :
    Ev (fun k => spec_poHouses.l0 k s (j : Int) acc own (own.length : Int) (i : Int) kd p) r := by
  refine Ev.to _ (fun k => ?_) h
  have hw : wrap64 ((i : Int) + 1) = ((i + 1 : Nat) : Int) := by rw [w64 (by omega) (by omega)]; rfl
  simp only [spec_poHouses.l0]
  rw [if_pos (by omega), if_pos (by omega), if_pos (by omega), if_pos (by omega), if_pos (by omega), ho, num_eq, hw]
  simp only [Option.bind_some, if_pos ha]
  unfold impl_routeNumbers.one impl_routeNumbers.lr
  by_cases h98 : bt s j = 98
  · rw [if_pos h98, if_pos (Or.inl h98)]
  rw [if_neg h98]
  rcases h01 with rfl | rfl
  · by_cases h108 : bt s j = 108
    · rw [if_pos h108, if_pos rfl, if_pos (Or.inr (by rw [if_pos rfl]; exact h108))]
    · rw [if_neg h108, if_neg (show ¬ (bt s j = 98 ∨ bt s j = if (0 : Int) = 0 then 108 else 114) by rw [if_pos rfl]; rintro (e | e) <;> contradiction)]
      by_cases h114 : bt s j = 114
      · rw [if_pos h114, if_neg (by decide)]
      · rw [if_neg h114]
  · by_cases h114 : bt s j = 114
    · have h108 : ¬ bt s j = 108 := by rw [h114]; decide
      rw [if_neg h108, if_pos h114, if_pos rfl, if_pos (Or.inr (by rw [if_neg (by decide)]; exact h114))]
    · rw [if_neg (show ¬ (bt s j = 98 ∨ bt s j = if (1 : Int) = 0 then 108 else 114) by rw [if_neg (by decide)]; rintro (e | e) <;> contradiction)]
      by_cases h108 : bt s j = 108
      · rw [if_pos h108, if_neg (by decide), if_neg h114]
      · rw [if_neg h108, if_neg h114]
def hs (s : ByteArray) (kd p : Int) (j : Nat) (c : Int) (acc : List Int) : List Int := impl_routeNumbers.one kd p (bt s j) j (1 - c) (impl_routeNumbers.one kd p (bt s j) j c acc)
theorem houses_ev (s : ByteArray) (kd p : Int) (j : Nat) (c : Int) (hj : j < s.size) (hc : c = 0 ∨ c = 1) : Ev (fun k => spec_poHouses.f k kd p s (j : Int) c) (hs s kd p j c []) := by
  unfold spec_poHouses.f
  simp only [Option.bind_some]
  have hw : wrap64 (1 - c) = 1 - c := w64 (by omega) (by omega)
  rw [hw]
  have h1 := impl_routeNumbers.one_len kd p (bt s j) j c []
  refine houses_step s kd p j 0 [c, 1 - c] [] c hj (by simp) rfl hc (by simp) rfl ?_
  refine houses_step s kd p j 1 [c, 1 - c] _ (1 - c) hj (by simp) rfl (by omega) (by simp at h1; omega) rfl ?_
  exact Ev.stop fun k => by simp only [spec_poHouses.l0]; rw [if_neg (by simp)]; rfl
theorem one_app (kd p b j o : Int) (acc : List Int) : impl_routeNumbers.one kd p b j o acc = acc ++ impl_routeNumbers.one kd p b j o [] := by
  unfold impl_routeNumbers.one
  split
  · rfl
  · simp
theorem hs_app (s : ByteArray) (kd p : Int) (j : Nat) (c : Int) (acc : List Int) : acc ++ hs s kd p j c [] = hs s kd p j c acc := by
  unfold hs
  rw [one_app _ _ _ _ _ (impl_routeNumbers.one kd p (bt s j) j c acc), one_app _ _ _ _ _ (impl_routeNumbers.one kd p (bt s j) j c []), one_app _ _ _ _ c acc, List.append_assoc]
theorem nums_l0 (s : ByteArray) (kd p : Int) (l : List Int) (hs60 : s.size ≤ 60) (hl : l.length = s.size) (h01 : (l.all fun x => decide (0 ≤ x ∧ x ≤ 1)) = true) : ∀ (d j : Nat), j + d = s.size → Ev (fun k => spec_RouteNumbers.l0 k s (impl_routeNumbers.acc kd p s l j) (impl_routeNumbers.side l j) l (l.length : Int) (j : Int) kd p) (impl_routeNumbers.acc kd p s l s.size, true) := by
  intro d
  induction d with
  | zero =>
    intro j hj
    obtain rfl : j = s.size := by omega
    exact Ev.stop fun k => by simp only [spec_RouteNumbers.l0]; rw [if_neg (by omega)]
  | succ d ih =>
    intro j hj
    have hc := impl_routeNumbers.side_01 h01 j (by omega)
    have hl1 := impl_routeNumbers.acc_len kd p s l j
    have hl2 : (hs s kd p j (impl_routeNumbers.side l j) []).length ≤ 2 := by
      have h1 := impl_routeNumbers.one_len kd p (bt s j) j (impl_routeNumbers.side l j) []
      have h2 := impl_routeNumbers.one_len kd p (bt s j) j (1 - impl_routeNumbers.side l j) (impl_routeNumbers.one kd p (bt s j) j (impl_routeNumbers.side l j) [])
      unfold hs
      simp only [List.length_nil] at h1
      omega
    have hw : wrap64 ((j : Int) + 1) = ((j + 1 : Nat) : Int) := by rw [w64 (by omega) (by omega)]; rfl
    refine Ev.succ ?_
    simp only [spec_RouteNumbers.l0]
    refine Ev.itet (by omega) (Ev.itet (by omega) (Ev.itet (by omega) (Ev.bind (houses_ev s kd p j _ (by omega) hc) (Ev.itet (by omega) ?_))))
    rw [hs_app, hw]
    exact ih (j + 1) (by omega)
def res (kd p : Int) (s : ByteArray) (a : Int) : List Int × Bool := if fits kd p s && decide (0 ≤ a ∧ a ≤ 2) then (impl_routeNumbers.acc kd p s (impl_bestRoute.sides s a s.size) s.size, true) else ([], false)
theorem sides_01 (s : ByteArray) (a : Int) (n : Nat) : ((impl_bestRoute.sides s a n).all fun x => decide (0 ≤ x ∧ x ≤ 1)) = true := by
  rw [List.all_eq_true]
  intro x hx
  unfold impl_bestRoute.sides at hx
  obtain ⟨j, _, rfl⟩ := List.mem_map.1 hx
  have := impl_bestRoute.come_lt s a (j + 1)
  simp only [decide_eq_true_eq]
  omega
theorem spec_ev (kd p : Int) (s : ByteArray) (a : Int) (hs : s.size ≤ 1048576) : Ev (fun k => spec_RouteNumbers.f k kd p s a) (res kd p s a) := by
  unfold spec_RouteNumbers.f res
  refine Ev.bind (poFits_ev kd p s hs) ?_
  cases hd : fits kd p s
  · refine Ev.itef (by simp) (Ev.succ ?_)
    simp only [spec_RouteNumbers.j0]
    exact Ev.itet (by trivial) (Ev.now _)
  · refine Ev.itet rfl ?_
    have h60 := fits_len hd
    simp only [l1In_f, Option.bind_some]
    cases ha : decide (0 ≤ a ∧ a ≤ 2)
    · refine Ev.succ ?_
      simp only [spec_RouteNumbers.j0]
      exact Ev.itet (by trivial) (Ev.now _)
    · refine Ev.succ ?_
      simp only [spec_RouteNumbers.j0]
      have ha' : 0 ≤ a ∧ a ≤ 2 := by simpa using ha
      have e := nums_l0 s kd p (impl_bestRoute.sides s a s.size) h60.2 (sides_len s a s.size) (sides_01 s a s.size) s.size 0 (by omega)
      exact Ev.itef (by simp) (Ev.bind (poSides_ev s a h60.2 ha') e)
theorem impl_ev (kd p : Int) (s : ByteArray) (a : Int) (hs : s.size ≤ 1048576) : Ev (fun k => impl_RouteNumbers.f k kd p s a) (res kd p s a) := by
  unfold impl_RouteNumbers.f res
  refine Ev.bind (isStreetText_ev kd p s hs) ?_
  cases hd : fits kd p s
  · refine Ev.itef (by simp) (Ev.succ ?_)
    simp only [impl_RouteNumbers.j0]
    exact Ev.itet (by trivial) (Ev.now _)
  · have h60 := fits_len hd
    have hdl := fits_deliv hd
    refine Ev.itet rfl (Ev.bind (isDelivered_ev s a hs) ?_)
    unfold asked
    rw [hdl]
    cases ha : decide (0 ≤ a ∧ a ≤ 2)
    · refine Ev.succ ?_
      simp only [impl_RouteNumbers.j0]
      exact Ev.itet (by trivial) (Ev.now _)
    · refine Ev.succ ?_
      simp only [impl_RouteNumbers.j0]
      have e : impl_routeNumbers.f kd p s (impl_bestRoute.sides s a s.size) = some (impl_routeNumbers.acc kd p s (impl_bestRoute.sides s a s.size) s.size) := by
        unfold impl_routeNumbers.f
        rw [if_pos ⟨hs, sides_len s a s.size, sides_01 s a s.size⟩]
      exact Ev.itef (by simp) (by rw [best_f s a h60.2, Option.bind_some, e, Option.bind_some]; exact Ev.now _)
theorem res_len (kd p : Int) (s : ByteArray) (a : Int) : (res kd p s a).1.length ≤ 1048576 := by
  unfold res
  cases hd : fits kd p s && decide (0 ≤ a ∧ a ≤ 2)
  · simp
  · rw [Bool.and_eq_true] at hd
    have h60 := fits_len hd.1
    have := impl_routeNumbers.acc_len kd p s (impl_bestRoute.sides s a s.size) s.size
    simp only [if_true]
    omega
theorem main : laws_FnExactRouteNumbers.Pure := by
  intro kd p s a _ _ _ _
  refine Ev.rounds ?_
  unfold laws_FnExactRouteNumbers.f
  by_cases h : (s.size : Int) > 1048576
  · exact Ev.itet h (Ev.now _)
  · have hs : s.size ≤ 1048576 := by omega
    have hr := res_len kd p s a
    simp only [laws_toStreet.f, Option.bind_some]
    refine Ev.itef h (Ev.bind (spec_ev kd p s a hs) (Ev.bind (impl_ev kd p s a hs) (Ev.bind (eqIntS_ev _ hr) (Ev.itet rfl (Ev.succ ?_)))))
    simp only [laws_FnExactRouteNumbers.j0, laws_toStreet.f, Option.bind_some]
    refine Ev.itef (by simp) (Ev.bind (markIntS_ev _ hr 1 (by omega) (by omega)) (Ev.bind (heldIntS_ev _ hr 1 (by omega) (by omega)) (Ev.itef (by simp; omega) (Ev.itet rfl (Ev.bind (impl_ev kd p s a hs) (Ev.bind (eqIntS_ev _ hr) (Ev.itet rfl (Ev.succ ?_))))))))
    simp only [laws_FnExactRouteNumbers.j1]
    exact Ev.itef (by simp) (Ev.bind (heldIntS_ev _ hr 1 (by omega) (by omega)) (Ev.itef (by simp; omega) (Ev.itet rfl (Ev.now _))))
end RouteNumbers
theorem FnExactRouteNumbers : laws_FnExactRouteNumbers.Pure := RouteNumbers.main
end Go.Proofs.Ytghcfpnjkhefeaa.Pure
