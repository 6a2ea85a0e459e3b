/- Whether the way around is better: both sides, for all texts. -/
import Derived.Test.YtpopeedfgenebaaDoorPFnExactAroundIsBetterx5
import Derived.Test.YtpopeedfgenebaaDoorKit
namespace Go.Proofs.YtpopeedfgenebaaDoor.Pure
open Go.RowKit Go.Proofs.YtpopeedfgenebaaDoorW.PrintWords Go.Proofs.YtpopeedfgenebaaDoorW.PrintLast Go.Proofs.YtpopeedfgenebaaDoorW.PrintMore Go.Proofs.YtpopeedfgenebaaDoorKit
open Go.Proofs.YtpopeedfgenebaaDoor.PFnExactAroundIsBetter
namespace AroundIsBetter
theorem ge_le (a b c : Int) : (if a ≥ b then some (decide (a ≤ c)) else some false) = some (decide (b ≤ a ∧ a ≤ c)) := by
  by_cases h : a ≥ b
  · rw [if_pos h]; simp [show b ≤ a from h]
  · rw [if_neg h]; simp; omega
theorem l1In_f (a b c : Int) : spec_l1In.f a b c = some (decide (b ≤ a ∧ a ≤ c)) := by unfold spec_l1In.f; exact ge_le a b c
theorem within_f (a b c : Int) : impl_within.f a b c = some (decide (b ≤ a ∧ a ≤ c)) := by unfold impl_within.f; exact ge_le a b c
/-! Texts of deliveries. -/
def sgn (b : UInt8) : Bool := b == 108 || (b == 114 || (b == 98 || b == 45))
def deliv (s : ByteArray) : Bool := decide (1 ≤ (s.size : Int) ∧ (s.size : Int) ≤ 60) && s.data.toList.all sgn
theorem deliv_len {s : ByteArray} (h : deliv s = true) : 1 ≤ s.size ∧ s.size ≤ 60 := by
  simp only [deliv, Bool.and_eq_true, decide_eq_true_eq] at h; omega
theorem deliv_mem {s : ByteArray} (h : deliv s = true) : ∀ b ∈ s.data.toList, sgn b = true := by
  simp only [deliv, Bool.and_eq_true, List.all_eq_true] at h
  exact h.2
theorem eq108 (b : UInt8) : ((b.toNat : Int) = 108) ↔ b = 108 := byte_eq b 108 (by decide)
theorem eq114 (b : UInt8) : ((b.toNat : Int) = 114) ↔ b = 114 := byte_eq b 114 (by decide)
theorem eq98 (b : UInt8) : ((b.toNat : Int) = 98) ↔ b = 98 := byte_eq b 98 (by decide)
theorem eq45 (b : UInt8) : ((b.toNat : Int) = 45) ↔ b = 45 := byte_eq b 45 (by decide)
theorem poGood_l0 (s : ByteArray) (hs : s.size ≤ 1048576) : Ev (fun k => spec_poGood.l0 k s 0) (s.data.toList.all sgn) := by
  rw [← runL_all _ s.data.toList 0]
  refine ev_loop0 s.data.toList (fun k i (_ : Unit) => spec_poGood.l0 k s i) _ _ (fun _ _ => True) () trivial (fun i u hi _ => ?_) (fun u _ => ?_)
  · have hi' : i < s.size := by rw [← len_data]; exact hi
    have hw : wrap64 ((i : Int) + 1) = (i : Int) + 1 := w64 (by omega) (by omega)
    have key : ∀ k, spec_poGood.l0 (k + 1) s (i : Int) = if sgn s.data.toList[i] = true then spec_poGood.l0 k s ((i : Int) + 1) else some false := by
      intro k
      simp only [spec_poGood.l0]
      rw [if_pos (by omega), if_pos (by omega), bt_get s i hi, hw]
      simp only [eq108, eq114, eq98, eq45, sgn, Bool.or_eq_true, beq_iff_eq]
      by_cases h1 : s.data.toList[i] = 108
      · rw [if_pos h1, if_pos (Or.inl h1)]
      rw [if_neg h1]
      by_cases h2 : s.data.toList[i] = 114
      · rw [if_pos h2, if_pos (Or.inr (Or.inl h2))]
      rw [if_neg h2]
      by_cases h3 : s.data.toList[i] = 98
      · rw [if_pos h3, if_pos (Or.inr (Or.inr (Or.inl h3)))]
      rw [if_neg h3]
      by_cases h4 : s.data.toList[i] = 45
      · rw [if_pos h4, if_pos (Or.inr (Or.inr (Or.inr h4)))]
      · rw [if_neg h4, if_neg (by rintro (h | h | h | h) <;> contradiction)]
    constructor
    · intro s' e
      cases hp : sgn s.data.toList[i]
      · rw [hp] at e; simp at e
      · exact ⟨trivial, fun r hr => Ev.to _ (fun k => by rw [key, hp, if_pos rfl]) hr⟩
    · intro r e
      cases hp : sgn s.data.toList[i]
      · rw [hp] at e
        cases e
        exact Ev.stop fun k => by rw [key, hp]; rfl
      · rw [hp] at e; simp at e
  · exact Ev.stop fun k => by simp only [spec_poGood.l0]; rw [if_neg (by rw [len_data]; omega)]
theorem poGood_ev (s : ByteArray) (hs : s.size ≤ 1048576) : Ev (fun k => spec_poGood.f k s) (deliv s) := by
  unfold spec_poGood.f deliv
  simp only [l1In_f, Option.bind_some]
  cases decide (1 ≤ (s.size : Int) ∧ (s.size : Int) ≤ 60)
  · exact Ev.itef (by simp) (Ev.now _)
  · exact Ev.itet rfl (poGood_l0 s hs)
theorem index_sgn (b : UInt8) : (Lib.indexByte [108, 114, 98, 45] b < 0) ↔ ¬ sgn b = true := by
  have h1 : Lib.indexByte [45] b = if 45 = b then 0 else -1 := by simp [Lib.indexByte]
  simp only [Lib.indexByte, sgn, Bool.or_eq_true, beq_iff_eq]
  by_cases e1 : (108 : UInt8) = b
  · subst e1; simp
  by_cases e2 : (114 : UInt8) = b
  · subst e2; simp
  by_cases e3 : (98 : UInt8) = b
  · subst e3; simp
  by_cases e4 : (45 : UInt8) = b
  · subst e4; simp
  · simp [e1, e2, e3, e4, Ne.symm e1, Ne.symm e2, Ne.symm e3, Ne.symm e4]
theorem AreDeliveries_ev (s : ByteArray) (hs : s.size ≤ 1048576) : Ev (fun k => impl_AreDeliveries.f k s) (deliv s) := by
  unfold impl_AreDeliveries.f
  have e : deliv s = runL (fun _ x (_ : Unit) => if sgn x then (Sum.inl () : Unit ⊕ Bool) else .inr false) (fun _ => decide (1 ≤ (s.size : Int) ∧ (s.size : Int) ≤ 60)) 0 s.data.toList () := by
    have gen : ∀ (l : List UInt8) (i : Nat) (c : Bool), runL (fun _ x (_ : Unit) => if sgn x then (Sum.inl () : Unit ⊕ Bool) else .inr false) (fun _ => c) i l () = (c && l.all sgn) := by
      intro l
      induction l with
      | nil => intro i c; simp [runL]
      | cons x xs ih =>
        intro i c
        simp only [runL, List.all_cons]
        cases sgn x
        · simp
        · simp only [if_true, Bool.true_and]; exact ih _ _
    rw [gen]
    rfl
  rw [e]
  refine ev_loop0 s.data.toList (fun k i (_ : Unit) => impl_AreDeliveries.l0 k s (s.size : Int) i) _ _ (fun _ _ => True) () trivial (fun i u hi _ => ?_) (fun u _ => ?_)
  · have hi' : i < s.size := by rw [← len_data]; exact hi
    have hw : wrap64 ((i : Int) + 1) = (i : Int) + 1 := w64 (by omega) (by omega)
    have key : ∀ k, impl_AreDeliveries.l0 (k + 1) s (s.size : Int) (i : Int) = if sgn s.data.toList[i] = true then impl_AreDeliveries.l0 k s (s.size : Int) ((i : Int) + 1) else some false := by
      intro k
      simp only [impl_AreDeliveries.l0, strings_IndexByte.f, Option.bind_some]
      rw [if_pos (by omega), if_pos (by omega), if_pos (by omega), bt_get s i hi, byte_back, hw]
      by_cases hp : sgn s.data.toList[i] = true
      · rw [if_pos hp, if_neg (fun h => (index_sgn _).1 h hp)]
      · rw [if_neg hp, if_pos ((index_sgn _).2 hp)]
    constructor
    · intro s' e
      cases hp : sgn s.data.toList[i]
      · rw [hp] at e; simp at e
      · exact ⟨trivial, fun r hr => Ev.to _ (fun k => by rw [key, hp, if_pos rfl]) hr⟩
    · intro r e
      cases hp : sgn s.data.toList[i]
      · rw [hp] at e
        cases e
        exact Ev.stop fun k => by rw [key, hp]; rfl
      · rw [hp] at e; simp at e
  · exact Ev.stop fun k => by simp only [impl_AreDeliveries.l0, within_f, Option.bind_some]; rw [if_neg (by rw [len_data]; omega)]
/-! The table of the spec's side and the best route of the implementation say the same. -/
theorem cross_eq (a b c : Int) : impl_crossingsAt.f a b c = spec_poCross.f a b c := by
  unfold impl_crossingsAt.f spec_poCross.f
  by_cases h1 : b = c
  · rw [if_pos h1, if_pos h1]
    by_cases h2 : a = 98
    · rw [if_pos h2, if_pos h2]
    rw [if_neg h2, if_neg h2]
    by_cases h3 : a = 114
    · subst h3; simp
    · by_cases h4 : a = 108
      · subst h4; simp
      · simp [h3, h4]
  · rw [if_neg h1, if_neg h1]
theorem crossR (b s t : Int) : impl_bestRoute.cross b s t = spec_poTable.cross b s t := by unfold impl_bestRoute.cross spec_poTable.cross; rw [cross_eq]
theorem upd_eq (o c : Int) (p : Int × Int) : impl_bestRoute.upd o c p = spec_poTable.upd o c p := by
  have h : ∀ x : Int, mn 1000000000000001 x = spec_poTable.least x 1000000000000001 := by
    intro x; unfold mn spec_poTable.least; rfl
  unfold impl_bestRoute.upd spec_poTable.upd
  rw [h, h]
def good (m : Int) (p : Int × Int) : Prop := (p.1 = 1000000 ∧ p.2 = 0) ∨ p.1 ≤ m
theorem side_eq {b m : Int} {R : (Nat → Int) × (Nat → Int)} (hm : m ≤ 200) (hR : ∀ t, good m (R.1 t, R.2 t)) (hok : ∀ t, spec_poTable.Ok (R.1 t, R.2 t)) (s : Nat) :
    ∀ k, impl_bestRoute.side b R s k = spec_poTable.side b R s k ∧ good (m + 2) (spec_poTable.side b R s k)
  | 0 => ⟨rfl, .inl ⟨rfl, rfl⟩⟩
  | k + 1 => by
    obtain ⟨e, g⟩ := side_eq hm hR hok s k
    have o := spec_poTable.side_ok (b := b) hok s k
    have hx := (spec_poTable.cross_f b s k).2
    have hk := hR k
    unfold impl_bestRoute.side spec_poTable.side
    rw [e, crossR, upd_eq]
    generalize spec_poTable.side b R s k = p at g o
    generalize spec_poTable.cross b s k = x at hx
    obtain ⟨f, c⟩ := p
    simp only [good, spec_poTable.Ok] at g o hk ⊢
    by_cases h : R.1 k = 1000000
    · rw [if_pos h]
      have hc : R.2 k = 0 := by omega
      refine ⟨?_, g⟩
      rw [h, hc]
      unfold spec_poTable.upd spec_poTable.least
      simp only
      by_cases h1 : x + 1000000 = f
      · rw [if_neg (by omega), if_pos h1]
        congr 1
        by_cases h2 : c + 0 < 1000000000000001
        · rw [if_pos h2]; omega
        · rw [if_neg h2]; omega
      · rw [if_neg (by omega), if_neg h1]
    · rw [if_neg h]
      refine ⟨rfl, ?_⟩
      unfold spec_poTable.upd
      simp only
      by_cases h1 : x + R.1 k < f
      · rw [if_pos h1]; right; simp only; omega
      · rw [if_neg h1]
        by_cases h2 : x + R.1 k = f
        · rw [if_pos h2]; right; simp only; omega
        · rw [if_neg h2]; exact g
theorem side_fin {b m : Int} {R : (Nat → Int) × (Nat → Int)} (hm : m ≤ 200) (hf : R.1 0 ≤ m ∨ R.1 1 ≤ m) (s : Nat) : (spec_poTable.side b R s 2).1 ≤ m + 2 := by
  have up : ∀ k, (spec_poTable.side b R s (k + 1)).1 ≤ (spec_poTable.side b R s k).1 ∧ (R.1 k ≤ m → (spec_poTable.side b R s (k + 1)).1 ≤ m + 2) := by
    intro k
    have hx := (spec_poTable.cross_f b s k).2
    rw [spec_poTable.side]
    generalize spec_poTable.side b R s k = p
    generalize spec_poTable.cross b s k = x at hx
    by_cases h : R.1 k = 1000000
    · rw [if_pos h]; exact ⟨Int.le_refl _, fun h' => by omega⟩
    · rw [if_neg h]
      unfold spec_poTable.upd
      by_cases h1 : x + R.1 k < p.1
      · rw [if_pos h1]; simp only; omega
      · rw [if_neg h1]
        by_cases h2 : x + R.1 k = p.1
        · rw [if_pos h2]; simp only; omega
        · rw [if_neg h2]; omega
  have h0 := up 0
  have h1 := up 1
  rcases hf with h | h
  · have := h0.2 h; have := h1.1; simp only [Nat.zero_add, Nat.reduceAdd] at *; omega
  · exact h1.2 h
theorem end_eq (a : Int) : impl_bestRoute.endRow a = spec_poTable.endRow a := by
  unfold impl_bestRoute.endRow spec_poTable.endRow
  congr 1 <;> funext s <;> (by_cases h : a = 2 ∨ a = (s : Int)) <;> (first | (rw [if_pos h, if_neg (by omega)]) | (rw [if_neg h, if_pos (by omega)]))
theorem end_ok (a : Int) (t : Nat) : spec_poTable.Ok ((spec_poTable.endRow a).1 t, (spec_poTable.endRow a).2 t) := by
  unfold spec_poTable.Ok spec_poTable.endRow
  simp only
  split <;> omega
theorem row_eq (a : Int) : ∀ l : List Int, l.length ≤ 60 → impl_bestRoute.rowAt (impl_bestRoute.endRow a) l = spec_poTable.rowAt (spec_poTable.endRow a) l ∧ ∀ t, good (2 * (l.length : Int)) ((spec_poTable.rowAt (spec_poTable.endRow a) l).1 t, (spec_poTable.rowAt (spec_poTable.endRow a) l).2 t)
  | [], _ => ⟨end_eq a, fun t => by
      unfold good spec_poTable.rowAt spec_poTable.endRow
      simp only
      by_cases h : a = 2 ∨ a = (t : Int)
      · rw [if_pos h]; right; simp
      · rw [if_neg h, if_neg h]; left; exact ⟨rfl, rfl⟩⟩
  | b :: l, hl => by
    simp only [List.length_cons] at hl
    obtain ⟨e, g⟩ := row_eq a l (by omega)
    have hs := fun s => side_eq (b := b) (by omega) g (fun t => spec_poTable.rowAt_ok (end_ok a) l t) s 2
    constructor
    · unfold impl_bestRoute.rowAt spec_poTable.rowAt
      rw [e]
      congr 1 <;> funext s <;> rw [(hs s).1]
    · intro t
      have := (hs t).2
      rw [List.length_cons, show (2 * ((l.length + 1 : Nat) : Int)) = 2 * (l.length : Int) + 2 by omega]
      exact this
theorem R_eq (s : ByteArray) (a : Int) (hs : s.size ≤ 60) (j : Nat) : impl_bestRoute.R s a j = spec_poTable.R s a j := (row_eq a _ (by rw [List.length_drop, bytesOf_length]; omega)).1
theorem row_fin (a : Int) (ha : 0 ≤ a ∧ a ≤ 2) : ∀ l : List Int, l.length ≤ 60 → (spec_poTable.rowAt (spec_poTable.endRow a) l).1 0 ≤ 2 * (l.length : Int) ∨ (spec_poTable.rowAt (spec_poTable.endRow a) l).1 1 ≤ 2 * (l.length : Int)
  | [], _ => by
    unfold spec_poTable.rowAt spec_poTable.endRow
    simp only [List.length_nil]
    by_cases h : a = 1
    · right; rw [if_pos (by omega)]; omega
    · left; rw [if_pos (by omega)]; omega
  | b :: l, hl => by
    simp only [List.length_cons] at hl
    left
    have := side_fin (b := b) (m := 2 * (l.length : Int)) (by omega) (row_fin a ha l (by omega)) 0
    rw [List.length_cons, show (2 * ((l.length + 1 : Nat) : Int)) = 2 * (l.length : Int) + 2 by omega]
    exact this
theorem R_fin (s : ByteArray) (a : Int) (ha : 0 ≤ a ∧ a ≤ 2) (hs : s.size ≤ 60) (j : Nat) (hj : j < s.size) (t : Nat) : (spec_poTable.R s a j).1 t ≤ 200 := by
  rw [spec_poTable.R_step s a j hj]
  have hl : ((bytesOf s).drop (j + 1)).length ≤ 60 := by rw [List.length_drop, bytesOf_length]; omega
  have := side_fin (b := bt s j) (m := 2 * (((bytesOf s).drop (j + 1)).length : Int)) (R := spec_poTable.R s a (j + 1)) (by omega) (row_fin a ha _ hl) t
  simp only; omega
theorem R_good (s : ByteArray) (a : Int) (hs : s.size ≤ 60) (j t : Nat) : good 200 ((spec_poTable.R s a j).1 t, (spec_poTable.R s a j).2 t) := by
  have hl : ((bytesOf s).drop j).length ≤ 60 := by rw [List.length_drop, bytesOf_length]; omega
  have := (row_eq a _ hl).2 t
  unfold good at *
  rcases this with h | h
  · exact .inl h
  · right; exact Int.le_trans h (by omega)
theorem tab_len (n : Nat) (f : Nat → Nat → Int) : (spec_poTable.tab n f).length = n + 1 := by simp [spec_poTable.tab]
theorem tab_at (n : Nat) (f : Nat → Nat → Int) {j : Nat} (hj : j ≤ n) : rd_L2 (spec_poTable.tab n f) (j : Int) = [f j 0, f j 1] := by
  unfold rd_L2 spec_poTable.tab
  rw [List.getD_eq_getElem?_getD, List.getElem?_map, show ((j : Int)).toNat = j by omega, List.getElem?_range (by omega)]
  rfl
theorem tab_at0 (n : Nat) (f : Nat → Nat → Int) : rd_L2 (spec_poTable.tab n f) 0 = [f 0 0, f 0 1] := tab_at n f (Nat.zero_le n)
def asked (s : ByteArray) (a : Int) : Bool := deliv s && decide (0 ≤ a ∧ a ≤ 2)
theorem asked_len {s : ByteArray} {a : Int} (h : asked s a = true) : 1 ≤ s.size ∧ s.size ≤ 60 ∧ 0 ≤ a ∧ a ≤ 2 := by
  simp only [asked, Bool.and_eq_true, decide_eq_true_eq] at h
  exact ⟨(deliv_len h.1).1, (deliv_len h.1).2, h.2⟩
theorem isDelivered_ev (s : ByteArray) (a : Int) (hs : s.size ≤ 1048576) : Ev (fun k => impl_isDelivered.f k s a) (asked s a) := by
  unfold impl_isDelivered.f asked
  refine Ev.bind (AreDeliveries_ev s hs) ?_
  cases deliv s
  · exact Ev.itef (by simp) (Ev.now _)
  · exact Ev.itet rfl (by simp only [within_f, Option.bind_some, Bool.true_and]; exact Ev.now _)
theorem table_f (s : ByteArray) (a : Int) (hs : s.size ≤ 60) : spec_poTable.f s a = some (spec_poTable.tab s.size (fun j t => (spec_poTable.R s a j).1 t), spec_poTable.tab s.size (fun j t => (spec_poTable.R s a j).2 t)) := by
  unfold spec_poTable.f; rw [if_pos hs]
theorem best_f (s : ByteArray) (a : Int) (hs : s.size ≤ 60) : impl_bestRoute.f s a = some ((spec_poTable.R s a 0).1 0, impl_bestRoute.sides s a s.size, (spec_poTable.R s a 0).2 0) := by
  unfold impl_bestRoute.f; rw [if_pos hs, R_eq s a hs]
theorem poAsked_ev (s : ByteArray) (a : Int) (hs : s.size ≤ 1048576) : Ev (fun k => spec_poAsked.f k s a) (asked s a) := by
  unfold spec_poAsked.f asked
  refine Ev.bind (poGood_ev s hs) ?_
  cases deliv s
  · exact Ev.itef (by simp) (Ev.now _)
  · exact Ev.itet rfl (by simp only [l1In_f, Option.bind_some, Bool.true_and]; exact Ev.now _)
/-! The way around: the last plot with something for, and whether there is something on the right. -/
def fr (s : ByteArray) (i : Nat) : Int := mx 0 (strings_LastIndexAny.down s.data.toList [108, 114, 98] i)
def rt (s : ByteArray) (i : Nat) : Bool := (s.data.toList.take i).any fun b => b == 114 || b == 98
theorem fr_le (s : ByteArray) : ∀ i : Nat, 0 ≤ fr s i ∧ fr s i ≤ i
  | 0 => by unfold fr strings_LastIndexAny.down mx; simp
  | i + 1 => by
    have ih := fr_le s i
    unfold fr at ih ⊢
    unfold strings_LastIndexAny.down
    split
    · split
      · unfold mx; split <;> omega
      · omega
    · omega
theorem fr_step (s : ByteArray) (i : Nat) (x : UInt8) (hx : s.data.toList[i]? = some x) (hs : sgn x = true) : fr s (i + 1) = if x = 45 then fr s i else (i : Int) := by
  have hc : ([108, 114, 98] : List UInt8).contains x = !(x == 45) := by
    simp only [sgn, Bool.or_eq_true, beq_iff_eq] at hs
    rcases hs with rfl | rfl | rfl | rfl <;> rfl
  unfold fr
  by_cases h : x = 45
  · rw [if_pos h, strings_LastIndexAny.miss hx (by rw [hc, h]; rfl)]
  · rw [if_neg h, strings_LastIndexAny.hit hx (by rw [hc]; simpa using h)]
    unfold mx
    split <;> omega
theorem rt_step (s : ByteArray) (i : Nat) (h : i < s.data.toList.length) : rt s (i + 1) = (rt s i || (s.data.toList[i] == 114 || s.data.toList[i] == 98)) := by
  unfold rt
  rw [List.take_succ_eq_append_getElem h, List.any_append]
  simp
theorem rt_zero (s : ByteArray) : rt s 0 = false := by simp [rt]
theorem any_rb : ∀ l : List UInt8, Lib.containsAny l [114, 98] = l.any fun b => b == 114 || b == 98
  | [] => by simp [Lib.containsAny, Lib.indexAny]
  | b :: l => by
    have ih := any_rb l
    have ge := Lib.indexAny_ge [114, 98] l
    unfold Lib.containsAny at *
    rw [List.any_cons, ← ih, Lib.indexAny]
    have hc : ([114, 98] : List UInt8).contains b = (b == 114 || b == 98) := by rw [Bool.eq_iff_iff]; simp
    rw [hc]
    cases (b == 114 || b == 98)
    · simp only [Bool.false_or]
      by_cases h : Lib.indexAny l [114, 98] = -1
      · rw [h]; decide
      · have h' : (Lib.indexAny l [114, 98] == -1) = false := by simpa using h
        rw [h', if_neg (by decide), if_neg (by decide)]
        exact decide_eq_decide.mpr (by omega)
    · simp
def cost (s : ByteArray) (w : Int) : Int := if rt s s.size = true then 2 * fr s s.size + 2 * w else 2 * fr s s.size
theorem wide_s (p : Int) : spec_poWide.f p = some (decide (0 ≤ p ∧ p ≤ 1000)) := by unfold spec_poWide.f; rw [l1In_f, Option.bind_some]
theorem wide_i (p : Int) : impl_isWide.f p = some (decide (0 ≤ p ∧ p ≤ 1000)) := by unfold impl_isWide.f; rw [within_f, Option.bind_some]
theorem poAround_ev (s : ByteArray) (w : Int) (hd : deliv s = true) (hw : 0 ≤ w ∧ w ≤ 1000) : Ev (fun k => spec_poAround.f k s w) (cost s w) := by
  have hl := deliv_len hd
  unfold spec_poAround.f
  have key : ∀ (d i : Nat), i + d = s.size → Ev (fun k => spec_poAround.l0 k s w (fr s i) (rt s i) (i : Int)) (cost s w) := by
    intro d
    induction d with
    | zero =>
      intro i hi
      obtain rfl : i = s.size := by omega
      have hf := fr_le s s.size
      refine Ev.succ ?_
      simp only [spec_poAround.l0]
      unfold cost
      rw [w64 (x := 2 * fr s s.size) (by omega) (by omega), w64 (x := 2 * w) (by omega) (by omega), w64 (x := 2 * fr s s.size + 2 * w) (by omega) (by omega)]
      refine Ev.itef (by omega) ?_
      cases rt s s.size
      · exact Ev.itef (by simp) (Ev.now _)
      · exact Ev.itet rfl (Ev.now _)
    | succ d ih =>
      intro i hi
      have hlt : i < s.data.toList.length := by rw [len_data]; omega
      have ih := ih (i + 1) (by omega)
      have hmem := deliv_mem hd s.data.toList[i] (List.getElem_mem hlt)
      have hget : s.data.toList[i]? = some s.data.toList[i] := List.getElem?_eq_getElem hlt
      rw [fr_step s i _ hget hmem, rt_step s i hlt] at ih
      refine Ev.succ ?_
      simp only [spec_poAround.l0]
      rw [bt_get s i hlt, w64 (x := (i : Int) + 1) (by omega) (by omega), show (i : Int) + 1 = ((i + 1 : Nat) : Int) by omega]
      simp only [eq45, eq114]
      have e98 : (((s.data.toList[i].toNat : Nat) : Int) == 98) = (s.data.toList[i] == 98) := by
        rw [Bool.eq_iff_iff]
        simp only [beq_iff_eq]
        exact eq98 _
      rw [e98]
      refine Ev.itet (by omega) (Ev.itet (by omega) ?_)
      generalize s.data.toList[i] = x at ih ⊢
      by_cases h45 : x = 45
      · rw [if_pos h45] at ih
        refine Ev.itet h45 ?_
        cases hr : rt s i
        · refine Ev.itef (by simp) ?_
          rw [hr] at ih
          subst h45
          exact Ev.itef (by decide) ih
        · rw [hr] at ih
          exact Ev.itet rfl ih
      · rw [if_neg h45] at ih
        refine Ev.itef h45 ?_
        cases hr : rt s i
        · refine Ev.itef (by simp) ?_
          rw [hr] at ih
          by_cases h114 : x = 114
          · subst h114
            exact Ev.itet rfl ih
          · have e : (x == 114) = false := by simpa using h114
            rw [e, Bool.false_or, Bool.false_or] at ih
            exact Ev.itef h114 ih
        · rw [hr] at ih
          exact Ev.itet rfl ih
  have := key s.size 0 (by omega)
  rw [rt_zero, show fr s 0 = 0 by unfold fr strings_LastIndexAny.down mx; simp] at this
  simpa using this
theorem ascii_deliv {s : ByteArray} (hd : deliv s = true) : strings_ContainsAny.ascii s = true := by
  unfold strings_ContainsAny.ascii
  refine List.all_eq_true.2 fun b hb => ?_
  have := deliv_mem hd b hb
  simp only [sgn, Bool.or_eq_true, beq_iff_eq] at this
  rcases this with rfl | rfl | rfl | rfl <;> rfl
theorem aroundCost_f (s : ByteArray) (w : Int) (hd : deliv s = true) (hw : 0 ≤ w ∧ w ≤ 1000) : impl_aroundCost.f s w = some (cost s w) := by
  have hl := deliv_len hd
  have hf := fr_le s s.size
  have ha := ascii_deliv hd
  unfold impl_aroundCost.f strings_LastIndexAny.f strings_ContainsAny.f
  rw [if_pos ⟨by omega, by decide, by decide, ha, by decide⟩, Option.bind_some, if_pos ⟨by omega, by decide, ha, by decide⟩, Option.bind_some]
  have er : Lib.containsAny s.data.toList (⟨#[114, 98]⟩ : ByteArray).data.toList = rt s s.size := by
    show Lib.containsAny s.data.toList [114, 98] = _
    rw [any_rb]
    unfold rt
    rw [List.take_of_length_le (by rw [len_data]; exact Nat.le_refl _)]
  rw [er]
  change (if rt s s.size = true then some (wrap64 (wrap64 (2 * fr s s.size) + wrap64 (2 * w))) else some (wrap64 (2 * fr s s.size))) = _
  unfold cost
  rw [w64 (x := 2 * fr s s.size) (by omega) (by omega), w64 (x := 2 * w) (by omega) (by omega), w64 (x := 2 * fr s s.size + 2 * w) (by omega) (by omega)]
  split <;> rfl
def cmpI (a b : Int) : Int := if a < b then -1 else if a > b then 1 else 0
theorem compare_f (a b : Int) : cmp_Compare_int.f a b = some (cmpI a b) := by
  unfold cmp_Compare_int.f cmp_isNaN_int.f cmpI
  simp only [Option.bind_some, bne_self_eq_false, Bool.false_eq_true, if_false]
  repeat' split
  all_goals rfl
theorem costs (s : ByteArray) (a p : Int) (hs : s.size ≤ 1048576) (hd : asked s a = true) (hp : decide (0 ≤ p ∧ p ≤ 1000) = true) : ∃ C : Int, Ev (fun k => spec_RouteCost.f k s a p) (C, true) ∧ impl_routeCost.f s a p = some C := by
  obtain ⟨h1, h2, h3, h4⟩ := asked_len hd
  unfold spec_RouteCost.f
  exact ⟨_, Ev.bind (poAsked_ev s a hs) (by rw [hd]; exact Ev.itet rfl (by rw [wide_s, hp, Option.bind_some]; exact Ev.itet rfl (by rw [table_f s a h2, Option.bind_some, tab_len, tab_at0, if_pos (by omega), if_pos (by simp)]; exact Ev.now _))), by unfold impl_routeCost.f; rw [best_f s a h2, Option.bind_some]; rfl⟩
theorem both (s : ByteArray) (hs : s.size ≤ 1048576) (a p : Int) : ∃ r, Ev (fun k => spec_AroundIsBetter.f k s a p) r ∧ Ev (fun k => impl_AroundIsBetter.f k s a p) r := by
  have no : Ev (fun k => impl_AroundIsBetter.j0 k s a p true) (0, false) := by
    refine Ev.succ ?_
    simp only [impl_AroundIsBetter.j0]
    exact Ev.itet trivial (Ev.now _)
  unfold spec_AroundIsBetter.f impl_AroundIsBetter.f
  rw [wide_i]
  simp only [Option.bind_some]
  have h2 := isDelivered_ev s a hs
  cases hd : asked s a <;> rw [hd] at h2
  · have hc : Ev (fun k => spec_RouteCost.f k s a p) (0, false) := by
      unfold spec_RouteCost.f
      exact Ev.bind (poAsked_ev s a hs) (by rw [hd]; exact Ev.itef (by simp) (Ev.now _))
    exact ⟨(0, false), Ev.bind hc (Ev.itef (by simp) (Ev.now _)), Ev.bind h2 (Ev.itef (by simp) no)⟩
  · have hdv : deliv s = true := by unfold asked at hd; simp only [Bool.and_eq_true] at hd; exact hd.1
    by_cases hw : 0 ≤ p ∧ p ≤ 1000
    · obtain ⟨C, c1, c2⟩ := costs s a p hs hd (decide_eq_true hw)
      have ha := poAround_ev s p hdv hw
      have hi : ∀ r, cmpI C (cost s p) = r → Ev (fun k => impl_AroundIsBetter.j0 k s a p (!decide (0 ≤ p ∧ p ≤ 1000))) (r, true) := by
        intro r hr
        refine Ev.succ ?_
        simp only [impl_AroundIsBetter.j0]
        rw [decide_eq_true hw, c2, aroundCost_f s p hdv hw]
        simp only [Option.bind_some]
        rw [compare_f, Option.bind_some, hr]
        exact Ev.itef (by simp) (Ev.now _)
      by_cases g1 : cost s p < C
      · exact ⟨(1, true), Ev.bind c1 (Ev.itet rfl (Ev.bind ha (Ev.itet g1 (Ev.now _)))), Ev.bind h2 (Ev.itet rfl (hi 1 (by unfold cmpI; rw [if_neg (by omega), if_pos (by omega)])))⟩
      · by_cases g2 : cost s p > C
        · exact ⟨(-1, true), Ev.bind c1 (Ev.itet rfl (Ev.bind ha (Ev.itef g1 (Ev.itet g2 (Ev.now _))))), Ev.bind h2 (Ev.itet rfl (hi (-1) (by unfold cmpI; rw [if_pos (by omega)])))⟩
        · exact ⟨(0, true), Ev.bind c1 (Ev.itet rfl (Ev.bind ha (Ev.itef g1 (Ev.itef g2 (Ev.now _))))), Ev.bind h2 (Ev.itet rfl (hi 0 (by unfold cmpI; rw [if_neg (by omega), if_neg (by omega)])))⟩
    · have hc : Ev (fun k => spec_RouteCost.f k s a p) (0, false) := by
        unfold spec_RouteCost.f
        exact Ev.bind (poAsked_ev s a hs) (by rw [hd]; exact Ev.itet rfl (by rw [wide_s, decide_eq_false hw, Option.bind_some]; exact Ev.itef (by simp) (Ev.now _)))
      exact ⟨(0, false), Ev.bind hc (Ev.itef (by simp) (Ev.now _)), Ev.bind h2 (Ev.itet rfl (by rw [decide_eq_false hw]; exact no))⟩
theorem main : laws_FnExactAroundIsBetter.Pure := by
  intro s a p _ _ _
  refine Ev.rounds ?_
  unfold laws_FnExactAroundIsBetter.f
  by_cases hs : (s.size : Int) > 1048576
  · exact Ev.itet hs (Ev.now _)
  · obtain ⟨⟨r1, r2⟩, h1, h2⟩ := both s (by omega) a p
    exact Ev.itef hs (Ev.bind h1 (Ev.bind h2 (Ev.itet rfl (Ev.itef (by simp) (Ev.now _)))))
end AroundIsBetter
theorem FnExactAroundIsBetter : laws_FnExactAroundIsBetter.Pure := AroundIsBetter.main
end Go.Proofs.YtpopeedfgenebaaDoor.Pure
