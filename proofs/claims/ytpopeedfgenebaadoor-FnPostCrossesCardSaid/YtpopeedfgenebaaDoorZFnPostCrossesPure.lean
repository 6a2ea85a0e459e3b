/- Cut by wip/cut.py out of the texts of this claim (printed by the kit's printer, or this session's own): what the row's theorem does not reach is struck. Not trusted: Lean checks it. -/
import Derived.Test.YtpopeedfgenebaaDoorZFnPostCrossesPx42
import Derived.Test.YtpopeedfgenebaaDoorZFnPostCrossesKit
import Derived.Lib.VarintBits
import Derived.DataShut
namespace Go.Proofs.YtpopeedfgenebaaDoor.Pure
open Go.RowKit Go.Proofs.YtpopeedfgenebaaDoorW.PrintWords Go.Proofs.YtpopeedfgenebaaDoorW.PrintLast Go.Proofs.YtpopeedfgenebaaDoorW.PrintMore Go.Proofs.YtpopeedfgenebaaDoorKit
open Go.Proofs.YtpopeedfgenebaaDoor.PFnPostCrosses
namespace PostCrosses
theorem ge_le (a b c : Int) : (if a ≥ b then some (decide (a ≤ c)) else some false) = some (decide (b ≤ a ∧ a ≤ c)) := by
 by_cases h : a ≥ b
 ·rw [if_pos h]; simp [show b ≤ a from h]
 ·rw [if_neg h]; simp; omega
theorem l1In_f (a b c : Int) : spec_l1In.f a b c = some (decide (b ≤ a ∧ a ≤ c)) := by unfold spec_l1In.f; exact ge_le a b c
theorem within_f (a b c : Int) : impl_within.f a b c = some (decide (b ≤ a ∧ a ≤ c)) := by unfold impl_within.f; exact ge_le a b c
theorem l1All_ev (l : List Int) (hl : l.length ≤ 1048576) (a b : Int) : Ev (fun k => spec_l1All.f k l a b) (l.all fun x => decide (a ≤ x ∧ x ≤ b)) := by
 rw [← runL_all _ l 0]
 refine ev_loop0 l (fun k i (_ : Unit) => spec_l1All.l0 k a b l (l.length : Int) i) _ _ (fun _ _ => True) () trivial (fun i s hi _ => ?_) (fun s _ => ?_)
 ·have hw : wrap64 ((i : Int) + 1) = (i : Int) + 1 := w64 (by omega) (by omega)
  constructor
  ·intro s' e
   refine ⟨trivial, fun r hr => Ev.to _ (fun k => ?_) hr⟩
   by_cases hp : a ≤ l[i] ∧ l[i] ≤ b
   ·simp only [spec_l1All.l0]
    rw [if_pos (by omega), if_pos (by omega), if_pos (by omega), l1In_f, rd_get l i hi, decide_eq_true hp, hw]; rfl
   ·simp [hp] at e
  ·intro r e
   by_cases hp : a ≤ l[i] ∧ l[i] ≤ b
   ·simp [hp] at e
   ·rw [if_neg (by simpa using hp)] at e
    cases e
    refine Ev.stop fun k => ?_
    simp only [spec_l1All.l0]
    rw [if_pos (by omega), if_pos (by omega), if_pos (by omega), l1In_f, rd_get l i hi, decide_eq_false hp]; rfl
 ·exact Ev.stop fun k => by simp only [spec_l1All.l0]; rw [if_neg (by omega)]
theorem allWithin_l0 (a b : Int) (l : List Int) (n : Int) : ∀ k i, impl_allWithin.l0 k a b l n i = spec_l1All.l0 k a b l n i
 | 0, _ => rfl
 | k + 1, i => by simp only [impl_allWithin.l0, spec_l1All.l0, within_f, l1In_f, allWithin_l0 a b l n k]
theorem allWithin_ev (l : List Int) (hl : l.length ≤ 1048576) (a b : Int) : Ev (fun k => impl_allWithin.f k l a b) (l.all fun x => decide (a ≤ x ∧ x ≤ b)) :=
 Ev.congr (fun k => by unfold impl_allWithin.f; exact allWithin_l0 _ _ _ _ _ _) (l1All_ev l hl a b)
def sgn (b : UInt8) : Bool := b == 108 || (b == 114 || (b == 98 || b == 45))
def deliv (s : ByteArray) : Bool := decide (1 ≤ (s.size : Int) ∧ (s.size : Int) ≤ 60) && s.data.toList.all sgn
theorem deliv_len {s : ByteArray} (h : deliv s = true) : 1 ≤ s.size ∧ s.size ≤ 60 := by
 simp only [deliv, Bool.and_eq_true, decide_eq_true_eq] at h; omega
theorem deliv_mem {s : ByteArray} (h : deliv s = true) : ∀ b ∈ s.data.toList, sgn b = true := by
 simp only [deliv, Bool.and_eq_true, List.all_eq_true] at h
 exact h.2
theorem eq108 (b : UInt8) : ((b.toNat : Int) = 108) ↔ b = 108 := byte_eq b 108 (by decide)
theorem eq114 (b : UInt8) : ((b.toNat : Int) = 114) ↔ b = 114 := byte_eq b 114 (by decide)
theorem eq98 (b : UInt8) : ((b.toNat : Int) = 98) ↔ b = 98 := byte_eq b 98 (by decide)
theorem eq45 (b : UInt8) : ((b.toNat : Int) = 45) ↔ b = 45 := byte_eq b 45 (by decide)
theorem poGood_l0 (s : ByteArray) (hs : s.size ≤ 1048576) : Ev (fun k => spec_poGood.l0 k s 0) (s.data.toList.all sgn) := by
 rw [← runL_all _ s.data.toList 0]
 refine ev_loop0 s.data.toList (fun k i (_ : Unit) => spec_poGood.l0 k s i) _ _ (fun _ _ => True) () trivial (fun i u hi _ => ?_) (fun u _ => ?_)
 ·have hi' : i < s.size := by rw [← len_data]; exact hi
  have hw : wrap64 ((i : Int) + 1) = (i : Int) + 1 := w64 (by omega) (by omega)
  have key : ∀ k, spec_poGood.l0 (k + 1) s (i : Int) = if sgn s.data.toList[i] = true then spec_poGood.l0 k s ((i : Int) + 1) else some false := by
   intro k
   simp only [spec_poGood.l0]
   rw [if_pos (by omega), if_pos (by omega), bt_get s i hi, hw]
   simp only [eq108, eq114, eq98, eq45, sgn, Bool.or_eq_true, beq_iff_eq]
   by_cases h1 : s.data.toList[i] = 108
   ·rw [if_pos h1, if_pos (Or.inl h1)]
   rw [if_neg h1]
   by_cases h2 : s.data.toList[i] = 114
   ·rw [if_pos h2, if_pos (Or.inr (Or.inl h2))]
   rw [if_neg h2]
   by_cases h3 : s.data.toList[i] = 98
   ·rw [if_pos h3, if_pos (Or.inr (Or.inr (Or.inl h3)))]
   rw [if_neg h3]
   by_cases h4 : s.data.toList[i] = 45
   ·rw [if_pos h4, if_pos (Or.inr (Or.inr (Or.inr h4)))]
   ·rw [if_neg h4, if_neg (by rintro (h | h | h | h) <;> contradiction)]
  constructor
  ·intro s' e
   cases hp : sgn s.data.toList[i]
   ·rw [hp] at e; simp at e
   ·exact ⟨trivial, fun r hr => Ev.to _ (fun k => by rw [key, hp, if_pos rfl]) hr⟩
  ·intro r e
   cases hp : sgn s.data.toList[i]
   ·rw [hp] at e
    cases e
    exact Ev.stop fun k => by rw [key, hp]; rfl
   ·rw [hp] at e; simp at e
 ·exact Ev.stop fun k => by simp only [spec_poGood.l0]; rw [if_neg (by rw [len_data]; omega)]
theorem poGood_ev (s : ByteArray) (hs : s.size ≤ 1048576) : Ev (fun k => spec_poGood.f k s) (deliv s) := by
 unfold spec_poGood.f deliv
 simp only [l1In_f, Option.bind_some]
 cases decide (1 ≤ (s.size : Int) ∧ (s.size : Int) ≤ 60)
 ·exact Ev.itef (by simp) (Ev.now _)
 ·exact Ev.itet rfl (poGood_l0 s hs)
theorem index_sgn (b : UInt8) : (Lib.indexByte [108, 114, 98, 45] b < 0) ↔ ¬ sgn b = true := by
 have h1 : Lib.indexByte [45] b = if 45 = b then 0 else -1 := by simp [Lib.indexByte]
 simp only [Lib.indexByte, sgn, Bool.or_eq_true, beq_iff_eq]
 by_cases e1 : (108 : UInt8) = b
 ·subst e1; simp
 by_cases e2 : (114 : UInt8) = b
 ·subst e2; simp
 by_cases e3 : (98 : UInt8) = b
 ·subst e3; simp
 by_cases e4 : (45 : UInt8) = b
 ·subst e4; simp
 ·simp [e1, e2, e3, e4, Ne.symm e1, Ne.symm e2, Ne.symm e3, Ne.symm e4]
theorem AreDeliveries_ev (s : ByteArray) (hs : s.size ≤ 1048576) : Ev (fun k => impl_AreDeliveries.f k s) (deliv s) := by
 unfold impl_AreDeliveries.f
 have e : deliv s = runL (fun _ x (_ : Unit) => if sgn x then (Sum.inl () : Unit ⊕ Bool) else .inr false) (fun _ => decide (1 ≤ (s.size : Int) ∧ (s.size : Int) ≤ 60)) 0 s.data.toList () := by
  have gen : ∀ (l : List UInt8) (i : Nat) (c : Bool), runL (fun _ x (_ : Unit) => if sgn x then (Sum.inl () : Unit ⊕ Bool) else .inr false) (fun _ => c) i l () = (c && l.all sgn) := by
   intro l
   induction l with
   | nil => intro i c; simp [runL]
   | cons x xs ih =>
    intro i c
    simp only [runL, List.all_cons]
    cases sgn x
    ·simp
    ·simp only [if_true, Bool.true_and]; exact ih _ _
  rw [gen]
  rfl
 rw [e]
 refine ev_loop0 s.data.toList (fun k i (_ : Unit) => impl_AreDeliveries.l0 k s (s.size : Int) i) _ _ (fun _ _ => True) () trivial (fun i u hi _ => ?_) (fun u _ => ?_)
 ·have hi' : i < s.size := by rw [← len_data]; exact hi
  have hw : wrap64 ((i : Int) + 1) = (i : Int) + 1 := w64 (by omega) (by omega)
  have key : ∀ k, impl_AreDeliveries.l0 (k + 1) s (s.size : Int) (i : Int) = if sgn s.data.toList[i] = true then impl_AreDeliveries.l0 k s (s.size : Int) ((i : Int) + 1) else some false := by
   intro k
   simp only [impl_AreDeliveries.l0, strings_IndexByte.f, Option.bind_some]
   rw [if_pos (by omega), if_pos (by omega), if_pos (by omega), bt_get s i hi, byte_back, hw]
   by_cases hp : sgn s.data.toList[i] = true
   ·rw [if_pos hp, if_neg (fun h => (index_sgn _).1 h hp)]
   ·rw [if_neg hp, if_pos ((index_sgn _).2 hp)]
  constructor
  ·intro s' e
   cases hp : sgn s.data.toList[i]
   ·rw [hp] at e; simp at e
   ·exact ⟨trivial, fun r hr => Ev.to _ (fun k => by rw [key, hp, if_pos rfl]) hr⟩
  ·intro r e
   cases hp : sgn s.data.toList[i]
   ·rw [hp] at e
    cases e
    exact Ev.stop fun k => by rw [key, hp]; rfl
   ·rw [hp] at e; simp at e
 ·exact Ev.stop fun k => by simp only [impl_AreDeliveries.l0, within_f, Option.bind_some]; rw [if_neg (by rw [len_data]; omega)]
def str (l : List UInt8) : ByteArray := ⟨l.toArray⟩
def toI (l : List UInt8) : List Int := l.map fun b => (b.toNat : Int)
theorem strOf_toI (l : List UInt8) : strOfNums (toI l) = str l := by
 apply ba_ext
 simp only [strOfNums, toI, str, List.map_map]
 have e : ∀ l : List UInt8, List.map ((fun n : Int => UInt8.ofNat n.toNat) ∘ fun b : UInt8 => (b.toNat : Int)) l = l := by
  intro l
  induction l with
  | nil => rfl
  | cons b l ih => rw [List.map_cons, ih]; simp
 exact e l
theorem cross_eq (a b c : Int) : impl_crossingsAt.f a b c = spec_poCross.f a b c := by
 unfold impl_crossingsAt.f spec_poCross.f
 by_cases h1 : b = c
 ·rw [if_pos h1, if_pos h1]
  by_cases h2 : a = 98
  ·rw [if_pos h2, if_pos h2]
  rw [if_neg h2, if_neg h2]
  by_cases h3 : a = 114
  ·subst h3; simp
  ·by_cases h4 : a = 108
   ·subst h4; simp
   ·simp [h3, h4]
 ·rw [if_neg h1, if_neg h1]
theorem crossR (b s t : Int) : impl_bestRoute.cross b s t = spec_poTable.cross b s t := by unfold impl_bestRoute.cross spec_poTable.cross; rw [cross_eq]
theorem upd_eq (o c : Int) (p : Int × Int) : impl_bestRoute.upd o c p = spec_poTable.upd o c p := by
 have h : ∀ x : Int, mn 1000000000000001 x = spec_poTable.least x 1000000000000001 := by
  intro x; unfold mn spec_poTable.least; rfl
 unfold impl_bestRoute.upd spec_poTable.upd
 rw [h, h]
def good (m : Int) (p : Int × Int) : Prop := (p.1 = 1000000 ∧ p.2 = 0) ∨ p.1 ≤ m
theorem side_eq {b m : Int} {R : (Nat → Int) × (Nat → Int)} (hm : m ≤ 200) (hR : ∀ t, good m (R.1 t, R.2 t)) (hok : ∀ t, spec_poTable.Ok (R.1 t, R.2 t)) (s : Nat) :
  ∀ k, impl_bestRoute.side b R s k = spec_poTable.side b R s k ∧ good (m + 2) (spec_poTable.side b R s k)
 | 0 => ⟨rfl, .inl ⟨rfl, rfl⟩⟩
 | k + 1 => by
  obtain ⟨e, g⟩ := side_eq hm hR hok s k
  have o := spec_poTable.side_ok (b := b) hok s k
  have hx := (spec_poTable.cross_f b s k).2
  have hk := hR k
  unfold impl_bestRoute.side spec_poTable.side
  rw [e, crossR, upd_eq]
  generalize spec_poTable.side b R s k = p at g o
  generalize spec_poTable.cross b s k = x at hx
  obtain ⟨f, c⟩ := p
  simp only [good, spec_poTable.Ok] at g o hk ⊢
  by_cases h : R.1 k = 1000000
  ·rw [if_pos h]
   have hc : R.2 k = 0 := by omega
   refine ⟨?_, g⟩
   rw [h, hc]
   unfold spec_poTable.upd spec_poTable.least
   simp only
   by_cases h1 : x + 1000000 = f
   ·rw [if_neg (by omega), if_pos h1]
    congr 1
    by_cases h2 : c + 0 < 1000000000000001
    ·rw [if_pos h2]; omega
    ·rw [if_neg h2]; omega
   ·rw [if_neg (by omega), if_neg h1]
  ·rw [if_neg h]
   refine ⟨rfl, ?_⟩
   unfold spec_poTable.upd
   simp only
   by_cases h1 : x + R.1 k < f
   ·rw [if_pos h1]; right; simp only; omega
   ·rw [if_neg h1]
    by_cases h2 : x + R.1 k = f
    ·rw [if_pos h2]; right; simp only; omega
    ·rw [if_neg h2]; exact g
theorem side_fin {b m : Int} {R : (Nat → Int) × (Nat → Int)} (hm : m ≤ 200) (hf : R.1 0 ≤ m ∨ R.1 1 ≤ m) (s : Nat) : (spec_poTable.side b R s 2).1 ≤ m + 2 := by
 have up : ∀ k, (spec_poTable.side b R s (k + 1)).1 ≤ (spec_poTable.side b R s k).1 ∧ (R.1 k ≤ m → (spec_poTable.side b R s (k + 1)).1 ≤ m + 2) := by
  intro k
  have hx := (spec_poTable.cross_f b s k).2
  rw [spec_poTable.side]
  generalize spec_poTable.side b R s k = p
  generalize spec_poTable.cross b s k = x at hx
  by_cases h : R.1 k = 1000000
  ·rw [if_pos h]; exact ⟨Int.le_refl _, fun h' => by omega⟩
  ·rw [if_neg h]
   unfold spec_poTable.upd
   by_cases h1 : x + R.1 k < p.1
   ·rw [if_pos h1]; simp only; omega
   ·rw [if_neg h1]
    by_cases h2 : x + R.1 k = p.1
    ·rw [if_pos h2]; simp only; omega
    ·rw [if_neg h2]; omega
 have h0 := up 0
 have h1 := up 1
 rcases hf with h | h
 ·have := h0.2 h; have := h1.1; simp only [Nat.zero_add, Nat.reduceAdd] at *; omega
 ·exact h1.2 h
theorem end_eq (a : Int) : impl_bestRoute.endRow a = spec_poTable.endRow a := by
 unfold impl_bestRoute.endRow spec_poTable.endRow
 congr 1 <;> funext s <;> (by_cases h : a = 2 ∨ a = (s : Int)) <;> (first | (rw [if_pos h, if_neg (by omega)]) | (rw [if_neg h, if_pos (by omega)]))
theorem end_ok (a : Int) (t : Nat) : spec_poTable.Ok ((spec_poTable.endRow a).1 t, (spec_poTable.endRow a).2 t) := by
 unfold spec_poTable.Ok spec_poTable.endRow
 simp only
 split <;> omega
theorem row_eq (a : Int) : ∀ l : List Int, l.length ≤ 60 → impl_bestRoute.rowAt (impl_bestRoute.endRow a) l = spec_poTable.rowAt (spec_poTable.endRow a) l ∧ ∀ t, good (2 * (l.length : Int)) ((spec_poTable.rowAt (spec_poTable.endRow a) l).1 t, (spec_poTable.rowAt (spec_poTable.endRow a) l).2 t)
 | [], _ => ⟨end_eq a, fun t => by
   unfold good spec_poTable.rowAt spec_poTable.endRow
   simp only
   by_cases h : a = 2 ∨ a = (t : Int)
   ·rw [if_pos h]; right; simp
   ·rw [if_neg h, if_neg h]; left; exact ⟨rfl, rfl⟩⟩
 | b :: l, hl => by
  simp only [List.length_cons] at hl
  obtain ⟨e, g⟩ := row_eq a l (by omega)
  have hs := fun s => side_eq (b := b) (by omega) g (fun t => spec_poTable.rowAt_ok (end_ok a) l t) s 2
  constructor
  ·unfold impl_bestRoute.rowAt spec_poTable.rowAt
   rw [e]
   congr 1 <;> funext s <;> rw [(hs s).1]
  ·intro t
   have := (hs t).2
   rw [List.length_cons, show (2 * ((l.length + 1 : Nat) : Int)) = 2 * (l.length : Int) + 2 by omega]
   exact this
theorem R_eq (s : ByteArray) (a : Int) (hs : s.size ≤ 60) (j : Nat) : impl_bestRoute.R s a j = spec_poTable.R s a j := (row_eq a _ (by rw [List.length_drop, bytesOf_length]; omega)).1
theorem row_fin (a : Int) (ha : 0 ≤ a ∧ a ≤ 2) : ∀ l : List Int, l.length ≤ 60 → (spec_poTable.rowAt (spec_poTable.endRow a) l).1 0 ≤ 2 * (l.length : Int) ∨ (spec_poTable.rowAt (spec_poTable.endRow a) l).1 1 ≤ 2 * (l.length : Int)
 | [], _ => by
  unfold spec_poTable.rowAt spec_poTable.endRow
  simp only [List.length_nil]
  by_cases h : a = 1
  ·right; rw [if_pos (by omega)]; omega
  ·left; rw [if_pos (by omega)]; omega
 | b :: l, hl => by
  simp only [List.length_cons] at hl
  left
  have := side_fin (b := b) (m := 2 * (l.length : Int)) (by omega) (row_fin a ha l (by omega)) 0
  rw [List.length_cons, show (2 * ((l.length + 1 : Nat) : Int)) = 2 * (l.length : Int) + 2 by omega]
  exact this
theorem R_fin (s : ByteArray) (a : Int) (ha : 0 ≤ a ∧ a ≤ 2) (hs : s.size ≤ 60) (j : Nat) (hj : j < s.size) (t : Nat) : (spec_poTable.R s a j).1 t ≤ 200 := by
 rw [spec_poTable.R_step s a j hj]
 have hl : ((bytesOf s).drop (j + 1)).length ≤ 60 := by rw [List.length_drop, bytesOf_length]; omega
 have := side_fin (b := bt s j) (m := 2 * (((bytesOf s).drop (j + 1)).length : Int)) (R := spec_poTable.R s a (j + 1)) (by omega) (row_fin a ha _ hl) t
 simp only; omega
theorem R_good (s : ByteArray) (a : Int) (hs : s.size ≤ 60) (j t : Nat) : good 200 ((spec_poTable.R s a j).1 t, (spec_poTable.R s a j).2 t) := by
 have hl : ((bytesOf s).drop j).length ≤ 60 := by rw [List.length_drop, bytesOf_length]; omega
 have := (row_eq a _ hl).2 t
 unfold good at *
 rcases this with h | h
 ·exact .inl h
 ·right; exact Int.le_trans h (by omega)
theorem tab_len (n : Nat) (f : Nat → Nat → Int) : (spec_poTable.tab n f).length = n + 1 := by simp [spec_poTable.tab]
theorem tab_at (n : Nat) (f : Nat → Nat → Int) {j : Nat} (hj : j ≤ n) : rd_L4 (spec_poTable.tab n f) (j : Int) = [f j 0, f j 1] := by
 unfold rd_L4 spec_poTable.tab
 rw [List.getD_eq_getElem?_getD, List.getElem?_map, show ((j : Int)).toNat = j by omega, List.getElem?_range (by omega)]
 rfl
theorem tab_at0 (n : Nat) (f : Nat → Nat → Int) : rd_L4 (spec_poTable.tab n f) 0 = [f 0 0, f 0 1] := tab_at n f (Nat.zero_le n)
def asked (s : ByteArray) (a : Int) : Bool := deliv s && decide (0 ≤ a ∧ a ≤ 2)
theorem asked_len {s : ByteArray} {a : Int} (h : asked s a = true) : 1 ≤ s.size ∧ s.size ≤ 60 ∧ 0 ≤ a ∧ a ≤ 2 := by
 simp only [asked, Bool.and_eq_true, decide_eq_true_eq] at h
 exact ⟨(deliv_len h.1).1, (deliv_len h.1).2, h.2⟩
theorem isDelivered_ev (s : ByteArray) (a : Int) (hs : s.size ≤ 1048576) : Ev (fun k => impl_isDelivered.f k s a) (asked s a) := by
 unfold impl_isDelivered.f asked
 refine Ev.bind (AreDeliveries_ev s hs) ?_
 cases deliv s
 ·exact Ev.itef (by simp) (Ev.now _)
 ·exact Ev.itet rfl (by simp only [within_f, Option.bind_some, Bool.true_and]; exact Ev.now _)
theorem table_f (s : ByteArray) (a : Int) (hs : s.size ≤ 60) : spec_poTable.f s a = some (spec_poTable.tab s.size (fun j t => (spec_poTable.R s a j).1 t), spec_poTable.tab s.size (fun j t => (spec_poTable.R s a j).2 t)) := by
 unfold spec_poTable.f; rw [if_pos hs]
theorem best_f (s : ByteArray) (a : Int) (hs : s.size ≤ 60) : impl_bestRoute.f s a = some ((spec_poTable.R s a 0).1 0, impl_bestRoute.sides s a s.size, (spec_poTable.R s a 0).2 0) := by
 unfold impl_bestRoute.f; rw [if_pos hs, R_eq s a hs]
theorem poAsked_ev (s : ByteArray) (a : Int) (hs : s.size ≤ 1048576) : Ev (fun k => spec_poAsked.f k s a) (asked s a) := by
 unfold spec_poAsked.f asked
 refine Ev.bind (poGood_ev s hs) ?_
 cases deliv s
 ·exact Ev.itef (by simp) (Ev.now _)
 ·exact Ev.itet rfl (by simp only [l1In_f, Option.bind_some, Bool.true_and]; exact Ev.now _)
def F (s : ByteArray) (a : Int) : Nat → Nat → Int := fun j t => (spec_poTable.R s a j).1 t
theorem rd2 (f : Nat → Int) {c : Nat} (hc : c < 2) : rd [f 0, f 1] (c : Int) = f c := by
 rcases (show c = 0 ∨ c = 1 by omega) with rfl | rfl <;> rfl
theorem sides_succ (s : ByteArray) (a : Int) (i : Nat) : impl_bestRoute.sides s a (i + 1) = impl_bestRoute.sides s a i ++ [((impl_bestRoute.come s a (i + 1) : Nat) : Int)] := by
 unfold impl_bestRoute.sides
 rw [List.range_succ, List.map_append]
 rfl
theorem sides_len (s : ByteArray) (a : Int) (i : Nat) : (impl_bestRoute.sides s a i).length = i := by simp [impl_bestRoute.sides]
theorem come_succ (s : ByteArray) (a : Int) (hs : s.size ≤ 60) (i : Nat) : impl_bestRoute.come s a (i + 1) = if spec_poTable.cross (bt s i) (impl_bestRoute.come s a i : Nat) 0 + F s a (i + 1) 0 = F s a i (impl_bestRoute.come s a i) then 0 else 1 := by
 rw [impl_bestRoute.come]
 unfold impl_bestRoute.leave
 rw [R_eq s a hs, R_eq s a hs, crossR]
 rfl
theorem l0_ev (s : ByteArray) (a : Int) (hs : s.size ≤ 60) (ha : 0 ≤ a ∧ a ≤ 2) : ∀ (d i : Nat), i + d = s.size → Ev (fun k => spec_poSides.l0 k s (spec_poTable.tab s.size (F s a)) (impl_bestRoute.sides s a i) ((impl_bestRoute.come s a i : Nat) : Int) (i : Int)) (impl_bestRoute.sides s a s.size) := by
 intro d
 induction d with
 | zero =>
  intro i hi
  obtain rfl : i = s.size := by omega
  exact Ev.stop fun k => by simp only [spec_poSides.l0]; rw [if_neg (by omega)]
 | succ d ih =>
  intro i hi
  refine Ev.to _ (fun k => ?_) (ih (i + 1) (by omega))
  have hw : wrap64 ((i : Int) + 1) = ((i + 1 : Nat) : Int) := by rw [w64 (by omega) (by omega)]; rfl
  have hc := impl_bestRoute.come_lt s a i
  have t1 := tab_at s.size (F s a) (j := i + 1) (by omega)
  have t0 := tab_at s.size (F s a) (j := i) (by omega)
  have hx := spec_poTable.cross_f (bt s i) (impl_bestRoute.come s a i : Nat) 0
  have hfin := R_fin s a ha hs i (by omega) (impl_bestRoute.come s a i)
  have hg := R_good s a hs (i + 1) 0
  have hok := spec_poTable.R_ok s a (i + 1) 0
  have hcs := come_succ s a hs i
  rw [sides_succ]
  simp only [spec_poSides.l0]
  rw [hw, t1, t0, tab_len, if_pos (by omega), if_pos (by omega), if_pos (by omega), if_pos (by simp), sides_len]
  rw [show rd [F s a (i + 1) 0, F s a (i + 1) 1] 0 = F s a (i + 1) 0 from rfl, rd2 (F s a i) hc]
  change (spec_poTable.R s a i).1 (impl_bestRoute.come s a i) ≤ 200 at hfin
  have hfin' : F s a i (impl_bestRoute.come s a i) ≤ 200 := hfin
  have hok' : 0 ≤ F s a (i + 1) 0 ∧ F s a (i + 1) 0 ≤ 1000000 := ⟨hok.1, hok.2.1⟩
  rw [hx.1, Option.bind_some]
  generalize hC : impl_bestRoute.come s a i = c at *
  generalize spec_poTable.cross (bt s i) (c : Nat) 0 = x at *
  generalize F s a (i + 1) 0 = f1 at *
  generalize F s a i c = f0 at *
  by_cases hF : f1 = 1000000
  ·rw [if_pos hF, if_pos (by omega)]
   rw [if_neg (by omega)] at hcs
   rw [hcs]
   rfl
  ·rw [if_neg hF, if_pos (by omega), if_pos (by omega), if_pos (by omega), if_pos (by simp; omega), w64 (by omega) (by omega)]
   by_cases he : x + f1 = f0
   ·rw [if_pos he, if_pos (by omega)]
    rw [if_pos he] at hcs
    rw [hcs]
    rfl
   ·rw [if_neg he, if_pos (by omega)]
    rw [if_neg he] at hcs
    rw [hcs]
    rfl
theorem poSides_ev (s : ByteArray) (a : Int) (hs : s.size ≤ 60) (ha : 0 ≤ a ∧ a ≤ 2) : Ev (fun k => spec_poSides.f k s a) (impl_bestRoute.sides s a s.size) := by
 unfold spec_poSides.f
 rw [table_f s a hs]
 exact l0_ev s a hs ha s.size 0 (by omega)
def fr (s : ByteArray) (i : Nat) : Int := mx 0 (strings_LastIndexAny.down s.data.toList [108, 114, 98] i)
def rt (s : ByteArray) (i : Nat) : Bool := (s.data.toList.take i).any fun b => b == 114 || b == 98
theorem fr_le (s : ByteArray) : ∀ i : Nat, 0 ≤ fr s i ∧ fr s i ≤ i
 | 0 => by unfold fr strings_LastIndexAny.down mx; simp
 | i + 1 => by
  have ih := fr_le s i
  unfold fr at ih ⊢
  unfold strings_LastIndexAny.down
  split
  ·split
   ·unfold mx; split <;> omega
   ·omega
  ·omega
theorem fr_step (s : ByteArray) (i : Nat) (x : UInt8) (hx : s.data.toList[i]? = some x) (hs : sgn x = true) : fr s (i + 1) = if x = 45 then fr s i else (i : Int) := by
 have hc : ([108, 114, 98] : List UInt8).contains x = !(x == 45) := by
  simp only [sgn, Bool.or_eq_true, beq_iff_eq] at hs
  rcases hs with rfl | rfl | rfl | rfl <;> rfl
 unfold fr
 by_cases h : x = 45
 ·rw [if_pos h, strings_LastIndexAny.miss hx (by rw [hc, h]; rfl)]
 ·rw [if_neg h, strings_LastIndexAny.hit hx (by rw [hc]; simpa using h)]
  unfold mx
  split <;> omega
theorem rt_step (s : ByteArray) (i : Nat) (h : i < s.data.toList.length) : rt s (i + 1) = (rt s i || (s.data.toList[i] == 114 || s.data.toList[i] == 98)) := by
 unfold rt
 rw [List.take_succ_eq_append_getElem h, List.any_append]
 simp
theorem rt_zero (s : ByteArray) : rt s 0 = false := by simp [rt]
theorem any_rb : ∀ l : List UInt8, Lib.containsAny l [114, 98] = l.any fun b => b == 114 || b == 98
 | [] => by simp [Lib.containsAny, Lib.indexAny]
 | b :: l => by
  have ih := any_rb l
  have ge := Lib.indexAny_ge [114, 98] l
  unfold Lib.containsAny at *
  rw [List.any_cons, ← ih, Lib.indexAny]
  have hc : ([114, 98] : List UInt8).contains b = (b == 114 || b == 98) := by rw [Bool.eq_iff_iff]; simp
  rw [hc]
  cases (b == 114 || b == 98)
  ·simp only [Bool.false_or]
   by_cases h : Lib.indexAny l [114, 98] = -1
   ·rw [h]; decide
   ·have h' : (Lib.indexAny l [114, 98] == -1) = false := by simpa using h
    rw [h', if_neg (by decide), if_neg (by decide)]
    exact decide_eq_decide.mpr (by omega)
  ·simp
def cost (s : ByteArray) (w : Int) : Int := if rt s s.size = true then 2 * fr s s.size + 2 * w else 2 * fr s s.size
theorem wide_s (p : Int) : spec_poWide.f p = some (decide (0 ≤ p ∧ p ≤ 1000)) := by unfold spec_poWide.f; rw [l1In_f, Option.bind_some]
theorem wide_i (p : Int) : impl_isWide.f p = some (decide (0 ≤ p ∧ p ≤ 1000)) := by unfold impl_isWide.f; rw [within_f, Option.bind_some]
theorem poAround_ev (s : ByteArray) (w : Int) (hd : deliv s = true) (hw : 0 ≤ w ∧ w ≤ 1000) : Ev (fun k => spec_poAround.f k s w) (cost s w) := by
 have hl := deliv_len hd
 unfold spec_poAround.f
 have key : ∀ (d i : Nat), i + d = s.size → Ev (fun k => spec_poAround.l0 k s w (fr s i) (rt s i) (i : Int)) (cost s w) := by
  intro d
  induction d with
  | zero =>
   intro i hi
   obtain rfl : i = s.size := by omega
   have hf := fr_le s s.size
   refine Ev.succ ?_
   simp only [spec_poAround.l0]
   unfold cost
   rw [w64 (x := 2 * fr s s.size) (by omega) (by omega), w64 (x := 2 * w) (by omega) (by omega), w64 (x := 2 * fr s s.size + 2 * w) (by omega) (by omega)]
   refine Ev.itef (by omega) ?_
   cases rt s s.size
   ·exact Ev.itef (by simp) (Ev.now _)
   ·exact Ev.itet rfl (Ev.now _)
  | succ d ih =>
   intro i hi
   have hlt : i < s.data.toList.length := by rw [len_data]; omega
   have ih := ih (i + 1) (by omega)
   have hmem := deliv_mem hd s.data.toList[i] (List.getElem_mem hlt)
   have hget : s.data.toList[i]? = some s.data.toList[i] := List.getElem?_eq_getElem hlt
   rw [fr_step s i _ hget hmem, rt_step s i hlt] at ih
   refine Ev.succ ?_
   simp only [spec_poAround.l0]
   rw [bt_get s i hlt, w64 (x := (i : Int) + 1) (by omega) (by omega), show (i : Int) + 1 = ((i + 1 : Nat) : Int) by omega]
   simp only [eq45, eq114]
   have e98 : (((s.data.toList[i].toNat : Nat) : Int) == 98) = (s.data.toList[i] == 98) := by
    rw [Bool.eq_iff_iff]
    simp only [beq_iff_eq]
    exact eq98 _
   rw [e98]
   refine Ev.itet (by omega) (Ev.itet (by omega) ?_)
   generalize s.data.toList[i] = x at ih ⊢
   by_cases h45 : x = 45
   ·rw [if_pos h45] at ih
    refine Ev.itet h45 ?_
    cases hr : rt s i
    ·refine Ev.itef (by simp) ?_
     rw [hr] at ih
     subst h45
     exact Ev.itef (by decide) ih
    ·rw [hr] at ih
     exact Ev.itet rfl ih
   ·rw [if_neg h45] at ih
    refine Ev.itef h45 ?_
    cases hr : rt s i
    ·refine Ev.itef (by simp) ?_
     rw [hr] at ih
     by_cases h114 : x = 114
     ·subst h114
      exact Ev.itet rfl ih
     ·have e : (x == 114) = false := by simpa using h114
      rw [e, Bool.false_or, Bool.false_or] at ih
      exact Ev.itef h114 ih
    ·rw [hr] at ih
     exact Ev.itet rfl ih
 have := key s.size 0 (by omega)
 rw [rt_zero, show fr s 0 = 0 by unfold fr strings_LastIndexAny.down mx; simp] at this
 simpa using this
theorem ascii_deliv {s : ByteArray} (hd : deliv s = true) : strings_ContainsAny.ascii s = true := by
 unfold strings_ContainsAny.ascii
 refine List.all_eq_true.2 fun b hb => ?_
 have := deliv_mem hd b hb
 simp only [sgn, Bool.or_eq_true, beq_iff_eq] at this
 rcases this with rfl | rfl | rfl | rfl <;> rfl
theorem aroundCost_f (s : ByteArray) (w : Int) (hd : deliv s = true) (hw : 0 ≤ w ∧ w ≤ 1000) : impl_aroundCost.f s w = some (cost s w) := by
 have hl := deliv_len hd
 have hf := fr_le s s.size
 have ha := ascii_deliv hd
 unfold impl_aroundCost.f strings_LastIndexAny.f strings_ContainsAny.f
 rw [if_pos ⟨by omega, by decide, by decide, ha, by decide⟩, Option.bind_some, if_pos ⟨by omega, by decide, ha, by decide⟩, Option.bind_some]
 have er : Lib.containsAny s.data.toList (⟨#[114, 98]⟩ : ByteArray).data.toList = rt s s.size := by
  show Lib.containsAny s.data.toList [114, 98] = _
  rw [any_rb]
  unfold rt
  rw [List.take_of_length_le (by rw [len_data]; exact Nat.le_refl _)]
 rw [er]
 change (if rt s s.size = true then some (wrap64 (wrap64 (2 * fr s s.size) + wrap64 (2 * w))) else some (wrap64 (2 * fr s s.size))) = _
 unfold cost
 rw [w64 (x := 2 * fr s s.size) (by omega) (by omega), w64 (x := 2 * w) (by omega) (by omega), w64 (x := 2 * fr s s.size + 2 * w) (by omega) (by omega)]
 split <;> rfl
def codeOk (code : List Int) : Prop := code.length ≤ 1048576 ∧ ∀ x ∈ code, 0 ≤ x ∧ x ≤ 255
theorem rd_code {code : List Int} (h : codeOk code) (i : Int) (h0 : 0 ≤ i) (h1 : i < code.length) : 0 ≤ rd code i ∧ rd code i ≤ 255 := by
 obtain ⟨n, rfl⟩ : ∃ n : Nat, i = (n : Int) := ⟨i.toNat, by omega⟩
 rw [rd_get code n (by omega)]
 exact h.2 _ (List.getElem_mem _)
theorem and255 (y : Int) : 0 ≤ Go.bits .and .u64 ((IntKind.u64.wrap y) / 1099511627776) 255 ∧ Go.bits .and .u64 ((IntKind.u64.wrap y) / 1099511627776) 255 ≤ 255 := by
 have h0 : 0 ≤ (IntKind.u64.wrap y) / 1099511627776 ∧ (IntKind.u64.wrap y) / 1099511627776 < 18446744073709551616 := by rw [Go.IntKind.wrap_u64]; omega
 have h := Go.bits_mask .u64 64 (by decide) Go.wraps_u64 8 (by decide) _ h0.1 h0.2
 rw [show ((2 : Int) ^ 8 - 1) = 255 from rfl, show ((2 : Int) ^ 8) = 256 from rfl] at h
 rw [h]
 omega
theorem next_f {code : List Int} (hc : codeOk code) (p s : Int) (hp : 0 ≤ p ∧ p ≤ 100000000) : ∃ v s', spec_l1Cur_next.f code p s = some (v, p + 1, s') ∧ 0 ≤ v ∧ v ≤ 255 := by
 have hw : wrap64 (p + 1) = p + 1 := w64 (by omega) (by omega)
 unfold spec_l1Cur_next.f
 rw [hw]
 by_cases h1 : p < (code.length : Int)
 ·have hr := rd_code hc p hp.1 h1
  rw [if_pos h1, if_pos hp.1, if_pos (by omega)]
  exact ⟨_, _, rfl, by rw [w64 (by omega) (by omega)]; exact hr⟩
 ·rw [if_neg h1, if_neg (by omega)]
  refine ⟨_, _, rfl, ?_⟩
  have hb := and255 ((IntKind.u64.wrap (IntKind.u64.wrap (s * 6364136223846793005))) + 1442695040888963407)
  rw [w64 (by omega) (by omega)]
  exact hb
structure Drawn {α : Type} (P : α → Prop) (g : Option (α × Int × Int)) (p : Int) (m : Int) : Prop where
  ex : ∃ v p' s', g = some (v, p', s') ∧ P v ∧ p ≤ p' ∧ p' ≤ p + m
theorem pick_d {code : List Int} (hc : codeOk code) (p s : Int) (hp : 0 ≤ p ∧ p ≤ 90000000) (n : Int) (hn : n ≤ 200) : Drawn (fun v => 0 ≤ v ∧ (1 ≤ n → v < n)) (spec_l1Cur_pick.f code p s n) p 2 := by
 unfold spec_l1Cur_pick.f
 by_cases h1 : n ≤ 1
 ·rw [if_pos h1]
  exact ⟨0, p, s, rfl, ⟨by omega, fun h => by omega⟩, by omega, by omega⟩
 ·rw [if_neg h1]
  obtain ⟨v, s', hv, h0, h2⟩ := next_f hc p s (by omega)
  rw [hv, Option.bind_some, if_neg (by omega), if_neg (by omega)]
  have e : Int.tmod v n = v % n := Int.tmod_eq_emod_of_nonneg h0
  refine ⟨_, _, _, rfl, ?_, by show p ≤ p + 1; omega, by show p + 1 ≤ p + 2; omega⟩
  simp only [e]
  exact ⟨Int.emod_nonneg _ (by omega), fun _ => Int.emod_lt_of_pos _ (by omega)⟩
theorem one_d {code : List Int} (hc : codeOk code) (p s : Int) (hp : 0 ≤ p ∧ p ≤ 90000000) (n : Int) (hn : n ≤ 200) : Drawn (fun _ => True) (spec_l1Cur_one.f code p s n) p 2 := by
 unfold spec_l1Cur_one.f
 obtain ⟨v, p', s', h, hv, h1, h2⟩ := (pick_d hc p s hp n hn).ex
 rw [h, Option.bind_some]
 exact ⟨_, _, _, rfl, trivial, h1, h2⟩
theorem among_d {code : List Int} (hc : codeOk code) (p s : Int) (hp : 0 ≤ p ∧ p ≤ 90000000) (l : List Int) (hl : 1 ≤ l.length ∧ l.length ≤ 200) : Drawn (fun v => v ∈ l) (spec_l1Cur_among.f code p s l) p 2 := by
 unfold spec_l1Cur_among.f
 obtain ⟨v, p', s', h, hv, h1, h2⟩ := (pick_d hc p s hp (l.length : Int) (by omega)).ex
 have hv' := hv.2 (by omega)
 rw [h, Option.bind_some, if_pos hv.1, if_pos hv']
 obtain ⟨i, rfl⟩ : ∃ i : Nat, v = (i : Int) := ⟨v.toNat, by omega⟩
 refine ⟨_, _, _, rfl, ?_, h1, h2⟩
 rw [rd_get l i (by omega)]
 exact List.getElem_mem _
theorem of_d {code : List Int} (hc : codeOk code) (p s : Int) (hp : 0 ≤ p ∧ p ≤ 90000000) (l : List ByteArray) (hl : 1 ≤ l.length ∧ l.length ≤ 200) : Drawn (fun v => v ∈ l) (spec_l1Cur_of.f code p s l) p 2 := by
 unfold spec_l1Cur_of.f
 obtain ⟨v, p', s', h, hv, h1, h2⟩ := (pick_d hc p s hp (l.length : Int) (by omega)).ex
 have hv' := hv.2 (by omega)
 rw [h, Option.bind_some, if_pos hv.1, if_pos hv']
 obtain ⟨i, rfl⟩ : ∃ i : Nat, v = (i : Int) := ⟨v.toNat, by omega⟩
 refine ⟨_, _, _, rfl, ?_, h1, h2⟩
 rw [rdOf_get _ l i (by omega)]
 exact List.getElem_mem _
def asc (a : ByteArray) : Bool := a.data.toList.all fun b => decide (b.toNat < 128)
theorem asc_app (a b : ByteArray) (ha : asc a = true) (hb : asc b = true) : asc (a ++ b) = true := by
 unfold asc at *
 rw [ByteArray.data_append, Array.toList_append, List.all_append, ha, hb]
 rfl
theorem sure_ev {code : List Int} (hc : codeOk code) : ∀ (d : Nat) (x : ByteArray) (p s : Int), x.size + d ≤ 1000 → asc x = true → (0 ≤ p ∧ p + 2 * d ≤ 80000000) → ∃ r, Ev (fun k => spec_l1Cur_sureDeliveries.l0 k (d : Int) x code p s) r ∧ asc r.1 = true ∧ r.1.size = x.size + d ∧ p ≤ r.2.1 ∧ r.2.1 ≤ p + 2 * d
 | 0, x, p, s, hx, ha, hp => ⟨(x, p, s), Ev.stop fun k => by simp only [spec_l1Cur_sureDeliveries.l0]; rw [if_neg (by omega)], ha, rfl, Int.le_refl _, by simp⟩
 | d + 1, x, p, s, hx, ha, hp => by
  obtain ⟨v, p', s', h, hv, h1, h2⟩ := (of_d hc p s (by omega) [(⟨#[108]⟩ : ByteArray), (⟨#[114]⟩ : ByteArray), (⟨#[98]⟩ : ByteArray), (⟨#[45]⟩ : ByteArray), (⟨#[45]⟩ : ByteArray)] (by simp)).ex
  have hL : ([(⟨#[108]⟩ : ByteArray), (⟨#[114]⟩ : ByteArray), (⟨#[98]⟩ : ByteArray), (⟨#[45]⟩ : ByteArray), (⟨#[45]⟩ : ByteArray)].all fun v => asc v && v.size == 1) = true := by rfl
  have hv2 := List.all_eq_true.1 hL v hv
  rw [Bool.and_eq_true, beq_iff_eq] at hv2
  obtain ⟨r, hr, r1, r2, r3, r4⟩ := sure_ev hc d (x ++ v) p' s' (by rw [ByteArray.size_append]; omega) (asc_app x v ha hv2.1) (by omega)
  refine ⟨r, Ev.to _ (fun k => ?_) hr, r1, by rw [r2, ByteArray.size_append]; omega, by omega, by omega⟩
  simp only [spec_l1Cur_sureDeliveries.l0]
  rw [if_pos (by omega), h, Option.bind_some]
  simp only
  rw [if_pos (by omega), w64 (by omega) (by omega)]
  have e : ((d + 1 : Nat) : Int) - 1 = (d : Int) := by omega
  rw [e]
theorem deliveries_ev {code : List Int} (hc : codeOk code) (p s : Int) (hp : 0 ≤ p ∧ p ≤ 70000000) : ∃ r, Ev (fun k => spec_l1Cur_deliveries.f k code p s) r ∧ asc r.1 = true ∧ r.1.size ≤ 61 ∧ p ≤ r.2.1 ∧ r.2.1 ≤ p + 100 := by
 unfold spec_l1Cur_deliveries.f
 obtain ⟨v, p1, s1, h, _, h1, h2⟩ := (one_d hc p s (by omega) 12 (by omega)).ex
 simp only [h, Option.bind_some]
 cases v
 ·obtain ⟨q, p2, s2, hq, hq0, h3, h4⟩ := (pick_d hc p1 s1 (by omega) 12 (by omega)).ex
  have hq1 := hq0.2 (by omega)
  have hq2 := hq0.1
  simp only [hq, Option.bind_some]
  have e : wrap64 (1 + q) = (((1 + q).toNat : Nat) : Int) := by rw [w64 (by omega) (by omega)]; omega
  rw [e]
  obtain ⟨r, hr, r1, r2, r3, r4⟩ := sure_ev hc (1 + q).toNat ⟨#[]⟩ p2 s2 (by show 0 + _ ≤ 1000; omega) rfl (by omega)
  refine ⟨(r.1, r.2.1, r.2.2), Ev.itef (by simp) (Ev.bind (by unfold spec_l1Cur_sureDeliveries.f; exact hr) (Ev.now _)), r1, ?_, ?_, ?_⟩
  ·rw [r2]; show 0 + _ ≤ 61; omega
  ·show p ≤ r.2.1; omega
  ·show r.2.1 ≤ p + 100; omega
 ·obtain ⟨v, p2, s2, hv, hvm, h3, h4⟩ := (of_d hc p1 s1 (by omega) [(⟨#[]⟩ : ByteArray), (⟨#[120]⟩ : ByteArray), (⟨#[108, 114, 32]⟩ : ByteArray), (⟨#[76]⟩ : ByteArray), (⟨#[45, 45, 45, 45, 45]⟩ : ByteArray), (⟨#[108, 108, 108, 108, 108, 108, 108, 108, 108, 108, 108, 108, 108, 108, 108, 108, 108, 108, 108, 108, 108, 108, 108, 108, 108, 108, 108, 108, 108, 108, 108, 108, 108, 108, 108, 108, 108, 108, 108, 108, 108, 108, 108, 108, 108, 108, 108, 108, 108, 108, 108, 108, 108, 108, 108, 108, 108, 108, 108, 108, 114]⟩ : ByteArray)] (by simp)).ex
  have hL : ([(⟨#[]⟩ : ByteArray), (⟨#[120]⟩ : ByteArray), (⟨#[108, 114, 32]⟩ : ByteArray), (⟨#[76]⟩ : ByteArray), (⟨#[45, 45, 45, 45, 45]⟩ : ByteArray), (⟨#[108, 108, 108, 108, 108, 108, 108, 108, 108, 108, 108, 108, 108, 108, 108, 108, 108, 108, 108, 108, 108, 108, 108, 108, 108, 108, 108, 108, 108, 108, 108, 108, 108, 108, 108, 108, 108, 108, 108, 108, 108, 108, 108, 108, 108, 108, 108, 108, 108, 108, 108, 108, 108, 108, 108, 108, 108, 108, 108, 108, 114]⟩ : ByteArray)].all fun v => asc v && decide (v.size ≤ 61)) = true := by rfl
  have hv2 := List.all_eq_true.1 hL v hvm
  rw [Bool.and_eq_true, decide_eq_true_eq] at hv2
  refine ⟨(v, p2, s2), Ev.itet rfl ?_, hv2.1, hv2.2, by show p ≤ p2; omega, by show p2 ≤ p + 100; omega⟩
  rw [hv, Option.bind_some]
  exact Ev.now _
theorem big_f (l m : List Int) : (laws_big.f l m = some true) ∨ (laws_big.f l m = some false ∧ l.length ≤ 1048576 ∧ m.length ≤ 1048576) := by
 unfold laws_big.f
 by_cases h : (l.length : Int) > 1048576
 ·rw [if_pos h]; exact .inl rfl
 ·rw [if_neg h, w64 (by omega) (by omega)]
  by_cases h2 : (m.length : Int) > 1048576 - (l.length : Int)
  ·rw [decide_eq_true h2]; exact .inl rfl
  ·rw [decide_eq_false h2]; exact .inr ⟨rfl, by omega, by omega⟩
theorem drawCost_ev {code : List Int} (hc : codeOk code) : ∃ r, Ev (fun k => spec_DrawRouteCost.f k code) r ∧ r.1.size ≤ 61 := by
 unfold spec_DrawRouteCost.f
 obtain ⟨r, hr, _, hs, h1, h2⟩ := deliveries_ev hc 0 0 (by omega)
 have he : ∃ v p' s', spec_l1Cur_end.f code r.2.1 r.2.2 = some (v, p', s') ∧ r.2.1 ≤ p' ∧ p' ≤ r.2.1 + 2 := by
  unfold spec_l1Cur_end.f
  obtain ⟨v, p', s', h, _, h3, h4⟩ := (among_d hc r.2.1 r.2.2 (by omega) [0, 1, 2, 2, 1, 0, 2, 3, (-1)] (by simp)).ex
  exact ⟨v, p', s', by rw [h, Option.bind_some], h3, h4⟩
 obtain ⟨v, p', s', hv, h3, h4⟩ := he
 obtain ⟨x, p2, s2, hx, _, h5, h6⟩ := (among_d hc p' s' (by omega) [0, 1, 2, 5, 1000, 1001, (-1)] (by simp)).ex
 refine ⟨(r.1, v, x), Ev.bind hr ?_, hs⟩
 simp only [hv, Option.bind_some, hx]
 exact Ev.now _
theorem rows_d {code : List Int} (hc : codeOk code) (p s : Int) (hp : 0 ≤ p ∧ p ≤ 1000) : ∀ n : Nat, n ≤ 100 → ∃ l p' s', spec_DrawRouteCrossings.rows code p s n = some (l, p', s') ∧ l.length = n ∧ p ≤ p' ∧ p' ≤ p + 2 * n
 | 0, _ => ⟨[], p, s, rfl, rfl, Int.le_refl _, by simp⟩
 | n + 1, h => by
  obtain ⟨l, p', s', h1, h2, h3, h4⟩ := rows_d hc p s hp n (by omega)
  obtain ⟨v, p2, s2, h5, _, h6, h7⟩ := (pick_d hc p' s' (by omega) 2 (by omega)).ex
  refine ⟨l ++ [v], p2, s2, ?_, by simp [h2], by omega, by omega⟩
  rw [spec_DrawRouteCrossings.rows, h1, Option.bind_some]
  simp only [h5, Option.bind_some]
theorem drawCross_ev {code : List Int} (hc : codeOk code) : ∃ r, Ev (fun k => spec_DrawRouteCrossings.f k code) r ∧ r.1.size ≤ 61 ∧ r.2.length ≤ 62 := by
 unfold spec_DrawRouteCrossings.f
 obtain ⟨r, hr, ha, hs, h1, h2⟩ := deliveries_ev hc 0 0 (by omega)
 obtain ⟨l, p, s, h3, h4, h5, h6⟩ := rows_d hc r.2.1 r.2.2 (by omega) r.1.size (by omega)
 obtain ⟨b, p1, s1, h7, _, h8, h9⟩ := (one_d hc p s (by omega) 10 (by omega)).ex
 cases b
 ·refine ⟨(r.1, l), Ev.bind hr (Ev.itet ⟨ha, by omega⟩ ?_), hs, by simp only; omega⟩
  simp only [h3, Option.bind_some, h7]
  exact Ev.itef (by simp) (Ev.now _)
 ·obtain ⟨x, p2, s2, hx, _, h10, h11⟩ := (among_d hc p1 s1 (by omega) [0, 1, 2] (by simp)).ex
  refine ⟨(r.1, l ++ [x]), Ev.bind hr (Ev.itet ⟨ha, by omega⟩ ?_), hs, by simp; omega⟩
  simp only [h3, Option.bind_some, h7]
  refine Ev.itet trivial ?_
  rw [hx, Option.bind_some]
  exact Ev.now _
def cr (s : ByteArray) : Nat → Int → List Int → Int
 | _, _, [] => 0
 | i, c, l :: ls => spec_poTable.cross (bt s i) c l + cr s (i + 1) l ls
def endOf : Int → List Int → Int
 | c, [] => c
 | _, l :: ls => endOf l ls
def O1 (x : Int) : Prop := x = 0 ∨ x = 1
def allowed (a e : Int) : Prop := a = 2 ∨ a = e
theorem cross_ne (b c l : Int) (h : c ≠ l) : spec_poTable.cross b c l = 1 := by
 unfold spec_poTable.cross spec_poCross.f
 rw [if_neg h]
 rfl
theorem cross_b (b c l : Int) : 0 ≤ spec_poTable.cross b c l ∧ spec_poTable.cross b c l ≤ 2 := (spec_poTable.cross_f b c l).2
theorem cr_b (s : ByteArray) : ∀ (ls : List Int) (i : Nat) (c : Int), 0 ≤ cr s i c ls ∧ cr s i c ls ≤ 2 * (ls.length : Int)
 | [], i, c => by simp [cr]
 | l :: ls, i, c => by
  have h1 := cr_b s ls (i + 1) l
  have h2 := cross_b (bt s i) c l
  simp only [cr, List.length_cons]
  omega
theorem upd_le (own cn : Int) (p : Int × Int) : (spec_poTable.upd own cn p).1 ≤ own ∧ (spec_poTable.upd own cn p).1 ≤ p.1 := by
 unfold spec_poTable.upd
 by_cases h1 : own < p.1
 ·rw [if_pos h1]; simp only; omega
 ·rw [if_neg h1]
  by_cases h2 : own = p.1
  ·rw [if_pos h2]; simp only; omega
  ·rw [if_neg h2]; omega
theorem upd_or (own cn : Int) (p : Int × Int) : (spec_poTable.upd own cn p).1 = own ∨ (spec_poTable.upd own cn p).1 = p.1 := by
 unfold spec_poTable.upd
 by_cases h1 : own < p.1
 ·rw [if_pos h1]; exact .inl rfl
 ·rw [if_neg h1]
  by_cases h2 : own = p.1
  ·rw [if_pos h2]; exact .inr rfl
  ·rw [if_neg h2]; exact .inr rfl
theorem side_le (b : Int) (R : (Nat → Int) × (Nat → Int)) (c k : Nat) (hk : k < 2) (hR : R.1 k ≠ 1000000) : (spec_poTable.side b R c 2).1 ≤ spec_poTable.cross b c k + R.1 k := by
 have st : ∀ t, (spec_poTable.side b R c (t + 1)).1 ≤ (spec_poTable.side b R c t).1 ∧ (R.1 t ≠ 1000000 → (spec_poTable.side b R c (t + 1)).1 ≤ spec_poTable.cross b c t + R.1 t) := by
  intro t
  have hu := upd_le (spec_poTable.cross b c t + R.1 t) (R.2 t) (spec_poTable.side b R c t)
  rw [spec_poTable.side]
  by_cases h : R.1 t = 1000000
  ·rw [if_pos h]; exact ⟨Int.le_refl _, fun h' => absurd h h'⟩
  ·rw [if_neg h]; exact ⟨hu.2, fun _ => hu.1⟩
 rcases (show k = 0 ∨ k = 1 by omega) with rfl | rfl
 ·exact Int.le_trans (st 1).1 ((st 0).2 hR)
 ·exact (st 1).2 hR
theorem side_or (b : Int) (R : (Nat → Int) × (Nat → Int)) (c : Nat) : (spec_poTable.side b R c 2).1 = 1000000 ∨ (R.1 0 ≠ 1000000 ∧ (spec_poTable.side b R c 2).1 = spec_poTable.cross b c (0 : Nat) + R.1 0) ∨ (R.1 1 ≠ 1000000 ∧ (spec_poTable.side b R c 2).1 = spec_poTable.cross b c (1 : Nat) + R.1 1) := by
 have e0 : spec_poTable.side b R c 0 = (1000000, 0) := rfl
 have h1 : (spec_poTable.side b R c 1).1 = 1000000 ∨ (R.1 0 ≠ 1000000 ∧ (spec_poTable.side b R c 1).1 = spec_poTable.cross b c (0 : Nat) + R.1 0) := by
  rw [spec_poTable.side, e0]
  by_cases h : R.1 0 = 1000000
  ·rw [if_pos h]; exact .inl rfl
  ·rw [if_neg h]
   rcases upd_or (spec_poTable.cross b c (0 : Nat) + R.1 0) (R.2 0) (1000000, 0) with e | e
   ·exact .inr ⟨h, e⟩
   ·exact .inl e
 rw [spec_poTable.side]
 by_cases h : R.1 1 = 1000000
 ·rw [if_pos h]
  exact h1.elim .inl (fun h => .inr (.inl h))
 ·rw [if_neg h]
  rcases upd_or (spec_poTable.cross b c (1 : Nat) + R.1 1) (R.2 1) (spec_poTable.side b R c 1) with e | e
  ·exact .inr (.inr ⟨h, e⟩)
  ·rw [e]
   exact h1.elim .inl (fun h => .inr (.inl h))
theorem lower (s : ByteArray) (a : Int) (hs : s.size ≤ 60) : ∀ (ls : List Int) (j c : Nat), j + ls.length = s.size → (∀ x ∈ ls, O1 x) → allowed a (endOf c ls) → (spec_poTable.R s a j).1 c ≤ cr s j c ls
 | [], j, c, hj, _, ha => by
  have e : j = s.size := by simpa using hj
  subst e
  rw [spec_poTable.R_end]
  unfold spec_poTable.endRow cr
  simp only
  rw [if_pos (show a = 2 ∨ a = (c : Int) from ha)]
  exact Int.le_refl _
 | l :: ls, j, c, hj, h01, ha => by
  simp only [List.length_cons] at hj
  obtain ⟨k, rfl, hk⟩ : ∃ k : Nat, l = (k : Int) ∧ k < 2 := by
   rcases h01 l (by simp) with rfl | rfl
   ·exact ⟨0, rfl, by omega⟩
   ·exact ⟨1, rfl, by omega⟩
  have ih := lower s a hs ls (j + 1) k (by omega) (fun x hx => h01 x (by simp [hx])) ha
  have hb := cr_b s ls (j + 1) k
  rw [spec_poTable.R_step s a j (by omega)]
  have := side_le (bt s j) (spec_poTable.R s a (j + 1)) c k hk (by omega)
  simp only [cr]
  omega
theorem come_step (s : ByteArray) (a : Int) (hs : s.size ≤ 60) (ha : 0 ≤ a ∧ a ≤ 2) (j : Nat) (hj : j < s.size) : (spec_poTable.R s a j).1 (impl_bestRoute.come s a j) = spec_poTable.cross (bt s j) (impl_bestRoute.come s a j : Nat) (impl_bestRoute.come s a (j + 1) : Nat) + (spec_poTable.R s a (j + 1)).1 (impl_bestRoute.come s a (j + 1)) := by
 have hfin := R_fin s a ha hs j hj (impl_bestRoute.come s a j)
 have hc := come_succ s a hs j
 have ho := side_or (bt s j) (spec_poTable.R s a (j + 1)) (impl_bestRoute.come s a j)
 have e : (spec_poTable.R s a j).1 (impl_bestRoute.come s a j) = (spec_poTable.side (bt s j) (spec_poTable.R s a (j + 1)) (impl_bestRoute.come s a j) 2).1 := by rw [spec_poTable.R_step s a j hj]
 by_cases h : spec_poTable.cross (bt s j) (impl_bestRoute.come s a j : Nat) 0 + F s a (j + 1) 0 = F s a j (impl_bestRoute.come s a j)
 ·rw [if_pos h] at hc
  rw [hc]
  exact h.symm
 ·rw [if_neg h] at hc
  rw [hc, e]
  rw [← e] at ho ⊢
  rcases ho with ho | ho | ho
  ·omega
  ·exact absurd ho.2.symm h
  ·exact ho.2
theorem come_end (s : ByteArray) (a : Int) (hs : s.size ≤ 60) (h1 : 1 ≤ s.size) (ha : 0 ≤ a ∧ a ≤ 2) : allowed a (impl_bestRoute.come s a s.size : Nat) := by
 have h := come_step s a hs ha (s.size - 1) (by omega)
 have hfin := R_fin s a ha hs (s.size - 1) (by omega) (impl_bestRoute.come s a (s.size - 1))
 rw [show s.size - 1 + 1 = s.size by omega, spec_poTable.R_end] at h
 have hb := cross_b (bt s (s.size - 1 : Nat)) (impl_bestRoute.come s a (s.size - 1) : Nat) (impl_bestRoute.come s a s.size : Nat)
 unfold spec_poTable.endRow at h
 simp only at h
 unfold allowed
 by_cases hc : a = 2 ∨ a = ((impl_bestRoute.come s a s.size : Nat) : Int)
 ·exact hc
 ·rw [if_neg hc] at h
  omega
theorem sides_get (s : ByteArray) (a : Int) (n i : Nat) (h : i < (impl_bestRoute.sides s a n).length) : (impl_bestRoute.sides s a n)[i] = ((impl_bestRoute.come s a (i + 1) : Nat) : Int) := by simp [impl_bestRoute.sides]
theorem sides_cr (s : ByteArray) (a : Int) (hs : s.size ≤ 60) (ha : 0 ≤ a ∧ a ≤ 2) : ∀ (d j : Nat), j + d = s.size → cr s j (impl_bestRoute.come s a j : Nat) ((impl_bestRoute.sides s a s.size).drop j) = (spec_poTable.R s a j).1 (impl_bestRoute.come s a j) - (spec_poTable.R s a s.size).1 (impl_bestRoute.come s a s.size)
 | 0, j, hj => by
  obtain rfl : j = s.size := by omega
  rw [List.drop_of_length_le (by rw [sides_len]; exact Nat.le_refl _)]
  simp [cr]
 | d + 1, j, hj => by
  have hlt : j < (impl_bestRoute.sides s a s.size).length := by rw [sides_len]; omega
  have ih := sides_cr s a hs ha d (j + 1) (by omega)
  rw [List.drop_eq_getElem_cons hlt, sides_get, cr, ih, come_step s a hs ha j (by omega)]
  omega
theorem end_zero (s : ByteArray) (a : Int) (hs : s.size ≤ 60) (h1 : 1 ≤ s.size) (ha : 0 ≤ a ∧ a ≤ 2) : (spec_poTable.R s a s.size).1 (impl_bestRoute.come s a s.size) = 0 := by
 rw [spec_poTable.R_end]
 unfold spec_poTable.endRow
 simp only
 exact if_pos (come_end s a hs h1 ha)
theorem few_cr (s : ByteArray) (a : Int) (hs : s.size ≤ 60) (h1 : 1 ≤ s.size) (ha : 0 ≤ a ∧ a ≤ 2) : cr s 0 0 (impl_bestRoute.sides s a s.size) = (spec_poTable.R s a 0).1 0 := by
 have h := sides_cr s a hs ha s.size 0 (by omega)
 rw [end_zero s a hs h1 ha, show impl_bestRoute.come s a 0 = 0 from rfl, List.drop_zero] at h
 simpa using h
theorem endOf_last (ls : List Int) (c : Int) (h : 0 < ls.length) : endOf c ls = rd ls ((ls.length - 1 : Nat) : Int) := by
 induction ls generalizing c with
 | nil => simp at h
 | cons l ls ih =>
  cases ls with
  | nil => rfl
  | cons m ms =>
   rw [endOf, ih l (by simp)]
   simp [rd]
theorem sides_o1 (s : ByteArray) (a : Int) (n : Nat) : ∀ x ∈ impl_bestRoute.sides s a n, O1 x := by
 intro x hx
 unfold impl_bestRoute.sides at hx
 obtain ⟨j, _, rfl⟩ := List.mem_map.1 hx
 have := impl_bestRoute.come_lt s a (j + 1)
 unfold O1
 omega
theorem cr_last (s : ByteArray) (e : Int) (he : O1 e) : ∀ (ls : List Int) (i : Nat) (c : Int), O1 c → (∀ x ∈ ls, O1 x) → cr s i c (ls.set (ls.length - 1) e) ≤ cr s i c ls + 1
 | [], i, c, _, _ => by simp [cr]
 | [l], i, c, hc, h => by
  have hl := h l (by simp)
  have h1 := cross_b (bt s i) c e
  have h2 := cross_b (bt s i) c l
  simp only [List.length_singleton, Nat.sub_self, List.set_cons_zero, cr]
  by_cases h3 : c = e
  ·by_cases h4 : c = l
   ·subst h3; subst h4; omega
   ·have := cross_ne (bt s i) c l h4; omega
  ·have := cross_ne (bt s i) c e h3; omega
 | l :: m :: ms, i, c, hc, h => by
  have ih := cr_last s e he (m :: ms) (i + 1) l (h l (by simp)) (fun x hx => h x (by simp only [List.mem_cons] at hx ⊢; exact .inr hx))
  simp only [List.length_cons] at ih
  have e1 : (l :: m :: ms).set ((l :: m :: ms).length - 1) e = l :: (m :: ms).set (ms.length + 1 - 1) e := by
   simp only [List.length_cons]
   rfl
  rw [e1, cr, cr]
  omega
theorem endOf_set (ls : List Int) (c e : Int) (h : 0 < ls.length) : endOf c (ls.set (ls.length - 1) e) = e := by
 rw [endOf_last _ _ (by simpa using h), rd_get _ _ (by simp; omega)]
 simp
theorem set_o1 {ls : List Int} {i : Nat} {e : Int} (h : ∀ x ∈ ls, O1 x) (he : O1 e) : ∀ x ∈ ls.set i e, O1 x := fun x hx => (List.mem_or_eq_of_mem_set hx).elim (h x) (fun e' => e' ▸ he)
theorem any_few (s : ByteArray) (a : Int) (hs : s.size ≤ 60) (h1 : 1 ≤ s.size) (ha : 0 ≤ a ∧ a ≤ 2) : (spec_poTable.R s 2 0).1 0 ≤ (spec_poTable.R s a 0).1 0 ∧ (spec_poTable.R s a 0).1 0 ≤ (spec_poTable.R s 2 0).1 0 + 1 := by
 have hl := sides_len s a s.size
 have hl2 := sides_len s 2 s.size
 constructor
 ·rw [← few_cr s a hs h1 ha]
  exact lower s 2 hs _ 0 0 (by omega) (sides_o1 s a s.size) (.inl rfl)
 ·rw [← few_cr s 2 hs h1 (by omega)]
  by_cases h2 : a = 2
  ·subst h2
   rw [few_cr s 2 hs h1 ha]
   omega
  ·have he : O1 a := by unfold O1; omega
   have := lower s a hs ((impl_bestRoute.sides s 2 s.size).set ((impl_bestRoute.sides s 2 s.size).length - 1) a) 0 0 (by simp; omega) (set_o1 (sides_o1 s 2 s.size) he) (.inr (endOf_set _ _ _ (by omega)).symm)
   have h3 := cr_last s a he (impl_bestRoute.sides s 2 s.size) 0 0 (.inl rfl) (sides_o1 s 2 s.size)
   exact Int.le_trans this h3
def Pos (p : Int × Int) : Prop := p.1 = 1000000 ∨ 1 ≤ p.2
theorem upd_pos {own cn : Int} {p : Int × Int} (h : Pos p) (hc : 1 ≤ cn) (h0 : 0 ≤ p.2) : Pos (spec_poTable.upd own cn p) := by
 unfold Pos at *
 unfold spec_poTable.upd spec_poTable.least
 by_cases h1 : own < p.1
 ·rw [if_pos h1]; right; simp only; split <;> omega
 ·rw [if_neg h1]
  by_cases h2 : own = p.1
  ·rw [if_pos h2]; right; simp only; split <;> omega
  ·rw [if_neg h2]; exact h
theorem row_pos (a : Int) : ∀ (l : List Int) (t : Nat), Pos ((spec_poTable.rowAt (spec_poTable.endRow a) l).1 t, (spec_poTable.rowAt (spec_poTable.endRow a) l).2 t)
 | [], t => by
  unfold Pos spec_poTable.rowAt spec_poTable.endRow
  simp only
  by_cases h : a = 2 ∨ a = (t : Int)
  ·rw [if_pos h, if_pos h]; omega
  ·rw [if_neg h]; exact .inl rfl
 | b :: l, t => by
  have ih := row_pos a l
  have ok := fun t => spec_poTable.rowAt_ok (end_ok a) l t
  have st : ∀ k, Pos (spec_poTable.side b (spec_poTable.rowAt (spec_poTable.endRow a) l) t k) := by
   intro k
   induction k with
   | zero => exact .inl rfl
   | succ k ihk =>
    have hk := ih k
    have hok := spec_poTable.side_ok (b := b) ok t k
    rw [spec_poTable.side]
    by_cases h : (spec_poTable.rowAt (spec_poTable.endRow a) l).1 k = 1000000
    ·rw [if_pos h]; exact ihk
    ·rw [if_neg h]
     exact upd_pos ihk (hk.resolve_left h) hok.2.2.1
  exact st 2
theorem count_pos (s : ByteArray) (a : Int) (hs : s.size ≤ 60) (h1 : 1 ≤ s.size) (ha : 0 ≤ a ∧ a ≤ 2) : 1 ≤ (spec_poTable.R s a 0).2 0 := by
 have h := row_pos a ((bytesOf s).drop 0) 0
 have hf := R_fin s a ha hs 0 (by omega) 0
 unfold Pos at h
 exact h.resolve_left (fun e => by have : (spec_poTable.R s a 0).1 0 = 1000000 := e; omega)
def rcs (s : ByteArray) (l : List Int) : Int × Bool := if deliv s && (decide ((l.length : Int) = (s.size : Int)) && l.all fun x => decide (0 ≤ x ∧ x ≤ 1)) then (cr s 0 0 l, true) else (0, false)
theorem spec_cr (s : ByteArray) (l : List Int) (hl : l.length = s.size) (h60 : s.size ≤ 60) : ∀ (d i : Nat) (n c : Int), i + d = l.length → (0 ≤ n ∧ n ≤ 2 * i) → Ev (fun k => spec_RouteCrossings.l0 k s n c l (l.length : Int) (i : Int)) (n + cr s i c (l.drop i), true)
 | 0, i, n, c, hi, hn => by
  rw [List.drop_of_length_le (by omega), cr, Int.add_zero]
  exact Ev.stop fun k => by simp only [spec_RouteCrossings.l0]; rw [if_neg (by omega)]
 | d + 1, i, n, c, hi, hn => by
  have hlt : i < l.length := by omega
  have hx := spec_poTable.cross_f (bt s i) c l[i]
  have ih := spec_cr s l hl h60 d (i + 1) (n + spec_poTable.cross (bt s i) c l[i]) l[i] (by omega) (by omega)
  rw [List.drop_eq_getElem_cons hlt, cr]
  refine Ev.to _ (fun k => ?_) (r := (n + (spec_poTable.cross (bt s i) c l[i] + cr s (i + 1) l[i] (l.drop (i + 1))), true)) (by rw [← Int.add_assoc]; exact ih)
  simp only [spec_RouteCrossings.l0]
  rw [if_pos (by omega), if_pos (by omega), if_pos (by omega), if_pos (by omega), rd_get l i hlt, hx.1, Option.bind_some, w64 (by omega) (by omega), w64 (by omega) (by omega)]
  rfl
theorem rc_l0_eq (s : ByteArray) (l : List Int) (n : Int) : ∀ k a b i, impl_RouteCrossings.l0 k s a b l n i = spec_RouteCrossings.l0 k s a b l n i
 | 0, _, _, _ => rfl
 | k + 1, a, b, i => by simp only [impl_RouteCrossings.l0, spec_RouteCrossings.l0, cross_eq, rc_l0_eq s l n k]
theorem specC_ev (s : ByteArray) (hs : s.size ≤ 1048576) (l : List Int) (hl : l.length ≤ 1048576) : Ev (fun k => spec_RouteCrossings.f k s l) (rcs s l) := by
 unfold spec_RouteCrossings.f rcs
 have no : ∀ b : Bool, b = true → Ev (fun k => spec_RouteCrossings.j0 k s l b) (0, false) := fun b hb => Ev.stop fun k => by simp only [spec_RouteCrossings.j0]; rw [if_pos hb]
 refine Ev.bind (poGood_ev s hs) ?_
 cases hd : deliv s
 ·exact Ev.itef (by simp) (no _ rfl)
 ·refine Ev.itet rfl ?_
  have h60 := deliv_len hd
  by_cases h1 : (l.length : Int) = (s.size : Int)
  ·rw [decide_eq_true h1]
   refine Ev.itet h1 (Ev.bind (l1All_ev l hl 0 1) ?_)
   cases ha : l.all fun x => decide (0 ≤ x ∧ x ≤ 1)
   ·exact no _ rfl
   ·refine Ev.succ ?_
    simp only [spec_RouteCrossings.j0]
    have := spec_cr s l (by omega) h60.2 l.length 0 0 0 (by omega) (by omega)
    rw [List.drop_zero, Int.zero_add] at this
    exact Ev.itef (by simp) this
  ·rw [decide_eq_false h1]
   exact Ev.itef h1 (no _ rfl)
theorem implC_ev (s : ByteArray) (hs : s.size ≤ 1048576) (l : List Int) (hl : l.length ≤ 1048576) : Ev (fun k => impl_RouteCrossings.f k s l) (rcs s l) := by
 unfold impl_RouteCrossings.f rcs
 have no : ∀ b : Bool, b = true → Ev (fun k => impl_RouteCrossings.j0 k s l b) (0, false) := fun b hb => Ev.stop fun k => by simp only [impl_RouteCrossings.j0]; rw [if_pos hb]
 refine Ev.bind (AreDeliveries_ev s hs) ?_
 cases hd : deliv s
 ·exact Ev.itef (by simp) (no _ rfl)
 ·refine Ev.itet rfl ?_
  have h60 := deliv_len hd
  by_cases h1 : (l.length : Int) = (s.size : Int)
  ·rw [decide_eq_true h1]
   refine Ev.itet h1 (Ev.bind (allWithin_ev l hl 0 1) ?_)
   cases ha : l.all fun x => decide (0 ≤ x ∧ x ≤ 1)
   ·exact no _ rfl
   ·refine Ev.succ ?_
    simp only [impl_RouteCrossings.j0, rc_l0_eq]
    have := spec_cr s l (by omega) h60.2 l.length 0 0 0 (by omega) (by omega)
    rw [List.drop_zero, Int.zero_add] at this
    exact Ev.itef (by simp) this
  ·rw [decide_eq_false h1]
   exact Ev.itef h1 (no _ rfl)
theorem rcs_route {s : ByteArray} (hd : deliv s = true) {l : List Int} (hl : l.length = s.size) (h : ∀ x ∈ l, O1 x) : rcs s l = (cr s 0 0 l, true) := by
 unfold rcs
 have : (l.all fun x => decide (0 ≤ x ∧ x ≤ 1)) = true := List.all_eq_true.2 fun x hx => by
  have := h x hx
  unfold O1 at this
  simp only [decide_eq_true_eq]
  omega
 rw [hd, this, decide_eq_true (by omega)]
 rfl
theorem rcs_true {s : ByteArray} {l : List Int} (h : (rcs s l).2 = true) : deliv s = true ∧ l.length = s.size ∧ (∀ x ∈ l, O1 x) ∧ (rcs s l).1 = cr s 0 0 l := by
 unfold rcs at *
 cases hc : deliv s && (decide ((l.length : Int) = (s.size : Int)) && l.all fun x => decide (0 ≤ x ∧ x ≤ 1))
 ·rw [hc] at h; cases h
 ·simp only [Bool.and_eq_true, decide_eq_true_eq, List.all_eq_true] at hc
  refine ⟨hc.1, by omega, fun x hx => ?_, rfl⟩
  have := hc.2.2 x hx
  unfold O1
  omega
def mirB (b : UInt8) : UInt8 := if b = 108 then 114 else if b = 114 then 108 else b
theorem mir_B (b : UInt8) : impl_MirrorDeliveries.mir (b.toNat : Int) = ((mirB b).toNat : Int) := by
 unfold impl_MirrorDeliveries.mir mirB
 simp only [eq108, eq114]
 split
 ·rfl
 ·split <;> rfl
def M (s : ByteArray) : ByteArray := str (s.data.toList.map mirB)
theorem implM_ev (s : ByteArray) (hs : s.size ≤ 1048576) : Ev (fun k => impl_MirrorDeliveries.f k s) (if deliv s then (M s, true) else (⟨#[]⟩, false)) := by
 unfold impl_MirrorDeliveries.f
 refine Ev.bind (AreDeliveries_ev s hs) (Ev.ite (fun _ => Ev.itet hs ?_) (fun _ => Ev.now _))
 have e : (bytesOf s).map impl_MirrorDeliveries.mir = toI (s.data.toList.map mirB) := by
  simp only [bytesOf, toI, List.map_map]
  exact List.map_congr_left (fun b _ => mir_B b)
 rw [e, strOf_toI]
 exact Ev.now _
theorem M_list (s : ByteArray) : (M s).data.toList = s.data.toList.map mirB := by simp [M, str]
theorem M_size (s : ByteArray) : (M s).size = s.size := by rw [← len_data, M_list, List.length_map, len_data]
theorem sgn_mir (b : UInt8) (h : sgn b = true) : sgn (mirB b) = true := by
 simp only [sgn, Bool.or_eq_true, beq_iff_eq] at h
 rcases h with rfl | rfl | rfl | rfl <;> rfl
theorem M_deliv {s : ByteArray} (h : deliv s = true) : deliv (M s) = true := by
 have hl := deliv_len h
 unfold deliv
 rw [M_size, decide_eq_true (show (1 : Int) ≤ (s.size : Int) ∧ (s.size : Int) ≤ 60 by omega), Bool.true_and, M_list, List.all_eq_true]
 intro b hb
 obtain ⟨x, hx, rfl⟩ := List.mem_map.1 hb
 exact sgn_mir x (deliv_mem h x hx)
theorem M_bt (s : ByteArray) (i : Nat) (h : i < s.data.toList.length) : bt (M s) (i : Int) = ((mirB s.data.toList[i]).toNat : Int) := by
 rw [bt_get (M s) i (by rw [M_list, List.length_map]; exact h)]
 simp [M_list]
theorem cross_mir (b : UInt8) (hb : sgn b = true) (c l : Int) (hc : O1 c) (hl : O1 l) : spec_poTable.cross ((mirB b).toNat : Int) (1 - c) (1 - l) = spec_poTable.cross (b.toNat : Int) c l := by
 simp only [sgn, Bool.or_eq_true, beq_iff_eq] at hb
 rcases hb with rfl | rfl | rfl | rfl <;> rcases hc with rfl | rfl <;> rcases hl with rfl | rfl <;> rfl
theorem cr_M {s : ByteArray} (hd : deliv s = true) : ∀ (ls : List Int) (i : Nat) (c : Int), i + ls.length ≤ s.size → O1 c → (∀ x ∈ ls, O1 x) → cr (M s) i (1 - c) (ls.map fun x => 1 - x) = cr s i c ls
 | [], _, _, _, _, _ => rfl
 | l :: ls, i, c, hi, hc, h => by
  simp only [List.length_cons] at hi
  have hlt : i < s.data.toList.length := by rw [len_data]; omega
  have hl := h l (by simp)
  rw [List.map_cons, cr, cr, M_bt s i hlt, cross_mir _ (deliv_mem hd _ (List.getElem_mem hlt)) c l hc hl, cr_M hd ls (i + 1) l (by omega) hl (fun x hx => h x (by simp [hx])), bt_get s i hlt]
theorem cr_begin (s : ByteArray) (ls : List Int) (h : ∀ x ∈ ls, O1 x) : cr s 0 0 ls ≤ cr s 0 1 ls + 1 ∧ cr s 0 1 ls ≤ cr s 0 0 ls + 1 := by
 cases ls with
 | nil => simp [cr]
 | cons l ls =>
  have h1 := cross_b (bt s 0) 0 l
  have h2 := cross_b (bt s 0) 1 l
  simp only [cr]
  have e : bt s ((0 : Nat) : Int) = bt s 0 := rfl
  rw [e]
  rcases h l (by simp) with rfl | rfl
  ·have := cross_ne (bt s 0) 1 0 (by decide)
   omega
  ·have := cross_ne (bt s 0) 0 1 (by decide)
   omega
def fewR (s : ByteArray) (a : Int) : Int × Bool := if asked s a then ((spec_poTable.R s a 0).1 0, true) else (0, false)
theorem few_s (s : ByteArray) (a : Int) (hs : s.size ≤ 1048576) : Ev (fun k => spec_FewestCrossings.f k s a) (fewR s a) := by
 unfold spec_FewestCrossings.f fewR
 refine Ev.bind (poAsked_ev s a hs) ?_
 cases hd : asked s a
 ·exact Ev.itef (by simp) (Ev.now _)
 ·have h2 := (asked_len hd).2.1
  exact Ev.itet rfl (by rw [table_f s a h2, Option.bind_some, tab_len, tab_at0, if_pos (by omega), if_pos (by simp)]; exact Ev.now _)
theorem few_i (s : ByteArray) (a : Int) (hs : s.size ≤ 1048576) : Ev (fun k => impl_FewestCrossings.f k s a) (fewR s a) := by
 unfold impl_FewestCrossings.f fewR
 refine Ev.bind (isDelivered_ev s a hs) ?_
 cases hd : asked s a
 ·exact Ev.itef (by simp) (Ev.now _)
 ·exact Ev.itet rfl (by rw [best_f s a (asked_len hd).2.1, Option.bind_some]; exact Ev.now _)
def sidesR (s : ByteArray) (a : Int) : List Int × Bool := if asked s a then (impl_bestRoute.sides s a s.size, true) else ([], false)
theorem sides_s (s : ByteArray) (a : Int) (hs : s.size ≤ 1048576) : Ev (fun k => spec_RouteSides.f k s a) (sidesR s a) := by
 unfold spec_RouteSides.f sidesR
 refine Ev.bind (poAsked_ev s a hs) ?_
 cases hd : asked s a
 ·exact Ev.itef (by simp) (Ev.now _)
 ·have h := asked_len hd
  exact Ev.itet rfl (Ev.bind (poSides_ev s a h.2.1 h.2.2) (Ev.now _))
theorem sides_i (s : ByteArray) (a : Int) (hs : s.size ≤ 1048576) : Ev (fun k => impl_RouteSides.f k s a) (sidesR s a) := by
 unfold impl_RouteSides.f sidesR
 refine Ev.bind (isDelivered_ev s a hs) ?_
 cases hd : asked s a
 ·exact Ev.itef (by simp) (Ev.now _)
 ·exact Ev.itet rfl (by rw [best_f s a (asked_len hd).2.1, Option.bind_some]; exact Ev.now _)
def cntR (s : ByteArray) (a : Int) : Int × Bool := if asked s a then (if (spec_poTable.R s a 0).2 0 > 1000000000000000 then (0, false) else ((spec_poTable.R s a 0).2 0, true)) else (0, false)
theorem cnt_s (s : ByteArray) (a : Int) (hs : s.size ≤ 1048576) : Ev (fun k => spec_CountRoutes.f k s a) (cntR s a) := by
 unfold spec_CountRoutes.f cntR
 refine Ev.bind (poAsked_ev s a hs) ?_
 cases hd : asked s a
 ·exact Ev.itef (by simp) (Ev.now _)
 ·have h2 := (asked_len hd).2.1
  refine Ev.itet rfl ?_
  rw [table_f s a h2, Option.bind_some, tab_len, tab_at0, if_pos (by omega), if_pos (by simp)]
  exact Ev.ite (fun _ => Ev.now _) (fun _ => Ev.now _)
theorem cnt_i (s : ByteArray) (a : Int) (hs : s.size ≤ 1048576) : Ev (fun k => impl_CountRoutes.f k s a) (cntR s a) := by
 unfold impl_CountRoutes.f cntR
 refine Ev.bind (isDelivered_ev s a hs) ?_
 cases hd : asked s a
 ·exact Ev.itef (by simp) (Ev.now _)
 ·refine Ev.itet rfl ?_
  rw [best_f s a (asked_len hd).2.1, Option.bind_some]
  exact Ev.ite (fun _ => Ev.now _) (fun _ => Ev.now _)
def C (s : ByteArray) (a w : Int) : Int := wrap64 ((wrap64 ((s.size : Int) - 1)) + (wrap64 (w * (spec_poTable.R s a 0).1 0)))
def costR (s : ByteArray) (a w : Int) : Int × Bool := if asked s a && decide (0 ≤ w ∧ w ≤ 1000) then (C s a w, true) else (0, false)
theorem cost_s (s : ByteArray) (a w : Int) (hs : s.size ≤ 1048576) : Ev (fun k => spec_RouteCost.f k s a w) (costR s a w) := by
 unfold spec_RouteCost.f costR
 refine Ev.bind (poAsked_ev s a hs) ?_
 cases hd : asked s a
 ·exact Ev.itef (by simp) (Ev.now _)
 ·have h2 := (asked_len hd).2.1
  refine Ev.itet rfl ?_
  simp only [wide_s, Option.bind_some, Bool.true_and]
  cases decide (0 ≤ w ∧ w ≤ 1000)
  ·exact Ev.itef (by simp) (Ev.now _)
  ·exact Ev.itet rfl (by rw [table_f s a h2, Option.bind_some, tab_len, tab_at0, if_pos (by omega), if_pos (by simp)]; exact Ev.now _)
theorem routeCost_f (s : ByteArray) (a w : Int) (h : s.size ≤ 60) : impl_routeCost.f s a w = some (C s a w) := by
 unfold impl_routeCost.f
 rw [best_f s a h, Option.bind_some]
 rfl
theorem cost_i (s : ByteArray) (a w : Int) (hs : s.size ≤ 1048576) : Ev (fun k => impl_RouteCost.f k s a w) (costR s a w) := by
 unfold impl_RouteCost.f costR
 refine Ev.bind (isDelivered_ev s a hs) ?_
 cases hd : asked s a
 ·exact Ev.itef (by simp) (Ev.now _)
 ·refine Ev.itet rfl ?_
  simp only [wide_i, Option.bind_some, Bool.true_and]
  cases decide (0 ≤ w ∧ w ≤ 1000)
  ·exact Ev.itef (by simp) (Ev.now _)
  ·exact Ev.itet rfl (by rw [routeCost_f s a w (asked_len hd).2.1, Option.bind_some]; exact Ev.now _)
def arndR (s : ByteArray) (w : Int) : Int × Bool := if deliv s && decide (0 ≤ w ∧ w ≤ 1000) then (cost s w, true) else (0, false)
theorem arnd_s (s : ByteArray) (w : Int) (hs : s.size ≤ 1048576) : Ev (fun k => spec_AroundCost.f k s w) (arndR s w) := by
 unfold spec_AroundCost.f arndR
 refine Ev.bind (poGood_ev s hs) ?_
 cases hd : deliv s
 ·exact Ev.itef (by simp) (Ev.now _)
 ·refine Ev.itet rfl ?_
  simp only [wide_s, Option.bind_some, Bool.true_and]
  by_cases hw : 0 ≤ w ∧ w ≤ 1000
  ·rw [decide_eq_true hw]
   exact Ev.itet rfl (Ev.bind (poAround_ev s w hd hw) (Ev.now _))
  ·rw [decide_eq_false hw]
   exact Ev.itef (by simp) (Ev.now _)
theorem arnd_i (s : ByteArray) (w : Int) (hs : s.size ≤ 1048576) : Ev (fun k => impl_AroundCost.f k s w) (arndR s w) := by
 unfold impl_AroundCost.f arndR
 refine Ev.bind (AreDeliveries_ev s hs) ?_
 cases hd : deliv s
 ·exact Ev.itef (by simp) (Ev.now _)
 ·refine Ev.itet rfl ?_
  simp only [wide_i, Option.bind_some, Bool.true_and]
  by_cases hw : 0 ≤ w ∧ w ≤ 1000
  ·rw [decide_eq_true hw]
   exact Ev.itet rfl (by rw [aroundCost_f s w hd hw, Option.bind_some]; exact Ev.now _)
  ·rw [decide_eq_false hw]
   exact Ev.itef (by simp) (Ev.now _)
def bet (x y : Int) : Int := if y < x then 1 else if y > x then -1 else 0
def betR (s : ByteArray) (a w : Int) : Int × Bool := if asked s a && decide (0 ≤ w ∧ w ≤ 1000) then (bet (C s a w) (cost s w), true) else (0, false)
theorem asked_deliv {s : ByteArray} {a : Int} (h : asked s a = true) : deliv s = true := by
 unfold asked at h
 simp only [Bool.and_eq_true] at h
 exact h.1
theorem bet_s (s : ByteArray) (a w : Int) (hs : s.size ≤ 1048576) : Ev (fun k => spec_AroundIsBetter.f k s a w) (betR s a w) := by
 unfold spec_AroundIsBetter.f
 refine Ev.bind (cost_s s a w hs) ?_
 unfold costR betR
 cases hd : asked s a
 ·exact Ev.itef (by simp) (Ev.now _)
 ·by_cases hw : 0 ≤ w ∧ w ≤ 1000
  ·rw [decide_eq_true hw]
   refine Ev.itet rfl (Ev.bind (poAround_ev s w (asked_deliv hd) hw) ?_)
   unfold bet
   by_cases g1 : cost s w < C s a w
   ·rw [if_pos g1]
    exact Ev.itet g1 (Ev.now _)
   ·rw [if_neg g1]
    refine Ev.itef g1 ?_
    by_cases g2 : cost s w > C s a w
    ·rw [if_pos g2]
     exact Ev.itet g2 (Ev.now _)
    ·rw [if_neg g2]
     exact Ev.itef g2 (Ev.now _)
  ·rw [decide_eq_false hw]
   exact Ev.itef (by simp) (Ev.now _)
def cmpI (a b : Int) : Int := if a < b then -1 else if a > b then 1 else 0
theorem compare_f (a b : Int) : cmp_Compare_int.f a b = some (cmpI a b) := by
 unfold cmp_Compare_int.f cmp_isNaN_int.f cmpI
 simp only [Option.bind_some, bne_self_eq_false, Bool.false_eq_true, if_false]
 repeat' split
 all_goals rfl
theorem cmp_bet (x y : Int) : cmpI x y = bet x y := by
 unfold cmpI bet
 repeat' split
 all_goals omega
theorem bet_i (s : ByteArray) (a w : Int) (hs : s.size ≤ 1048576) : Ev (fun k => impl_AroundIsBetter.f k s a w) (betR s a w) := by
 have no : Ev (fun k => impl_AroundIsBetter.j0 k s a w true) (0, false) := by
  refine Ev.succ ?_
  simp only [impl_AroundIsBetter.j0]
  exact Ev.itet trivial (Ev.now _)
 unfold impl_AroundIsBetter.f betR
 refine Ev.bind (isDelivered_ev s a hs) ?_
 cases hd : asked s a
 ·exact Ev.itef (by simp) no
 ·refine Ev.itet rfl ?_
  simp only [wide_i, Option.bind_some]
  by_cases hw : 0 ≤ w ∧ w ≤ 1000
  ·rw [decide_eq_true hw]
   refine Ev.succ ?_
   simp only [impl_AroundIsBetter.j0]
   refine Ev.itef (by simp) ?_
   rw [routeCost_f s a w (asked_len hd).2.1, aroundCost_f s w (asked_deliv hd) hw]
   simp only [Option.bind_some]
   rw [compare_f, cmp_bet, Option.bind_some]
   exact Ev.now _
  ·rw [decide_eq_false hw]
   exact no
theorem zSame_ev (l : List Int) (hl : l.length ≤ 1048576) : Ev (fun k => laws_zSame.f k l l) true := by
 unfold laws_zSame.f
 refine Ev.itet rfl ?_
 have key : ∀ (d i : Nat), i + d = l.length → Ev (fun k => laws_zSame.l0 k l l (l.length : Int) (i : Int)) true := by
  intro d
  induction d with
  | zero =>
   intro i hi
   exact Ev.stop fun k => by simp only [laws_zSame.l0]; rw [if_neg (by omega)]
  | succ d ih =>
   intro i hi
   refine Ev.to _ (fun k => ?_) (ih (i + 1) (by omega))
   simp only [laws_zSame.l0]
   rw [if_pos (by omega), if_pos (by omega), if_pos (by omega), if_pos (by omega), w64 (by omega) (by omega)]
   simp
 have := key l.length 0 (by omega)
 simpa using this
theorem areS_ev (s : ByteArray) (hs : s.size ≤ 1048576) : Ev (fun k => spec_AreDeliveries.f k s) (deliv s) := by
 unfold spec_AreDeliveries.f
 exact Ev.bind (poGood_ev s hs) (Ev.now _)
theorem l1_ev (x43 x47 : Int) (x48 x50 : Bool) (t : ByteArray) (l : List Int) (hl : l.length ≤ 100) (h : ∀ x ∈ l, O1 x) (r : Bool)
  (he : Ev (fun k => (impl_RouteCrossings.f k t (l.map fun x => 1 - x)).bind fun bt365 => (if x48 = true then (if x47 > x43 then (none) else (if x50 = true then (if bt365.2 = true then (if bt365.1 > (wrap64 (x43 + 1)) then (none) else (if x43 > (wrap64 (bt365.1 + 1)) then (none) else (some true))) else (none)) else (none))) else (none))) r) :
  ∀ (d i : Nat), i + d = l.length → Ev (fun k => laws_FnPostCrosses.l1 k x43 x47 x48 t x50 ((l.take i).map (fun x => 1 - x) ++ List.replicate d 0) l (l.length : Int) (i : Int)) r
 | 0, i, hi => by
  rw [List.take_of_length_le (by omega), List.replicate_zero, List.append_nil]
  refine Ev.succ ?_
  simp only [laws_FnPostCrosses.l1]
  exact Ev.itef (by omega) he
 | d + 1, i, hi => by
  have hlt : i < l.length := by omega
  refine Ev.to _ (fun k => ?_) (l1_ev x43 x47 x48 x50 t l hl h r he d (i + 1) (by omega))
  have hx := h l[i] (List.getElem_mem hlt)
  unfold O1 at hx
  simp only [laws_FnPostCrosses.l1]
  rw [if_pos (by omega), if_pos (by omega), if_pos (by omega), if_pos (by simp; omega), rd_get l i hlt, w64 (x := 1 - l[i]) (by omega) (by omega), w64 (x := (i : Int) + 1) (by omega) (by omega)]
  have e : ((l.take i).map (fun x => 1 - x) ++ List.replicate (d + 1) 0).set (i : Int).toNat (1 - l[i]) = (l.take (i + 1)).map (fun x => 1 - x) ++ List.replicate d 0 := by
   rw [List.take_succ_eq_append_getElem hlt, Int.toNat_natCast, List.set_append_right _ _ (by simp; omega)]
   have : i - ((l.take i).map (fun x => 1 - x)).length = 0 := by simp; omega
   rw [this, List.replicate_succ, List.set_cons_zero, List.map_append, List.append_assoc]
   rfl
  rw [e]
  rfl
theorem j6_ev {more : List Int} (hc : codeOk more) : Ev (fun k => laws_FnPostCrosses.j6 k more) true := by
 refine Ev.succ ?_
 simp only [laws_FnPostCrosses.j6]
 obtain ⟨⟨t, l⟩, hd, hs, hl⟩ := drawCross_ev hc
 simp only at hs hl
 refine Ev.bind hd (Ev.bind (implC_ev t (by omega) l (by omega)) (Ev.bind (specC_ev t (by omega) l (by omega)) (Ev.itef (by simp) (Ev.succ ?_))))
 simp only [laws_FnPostCrosses.j7]
 refine Ev.itef (by simp) ?_
 cases h : (rcs t l).2
 ·exact Ev.itef (by simp) (Ev.now _)
 ·obtain ⟨hdv, hlen, h01, hcr⟩ := rcs_true h
  have h60 := deliv_len hdv
  refine Ev.itet rfl (Ev.bind (few_i t 2 (by omega)) (Ev.bind (implM_ev t (by omega)) (Ev.itet (by omega) (Ev.itet (by omega) ?_))))
  have hask : asked t 2 = true := by unfold asked; rw [hdv]; rfl
  have e1 : fewR t 2 = ((spec_poTable.R t 2 0).1 0, true) := by unfold fewR; rw [hask]; rfl
  rw [e1, hdv, Int.toNat_natCast]
  refine l1_ev _ _ _ _ _ l (by omega) h01 true ?_ l.length 0 (by omega)
  have ho : ∀ x ∈ l.map (fun x => 1 - x), O1 x := fun x hx => by
   obtain ⟨y, hy, rfl⟩ := List.mem_map.1 hx
   have := h01 y hy
   unfold O1 at *
   omega
  have hM := rcs_route (M_deliv hdv) (l := l.map fun x => 1 - x) (by rw [M_size, List.length_map]; exact hlen) ho
  have hm := cr_M hdv l 0 0 (by omega) (.inl rfl) h01
  have hb := cr_begin (M t) (l.map fun x => 1 - x) ho
  have hlow := lower t 2 h60.2 l 0 0 (by omega) h01 (.inl rfl)
  have hcb := cr_b t l 0 0
  have hcb2 := cr_b (M t) (l.map fun x => 1 - x) 0 0
  have hlen2 : (l.map fun x => 1 - x).length = l.length := List.length_map ..
  rw [show (1 : Int) - 0 = 1 from rfl] at hm
  rw [hcr]
  have hi := implC_ev (M t) (by rw [M_size]; omega) (l.map fun x => 1 - x) (by rw [hlen2]; omega)
  rw [hM] at hi
  have e0 : ((0 : Nat) : Int) = 0 := rfl
  rw [e0] at hlow
  refine Ev.bind hi (Ev.itet rfl (Ev.itef (by omega) (Ev.itet rfl (Ev.itet rfl ?_))))
  simp only
  rw [w64 (by omega) (by omega), w64 (by omega) (by omega)]
  exact Ev.itef (by omega) (Ev.itef (by omega) (Ev.now _))
theorem j5_ev {more : List Int} (hc : codeOk more) (s : ByteArray) (w c : Int) (ok : Bool) (f b o : Int) (h : ok = true → c = wrap64 ((wrap64 ((s.size : Int) - 1)) + (wrap64 (w * f))) ∧ b = bet c o) : Ev (fun k => laws_FnPostCrosses.j5 k more s w c ok f b o) true := by
 refine Ev.succ ?_
 simp only [laws_FnPostCrosses.j5]
 cases ok
 ·exact Ev.itef (by simp) (j6_ev hc)
 ·obtain ⟨h1, h2⟩ := h rfl
  have hb : (-1 ≤ b ∧ b ≤ 1) ∧ (b > 0 ↔ o < c) ∧ (b < 0 ↔ o > c) := by
   rw [h2]
   unfold bet
   split
   ·omega
   ·split <;> omega
  have e1 : decide (b > 0) = decide (o < c) := decide_eq_decide.mpr hb.2.1
  have e2 : decide (b < 0) = decide (o > c) := decide_eq_decide.mpr hb.2.2
  rw [e1, e2]
  exact Ev.itet rfl (Ev.itet h1 (Ev.itef (by omega) (Ev.itef (by omega) (Ev.itef (by simp) (Ev.itef (by simp) (j6_ev hc))))))
theorem route_ok {s : ByteArray} {a : Int} (hd : asked s a = true) {l : List Int} (hl : l.length = s.size) (h : ∀ x ∈ l, O1 x) (he : allowed a (endOf 0 l)) : rcs s l = (cr s 0 0 l, true) ∧ (spec_poTable.R s a 0).1 0 ≤ cr s 0 0 l :=
 ⟨rcs_route (asked_deliv hd) hl h, lower s a (asked_len hd).2.1 l 0 0 (by omega) h he⟩
theorem l0_ev' {more : List Int} (hc : codeOk more) (s : ByteArray) (a w c : Int) (ok : Bool) (b o : Int) (hd : asked s a = true) (h : ok = true → c = wrap64 ((wrap64 ((s.size : Int) - 1)) + (wrap64 (w * (spec_poTable.R s a 0).1 0))) ∧ b = bet c o) :
  ∀ (d i : Nat) (l : List Int), i + d = s.size → l.length = s.size → (∀ x ∈ l, O1 x) → Ev (fun k => laws_FnPostCrosses.l0 k more s a w c ok ((spec_poTable.R s a 0).1 0) b o l (s.size : Int) (i : Int)) true
 | 0, i, l, hi, hl, h01 => by
  obtain ⟨g1, g2, g3, g4⟩ := asked_len hd
  refine Ev.succ ?_
  simp only [laws_FnPostCrosses.l0]
  refine Ev.itef (by omega) ?_
  by_cases ha : a < 2
  ·have he : O1 a := by unfold O1; omega
   have e : (wrap64 ((l.length : Int) - 1)).toNat = l.length - 1 := by rw [w64 (by omega) (by omega)]; omega
   obtain ⟨r1, r2⟩ := route_ok hd (l := l.set (l.length - 1) a) (by simpa using hl) (set_o1 h01 he) (.inr (endOf_set _ _ _ (by omega)).symm)
   have hi := implC_ev s (by omega) (l.set (l.length - 1) a) (by simp; omega)
   rw [r1] at hi
   rw [e, w64 (x := (l.length : Int) - 1) (by omega) (by omega)]
   exact Ev.itet ha (Ev.itet (by omega) (Ev.itet (by omega) (Ev.bind hi (Ev.itet rfl (Ev.itef (by simp only; omega) (j5_ev hc s w c ok _ b o h))))))
  ·obtain ⟨r1, r2⟩ := route_ok hd hl h01 (.inl (by omega))
   have hi := implC_ev s (by omega) l (by omega)
   rw [r1] at hi
   exact Ev.itef ha (Ev.bind hi (Ev.itet rfl (Ev.itef (by simp only; omega) (j5_ev hc s w c ok _ b o h))))
 | d + 1, i, l, hi, hl, h01 => by
  obtain ⟨g1, g2, g3, g4⟩ := asked_len hd
  have et : Int.tmod (i : Int) 2 = (i : Int) % 2 := Int.tmod_eq_emod_of_nonneg (by omega)
  have ih := l0_ev' hc s a w c ok b o hd h d (i + 1) (l.set i (1 - (i : Int) % 2)) (by omega) (by simpa using hl) (set_o1 h01 (by unfold O1; omega))
  refine Ev.to _ (fun k => ?_) ih
  simp only [laws_FnPostCrosses.l0]
  rw [if_pos (by omega), if_pos (by omega), if_pos (by omega), et, w64 (x := 1 - (i : Int) % 2) (by omega) (by omega), w64 (x := (i : Int) + 1) (by omega) (by omega), Int.toNat_natCast]
  rfl
theorem rep_o1 (n : Nat) : ∀ x ∈ List.replicate n (0 : Int), O1 x := fun _ hx => .inl (List.eq_of_mem_replicate hx)
theorem j3_ev' {more : List Int} (hc : codeOk more) (s : ByteArray) (a w c : Int) (ok : Bool) (b o : Int) (hd : asked s a = true) (h : ok = true → c = wrap64 ((wrap64 ((s.size : Int) - 1)) + (wrap64 (w * (spec_poTable.R s a 0).1 0))) ∧ b = bet c o) (y : Bool) (hy : y = false) : Ev (fun k => laws_FnPostCrosses.j3 k more s a w c ok ((spec_poTable.R s a 0).1 0) b o y) true := by
 obtain ⟨g1, g2, g3, g4⟩ := asked_len hd
 subst hy
 refine Ev.succ ?_
 simp only [laws_FnPostCrosses.j3, Option.bind_some]
 refine Ev.itef (by simp) (Ev.itet (by omega) (Ev.itet (by omega) ?_))
 rw [Int.toNat_natCast, List.length_replicate]
 exact l0_ev' hc s a w c ok b o hd h s.size 0 _ (by omega) (List.length_replicate ..) (rep_o1 _)
theorem j1_ev' {more : List Int} (hc : codeOk more) (s : ByteArray) (a w c : Int) (ok : Bool) (b o : Int) (hd : asked s a = true) (h : ok = true → c = wrap64 ((wrap64 ((s.size : Int) - 1)) + (wrap64 (w * (spec_poTable.R s a 0).1 0))) ∧ b = bet c o) (y : Bool) (hy : y = false) : Ev (fun k => laws_FnPostCrosses.j1 k more s a w c ok ((spec_poTable.R s a 0).1 0) b o y) true := by
 obtain ⟨g1, g2, g3, g4⟩ := asked_len hd
 subst hy
 refine Ev.succ ?_
 simp only [laws_FnPostCrosses.j1, Option.bind_some]
 refine Ev.itef (by simp) (Ev.itet (by omega) (Ev.itet (by omega) ?_))
 rw [Int.toNat_natCast, List.length_replicate, w64 (x := (s.size : Int) - 1) (by omega) (by omega)]
 have j2 : ∀ l : List Int, l.length = s.size → (∀ x ∈ l, O1 x) → allowed a (endOf 0 l) → Ev (fun k => laws_FnPostCrosses.j2 k more s a w c ok ((spec_poTable.R s a 0).1 0) b o l) true := by
  intro l hl h01 he
  obtain ⟨r1, r2⟩ := route_ok hd hl h01 he
  have hi := implC_ev s (by omega) l (by omega)
  rw [r1] at hi
  refine Ev.succ ?_
  simp only [laws_FnPostCrosses.j2]
  exact Ev.bind hi (Ev.itet rfl (j3_ev' hc s a w c ok b o hd h _ (decide_eq_false (by simp only; omega))))
 by_cases ha : a < 2
 ·have e : ((s.size : Int) - 1).toNat = (List.replicate s.size (0 : Int)).length - 1 := by simp
  rw [e]
  have hO : O1 a := by unfold O1; omega
  exact Ev.itet ha (Ev.itet (by omega) (Ev.itet (by omega) (j2 _ (by simp) (set_o1 (rep_o1 _) hO) (.inr (endOf_set _ _ _ (by simp; omega)).symm))))
 ·exact Ev.itef ha (j2 _ (by simp) (rep_o1 _) (.inl (by omega)))
theorem j0_ev' {more : List Int} (hc : codeOk more) (s : ByteArray) (hs : s.size ≤ 61) (a w : Int) (y : Bool) (hy : y = false) :
  Ev (fun k => laws_FnPostCrosses.j0 k more s a w (costR s a w).1 (costR s a w).2 (fewR s a).1 (fewR s a).2 (sidesR s a).1 (cntR s a).1 (cntR s a).2 (betR s a w).1 (arndR s w).1 y) true := by
 subst hy
 refine Ev.succ ?_
 simp only [laws_FnPostCrosses.j0]
 refine Ev.itef (by simp) ?_
 cases hd : asked s a
 ·have e1 : (fewR s a).2 = false := by unfold fewR; rw [hd]; rfl
  have e2 : (costR s a w).2 = false := by unfold costR; rw [hd]; rfl
  rw [e1, e2]
  exact Ev.itef (by simp) (j5_ev hc _ _ _ _ _ _ _ (fun h => by cases h))
 ·obtain ⟨g1, g2, g3, g4⟩ := asked_len hd
  have e1 : fewR s a = ((spec_poTable.R s a 0).1 0, true) := by unfold fewR; rw [hd]; rfl
  have e3 : sidesR s a = (impl_bestRoute.sides s a s.size, true) := by unfold sidesR; rw [hd]; rfl
  have hok : (costR s a w).2 = true → (costR s a w).1 = wrap64 ((wrap64 ((s.size : Int) - 1)) + (wrap64 (w * (spec_poTable.R s a 0).1 0))) ∧ (betR s a w).1 = bet (costR s a w).1 (arndR s w).1 := by
   unfold costR betR arndR
   rw [hd, asked_deliv hd]
   cases decide (0 ≤ w ∧ w ≤ 1000)
   ·exact fun h => by cases h
   ·exact fun _ => ⟨rfl, rfl⟩
  rw [e1, e3]
  simp only
  have hl := sides_len s a s.size
  have h01 := sides_o1 s a s.size
  have hfe := few_cr s a g2 g1 ⟨g3, g4⟩
  have hend := come_end s a g2 g1 ⟨g3, g4⟩
  have hr := rcs_route (asked_deliv hd) hl h01
  have hi := implC_ev s (by omega) _ (show (impl_bestRoute.sides s a s.size).length ≤ 1048576 by omega)
  rw [hr, hfe] at hi
  have h2 : asked s 2 = true := by unfold asked; rw [asked_deliv hd]; rfl
  have hf2 := few_i s 2 (by omega)
  have e4 : fewR s 2 = ((spec_poTable.R s 2 0).1 0, true) := by unfold fewR; rw [h2]; rfl
  rw [e4] at hf2
  have haf := any_few s a g2 g1 ⟨g3, g4⟩
  have hb := cr_b s (impl_bestRoute.sides s 2 s.size) 0 0
  rw [few_cr s 2 g2 g1 (by omega), sides_len] at hb
  have hlast : rd (impl_bestRoute.sides s a s.size) ((s.size : Int) - 1) = ((impl_bestRoute.come s a s.size : Nat) : Int) := by
   rw [show ((s.size : Int) - 1) = ((s.size - 1 : Nat) : Int) by omega, rd_get _ _ (by omega), sides_get]
   congr 2
   omega
  have fin : Ev (fun k => if (cntR s a).2 = true then laws_FnPostCrosses.j1 k more s a w (costR s a w).1 (costR s a w).2 ((spec_poTable.R s a 0).1 0) (betR s a w).1 (arndR s w).1 (decide ((cntR s a).1 < 1)) else laws_FnPostCrosses.j1 k more s a w (costR s a w).1 (costR s a w).2 ((spec_poTable.R s a 0).1 0) (betR s a w).1 (arndR s w).1 false) true := by
   cases hcn : (cntR s a).2
   ·exact Ev.itef (by simp) (j1_ev' hc s a w _ _ _ _ hd hok _ rfl)
   ·refine Ev.itet rfl (j1_ev' hc s a w _ _ _ _ hd hok _ (decide_eq_false ?_))
    have hp := count_pos s a g2 g1 ⟨g3, g4⟩
    unfold cntR at hcn ⊢
    rw [hd] at hcn ⊢
    simp only [if_true] at hcn ⊢
    by_cases hm : (spec_poTable.R s a 0).2 0 > 1000000000000000
    ·rw [if_pos hm] at hcn; cases hcn
    ·rw [if_neg hm]; simp only; omega
  rw [hl, w64 (x := (s.size : Int) - 1) (by omega) (by omega), hlast]
  refine Ev.itet (by trivial) (Ev.bind hi (Ev.bind hf2 (Ev.itet (by trivial) (Ev.itet (by trivial) (Ev.itet (by trivial) (Ev.itet (by trivial) (Ev.itef (by simp only; omega) ?_)))))))
  simp only
  rw [w64 (x := (spec_poTable.R s 2 0).1 0 + 1) (by omega) (by omega)]
  refine Ev.itef (by omega) ?_
  by_cases ha : a < 2
  ·refine Ev.itet ha (Ev.itet (by omega) (Ev.itet (by omega) (Ev.itet ?_ fin)))
   unfold allowed at hend
   omega
  ·exact Ev.itef ha fin
theorem main : laws_FnPostCrosses.Pure := by
 intro code more _ _ hw1 _ _ hw2
 refine Ev.rounds ?_
 unfold laws_FnPostCrosses.f
 rcases big_f code more with hb | ⟨hb, h1, h2⟩
 ·simp only [hb, Option.bind_some]
  exact Ev.itet trivial (Ev.now _)
 ·have b8 : ∀ x, (Lit.int .u8 x).wf = true → 0 ≤ x ∧ x ≤ 255 := fun x h => (Go.Lit.wf_int_iff .u8 x).1 h
  have hc : codeOk code := ⟨h1, fun x hx => b8 x (hw1 x hx)⟩
  have hm : codeOk more := ⟨h2, fun x hx => b8 x (hw2 x hx)⟩
  simp only [hb, Option.bind_some]
  obtain ⟨⟨s, a, w⟩, hd, hs⟩ := drawCost_ev hc
  simp only at hs
  have hs6 : s.size ≤ 1048576 := by omega
  have hi := AreDeliveries_ev s hs6
  have hsp := areS_ev s hs6
  have hl : (sidesR s a).1.length ≤ 1048576 := by
   unfold sidesR
   split
   ·rw [sides_len]; exact hs6
   ·simp
  refine Ev.itef (by simp) (Ev.bind hd (Ev.bind (cost_i s a w hs6) (Ev.bind (cost_s s a w hs6) (Ev.bind (few_i s a hs6) (Ev.bind (few_s s a hs6) (Ev.bind (sides_i s a hs6) (Ev.bind (sides_s s a hs6) (Ev.bind (cnt_i s a hs6) (Ev.bind (cnt_s s a hs6) (Ev.bind (bet_i s a w hs6) (Ev.bind (bet_s s a w hs6) (Ev.bind (arnd_i s w hs6) (Ev.bind (arnd_s s w hs6) ?_)))))))))))))
  have fin := fun y hy => j0_ev' hm s hs a w y hy
  have e1 : (sidesR s a).2 = asked s a := by unfold sidesR; cases asked s a <;> rfl
  have e2 : (fewR s a).2 = asked s a := by unfold fewR; cases asked s a <;> rfl
  have e3 : (costR s a w).2 = (asked s a && decide (0 ≤ w ∧ w ≤ 1000)) := by unfold costR; cases asked s a <;> cases decide (0 ≤ w ∧ w ≤ 1000) <;> rfl
  have e4 : (betR s a w).2 = (asked s a && decide (0 ≤ w ∧ w ≤ 1000)) := by unfold betR; cases asked s a <;> cases decide (0 ≤ w ∧ w ≤ 1000) <;> rfl
  have e5 : (arndR s w).2 = (deliv s && decide (0 ≤ w ∧ w ≤ 1000)) := by unfold arndR; cases deliv s <;> cases decide (0 ≤ w ∧ w ≤ 1000) <;> rfl
  have e6 : (cntR s a).2 = true → asked s a = true := by unfold cntR; cases asked s a <;> simp
  have e7 : asked s a = true → deliv s = true := asked_deliv
  refine Ev.itef (by simp) (Ev.itet rfl (Ev.itef (by simp) (Ev.itet rfl (Ev.itef (by simp) (Ev.bind (zSame_ev _ hl) (Ev.itet rfl (Ev.itef (by simp) (Ev.itet rfl (Ev.itef (by simp) (Ev.itet rfl (Ev.itef (by simp) (Ev.itet rfl (Ev.itef (by simp [e1, e2]) ?_)))))))))))))
  cases hk : asked s a <;> rw [hk] at e2 e3 e4
  ·cases hn : (cntR s a).2
   ·have f := fin false rfl
    rw [e3, e2, hn] at f
    rw [e3, e4, e2]
    simp only [Bool.false_and, Bool.false_eq_true, if_false, bne_self_eq_false] at f ⊢
    exact Ev.bind hi (Ev.bind hsp (Ev.itef (by simp) f))
   ·have := e6 hn
    rw [hk] at this
    cases this
  ·have hdv := e7 hk
   cases hw : decide (0 ≤ w ∧ w ≤ 1000) <;> rw [hw] at e3 e4 e5 <;> cases hn : (cntR s a).2 <;> rw [hn] at fin <;> rw [e3, e2] at fin ⊢ <;> rw [e4] <;> try rw [e5]
   all_goals simp only [hdv, Bool.and_true, Bool.and_false, Bool.false_eq_true, if_false, if_true, bne_self_eq_false] at hi hsp fin ⊢
   all_goals first
    | exact Ev.bind hi (Ev.bind hsp (Ev.itef (by simp) (Ev.bind hi (fin _ rfl))))
    | exact Ev.bind hi (Ev.bind hsp (Ev.itef (by simp) (Ev.itet trivial (Ev.bind hi (fin _ rfl)))))
end PostCrosses
theorem FnPostCrosses : laws_FnPostCrosses.Pure := PostCrosses.main
end Go.Proofs.YtpopeedfgenebaaDoor.Pure
