/- The Lean functions printed of both sides say the same mirrored deliveries, for all texts. No condition beyond the printed bounds. -/
import Derived.Test.YteclefeppgoobaaPFnExactMirrorDeliveriesx1
import Derived.Test.YteclefeppgoobaaKit
namespace Go.Proofs.Yteclefeppgoobaa.Pure
open Go.RowKit Go.Proofs.YteclefeppgoobaaW.PrintWords Go.Proofs.YteclefeppgoobaaW.PrintLast Go.Proofs.YteclefeppgoobaaW.PrintMore Go.Proofs.YteclefeppgoobaaKit
open Go.Proofs.Yteclefeppgoobaa.PFnExactMirrorDeliveries
namespace MirrorDeliveries
theorem ge_le (a b c : Int) : (if a ≥ b then some (decide (a ≤ c)) else some false) = some (decide (b ≤ a ∧ a ≤ c)) := by
  by_cases h : a ≥ b
  · rw [if_pos h]; simp [show b ≤ a from h]
  · rw [if_neg h]; simp; omega
theorem l1In_f (a b c : Int) : spec_l1In.f a b c = some (decide (b ≤ a ∧ a ≤ c)) := by unfold spec_l1In.f; exact ge_le a b c
theorem within_f (a b c : Int) : impl_within.f a b c = some (decide (b ≤ a ∧ a ≤ c)) := by unfold impl_within.f; exact ge_le a b c
/-! Texts of deliveries. -/
def sgn (b : UInt8) : Bool := b == 108 || (b == 114 || (b == 98 || b == 45))
def deliv (s : ByteArray) : Bool := decide (1 ≤ (s.size : Int) ∧ (s.size : Int) ≤ 60) && s.data.toList.all sgn
theorem deliv_len {s : ByteArray} (h : deliv s = true) : 1 ≤ s.size ∧ s.size ≤ 60 := by
  simp only [deliv, Bool.and_eq_true, decide_eq_true_eq] at h; omega
theorem deliv_mem {s : ByteArray} (h : deliv s = true) : ∀ b ∈ s.data.toList, sgn b = true := by
  simp only [deliv, Bool.and_eq_true, List.all_eq_true] at h
  exact h.2
theorem eq108 (b : UInt8) : ((b.toNat : Int) = 108) ↔ b = 108 := byte_eq b 108 (by decide)
theorem eq114 (b : UInt8) : ((b.toNat : Int) = 114) ↔ b = 114 := byte_eq b 114 (by decide)
theorem eq98 (b : UInt8) : ((b.toNat : Int) = 98) ↔ b = 98 := byte_eq b 98 (by decide)
theorem eq45 (b : UInt8) : ((b.toNat : Int) = 45) ↔ b = 45 := byte_eq b 45 (by decide)
theorem poGood_l0 (s : ByteArray) (hs : s.size ≤ 1048576) : Ev (fun k => spec_poGood.l0 k s 0) (s.data.toList.all sgn) := by
  rw [← runL_all _ s.data.toList 0]
  refine ev_loop0 s.data.toList (fun k i (_ : Unit) => spec_poGood.l0 k s i) _ _ (fun _ _ => True) () trivial (fun i u hi _ => ?_) (fun u _ => ?_)
  · have hi' : i < s.size := by rw [← len_data]; exact hi
    have hw : wrap64 ((i : Int) + 1) = (i : Int) + 1 := w64 (by omega) (by omega)
    have key : ∀ k, spec_poGood.l0 (k + 1) s (i : Int) = if sgn s.data.toList[i] = true then spec_poGood.l0 k s ((i : Int) + 1) else some false := by
      intro k
      simp only [spec_poGood.l0]
      rw [if_pos (by omega), if_pos (by omega), bt_get s i hi, hw]
      simp only [eq108, eq114, eq98, eq45, sgn, Bool.or_eq_true, beq_iff_eq]
      by_cases h1 : s.data.toList[i] = 108
      · rw [if_pos h1, if_pos (Or.inl h1)]
      rw [if_neg h1]
      by_cases h2 : s.data.toList[i] = 114
      · rw [if_pos h2, if_pos (Or.inr (Or.inl h2))]
      rw [if_neg h2]
      by_cases h3 : s.data.toList[i] = 98
      · rw [if_pos h3, if_pos (Or.inr (Or.inr (Or.inl h3)))]
      rw [if_neg h3]
      by_cases h4 : s.data.toList[i] = 45
      · rw [if_pos h4, if_pos (Or.inr (Or.inr (Or.inr h4)))]
      · rw [if_neg h4, if_neg (by rintro (h | h | h | h) <;> contradiction)]
    constructor
    · intro s' e
      cases hp : sgn s.data.toList[i]
      · rw [hp] at e; simp at e
      · exact ⟨trivial, fun r hr => Ev.to _ (fun k => by rw [key, hp, if_pos rfl]) hr⟩
    · intro r e
      cases hp : sgn s.data.toList[i]
      · rw [hp] at e
        cases e
        exact Ev.stop fun k => by rw [key, hp]; rfl
      · rw [hp] at e; simp at e
  · exact Ev.stop fun k => by simp only [spec_poGood.l0]; rw [if_neg (by rw [len_data]; omega)]
theorem poGood_ev (s : ByteArray) (hs : s.size ≤ 1048576) : Ev (fun k => spec_poGood.f k s) (deliv s) := by
  unfold spec_poGood.f deliv
  simp only [l1In_f, Option.bind_some]
  cases decide (1 ≤ (s.size : Int) ∧ (s.size : Int) ≤ 60)
  · exact Ev.itef (by simp) (Ev.now _)
  · exact Ev.itet rfl (poGood_l0 s hs)
theorem index_sgn (b : UInt8) : (Lib.indexByte [108, 114, 98, 45] b < 0) ↔ ¬ sgn b = true := by
  have h1 : Lib.indexByte [45] b = if 45 = b then 0 else -1 := by simp [Lib.indexByte]
  simp only [Lib.indexByte, sgn, Bool.or_eq_true, beq_iff_eq]
  by_cases e1 : (108 : UInt8) = b
  · subst e1; simp
  by_cases e2 : (114 : UInt8) = b
  · subst e2; simp
  by_cases e3 : (98 : UInt8) = b
  · subst e3; simp
  by_cases e4 : (45 : UInt8) = b
  · subst e4; simp
  · simp [e1, e2, e3, e4, Ne.symm e1, Ne.symm e2, Ne.symm e3, Ne.symm e4]
theorem AreDeliveries_ev (s : ByteArray) (hs : s.size ≤ 1048576) : Ev (fun k => impl_AreDeliveries.f k s) (deliv s) := by
  unfold impl_AreDeliveries.f
  have e : deliv s = runL (fun _ x (_ : Unit) => if sgn x then (Sum.inl () : Unit ⊕ Bool) else .inr false) (fun _ => decide (1 ≤ (s.size : Int) ∧ (s.size : Int) ≤ 60)) 0 s.data.toList () := by
    have gen : ∀ (l : List UInt8) (i : Nat) (c : Bool), runL (fun _ x (_ : Unit) => if sgn x then (Sum.inl () : Unit ⊕ Bool) else .inr false) (fun _ => c) i l () = (c && l.all sgn) := by
      intro l
      induction l with
      | nil => intro i c; simp [runL]
      | cons x xs ih =>
        intro i c
        simp only [runL, List.all_cons]
        cases sgn x
        · simp
        · simp only [if_true, Bool.true_and]; exact ih _ _
    rw [gen]
    rfl
  rw [e]
  refine ev_loop0 s.data.toList (fun k i (_ : Unit) => impl_AreDeliveries.l0 k s (s.size : Int) i) _ _ (fun _ _ => True) () trivial (fun i u hi _ => ?_) (fun u _ => ?_)
  · have hi' : i < s.size := by rw [← len_data]; exact hi
    have hw : wrap64 ((i : Int) + 1) = (i : Int) + 1 := w64 (by omega) (by omega)
    have key : ∀ k, impl_AreDeliveries.l0 (k + 1) s (s.size : Int) (i : Int) = if sgn s.data.toList[i] = true then impl_AreDeliveries.l0 k s (s.size : Int) ((i : Int) + 1) else some false := by
      intro k
      simp only [impl_AreDeliveries.l0, strings_IndexByte.f, Option.bind_some]
      rw [if_pos (by omega), if_pos (by omega), if_pos (by omega), bt_get s i hi, byte_back, hw]
      by_cases hp : sgn s.data.toList[i] = true
      · rw [if_pos hp, if_neg (fun h => (index_sgn _).1 h hp)]
      · rw [if_neg hp, if_pos ((index_sgn _).2 hp)]
    constructor
    · intro s' e
      cases hp : sgn s.data.toList[i]
      · rw [hp] at e; simp at e
      · exact ⟨trivial, fun r hr => Ev.to _ (fun k => by rw [key, hp, if_pos rfl]) hr⟩
    · intro r e
      cases hp : sgn s.data.toList[i]
      · rw [hp] at e
        cases e
        exact Ev.stop fun k => by rw [key, hp]; rfl
      · rw [hp] at e; simp at e
  · exact Ev.stop fun k => by simp only [impl_AreDeliveries.l0, within_f, Option.bind_some]; rw [if_neg (by rw [len_data]; omega)]
/-! Strings made of bytes. -/
def str (l : List UInt8) : ByteArray := ⟨l.toArray⟩
theorem str_app (l m : List UInt8) : str l ++ str m = str (l ++ m) := by
  apply ba_ext
  simp [str]
theorem str_push (l : List UInt8) (b : UInt8) : str l ++ (⟨#[b]⟩ : ByteArray) = str (l ++ [b]) := str_app l [b]
theorem str_size (l : List UInt8) : (str l).size = l.length := rfl
theorem str_cut (s : ByteArray) (i : Nat) (h : i < s.data.toList.length) : s.extract i (i + 1) = str [s.data.toList[i]] := by
  apply ba_ext
  rw [data_extract, List.drop_eq_getElem_cons h]
  simp [str]
def toI (l : List UInt8) : List Int := l.map fun b => (b.toNat : Int)
theorem strOf_toI (l : List UInt8) : strOfNums (toI l) = str l := by
  apply ba_ext
  simp only [strOfNums, toI, str, List.map_map]
  have e : ∀ l : List UInt8, List.map ((fun n : Int => UInt8.ofNat n.toNat) ∘ fun b : UInt8 => (b.toNat : Int)) l = l := by
    intro l
    induction l with
    | nil => rfl
    | cons b l ih => rw [List.map_cons, ih]; simp
  exact e l
def mirB (b : UInt8) : UInt8 := if b = 108 then 114 else if b = 114 then 108 else b
theorem mir_B (b : UInt8) : impl_MirrorDeliveries.mir (b.toNat : Int) = ((mirB b).toNat : Int) := by
  unfold impl_MirrorDeliveries.mir mirB
  simp only [eq108, eq114]
  split
  · rfl
  · split <;> rfl
theorem spec_l0 (s : ByteArray) (hs : s.size ≤ 1048576) : Ev (fun k => spec_MirrorDeliveries.l0 k s (⟨#[]⟩ : ByteArray) 0) (str (s.data.toList.map mirB), true) := by
  have hlen := len_data s
  have key : ∀ (d i : Nat), i + d = s.data.toList.length → Ev (fun k => spec_MirrorDeliveries.l0 k s (str ((s.data.toList.take i).map mirB)) (i : Int)) (str (s.data.toList.map mirB), true) := by
    intro d
    induction d with
    | zero =>
      intro i hi
      refine Ev.stop fun k => ?_
      simp only [spec_MirrorDeliveries.l0]
      rw [if_neg (by omega), List.take_of_length_le (by omega)]
    | succ d ih =>
      intro i hi
      have hlt : i < s.data.toList.length := by omega
      refine Ev.to _ (fun k => ?_) (ih (i + 1) (by omega))
      rw [List.take_succ_eq_append_getElem hlt, List.map_append]
      simp only [spec_MirrorDeliveries.l0]
      have w1 : wrap64 ((i : Int) + 1) = ((i + 1 : Nat) : Int) := by rw [w64 (by omega) (by omega)]; rfl
      rw [if_pos (by omega), if_pos (by omega), bt_get s i hlt, w1]
      simp only [eq108, eq114, Int.toNat_natCast, str_push, str_size, str_cut s i hlt, str_app, List.map_cons, List.map_nil, mirB, List.length_cons, List.length_nil]
      have hb : ((s.data.toList.take i).map mirB).length = i := by simp; omega
      by_cases h1 : s.data.toList[i] = 108
      · rw [if_pos h1, if_pos h1, if_pos (by omega)]
      rw [if_neg h1, if_neg h1]
      by_cases h2 : s.data.toList[i] = 114
      · rw [if_pos h2, if_pos h2, if_pos (by omega)]
      rw [if_neg h2, if_neg h2, if_pos (by omega), if_pos (by omega), if_pos (by omega)]
  exact key s.data.toList.length 0 (by omega)
def res (s : ByteArray) : ByteArray × Bool := if deliv s then (str (s.data.toList.map mirB), true) else (⟨#[]⟩, false)
theorem spec_ev (s : ByteArray) (hs : s.size ≤ 1048576) : Ev (fun k => spec_MirrorDeliveries.f k s) (res s) := by
  unfold spec_MirrorDeliveries.f res
  exact Ev.bind (poGood_ev s hs) (Ev.ite (fun _ => spec_l0 s hs) (fun _ => Ev.now _))
theorem impl_ev (s : ByteArray) (hs : s.size ≤ 1048576) : Ev (fun k => impl_MirrorDeliveries.f k s) (res s) := by
  unfold impl_MirrorDeliveries.f res
  refine Ev.bind (AreDeliveries_ev s hs) (Ev.ite (fun _ => Ev.itet hs ?_) (fun _ => Ev.now _))
  have e : (bytesOf s).map impl_MirrorDeliveries.mir = toI (s.data.toList.map mirB) := by
    simp only [bytesOf, toI, List.map_map]
    exact List.map_congr_left (fun b _ => mir_B b)
  rw [e, strOf_toI]
  exact Ev.now _
theorem main : laws_FnExactMirrorDeliveries.Pure := by
  intro s _
  refine Ev.rounds ?_
  unfold laws_FnExactMirrorDeliveries.f
  by_cases h : (s.size : Int) > 1048576
  · exact Ev.itet h (Ev.now _)
  · have hs : s.size ≤ 1048576 := by omega
    exact Ev.itef h (Ev.bind (spec_ev s hs) (Ev.bind (impl_ev s hs) (Ev.itet rfl (Ev.itef (by simp) (Ev.now _)))))
end MirrorDeliveries
theorem FnExactMirrorDeliveries : laws_FnExactMirrorDeliveries.Pure := MirrorDeliveries.main
end Go.Proofs.Yteclefeppgoobaa.Pure
