/- The Lean functions printed of both sides say the same rising list of numbers, for all arguments. No condition beyond the printed bounds. -/
import Derived.Test.YtpopeedfgenebaaWalkFnExactNumbersOf
import Derived.Test.YtpopeedfgenebaaKit
namespace Go.Proofs.Ytpopeedfgenebaa.Pure
open Go.RowKit Go.Proofs.YtpopeedfgenebaaW.PrintWords Go.Proofs.YtpopeedfgenebaaW.PrintLast Go.Proofs.YtpopeedfgenebaaW.PrintMore Go.Proofs.YtpopeedfgenebaaKit
open Go.Proofs.Ytpopeedfgenebaa.PFnExactNumbersOf
namespace NumbersOf
theorem ge_le (a b c : Int) : (if a ≥ b then some (decide (a ≤ c)) else some false) = some (decide (b ≤ a ∧ a ≤ c)) := by
  by_cases h : a ≥ b
  · rw [if_pos h]; simp [show b ≤ a from h]
  · rw [if_neg h]; simp; omega
theorem l1In_f (a b c : Int) : spec_l1In.f a b c = some (decide (b ≤ a ∧ a ≤ c)) := by unfold spec_l1In.f; exact ge_le a b c
theorem within_f (a b c : Int) : impl_within.f a b c = some (decide (b ≤ a ∧ a ≤ c)) := by unfold impl_within.f; exact ge_le a b c
/-! Texts of deliveries. -/
def sgn (b : UInt8) : Bool := b == 108 || (b == 114 || (b == 98 || b == 45))
def deliv (s : ByteArray) : Bool := decide (1 ≤ (s.size : Int) ∧ (s.size : Int) ≤ 60) && s.data.toList.all sgn
theorem deliv_len {s : ByteArray} (h : deliv s = true) : 1 ≤ s.size ∧ s.size ≤ 60 := by
  simp only [deliv, Bool.and_eq_true, decide_eq_true_eq] at h; omega
theorem deliv_mem {s : ByteArray} (h : deliv s = true) : ∀ b ∈ s.data.toList, sgn b = true := by
  simp only [deliv, Bool.and_eq_true, List.all_eq_true] at h
  exact h.2
theorem eq108 (b : UInt8) : ((b.toNat : Int) = 108) ↔ b = 108 := byte_eq b 108 (by decide)
theorem eq114 (b : UInt8) : ((b.toNat : Int) = 114) ↔ b = 114 := byte_eq b 114 (by decide)
theorem eq98 (b : UInt8) : ((b.toNat : Int) = 98) ↔ b = 98 := byte_eq b 98 (by decide)
theorem eq45 (b : UInt8) : ((b.toNat : Int) = 45) ↔ b = 45 := byte_eq b 45 (by decide)
theorem poGood_l0 (s : ByteArray) (hs : s.size ≤ 1048576) : Ev (fun k => spec_poGood.l0 k s 0) (s.data.toList.all sgn) := by
  rw [← runL_all _ s.data.toList 0]
  refine ev_loop0 s.data.toList (fun k i (_ : Unit) => spec_poGood.l0 k s i) _ _ (fun _ _ => True) () trivial (fun i u hi _ => ?_) (fun u _ => ?_)
  · have hi' : i < s.size := by rw [← len_data]; exact hi
    have hw : wrap64 ((i : Int) + 1) = (i : Int) + 1 := w64 (by omega) (by omega)
    have key : ∀ k, spec_poGood.l0 (k + 1) s (i : Int) = if sgn s.data.toList[i] = true then spec_poGood.l0 k s ((i : Int) + 1) else some false := by
      intro k
      simp only [spec_poGood.l0]
      rw [if_pos (by omega), if_pos (by omega), bt_get s i hi, hw]
      simp only [eq108, eq114, eq98, eq45, sgn, Bool.or_eq_true, beq_iff_eq]
      by_cases h1 : s.data.toList[i] = 108
      · rw [if_pos h1, if_pos (Or.inl h1)]
      rw [if_neg h1]
      by_cases h2 : s.data.toList[i] = 114
      · rw [if_pos h2, if_pos (Or.inr (Or.inl h2))]
      rw [if_neg h2]
      by_cases h3 : s.data.toList[i] = 98
      · rw [if_pos h3, if_pos (Or.inr (Or.inr (Or.inl h3)))]
      rw [if_neg h3]
      by_cases h4 : s.data.toList[i] = 45
      · rw [if_pos h4, if_pos (Or.inr (Or.inr (Or.inr h4)))]
      · rw [if_neg h4, if_neg (by rintro (h | h | h | h) <;> contradiction)]
    constructor
    · intro s' e
      cases hp : sgn s.data.toList[i]
      · rw [hp] at e; simp at e
      · exact ⟨trivial, fun r hr => Ev.to _ (fun k => by rw [key, hp, if_pos rfl]) hr⟩
    · intro r e
      cases hp : sgn s.data.toList[i]
      · rw [hp] at e
        cases e
        exact Ev.stop fun k => by rw [key, hp]; rfl
      · rw [hp] at e; simp at e
  · exact Ev.stop fun k => by simp only [spec_poGood.l0]; rw [if_neg (by rw [len_data]; omega)]
theorem poGood_ev (s : ByteArray) (hs : s.size ≤ 1048576) : Ev (fun k => spec_poGood.f k s) (deliv s) := by
  unfold spec_poGood.f deliv
  simp only [l1In_f, Option.bind_some]
  cases decide (1 ≤ (s.size : Int) ∧ (s.size : Int) ≤ 60)
  · exact Ev.itef (by simp) (Ev.now _)
  · exact Ev.itet rfl (poGood_l0 s hs)
theorem index_sgn (b : UInt8) : (Lib.indexByte [108, 114, 98, 45] b < 0) ↔ ¬ sgn b = true := by
  have h1 : Lib.indexByte [45] b = if 45 = b then 0 else -1 := by simp [Lib.indexByte]
  simp only [Lib.indexByte, sgn, Bool.or_eq_true, beq_iff_eq]
  by_cases e1 : (108 : UInt8) = b
  · subst e1; simp
  by_cases e2 : (114 : UInt8) = b
  · subst e2; simp
  by_cases e3 : (98 : UInt8) = b
  · subst e3; simp
  by_cases e4 : (45 : UInt8) = b
  · subst e4; simp
  · simp [e1, e2, e3, e4, Ne.symm e1, Ne.symm e2, Ne.symm e3, Ne.symm e4]
theorem AreDeliveries_ev (s : ByteArray) (hs : s.size ≤ 1048576) : Ev (fun k => impl_AreDeliveries.f k s) (deliv s) := by
  unfold impl_AreDeliveries.f
  have e : deliv s = runL (fun _ x (_ : Unit) => if sgn x then (Sum.inl () : Unit ⊕ Bool) else .inr false) (fun _ => decide (1 ≤ (s.size : Int) ∧ (s.size : Int) ≤ 60)) 0 s.data.toList () := by
    have gen : ∀ (l : List UInt8) (i : Nat) (c : Bool), runL (fun _ x (_ : Unit) => if sgn x then (Sum.inl () : Unit ⊕ Bool) else .inr false) (fun _ => c) i l () = (c && l.all sgn) := by
      intro l
      induction l with
      | nil => intro i c; simp [runL]
      | cons x xs ih =>
        intro i c
        simp only [runL, List.all_cons]
        cases sgn x
        · simp
        · simp only [if_true, Bool.true_and]; exact ih _ _
    rw [gen]
    rfl
  rw [e]
  refine ev_loop0 s.data.toList (fun k i (_ : Unit) => impl_AreDeliveries.l0 k s (s.size : Int) i) _ _ (fun _ _ => True) () trivial (fun i u hi _ => ?_) (fun u _ => ?_)
  · have hi' : i < s.size := by rw [← len_data]; exact hi
    have hw : wrap64 ((i : Int) + 1) = (i : Int) + 1 := w64 (by omega) (by omega)
    have key : ∀ k, impl_AreDeliveries.l0 (k + 1) s (s.size : Int) (i : Int) = if sgn s.data.toList[i] = true then impl_AreDeliveries.l0 k s (s.size : Int) ((i : Int) + 1) else some false := by
      intro k
      simp only [impl_AreDeliveries.l0, strings_IndexByte.f, Option.bind_some]
      rw [if_pos (by omega), if_pos (by omega), if_pos (by omega), bt_get s i hi, byte_back, hw]
      by_cases hp : sgn s.data.toList[i] = true
      · rw [if_pos hp, if_neg (fun h => (index_sgn _).1 h hp)]
      · rw [if_neg hp, if_pos ((index_sgn _).2 hp)]
    constructor
    · intro s' e
      cases hp : sgn s.data.toList[i]
      · rw [hp] at e; simp at e
      · exact ⟨trivial, fun r hr => Ev.to _ (fun k => by rw [key, hp, if_pos rfl]) hr⟩
    · intro r e
      cases hp : sgn s.data.toList[i]
      · rw [hp] at e
        cases e
        exact Ev.stop fun k => by rw [key, hp]; rfl
      · rw [hp] at e; simp at e
  · exact Ev.stop fun k => by simp only [impl_AreDeliveries.l0, within_f, Option.bind_some]; rw [if_neg (by rw [len_data]; omega)]
theorem eqIntS_ev (l : List Int) (hl : l.length ≤ 1048576) : Ev (fun k => laws_eqIntS.f k l l) true := by
  unfold laws_eqIntS.f
  refine Ev.itet rfl ?_
  have := runL_all (fun _ => true) l 0
  rw [show (l.all fun _ => true) = true by simp] at this
  rw [← this]
  refine ev_loop0 l (fun k i (_ : Unit) => laws_eqIntS.l0 k l l i) _ _ (fun _ _ => True) () trivial (fun i s hi _ => ⟨fun s' e => ⟨trivial, fun r hr => Ev.to _ (fun k => ?_) hr⟩, fun r e => by simp at e⟩) (fun s _ => Ev.stop fun k => ?_)
  · simp only [laws_eqIntS.l0]
    rw [if_pos (by omega), if_pos (by omega), if_pos (by omega), if_pos trivial, w64 (by omega) (by omega)]
  · simp only [laws_eqIntS.l0]
    rw [if_neg (by omega)]
/-! The laws' marks in memory. -/
def upto (k : Int) : Nat → List Int
  | 0 => []
  | n + 1 => k :: upto (k + 1) n
theorem upto_length (k : Int) (n : Nat) : (upto k n).length = n := by
  induction n generalizing k with
  | zero => rfl
  | succ n ih => simp [upto, ih]
theorem upto_get (k : Int) (n i : Nat) (h : i < (upto k n).length) : (upto k n)[i] = k + i := by
  induction n generalizing k i with
  | zero => simp [upto] at h
  | succ n ih =>
    cases i with
    | zero => simp [upto]
    | succ i =>
      simp only [upto, List.getElem_cons_succ]
      rw [ih (k + 1) i (by simpa [upto] using h)]
      omega
theorem upto_snoc (k : Int) (n : Nat) : upto k (n + 1) = upto k n ++ [k + n] := by
  induction n generalizing k with
  | zero => simp [upto]
  | succ n ih =>
    rw [upto, ih (k + 1)]
    simp only [upto, List.cons_append, List.cons.injEq, true_and]
    congr 2
    omega
theorem markIntS_ev (l : List Int) (hl : l.length ≤ 1048576) (k0 : Int) (h0 : 0 ≤ k0) (h1 : k0 ≤ 8388608) : Ev (fun k => laws_markIntS.f k l k0) (k0 + l.length, upto k0 l.length) := by
  unfold laws_markIntS.f
  have key : ∀ (d i : Nat), i + d = l.length → Ev (fun k => laws_markIntS.l0 k (upto k0 i ++ l.drop i) (k0 + i) (i : Int)) (k0 + l.length, upto k0 l.length) := by
    intro d
    induction d with
    | zero =>
      intro i hi
      obtain rfl : i = l.length := by omega
      refine Ev.stop fun k => ?_
      simp only [laws_markIntS.l0]
      rw [if_neg (by simp [upto_length])]
      simp
    | succ d ih =>
      intro i hi
      have hlt : i < l.length := by omega
      refine Ev.to _ (fun k => ?_) (ih (i + 1) (by omega))
      simp only [laws_markIntS.l0]
      have hlen : ((upto k0 i ++ l.drop i).length : Int) = l.length := by simp [upto_length]; omega
      rw [hlen, if_pos (by omega), if_pos (by omega), w64 (x := k0 + i + 1) (by omega) (by omega), w64 (x := (i : Int) + 1) (by omega) (by omega)]
      have e : (upto k0 i ++ l.drop i).set (i : Int).toNat (k0 + i) = upto k0 (i + 1) ++ l.drop (i + 1) := by
        rw [Int.toNat_natCast, List.set_append_right _ _ (by simp [upto_length]), upto_length, Nat.sub_self, List.drop_eq_getElem_cons hlt, List.set_cons_zero, upto_snoc, List.append_assoc]
        rfl
      rw [e, show k0 + (i : Int) + 1 = k0 + ((i + 1 : Nat) : Int) by omega, show (i : Int) + 1 = ((i + 1 : Nat) : Int) by omega]
  have := key l.length 0 (by omega)
  simpa [upto] using this
theorem heldIntS_ev (n : Nat) (hn : n ≤ 1048576) (k0 : Int) (h0 : 0 ≤ k0) (h1 : k0 ≤ 1048577) : Ev (fun k => laws_heldIntS.f k (upto k0 n) k0) (k0 + n) := by
  unfold laws_heldIntS.f
  have key : ∀ (d i : Nat), i + d = n → Ev (fun k => laws_heldIntS.l0 k (upto k0 n) (k0 + i) (i : Int)) (k0 + n) := by
    intro d
    induction d with
    | zero =>
      intro i hi
      obtain rfl : i = n := by omega
      refine Ev.stop fun k => ?_
      simp only [laws_heldIntS.l0]
      rw [if_neg (by simp [upto_length])]
    | succ d ih =>
      intro i hi
      refine Ev.to _ (fun k => ?_) (ih (i + 1) (by omega))
      simp only [laws_heldIntS.l0]
      have hlen : ((upto k0 n).length : Int) = n := by simp [upto_length]
      have hi' : i < (upto k0 n).length := by rw [upto_length]; omega
      rw [hlen, if_pos (by omega), if_pos (by omega), rd_get _ i hi', upto_get k0 n i hi', if_pos rfl, w64 (x := k0 + i + 1) (by omega) (by omega), w64 (x := (i : Int) + 1) (by omega) (by omega)]
      rw [show k0 + (i : Int) + 1 = k0 + ((i + 1 : Nat) : Int) by omega, show (i : Int) + 1 = ((i + 1 : Nat) : Int) by omega]
  have := key n 0 (by omega)
  simpa using this
/-! A street and its text. -/
def sgnR (b : UInt8) : Bool := b == 114 || b == 98
def fits (kd p : Int) (s : ByteArray) : Bool := decide (0 ≤ kd ∧ kd ≤ 2) && (decide (1 ≤ p ∧ p ≤ 1000) && (deliv s && (decide ((s.size : Int) = p) && (decide (kd > 0) || !s.data.toList.any sgnR))))
theorem fits_deliv {kd p : Int} {s : ByteArray} (h : fits kd p s = true) : deliv s = true := by
  simp only [fits, Bool.and_eq_true] at h
  exact h.2.2.1
theorem fits_len {kd p : Int} {s : ByteArray} (h : fits kd p s = true) : 1 ≤ s.size ∧ s.size ≤ 60 := deliv_len (fits_deliv h)
theorem fits_l0 (kd p : Int) (s : ByteArray) (hs : s.size ≤ 1048576) : Ev (fun k => spec_poFits.l0 k s 0 kd p) (decide (kd ≠ 0) || !s.data.toList.any sgnR) := by
  have key : ∀ (d i : Nat), i + d = s.data.toList.length → Ev (fun k => spec_poFits.l0 k s (i : Int) kd p) (decide (kd ≠ 0) || !(s.data.toList.drop i).any sgnR) := by
    intro d
    induction d with
    | zero =>
      intro i hi
      have e : s.data.toList.drop i = [] := List.drop_of_length_le (by omega)
      rw [e]
      have e2 : (decide (kd ≠ 0) || !([] : List UInt8).any sgnR) = true := by simp
      rw [e2]
      exact Ev.stop fun k => by simp only [spec_poFits.l0]; rw [if_neg (by rw [len_data] at hi; omega)]
    | succ d ih =>
      intro i hi
      have hlt : i < s.data.toList.length := by omega
      have hsz : i < s.size := by rw [← len_data]; exact hlt
      have hw : wrap64 ((i : Int) + 1) = ((i + 1 : Nat) : Int) := by rw [w64 (by omega) (by omega)]; rfl
      rw [List.drop_eq_getElem_cons hlt, List.any_cons]
      by_cases hk : kd = 0
      · subst hk
        by_cases h1 : s.data.toList[i] = 114
        · have e : (decide ((0 : Int) ≠ 0) || !(sgnR s.data.toList[i] || (s.data.toList.drop (i + 1)).any sgnR)) = false := by rw [h1]; simp [sgnR]
          rw [e]
          exact Ev.stop fun k => by simp only [spec_poFits.l0, bt_get s i hlt, eq114]; rw [if_pos (by omega), if_pos trivial, if_pos (by omega), if_pos h1]
        by_cases h2 : s.data.toList[i] = 98
        · have e : (decide ((0 : Int) ≠ 0) || !(sgnR s.data.toList[i] || (s.data.toList.drop (i + 1)).any sgnR)) = false := by rw [h2]; simp [sgnR]
          rw [e]
          exact Ev.stop fun k => by simp only [spec_poFits.l0, bt_get s i hlt, eq114, eq98]; rw [if_pos (by omega), if_pos trivial, if_pos (by omega), if_neg h1, if_pos h2]
        · have e : sgnR s.data.toList[i] = false := by unfold sgnR; rw [Bool.or_eq_false_iff]; exact ⟨beq_eq_false_iff_ne.mpr h1, beq_eq_false_iff_ne.mpr h2⟩
          rw [e, Bool.false_or]
          refine Ev.to _ (fun k => ?_) (ih (i + 1) (by omega))
          simp only [spec_poFits.l0, bt_get s i hlt, eq114, eq98]
          rw [if_pos (by omega), if_pos trivial, if_pos (by omega), if_neg h1, if_neg h2, hw]
      · have e : (decide (kd ≠ 0) || !(sgnR s.data.toList[i] || (s.data.toList.drop (i + 1)).any sgnR)) = (decide (kd ≠ 0) || !(s.data.toList.drop (i + 1)).any sgnR) := by simp [hk]
        rw [e]
        refine Ev.to _ (fun k => ?_) (ih (i + 1) (by omega))
        simp only [spec_poFits.l0]
        rw [if_pos (by omega), if_neg hk, hw]
  have := key s.data.toList.length 0 (by omega)
  simpa using this
theorem poFits_ev (kd p : Int) (s : ByteArray) (hs : s.size ≤ 1048576) : Ev (fun k => spec_poFits.f k kd p s) (fits kd p s) := by
  unfold spec_poFits.f spec_nuGood.f fits
  simp only [l1In_f, Option.bind_some]
  have no : ∀ (b : Bool), b = true → Ev (fun k => spec_poFits.j0 k s b kd p) false := by
    intro b hb
    refine Ev.succ ?_
    simp only [spec_poFits.j0]
    exact Ev.itet hb (Ev.now _)
  by_cases h1 : 0 ≤ kd ∧ kd ≤ 2
  · have e1 : decide (0 ≤ kd ∧ kd ≤ 2) = true := decide_eq_true h1
    rw [e1]
    simp only [if_true, Option.bind_some, Bool.true_and]
    by_cases h2 : 1 ≤ p ∧ p ≤ 1000
    · have e2 : decide (1 ≤ p ∧ p ≤ 1000) = true := decide_eq_true h2
      rw [e2]
      simp only [Bool.true_and]
      refine Ev.itet (by trivial) (Ev.bind (poGood_ev s hs) ?_)
      cases hd : deliv s
      · exact Ev.itef (by simp) (no _ rfl)
      · refine Ev.itet rfl ?_
        by_cases h3 : (s.size : Int) = p
        · have e3 : ((s.size : Int) != p) = false := by simpa using h3
          have e4 : decide ((s.size : Int) = p) = true := decide_eq_true h3
          rw [e3, e4]
          simp only [Bool.true_and]
          refine Ev.succ ?_
          simp only [spec_poFits.j0]
          refine Ev.itef (by simp) ?_
          have e5 : decide (kd > 0) = decide (kd ≠ 0) := by apply decide_eq_decide.mpr; omega
          rw [e5]
          exact fits_l0 kd p s hs
        · have e3 : ((s.size : Int) != p) = true := by simpa using h3
          have e4 : decide ((s.size : Int) = p) = false := decide_eq_false h3
          rw [e4]
          exact no _ e3
    · have e2 : decide (1 ≤ p ∧ p ≤ 1000) = false := decide_eq_false h2
      rw [e2]
      exact Ev.itef (by simp) (no _ rfl)
  · have e1 : decide (0 ≤ kd ∧ kd ≤ 2) = false := decide_eq_false h1
    rw [e1, Bool.false_and]
    simp only [Bool.false_eq_true, if_false]
    exact no _ rfl
theorem any_list : ∀ l : List UInt8, Lib.containsAny l [114, 98] = l.any sgnR
  | [] => by simp [Lib.containsAny, Lib.indexAny]
  | b :: l => by
    have ih := any_list l
    have ge := Lib.indexAny_ge [114, 98] l
    unfold Lib.containsAny at *
    rw [List.any_cons, ← ih, Lib.indexAny]
    have hc : ([114, 98] : List UInt8).contains b = sgnR b := by rw [Bool.eq_iff_iff]; simp [sgnR]
    rw [hc]
    cases sgnR b
    · simp only [Bool.false_or]
      by_cases h : Lib.indexAny l [114, 98] = -1
      · rw [h]; decide
      · have h' : (Lib.indexAny l [114, 98] == -1) = false := by simpa using h
        rw [h', if_neg (by decide), if_neg (by decide)]
        exact decide_eq_decide.mpr (by omega)
    · simp
theorem any_rb (s : ByteArray) (h : deliv s = true) (hs : s.size ≤ 60) : strings_ContainsAny.f s ⟨#[114, 98]⟩ = some (s.data.toList.any sgnR) := by
  have ha : strings_ContainsAny.ascii s = true := by
    unfold strings_ContainsAny.ascii
    rw [List.all_eq_true]
    intro b hb
    have := deliv_mem h b hb
    simp only [sgn, Bool.or_eq_true, beq_iff_eq] at this
    rcases this with rfl | rfl | rfl | rfl <;> decide
  unfold strings_ContainsAny.f
  rw [if_pos ⟨by omega, by decide, ha, by decide⟩]
  congr 1
  exact any_list s.data.toList
theorem isStreetText_ev (kd p : Int) (s : ByteArray) (hs : s.size ≤ 1048576) : Ev (fun k => impl_isStreetText.f k kd p s) (fits kd p s) := by
  unfold impl_isStreetText.f impl_IsStreet.f fits
  simp only [within_f, Option.bind_some]
  by_cases h1 : 0 ≤ kd ∧ kd ≤ 2
  · have e1 : decide (0 ≤ kd ∧ kd ≤ 2) = true := decide_eq_true h1
    rw [e1]
    simp only [if_true, Option.bind_some, Bool.true_and]
    cases e2 : decide (1 ≤ p ∧ p ≤ 1000)
    · exact Ev.itef (by simp) (Ev.now _)
    · refine Ev.itet rfl (Ev.bind (AreDeliveries_ev s hs) ?_)
      cases hd : deliv s
      · exact Ev.itef (by simp) (Ev.now _)
      · refine Ev.itet rfl ?_
        by_cases h3 : (s.size : Int) = p
        · have e4 : decide ((s.size : Int) = p) = true := decide_eq_true h3
          rw [e4]
          simp only [Bool.true_and]
          refine Ev.itet h3.symm ?_
          by_cases hk : kd > 0
          · rw [decide_eq_true hk]
            exact Ev.itet hk (Ev.now _)
          · rw [decide_eq_false hk]
            refine Ev.itef hk ?_
            rw [any_rb s hd (deliv_len hd).2, Option.bind_some]
            exact Ev.now _
        · have e4 : decide ((s.size : Int) = p) = false := decide_eq_false h3
          rw [e4]
          exact Ev.itef (fun e => h3 e.symm) (Ev.now _)
  · have e1 : decide (0 ≤ kd ∧ kd ≤ 2) = false := decide_eq_false h1
    rw [e1, Bool.false_and]
    simp only [Bool.false_eq_true, if_false]
    exact Ev.now _
/-! A plot's houses. -/
theorem num_eq (k p o j : Int) : spec_nuNumber.f k p o j = some (impl_routeNumbers.num k p o j) := by
  have h := impl_routeNumbers.num_f k p o j
  rw [← h]
  unfold spec_nuNumber.f impl_numberAt.f
  rfl
theorem houses_step (s : ByteArray) (kd p : Int) (j i : Nat) (own : List Int) (acc : List Int) (o : Int) (hj : j < s.size) (hi : i < own.length) (ho : rd own (i : Int) = o) (h01 : o = 0 ∨ o = 1) (ha : acc.length < 17592186044416) (hl : own.length = 2) {r : List Int}
    (h : Ev (fun k => spec_poHouses.l0 k s (j : Int) (impl_routeNumbers.one kd p (bt s j) j o acc) own (own.length : Int) ((i + 1 : Nat) : Int) kd p) r) :
    Ev (fun k => spec_poHouses.l0 k s (j : Int) acc own (own.length : Int) (i : Int) kd p) r := by
  refine Ev.to _ (fun k => ?_) h
  have hw : wrap64 ((i : Int) + 1) = ((i + 1 : Nat) : Int) := by rw [w64 (by omega) (by omega)]; rfl
  simp only [spec_poHouses.l0]
  rw [if_pos (by omega), if_pos (by omega), if_pos (by omega), if_pos (by omega), if_pos (by omega), ho, num_eq, hw]
  simp only [Option.bind_some, if_pos ha]
  unfold impl_routeNumbers.one impl_routeNumbers.lr
  by_cases h98 : bt s j = 98
  · rw [if_pos h98, if_pos (Or.inl h98)]
  rw [if_neg h98]
  rcases h01 with rfl | rfl
  · by_cases h108 : bt s j = 108
    · rw [if_pos h108, if_pos rfl, if_pos (Or.inr (by rw [if_pos rfl]; exact h108))]
    · rw [if_neg h108, if_neg (show ¬ (bt s j = 98 ∨ bt s j = if (0 : Int) = 0 then 108 else 114) by rw [if_pos rfl]; rintro (e | e) <;> contradiction)]
      by_cases h114 : bt s j = 114
      · rw [if_pos h114, if_neg (by decide)]
      · rw [if_neg h114]
  · by_cases h114 : bt s j = 114
    · have h108 : ¬ bt s j = 108 := by rw [h114]; decide
      rw [if_neg h108, if_pos h114, if_pos rfl, if_pos (Or.inr (by rw [if_neg (by decide)]; exact h114))]
    · rw [if_neg (show ¬ (bt s j = 98 ∨ bt s j = if (1 : Int) = 0 then 108 else 114) by rw [if_neg (by decide)]; rintro (e | e) <;> contradiction)]
      by_cases h108 : bt s j = 108
      · rw [if_pos h108, if_neg (by decide), if_neg h114]
      · rw [if_neg h108, if_neg h114]
def hs (s : ByteArray) (kd p : Int) (j : Nat) (c : Int) (acc : List Int) : List Int := impl_routeNumbers.one kd p (bt s j) j (1 - c) (impl_routeNumbers.one kd p (bt s j) j c acc)
theorem houses_ev (s : ByteArray) (kd p : Int) (j : Nat) (c : Int) (hj : j < s.size) (hc : c = 0 ∨ c = 1) : Ev (fun k => spec_poHouses.f k kd p s (j : Int) c) (hs s kd p j c []) := by
  unfold spec_poHouses.f
  simp only [Option.bind_some]
  have hw : wrap64 (1 - c) = 1 - c := w64 (by omega) (by omega)
  rw [hw]
  have h1 := impl_routeNumbers.one_len kd p (bt s j) j c []
  refine houses_step s kd p j 0 [c, 1 - c] [] c hj (by simp) rfl hc (by simp) rfl ?_
  refine houses_step s kd p j 1 [c, 1 - c] _ (1 - c) hj (by simp) rfl (by omega) (by simp at h1; omega) rfl ?_
  exact Ev.stop fun k => by simp only [spec_poHouses.l0]; rw [if_neg (by simp)]; rfl
theorem one_app (kd p b j o : Int) (acc : List Int) : impl_routeNumbers.one kd p b j o acc = acc ++ impl_routeNumbers.one kd p b j o [] := by
  unfold impl_routeNumbers.one
  split
  · rfl
  · simp
theorem hs_app (s : ByteArray) (kd p : Int) (j : Nat) (c : Int) (acc : List Int) : acc ++ hs s kd p j c [] = hs s kd p j c acc := by
  unfold hs
  rw [one_app _ _ _ _ _ (impl_routeNumbers.one kd p (bt s j) j c acc), one_app _ _ _ _ _ (impl_routeNumbers.one kd p (bt s j) j c []), one_app _ _ _ _ c acc, List.append_assoc]
/-! Numbers put into a rising list. -/
def ins : List Int → Int → List Int
  | [], n => [n]
  | x :: xs, n => if x < n then x :: ins xs n else if x = n then x :: xs else n :: x :: xs
theorem ins_mem : ∀ (l : List Int) (n y : Int), y ∈ ins l n ↔ y = n ∨ y ∈ l
  | [], n, y => by simp [ins]
  | x :: xs, n, y => by
    unfold ins
    split
    · rw [List.mem_cons, ins_mem xs n y, List.mem_cons]
      constructor
      · rintro (h | h | h)
        · exact .inr (.inl h)
        · exact .inl h
        · exact .inr (.inr h)
      · rintro (h | h | h)
        · exact .inr (.inl h)
        · exact .inl h
        · exact .inr (.inr h)
    · split
      · rename_i h
        subst h
        simp
      · simp
theorem ins_rise : ∀ (l : List Int) (n : Int), l.Pairwise (· < ·) → (ins l n).Pairwise (· < ·)
  | [], n, _ => List.pairwise_singleton _ _
  | x :: xs, n, h => by
    obtain ⟨h1, h2⟩ := List.pairwise_cons.1 h
    unfold ins
    split
    · refine List.pairwise_cons.2 ⟨fun y hy => ?_, ins_rise xs n h2⟩
      rcases (ins_mem xs n y).1 hy with rfl | hy
      · assumption
      · exact h1 y hy
    · split
      · exact h
      · refine List.pairwise_cons.2 ⟨fun y hy => ?_, h⟩
        rcases List.mem_cons.1 hy with rfl | hy
        · omega
        · have := h1 y hy; omega
theorem ins_len : ∀ (l : List Int) (n : Int), (ins l n).length ≤ l.length + 1
  | [], n => Nat.le_refl _
  | x :: xs, n => by
    unfold ins
    have := ins_len xs n
    split
    · simp; omega
    · split <;> simp
theorem foldl_ins : ∀ (hs out : List Int), out.Pairwise (· < ·) → (hs.foldl ins out).Pairwise (· < ·) ∧ (∀ y, y ∈ hs.foldl ins out ↔ y ∈ out ∨ y ∈ hs) ∧ (hs.foldl ins out).length ≤ out.length + hs.length
  | [], out, h => ⟨h, by simp, by simp⟩
  | n :: hs, out, h => by
    obtain ⟨h1, h2, h3⟩ := foldl_ins hs (ins out n) (ins_rise out n h)
    have h4 := ins_len out n
    refine ⟨h1, fun y => ?_, ?_⟩
    · rw [List.foldl_cons, h2, ins_mem, List.mem_cons]
      constructor
      · rintro ((h | h) | h)
        · exact .inr (.inl h)
        · exact .inl h
        · exact .inr (.inr h)
      · rintro (h | h | h)
        · exact .inl (.inr h)
        · exact .inl (.inl h)
        · exact .inr h
    · simp only [List.foldl_cons, List.length_cons]; omega
theorem rise_nodup {l : List Int} (h : l.Pairwise (· < ·)) : l.Nodup := h.imp (fun h e => by omega)
/-- Two rising lists with the same members are one. -/
theorem rise_ext {l m : List Int} (hl : l.Pairwise (· < ·)) (hm : m.Pairwise (· < ·)) (h : ∀ y, y ∈ l ↔ y ∈ m) : l = m :=
  List.Perm.eq_of_pairwise (le := fun x y => x < y) (fun a b _ _ h1 h2 => by omega) hl hm ((List.perm_ext_iff_of_nodup (rise_nodup hl) (rise_nodup hm)).2 h)
theorem l1Put_ev (l : List Int) (hl : l.length ≤ 1048576) (n : Int) : Ev (fun k => spec_l1Put.f k l n) (ins l n) := by
  unfold spec_l1Put.f
  have key : ∀ (d i : Nat), i + d = l.length → Ev (fun k => spec_l1Put.l0 k l n (i : Int)) (l.take i ++ ins (l.drop i) n) := by
    intro d
    induction d with
    | zero =>
      intro i hi
      refine Ev.succ ?_
      simp only [spec_l1Put.l0, Option.bind_some]
      rw [List.drop_eq_nil_of_le (by omega), Int.toNat_natCast, List.drop_eq_nil_of_le (by omega)]
      refine Ev.itef (by omega) (Ev.itet (by omega) (Ev.itet (by omega) (Ev.itet (by simp; omega) (Ev.itet (by simp; omega) (Ev.itet (by simp; omega) ?_)))))
      simpa [ins] using Ev.now (l.take i ++ [n])
    | succ d ih =>
      intro i hi
      have hlt : i < l.length := by omega
      have ih := ih (i + 1) (by omega)
      have hw : wrap64 ((i : Int) + 1) = ((i + 1 : Nat) : Int) := by rw [w64 (by omega) (by omega)]; rfl
      refine Ev.succ ?_
      simp only [spec_l1Put.l0, Option.bind_some]
      rw [rd_get l i hlt, hw, Int.toNat_natCast]
      refine Ev.itet (by omega) (Ev.itet (by omega) ?_)
      rw [List.drop_eq_getElem_cons hlt]
      unfold ins
      by_cases h1 : l[i] < n
      · rw [if_pos h1]
        refine Ev.itet h1 ?_
        have e : l.take (i + 1) ++ ins (l.drop (i + 1)) n = l.take i ++ l[i] :: ins (l.drop (i + 1)) n := by rw [List.take_succ_eq_append_getElem hlt, List.append_assoc]; rfl
        rw [e] at ih
        exact ih
      · rw [if_neg h1]
        refine Ev.itef h1 ?_
        have e0 : l.take i ++ l[i] :: l.drop (i + 1) = l := by rw [← List.drop_eq_getElem_cons hlt]; exact List.take_append_drop i l
        by_cases h2 : l[i] = n
        · refine Ev.itet h2 ?_
          rw [if_pos h2, e0]
          exact Ev.now _
        · refine Ev.itef h2 ?_
          rw [if_neg h2]
          refine (Ev.itet (by omega) (Ev.itet (by simp; omega) (Ev.itet (by simp; omega) (Ev.itet (by simp; omega) ?_))))
          have e : [] ++ l.take i ++ [n] ++ (l[i] :: l.drop (i + 1)) = l.take i ++ n :: l[i] :: l.drop (i + 1) := by simp
          rw [e]
          exact Ev.now _
  have := key l.length 0 (by omega)
  simpa using this
/-! The numbers of all houses that get post. -/
theorem num_val (kd p o j : Int) (hp : 1 ≤ p ∧ p ≤ 1000) (hj : 0 ≤ j ∧ j < p) (ho : o = 0 ∨ o = 1) : impl_routeNumbers.num kd p o j = if kd = 1 then 2 * j + 1 + o else if o = 1 then 2 * p - j else j + 1 := by
  unfold impl_routeNumbers.num impl_numberAt.f
  rw [w64 (x := 2 * j) (by omega) (by omega), w64 (x := 2 * j + 1) (by omega) (by omega), w64 (x := 2 * j + 1 + o) (by omega) (by omega), w64 (x := 2 * p) (by omega) (by omega), w64 (x := 2 * p - j) (by omega) (by omega), w64 (x := j + 1) (by omega) (by omega)]
  split
  · rfl
  · split <;> rfl
theorem num_inj (kd p : Int) (hp : 1 ≤ p ∧ p ≤ 1000) (o j o' j' : Int) (hj : 0 ≤ j ∧ j < p) (ho : o = 0 ∨ o = 1) (hj' : 0 ≤ j' ∧ j' < p) (ho' : o' = 0 ∨ o' = 1) (h : impl_routeNumbers.num kd p o j = impl_routeNumbers.num kd p o' j') : o = o' ∧ j = j' := by
  rw [num_val kd p o j hp hj ho, num_val kd p o' j' hp hj' ho'] at h
  split at h
  · omega
  · split at h <;> split at h <;> omega
/-- The numbers at the first m plots. -/
def A (kd p : Int) (s : ByteArray) (m : Nat) : List Int := impl_routeNumbers.acc kd p s (List.replicate s.size 0) m
theorem side0 (n : Nat) : ∀ j, j ≤ n → impl_routeNumbers.side (List.replicate n 0) j = 0
  | 0, _ => rfl
  | j + 1, h => by
    show rd (List.replicate n 0) (j : Int) = 0
    rw [rd_get _ _ (by simp; omega)]
    simp
theorem A_succ (kd p : Int) (s : ByteArray) (m : Nat) (hm : m ≤ s.size) : A kd p s (m + 1) = A kd p s m ++ hs s kd p m 0 [] := by
  rw [hs_app]
  unfold A hs
  rw [impl_routeNumbers.acc, side0 s.size m hm]
theorem one_mem (kd p b j o x : Int) (acc : List Int) : x ∈ impl_routeNumbers.one kd p b j o acc ↔ x ∈ acc ∨ ((b = 98 ∨ b = impl_routeNumbers.lr o) ∧ x = impl_routeNumbers.num kd p o j) := by
  unfold impl_routeNumbers.one
  split
  · rename_i h
    simp [h]
  · rename_i h
    simp [h]
theorem A_mem (kd p : Int) (s : ByteArray) (x : Int) : ∀ m, m ≤ s.size → (x ∈ A kd p s m ↔ ∃ j : Nat, ∃ o : Int, j < m ∧ (o = 0 ∨ o = 1) ∧ (bt s j = 98 ∨ bt s j = impl_routeNumbers.lr o) ∧ x = impl_routeNumbers.num kd p o j)
  | 0, _ => by simp [A, impl_routeNumbers.acc]
  | m + 1, hm => by
    have ih := A_mem kd p s x m (by omega)
    rw [A_succ kd p s m (by omega), hs_app]
    unfold hs
    rw [one_mem, one_mem, ih]
    constructor
    · rintro ((⟨j, o, h1, h2, h3, h4⟩ | ⟨h3, h4⟩) | ⟨h3, h4⟩)
      · exact ⟨j, o, by omega, h2, h3, h4⟩
      · exact ⟨m, 0, by omega, .inl rfl, h3, h4⟩
      · exact ⟨m, 1, by omega, .inr rfl, h3, h4⟩
    · rintro ⟨j, o, h1, h2, h3, h4⟩
      rcases Nat.lt_or_eq_of_le (Nat.le_of_lt_succ h1) with h | rfl
      · exact .inl (.inl ⟨j, o, h, h2, h3, h4⟩)
      · rcases h2 with rfl | rfl
        · exact .inl (.inr ⟨h3, h4⟩)
        · exact .inr ⟨h3, h4⟩
theorem one_nodup {kd p b j o : Int} {acc : List Int} (h : acc.Nodup) (hn : impl_routeNumbers.num kd p o j ∉ acc) : (impl_routeNumbers.one kd p b j o acc).Nodup := by
  unfold impl_routeNumbers.one
  split
  · exact List.nodup_append.2 ⟨h, by simp, fun x hx y hy e => hn (by simp at hy; subst hy; subst e; exact hx)⟩
  · exact h
theorem A_nodup (kd p : Int) (s : ByteArray) (hp : (s.size : Int) = p) (hs60 : 1 ≤ s.size ∧ s.size ≤ 60) : ∀ m, m ≤ s.size → (A kd p s m).Nodup
  | 0, _ => by simp [A, impl_routeNumbers.acc]
  | m + 1, hm => by
    have ih := A_nodup kd p s hp hs60 m (by omega)
    rw [A_succ kd p s m (by omega), hs_app]
    unfold hs
    have no : ∀ o : Int, (o = 0 ∨ o = 1) → impl_routeNumbers.num kd p o m ∉ A kd p s m := by
      intro o ho hx
      obtain ⟨j, o', h1, h2, _, h4⟩ := (A_mem kd p s _ m (by omega)).1 hx
      have := num_inj kd p (by omega) o m o' j (by omega) ho (by omega) h2 h4
      omega
    refine one_nodup (one_nodup ih (no 0 (.inl rfl))) ?_
    rw [one_mem]
    rintro (h | ⟨_, h⟩)
    · exact no _ (.inr rfl) h
    · have := num_inj kd p (by omega) _ m 0 m (by omega) (.inr rfl) (by omega) (.inl rfl) h
      omega
theorem A_len (kd p : Int) (s : ByteArray) (m : Nat) : (A kd p s m).length ≤ 2 * m := impl_routeNumbers.acc_len _ _ _ _ _
/-- All numbers, rising. -/
def R (kd p : Int) (s : ByteArray) : List Int := impl_NumbersOf.sorted (A kd p s s.size)
theorem R_perm (kd p : Int) (s : ByteArray) : (R kd p s).Perm (A kd p s s.size) := List.mergeSort_perm _ _
theorem R_len (kd p : Int) (s : ByteArray) : (R kd p s).length ≤ 2 * s.size := by rw [(R_perm kd p s).length_eq]; exact A_len kd p s s.size
theorem R_rise (kd p : Int) (s : ByteArray) (hp : (s.size : Int) = p) (hs60 : 1 ≤ s.size ∧ s.size ≤ 60) : (R kd p s).Pairwise (· < ·) := by
  have h1 : (R kd p s).Pairwise (· ≤ ·) := by
    have := List.pairwise_mergeSort (le := fun x y : Int => decide (x ≤ y)) (fun a b c h1 h2 => by simp only [decide_eq_true_eq] at *; omega) (fun a b => by simp only [Bool.or_eq_true, decide_eq_true_eq]; omega) (A kd p s s.size)
    exact this.imp (fun h => by simpa using h)
  have h2 : (R kd p s).Nodup := (R_perm kd p s).symm.nodup (A_nodup kd p s hp hs60 _ (Nat.le_refl _))
  exact List.Pairwise.imp₂ (fun a b (h1 : a ≤ b) (h2 : a ≠ b) => by omega) h1 h2
theorem R_mem (kd p : Int) (s : ByteArray) (x : Int) : x ∈ R kd p s ↔ x ∈ A kd p s s.size := (R_perm kd p s).mem_iff
theorem puts_ev : ∀ (hs out : List Int), out.length + hs.length ≤ 1048576 → Ev (fun k => spec_NumbersOf.puts k out hs) (hs.foldl ins out)
  | [], out, _ => Ev.now _
  | n :: hs, out, h => by
    have hi := ins_len out n
    simp only [List.length_cons] at h
    simp only [spec_NumbersOf.puts]
    exact Ev.bind (l1Put_ev out (by omega) n) (puts_ev hs (ins out n) (by omega))
theorem hs_len (s : ByteArray) (kd p : Int) (j : Nat) : (hs s kd p j 0 []).length ≤ 2 := by
  have h1 := impl_routeNumbers.one_len kd p (bt s j) j 0 []
  have h2 := impl_routeNumbers.one_len kd p (bt s j) j (1 - 0) (impl_routeNumbers.one kd p (bt s j) j 0 [])
  unfold hs
  simp only [List.length_nil] at h1
  omega
theorem rows_ev (kd p : Int) (s : ByteArray) (hs60 : s.size ≤ 60) : ∀ m, m ≤ s.size → Ev (fun k => spec_NumbersOf.rows k kd p s m) ((A kd p s m).foldl ins [])
  | 0, _ => Ev.now _
  | m + 1, hm => by
    have ih := rows_ev kd p s hs60 m (by omega)
    have hl := hs_len s kd p m
    have hA := A_len kd p s m
    have hf := (foldl_ins (A kd p s m) [] List.Pairwise.nil).2.2
    simp only [List.length_nil] at hf
    rw [A_succ kd p s m (by omega), List.foldl_append]
    simp only [spec_NumbersOf.rows]
    exact Ev.bind ih (Ev.bind (houses_ev s kd p m 0 (by omega) (.inl rfl)) (Ev.itet (by omega) (puts_ev _ _ (by omega))))
theorem fold_R (kd p : Int) (s : ByteArray) (hp : (s.size : Int) = p) (hs60 : 1 ≤ s.size ∧ s.size ≤ 60) : (A kd p s s.size).foldl ins [] = R kd p s := by
  obtain ⟨h1, h2, _⟩ := foldl_ins (A kd p s s.size) [] List.Pairwise.nil
  exact rise_ext h1 (R_rise kd p s hp hs60) (fun y => by rw [h2, R_mem]; simp)
theorem fits_size {kd p : Int} {s : ByteArray} (h : fits kd p s = true) : (s.size : Int) = p := by
  simp only [fits, Bool.and_eq_true, decide_eq_true_eq] at h
  exact h.2.2.2.1
def resN (kd p : Int) (s : ByteArray) : List Int × Bool := if fits kd p s then (R kd p s, true) else ([], false)
theorem specN_ev (kd p : Int) (s : ByteArray) (hs : s.size ≤ 1048576) : Ev (fun k => spec_NumbersOf.f k kd p s) (resN kd p s) := by
  unfold spec_NumbersOf.f resN
  refine Ev.bind (poFits_ev kd p s hs) ?_
  cases hd : fits kd p s
  · exact Ev.itef (by simp) (Ev.now _)
  · have h60 := fits_len hd
    have ha : spec_NumbersOf.ascii s = true := by
      unfold spec_NumbersOf.ascii
      rw [List.all_eq_true]
      intro b hb
      have := deliv_mem (fits_deliv hd) b hb
      simp only [sgn, Bool.or_eq_true, beq_iff_eq] at this
      rcases this with rfl | rfl | rfl | rfl <;> decide
    have hr := rows_ev kd p s h60.2 s.size (Nat.le_refl _)
    rw [fold_R kd p s (fits_size hd) h60] at hr
    exact Ev.itet rfl (Ev.itet ha (Ev.bind hr (Ev.now _)))
theorem implN_ev (kd p : Int) (s : ByteArray) (hs : s.size ≤ 1048576) : Ev (fun k => impl_NumbersOf.f k kd p s) (resN kd p s) := by
  unfold impl_NumbersOf.f resN
  refine Ev.bind (isStreetText_ev kd p s hs) ?_
  cases hd : fits kd p s
  · exact Ev.itef (by simp) (Ev.now _)
  · have e : impl_routeNumbers.f kd p s (List.replicate s.size 0) = some (A kd p s s.size) := by
      unfold impl_routeNumbers.f A
      rw [if_pos ⟨hs, List.length_replicate .., by rw [List.all_eq_true]; intro x hx; have := List.eq_of_mem_replicate hx; subst this; rfl⟩]
    refine Ev.itet rfl (Ev.itet hs ?_)
    rw [e, Option.bind_some]
    exact Ev.now _
theorem resN_len (kd p : Int) (s : ByteArray) (hs : s.size ≤ 1048576) : (resN kd p s).1.length ≤ 1048576 := by
  unfold resN
  cases hd : fits kd p s
  · simp
  · have h60 := fits_len hd
    have := R_len kd p s
    simp only [if_true]
    omega
theorem main : laws_FnExactNumbersOf.Pure := by
  intro kd p s _ _ _
  refine Ev.rounds ?_
  unfold laws_FnExactNumbersOf.f
  by_cases h : (s.size : Int) > 1048576
  · exact Ev.itet h (Ev.now _)
  · have hs : s.size ≤ 1048576 := by omega
    have hr := resN_len kd p s hs
    simp only [laws_toStreet.f, Option.bind_some]
    refine Ev.itef h (Ev.bind (specN_ev kd p s hs) (Ev.bind (implN_ev kd p s hs) (Ev.bind (eqIntS_ev _ hr) (Ev.itet rfl (Ev.succ ?_)))))
    simp only [laws_FnExactNumbersOf.j0, laws_toStreet.f, Option.bind_some]
    refine Ev.itef (by simp) (Ev.bind (markIntS_ev _ hr 1 (by omega) (by omega)) (Ev.bind (heldIntS_ev _ hr 1 (by omega) (by omega)) (Ev.itef (by simp; omega) (Ev.itet rfl (Ev.bind (implN_ev kd p s hs) (Ev.bind (eqIntS_ev _ hr) (Ev.itet rfl (Ev.succ ?_))))))))
    simp only [laws_FnExactNumbersOf.j1]
    exact Ev.itef (by simp) (Ev.bind (heldIntS_ev _ hr 1 (by omega) (by omega)) (Ev.itef (by simp; omega) (Ev.itet rfl (Ev.now _))))
end NumbersOf
theorem FnExactNumbersOf : laws_FnExactNumbersOf.Pure := NumbersOf.main
end Go.Proofs.Ytpopeedfgenebaa.Pure
