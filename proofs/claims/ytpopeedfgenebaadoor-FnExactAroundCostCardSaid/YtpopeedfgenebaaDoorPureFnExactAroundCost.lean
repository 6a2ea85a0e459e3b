/- The way around: both sides, for all texts. -/
import Derived.Test.YtpopeedfgenebaaDoorPFnExactAroundCostx2
import Derived.Test.YtpopeedfgenebaaDoorKit
namespace Go.Proofs.YtpopeedfgenebaaDoor.Pure
open Go.RowKit Go.Proofs.YtpopeedfgenebaaDoorW.PrintWords Go.Proofs.YtpopeedfgenebaaDoorW.PrintLast Go.Proofs.YtpopeedfgenebaaDoorW.PrintMore Go.Proofs.YtpopeedfgenebaaDoorKit
open Go.Proofs.YtpopeedfgenebaaDoor.PFnExactAroundCost
namespace AroundCost
theorem ge_le (a b c : Int) : (if a ≥ b then some (decide (a ≤ c)) else some false) = some (decide (b ≤ a ∧ a ≤ c)) := by
  by_cases h : a ≥ b
  · rw [if_pos h]; simp [show b ≤ a from h]
  · rw [if_neg h]; simp; omega
theorem l1In_f (a b c : Int) : spec_l1In.f a b c = some (decide (b ≤ a ∧ a ≤ c)) := by unfold spec_l1In.f; exact ge_le a b c
theorem within_f (a b c : Int) : impl_within.f a b c = some (decide (b ≤ a ∧ a ≤ c)) := by unfold impl_within.f; exact ge_le a b c
/-! Texts of deliveries. -/
def sgn (b : UInt8) : Bool := b == 108 || (b == 114 || (b == 98 || b == 45))
def deliv (s : ByteArray) : Bool := decide (1 ≤ (s.size : Int) ∧ (s.size : Int) ≤ 60) && s.data.toList.all sgn
theorem deliv_len {s : ByteArray} (h : deliv s = true) : 1 ≤ s.size ∧ s.size ≤ 60 := by
  simp only [deliv, Bool.and_eq_true, decide_eq_true_eq] at h; omega
theorem deliv_mem {s : ByteArray} (h : deliv s = true) : ∀ b ∈ s.data.toList, sgn b = true := by
  simp only [deliv, Bool.and_eq_true, List.all_eq_true] at h
  exact h.2
theorem eq108 (b : UInt8) : ((b.toNat : Int) = 108) ↔ b = 108 := byte_eq b 108 (by decide)
theorem eq114 (b : UInt8) : ((b.toNat : Int) = 114) ↔ b = 114 := byte_eq b 114 (by decide)
theorem eq98 (b : UInt8) : ((b.toNat : Int) = 98) ↔ b = 98 := byte_eq b 98 (by decide)
theorem eq45 (b : UInt8) : ((b.toNat : Int) = 45) ↔ b = 45 := byte_eq b 45 (by decide)
theorem poGood_l0 (s : ByteArray) (hs : s.size ≤ 1048576) : Ev (fun k => spec_poGood.l0 k s 0) (s.data.toList.all sgn) := by
  rw [← runL_all _ s.data.toList 0]
  refine ev_loop0 s.data.toList (fun k i (_ : Unit) => spec_poGood.l0 k s i) _ _ (fun _ _ => True) () trivial (fun i u hi _ => ?_) (fun u _ => ?_)
  · have hi' : i < s.size := by rw [← len_data]; exact hi
    have hw : wrap64 ((i : Int) + 1) = (i : Int) + 1 := w64 (by omega) (by omega)
    have key : ∀ k, spec_poGood.l0 (k + 1) s (i : Int) = if sgn s.data.toList[i] = true then spec_poGood.l0 k s ((i : Int) + 1) else some false := by
      intro k
      simp only [spec_poGood.l0]
      rw [if_pos (by omega), if_pos (by omega), bt_get s i hi, hw]
      simp only [eq108, eq114, eq98, eq45, sgn, Bool.or_eq_true, beq_iff_eq]
      by_cases h1 : s.data.toList[i] = 108
      · rw [if_pos h1, if_pos (Or.inl h1)]
      rw [if_neg h1]
      by_cases h2 : s.data.toList[i] = 114
      · rw [if_pos h2, if_pos (Or.inr (Or.inl h2))]
      rw [if_neg h2]
      by_cases h3 : s.data.toList[i] = 98
      · rw [if_pos h3, if_pos (Or.inr (Or.inr (Or.inl h3)))]
      rw [if_neg h3]
      by_cases h4 : s.data.toList[i] = 45
      · rw [if_pos h4, if_pos (Or.inr (Or.inr (Or.inr h4)))]
      · rw [if_neg h4, if_neg (by rintro (h | h | h | h) <;> contradiction)]
    constructor
    · intro s' e
      cases hp : sgn s.data.toList[i]
      · rw [hp] at e; simp at e
      · exact ⟨trivial, fun r hr => Ev.to _ (fun k => by rw [key, hp, if_pos rfl]) hr⟩
    · intro r e
      cases hp : sgn s.data.toList[i]
      · rw [hp] at e
        cases e
        exact Ev.stop fun k => by rw [key, hp]; rfl
      · rw [hp] at e; simp at e
  · exact Ev.stop fun k => by simp only [spec_poGood.l0]; rw [if_neg (by rw [len_data]; omega)]
theorem poGood_ev (s : ByteArray) (hs : s.size ≤ 1048576) : Ev (fun k => spec_poGood.f k s) (deliv s) := by
  unfold spec_poGood.f deliv
  simp only [l1In_f, Option.bind_some]
  cases decide (1 ≤ (s.size : Int) ∧ (s.size : Int) ≤ 60)
  · exact Ev.itef (by simp) (Ev.now _)
  · exact Ev.itet rfl (poGood_l0 s hs)
theorem index_sgn (b : UInt8) : (Lib.indexByte [108, 114, 98, 45] b < 0) ↔ ¬ sgn b = true := by
  have h1 : Lib.indexByte [45] b = if 45 = b then 0 else -1 := by simp [Lib.indexByte]
  simp only [Lib.indexByte, sgn, Bool.or_eq_true, beq_iff_eq]
  by_cases e1 : (108 : UInt8) = b
  · subst e1; simp
  by_cases e2 : (114 : UInt8) = b
  · subst e2; simp
  by_cases e3 : (98 : UInt8) = b
  · subst e3; simp
  by_cases e4 : (45 : UInt8) = b
  · subst e4; simp
  · simp [e1, e2, e3, e4, Ne.symm e1, Ne.symm e2, Ne.symm e3, Ne.symm e4]
theorem AreDeliveries_ev (s : ByteArray) (hs : s.size ≤ 1048576) : Ev (fun k => impl_AreDeliveries.f k s) (deliv s) := by
  unfold impl_AreDeliveries.f
  have e : deliv s = runL (fun _ x (_ : Unit) => if sgn x then (Sum.inl () : Unit ⊕ Bool) else .inr false) (fun _ => decide (1 ≤ (s.size : Int) ∧ (s.size : Int) ≤ 60)) 0 s.data.toList () := by
    have gen : ∀ (l : List UInt8) (i : Nat) (c : Bool), runL (fun _ x (_ : Unit) => if sgn x then (Sum.inl () : Unit ⊕ Bool) else .inr false) (fun _ => c) i l () = (c && l.all sgn) := by
      intro l
      induction l with
      | nil => intro i c; simp [runL]
      | cons x xs ih =>
        intro i c
        simp only [runL, List.all_cons]
        cases sgn x
        · simp
        · simp only [if_true, Bool.true_and]; exact ih _ _
    rw [gen]
    rfl
  rw [e]
  refine ev_loop0 s.data.toList (fun k i (_ : Unit) => impl_AreDeliveries.l0 k s (s.size : Int) i) _ _ (fun _ _ => True) () trivial (fun i u hi _ => ?_) (fun u _ => ?_)
  · have hi' : i < s.size := by rw [← len_data]; exact hi
    have hw : wrap64 ((i : Int) + 1) = (i : Int) + 1 := w64 (by omega) (by omega)
    have key : ∀ k, impl_AreDeliveries.l0 (k + 1) s (s.size : Int) (i : Int) = if sgn s.data.toList[i] = true then impl_AreDeliveries.l0 k s (s.size : Int) ((i : Int) + 1) else some false := by
      intro k
      simp only [impl_AreDeliveries.l0, strings_IndexByte.f, Option.bind_some]
      rw [if_pos (by omega), if_pos (by omega), if_pos (by omega), bt_get s i hi, byte_back, hw]
      by_cases hp : sgn s.data.toList[i] = true
      · rw [if_pos hp, if_neg (fun h => (index_sgn _).1 h hp)]
      · rw [if_neg hp, if_pos ((index_sgn _).2 hp)]
    constructor
    · intro s' e
      cases hp : sgn s.data.toList[i]
      · rw [hp] at e; simp at e
      · exact ⟨trivial, fun r hr => Ev.to _ (fun k => by rw [key, hp, if_pos rfl]) hr⟩
    · intro r e
      cases hp : sgn s.data.toList[i]
      · rw [hp] at e
        cases e
        exact Ev.stop fun k => by rw [key, hp]; rfl
      · rw [hp] at e; simp at e
  · exact Ev.stop fun k => by simp only [impl_AreDeliveries.l0, within_f, Option.bind_some]; rw [if_neg (by rw [len_data]; omega)]
/-! The way around: the last plot with something for, and whether there is something on the right. -/
def fr (s : ByteArray) (i : Nat) : Int := mx 0 (strings_LastIndexAny.down s.data.toList [108, 114, 98] i)
def rt (s : ByteArray) (i : Nat) : Bool := (s.data.toList.take i).any fun b => b == 114 || b == 98
theorem fr_le (s : ByteArray) : ∀ i : Nat, 0 ≤ fr s i ∧ fr s i ≤ i
  | 0 => by unfold fr strings_LastIndexAny.down mx; simp
  | i + 1 => by
    have ih := fr_le s i
    unfold fr at ih ⊢
    unfold strings_LastIndexAny.down
    split
    · split
      · unfold mx; split <;> omega
      · omega
    · omega
theorem fr_step (s : ByteArray) (i : Nat) (x : UInt8) (hx : s.data.toList[i]? = some x) (hs : sgn x = true) : fr s (i + 1) = if x = 45 then fr s i else (i : Int) := by
  have hc : ([108, 114, 98] : List UInt8).contains x = !(x == 45) := by
    simp only [sgn, Bool.or_eq_true, beq_iff_eq] at hs
    rcases hs with rfl | rfl | rfl | rfl <;> rfl
  unfold fr
  by_cases h : x = 45
  · rw [if_pos h, strings_LastIndexAny.miss hx (by rw [hc, h]; rfl)]
  · rw [if_neg h, strings_LastIndexAny.hit hx (by rw [hc]; simpa using h)]
    unfold mx
    split <;> omega
theorem rt_step (s : ByteArray) (i : Nat) (h : i < s.data.toList.length) : rt s (i + 1) = (rt s i || (s.data.toList[i] == 114 || s.data.toList[i] == 98)) := by
  unfold rt
  rw [List.take_succ_eq_append_getElem h, List.any_append]
  simp
theorem rt_zero (s : ByteArray) : rt s 0 = false := by simp [rt]
theorem any_rb : ∀ l : List UInt8, Lib.containsAny l [114, 98] = l.any fun b => b == 114 || b == 98
  | [] => by simp [Lib.containsAny, Lib.indexAny]
  | b :: l => by
    have ih := any_rb l
    have ge := Lib.indexAny_ge [114, 98] l
    unfold Lib.containsAny at *
    rw [List.any_cons, ← ih, Lib.indexAny]
    have hc : ([114, 98] : List UInt8).contains b = (b == 114 || b == 98) := by rw [Bool.eq_iff_iff]; simp
    rw [hc]
    cases (b == 114 || b == 98)
    · simp only [Bool.false_or]
      by_cases h : Lib.indexAny l [114, 98] = -1
      · rw [h]; decide
      · have h' : (Lib.indexAny l [114, 98] == -1) = false := by simpa using h
        rw [h', if_neg (by decide), if_neg (by decide)]
        exact decide_eq_decide.mpr (by omega)
    · simp
def cost (s : ByteArray) (w : Int) : Int := if rt s s.size = true then 2 * fr s s.size + 2 * w else 2 * fr s s.size
theorem wide_s (p : Int) : spec_poWide.f p = some (decide (0 ≤ p ∧ p ≤ 1000)) := by unfold spec_poWide.f; rw [l1In_f, Option.bind_some]
theorem wide_i (p : Int) : impl_isWide.f p = some (decide (0 ≤ p ∧ p ≤ 1000)) := by unfold impl_isWide.f; rw [within_f, Option.bind_some]
theorem poAround_ev (s : ByteArray) (w : Int) (hd : deliv s = true) (hw : 0 ≤ w ∧ w ≤ 1000) : Ev (fun k => spec_poAround.f k s w) (cost s w) := by
  have hl := deliv_len hd
  unfold spec_poAround.f
  have key : ∀ (d i : Nat), i + d = s.size → Ev (fun k => spec_poAround.l0 k s w (fr s i) (rt s i) (i : Int)) (cost s w) := by
    intro d
    induction d with
    | zero =>
      intro i hi
      obtain rfl : i = s.size := by omega
      have hf := fr_le s s.size
      refine Ev.succ ?_
      simp only [spec_poAround.l0]
      unfold cost
      rw [w64 (x := 2 * fr s s.size) (by omega) (by omega), w64 (x := 2 * w) (by omega) (by omega), w64 (x := 2 * fr s s.size + 2 * w) (by omega) (by omega)]
      refine Ev.itef (by omega) ?_
      cases rt s s.size
      · exact Ev.itef (by simp) (Ev.now _)
      · exact Ev.itet rfl (Ev.now _)
    | succ d ih =>
      intro i hi
      have hlt : i < s.data.toList.length := by rw [len_data]; omega
      have ih := ih (i + 1) (by omega)
      have hmem := deliv_mem hd s.data.toList[i] (List.getElem_mem hlt)
      have hget : s.data.toList[i]? = some s.data.toList[i] := List.getElem?_eq_getElem hlt
      rw [fr_step s i _ hget hmem, rt_step s i hlt] at ih
      refine Ev.succ ?_
      simp only [spec_poAround.l0]
      rw [bt_get s i hlt, w64 (x := (i : Int) + 1) (by omega) (by omega), show (i : Int) + 1 = ((i + 1 : Nat) : Int) by omega]
      simp only [eq45, eq114]
      have e98 : (((s.data.toList[i].toNat : Nat) : Int) == 98) = (s.data.toList[i] == 98) := by
        rw [Bool.eq_iff_iff]
        simp only [beq_iff_eq]
        exact eq98 _
      rw [e98]
      refine Ev.itet (by omega) (Ev.itet (by omega) ?_)
      generalize s.data.toList[i] = x at ih ⊢
      by_cases h45 : x = 45
      · rw [if_pos h45] at ih
        refine Ev.itet h45 ?_
        cases hr : rt s i
        · refine Ev.itef (by simp) ?_
          rw [hr] at ih
          subst h45
          exact Ev.itef (by decide) ih
        · rw [hr] at ih
          exact Ev.itet rfl ih
      · rw [if_neg h45] at ih
        refine Ev.itef h45 ?_
        cases hr : rt s i
        · refine Ev.itef (by simp) ?_
          rw [hr] at ih
          by_cases h114 : x = 114
          · subst h114
            exact Ev.itet rfl ih
          · have e : (x == 114) = false := by simpa using h114
            rw [e, Bool.false_or, Bool.false_or] at ih
            exact Ev.itef h114 ih
        · rw [hr] at ih
          exact Ev.itet rfl ih
  have := key s.size 0 (by omega)
  rw [rt_zero, show fr s 0 = 0 by unfold fr strings_LastIndexAny.down mx; simp] at this
  simpa using this
theorem ascii_deliv {s : ByteArray} (hd : deliv s = true) : strings_ContainsAny.ascii s = true := by
  unfold strings_ContainsAny.ascii
  refine List.all_eq_true.2 fun b hb => ?_
  have := deliv_mem hd b hb
  simp only [sgn, Bool.or_eq_true, beq_iff_eq] at this
  rcases this with rfl | rfl | rfl | rfl <;> rfl
theorem aroundCost_f (s : ByteArray) (w : Int) (hd : deliv s = true) (hw : 0 ≤ w ∧ w ≤ 1000) : impl_aroundCost.f s w = some (cost s w) := by
  have hl := deliv_len hd
  have hf := fr_le s s.size
  have ha := ascii_deliv hd
  unfold impl_aroundCost.f strings_LastIndexAny.f strings_ContainsAny.f
  rw [if_pos ⟨by omega, by decide, by decide, ha, by decide⟩, Option.bind_some, if_pos ⟨by omega, by decide, ha, by decide⟩, Option.bind_some]
  have er : Lib.containsAny s.data.toList (⟨#[114, 98]⟩ : ByteArray).data.toList = rt s s.size := by
    show Lib.containsAny s.data.toList [114, 98] = _
    rw [any_rb]
    unfold rt
    rw [List.take_of_length_le (by rw [len_data]; exact Nat.le_refl _)]
  rw [er]
  change (if rt s s.size = true then some (wrap64 (wrap64 (2 * fr s s.size) + wrap64 (2 * w))) else some (wrap64 (2 * fr s s.size))) = _
  unfold cost
  rw [w64 (x := 2 * fr s s.size) (by omega) (by omega), w64 (x := 2 * w) (by omega) (by omega), w64 (x := 2 * fr s s.size + 2 * w) (by omega) (by omega)]
  split <;> rfl
theorem both (s : ByteArray) (hs : s.size ≤ 1048576) (w : Int) : ∃ r, Ev (fun k => spec_AroundCost.f k s w) r ∧ Ev (fun k => impl_AroundCost.f k s w) r := by
  have h1 := poGood_ev s hs
  have h2 := AreDeliveries_ev s hs
  unfold spec_AroundCost.f impl_AroundCost.f
  rw [wide_s, wide_i]
  simp only [Option.bind_some]
  cases hd : deliv s <;> rw [hd] at h1 h2
  · exact ⟨(0, false), Ev.bind h1 (Ev.itef (by simp) (Ev.now _)), Ev.bind h2 (Ev.itef (by simp) (Ev.now _))⟩
  · by_cases hw : 0 ≤ w ∧ w ≤ 1000
    · rw [decide_eq_true hw]
      exact ⟨(cost s w, true), Ev.bind h1 (Ev.itet rfl (Ev.itet rfl (Ev.bind (poAround_ev s w hd hw) (Ev.now _)))), Ev.bind h2 (Ev.itet rfl (Ev.itet rfl (Ev.bind (Ev.some_ fun _ => aroundCost_f s w hd hw) (Ev.now _))))⟩
    · rw [decide_eq_false hw]
      exact ⟨(0, false), Ev.bind h1 (Ev.itet rfl (Ev.itef (by simp) (Ev.now _))), Ev.bind h2 (Ev.itet rfl (Ev.itef (by simp) (Ev.now _)))⟩
theorem main : laws_FnExactAroundCost.Pure := by
  intro s w _ _
  refine Ev.rounds ?_
  unfold laws_FnExactAroundCost.f
  by_cases hs : (s.size : Int) > 1048576
  · exact Ev.itet hs (Ev.now _)
  · obtain ⟨⟨r1, r2⟩, h1, h2⟩ := both s (by omega) w
    exact Ev.itef hs (Ev.bind h1 (Ev.bind h2 (Ev.itet rfl (Ev.itef (by simp) (Ev.now _)))))
end AroundCost
theorem FnExactAroundCost : laws_FnExactAroundCost.Pure := AroundCost.main
end Go.Proofs.YtpopeedfgenebaaDoor.Pure
