/- The Lean functions printed of both sides say the same of what is a city, for all arguments. No condition beyond the printed bounds. -/
import Derived.Test.YtjcgidnmdgfhoaaWalkFnExactIsCity
import Derived.Test.YtjcgidnmdgfhoaaKit
namespace Go.Proofs.Ytjcgidnmdgfhoaa.Pure
open Go.RowKit Go.Proofs.YtjcgidnmdgfhoaaW.PrintWords Go.Proofs.YtjcgidnmdgfhoaaW.PrintLast Go.Proofs.YtjcgidnmdgfhoaaW.PrintMore Go.Proofs.YtjcgidnmdgfhoaaKit
open Go.Proofs.Ytjcgidnmdgfhoaa.PFnExactIsCity
namespace IsCity
theorem ge_le (a b c : Int) : (if a ≥ b then some (decide (a ≤ c)) else some false) = some (decide (b ≤ a ∧ a ≤ c)) := by
  by_cases h : a ≥ b
  · rw [if_pos h]; simp [show b ≤ a from h]
  · rw [if_neg h]; simp; omega
theorem l1In_f (a b c : Int) : spec_l1In.f a b c = some (decide (b ≤ a ∧ a ≤ c)) := by unfold spec_l1In.f; exact ge_le a b c
theorem within_f (a b c : Int) : impl_within.f a b c = some (decide (b ≤ a ∧ a ≤ c)) := by unfold impl_within.f; exact ge_le a b c
/-! Cities: the laws' own copies and comparisons, the blocks' order. -/
def conv (b : S34) : S37 := ⟨b.f0, b.f1, b.f2⟩
theorem rd34 (l : List S34) (i : Nat) (h : i < l.length) : rd_T34 l (i : Int) = l[i] := by unfold rd_T34; simp [h]
theorem rd37 (l : List S37) (i : Nat) (h : i < l.length) : rd_T37 l (i : Int) = l[i] := by unfold rd_T37; simp [h]
theorem toBlockS_ev (l : List S34) (hl : l.length ≤ 1048576) : Ev (fun k => laws_toBlockS.f k l) (l.map conv) := by
  unfold laws_toBlockS.f
  refine Ev.itet (by omega) (Ev.itet (by omega) ?_)
  have key : ∀ (d i : Nat), i + d = l.length → Ev (fun k => laws_toBlockS.l0 k l ((l.map conv).take i ++ List.replicate d z37) (i : Int)) (l.map conv) := by
    intro d
    induction d with
    | zero =>
      intro i hi
      refine Ev.stop fun k => ?_
      simp only [laws_toBlockS.l0]
      rw [if_neg (by omega), List.take_of_length_le (by simp; omega)]
      simp
    | succ d ih =>
      intro i hi
      have hlt : i < l.length := by omega
      have hlt2 : i < (l.map conv).length := by simp; omega
      refine Ev.to _ (fun k => ?_) (ih (i + 1) (by omega))
      simp only [laws_toBlockS.l0, laws_toBlock.f, Option.bind_some]
      rw [if_pos (by omega), if_pos (by omega), if_pos (by simp; omega), rd34 l i hlt, w64 (by omega) (by omega)]
      have e : ((l.map conv).take i ++ List.replicate (d + 1) z37).set (i : Int).toNat (⟨l[i].f0, l[i].f1, l[i].f2⟩ : S37) = (l.map conv).take (i + 1) ++ List.replicate d z37 := by
        rw [List.take_succ_eq_append_getElem hlt2, Int.toNat_natCast, List.set_append_right _ _ (by simp; omega)]
        have h0 : i - ((l.map conv).take i).length = 0 := by simp; omega
        rw [h0, List.replicate_succ, List.set_cons_zero, List.append_assoc]
        simp [conv]
      rw [e]
      rfl
  have := key l.length 0 (by omega)
  simpa using this
theorem toCity_ev (a b : Int) (l : List S34) (hl : l.length ≤ 1048576) : Ev (fun k => laws_toCity.f k a b l) (a, b, l.map conv) := by
  unfold laws_toCity.f
  exact Ev.bind (toBlockS_ev l hl) (Ev.now _)
theorem eqBlockS_ev (l : List S37) (hl : l.length ≤ 1048576) : Ev (fun k => laws_eqBlockS.f k l l) true := by
  unfold laws_eqBlockS.f
  refine Ev.itet rfl ?_
  have key : ∀ (d i : Nat), i + d = l.length → Ev (fun k => laws_eqBlockS.l0 k l l (i : Int)) true := by
    intro d
    induction d with
    | zero => exact fun i hi => Ev.stop fun k => by simp only [laws_eqBlockS.l0]; rw [if_neg (by omega)]
    | succ d ih =>
      intro i hi
      refine Ev.to _ (fun k => ?_) (ih (i + 1) (by omega))
      have hw : wrap64 ((i : Int) + 1) = ((i + 1 : Nat) : Int) := by rw [w64 (by omega) (by omega)]; rfl
      simp only [laws_eqBlockS.l0, laws_eqBlock.f]
      rw [if_pos (by omega), if_pos (by omega), if_pos (by omega), hw]
      simp
  exact key l.length 0 (by omega)
theorem eqCity_ev (a b : Int) (l : List S37) (hl : l.length ≤ 1048576) : Ev (fun k => laws_eqCity.f k a b l a b l) true := by
  unfold laws_eqCity.f
  exact Ev.itet rfl (Ev.itet rfl (Ev.bind (eqBlockS_ev l hl) (Ev.itet rfl (Ev.now _))))
theorem szCity_f (a b : Int) (l : List S34) (hl : l.length ≤ maxLen) : laws_szCity.f a b l 1048576 = some (if l.length ≤ 1048576 then 1048576 - (l.length : Int) else -1) := by
  unfold laws_szCity.f laws_szBlockS.f
  unfold maxLen at hl
  rw [w64 (by omega) (by omega)]
  by_cases h : l.length ≤ 1048576
  · rw [if_neg (by omega), Option.bind_some, if_neg (by omega), if_pos h]
  · rw [if_pos (by omega), Option.bind_some, if_pos (by omega), if_neg h]
/-! What a block of a city is, and which of two comes first. -/
def isB (w h : Int) (b : S37) : Bool := if b.f2 = true then decide (0 ≤ b.f0 ∧ b.f0 ≤ w - 1) && decide (0 ≤ b.f1 ∧ b.f1 ≤ h - 2) else decide (0 ≤ b.f0 ∧ b.f0 ≤ w - 2) && decide (0 ≤ b.f1 ∧ b.f1 ≤ h - 1)
theorem isBlock_f (w h : Int) (l : List S37) (b : S37) (hw : 1 ≤ w ∧ w ≤ 8) (hh : 1 ≤ h ∧ h ≤ 8) : impl_isBlock.f w h l b.f0 b.f1 b.f2 = some (isB w h b) := by
  unfold impl_isBlock.f isB
  rw [w64 (x := w - 1) (by omega) (by omega), w64 (x := h - 2) (by omega) (by omega), w64 (x := w - 2) (by omega) (by omega), w64 (x := h - 1) (by omega) (by omega)]
  simp only [within_f, Option.bind_some]
  cases b.f2
  · simp only [Bool.false_eq_true, if_false]
    cases decide (0 ≤ b.f0 ∧ b.f0 ≤ w - 2) <;> simp
  · simp only [if_true]
    cases decide (0 ≤ b.f0 ∧ b.f0 ≤ w - 1) <;> simp
theorem avIs_ev (w h : Int) (b : S37) (hw : 1 ≤ w ∧ w ≤ 8) (hh : 1 ≤ h ∧ h ≤ 8) : Ev (fun k => spec_avIs.f k w h b.f0 b.f1 b.f2) (isB w h b) := by
  unfold spec_avIs.f isB
  rw [w64 (x := w - 1) (by omega) (by omega), w64 (x := h - 1) (by omega) (by omega)]
  simp only [l1In_f, Option.bind_some]
  have no : ∀ r, r = false → Ev (fun k => spec_avIs.j0 k w h true b.f0 b.f1 b.f2) r := by
    rintro r rfl
    refine Ev.succ ?_
    simp only [spec_avIs.j0]
    exact Ev.itet (by trivial) (Ev.now _)
  by_cases h0 : 0 ≤ b.f0 ∧ b.f0 ≤ w - 1
  · rw [decide_eq_true h0]
    simp only [if_true]
    by_cases h1 : 0 ≤ b.f1 ∧ b.f1 ≤ h - 1
    · rw [decide_eq_true h1]
      refine Ev.succ ?_
      simp only [spec_avIs.j0]
      refine Ev.itef (by simp) ?_
      rw [w64 (x := w - 1) (by omega) (by omega), w64 (x := h - 1) (by omega) (by omega)]
      cases b.f2
      · simp only [Bool.false_eq_true, if_false]
        have e : (decide (0 ≤ b.f0 ∧ b.f0 ≤ w - 2) && true) = decide (b.f0 < w - 1) := by rw [Bool.and_true]; apply decide_eq_decide.mpr; omega
        rw [e]
        exact Ev.now _
      · simp only [if_true]
        have e : (true && decide (0 ≤ b.f1 ∧ b.f1 ≤ h - 2)) = decide (b.f1 < h - 1) := by rw [Bool.true_and]; apply decide_eq_decide.mpr; omega
        rw [e]
        exact Ev.now _
    · rw [decide_eq_false h1]
      refine no _ ?_
      have h2 : ¬ (0 ≤ b.f1 ∧ b.f1 ≤ h - 2) := by omega
      rw [decide_eq_false h2]
      split <;> simp
  · rw [decide_eq_false h0]
    simp only [Bool.false_eq_true, if_false]
    refine no _ ?_
    have h2 : ¬ (0 ≤ b.f0 ∧ b.f0 ≤ w - 2) := by omega
    rw [decide_eq_false h2]
    split <;> simp
def less (b c : S37) : Bool := if b.f0 = c.f0 then (if b.f1 = c.f1 then (if b.f2 = true then false else c.f2) else decide (b.f1 < c.f1)) else decide (b.f0 < c.f0)
theorem avLess_f (b c : S37) : spec_avLess.f b.f0 b.f1 b.f2 c.f0 c.f1 c.f2 = some (less b c) := by
  unfold spec_avLess.f less
  repeat' split
  all_goals rfl
def cmpI (a b : Int) : Int := if a < b then -1 else if a > b then 1 else 0
theorem compare_f (a b : Int) : cmp_Compare_int.f a b = some (cmpI a b) := by
  unfold cmp_Compare_int.f cmp_isNaN_int.f cmpI
  simp only [Option.bind_some, bne_self_eq_false, Bool.false_eq_true, if_false]
  repeat' split
  all_goals rfl
def or3 (a b c : Int) : Int := if a = 0 then (if b = 0 then c else b) else a
theorem or_ev (a b c : Int) : Ev (fun k => cmp_Or_int.f k [a, b, c]) (or3 a b c) := by
  unfold cmp_Or_int.f or3
  refine Ev.succ ?_
  simp only [cmp_Or_int.l0]
  refine Ev.itet (by simp) (Ev.itet (by simp) (Ev.itet (by simp) ?_))
  rw [show rd [a, b, c] 0 = a from rfl, w64 (x := (0 : Int) + 1) (by omega) (by omega)]
  by_cases ha : a = 0
  · rw [if_pos ha]
    refine Ev.itet ha (Ev.succ ?_)
    simp only [cmp_Or_int.l0]
    refine Ev.itet (by simp) (Ev.itet (by simp) (Ev.itet (by simp) ?_))
    rw [show rd [a, b, c] (0 + 1) = b from rfl, w64 (x := (0 : Int) + 1 + 1) (by omega) (by omega)]
    by_cases hb : b = 0
    · rw [if_pos hb]
      refine Ev.itet hb (Ev.succ ?_)
      simp only [cmp_Or_int.l0]
      refine Ev.itet (by simp) (Ev.itet (by simp) (Ev.itet (by simp) ?_))
      rw [show rd [a, b, c] (0 + 1 + 1) = c from rfl, w64 (x := (0 : Int) + 1 + 1 + 1) (by omega) (by omega)]
      by_cases hc : c = 0
      · refine Ev.itet hc (Ev.succ ?_)
        simp only [cmp_Or_int.l0]
        rw [hc]
        exact Ev.itef (by simp) (Ev.now _)
      · exact Ev.itef hc (Ev.now _)
    · rw [if_neg hb]
      exact Ev.itef hb (Ev.now _)
  · rw [if_neg ha]
    exact Ev.itef ha (Ev.now _)
def cmpB (b c : S37) : Int := or3 (cmpI b.f0 c.f0) (cmpI b.f1 c.f1) (if (b.f2 != c.f2) = true then (if c.f2 = true then -1 else 1) else 0)
theorem compareBlocks_ev (b c : S37) : Ev (fun k => impl_compareBlocks.f k b.f0 b.f1 b.f2 c.f0 c.f1 c.f2) (cmpB b c) := by
  unfold impl_compareBlocks.f cmpB
  simp only [compare_f, Option.bind_some]
  by_cases h : (b.f2 != c.f2) = true
  · rw [if_pos h]
    refine Ev.itet h ?_
    by_cases h2 : c.f2 = true
    · rw [if_pos h2]
      exact Ev.itet h2 (Ev.bind (or_ev _ _ _) (Ev.now _))
    · rw [if_neg h2]
      exact Ev.itef h2 (Ev.bind (or_ev _ _ _) (Ev.now _))
  · rw [if_neg h]
    exact Ev.itef h (Ev.bind (or_ev _ _ _) (Ev.now _))
theorem cmpB_less (b c : S37) : (cmpB b c ≥ 0) ↔ less b c = false := by
  unfold cmpB less
  by_cases h0 : b.f0 = c.f0
  · have e0 : cmpI b.f0 c.f0 = 0 := by unfold cmpI; rw [if_neg (by omega), if_neg (by omega)]
    rw [e0, if_pos h0]
    unfold or3
    rw [if_pos rfl]
    by_cases h1 : b.f1 = c.f1
    · have e1 : cmpI b.f1 c.f1 = 0 := by unfold cmpI; rw [if_neg (by omega), if_neg (by omega)]
      rw [e1, if_pos rfl, if_pos h1]
      cases b.f2 <;> cases c.f2 <;> simp
    · rw [if_neg h1]
      by_cases h2 : b.f1 < c.f1
      · have e1 : cmpI b.f1 c.f1 = -1 := by unfold cmpI; rw [if_pos h2]
        rw [e1, if_neg (by decide), decide_eq_true h2]
        simp
      · have e1 : cmpI b.f1 c.f1 = 1 := by unfold cmpI; rw [if_neg h2, if_pos (by omega)]
        rw [e1, if_neg (by decide), decide_eq_false h2]
        simp
  · rw [if_neg h0]
    unfold or3
    by_cases h2 : b.f0 < c.f0
    · have e1 : cmpI b.f0 c.f0 = -1 := by unfold cmpI; rw [if_pos h2]
      rw [e1, if_neg (by decide), decide_eq_true h2]
      simp
    · have e1 : cmpI b.f0 c.f0 = 1 := by unfold cmpI; rw [if_neg h2, if_pos (by omega)]
      rw [e1, if_neg (by decide), decide_eq_false h2]
      simp
def okAt (w h : Int) (l : List S37) (i : Nat) : Bool := match l[i]? with
  | none => true
  | some c => isB w h c && (match i with
    | 0 => true
    | p + 1 => match l[p]? with
      | none => true
      | some b => less b c)
def chk (w h : Int) (l : List S37) : Nat → Nat → Bool
  | 0, _ => true
  | d + 1, i => okAt w h l i && chk w h l d (i + 1)
theorem avGood_l0 (w h : Int) (l : List S37) (hl : l.length ≤ 1048576) (hw : 1 ≤ w ∧ w ≤ 8) (hh : 1 ≤ h ∧ h ≤ 8) : ∀ d i : Nat, i + d = l.length → Ev (fun k => spec_avGood.l0 k l (l.length : Int) (i : Int) w h l) (chk w h l d i)
  | 0, i, hi => Ev.stop fun k => by simp only [spec_avGood.l0]; rw [if_neg (by omega)]; rfl
  | d + 1, i, hi => by
    have ih := avGood_l0 w h l hl hw hh d (i + 1) (by omega)
    have hlt : i < l.length := by omega
    have hwr : wrap64 ((i : Int) + 1) = ((i + 1 : Nat) : Int) := by rw [w64 (by omega) (by omega)]; rfl
    refine Ev.succ ?_
    simp only [spec_avGood.l0, chk, okAt, List.getElem?_eq_getElem hlt]
    rw [rd37 l i hlt, hwr]
    refine Ev.itet (by omega) (Ev.itet (by omega) (Ev.itet (by omega) (Ev.bind (avIs_ev w h l[i] hw hh) ?_)))
    cases isB w h l[i]
    · exact Ev.itef (by simp) (Ev.now _)
    · refine Ev.itet rfl ?_
      match i, hlt, ih with
      | 0, _, ih => exact Ev.itef (by simp) (by simpa using ih)
      | p + 1, hlt, ih =>
        have hlp : p < l.length := by omega
        have hwp : wrap64 (((p + 1 : Nat) : Int) - 1) = (p : Int) := by rw [w64 (by omega) (by omega)]; omega
        rw [hwp, rd37 l p hlp]
        simp only [List.getElem?_eq_getElem hlp, avLess_f, Option.bind_some]
        refine Ev.itet (by omega) (Ev.itet (by omega) (Ev.itet (by omega) ?_))
        cases less l[p] l[p + 1]
        · exact Ev.itef (by simp) (Ev.now _)
        · exact Ev.itet rfl (by simpa using ih)
theorem IsCity_l0 (w h : Int) (l : List S37) (hl : l.length ≤ 1048576) (hw : 1 ≤ w ∧ w ≤ 8) (hh : 1 ≤ h ∧ h ≤ 8) : ∀ d i : Nat, i + d = l.length → Ev (fun k => impl_IsCity.l0 k l (l.length : Int) (i : Int) w h l) (chk w h l d i)
  | 0, i, hi => Ev.stop fun k => by simp only [impl_IsCity.l0]; rw [if_neg (by omega)]; rfl
  | d + 1, i, hi => by
    have ih := IsCity_l0 w h l hl hw hh d (i + 1) (by omega)
    have hlt : i < l.length := by omega
    have hwr : wrap64 ((i : Int) + 1) = ((i + 1 : Nat) : Int) := by rw [w64 (by omega) (by omega)]; rfl
    refine Ev.succ ?_
    simp only [impl_IsCity.l0, chk, okAt, List.getElem?_eq_getElem hlt]
    rw [rd37 l i hlt, hwr, isBlock_f w h l l[i] hw hh]
    simp only [Option.bind_some]
    refine Ev.itet (by omega) (Ev.itet (by omega) (Ev.itet (by omega) ?_))
    cases isB w h l[i]
    · exact Ev.itef (by simp) (Ev.now _)
    · refine Ev.itet rfl ?_
      match i, hlt, ih with
      | 0, _, ih => exact Ev.itef (by simp) (by simpa using ih)
      | p + 1, hlt, ih =>
        have hlp : p < l.length := by omega
        have hwp : wrap64 (((p + 1 : Nat) : Int) - 1) = (p : Int) := by rw [w64 (by omega) (by omega)]; omega
        rw [hwp, rd37 l p hlp]
        simp only [List.getElem?_eq_getElem hlp]
        refine Ev.itet (by omega) (Ev.itet (by omega) (Ev.itet (by omega) (Ev.bind (compareBlocks_ev l[p] l[p + 1]) ?_)))
        cases hls : less l[p] l[p + 1]
        · exact Ev.itet ((cmpB_less _ _).2 hls) (Ev.now _)
        · exact Ev.itef (fun e => by rw [(cmpB_less _ _).1 e] at hls; cases hls) (by simpa using ih)
def good (w h : Int) (l : List S37) : Bool := decide (1 ≤ w ∧ w ≤ 8) && (decide (1 ≤ h ∧ h ≤ 8) && (decide (l.length ≤ 30) && chk w h l l.length 0))
theorem avGood_ev (w h : Int) (l : List S37) (hl : l.length ≤ 1048576) : Ev (fun k => spec_avGood.f k w h l) (good w h l) := by
  unfold spec_avGood.f good
  simp only [l1In_f, Option.bind_some]
  have no : ∀ r, r = false → Ev (fun k => spec_avGood.j0 k true w h l) r := by
    rintro r rfl
    refine Ev.succ ?_
    simp only [spec_avGood.j0]
    exact Ev.itet (by trivial) (Ev.now _)
  by_cases h0 : 1 ≤ w ∧ w ≤ 8
  · rw [decide_eq_true h0]
    simp only [if_true, Bool.true_and]
    by_cases h1 : 1 ≤ h ∧ h ≤ 8
    · rw [decide_eq_true h1]
      simp only [if_true, Bool.true_and]
      by_cases h2 : l.length ≤ 30
      · rw [decide_eq_true h2, Bool.true_and, decide_eq_false (by omega)]
        refine Ev.succ ?_
        simp only [spec_avGood.j0]
        exact Ev.itef (by simp) (avGood_l0 w h l hl h0 h1 l.length 0 (by omega))
      · rw [decide_eq_false h2, Bool.false_and, decide_eq_true (by omega)]
        exact no _ rfl
    · rw [decide_eq_false h1]
      simp only [Bool.false_eq_true, if_false, Bool.false_and]
      exact no _ rfl
  · rw [decide_eq_false h0]
    simp only [Bool.false_eq_true, if_false, Bool.false_and]
    exact no _ rfl
theorem IsCity_ev (w h : Int) (l : List S37) (hl : l.length ≤ 1048576) : Ev (fun k => impl_IsCity.f k w h l) (good w h l) := by
  unfold impl_IsCity.f good
  simp only [within_f, Option.bind_some]
  have no : ∀ r, r = false → Ev (fun k => impl_IsCity.j0 k true w h l) r := by
    rintro r rfl
    refine Ev.succ ?_
    simp only [impl_IsCity.j0]
    exact Ev.itet (by trivial) (Ev.now _)
  by_cases h0 : 1 ≤ w ∧ w ≤ 8
  · rw [decide_eq_true h0]
    simp only [if_true, Bool.true_and]
    by_cases h1 : 1 ≤ h ∧ h ≤ 8
    · rw [decide_eq_true h1]
      simp only [if_true, Bool.true_and]
      by_cases h2 : l.length ≤ 30
      · rw [decide_eq_true h2, Bool.true_and, decide_eq_false (by omega)]
        refine Ev.succ ?_
        simp only [impl_IsCity.j0]
        exact Ev.itef (by simp) (IsCity_l0 w h l hl h0 h1 l.length 0 (by omega))
      · rw [decide_eq_false h2, Bool.false_and, decide_eq_true (by omega)]
        exact no _ rfl
    · rw [decide_eq_false h1]
      simp only [Bool.false_eq_true, if_false, Bool.false_and]
      exact no _ rfl
  · rw [decide_eq_false h0]
    simp only [Bool.false_eq_true, if_false, Bool.false_and]
    exact no _ rfl
theorem main : laws_FnExactIsCity.Pure := by
  intro a b l _ _ hl _
  refine Ev.rounds ?_
  unfold laws_FnExactIsCity.f
  rw [szCity_f a b l hl]
  simp only [Option.bind_some]
  by_cases h : l.length ≤ 1048576
  · rw [if_pos h]
    have hm : (l.map conv).length ≤ 1048576 := by simpa using h
    have sp : Ev (fun k => spec_IsCity.f k a b (l.map conv)) (good a b (l.map conv)) := by
      unfold spec_IsCity.f
      exact Ev.bind (avGood_ev a b _ hm) (Ev.now _)
    refine Ev.itef (by omega) (Ev.bind (toCity_ev a b l h) (Ev.bind sp (Ev.bind (toCity_ev a b l h) (Ev.bind (IsCity_ev a b _ hm) (Ev.itef (by simp) (Ev.bind (toCity_ev a b l h) (Ev.bind (eqCity_ev a b _ hm) (Ev.itet rfl (Ev.now _)))))))))
  · rw [if_neg h]
    exact Ev.itet (by omega) (Ev.now _)
end IsCity
theorem FnExactIsCity : laws_FnExactIsCity.Pure := IsCity.main
end Go.Proofs.Ytjcgidnmdgfhoaa.Pure
