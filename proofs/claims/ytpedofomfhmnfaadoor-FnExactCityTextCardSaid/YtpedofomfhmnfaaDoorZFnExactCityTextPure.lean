/- Cut by wip/cut.py out of the texts of this claim (printed by the kit's printer, or this session's own): what the row's theorem does not reach is struck. Not trusted: Lean checks it. -/
import Derived.Test.YtpedofomfhmnfaaDoorZFnExactCityTextWalk
import Derived.Test.YtpedofomfhmnfaaDoorZFnExactCityTextKit
namespace Go.Proofs.YtpedofomfhmnfaaDoor.Pure
open Go.RowKit Go.Proofs.YtpedofomfhmnfaaDoorW.PrintWords Go.Proofs.YtpedofomfhmnfaaDoorW.PrintLast Go.Proofs.YtpedofomfhmnfaaDoorW.PrintMore Go.Proofs.YtpedofomfhmnfaaDoorKit
open Go.Proofs.YtpedofomfhmnfaaDoor.PFnExactCityText
namespace CityText
theorem ge_le (a b c : Int) : (if a ≥ b then some (decide (a ≤ c)) else some false) = some (decide (b ≤ a ∧ a ≤ c)) := by
 by_cases h : a ≥ b
 ·rw [if_pos h]; simp [show b ≤ a from h]
 ·rw [if_neg h]; simp; omega
theorem l1In_f (a b c : Int) : spec_l1In.f a b c = some (decide (b ≤ a ∧ a ≤ c)) := by unfold spec_l1In.f; exact ge_le a b c
theorem within_f (a b c : Int) : impl_within.f a b c = some (decide (b ≤ a ∧ a ≤ c)) := by unfold impl_within.f; exact ge_le a b c
def conv (b : S46) : S41 := ⟨b.f0, b.f1, b.f2⟩
theorem rdL_get (l : List S46) (i : Nat) (h : i < l.length) : rd_T46 l (i : Int) = l[i] := by unfold rd_T46; simp [h]
theorem rdB_get (l : List S41) (i : Nat) (h : i < l.length) : rd_T41 l (i : Int) = l[i] := by unfold rd_T41; simp [h]
theorem toBlockS_ev (l : List S46) (hl : l.length ≤ 1048576) : Ev (fun k => laws_toBlockS.f k l) (l.map conv) := by
 unfold laws_toBlockS.f
 refine Ev.itet (by omega) (Ev.itet (by omega) ?_)
 have key : ∀ (d i : Nat), i + d = l.length → Ev (fun k => laws_toBlockS.l0 k l ((l.map conv).take i ++ List.replicate d z41) (i : Int)) (l.map conv) := by
  intro d
  induction d with
  | zero =>
   intro i hi
   refine Ev.stop fun k => ?_
   simp only [laws_toBlockS.l0]
   rw [if_neg (by omega), List.take_of_length_le (by simp; omega)]
   simp
  | succ d ih =>
   intro i hi
   have hlt : i < l.length := by omega
   have hlt2 : i < (l.map conv).length := by simp; omega
   refine Ev.to _ (fun k => ?_) (ih (i + 1) (by omega))
   simp only [laws_toBlockS.l0, laws_toBlock.f, Option.bind_some]
   rw [if_pos (by omega), if_pos (by omega), if_pos (by simp; omega), rdL_get l i hlt, w64 (by omega) (by omega)]
   have e : ((l.map conv).take i ++ List.replicate (d + 1) z41).set (i : Int).toNat (⟨l[i].f0, l[i].f1, l[i].f2⟩ : S41) = (l.map conv).take (i + 1) ++ List.replicate d z41 := by
    rw [List.take_succ_eq_append_getElem hlt2, Int.toNat_natCast, List.set_append_right _ _ (by simp; omega)]
    have h0 : i - ((l.map conv).take i).length = 0 := by simp; omega
    rw [h0, List.replicate_succ, List.set_cons_zero, List.append_assoc]
    simp [conv]
   rw [e]
   rfl
 have := key l.length 0 (by omega)
 simpa using this
theorem toCity_ev (a b : Int) (l : List S46) (hl : l.length ≤ 1048576) : Ev (fun k => laws_toCity.f k a b l) (a, b, l.map conv) := by
 unfold laws_toCity.f
 exact Ev.bind (toBlockS_ev l hl) (Ev.now _)
theorem eqBlockS_ev (l : List S41) (hl : l.length ≤ 1048576) : Ev (fun k => laws_eqBlockS.f k l l) true := by
 unfold laws_eqBlockS.f
 refine Ev.itet rfl ?_
 have key : ∀ (d i : Nat), i + d = l.length → Ev (fun k => laws_eqBlockS.l0 k l l (i : Int)) true := by
  intro d
  induction d with
  | zero => exact fun i hi => Ev.stop fun k => by simp only [laws_eqBlockS.l0]; rw [if_neg (by omega)]
  | succ d ih =>
   intro i hi
   refine Ev.to _ (fun k => ?_) (ih (i + 1) (by omega))
   have hw : wrap64 ((i : Int) + 1) = ((i + 1 : Nat) : Int) := by rw [w64 (by omega) (by omega)]; rfl
   simp only [laws_eqBlockS.l0, laws_eqBlock.f]
   rw [if_pos (by omega), if_pos (by omega), if_pos (by omega), hw]
   simp
 exact key l.length 0 (by omega)
theorem eqCity_ev (a b : Int) (l : List S41) (hl : l.length ≤ 1048576) : Ev (fun k => laws_eqCity.f k a b l a b l) true := by
 unfold laws_eqCity.f
 exact Ev.itet rfl (Ev.itet rfl (Ev.bind (eqBlockS_ev l hl) (Ev.itet rfl (Ev.now _))))
theorem szCity_f (a b : Int) (l : List S46) (hl : l.length ≤ maxLen) : laws_szCity.f a b l 1048576 = some (if l.length ≤ 1048576 then 1048576 - (l.length : Int) else -1) := by
 unfold laws_szCity.f laws_szBlockS.f
 unfold maxLen at hl
 rw [w64 (by omega) (by omega)]
 by_cases h : l.length ≤ 1048576
 ·rw [if_neg (by omega), Option.bind_some, if_neg (by omega), if_pos h]
 ·rw [if_pos (by omega), Option.bind_some, if_pos (by omega), if_neg h]
def isB (w h : Int) (b : S41) : Bool := if b.f2 = true then decide (0 ≤ b.f0 ∧ b.f0 ≤ w - 1) && decide (0 ≤ b.f1 ∧ b.f1 ≤ h - 2) else decide (0 ≤ b.f0 ∧ b.f0 ≤ w - 2) && decide (0 ≤ b.f1 ∧ b.f1 ≤ h - 1)
theorem isBlock_f (w h : Int) (l : List S41) (b : S41) (hw : 1 ≤ w ∧ w ≤ 8) (hh : 1 ≤ h ∧ h ≤ 8) : impl_isBlock.f w h l b.f0 b.f1 b.f2 = some (isB w h b) := by
 unfold impl_isBlock.f isB
 rw [w64 (x := w - 1) (by omega) (by omega), w64 (x := h - 2) (by omega) (by omega), w64 (x := w - 2) (by omega) (by omega), w64 (x := h - 1) (by omega) (by omega)]
 simp only [within_f, Option.bind_some]
 cases b.f2
 ·simp only [Bool.false_eq_true, if_false]
  cases decide (0 ≤ b.f0 ∧ b.f0 ≤ w - 2) <;> simp
 ·simp only [if_true]
  cases decide (0 ≤ b.f0 ∧ b.f0 ≤ w - 1) <;> simp
theorem avIs_ev (w h : Int) (b : S41) (hw : 1 ≤ w ∧ w ≤ 8) (hh : 1 ≤ h ∧ h ≤ 8) : Ev (fun k => spec_avIs.f k w h b.f0 b.f1 b.f2) (isB w h b) := by
 unfold spec_avIs.f isB
 rw [w64 (x := w - 1) (by omega) (by omega), w64 (x := h - 1) (by omega) (by omega)]
 simp only [l1In_f, Option.bind_some]
 have no : ∀ r, r = false → Ev (fun k => spec_avIs.j0 k w h true b.f0 b.f1 b.f2) r := by
  rintro r rfl
  refine Ev.succ ?_
  simp only [spec_avIs.j0]
  exact Ev.itet (by trivial) (Ev.now _)
 by_cases h0 : 0 ≤ b.f0 ∧ b.f0 ≤ w - 1
 ·rw [decide_eq_true h0]
  simp only [if_true]
  by_cases h1 : 0 ≤ b.f1 ∧ b.f1 ≤ h - 1
  ·rw [decide_eq_true h1]
   refine Ev.succ ?_
   simp only [spec_avIs.j0]
   refine Ev.itef (by simp) ?_
   rw [w64 (x := w - 1) (by omega) (by omega), w64 (x := h - 1) (by omega) (by omega)]
   cases b.f2
   ·simp only [Bool.false_eq_true, if_false]
    have e : (decide (0 ≤ b.f0 ∧ b.f0 ≤ w - 2) && true) = decide (b.f0 < w - 1) := by rw [Bool.and_true]; apply decide_eq_decide.mpr; omega
    rw [e]
    exact Ev.now _
   ·simp only [if_true]
    have e : (true && decide (0 ≤ b.f1 ∧ b.f1 ≤ h - 2)) = decide (b.f1 < h - 1) := by rw [Bool.true_and]; apply decide_eq_decide.mpr; omega
    rw [e]
    exact Ev.now _
  ·rw [decide_eq_false h1]
   refine no _ ?_
   have h2 : ¬ (0 ≤ b.f1 ∧ b.f1 ≤ h - 2) := by omega
   rw [decide_eq_false h2]
   split <;> simp
 ·rw [decide_eq_false h0]
  simp only [Bool.false_eq_true, if_false]
  refine no _ ?_
  have h2 : ¬ (0 ≤ b.f0 ∧ b.f0 ≤ w - 2) := by omega
  rw [decide_eq_false h2]
  split <;> simp
def less (b c : S41) : Bool := if b.f0 = c.f0 then (if b.f1 = c.f1 then (if b.f2 = true then false else c.f2) else decide (b.f1 < c.f1)) else decide (b.f0 < c.f0)
theorem avLess_f (b c : S41) : spec_avLess.f b.f0 b.f1 b.f2 c.f0 c.f1 c.f2 = some (less b c) := by
 unfold spec_avLess.f less
 repeat' split
 all_goals rfl
def cmpI (a b : Int) : Int := if a < b then -1 else if a > b then 1 else 0
theorem compare_f (a b : Int) : cmp_Compare_int.f a b = some (cmpI a b) := by
 unfold cmp_Compare_int.f cmp_isNaN_int.f cmpI
 simp only [Option.bind_some, bne_self_eq_false, Bool.false_eq_true, if_false]
 repeat' split
 all_goals rfl
def or3 (a b c : Int) : Int := if a = 0 then (if b = 0 then c else b) else a
theorem or_ev (a b c : Int) : Ev (fun k => cmp_Or_int.f k [a, b, c]) (or3 a b c) := by
 unfold cmp_Or_int.f or3
 refine Ev.succ ?_
 simp only [cmp_Or_int.l0]
 refine Ev.itet (by simp) (Ev.itet (by simp) (Ev.itet (by simp) ?_))
 rw [show rd [a, b, c] 0 = a from rfl, w64 (x := (0 : Int) + 1) (by omega) (by omega)]
 by_cases ha : a = 0
 ·rw [if_pos ha]
  refine Ev.itet ha (Ev.succ ?_)
  simp only [cmp_Or_int.l0]
  refine Ev.itet (by simp) (Ev.itet (by simp) (Ev.itet (by simp) ?_))
  rw [show rd [a, b, c] (0 + 1) = b from rfl, w64 (x := (0 : Int) + 1 + 1) (by omega) (by omega)]
  by_cases hb : b = 0
  ·rw [if_pos hb]
   refine Ev.itet hb (Ev.succ ?_)
   simp only [cmp_Or_int.l0]
   refine Ev.itet (by simp) (Ev.itet (by simp) (Ev.itet (by simp) ?_))
   rw [show rd [a, b, c] (0 + 1 + 1) = c from rfl, w64 (x := (0 : Int) + 1 + 1 + 1) (by omega) (by omega)]
   by_cases hc : c = 0
   ·refine Ev.itet hc (Ev.succ ?_)
    simp only [cmp_Or_int.l0]
    rw [hc]
    exact Ev.itef (by simp) (Ev.now _)
   ·exact Ev.itef hc (Ev.now _)
  ·rw [if_neg hb]
   exact Ev.itef hb (Ev.now _)
 ·rw [if_neg ha]
  exact Ev.itef ha (Ev.now _)
def cmpB (b c : S41) : Int := or3 (cmpI b.f0 c.f0) (cmpI b.f1 c.f1) (if (b.f2 != c.f2) = true then (if c.f2 = true then -1 else 1) else 0)
theorem compareBlocks_ev (b c : S41) : Ev (fun k => impl_compareBlocks.f k b.f0 b.f1 b.f2 c.f0 c.f1 c.f2) (cmpB b c) := by
 unfold impl_compareBlocks.f cmpB
 simp only [compare_f, Option.bind_some]
 by_cases h : (b.f2 != c.f2) = true
 ·rw [if_pos h]
  refine Ev.itet h ?_
  by_cases h2 : c.f2 = true
  ·rw [if_pos h2]
   exact Ev.itet h2 (Ev.bind (or_ev _ _ _) (Ev.now _))
  ·rw [if_neg h2]
   exact Ev.itef h2 (Ev.bind (or_ev _ _ _) (Ev.now _))
 ·rw [if_neg h]
  exact Ev.itef h (Ev.bind (or_ev _ _ _) (Ev.now _))
theorem cmpB_less (b c : S41) : (cmpB b c ≥ 0) ↔ less b c = false := by
 unfold cmpB less
 by_cases h0 : b.f0 = c.f0
 ·have e0 : cmpI b.f0 c.f0 = 0 := by unfold cmpI; rw [if_neg (by omega), if_neg (by omega)]
  rw [e0, if_pos h0]
  unfold or3
  rw [if_pos rfl]
  by_cases h1 : b.f1 = c.f1
  ·have e1 : cmpI b.f1 c.f1 = 0 := by unfold cmpI; rw [if_neg (by omega), if_neg (by omega)]
   rw [e1, if_pos rfl, if_pos h1]
   cases b.f2 <;> cases c.f2 <;> simp
  ·rw [if_neg h1]
   by_cases h2 : b.f1 < c.f1
   ·have e1 : cmpI b.f1 c.f1 = -1 := by unfold cmpI; rw [if_pos h2]
    rw [e1, if_neg (by decide), decide_eq_true h2]
    simp
   ·have e1 : cmpI b.f1 c.f1 = 1 := by unfold cmpI; rw [if_neg h2, if_pos (by omega)]
    rw [e1, if_neg (by decide), decide_eq_false h2]
    simp
 ·rw [if_neg h0]
  unfold or3
  by_cases h2 : b.f0 < c.f0
  ·have e1 : cmpI b.f0 c.f0 = -1 := by unfold cmpI; rw [if_pos h2]
   rw [e1, if_neg (by decide), decide_eq_true h2]
   simp
  ·have e1 : cmpI b.f0 c.f0 = 1 := by unfold cmpI; rw [if_neg h2, if_pos (by omega)]
   rw [e1, if_neg (by decide), decide_eq_false h2]
   simp
def okAt (w h : Int) (l : List S41) (i : Nat) : Bool := match l[i]? with
 | none => true
 | some c => isB w h c && (match i with
  | 0 => true
  | p + 1 => match l[p]? with
   | none => true
   | some b => less b c)
def chk (w h : Int) (l : List S41) : Nat → Nat → Bool
 | 0, _ => true
 | d + 1, i => okAt w h l i && chk w h l d (i + 1)
theorem avGood_l0 (w h : Int) (l : List S41) (hl : l.length ≤ 1048576) (hw : 1 ≤ w ∧ w ≤ 8) (hh : 1 ≤ h ∧ h ≤ 8) : ∀ d i : Nat, i + d = l.length → Ev (fun k => spec_avGood.l0 k l (l.length : Int) (i : Int) w h l) (chk w h l d i)
 | 0, i, hi => Ev.stop fun k => by simp only [spec_avGood.l0]; rw [if_neg (by omega)]; rfl
 | d + 1, i, hi => by
  have ih := avGood_l0 w h l hl hw hh d (i + 1) (by omega)
  have hlt : i < l.length := by omega
  have hwr : wrap64 ((i : Int) + 1) = ((i + 1 : Nat) : Int) := by rw [w64 (by omega) (by omega)]; rfl
  refine Ev.succ ?_
  simp only [spec_avGood.l0, chk, okAt, List.getElem?_eq_getElem hlt]
  rw [rdB_get l i hlt, hwr]
  refine Ev.itet (by omega) (Ev.itet (by omega) (Ev.itet (by omega) (Ev.bind (avIs_ev w h l[i] hw hh) ?_)))
  cases isB w h l[i]
  ·exact Ev.itef (by simp) (Ev.now _)
  ·refine Ev.itet rfl ?_
   match i, hlt, ih with
   | 0, _, ih => exact Ev.itef (by simp) (by simpa using ih)
   | p + 1, hlt, ih =>
    have hlp : p < l.length := by omega
    have hwp : wrap64 (((p + 1 : Nat) : Int) - 1) = (p : Int) := by rw [w64 (by omega) (by omega)]; omega
    rw [hwp, rdB_get l p hlp]
    simp only [List.getElem?_eq_getElem hlp, avLess_f, Option.bind_some]
    refine Ev.itet (by omega) (Ev.itet (by omega) (Ev.itet (by omega) ?_))
    cases less l[p] l[p + 1]
    ·exact Ev.itef (by simp) (Ev.now _)
    ·exact Ev.itet rfl (by simpa using ih)
theorem IsCity_l0 (w h : Int) (l : List S41) (hl : l.length ≤ 1048576) (hw : 1 ≤ w ∧ w ≤ 8) (hh : 1 ≤ h ∧ h ≤ 8) : ∀ d i : Nat, i + d = l.length → Ev (fun k => impl_IsCity.l0 k l (l.length : Int) (i : Int) w h l) (chk w h l d i)
 | 0, i, hi => Ev.stop fun k => by simp only [impl_IsCity.l0]; rw [if_neg (by omega)]; rfl
 | d + 1, i, hi => by
  have ih := IsCity_l0 w h l hl hw hh d (i + 1) (by omega)
  have hlt : i < l.length := by omega
  have hwr : wrap64 ((i : Int) + 1) = ((i + 1 : Nat) : Int) := by rw [w64 (by omega) (by omega)]; rfl
  refine Ev.succ ?_
  simp only [impl_IsCity.l0, chk, okAt, List.getElem?_eq_getElem hlt]
  rw [rdB_get l i hlt, hwr, isBlock_f w h l l[i] hw hh]
  simp only [Option.bind_some]
  refine Ev.itet (by omega) (Ev.itet (by omega) (Ev.itet (by omega) ?_))
  cases isB w h l[i]
  ·exact Ev.itef (by simp) (Ev.now _)
  ·refine Ev.itet rfl ?_
   match i, hlt, ih with
   | 0, _, ih => exact Ev.itef (by simp) (by simpa using ih)
   | p + 1, hlt, ih =>
    have hlp : p < l.length := by omega
    have hwp : wrap64 (((p + 1 : Nat) : Int) - 1) = (p : Int) := by rw [w64 (by omega) (by omega)]; omega
    rw [hwp, rdB_get l p hlp]
    simp only [List.getElem?_eq_getElem hlp]
    refine Ev.itet (by omega) (Ev.itet (by omega) (Ev.itet (by omega) (Ev.bind (compareBlocks_ev l[p] l[p + 1]) ?_)))
    cases hls : less l[p] l[p + 1]
    ·exact Ev.itet ((cmpB_less _ _).2 hls) (Ev.now _)
    ·exact Ev.itef (fun e => by rw [(cmpB_less _ _).1 e] at hls; cases hls) (by simpa using ih)
def good (w h : Int) (l : List S41) : Bool := decide (1 ≤ w ∧ w ≤ 8) && (decide (1 ≤ h ∧ h ≤ 8) && (decide (l.length ≤ 30) && chk w h l l.length 0))
theorem avGood_ev (w h : Int) (l : List S41) (hl : l.length ≤ 1048576) : Ev (fun k => spec_avGood.f k w h l) (good w h l) := by
 unfold spec_avGood.f good
 simp only [l1In_f, Option.bind_some]
 have no : ∀ r, r = false → Ev (fun k => spec_avGood.j0 k true w h l) r := by
  rintro r rfl
  refine Ev.succ ?_
  simp only [spec_avGood.j0]
  exact Ev.itet (by trivial) (Ev.now _)
 by_cases h0 : 1 ≤ w ∧ w ≤ 8
 ·rw [decide_eq_true h0]
  simp only [if_true, Bool.true_and]
  by_cases h1 : 1 ≤ h ∧ h ≤ 8
  ·rw [decide_eq_true h1]
   simp only [if_true, Bool.true_and]
   by_cases h2 : l.length ≤ 30
   ·rw [decide_eq_true h2, Bool.true_and, decide_eq_false (by omega)]
    refine Ev.succ ?_
    simp only [spec_avGood.j0]
    exact Ev.itef (by simp) (avGood_l0 w h l hl h0 h1 l.length 0 (by omega))
   ·rw [decide_eq_false h2, Bool.false_and, decide_eq_true (by omega)]
    exact no _ rfl
  ·rw [decide_eq_false h1]
   simp only [Bool.false_eq_true, if_false, Bool.false_and]
   exact no _ rfl
 ·rw [decide_eq_false h0]
  simp only [Bool.false_eq_true, if_false, Bool.false_and]
  exact no _ rfl
theorem IsCity_ev (w h : Int) (l : List S41) (hl : l.length ≤ 1048576) : Ev (fun k => impl_IsCity.f k w h l) (good w h l) := by
 unfold impl_IsCity.f good
 simp only [within_f, Option.bind_some]
 have no : ∀ r, r = false → Ev (fun k => impl_IsCity.j0 k true w h l) r := by
  rintro r rfl
  refine Ev.succ ?_
  simp only [impl_IsCity.j0]
  exact Ev.itet (by trivial) (Ev.now _)
 by_cases h0 : 1 ≤ w ∧ w ≤ 8
 ·rw [decide_eq_true h0]
  simp only [if_true, Bool.true_and]
  by_cases h1 : 1 ≤ h ∧ h ≤ 8
  ·rw [decide_eq_true h1]
   simp only [if_true, Bool.true_and]
   by_cases h2 : l.length ≤ 30
   ·rw [decide_eq_true h2, Bool.true_and, decide_eq_false (by omega)]
    refine Ev.succ ?_
    simp only [impl_IsCity.j0]
    exact Ev.itef (by simp) (IsCity_l0 w h l hl h0 h1 l.length 0 (by omega))
   ·rw [decide_eq_false h2, Bool.false_and, decide_eq_true (by omega)]
    exact no _ rfl
  ·rw [decide_eq_false h1]
   simp only [Bool.false_eq_true, if_false, Bool.false_and]
   exact no _ rfl
 ·rw [decide_eq_false h0]
  simp only [Bool.false_eq_true, if_false, Bool.false_and]
  exact no _ rfl
theorem good_wh {w h : Int} {l : List S41} (hg : good w h l = true) : (1 ≤ w ∧ w ≤ 8) ∧ (1 ≤ h ∧ h ≤ 8) ∧ l.length ≤ 30 := by
 unfold good at hg
 simp only [Bool.and_eq_true, decide_eq_true_eq] at hg
 exact ⟨hg.1, hg.2.1, hg.2.2.1⟩
theorem chk_at (w h : Int) (l : List S41) : ∀ (d i : Nat), chk w h l d i = true → ∀ j, i ≤ j → j < i + d → okAt w h l j = true
 | 0, i, _, j, h1, h2 => by omega
 | d + 1, i, hc, j, h1, h2 => by
  unfold chk at hc
  obtain ⟨c1, c2⟩ := Bool.and_eq_true_iff.1 hc
  rcases Nat.lt_or_eq_of_le h1 with h3 | rfl
  ·exact chk_at w h l d (i + 1) c2 j (by omega) (by omega)
  ·exact c1
theorem good_isB (w h : Int) (l : List S41) (hg : good w h l = true) : ∀ b ∈ l, isB w h b = true := by
 intro b hb
 obtain ⟨i, hi, rfl⟩ := List.getElem_of_mem hb
 unfold good at hg
 simp only [Bool.and_eq_true] at hg
 have := chk_at w h l l.length 0 hg.2.2.2 i (by omega) (by omega)
 unfold okAt at this
 rw [List.getElem?_eq_getElem hi] at this
 simp only [Bool.and_eq_true] at this
 exact this.1
theorem isB_small {w h : Int} {b : S41} (hw : 1 ≤ w ∧ w ≤ 8) (hh : 1 ≤ h ∧ h ≤ 8) (hb : isB w h b = true) : (0 ≤ b.f0 ∧ b.f0 < 10) ∧ (0 ≤ b.f1 ∧ b.f1 < 10) := by
 unfold isB at hb
 split at hb <;> simp only [Bool.and_eq_true, decide_eq_true_eq] at hb <;> omega
def str (l : List UInt8) : ByteArray := ⟨l.toArray⟩
theorem str_app (l m : List UInt8) : str l ++ str m = str (l ++ m) := by
 apply ba_ext
 simp [str]
theorem str_push (l : List UInt8) (b : UInt8) : str l ++ (⟨#[b]⟩ : ByteArray) = str (l ++ [b]) := str_app l [b]
theorem str_size (l : List UInt8) : (str l).size = l.length := rfl
def dg (n : Int) : List UInt8 := [UInt8.ofNat (48 + n.toNat)]
theorem dec_dg (n : Int) (h : 0 ≤ n ∧ n < 10) : impl_joinNumbers.dec n = str (dg n) := by
 unfold impl_joinNumbers.dec Go.Lib.decDigits str dg
 rw [dif_pos (by omega)]
theorem num_ev (n : Int) (h : 0 ≤ n ∧ n < 10) : Ev (fun k => spec_l1Num.f k n) (str (dg n)) := by
 refine Ev.succ ?_
 simp only [spec_l1Num.f]
 have e : strOfNums [(wrap64 (48 + n)) % 256] = str (dg n) := by
  rw [w64 (by omega) (by omega), show (48 + n) % 256 = 48 + n by omega]
  unfold strOfNums str dg
  simp only [List.map_cons, List.map_nil]
  rw [show (48 + n).toNat = 48 + n.toNat by omega]
 rw [e]
 exact Ev.itet (by omega) (Ev.now _)
def sgn (u : Bool) : UInt8 := if u = true then 124 else 45
def tx (b : S41) : List UInt8 := dg b.f0 ++ [sgn b.f2] ++ dg b.f1
theorem tx_len (b : S41) : (tx b).length = 3 := rfl
theorem two_f (x y : Int) (s : UInt8) (hx : 0 ≤ x ∧ x < 10) (hy : 0 ≤ y ∧ y < 10) : impl_joinNumbers.f [x, y] (⟨#[s]⟩ : ByteArray) = some (str (dg x ++ [s] ++ dg y)) := by
 have e : strings_Join.cat ([x, y].map impl_joinNumbers.dec) (⟨#[s]⟩ : ByteArray) = str (dg x ++ [s] ++ dg y) := by
  unfold strings_Join.cat
  rw [show [x, y].map impl_joinNumbers.dec = [impl_joinNumbers.dec x, impl_joinNumbers.dec y] from rfl, dec_dg x hx, dec_dg y hy]
  simp only [List.map_cons, List.map_nil]
  rw [Go.Lib.join_cons]
  simp [Go.Lib.joinTail, str]
 unfold impl_joinNumbers.f
 rw [e, if_pos]
 refine ⟨by simp, by simp; omega, ?_⟩
 unfold strings_Join.len
 rw [show [x, y].map impl_joinNumbers.dec = [impl_joinNumbers.dec x, impl_joinNumbers.dec y] from rfl, dec_dg x hx, dec_dg y hy]
 simp only [List.map_cons, List.map_nil]
 rw [Go.Lib.join_length]
 simp [Go.Lib.lens, str, dg]
theorem block_f (b : S41) (hb : (0 ≤ b.f0 ∧ b.f0 < 10) ∧ (0 ≤ b.f1 ∧ b.f1 < 10)) : impl_blockText.f b.f0 b.f1 b.f2 = some (str (tx b)) := by
 unfold impl_blockText.f
 rw [two_f _ _ _ hb.1 hb.2, two_f _ _ _ hb.1 hb.2]
 unfold tx sgn
 cases b.f2 <;> simp
theorem txt_f : ∀ (l : List S41), (∀ b ∈ l, (0 ≤ b.f0 ∧ b.f0 < 10) ∧ (0 ≤ b.f1 ∧ b.f1 < 10)) → impl_cityText.txt l = some (l.map fun b => str (tx b))
 | [], _ => rfl
 | b :: l, h => by
  have ih := txt_f l fun c hc => h c (by simp [hc])
  unfold impl_cityText.txt at ih ⊢
  rw [List.mapM_cons, block_f b (h b (by simp)), ih]
  rfl
def J (l : List S41) : List UInt8 := Go.Lib.join (l.map tx) [44]
theorem J_snoc (l : List S41) (b : S41) (hl : l ≠ []) : J (l ++ [b]) = J l ++ [44] ++ tx b := by
 cases l with
 | nil => exact absurd rfl hl
 | cons c l =>
  unfold J
  rw [List.cons_append, List.map_cons, List.map_cons, Go.Lib.join_cons, Go.Lib.join_cons]
  simp [Go.Lib.joinTail]
theorem J_len : ∀ (l : List S41), (J l).length ≤ 4 * l.length
 | [] => by simp [J, Go.Lib.join_nil]
 | b :: l => by
  have h : ∀ l : List S41, Go.Lib.lens (l.map tx) = 3 * l.length := by
   intro l
   induction l with
   | nil => rfl
   | cons c l ih => rw [List.map_cons, show Go.Lib.lens (tx c :: l.map tx) = (tx c).length + Go.Lib.lens (l.map tx) by simp [Go.Lib.lens], ih, tx_len, List.length_cons]; omega
  unfold J
  rw [List.map_cons, Go.Lib.join_length, ← List.map_cons, h]
  simp
  omega
theorem cat_f (l : List S41) : strings_Join.cat (l.map fun b => str (tx b)) (⟨#[44]⟩ : ByteArray) = str (J l) := by
 unfold strings_Join.cat J str
 rw [List.map_map]
 rfl
theorem len_f (l : List S41) : strings_Join.len (l.map fun b => str (tx b)) (⟨#[44]⟩ : ByteArray) = (J l).length := by
 unfold strings_Join.len J str
 rw [List.map_map]
 rfl
def base (w h : Int) : List UInt8 := dg w ++ [120] ++ dg h ++ [58]
theorem base_len (w h : Int) : (base w h).length = 4 := rfl
theorem avText_ev (w h : Int) (l : List S41) (hl : l.length ≤ 30) (hw : 0 ≤ w ∧ w < 10) (hh : 0 ≤ h ∧ h < 10) (hb : ∀ b ∈ l, (0 ≤ b.f0 ∧ b.f0 < 10) ∧ (0 ≤ b.f1 ∧ b.f1 < 10)) : Ev (fun k => spec_avText.f k w h l) (str (base w h ++ J l)) := by
 have key : ∀ (d i : Nat), i + d = l.length → Ev (fun k => spec_avText.l0 k (str (base w h ++ J (l.take i))) l (l.length : Int) (i : Int)) (str (base w h ++ J l)) := by
  intro d
  induction d with
  | zero =>
   intro i hi
   refine Ev.succ ?_
   simp only [spec_avText.l0]
   rw [List.take_of_length_le (by omega)]
   exact Ev.itef (by omega) (Ev.now _)
  | succ d ih =>
   intro i hi
   have hlt : i < l.length := by omega
   have ih := ih (i + 1) (by omega)
   have hw1 : wrap64 ((i : Int) + 1) = ((i + 1 : Nat) : Int) := by rw [w64 (by omega) (by omega)]; rfl
   have hbi := hb l[i] (List.getElem_mem hlt)
   have hJ := J_len (l.take i)
   have hti : (l.take i).length ≤ 30 := by simp; omega
   have one : ∀ (s : List UInt8), s.length ≤ 200 → str (s ++ tx l[i]) = str (base w h ++ J (l.take (i + 1))) → Ev (fun k => spec_avText.j1 k (str s) l (l.length : Int) (i : Int) l[i].f0 l[i].f1 l[i].f2) (str (base w h ++ J l)) := by
    intro s hs he
    refine Ev.succ ?_
    simp only [spec_avText.j1]
    rw [hw1]
    have h0 := num_ev l[i].f0 hbi.1
    have h1 := num_ev l[i].f1 hbi.2
    have z0 : (str (dg l[i].f0)).size = 1 := rfl
    have z1 : (str (dg l[i].f1)).size = 1 := rfl
    unfold tx sgn at he
    cases hu : l[i].f2
    ·rw [hu, if_neg (by decide)] at he
     refine Ev.itef (by simp) (Ev.bind h0 (Ev.itet (by rw [z0]; omega) (Ev.bind h1 (Ev.itet ?_ (Ev.itet ?_ ?_)))))
     ·rw [str_push, str_size]; simp [str_size, dg]
     ·rw [str_push, str_app, str_size, str_size]; simp [dg]; omega
     ·rw [str_push, str_app, str_app, ← List.append_assoc, ← List.append_assoc]
      rw [← List.append_assoc, ← List.append_assoc] at he
      rw [he]
      exact ih
    ·rw [hu, if_pos rfl] at he
     refine Ev.itet rfl (Ev.bind h0 (Ev.itet (by rw [z0]; omega) (Ev.bind h1 (Ev.itet ?_ (Ev.itet ?_ ?_)))))
     ·rw [str_push, str_size]; simp [str_size, dg]
     ·rw [str_push, str_app, str_size, str_size]; simp [dg]; omega
     ·rw [str_push, str_app, str_app, ← List.append_assoc, ← List.append_assoc]
      rw [← List.append_assoc, ← List.append_assoc] at he
      rw [he]
      exact ih
   refine Ev.succ ?_
   simp only [spec_avText.l0]
   rw [rdB_get l i hlt]
   refine Ev.itet (by omega) (Ev.itet (by omega) (Ev.itet (by omega) ?_))
   have etk : l.take (i + 1) = l.take i ++ [l[i]] := List.take_succ_eq_append_getElem hlt
   by_cases h0 : i = 0
   ·subst h0
    refine Ev.itef (by simp) (one _ (by simp [J, Go.Lib.join_nil, base_len]) ?_)
    rw [etk]
    simp [J, Go.Lib.join_nil, Go.Lib.join_one]
   ·refine Ev.itet (by omega) (Ev.itet ?_ ?_)
    ·rw [str_size, List.length_append, base_len]; omega
    ·rw [str_push]
     refine one _ (by simp only [List.length_append, base_len, List.length_cons, List.length_nil]; omega) ?_
     rw [etk, J_snoc _ _ (fun e => by have h9 := congrArg List.length e; rw [List.length_take, List.length_nil] at h9; omega)]
     simp only [List.append_assoc]
 unfold spec_avText.f
 have h0 := num_ev w hw
 have h1 := num_ev h hh
 have z0 : (str (dg w)).size = 1 := rfl
 refine Ev.bind h0 (Ev.itet (by rw [z0]; omega) (Ev.bind h1 (Ev.itet ?_ (Ev.itet ?_ ?_))))
 ·rw [str_push, str_size]; simp [str_size, dg]
 ·rw [str_push, str_app, str_size]; simp [dg]
 ·have := key l.length 0 (by omega)
  rw [str_push, str_app, str_push]
  simpa [base, J, Go.Lib.join_nil] using this
theorem cityText_f (w h : Int) (l : List S41) (hl : l.length ≤ 30) (hw : 0 ≤ w ∧ w < 10) (hh : 0 ≤ h ∧ h < 10) (hb : ∀ b ∈ l, (0 ≤ b.f0 ∧ b.f0 < 10) ∧ (0 ≤ b.f1 ∧ b.f1 < 10)) : impl_cityText.f w h l = some (str (base w h ++ J l)) := by
 have hJ := J_len l
 unfold impl_cityText.f
 rw [if_pos (by omega), txt_f l hb, Option.bind_some, two_f w h 120 hw hh, Option.bind_some, cat_f, len_f, if_pos]
 ·rw [str_push, str_app]
  rfl
 ·refine ⟨by omega, ?_, ?_⟩
  ·rw [str_size]; simp [dg]
  ·rw [str_size, str_size]; simp [dg]; omega
theorem both (w h : Int) (l : List S41) (hl : l.length ≤ 1048576) : ∃ r : ByteArray × Bool, Ev (fun k => spec_CityText.f k w h l) r ∧ Ev (fun k => impl_CityText.f k w h l) r := by
 have hg := avGood_ev w h l hl
 have hc := IsCity_ev w h l hl
 unfold spec_CityText.f impl_CityText.f
 cases hgg : good w h l <;> rw [hgg] at hg hc
 ·exact ⟨(⟨#[]⟩, false), Ev.bind hg (Ev.itef (by simp) (Ev.now _)), Ev.bind hc (Ev.itef (by simp) (Ev.now _))⟩
 ·obtain ⟨hw, hh, h30⟩ := good_wh hgg
  have hb : ∀ b ∈ l, (0 ≤ b.f0 ∧ b.f0 < 10) ∧ (0 ≤ b.f1 ∧ b.f1 < 10) := fun b hb => isB_small hw hh (good_isB w h l hgg b hb)
  refine ⟨(str (base w h ++ J l), true), Ev.bind hg (Ev.itet rfl (Ev.bind (avText_ev w h l h30 (by omega) (by omega) hb) (Ev.now _))), Ev.bind hc (Ev.itet rfl (Ev.bind (Ev.some_ fun _ => cityText_f w h l h30 (by omega) (by omega) hb) (Ev.now _)))⟩
theorem main : laws_FnExactCityText.Pure := by
 intro w hgt l _ _ hl _
 refine Ev.rounds ?_
 unfold laws_FnExactCityText.f
 rw [szCity_f w hgt l hl]
 simp only [Option.bind_some]
 by_cases h : l.length ≤ 1048576
 ·rw [if_pos h]
  have hm : (l.map conv).length ≤ 1048576 := by simpa using h
  obtain ⟨⟨r1, r2⟩, hs, hi⟩ := both w hgt (l.map conv) hm
  refine Ev.itef (by omega) (Ev.bind (toCity_ev w hgt l h) (Ev.bind hs (Ev.bind (toCity_ev w hgt l h) (Ev.bind hi (Ev.itet rfl (Ev.succ ?_))))))
  simp only [laws_FnExactCityText.j0]
  exact Ev.itef (by simp) (Ev.bind (toCity_ev w hgt l h) (Ev.bind (eqCity_ev w hgt _ hm) (Ev.itet rfl (Ev.now _))))
 ·rw [if_neg h]
  exact Ev.itet (by omega) (Ev.now _)
end CityText
theorem FnExactCityText : laws_FnExactCityText.Pure := CityText.main
end Go.Proofs.YtpedofomfhmnfaaDoor.Pure
