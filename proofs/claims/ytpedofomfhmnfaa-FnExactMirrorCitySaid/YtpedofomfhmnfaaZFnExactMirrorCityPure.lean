/- Cut by wip/cut.py out of the texts of this claim (printed by the kit's printer, or this session's own): what the row's theorem does not reach is struck. Not trusted: Lean checks it. -/
import Derived.Test.YtpedofomfhmnfaaZFnExactMirrorCityWalk
import Derived.Test.YtpedofomfhmnfaaZFnExactMirrorCityKit
namespace Go.Proofs.Ytpedofomfhmnfaa.Pure
open Go.RowKit Go.Proofs.YtpedofomfhmnfaaW.PrintWords Go.Proofs.YtpedofomfhmnfaaW.PrintLast Go.Proofs.YtpedofomfhmnfaaW.PrintMore Go.Proofs.YtpedofomfhmnfaaKit
open Go.Proofs.Ytpedofomfhmnfaa.PFnExactMirrorCity
namespace MirrorCity
theorem ge_le (a b c : Int) : (if a ≥ b then some (decide (a ≤ c)) else some false) = some (decide (b ≤ a ∧ a ≤ c)) := by
 by_cases h : a ≥ b
 ·rw [if_pos h]; simp [show b ≤ a from h]
 ·rw [if_neg h]; simp; omega
theorem l1In_f (a b c : Int) : spec_l1In.f a b c = some (decide (b ≤ a ∧ a ≤ c)) := by unfold spec_l1In.f; exact ge_le a b c
theorem within_f (a b c : Int) : impl_within.f a b c = some (decide (b ≤ a ∧ a ≤ c)) := by unfold impl_within.f; exact ge_le a b c
def conv (b : S56) : S58 := ⟨b.f0, b.f1, b.f2⟩
theorem rdL_get (l : List S56) (i : Nat) (h : i < l.length) : rd_T56 l (i : Int) = l[i] := by unfold rd_T56; simp [h]
theorem rdB_get (l : List S58) (i : Nat) (h : i < l.length) : rd_T58 l (i : Int) = l[i] := by unfold rd_T58; simp [h]
theorem toBlockS_ev (l : List S56) (hl : l.length ≤ 1048576) : Ev (fun k => laws_toBlockS.f k l) (l.map conv) := by
 unfold laws_toBlockS.f
 refine Ev.itet (by omega) (Ev.itet (by omega) ?_)
 have key : ∀ (d i : Nat), i + d = l.length → Ev (fun k => laws_toBlockS.l0 k l ((l.map conv).take i ++ List.replicate d z58) (i : Int)) (l.map conv) := by
  intro d
  induction d with
  | zero =>
   intro i hi
   refine Ev.stop fun k => ?_
   simp only [laws_toBlockS.l0]
   rw [if_neg (by omega), List.take_of_length_le (by simp; omega)]
   simp
  | succ d ih =>
   intro i hi
   have hlt : i < l.length := by omega
   have hlt2 : i < (l.map conv).length := by simp; omega
   refine Ev.to _ (fun k => ?_) (ih (i + 1) (by omega))
   simp only [laws_toBlockS.l0, laws_toBlock.f, Option.bind_some]
   rw [if_pos (by omega), if_pos (by omega), if_pos (by simp; omega), rdL_get l i hlt, w64 (by omega) (by omega)]
   have e : ((l.map conv).take i ++ List.replicate (d + 1) z58).set (i : Int).toNat (⟨l[i].f0, l[i].f1, l[i].f2⟩ : S58) = (l.map conv).take (i + 1) ++ List.replicate d z58 := by
    rw [List.take_succ_eq_append_getElem hlt2, Int.toNat_natCast, List.set_append_right _ _ (by simp; omega)]
    have h0 : i - ((l.map conv).take i).length = 0 := by simp; omega
    rw [h0, List.replicate_succ, List.set_cons_zero, List.append_assoc]
    simp [conv]
   rw [e]
   rfl
 have := key l.length 0 (by omega)
 simpa using this
theorem toCity_ev (a b : Int) (l : List S56) (hl : l.length ≤ 1048576) : Ev (fun k => laws_toCity.f k a b l) (a, b, l.map conv) := by
 unfold laws_toCity.f
 exact Ev.bind (toBlockS_ev l hl) (Ev.now _)
theorem eqBlockS_ev (l : List S58) (hl : l.length ≤ 1048576) : Ev (fun k => laws_eqBlockS.f k l l) true := by
 unfold laws_eqBlockS.f
 refine Ev.itet rfl ?_
 have key : ∀ (d i : Nat), i + d = l.length → Ev (fun k => laws_eqBlockS.l0 k l l (i : Int)) true := by
  intro d
  induction d with
  | zero => exact fun i hi => Ev.stop fun k => by simp only [laws_eqBlockS.l0]; rw [if_neg (by omega)]
  | succ d ih =>
   intro i hi
   refine Ev.to _ (fun k => ?_) (ih (i + 1) (by omega))
   have hw : wrap64 ((i : Int) + 1) = ((i + 1 : Nat) : Int) := by rw [w64 (by omega) (by omega)]; rfl
   simp only [laws_eqBlockS.l0, laws_eqBlock.f]
   rw [if_pos (by omega), if_pos (by omega), if_pos (by omega), hw]
   simp
 exact key l.length 0 (by omega)
theorem eqCity_ev (a b : Int) (l : List S58) (hl : l.length ≤ 1048576) : Ev (fun k => laws_eqCity.f k a b l a b l) true := by
 unfold laws_eqCity.f
 exact Ev.itet rfl (Ev.itet rfl (Ev.bind (eqBlockS_ev l hl) (Ev.itet rfl (Ev.now _))))
theorem szCity_f (a b : Int) (l : List S56) (hl : l.length ≤ maxLen) : laws_szCity.f a b l 1048576 = some (if l.length ≤ 1048576 then 1048576 - (l.length : Int) else -1) := by
 unfold laws_szCity.f laws_szBlockS.f
 unfold maxLen at hl
 rw [w64 (by omega) (by omega)]
 by_cases h : l.length ≤ 1048576
 ·rw [if_neg (by omega), Option.bind_some, if_neg (by omega), if_pos h]
 ·rw [if_pos (by omega), Option.bind_some, if_pos (by omega), if_neg h]
def isB (w h : Int) (b : S58) : Bool := if b.f2 = true then decide (0 ≤ b.f0 ∧ b.f0 ≤ w - 1) && decide (0 ≤ b.f1 ∧ b.f1 ≤ h - 2) else decide (0 ≤ b.f0 ∧ b.f0 ≤ w - 2) && decide (0 ≤ b.f1 ∧ b.f1 ≤ h - 1)
theorem isBlock_f (w h : Int) (l : List S58) (b : S58) (hw : 1 ≤ w ∧ w ≤ 8) (hh : 1 ≤ h ∧ h ≤ 8) : impl_isBlock.f w h l b.f0 b.f1 b.f2 = some (isB w h b) := by
 unfold impl_isBlock.f isB
 rw [w64 (x := w - 1) (by omega) (by omega), w64 (x := h - 2) (by omega) (by omega), w64 (x := w - 2) (by omega) (by omega), w64 (x := h - 1) (by omega) (by omega)]
 simp only [within_f, Option.bind_some]
 cases b.f2
 ·simp only [Bool.false_eq_true, if_false]
  cases decide (0 ≤ b.f0 ∧ b.f0 ≤ w - 2) <;> simp
 ·simp only [if_true]
  cases decide (0 ≤ b.f0 ∧ b.f0 ≤ w - 1) <;> simp
theorem avIs_ev (w h : Int) (b : S58) (hw : 1 ≤ w ∧ w ≤ 8) (hh : 1 ≤ h ∧ h ≤ 8) : Ev (fun k => spec_avIs.f k w h b.f0 b.f1 b.f2) (isB w h b) := by
 unfold spec_avIs.f isB
 rw [w64 (x := w - 1) (by omega) (by omega), w64 (x := h - 1) (by omega) (by omega)]
 simp only [l1In_f, Option.bind_some]
 have no : ∀ r, r = false → Ev (fun k => spec_avIs.j0 k w h true b.f0 b.f1 b.f2) r := by
  rintro r rfl
  refine Ev.succ ?_
  simp only [spec_avIs.j0]
  exact Ev.itet (by trivial) (Ev.now _)
 by_cases h0 : 0 ≤ b.f0 ∧ b.f0 ≤ w - 1
 ·rw [decide_eq_true h0]
  simp only [if_true]
  by_cases h1 : 0 ≤ b.f1 ∧ b.f1 ≤ h - 1
  ·rw [decide_eq_true h1]
   refine Ev.succ ?_
   simp only [spec_avIs.j0]
   refine Ev.itef (by simp) ?_
   rw [w64 (x := w - 1) (by omega) (by omega), w64 (x := h - 1) (by omega) (by omega)]
   cases b.f2
   ·simp only [Bool.false_eq_true, if_false]
    have e : (decide (0 ≤ b.f0 ∧ b.f0 ≤ w - 2) && true) = decide (b.f0 < w - 1) := by rw [Bool.and_true]; apply decide_eq_decide.mpr; omega
    rw [e]
    exact Ev.now _
   ·simp only [if_true]
    have e : (true && decide (0 ≤ b.f1 ∧ b.f1 ≤ h - 2)) = decide (b.f1 < h - 1) := by rw [Bool.true_and]; apply decide_eq_decide.mpr; omega
    rw [e]
    exact Ev.now _
  ·rw [decide_eq_false h1]
   refine no _ ?_
   have h2 : ¬ (0 ≤ b.f1 ∧ b.f1 ≤ h - 2) := by omega
   rw [decide_eq_false h2]
   split <;> simp
 ·rw [decide_eq_false h0]
  simp only [Bool.false_eq_true, if_false]
  refine no _ ?_
  have h2 : ¬ (0 ≤ b.f0 ∧ b.f0 ≤ w - 2) := by omega
  rw [decide_eq_false h2]
  split <;> simp
def less (b c : S58) : Bool := if b.f0 = c.f0 then (if b.f1 = c.f1 then (if b.f2 = true then false else c.f2) else decide (b.f1 < c.f1)) else decide (b.f0 < c.f0)
theorem avLess_f (b c : S58) : spec_avLess.f b.f0 b.f1 b.f2 c.f0 c.f1 c.f2 = some (less b c) := by
 unfold spec_avLess.f less
 repeat' split
 all_goals rfl
def cmpI (a b : Int) : Int := if a < b then -1 else if a > b then 1 else 0
theorem compare_f (a b : Int) : cmp_Compare_int.f a b = some (cmpI a b) := by
 unfold cmp_Compare_int.f cmp_isNaN_int.f cmpI
 simp only [Option.bind_some, bne_self_eq_false, Bool.false_eq_true, if_false]
 repeat' split
 all_goals rfl
def or3 (a b c : Int) : Int := if a = 0 then (if b = 0 then c else b) else a
theorem or_ev (a b c : Int) : Ev (fun k => cmp_Or_int.f k [a, b, c]) (or3 a b c) := by
 unfold cmp_Or_int.f or3
 refine Ev.succ ?_
 simp only [cmp_Or_int.l0]
 refine Ev.itet (by simp) (Ev.itet (by simp) (Ev.itet (by simp) ?_))
 rw [show rd [a, b, c] 0 = a from rfl, w64 (x := (0 : Int) + 1) (by omega) (by omega)]
 by_cases ha : a = 0
 ·rw [if_pos ha]
  refine Ev.itet ha (Ev.succ ?_)
  simp only [cmp_Or_int.l0]
  refine Ev.itet (by simp) (Ev.itet (by simp) (Ev.itet (by simp) ?_))
  rw [show rd [a, b, c] (0 + 1) = b from rfl, w64 (x := (0 : Int) + 1 + 1) (by omega) (by omega)]
  by_cases hb : b = 0
  ·rw [if_pos hb]
   refine Ev.itet hb (Ev.succ ?_)
   simp only [cmp_Or_int.l0]
   refine Ev.itet (by simp) (Ev.itet (by simp) (Ev.itet (by simp) ?_))
   rw [show rd [a, b, c] (0 + 1 + 1) = c from rfl, w64 (x := (0 : Int) + 1 + 1 + 1) (by omega) (by omega)]
   by_cases hc : c = 0
   ·refine Ev.itet hc (Ev.succ ?_)
    simp only [cmp_Or_int.l0]
    rw [hc]
    exact Ev.itef (by simp) (Ev.now _)
   ·exact Ev.itef hc (Ev.now _)
  ·rw [if_neg hb]
   exact Ev.itef hb (Ev.now _)
 ·rw [if_neg ha]
  exact Ev.itef ha (Ev.now _)
def cmpB (b c : S58) : Int := or3 (cmpI b.f0 c.f0) (cmpI b.f1 c.f1) (if (b.f2 != c.f2) = true then (if c.f2 = true then -1 else 1) else 0)
theorem compareBlocks_ev (b c : S58) : Ev (fun k => impl_compareBlocks.f k b.f0 b.f1 b.f2 c.f0 c.f1 c.f2) (cmpB b c) := by
 unfold impl_compareBlocks.f cmpB
 simp only [compare_f, Option.bind_some]
 by_cases h : (b.f2 != c.f2) = true
 ·rw [if_pos h]
  refine Ev.itet h ?_
  by_cases h2 : c.f2 = true
  ·rw [if_pos h2]
   exact Ev.itet h2 (Ev.bind (or_ev _ _ _) (Ev.now _))
  ·rw [if_neg h2]
   exact Ev.itef h2 (Ev.bind (or_ev _ _ _) (Ev.now _))
 ·rw [if_neg h]
  exact Ev.itef h (Ev.bind (or_ev _ _ _) (Ev.now _))
theorem cmpB_less (b c : S58) : (cmpB b c ≥ 0) ↔ less b c = false := by
 unfold cmpB less
 by_cases h0 : b.f0 = c.f0
 ·have e0 : cmpI b.f0 c.f0 = 0 := by unfold cmpI; rw [if_neg (by omega), if_neg (by omega)]
  rw [e0, if_pos h0]
  unfold or3
  rw [if_pos rfl]
  by_cases h1 : b.f1 = c.f1
  ·have e1 : cmpI b.f1 c.f1 = 0 := by unfold cmpI; rw [if_neg (by omega), if_neg (by omega)]
   rw [e1, if_pos rfl, if_pos h1]
   cases b.f2 <;> cases c.f2 <;> simp
  ·rw [if_neg h1]
   by_cases h2 : b.f1 < c.f1
   ·have e1 : cmpI b.f1 c.f1 = -1 := by unfold cmpI; rw [if_pos h2]
    rw [e1, if_neg (by decide), decide_eq_true h2]
    simp
   ·have e1 : cmpI b.f1 c.f1 = 1 := by unfold cmpI; rw [if_neg h2, if_pos (by omega)]
    rw [e1, if_neg (by decide), decide_eq_false h2]
    simp
 ·rw [if_neg h0]
  unfold or3
  by_cases h2 : b.f0 < c.f0
  ·have e1 : cmpI b.f0 c.f0 = -1 := by unfold cmpI; rw [if_pos h2]
   rw [e1, if_neg (by decide), decide_eq_true h2]
   simp
  ·have e1 : cmpI b.f0 c.f0 = 1 := by unfold cmpI; rw [if_neg h2, if_pos (by omega)]
   rw [e1, if_neg (by decide), decide_eq_false h2]
   simp
def okAt (w h : Int) (l : List S58) (i : Nat) : Bool := match l[i]? with
 | none => true
 | some c => isB w h c && (match i with
  | 0 => true
  | p + 1 => match l[p]? with
   | none => true
   | some b => less b c)
def chk (w h : Int) (l : List S58) : Nat → Nat → Bool
 | 0, _ => true
 | d + 1, i => okAt w h l i && chk w h l d (i + 1)
theorem avGood_l0 (w h : Int) (l : List S58) (hl : l.length ≤ 1048576) (hw : 1 ≤ w ∧ w ≤ 8) (hh : 1 ≤ h ∧ h ≤ 8) : ∀ d i : Nat, i + d = l.length → Ev (fun k => spec_avGood.l0 k l (l.length : Int) (i : Int) w h l) (chk w h l d i)
 | 0, i, hi => Ev.stop fun k => by simp only [spec_avGood.l0]; rw [if_neg (by omega)]; rfl
 | d + 1, i, hi => by
  have ih := avGood_l0 w h l hl hw hh d (i + 1) (by omega)
  have hlt : i < l.length := by omega
  have hwr : wrap64 ((i : Int) + 1) = ((i + 1 : Nat) : Int) := by rw [w64 (by omega) (by omega)]; rfl
  refine Ev.succ ?_
  simp only [spec_avGood.l0, chk, okAt, List.getElem?_eq_getElem hlt]
  rw [rdB_get l i hlt, hwr]
  refine Ev.itet (by omega) (Ev.itet (by omega) (Ev.itet (by omega) (Ev.bind (avIs_ev w h l[i] hw hh) ?_)))
  cases isB w h l[i]
  ·exact Ev.itef (by simp) (Ev.now _)
  ·refine Ev.itet rfl ?_
   match i, hlt, ih with
   | 0, _, ih => exact Ev.itef (by simp) (by simpa using ih)
   | p + 1, hlt, ih =>
    have hlp : p < l.length := by omega
    have hwp : wrap64 (((p + 1 : Nat) : Int) - 1) = (p : Int) := by rw [w64 (by omega) (by omega)]; omega
    rw [hwp, rdB_get l p hlp]
    simp only [List.getElem?_eq_getElem hlp, avLess_f, Option.bind_some]
    refine Ev.itet (by omega) (Ev.itet (by omega) (Ev.itet (by omega) ?_))
    cases less l[p] l[p + 1]
    ·exact Ev.itef (by simp) (Ev.now _)
    ·exact Ev.itet rfl (by simpa using ih)
theorem IsCity_l0 (w h : Int) (l : List S58) (hl : l.length ≤ 1048576) (hw : 1 ≤ w ∧ w ≤ 8) (hh : 1 ≤ h ∧ h ≤ 8) : ∀ d i : Nat, i + d = l.length → Ev (fun k => impl_IsCity.l0 k l (l.length : Int) (i : Int) w h l) (chk w h l d i)
 | 0, i, hi => Ev.stop fun k => by simp only [impl_IsCity.l0]; rw [if_neg (by omega)]; rfl
 | d + 1, i, hi => by
  have ih := IsCity_l0 w h l hl hw hh d (i + 1) (by omega)
  have hlt : i < l.length := by omega
  have hwr : wrap64 ((i : Int) + 1) = ((i + 1 : Nat) : Int) := by rw [w64 (by omega) (by omega)]; rfl
  refine Ev.succ ?_
  simp only [impl_IsCity.l0, chk, okAt, List.getElem?_eq_getElem hlt]
  rw [rdB_get l i hlt, hwr, isBlock_f w h l l[i] hw hh]
  simp only [Option.bind_some]
  refine Ev.itet (by omega) (Ev.itet (by omega) (Ev.itet (by omega) ?_))
  cases isB w h l[i]
  ·exact Ev.itef (by simp) (Ev.now _)
  ·refine Ev.itet rfl ?_
   match i, hlt, ih with
   | 0, _, ih => exact Ev.itef (by simp) (by simpa using ih)
   | p + 1, hlt, ih =>
    have hlp : p < l.length := by omega
    have hwp : wrap64 (((p + 1 : Nat) : Int) - 1) = (p : Int) := by rw [w64 (by omega) (by omega)]; omega
    rw [hwp, rdB_get l p hlp]
    simp only [List.getElem?_eq_getElem hlp]
    refine Ev.itet (by omega) (Ev.itet (by omega) (Ev.itet (by omega) (Ev.bind (compareBlocks_ev l[p] l[p + 1]) ?_)))
    cases hls : less l[p] l[p + 1]
    ·exact Ev.itet ((cmpB_less _ _).2 hls) (Ev.now _)
    ·exact Ev.itef (fun e => by rw [(cmpB_less _ _).1 e] at hls; cases hls) (by simpa using ih)
def good (w h : Int) (l : List S58) : Bool := decide (1 ≤ w ∧ w ≤ 8) && (decide (1 ≤ h ∧ h ≤ 8) && (decide (l.length ≤ 30) && chk w h l l.length 0))
theorem avGood_ev (w h : Int) (l : List S58) (hl : l.length ≤ 1048576) : Ev (fun k => spec_avGood.f k w h l) (good w h l) := by
 unfold spec_avGood.f good
 simp only [l1In_f, Option.bind_some]
 have no : ∀ r, r = false → Ev (fun k => spec_avGood.j0 k true w h l) r := by
  rintro r rfl
  refine Ev.succ ?_
  simp only [spec_avGood.j0]
  exact Ev.itet (by trivial) (Ev.now _)
 by_cases h0 : 1 ≤ w ∧ w ≤ 8
 ·rw [decide_eq_true h0]
  simp only [if_true, Bool.true_and]
  by_cases h1 : 1 ≤ h ∧ h ≤ 8
  ·rw [decide_eq_true h1]
   simp only [if_true, Bool.true_and]
   by_cases h2 : l.length ≤ 30
   ·rw [decide_eq_true h2, Bool.true_and, decide_eq_false (by omega)]
    refine Ev.succ ?_
    simp only [spec_avGood.j0]
    exact Ev.itef (by simp) (avGood_l0 w h l hl h0 h1 l.length 0 (by omega))
   ·rw [decide_eq_false h2, Bool.false_and, decide_eq_true (by omega)]
    exact no _ rfl
  ·rw [decide_eq_false h1]
   simp only [Bool.false_eq_true, if_false, Bool.false_and]
   exact no _ rfl
 ·rw [decide_eq_false h0]
  simp only [Bool.false_eq_true, if_false, Bool.false_and]
  exact no _ rfl
theorem IsCity_ev (w h : Int) (l : List S58) (hl : l.length ≤ 1048576) : Ev (fun k => impl_IsCity.f k w h l) (good w h l) := by
 unfold impl_IsCity.f good
 simp only [within_f, Option.bind_some]
 have no : ∀ r, r = false → Ev (fun k => impl_IsCity.j0 k true w h l) r := by
  rintro r rfl
  refine Ev.succ ?_
  simp only [impl_IsCity.j0]
  exact Ev.itet (by trivial) (Ev.now _)
 by_cases h0 : 1 ≤ w ∧ w ≤ 8
 ·rw [decide_eq_true h0]
  simp only [if_true, Bool.true_and]
  by_cases h1 : 1 ≤ h ∧ h ≤ 8
  ·rw [decide_eq_true h1]
   simp only [if_true, Bool.true_and]
   by_cases h2 : l.length ≤ 30
   ·rw [decide_eq_true h2, Bool.true_and, decide_eq_false (by omega)]
    refine Ev.succ ?_
    simp only [impl_IsCity.j0]
    exact Ev.itef (by simp) (IsCity_l0 w h l hl h0 h1 l.length 0 (by omega))
   ·rw [decide_eq_false h2, Bool.false_and, decide_eq_true (by omega)]
    exact no _ rfl
  ·rw [decide_eq_false h1]
   simp only [Bool.false_eq_true, if_false, Bool.false_and]
   exact no _ rfl
 ·rw [decide_eq_false h0]
  simp only [Bool.false_eq_true, if_false, Bool.false_and]
  exact no _ rfl
theorem good_wh {w h : Int} {l : List S58} (hg : good w h l = true) : (1 ≤ w ∧ w ≤ 8) ∧ (1 ≤ h ∧ h ≤ 8) ∧ l.length ≤ 30 := by
 unfold good at hg
 simp only [Bool.and_eq_true, decide_eq_true_eq] at hg
 exact ⟨hg.1, hg.2.1, hg.2.2.1⟩
def mkB (j : Nat) : S58 := ⟨1 + 3 * (j : Int), 1 + 3 * (j : Int) + 1, (Int.tmod (1 + 3 * (j : Int) + 1 + 1) 3 == 0)⟩
def marks (n : Nat) : List S58 := (List.range n).map mkB
theorem rd_set (l : List S58) (i : Nat) (x : S58) (h : i < l.length) : rd_T58 (l.set i x) (i : Int) = x := by
 rw [rdB_get _ i (by simpa using h)]
 simp
theorem markCity_marks (w h : Int) (l : List S58) (hl : l.length ≤ 1048576) : Ev (fun k => laws_markCity.f k w h l 1) (1 + 3 * (l.length : Int), marks l.length) := by
 have key : ∀ (d i : Nat) (l : List S58), i + d = l.length → l.length ≤ 1048576 → l.take i = marks i → Ev (fun k => laws_markBlockS.l0 k l (1 + 3 * (i : Int)) (i : Int)) (1 + 3 * (l.length : Int), marks l.length) := by
  intro d
  induction d with
  | zero =>
   intro i l hi hl ht
   refine Ev.stop fun k => ?_
   simp only [laws_markBlockS.l0]
   rw [if_neg (by omega)]
   rw [List.take_of_length_le (by omega)] at ht
   rw [show i = l.length by omega] at ht ⊢
   rw [← ht]
  | succ d ih =>
   intro i l hi hl ht
   have hlt : i < l.length := by omega
   have ih := ih (i + 1) (l.set i (mkB i)) (by simp; omega) (by simp; omega) (by
    rw [List.take_succ_eq_append_getElem (by simpa using hlt), List.take_set_of_le (Nat.le_refl i), ht]
    simp [marks, List.range_succ])
   rw [List.length_set] at ih
   have e9 : 1 + 3 * ((i + 1 : Nat) : Int) = 1 + 3 * (i : Int) + 1 + 1 + 1 := by omega
   rw [e9] at ih
   refine Ev.succ ?_
   simp only [laws_markBlockS.l0, Option.bind_some]
   rw [w64 (x := 1 + 3 * (i : Int) + 1) (by omega) (by omega), w64 (x := 1 + 3 * (i : Int) + 1 + 1) (by omega) (by omega), w64 (x := 1 + 3 * (i : Int) + 1 + 1 + 1) (by omega) (by omega), w64 (x := (i : Int) + 1) (by omega) (by omega)]
   refine Ev.itet (by omega) (Ev.itet (by omega) ?_)
   rw [Int.toNat_natCast, rd_set l i _ hlt, rd_set (l.set i _) i _ (by simpa using hlt), List.set_set, List.set_set]
   exact ih
 unfold laws_markCity.f laws_markBlockS.f
 have := key l.length 0 l (by omega) hl (by simp [marks])
 exact Ev.bind (by simpa using this) (Ev.now _)
theorem heldCity_marks (w h : Int) (n : Nat) (hn : n ≤ 1048576) : Ev (fun k => laws_heldCity.f k w h (marks n) 1) (1 + 3 * (n : Int)) := by
 have hlen : (marks n).length = n := by simp [marks]
 have key : ∀ (d i : Nat), i + d = n → Ev (fun k => laws_heldBlockS.l0 k (marks n) (1 + 3 * (i : Int)) (i : Int)) (1 + 3 * (n : Int)) := by
  intro d
  induction d with
  | zero =>
   intro i hi
   refine Ev.stop fun k => ?_
   simp only [laws_heldBlockS.l0]
   rw [if_neg (by omega), show i = n by omega]
  | succ d ih =>
   intro i hi
   have ih := ih (i + 1) (by omega)
   have e9 : 1 + 3 * ((i + 1 : Nat) : Int) = 1 + 3 * (i : Int) + 1 + 1 + 1 := by omega
   rw [e9] at ih
   have hg : rd_T58 (marks n) (i : Int) = mkB i := by
    rw [rdB_get _ i (by omega)]
    simp [marks]
   refine Ev.succ ?_
   simp only [laws_heldBlockS.l0]
   rw [hg, w64 (x := 1 + 3 * (i : Int) + 1) (by omega) (by omega), w64 (x := 1 + 3 * (i : Int) + 1 + 1) (by omega) (by omega), w64 (x := 1 + 3 * (i : Int) + 1 + 1 + 1) (by omega) (by omega), w64 (x := (i : Int) + 1) (by omega) (by omega)]
   exact Ev.itet (by omega) (Ev.itet (by omega) (Ev.itet rfl (Ev.itet rfl (Ev.itef (by simp [mkB]) ih))))
 unfold laws_heldCity.f laws_heldBlockS.f
 have := key n 0 (by omega)
 exact Ev.bind (by simpa using this) (Ev.itef (by omega) (Ev.now _))
def SN (xs : List S58) : List S58 := impl_Block_66.sorted xs
theorem less_lt (b c : S58) : Go.Proofs.ltOf impl_Block_66.cf b c = less b c := by
 rw [impl_Block_66.lt_eq]
 unfold impl_Block_66.lt less
 obtain ⟨a, d, u⟩ := b
 obtain ⟨e, f, v⟩ := c
 simp only
 by_cases h0 : a = e
 ·rw [if_pos h0]
  by_cases h1 : d = f
  ·rw [if_pos h1]
   subst h0 h1
   cases u <;> cases v <;> simp
  ·rw [if_neg h1]
   apply decide_eq_decide.mpr
   omega
 ·rw [if_neg h0]
  apply decide_eq_decide.mpr
  omega
theorem less_irr (b : S58) : less b b = false := by rw [← less_lt]; exact impl_Block_66.swo.irrefl b
theorem less_tr (a b c : S58) (h1 : less a b = true) (h2 : less b c = true) : less a c = true := by rw [← less_lt] at *; exact impl_Block_66.swo.trans a b c h1 h2
theorem less_ntr (a b c : S58) (h1 : less a b = false) (h2 : less b c = false) : less a c = false := by rw [← less_lt] at *; exact impl_Block_66.swo.ntrans a b c h1 h2
theorem less_asy (a b : S58) (h1 : less a b = true) : less b a = false := by
 cases h : less b a
 ·rfl
 ·have := less_tr _ _ _ h1 h; rw [less_irr] at this; cases this
theorem less_tot (a b : S58) (h1 : less a b = false) (h2 : less b a = false) : a = b := by rw [← less_lt] at *; exact impl_Block_66.tot a b h1 h2
def put : List S58 → S58 → List S58
 | [], b => [b]
 | c :: l, b => if less c b = true then c :: put l b else b :: c :: l
theorem put_perm : ∀ (l : List S58) (b : S58), (put l b).Perm (b :: l)
 | [], b => .refl _
 | c :: l, b => by
  unfold put
  split
  ·exact ((put_perm l b).cons c).trans (.swap _ _ _)
  ·exact .refl _
theorem put_len (l : List S58) (b : S58) : (put l b).length = l.length + 1 := by rw [(put_perm l b).length_eq]; rfl
abbrev Up (l : List S58) : Prop := l.Pairwise fun x y => less y x = false
theorem put_up : ∀ (l : List S58) (b : S58), Up l → Up (put l b)
 | [], b, _ => List.pairwise_singleton _ _
 | c :: l, b, h => by
  obtain ⟨h1, h2⟩ := List.pairwise_cons.1 h
  unfold put
  split
  ·rename_i hl
   refine List.pairwise_cons.2 ⟨fun y hy => ?_, put_up l b h2⟩
   rcases List.mem_cons.1 ((put_perm l b).mem_iff.1 hy) with rfl | hy
   ·exact less_asy _ _ hl
   ·exact h1 y hy
  ·rename_i hl
   have hl : less c b = false := by simpa using hl
   refine List.pairwise_cons.2 ⟨fun y hy => ?_, h⟩
   rcases List.mem_cons.1 hy with rfl | hy
   ·exact hl
   ·exact less_ntr _ _ _ (h1 y hy) hl
theorem SN_eq (xs ys : List S58) (hu : Up ys) (hp : ys.Perm xs) : SN xs = ys := by
 unfold SN impl_Block_66.sorted
 refine List.Perm.eq_of_pairwise (le := fun x y => less y x = false) (fun a b _ _ h1 h2 => less_tot _ _ h2 h1) ?_ hu ((List.mergeSort_perm _ _).trans hp.symm)
 refine (List.pairwise_mergeSort (le := fun x y => !(Go.Proofs.ltOf impl_Block_66.cf) y x) (fun a b c h1 h2 => ?_) (fun a b => ?_) xs).imp (fun {a b} h => ?_)
 ·rw [less_lt] at *
  simp only [Bool.not_eq_true'] at *
  exact less_ntr _ _ _ h2 h1
 ·rw [less_lt, less_lt]
  cases h : less b a
  ·simp
  ·rw [less_asy _ _ h]; simp
 ·rw [less_lt] at h
  simpa using h
theorem avClose_ev (w h : Int) (l : List S58) (hl : l.length ≤ 1048576) (b : S58) : Ev (fun k => spec_avClose.f k w h l b.f0 b.f1 b.f2) (w, h, put l b) := by
 unfold spec_avClose.f
 have key : ∀ (d i : Nat), i + d = l.length → Ev (fun k => spec_avClose.l0 k (i : Int) w h l b.f0 b.f1 b.f2) (w, h, l.take i ++ put (l.drop i) b) := by
  intro d
  induction d with
  | zero =>
   intro i hi
   refine Ev.succ ?_
   simp only [spec_avClose.l0, Option.bind_some]
   rw [List.drop_eq_nil_of_le (by omega), Int.toNat_natCast, List.drop_eq_nil_of_le (by omega)]
   refine Ev.itef (by omega) (Ev.itet (by omega) (Ev.itet (by omega) (Ev.itet (by simp; omega) (Ev.itet (by simp; omega) (Ev.itet (by simp; omega) ?_)))))
   simpa [put] using Ev.now (w, h, l.take i ++ [b])
  | succ d ih =>
   intro i hi
   have hlt : i < l.length := by omega
   have ih := ih (i + 1) (by omega)
   have hw : wrap64 ((i : Int) + 1) = ((i + 1 : Nat) : Int) := by rw [w64 (by omega) (by omega)]; rfl
   refine Ev.succ ?_
   simp only [spec_avClose.l0, Option.bind_some]
   rw [rdB_get l i hlt, hw, avLess_f]
   simp only [Option.bind_some]
   refine Ev.itet (by omega) (Ev.itet (by omega) ?_)
   rw [List.drop_eq_getElem_cons hlt]
   unfold put
   cases hs : less l[i] b
   ·refine Ev.itef (by simp) (Ev.itet (by omega) ?_)
    rw [Int.toNat_natCast]
    change Ev _ (w, h, l.take i ++ b :: l[i] :: l.drop (i + 1))
    refine Ev.itet (by simp; omega) (Ev.itet (by simp; omega) (Ev.itet (by simp; omega) ?_))
    have e : (w, h, [] ++ l.take i ++ [(⟨b.f0, b.f1, b.f2⟩ : S58)] ++ l.drop i) = (w, h, l.take i ++ b :: l[i] :: l.drop (i + 1)) := by rw [List.drop_eq_getElem_cons hlt]; simp
    rw [e]
    exact Ev.now _
   ·refine Ev.itet rfl ?_
    have e : l.take (i + 1) ++ put (l.drop (i + 1)) b = l.take i ++ l[i] :: put (l.drop (i + 1)) b := by rw [List.take_succ_eq_append_getElem hlt, List.append_assoc]; rfl
    rw [e] at ih
    exact ih
 have := key l.length 0 (by omega)
 simpa using this
theorem fold_up : ∀ (xs acc : List S58), Up acc → Up (xs.foldl put acc)
 | [], _, h => h
 | x :: xs, acc, h => fold_up xs _ (put_up acc x h)
theorem fold_perm : ∀ (xs acc : List S58), (xs.foldl put acc).Perm (acc ++ xs)
 | [], acc => by simp
 | x :: xs, acc => (fold_perm xs (put acc x)).trans (((put_perm acc x).append_right xs).trans (List.perm_middle (l₁ := acc) (a := x) (l₂ := xs)).symm)
theorem SN_fold (xs : List S58) : SN xs = xs.foldl put [] := SN_eq _ _ (fold_up xs [] List.Pairwise.nil) (by simpa using fold_perm xs [])
theorem fold_len (xs : List S58) : (xs.foldl put []).length = xs.length := by rw [(fold_perm xs []).length_eq]; simp
def mir (w : Int) (b : S58) : S58 := impl_MirrorCity.mir w b
theorem avMirror_ev (w h : Int) (l : List S58) (hl : l.length ≤ 30) : Ev (fun k => spec_avMirror.f k w h l) (w, h, (l.map (mir w)).foldl put []) := by
 unfold spec_avMirror.f
 have key : ∀ (d i : Nat) (acc : List S58), i + d = l.length → acc.length = i → Ev (fun k => spec_avMirror.l0 k l (l.length : Int) (i : Int) w h l w h acc) (w, h, ((l.drop i).map (mir w)).foldl put acc) := by
  intro d
  induction d with
  | zero =>
   intro i acc hi ha
   refine Ev.stop fun k => ?_
   simp only [spec_avMirror.l0]
   rw [if_neg (by omega), List.drop_eq_nil_of_le (by omega)]
   rfl
  | succ d ih =>
   intro i acc hi ha
   have hlt : i < l.length := by omega
   have ih := ih (i + 1) (put acc (mir w l[i])) (by omega) (by rw [put_len]; omega)
   have hw : wrap64 ((i : Int) + 1) = ((i + 1 : Nat) : Int) := by rw [w64 (by omega) (by omega)]; rfl
   have hc := avClose_ev w h acc (by omega) (mir w l[i])
   refine Ev.succ ?_
   simp only [spec_avMirror.l0]
   rw [rdB_get l i hlt, hw, List.drop_eq_getElem_cons hlt, List.map_cons, List.foldl_cons]
   refine Ev.itet (by omega) (Ev.itet (by omega) (Ev.itet (by omega) ?_))
   have em : mir w l[i] = if l[i].f2 = true then ⟨wrap64 (wrap64 (w - 1) - l[i].f0), l[i].f1, l[i].f2⟩ else ⟨wrap64 (wrap64 (wrap64 (w - 1) - l[i].f0) - 1), l[i].f1, l[i].f2⟩ := by
    unfold mir impl_MirrorCity.mir
    simp only [i64_w]
   cases hu : l[i].f2
   ·rw [hu, if_neg (by decide)] at em
    rw [em] at hc ih ⊢
    exact Ev.itef (by decide) (Ev.bind hc ih)
   ·rw [hu, if_pos rfl] at em
    rw [em] at hc ih ⊢
    exact Ev.itet rfl (Ev.bind hc ih)
 have := key l.length 0 [] (by omega) rfl
 simpa using this
theorem both (w h : Int) (l : List S58) (hl : l.length ≤ 1048576) : ∃ r : Int × Int × List S58 × Bool, r.2.2.1.length ≤ 1048576 ∧ Ev (fun k => spec_MirrorCity.f k w h l) r ∧ Ev (fun k => impl_MirrorCity.f k w h l) r := by
 have hg := avGood_ev w h l hl
 have hc := IsCity_ev w h l hl
 unfold spec_MirrorCity.f impl_MirrorCity.f
 cases hgg : good w h l <;> rw [hgg] at hg hc
 ·exact ⟨(0, 0, [], false), by simp, Ev.bind hg (Ev.itef (by simp) (Ev.now _)), Ev.bind hc (Ev.itef (by simp) (Ev.now _))⟩
 ·obtain ⟨hw, hh, h30⟩ := good_wh hgg
  refine ⟨(w, h, (l.map (mir w)).foldl put [], true), by rw [fold_len]; simpa using hl, Ev.bind hg (Ev.itet rfl (Ev.bind (avMirror_ev w h l h30) (Ev.now _))), Ev.bind hc (Ev.itet rfl ?_)⟩
  have e : SN (l.map (mir w)) = (l.map (mir w)).foldl put [] := SN_fold _
  unfold impl_Block_55.f impl_Block_66.f
  rw [if_pos (by omega), Option.bind_some, if_pos (by omega), if_pos (by simp; omega), Option.bind_some]
  change Ev (fun k => some (w, h, SN (l.map (mir w)), true)) _
  rw [e]
  exact Ev.now _
theorem main : laws_FnExactMirrorCity.Pure := by
 intro w hgt l _ _ hl _
 refine Ev.rounds ?_
 unfold laws_FnExactMirrorCity.f
 rw [szCity_f w hgt l hl]
 simp only [Option.bind_some]
 by_cases h : l.length ≤ 1048576
 ·rw [if_pos h]
  have hm : (l.map conv).length ≤ 1048576 := by simpa using h
  obtain ⟨⟨r1, r2, r3, r4⟩, hr, hs, hi⟩ := both w hgt (l.map conv) hm
  simp only at hr
  have hmk := markCity_marks w hgt (l.map conv) hm
  have hmr := markCity_marks r1 r2 r3 hr
  have hhr := heldCity_marks r1 r2 r3.length hr
  have heq := eqCity_ev r1 r2 r3 hr
  refine Ev.itef (by omega) (Ev.bind (toCity_ev w hgt l h) (Ev.bind hs (Ev.bind (toCity_ev w hgt l h) (Ev.bind hi (Ev.bind heq (Ev.itet rfl (Ev.succ ?_)))))))
  simp only [laws_FnExactMirrorCity.j0]
  refine Ev.itef (by simp) (Ev.bind (toCity_ev w hgt l h) (Ev.bind (eqCity_ev w hgt _ hm) (Ev.itet rfl (Ev.bind hmk (Ev.itef (by omega) (Ev.bind heq (Ev.itet rfl (Ev.succ ?_))))))))
  simp only [laws_FnExactMirrorCity.j1]
  refine Ev.itef (by simp) (Ev.bind hmr (Ev.bind hhr (Ev.itef (by omega) (Ev.itet rfl (Ev.bind (toCity_ev w hgt l h) (Ev.bind hi (Ev.bind heq (Ev.itet rfl (Ev.succ ?_)))))))))
  simp only [laws_FnExactMirrorCity.j2]
  exact Ev.itef (by simp) (Ev.bind hhr (Ev.itef (by omega) (Ev.itet rfl (Ev.now _))))
 ·rw [if_neg h]
  exact Ev.itet (by omega) (Ev.now _)
end MirrorCity
theorem FnExactMirrorCity : laws_FnExactMirrorCity.Pure := MirrorCity.main
end Go.Proofs.Ytpedofomfhmnfaa.Pure
