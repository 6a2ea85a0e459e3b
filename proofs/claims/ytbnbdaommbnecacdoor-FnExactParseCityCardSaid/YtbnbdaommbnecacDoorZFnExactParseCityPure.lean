/- Cut by wip/cut.py out of the texts of this claim (printed by the kit's printer, or this session's own): what the row's theorem does not reach is struck. Not trusted: Lean checks it. -/
import Derived.Test.YtbnbdaommbnecacDoorZFnExactParseCityPx13
import Derived.Test.YtbnbdaommbnecacDoorZFnExactParseCityKit
namespace Go.Proofs.YtbnbdaommbnecacDoor.Pure
open Go.RowKit Go.Proofs.YtbnbdaommbnecacDoorW.PrintWords Go.Proofs.YtbnbdaommbnecacDoorW.PrintLast Go.Proofs.YtbnbdaommbnecacDoorW.PrintMore Go.Proofs.YtbnbdaommbnecacDoorKit
open Go.Proofs.YtbnbdaommbnecacDoor.PFnExactParseCity
namespace ParseCity
theorem ge_le (a b c : Int) : (if a ≥ b then some (decide (a ≤ c)) else some false) = some (decide (b ≤ a ∧ a ≤ c)) := by
 by_cases h : a ≥ b
 ·rw [if_pos h]; simp [show b ≤ a from h]
 ·rw [if_neg h]; simp; omega
theorem l1In_f (a b c : Int) : spec_l1In.f a b c = some (decide (b ≤ a ∧ a ≤ c)) := by unfold spec_l1In.f; exact ge_le a b c
theorem within_f (a b c : Int) : impl_within.f a b c = some (decide (b ≤ a ∧ a ≤ c)) := by unfold impl_within.f; exact ge_le a b c
theorem rdB_get (l : List S39) (i : Nat) (h : i < l.length) : qk l (i : Int) = l[i] := by unfold qk; simp [h]
theorem eqBlockS_ev (l : List S39) (hl : l.length ≤ 1048576) : Ev (fun k => laws_eqBlockS.f k l l) true := by
 unfold laws_eqBlockS.f
 refine Ev.itet rfl ?_
 have key : ∀ (d i : Nat), i + d = l.length → Ev (fun k => laws_eqBlockS.l0 k l l (i : Int)) true := by
  intro d
  induction d with
  | zero => exact fun i hi => Ev.stop fun k => by simp only [laws_eqBlockS.l0]; rw [if_neg (by omega)]
  | succ d ih =>
   intro i hi
   refine Ev.to _ (fun k => ?_) (ih (i + 1) (by omega))
   have hw : wrap64 ((i : Int) + 1) = ((i + 1 : Nat) : Int) := by rw [w64 (by omega) (by omega)]; rfl
   simp only [laws_eqBlockS.l0, laws_eqBlock.f]
   rw [if_pos (by omega), if_pos (by omega), if_pos (by omega), hw]
   simp
 exact key l.length 0 (by omega)
theorem eqCity_ev (a b : Int) (l : List S39) (hl : l.length ≤ 1048576) : Ev (fun k => laws_eqCity.f k a b l a b l) true := by
 unfold laws_eqCity.f
 exact Ev.itet rfl (Ev.itet rfl (Ev.bind (eqBlockS_ev l hl) (Ev.itet rfl (Ev.now _))))
def isB (w h : Int) (b : S39) : Bool := if b.f2 = true then decide (0 ≤ b.f0 ∧ b.f0 ≤ w - 1) && decide (0 ≤ b.f1 ∧ b.f1 ≤ h - 2) else decide (0 ≤ b.f0 ∧ b.f0 ≤ w - 2) && decide (0 ≤ b.f1 ∧ b.f1 ≤ h - 1)
theorem isBlock_f (w h : Int) (l : List S39) (b : S39) (hw : 1 ≤ w ∧ w ≤ 8) (hh : 1 ≤ h ∧ h ≤ 8) : impl_isBlock.f w h l b.f0 b.f1 b.f2 = some (isB w h b) := by
 unfold impl_isBlock.f isB
 rw [w64 (x := w - 1) (by omega) (by omega), w64 (x := h - 2) (by omega) (by omega), w64 (x := w - 2) (by omega) (by omega), w64 (x := h - 1) (by omega) (by omega)]
 simp only [within_f, Option.bind_some]
 cases b.f2
 ·simp only [Bool.false_eq_true, if_false]
  cases decide (0 ≤ b.f0 ∧ b.f0 ≤ w - 2) <;> simp
 ·simp only [if_true]
  cases decide (0 ≤ b.f0 ∧ b.f0 ≤ w - 1) <;> simp
theorem avIs_ev (w h : Int) (b : S39) (hw : 1 ≤ w ∧ w ≤ 8) (hh : 1 ≤ h ∧ h ≤ 8) : Ev (fun k => spec_avIs.f k w h b.f0 b.f1 b.f2) (isB w h b) := by
 unfold spec_avIs.f isB
 rw [w64 (x := w - 1) (by omega) (by omega), w64 (x := h - 1) (by omega) (by omega)]
 simp only [l1In_f, Option.bind_some]
 have no : ∀ r, r = false → Ev (fun k => spec_avIs.j0 k w h true b.f0 b.f1 b.f2) r := by
  rintro r rfl
  refine Ev.succ ?_
  simp only [spec_avIs.j0]
  exact Ev.itet (by trivial) (Ev.now _)
 by_cases h0 : 0 ≤ b.f0 ∧ b.f0 ≤ w - 1
 ·rw [decide_eq_true h0]
  simp only [if_true]
  by_cases h1 : 0 ≤ b.f1 ∧ b.f1 ≤ h - 1
  ·rw [decide_eq_true h1]
   refine Ev.succ ?_
   simp only [spec_avIs.j0]
   refine Ev.itef (by simp) ?_
   rw [w64 (x := w - 1) (by omega) (by omega), w64 (x := h - 1) (by omega) (by omega)]
   cases b.f2
   ·simp only [Bool.false_eq_true, if_false]
    have e : (decide (0 ≤ b.f0 ∧ b.f0 ≤ w - 2) && true) = decide (b.f0 < w - 1) := by rw [Bool.and_true]; apply decide_eq_decide.mpr; omega
    rw [e]
    exact Ev.now _
   ·simp only [if_true]
    have e : (true && decide (0 ≤ b.f1 ∧ b.f1 ≤ h - 2)) = decide (b.f1 < h - 1) := by rw [Bool.true_and]; apply decide_eq_decide.mpr; omega
    rw [e]
    exact Ev.now _
  ·rw [decide_eq_false h1]
   refine no _ ?_
   have h2 : ¬ (0 ≤ b.f1 ∧ b.f1 ≤ h - 2) := by omega
   rw [decide_eq_false h2]
   split <;> simp
 ·rw [decide_eq_false h0]
  simp only [Bool.false_eq_true, if_false]
  refine no _ ?_
  have h2 : ¬ (0 ≤ b.f0 ∧ b.f0 ≤ w - 2) := by omega
  rw [decide_eq_false h2]
  split <;> simp
def less (b c : S39) : Bool := if b.f0 = c.f0 then (if b.f1 = c.f1 then (if b.f2 = true then false else c.f2) else decide (b.f1 < c.f1)) else decide (b.f0 < c.f0)
theorem avLess_f (b c : S39) : spec_avLess.f b.f0 b.f1 b.f2 c.f0 c.f1 c.f2 = some (less b c) := by
 unfold spec_avLess.f less
 repeat' split
 all_goals rfl
def cmpI (a b : Int) : Int := if a < b then -1 else if a > b then 1 else 0
theorem compare_f (a b : Int) : cmp_Compare_int.f a b = some (cmpI a b) := by
 unfold cmp_Compare_int.f cmp_isNaN_int.f cmpI
 simp only [Option.bind_some, bne_self_eq_false, Bool.false_eq_true, if_false]
 repeat' split
 all_goals rfl
def or3 (a b c : Int) : Int := if a = 0 then (if b = 0 then c else b) else a
theorem or_ev (a b c : Int) : Ev (fun k => cmp_Or_int.f k [a, b, c]) (or3 a b c) := by
 unfold cmp_Or_int.f or3
 refine Ev.succ ?_
 simp only [cmp_Or_int.l0]
 refine Ev.itet (by simp) (Ev.itet (by simp) (Ev.itet (by simp) ?_))
 rw [show rd [a, b, c] 0 = a from rfl, w64 (x := (0 : Int) + 1) (by omega) (by omega)]
 by_cases ha : a = 0
 ·rw [if_pos ha]
  refine Ev.itet ha (Ev.succ ?_)
  simp only [cmp_Or_int.l0]
  refine Ev.itet (by simp) (Ev.itet (by simp) (Ev.itet (by simp) ?_))
  rw [show rd [a, b, c] (0 + 1) = b from rfl, w64 (x := (0 : Int) + 1 + 1) (by omega) (by omega)]
  by_cases hb : b = 0
  ·rw [if_pos hb]
   refine Ev.itet hb (Ev.succ ?_)
   simp only [cmp_Or_int.l0]
   refine Ev.itet (by simp) (Ev.itet (by simp) (Ev.itet (by simp) ?_))
   rw [show rd [a, b, c] (0 + 1 + 1) = c from rfl, w64 (x := (0 : Int) + 1 + 1 + 1) (by omega) (by omega)]
   by_cases hc : c = 0
   ·refine Ev.itet hc (Ev.succ ?_)
    simp only [cmp_Or_int.l0]
    rw [hc]
    exact Ev.itef (by simp) (Ev.now _)
   ·exact Ev.itef hc (Ev.now _)
  ·rw [if_neg hb]
   exact Ev.itef hb (Ev.now _)
 ·rw [if_neg ha]
  exact Ev.itef ha (Ev.now _)
def cmpB (b c : S39) : Int := or3 (cmpI b.f0 c.f0) (cmpI b.f1 c.f1) (if (b.f2 != c.f2) = true then (if c.f2 = true then -1 else 1) else 0)
theorem compareBlocks_ev (b c : S39) : Ev (fun k => impl_compareBlocks.f k b.f0 b.f1 b.f2 c.f0 c.f1 c.f2) (cmpB b c) := by
 unfold impl_compareBlocks.f cmpB
 simp only [compare_f, Option.bind_some]
 by_cases h : (b.f2 != c.f2) = true
 ·rw [if_pos h]
  refine Ev.itet h ?_
  by_cases h2 : c.f2 = true
  ·rw [if_pos h2]
   exact Ev.itet h2 (Ev.bind (or_ev _ _ _) (Ev.now _))
  ·rw [if_neg h2]
   exact Ev.itef h2 (Ev.bind (or_ev _ _ _) (Ev.now _))
 ·rw [if_neg h]
  exact Ev.itef h (Ev.bind (or_ev _ _ _) (Ev.now _))
theorem cmpB_less (b c : S39) : (cmpB b c ≥ 0) ↔ less b c = false := by
 unfold cmpB less
 by_cases h0 : b.f0 = c.f0
 ·have e0 : cmpI b.f0 c.f0 = 0 := by unfold cmpI; rw [if_neg (by omega), if_neg (by omega)]
  rw [e0, if_pos h0]
  unfold or3
  rw [if_pos rfl]
  by_cases h1 : b.f1 = c.f1
  ·have e1 : cmpI b.f1 c.f1 = 0 := by unfold cmpI; rw [if_neg (by omega), if_neg (by omega)]
   rw [e1, if_pos rfl, if_pos h1]
   cases b.f2 <;> cases c.f2 <;> simp
  ·rw [if_neg h1]
   by_cases h2 : b.f1 < c.f1
   ·have e1 : cmpI b.f1 c.f1 = -1 := by unfold cmpI; rw [if_pos h2]
    rw [e1, if_neg (by decide), decide_eq_true h2]
    simp
   ·have e1 : cmpI b.f1 c.f1 = 1 := by unfold cmpI; rw [if_neg h2, if_pos (by omega)]
    rw [e1, if_neg (by decide), decide_eq_false h2]
    simp
 ·rw [if_neg h0]
  unfold or3
  by_cases h2 : b.f0 < c.f0
  ·have e1 : cmpI b.f0 c.f0 = -1 := by unfold cmpI; rw [if_pos h2]
   rw [e1, if_neg (by decide), decide_eq_true h2]
   simp
  ·have e1 : cmpI b.f0 c.f0 = 1 := by unfold cmpI; rw [if_neg h2, if_pos (by omega)]
   rw [e1, if_neg (by decide), decide_eq_false h2]
   simp
def okAt (w h : Int) (l : List S39) (i : Nat) : Bool := match l[i]? with
 | none => true
 | some c => isB w h c && (match i with
  | 0 => true
  | p + 1 => match l[p]? with
   | none => true
   | some b => less b c)
def chk (w h : Int) (l : List S39) : Nat → Nat → Bool
 | 0, _ => true
 | d + 1, i => okAt w h l i && chk w h l d (i + 1)
theorem avGood_l0 (w h : Int) (l : List S39) (hl : l.length ≤ 1048576) (hw : 1 ≤ w ∧ w ≤ 8) (hh : 1 ≤ h ∧ h ≤ 8) : ∀ d i : Nat, i + d = l.length → Ev (fun k => spec_avGood.l0 k l (l.length : Int) (i : Int) w h l) (chk w h l d i)
 | 0, i, hi => Ev.stop fun k => by simp only [spec_avGood.l0]; rw [if_neg (by omega)]; rfl
 | d + 1, i, hi => by
  have ih := avGood_l0 w h l hl hw hh d (i + 1) (by omega)
  have hlt : i < l.length := by omega
  have hwr : wrap64 ((i : Int) + 1) = ((i + 1 : Nat) : Int) := by rw [w64 (by omega) (by omega)]; rfl
  refine Ev.succ ?_
  simp only [spec_avGood.l0, chk, okAt, List.getElem?_eq_getElem hlt]
  rw [rdB_get l i hlt, hwr]
  refine Ev.itet (by omega) (Ev.itet (by omega) (Ev.itet (by omega) (Ev.bind (avIs_ev w h l[i] hw hh) ?_)))
  cases isB w h l[i]
  ·exact Ev.itef (by simp) (Ev.now _)
  ·refine Ev.itet rfl ?_
   match i, hlt, ih with
   | 0, _, ih => exact Ev.itef (by simp) (by simpa using ih)
   | p + 1, hlt, ih =>
    have hlp : p < l.length := by omega
    have hwp : wrap64 (((p + 1 : Nat) : Int) - 1) = (p : Int) := by rw [w64 (by omega) (by omega)]; omega
    rw [hwp, rdB_get l p hlp]
    simp only [List.getElem?_eq_getElem hlp, avLess_f, Option.bind_some]
    refine Ev.itet (by omega) (Ev.itet (by omega) (Ev.itet (by omega) ?_))
    cases less l[p] l[p + 1]
    ·exact Ev.itef (by simp) (Ev.now _)
    ·exact Ev.itet rfl (by simpa using ih)
theorem IsCity_l0 (w h : Int) (l : List S39) (hl : l.length ≤ 1048576) (hw : 1 ≤ w ∧ w ≤ 8) (hh : 1 ≤ h ∧ h ≤ 8) : ∀ d i : Nat, i + d = l.length → Ev (fun k => impl_IsCity.l0 k l (l.length : Int) (i : Int) w h l) (chk w h l d i)
 | 0, i, hi => Ev.stop fun k => by simp only [impl_IsCity.l0]; rw [if_neg (by omega)]; rfl
 | d + 1, i, hi => by
  have ih := IsCity_l0 w h l hl hw hh d (i + 1) (by omega)
  have hlt : i < l.length := by omega
  have hwr : wrap64 ((i : Int) + 1) = ((i + 1 : Nat) : Int) := by rw [w64 (by omega) (by omega)]; rfl
  refine Ev.succ ?_
  simp only [impl_IsCity.l0, chk, okAt, List.getElem?_eq_getElem hlt]
  rw [rdB_get l i hlt, hwr, isBlock_f w h l l[i] hw hh]
  simp only [Option.bind_some]
  refine Ev.itet (by omega) (Ev.itet (by omega) (Ev.itet (by omega) ?_))
  cases isB w h l[i]
  ·exact Ev.itef (by simp) (Ev.now _)
  ·refine Ev.itet rfl ?_
   match i, hlt, ih with
   | 0, _, ih => exact Ev.itef (by simp) (by simpa using ih)
   | p + 1, hlt, ih =>
    have hlp : p < l.length := by omega
    have hwp : wrap64 (((p + 1 : Nat) : Int) - 1) = (p : Int) := by rw [w64 (by omega) (by omega)]; omega
    rw [hwp, rdB_get l p hlp]
    simp only [List.getElem?_eq_getElem hlp]
    refine Ev.itet (by omega) (Ev.itet (by omega) (Ev.itet (by omega) (Ev.bind (compareBlocks_ev l[p] l[p + 1]) ?_)))
    cases hls : less l[p] l[p + 1]
    ·exact Ev.itet ((cmpB_less _ _).2 hls) (Ev.now _)
    ·exact Ev.itef (fun e => by rw [(cmpB_less _ _).1 e] at hls; cases hls) (by simpa using ih)
def good (w h : Int) (l : List S39) : Bool := decide (1 ≤ w ∧ w ≤ 8) && (decide (1 ≤ h ∧ h ≤ 8) && (decide (l.length ≤ 30) && chk w h l l.length 0))
theorem avGood_ev (w h : Int) (l : List S39) (hl : l.length ≤ 1048576) : Ev (fun k => spec_avGood.f k w h l) (good w h l) := by
 unfold spec_avGood.f good
 simp only [l1In_f, Option.bind_some]
 have no : ∀ r, r = false → Ev (fun k => spec_avGood.j0 k true w h l) r := by
  rintro r rfl
  refine Ev.succ ?_
  simp only [spec_avGood.j0]
  exact Ev.itet (by trivial) (Ev.now _)
 by_cases h0 : 1 ≤ w ∧ w ≤ 8
 ·rw [decide_eq_true h0]
  simp only [if_true, Bool.true_and]
  by_cases h1 : 1 ≤ h ∧ h ≤ 8
  ·rw [decide_eq_true h1]
   simp only [if_true, Bool.true_and]
   by_cases h2 : l.length ≤ 30
   ·rw [decide_eq_true h2, Bool.true_and, decide_eq_false (by omega)]
    refine Ev.succ ?_
    simp only [spec_avGood.j0]
    exact Ev.itef (by simp) (avGood_l0 w h l hl h0 h1 l.length 0 (by omega))
   ·rw [decide_eq_false h2, Bool.false_and, decide_eq_true (by omega)]
    exact no _ rfl
  ·rw [decide_eq_false h1]
   simp only [Bool.false_eq_true, if_false, Bool.false_and]
   exact no _ rfl
 ·rw [decide_eq_false h0]
  simp only [Bool.false_eq_true, if_false, Bool.false_and]
  exact no _ rfl
theorem IsCity_ev (w h : Int) (l : List S39) (hl : l.length ≤ 1048576) : Ev (fun k => impl_IsCity.f k w h l) (good w h l) := by
 unfold impl_IsCity.f good
 simp only [within_f, Option.bind_some]
 have no : ∀ r, r = false → Ev (fun k => impl_IsCity.j0 k true w h l) r := by
  rintro r rfl
  refine Ev.succ ?_
  simp only [impl_IsCity.j0]
  exact Ev.itet (by trivial) (Ev.now _)
 by_cases h0 : 1 ≤ w ∧ w ≤ 8
 ·rw [decide_eq_true h0]
  simp only [if_true, Bool.true_and]
  by_cases h1 : 1 ≤ h ∧ h ≤ 8
  ·rw [decide_eq_true h1]
   simp only [if_true, Bool.true_and]
   by_cases h2 : l.length ≤ 30
   ·rw [decide_eq_true h2, Bool.true_and, decide_eq_false (by omega)]
    refine Ev.succ ?_
    simp only [impl_IsCity.j0]
    exact Ev.itef (by simp) (IsCity_l0 w h l hl h0 h1 l.length 0 (by omega))
   ·rw [decide_eq_false h2, Bool.false_and, decide_eq_true (by omega)]
    exact no _ rfl
  ·rw [decide_eq_false h1]
   simp only [Bool.false_eq_true, if_false, Bool.false_and]
   exact no _ rfl
 ·rw [decide_eq_false h0]
  simp only [Bool.false_eq_true, if_false, Bool.false_and]
  exact no _ rfl
theorem good_wh {w h : Int} {l : List S39} (hg : good w h l = true) : (1 ≤ w ∧ w ≤ 8) ∧ (1 ≤ h ∧ h ≤ 8) ∧ l.length ≤ 30 := by
 unfold good at hg
 simp only [Bool.and_eq_true, decide_eq_true_eq] at hg
 exact ⟨hg.1, hg.2.1, hg.2.2.1⟩
theorem chk_at (w h : Int) (l : List S39) : ∀ (d i : Nat), chk w h l d i = true → ∀ j, i ≤ j → j < i + d → okAt w h l j = true
 | 0, i, _, j, h1, h2 => by omega
 | d + 1, i, hc, j, h1, h2 => by
  unfold chk at hc
  obtain ⟨c1, c2⟩ := Bool.and_eq_true_iff.1 hc
  rcases Nat.lt_or_eq_of_le h1 with h3 | rfl
  ·exact chk_at w h l d (i + 1) c2 j (by omega) (by omega)
  ·exact c1
theorem good_isB (w h : Int) (l : List S39) (hg : good w h l = true) : ∀ b ∈ l, isB w h b = true := by
 intro b hb
 obtain ⟨i, hi, rfl⟩ := List.getElem_of_mem hb
 unfold good at hg
 simp only [Bool.and_eq_true] at hg
 have := chk_at w h l l.length 0 hg.2.2.2 i (by omega) (by omega)
 unfold okAt at this
 rw [List.getElem?_eq_getElem hi] at this
 simp only [Bool.and_eq_true] at this
 exact this.1
theorem isB_small {w h : Int} {b : S39} (hw : 1 ≤ w ∧ w ≤ 8) (hh : 1 ≤ h ∧ h ≤ 8) (hb : isB w h b = true) : (0 ≤ b.f0 ∧ b.f0 < 10) ∧ (0 ≤ b.f1 ∧ b.f1 < 10) := by
 unfold isB at hb
 split at hb <;> simp only [Bool.and_eq_true, decide_eq_true_eq] at hb <;> omega
def mkB (j : Nat) : S39 := ⟨1 + 3 * (j : Int), 1 + 3 * (j : Int) + 1, (Int.tmod (1 + 3 * (j : Int) + 1 + 1) 3 == 0)⟩
def marks (n : Nat) : List S39 := (List.range n).map mkB
theorem rd_set (l : List S39) (i : Nat) (x : S39) (h : i < l.length) : qk (l.set i x) (i : Int) = x := by
 rw [rdB_get _ i (by simpa using h)]
 simp
theorem markCity_marks (w h : Int) (l : List S39) (hl : l.length ≤ 1048576) : Ev (fun k => laws_markCity.f k w h l 1) (1 + 3 * (l.length : Int), marks l.length) := by
 have key : ∀ (d i : Nat) (l : List S39), i + d = l.length → l.length ≤ 1048576 → l.take i = marks i → Ev (fun k => laws_markBlockS.l0 k l (1 + 3 * (i : Int)) (i : Int)) (1 + 3 * (l.length : Int), marks l.length) := by
  intro d
  induction d with
  | zero =>
   intro i l hi hl ht
   refine Ev.stop fun k => ?_
   simp only [laws_markBlockS.l0]
   rw [if_neg (by omega)]
   rw [List.take_of_length_le (by omega)] at ht
   rw [show i = l.length by omega] at ht ⊢
   rw [← ht]
  | succ d ih =>
   intro i l hi hl ht
   have hlt : i < l.length := by omega
   have ih := ih (i + 1) (l.set i (mkB i)) (by simp; omega) (by simp; omega) (by
    rw [List.take_succ_eq_append_getElem (by simpa using hlt), List.take_set_of_le (Nat.le_refl i), ht]
    simp [marks, List.range_succ])
   rw [List.length_set] at ih
   have e9 : 1 + 3 * ((i + 1 : Nat) : Int) = 1 + 3 * (i : Int) + 1 + 1 + 1 := by omega
   rw [e9] at ih
   refine Ev.succ ?_
   simp only [laws_markBlockS.l0, Option.bind_some]
   rw [w64 (x := 1 + 3 * (i : Int) + 1) (by omega) (by omega), w64 (x := 1 + 3 * (i : Int) + 1 + 1) (by omega) (by omega), w64 (x := 1 + 3 * (i : Int) + 1 + 1 + 1) (by omega) (by omega), w64 (x := (i : Int) + 1) (by omega) (by omega)]
   refine Ev.itet (by omega) (Ev.itet (by omega) ?_)
   rw [Int.toNat_natCast, rd_set l i _ hlt, rd_set (l.set i _) i _ (by simpa using hlt), List.set_set, List.set_set]
   exact ih
 unfold laws_markCity.f laws_markBlockS.f
 have := key l.length 0 l (by omega) hl (by simp [marks])
 exact Ev.bind (by simpa using this) (Ev.now _)
theorem heldCity_marks (w h : Int) (n : Nat) (hn : n ≤ 1048576) : Ev (fun k => laws_heldCity.f k w h (marks n) 1) (1 + 3 * (n : Int)) := by
 have hlen : (marks n).length = n := by simp [marks]
 have key : ∀ (d i : Nat), i + d = n → Ev (fun k => laws_heldBlockS.l0 k (marks n) (1 + 3 * (i : Int)) (i : Int)) (1 + 3 * (n : Int)) := by
  intro d
  induction d with
  | zero =>
   intro i hi
   refine Ev.stop fun k => ?_
   simp only [laws_heldBlockS.l0]
   rw [if_neg (by omega), show i = n by omega]
  | succ d ih =>
   intro i hi
   have ih := ih (i + 1) (by omega)
   have e9 : 1 + 3 * ((i + 1 : Nat) : Int) = 1 + 3 * (i : Int) + 1 + 1 + 1 := by omega
   rw [e9] at ih
   have hg : qk (marks n) (i : Int) = mkB i := by
    rw [rdB_get _ i (by omega)]
    simp [marks]
   refine Ev.succ ?_
   simp only [laws_heldBlockS.l0]
   rw [hg, w64 (x := 1 + 3 * (i : Int) + 1) (by omega) (by omega), w64 (x := 1 + 3 * (i : Int) + 1 + 1) (by omega) (by omega), w64 (x := 1 + 3 * (i : Int) + 1 + 1 + 1) (by omega) (by omega), w64 (x := (i : Int) + 1) (by omega) (by omega)]
   exact Ev.itet (by omega) (Ev.itet (by omega) (Ev.itet rfl (Ev.itet rfl (Ev.itef (by simp [mkB]) ih))))
 unfold laws_heldCity.f laws_heldBlockS.f
 have := key n 0 (by omega)
 exact Ev.bind (by simpa using this) (Ev.itef (by omega) (Ev.now _))
def str (l : List UInt8) : ByteArray := ⟨l.toArray⟩
theorem str_app (l m : List UInt8) : str l ++ str m = str (l ++ m) := by
 apply ba_ext
 simp [str]
theorem str_push (l : List UInt8) (b : UInt8) : str l ++ (⟨#[b]⟩ : ByteArray) = str (l ++ [b]) := str_app l [b]
theorem str_size (l : List UInt8) : (str l).size = l.length := rfl
def dg (n : Int) : List UInt8 := [UInt8.ofNat (48 + n.toNat)]
theorem dec_dg (n : Int) (h : 0 ≤ n ∧ n < 10) : impl_joinNumbers.dec n = str (dg n) := by
 unfold impl_joinNumbers.dec Go.Lib.decDigits str dg
 rw [dif_pos (by omega)]
theorem num_ev (n : Int) (h : 0 ≤ n ∧ n < 10) : Ev (fun k => spec_l1Num.f k n) (str (dg n)) := by
 refine Ev.succ ?_
 simp only [spec_l1Num.f]
 have e : strOfNums [(wrap64 (48 + n)) % 256] = str (dg n) := by
  rw [w64 (by omega) (by omega), show (48 + n) % 256 = 48 + n by omega]
  unfold strOfNums str dg
  simp only [List.map_cons, List.map_nil]
  rw [show (48 + n).toNat = 48 + n.toNat by omega]
 rw [e]
 exact Ev.itet (by omega) (Ev.now _)
def sgn (u : Bool) : UInt8 := if u = true then 124 else 45
def tx (b : S39) : List UInt8 := dg b.f0 ++ [sgn b.f2] ++ dg b.f1
theorem tx_len (b : S39) : (tx b).length = 3 := rfl
theorem two_f (x y : Int) (s : UInt8) (hx : 0 ≤ x ∧ x < 10) (hy : 0 ≤ y ∧ y < 10) : impl_joinNumbers.f [x, y] (⟨#[s]⟩ : ByteArray) = some (str (dg x ++ [s] ++ dg y)) := by
 have e : strings_Join.cat ([x, y].map impl_joinNumbers.dec) (⟨#[s]⟩ : ByteArray) = str (dg x ++ [s] ++ dg y) := by
  unfold strings_Join.cat
  rw [show [x, y].map impl_joinNumbers.dec = [impl_joinNumbers.dec x, impl_joinNumbers.dec y] from rfl, dec_dg x hx, dec_dg y hy]
  simp only [List.map_cons, List.map_nil]
  rw [Go.Lib.join_cons]
  simp [Go.Lib.joinTail, str]
 unfold impl_joinNumbers.f
 rw [e, if_pos]
 refine ⟨by simp, by simp; omega, ?_⟩
 unfold strings_Join.len
 rw [show [x, y].map impl_joinNumbers.dec = [impl_joinNumbers.dec x, impl_joinNumbers.dec y] from rfl, dec_dg x hx, dec_dg y hy]
 simp only [List.map_cons, List.map_nil]
 rw [Go.Lib.join_length]
 simp [Go.Lib.lens, str, dg]
theorem block_f (b : S39) (hb : (0 ≤ b.f0 ∧ b.f0 < 10) ∧ (0 ≤ b.f1 ∧ b.f1 < 10)) : impl_blockText.f b.f0 b.f1 b.f2 = some (str (tx b)) := by
 unfold impl_blockText.f
 rw [two_f _ _ _ hb.1 hb.2, two_f _ _ _ hb.1 hb.2]
 unfold tx sgn
 cases b.f2 <;> simp
theorem txt_f : ∀ (l : List S39), (∀ b ∈ l, (0 ≤ b.f0 ∧ b.f0 < 10) ∧ (0 ≤ b.f1 ∧ b.f1 < 10)) → impl_cityText.txt l = some (l.map fun b => str (tx b))
 | [], _ => rfl
 | b :: l, h => by
  have ih := txt_f l fun c hc => h c (by simp [hc])
  unfold impl_cityText.txt at ih ⊢
  rw [List.mapM_cons, block_f b (h b (by simp)), ih]
  rfl
def J (l : List S39) : List UInt8 := Go.Lib.join (l.map tx) [44]
theorem J_snoc (l : List S39) (b : S39) (hl : l ≠ []) : J (l ++ [b]) = J l ++ [44] ++ tx b := by
 cases l with
 | nil => exact absurd rfl hl
 | cons c l =>
  unfold J
  rw [List.cons_append, List.map_cons, List.map_cons, Go.Lib.join_cons, Go.Lib.join_cons]
  simp [Go.Lib.joinTail]
theorem J_one (b : S39) : J [b] = tx b := Go.Lib.join_one _ _
theorem J_len : ∀ (l : List S39), (J l).length ≤ 4 * l.length
 | [] => by simp [J, Go.Lib.join_nil]
 | b :: l => by
  have h : ∀ l : List S39, Go.Lib.lens (l.map tx) = 3 * l.length := by
   intro l
   induction l with
   | nil => rfl
   | cons c l ih => rw [List.map_cons, show Go.Lib.lens (tx c :: l.map tx) = (tx c).length + Go.Lib.lens (l.map tx) by simp [Go.Lib.lens], ih, tx_len, List.length_cons]; omega
  unfold J
  rw [List.map_cons, Go.Lib.join_length, ← List.map_cons, h]
  simp
  omega
theorem cat_f (l : List S39) : strings_Join.cat (l.map fun b => str (tx b)) (⟨#[44]⟩ : ByteArray) = str (J l) := by
 unfold strings_Join.cat J str
 rw [List.map_map]
 rfl
theorem len_f (l : List S39) : strings_Join.len (l.map fun b => str (tx b)) (⟨#[44]⟩ : ByteArray) = (J l).length := by
 unfold strings_Join.len J str
 rw [List.map_map]
 rfl
def base (w h : Int) : List UInt8 := dg w ++ [120] ++ dg h ++ [58]
theorem base_len (w h : Int) : (base w h).length = 4 := rfl
theorem avText_ev (w h : Int) (l : List S39) (hl : l.length ≤ 30) (hw : 0 ≤ w ∧ w < 10) (hh : 0 ≤ h ∧ h < 10) (hb : ∀ b ∈ l, (0 ≤ b.f0 ∧ b.f0 < 10) ∧ (0 ≤ b.f1 ∧ b.f1 < 10)) : Ev (fun k => spec_avText.f k w h l) (str (base w h ++ J l)) := by
 have key : ∀ (d i : Nat), i + d = l.length → Ev (fun k => spec_avText.l0 k (str (base w h ++ J (l.take i))) l (l.length : Int) (i : Int)) (str (base w h ++ J l)) := by
  intro d
  induction d with
  | zero =>
   intro i hi
   refine Ev.succ ?_
   simp only [spec_avText.l0]
   rw [List.take_of_length_le (by omega)]
   exact Ev.itef (by omega) (Ev.now _)
  | succ d ih =>
   intro i hi
   have hlt : i < l.length := by omega
   have ih := ih (i + 1) (by omega)
   have hw1 : wrap64 ((i : Int) + 1) = ((i + 1 : Nat) : Int) := by rw [w64 (by omega) (by omega)]; rfl
   have hbi := hb l[i] (List.getElem_mem hlt)
   have hJ := J_len (l.take i)
   have hti : (l.take i).length ≤ 30 := by simp; omega
   have one : ∀ (s : List UInt8), s.length ≤ 200 → str (s ++ tx l[i]) = str (base w h ++ J (l.take (i + 1))) → Ev (fun k => spec_avText.j1 k (str s) l (l.length : Int) (i : Int) l[i].f0 l[i].f1 l[i].f2) (str (base w h ++ J l)) := by
    intro s hs he
    refine Ev.succ ?_
    simp only [spec_avText.j1]
    rw [hw1]
    have h0 := num_ev l[i].f0 hbi.1
    have h1 := num_ev l[i].f1 hbi.2
    have z0 : (str (dg l[i].f0)).size = 1 := rfl
    have z1 : (str (dg l[i].f1)).size = 1 := rfl
    unfold tx sgn at he
    cases hu : l[i].f2
    ·rw [hu, if_neg (by decide)] at he
     refine Ev.itef (by simp) (Ev.bind h0 (Ev.itet (by rw [z0]; omega) (Ev.bind h1 (Ev.itet ?_ (Ev.itet ?_ ?_)))))
     ·rw [str_push, str_size]; simp [str_size, dg]
     ·rw [str_push, str_app, str_size, str_size]; simp [dg]; omega
     ·rw [str_push, str_app, str_app, ← List.append_assoc, ← List.append_assoc]
      rw [← List.append_assoc, ← List.append_assoc] at he
      rw [he]
      exact ih
    ·rw [hu, if_pos rfl] at he
     refine Ev.itet rfl (Ev.bind h0 (Ev.itet (by rw [z0]; omega) (Ev.bind h1 (Ev.itet ?_ (Ev.itet ?_ ?_)))))
     ·rw [str_push, str_size]; simp [str_size, dg]
     ·rw [str_push, str_app, str_size, str_size]; simp [dg]; omega
     ·rw [str_push, str_app, str_app, ← List.append_assoc, ← List.append_assoc]
      rw [← List.append_assoc, ← List.append_assoc] at he
      rw [he]
      exact ih
   refine Ev.succ ?_
   simp only [spec_avText.l0]
   rw [rdB_get l i hlt]
   refine Ev.itet (by omega) (Ev.itet (by omega) (Ev.itet (by omega) ?_))
   have etk : l.take (i + 1) = l.take i ++ [l[i]] := List.take_succ_eq_append_getElem hlt
   by_cases h0 : i = 0
   ·subst h0
    refine Ev.itef (by simp) (one _ (by simp [J, Go.Lib.join_nil, base_len]) ?_)
    rw [etk]
    simp [J, Go.Lib.join_nil, Go.Lib.join_one]
   ·refine Ev.itet (by omega) (Ev.itet ?_ ?_)
    ·rw [str_size, List.length_append, base_len]; omega
    ·rw [str_push]
     refine one _ (by simp only [List.length_append, base_len, List.length_cons, List.length_nil]; omega) ?_
     rw [etk, J_snoc _ _ (fun e => by have h9 := congrArg List.length e; rw [List.length_take, List.length_nil] at h9; omega)]
     simp only [List.append_assoc]
 unfold spec_avText.f
 have h0 := num_ev w hw
 have h1 := num_ev h hh
 have z0 : (str (dg w)).size = 1 := rfl
 refine Ev.bind h0 (Ev.itet (by rw [z0]; omega) (Ev.bind h1 (Ev.itet ?_ (Ev.itet ?_ ?_))))
 ·rw [str_push, str_size]; simp [str_size, dg]
 ·rw [str_push, str_app, str_size]; simp [dg]
 ·have := key l.length 0 (by omega)
  rw [str_push, str_app, str_push]
  simpa [base, J, Go.Lib.join_nil] using this
theorem cityText_f (w h : Int) (l : List S39) (hl : l.length ≤ 30) (hw : 0 ≤ w ∧ w < 10) (hh : 0 ≤ h ∧ h < 10) (hb : ∀ b ∈ l, (0 ≤ b.f0 ∧ b.f0 < 10) ∧ (0 ≤ b.f1 ∧ b.f1 < 10)) : impl_cityText.f w h l = some (str (base w h ++ J l)) := by
 have hJ := J_len l
 unfold impl_cityText.f
 rw [if_pos (by omega), txt_f l hb, Option.bind_some, two_f w h 120 hw hh, Option.bind_some, cat_f, len_f, if_pos]
 ·rw [str_push, str_app]
  rfl
 ·refine ⟨by omega, ?_, ?_⟩
  ·rw [str_size]; simp [dg]
  ·rw [str_size, str_size]; simp [dg]; omega
def sp (c : UInt8) : List UInt8 → List UInt8 → List (List UInt8)
 | acc, [] => [acc]
 | acc, b :: l => if b = c then acc :: sp c [] l else sp c (acc ++ [b]) l
theorem sp_none (c : UInt8) : ∀ (p acc : List UInt8), c ∉ p → sp c acc p = [acc ++ p]
 | [], acc, _ => by simp [sp]
 | b :: p, acc, h => by
  rw [sp, if_neg (fun e => h (by simp [e])), sp_none c p _ (fun e => h (by simp [e]))]
  simp
theorem sp_cons (c : UInt8) (r : List UInt8) : ∀ (p acc : List UInt8), c ∉ p → sp c acc (p ++ c :: r) = (acc ++ p) :: sp c [] r
 | [], acc, _ => by simp [sp]
 | b :: p, acc, h => by
  rw [List.cons_append, sp, if_neg (fun e => h (by simp [e])), sp_cons c r p _ (fun e => h (by simp [e]))]
  simp
theorem sp_len (c : UInt8) : ∀ (l acc : List UInt8), (sp c acc l).length ≤ l.length + 1
 | [], acc => by simp [sp]
 | b :: l, acc => by
  rw [sp]
  split
  ·have := sp_len c l []; simp; omega
  ·have := sp_len c l (acc ++ [b]); simp; omega
theorem sp_piece (c : UInt8) : ∀ (l acc : List UInt8), ∀ x ∈ sp c acc l, x.length ≤ acc.length + l.length
 | [], acc, x, h => by simp [sp] at h; simp [h]
 | b :: l, acc, x, h => by
  rw [sp] at h
  split at h
  ·rcases List.mem_cons.mp h with rfl | h
   ·omega
   ·have := sp_piece c l [] x h; simp at this ⊢; omega
  ·have := sp_piece c l _ x h; simp at this ⊢; omega
theorem join2 (x y : List UInt8) (l : List (List UInt8)) (c : UInt8) : Go.Lib.join (x :: y :: l) [c] = x ++ c :: Go.Lib.join (y :: l) [c] := by
 rw [Go.Lib.join_cons, Go.Lib.join_cons]
 simp [Go.Lib.joinTail]
theorem sp_join (c : UInt8) : ∀ (x : List UInt8) (l : List (List UInt8)), (∀ y ∈ x :: l, c ∉ y) → sp c [] (Go.Lib.join (x :: l) [c]) = x :: l
 | x, [], h => by
  rw [Go.Lib.join_one, sp_none c x [] (h x (by simp))]
  simp
 | x, y :: l, h => by
  rw [join2, sp_cons c _ x [] (h x (by simp)), sp_join c y l (fun z hz => h z (by simp at hz ⊢; exact Or.inr hz))]
  simp
theorem cut_at (s : List UInt8) (c : UInt8) : c ∉ s ∨ ∃ p r, s = p ++ c :: r ∧ c ∉ p := by
 induction s with
 | nil => exact Or.inl (by simp)
 | cons b s ih =>
  by_cases hb : b = c
  ·exact Or.inr ⟨[], s, by simp [hb], by simp⟩
  ·rcases ih with h | ⟨p, r, rfl, hp⟩
   ·exact Or.inl (by simp [h, Ne.symm hb])
   ·exact Or.inr ⟨b :: p, r, by simp, by simp [hp, Ne.symm hb]⟩
theorem idx_none (c : UInt8) : ∀ s : List UInt8, c ∉ s → Go.Lib.indexByte s c = -1
 | [], _ => rfl
 | b :: s, h => by
  have hb : (b == c) = false := by simp; exact fun e => h (by simp [e])
  rw [Go.Lib.indexByte, hb, idx_none c s (fun e => h (by simp [e]))]
  simp
theorem idx_some (c : UInt8) (r : List UInt8) : ∀ p : List UInt8, c ∉ p → Go.Lib.indexByte (p ++ c :: r) c = (p.length : Int)
 | [], _ => by simp [Go.Lib.indexByte]
 | b :: p, h => by
  have hb : (b == c) = false := by simp; exact fun e => h (by simp [e])
  rw [List.cons_append, Go.Lib.indexByte, hb, idx_some c r p (fun e => h (by simp [e]))]
  have : ((p.length : Int) == -1) = false := by simp <;> omega
  rw [this]
  simp
theorem splitK_sp (c : UInt8) : ∀ (n : Nat) (s : List UInt8), s.count c = n → Go.Lib.splitK [c] 0 n s = sp c [] s
 | 0, s, h => by
  have hc : c ∉ s := List.count_eq_zero.mp h
  rw [sp_none c s [] hc]
  rfl
 | n + 1, s, h => by
  rcases cut_at s c with hc | ⟨p, r, rfl, hp⟩
  ·rw [List.count_eq_zero.mpr hc] at h; cases h
  ·have hr : r.count c = n := by
    rw [List.count_append, List.count_eq_zero.mpr hp, List.count_cons_self] at h; omega
   rw [Go.Lib.splitK, Go.Lib.index_one, idx_some c r p hp, if_neg (by simp <;> omega), sp_cons c r p [] hp, splitK_sp c n _ (by simpa using hr)]
   simp
theorem Split_l (s : List UInt8) (c : UInt8) : strings_Split.l (str s) (⟨#[c]⟩ : ByteArray) = (sp c [] s).map str := by
 have h := Go.Lib.splitB_data (⟨#[c]⟩ : ByteArray) 0 (Go.Lib.countB (str s) (⟨#[c]⟩ : ByteArray)) (str s)
 have e : Go.Lib.countB (str s) (⟨#[c]⟩ : ByteArray) = s.count c := Go.Lib.count_one c s
 rw [show Go.Lib.splitK (⟨#[c]⟩ : ByteArray).data.toList 0 (Go.Lib.countB (str s) (⟨#[c]⟩ : ByteArray)) (str s).data.toList = sp c [] s by rw [e]; exact splitK_sp c _ s rfl] at h
 rw [← h]
 unfold strings_Split.l
 rw [List.map_map]
 exact (List.map_id' _).symm.trans (List.map_congr_left fun x _ => ba_ext (by simp [str]))
theorem l1Split_ev (s : List UInt8) (hs : s.length ≤ 2097152) (c : UInt8) : Ev (fun k => spec_l1Split.f k (str s) (c.toNat : Int)) ((sp c [] s).map str) := by
 unfold spec_l1Split.f
 have key : ∀ (d i j : Nat) (out : List ByteArray), j + d = s.length → i ≤ j → out.length ≤ j → Ev (fun k => spec_l1Split.l0 k (str s) (c.toNat : Int) out (i : Int) (j : Int)) (out ++ (sp c ((s.drop i).take (j - i)) (s.drop j)).map str) := by
  intro d
  induction d with
  | zero =>
   intro i j out hj hij ho
   refine Ev.succ ?_
   simp only [spec_l1Split.l0]
   rw [str_size, List.drop_eq_nil_of_le (by omega : s.length ≤ j)]
   refine Ev.itef (by omega) (Ev.itet (by omega) (Ev.itet (by omega) (Ev.itet (by omega) ?_)))
   rw [show (str s).extract ((i : Int)).toNat s.length = str ((s.drop i).take (j - i)) from ba_ext (by rw [data_extract]; simp [str, show s.length - i = j - i by omega])]
   simp only [sp, List.map_cons, List.map_nil]
   exact Ev.now _
  | succ d ih =>
   intro i j out hj hij ho
   have hlt : j < s.length := by omega
   have hw : wrap64 ((j : Int) + 1) = ((j + 1 : Nat) : Int) := by rw [w64 (by omega) (by omega)]; rfl
   have hb : bt (str s) (j : Int) = (s[j].toNat : Int) := by rw [bt_get _ _ (by simpa [str] using hlt)]; simp [str]
   refine Ev.succ ?_
   simp only [spec_l1Split.l0]
   rw [str_size, hw, hb, List.drop_eq_getElem_cons hlt, sp]
   refine Ev.itet (by omega) (Ev.itet (by omega) ?_)
   by_cases hc : s[j] = c
   ·rw [if_pos hc]
    refine Ev.itet (by rw [hc]) (Ev.itet (by omega) (Ev.itet (by omega) (Ev.itet (by omega) (Ev.itet (by omega) ?_))))
    have ih := ih (j + 1) (j + 1) (out ++ [(str s).extract ((i : Int)).toNat ((j : Int)).toNat]) (by omega) (Nat.le_refl _) (by simp; omega)
    have e : out ++ [(str s).extract ((i : Int)).toNat ((j : Int)).toNat] ++ (sp c ((s.drop (j + 1)).take (j + 1 - (j + 1))) (s.drop (j + 1))).map str = out ++ (((s.drop i).take (j - i)) :: sp c [] (s.drop (j + 1))).map str := by
     rw [show (str s).extract ((i : Int)).toNat ((j : Int)).toNat = str ((s.drop i).take (j - i)) from ba_ext (by rw [data_extract]; simp [str])]
     simp
    rw [e] at ih
    exact ih
   ·rw [if_neg hc]
    refine Ev.itef (fun e => hc (UInt8.toNat_inj.mp (by omega))) ?_
    have ih := ih i (j + 1) out (by omega) (by omega) (by omega)
    have e : (s.drop i).take (j + 1 - i) = (s.drop i).take (j - i) ++ [s[j]] := by
     rw [show j + 1 - i = (j - i) + 1 by omega, List.take_succ_eq_append_getElem (by simp; omega)]
     simp [show i + (j - i) = j by omega]
    rw [e] at ih
    exact ih
 have := key s.length 0 0 [] (by omega) (Nat.le_refl _) (Nat.zero_le _)
 simpa using this
abbrev BL := S39
abbrev RS := Int × Int × List BL × Bool
def TX (w h : Int) (l : List BL) : List UInt8 := base w h ++ J l
def fail : RS := (0, 0, [], false)
def Ok (s : ByteArray) (r : RS) : Prop := (r.2.2.2 = false ∧ r.2.2.1.length ≤ 1048576) ∨ ∃ w h l, good w h l = true ∧ s = str (TX w h l) ∧ r = (w, h, l, true)
theorem good_small {w h : Int} {l : List BL} (hg : good w h l = true) : (1 ≤ w ∧ w ≤ 8) ∧ (1 ≤ h ∧ h ≤ 8) ∧ l.length ≤ 30 ∧ ∀ b ∈ l, (0 ≤ b.f0 ∧ b.f0 < 10) ∧ (0 ≤ b.f1 ∧ b.f1 < 10) := by
 obtain ⟨hw, hh, h30⟩ := good_wh hg
 exact ⟨hw, hh, h30, fun b hb => isB_small hw hh (good_isB w h l hg b hb)⟩
theorem str_data (s : ByteArray) : str s.data.toList = s := by apply ba_ext; simp [str]
theorem toList_eq' {s t : ByteArray} : (s.toList == t.toList) = decide (s = t) := by
 by_cases h : s = t
 ·rw [h]; simp
 ·have h' : s.toList ≠ t.toList := fun e => h (by rw [ByteArray.toList_eq, ByteArray.toList_eq] at e; exact ba_ext e)
  simp [h, h']
def finS (w h : Int) (l : List BL) (s : ByteArray) : RS := (w, h, l, good w h l && decide (str (TX w h l) = s))
theorem finS_ok (w h : Int) (l : List BL) (hl : l.length ≤ 1048576) (s : ByteArray) : Ok s (finS w h l s) := by
 unfold finS
 by_cases h1 : good w h l = true
 ·by_cases h2 : str (TX w h l) = s
  ·exact Or.inr ⟨w, h, l, h1, h2.symm, by rw [h1, decide_eq_true h2]; rfl⟩
  ·exact Or.inl ⟨by rw [decide_eq_false h2]; simp, hl⟩
 ·exact Or.inl ⟨by rw [Bool.eq_false_iff.mpr h1]; rfl, hl⟩
theorem fin_spec (w h : Int) (l : List BL) (hl : l.length ≤ 1048576) (s : ByteArray) :
  Ev (fun k => (spec_avGood.f k w h l).bind fun t => if t = true then ((spec_avText.f k w h l).bind fun x => some (w, h, l, (x.toList == s.toList))) else some (w, h, l, false)) (finS w h l s) := by
 have hg := avGood_ev w h l hl
 unfold finS
 cases hgg : good w h l <;> rw [hgg] at hg
 ·exact Ev.bind hg (Ev.itef (by simp) (Ev.now _))
 ·obtain ⟨hw, hh, h30, hb⟩ := good_small hgg
  refine Ev.bind hg (Ev.itet rfl (Ev.bind (avText_ev w h l h30 (by omega) (by omega) hb) ?_))
  rw [toList_eq', Bool.true_and]
  exact Ev.now _
theorem bt_some (x : List UInt8) (i : Nat) (h : i < x.length) : bt (str x) (i : Int) = (x[i].toNat : Int) := by
 rw [bt_get _ _ (by simpa [str] using h)]; simp [str]
theorem read_ev (x : List UInt8) (hx : x.length ≤ 1048576) : ∃ v, Ev (fun k => spec_l1Read.f k (str x)) v := by
 have key : ∀ (d i : Nat) (v : Int), i + d = x.length → ∃ r, Ev (fun k => spec_l1Read.l0 k (str x) v (i : Int)) r := by
  intro d
  induction d with
  | zero =>
   intro i v hi
   refine ⟨v, Ev.succ ?_⟩
   simp only [spec_l1Read.l0]
   rw [str_size]
   exact Ev.itef (by omega) (Ev.now _)
  | succ d ih =>
   intro i v hi
   have hlt : i < x.length := by omega
   have hw1 : wrap64 ((i : Int) + 1) = ((i + 1 : Nat) : Int) := by rw [w64 (by omega) (by omega)]; rfl
   obtain ⟨r, hr⟩ := ih (i + 1) (wrap64 ((wrap64 (10 * v)) + (((bt (str x) (i : Int)) - 48) % 256))) (by omega)
   by_cases h1 : bt (str x) (i : Int) < 48
   ·refine ⟨-1, Ev.succ ?_⟩
    simp only [spec_l1Read.l0]
    rw [str_size]
    exact Ev.itet (by omega) (Ev.itet (by omega) (Ev.itet h1 (Ev.now _)))
   ·by_cases h2 : bt (str x) (i : Int) > 57
    ·refine ⟨-1, Ev.succ ?_⟩
     simp only [spec_l1Read.l0]
     rw [str_size]
     exact Ev.itet (by omega) (Ev.itet (by omega) (Ev.itef h1 (Ev.itet h2 (Ev.now _))))
    ·refine ⟨r, Ev.succ ?_⟩
     simp only [spec_l1Read.l0]
     rw [str_size, hw1]
     exact Ev.itet (by omega) (Ev.itet (by omega) (Ev.itef h1 (Ev.itef h2 hr)))
 obtain ⟨r0, h0⟩ := key x.length 0 0 (by omega)
 have j : ∀ b : Bool, ∃ r, Ev (fun k => spec_l1Read.j0 k (str x) b) r := by
  intro b
  cases b
  ·refine ⟨r0, Ev.succ ?_⟩
   simp only [spec_l1Read.j0]
   exact Ev.itef (by simp) h0
  ·refine ⟨-1, Ev.succ ?_⟩
   simp only [spec_l1Read.j0]
   exact Ev.itet (by simp) (Ev.now _)
 unfold spec_l1Read.f
 rw [l1In_f, str_size]
 simp only [Option.bind_some]
 by_cases h1 : 1 ≤ (x.length : Int) ∧ (x.length : Int) ≤ 6
 ·by_cases h2 : bt (str x) 0 = 48
  ·obtain ⟨r, hr⟩ := j (decide ((x.length : Int) > 1))
   exact ⟨r, Ev.itet (decide_eq_true h1) (Ev.itet (by omega) (Ev.itet h2 hr))⟩
  ·obtain ⟨r, hr⟩ := j false
   exact ⟨r, Ev.itet (decide_eq_true h1) (Ev.itet (by omega) (Ev.itef h2 hr))⟩
 ·obtain ⟨r, hr⟩ := j true
  exact ⟨r, Ev.itef (by simpa using h1) hr⟩
theorem dg_toNat (n : Int) (h : 0 ≤ n ∧ n < 10) : ((UInt8.ofNat (48 + n.toNat)).toNat : Int) = 48 + n := by
 have : (UInt8.ofNat (48 + n.toNat)).toNat = 48 + n.toNat := by rw [UInt8.toNat_ofNat']; omega
 rw [this]; omega
theorem read_dg (n : Int) (h : 0 ≤ n ∧ n < 10) : Ev (fun k => spec_l1Read.f k (str (dg n))) n := by
 have hb : bt (str (dg n)) 0 = 48 + n := by
  have := bt_some (dg n) 0 (by simp [dg])
  rw [show ((0 : Nat) : Int) = 0 from rfl] at this
  rw [this, ← dg_toNat n h]; simp [dg]
 have hz : ((str (dg n)).size : Int) = 1 := rfl
 have loop : Ev (fun k => spec_l1Read.l0 k (str (dg n)) 0 0) n := by
  refine Ev.succ ?_
  simp only [spec_l1Read.l0]
  rw [hz, hb]
  refine Ev.itet (by omega) (Ev.itet (by omega) (Ev.itef (by omega) (Ev.itef (by omega) (Ev.succ ?_))))
  simp only [spec_l1Read.l0]
  rw [hz]
  refine Ev.itef (by rw [w64 (by omega) (by omega)]; omega) ?_
  have e : wrap64 ((wrap64 (10 * 0)) + ((48 + n - 48) % 256)) = n := by rw [w64 (x := 10 * 0) (by omega) (by omega), w64 (by omega) (by omega)]; omega
  rw [e]
  exact Ev.now _
 have j : Ev (fun k => spec_l1Read.j0 k (str (dg n)) false) n := by
  refine Ev.succ ?_
  simp only [spec_l1Read.j0]
  exact Ev.itef (by simp) loop
 unfold spec_l1Read.f
 rw [l1In_f, hz, hb]
 simp only [Option.bind_some]
 refine Ev.itet (by simp) (Ev.itet (by omega) ?_)
 by_cases h0 : 48 + n = 48
 ·exact Ev.itet h0 (by simpa using j)
 ·exact Ev.itef h0 j
theorem of_two {α : Type} {l : List α} (h : l.length = 2) : ∃ a b, l = [a, b] := by
 match l, h with
 | [a, b], _ => exact ⟨a, b, rfl⟩
theorem sp_two {c : UInt8} {s : List UInt8} (h : (sp c [] s).length = 2) : ∃ a b, sp c [] s = [a, b] ∧ a.length ≤ s.length ∧ b.length ≤ s.length := by
 obtain ⟨a, b, e⟩ := of_two h
 have := sp_piece c s []
 rw [e] at this
 exact ⟨a, b, e, by simpa using this a (by simp), by simpa using this b (by simp)⟩
theorem rd0 (a b : ByteArray) : rdOf ByteArray.empty [a, b] 0 = a := rfl
theorem rd1 (a b : ByteArray) : rdOf ByteArray.empty [a, b] 1 = b := rfl
theorem specLoop (s : ByteArray) (W H : Int) (U : List ByteArray) (hU : U.length ≤ 1048576) : ∀ (d i : Nat) (acc : List BL), i + d = U.length → acc.length ≤ i → ∃ r, Ev (fun k => spec_avParse.l0 k s U (U.length : Int) (i : Int) W H acc) r ∧ Ok s r := by
 intro d
 induction d with
 | zero =>
  intro i acc hi ha
  refine ⟨finS W H acc s, Ev.succ ?_, finS_ok W H acc (by omega) s⟩
  simp only [spec_avParse.l0]
  exact Ev.itef (by omega) (fin_spec W H acc (by omega) s)
 | succ d ih =>
  intro i acc hi ha
  have hlt : i < U.length := by omega
  have hw : wrap64 ((i : Int) + 1) = ((i + 1 : Nat) : Int) := by rw [w64 (by omega) (by omega)]; rfl
  by_cases h3 : ((rdOf ByteArray.empty U (i : Int)).size : Int) = 3
  ·obtain ⟨r, hr, ho⟩ := ih (i + 1) (acc ++ [(⟨wrap64 ((wrap64 (bt (rdOf ByteArray.empty U (i : Int)) 0)) - 48), wrap64 ((wrap64 (bt (rdOf ByteArray.empty U (i : Int)) 2)) - 48), ((bt (rdOf ByteArray.empty U (i : Int)) 1) == 124)⟩ : BL)]) (by omega) (by simp; omega)
   refine ⟨r, Ev.succ ?_, ho⟩
   simp only [spec_avParse.l0]
   rw [hw]
   exact Ev.itet (by omega) (Ev.itet (by omega) (Ev.itet (by omega) (Ev.itet h3 (Ev.itet (by omega) (Ev.itet (by omega) (Ev.itet (by omega) (Ev.itet (by omega) hr)))))))
  ·refine ⟨fail, Ev.succ ?_, Or.inl ⟨rfl, by simp [fail]⟩⟩
   simp only [spec_avParse.l0]
   exact Ev.itet (by omega) (Ev.itet (by omega) (Ev.itet (by omega) (Ev.itef h3 (Ev.now _))))
theorem okFail (s : ByteArray) : Ok s fail := Or.inl ⟨rfl, by simp [fail]⟩
theorem spec_sound (s : List UInt8) (hs : s.length ≤ 1048576) : ∃ r, Ev (fun k => spec_avParse.f k (str s)) r ∧ Ok (str s) r := by
 have h0 := l1Split_ev s (by omega) 58
 rw [show ((58 : UInt8).toNat : Int) = 58 from rfl] at h0
 have jt : ∀ P, Ev (fun k => spec_avParse.j0 k (str s) P true) fail := fun P => by
  refine Ev.succ ?_
  simp only [spec_avParse.j0]
  exact Ev.itet (by simp) (Ev.now _)
 unfold spec_avParse.f
 by_cases h1 : ((str s).size : Int) > 140
 ·exact ⟨fail, Ev.bind h0 (Ev.itet h1 (jt _)), okFail _⟩
 ·have hlen : s.length ≤ 140 := by rw [str_size] at h1; omega
  by_cases h2 : (sp 58 [] s).length = 2
  ·obtain ⟨p, q, e, hp, hq⟩ := sp_two h2
   rw [e] at h0
   have e2 : (((([p, q] : List (List UInt8)).map str).length : Int) != 2) = false := rfl
   suffices h : ∃ r, Ev (fun k => spec_avParse.j0 k (str s) ([p, q].map str) false) r ∧ Ok (str s) r by
    obtain ⟨r, hr, ho⟩ := h
    exact ⟨r, Ev.bind h0 (Ev.itef h1 (by rw [e2]; exact hr)), ho⟩
   have h3 := l1Split_ev p (by omega) 120
   rw [show ((120 : UInt8).toNat : Int) = 120 from rfl] at h3
   by_cases h4 : (sp 120 [] p).length = 2
   ·obtain ⟨a, b, ea, ha, hb⟩ := sp_two h4
    rw [ea] at h3
    obtain ⟨va, hva⟩ := read_ev a (by omega)
    obtain ⟨vb, hvb⟩ := read_ev b (by omega)
    by_cases h5 : ((str q).size : Int) > 0
    ·have h6 := l1Split_ev q (by omega) 44
     rw [show ((44 : UInt8).toNat : Int) = 44 from rfl] at h6
     have hn := sp_len 44 q []
     obtain ⟨r, hr, ho⟩ := specLoop (str s) va vb ((sp 44 [] q).map str) (by simp; omega) _ 0 [] (by rw [Nat.zero_add]) (Nat.le_refl _)
     refine ⟨r, Ev.succ ?_, ho⟩
     simp only [spec_avParse.j0, List.map_cons, List.map_nil, rd0, rd1]
     refine Ev.itef (by simp) (Ev.itet (by simp) (Ev.bind h3 (Ev.itet (by simp) (Ev.itet (by simp) (Ev.bind hva (Ev.itet (by simp) (Ev.bind hvb (Ev.itet (by simp) (Ev.itet h5 (Ev.bind h6 hr))))))))))
    ·refine ⟨finS va vb [] (str s), Ev.succ ?_, finS_ok va vb [] (by simp) _⟩
     simp only [spec_avParse.j0, List.map_cons, List.map_nil, rd0, rd1]
     exact Ev.itef (by simp) (Ev.itet (by simp) (Ev.bind h3 (Ev.itet (by simp) (Ev.itet (by simp) (Ev.bind hva (Ev.itet (by simp) (Ev.bind hvb (Ev.itet (by simp) (Ev.itef h5 (fin_spec va vb [] (by simp) _))))))))))
   ·refine ⟨fail, Ev.succ ?_, okFail _⟩
    simp only [spec_avParse.j0, List.map_cons, List.map_nil, rd0, rd1]
    exact Ev.itef (by simp) (Ev.itet (by simp) (Ev.bind h3 (Ev.itef (by rw [List.length_map]; omega) (Ev.now _))))
  ·have e2 : ((((sp 58 [] s).map str).length : Int) != 2) = true := by rw [List.length_map]; simp; omega
   exact ⟨fail, Ev.bind h0 (Ev.itef h1 (by rw [e2]; exact jt _)), okFail _⟩
theorem dg_ne (n : Int) (h : 0 ≤ n ∧ n < 10) (c : UInt8) (hc : c.toNat < 48 ∨ 57 < c.toNat) : c ∉ dg n := by
 intro e
 have e := List.mem_singleton.mp e
 have := dg_toNat n h
 rw [← e] at this
 omega
theorem sgn_ne (u : Bool) (c : UInt8) (h1 : c ≠ 124) (h2 : c ≠ 45) : c ≠ sgn u := by unfold sgn; split <;> assumption
theorem tx_ne (b : BL) (hb : (0 ≤ b.f0 ∧ b.f0 < 10) ∧ (0 ≤ b.f1 ∧ b.f1 < 10)) (c : UInt8) (hc : c.toNat < 48 ∨ 57 < c.toNat) (h1 : c ≠ 124) (h2 : c ≠ 45) : c ∉ tx b := by
 unfold tx
 intro e
 rcases List.mem_append.mp e with e | e
 ·rcases List.mem_append.mp e with e | e
  ·exact dg_ne _ hb.1 c hc e
  ·exact sgn_ne b.f2 c h1 h2 (List.mem_singleton.mp e)
 ·exact dg_ne _ hb.2 c hc e
theorem J_cons (b c : BL) (l : List BL) : J (b :: c :: l) = tx b ++ 44 :: J (c :: l) := by
 unfold J
 simp only [List.map_cons]
 exact join2 _ _ _ _
theorem J_ne (c : UInt8) (hc : c.toNat < 48 ∨ 57 < c.toNat) (h1 : c ≠ 124) (h2 : c ≠ 45) (h3 : c ≠ 44) : ∀ l : List BL, (∀ b ∈ l, (0 ≤ b.f0 ∧ b.f0 < 10) ∧ (0 ≤ b.f1 ∧ b.f1 < 10)) → c ∉ J l
 | [], _ => by simp [J, Go.Lib.join_nil]
 | [b], h => by rw [J_one]; exact tx_ne b (h b (by simp)) c hc h1 h2
 | b :: d :: l, h => by
  rw [J_cons]
  intro e
  rcases List.mem_append.mp e with e | e
  ·exact tx_ne b (h b (by simp)) c hc h1 h2 e
  ·rcases List.mem_cons.mp e with e | e
   ·exact h3 e
   ·exact J_ne c hc h1 h2 h3 (d :: l) (fun x hx => h x (by simp at hx ⊢; exact Or.inr hx)) e
theorem sp_J (b : BL) (l : List BL) (h : ∀ c ∈ b :: l, (0 ≤ c.f0 ∧ c.f0 < 10) ∧ (0 ≤ c.f1 ∧ c.f1 < 10)) : sp 44 [] (J (b :: l)) = (b :: l).map tx := by
 unfold J
 rw [List.map_cons, sp_join 44 (tx b) (l.map tx) (fun y hy => ?_)]
 rw [← List.map_cons] at hy
 obtain ⟨c, hc, rfl⟩ := List.mem_map.mp hy
 exact tx_ne c (h c hc) 44 (by decide) (by decide) (by decide)
theorem sp_base (w h : Int) (hw : 0 ≤ w ∧ w < 10) (hh : 0 ≤ h ∧ h < 10) : sp 120 [] (dg w ++ [120] ++ dg h) = [dg w, dg h] := by
 rw [List.append_assoc, List.singleton_append, sp_cons 120 _ _ [] (dg_ne w hw 120 (by decide)), sp_none 120 _ [] (dg_ne h hh 120 (by decide))]
 rfl
theorem TX_eq (w h : Int) (l : List BL) : TX w h l = (dg w ++ [120] ++ dg h) ++ 58 :: J l := by
 unfold TX base
 simp
theorem pre_ne (w h : Int) (hw : 0 ≤ w ∧ w < 10) (hh : 0 ≤ h ∧ h < 10) : (58 : UInt8) ∉ dg w ++ [120] ++ dg h := by
 intro e
 rcases List.mem_append.mp e with e | e
 ·rcases List.mem_append.mp e with e | e
  ·exact dg_ne w hw 58 (by decide) e
  ·exact absurd (List.mem_singleton.mp e) (by decide)
 ·exact dg_ne h hh 58 (by decide) e
theorem sp_TX (w h : Int) (l : List BL) (hw : 0 ≤ w ∧ w < 10) (hh : 0 ≤ h ∧ h < 10) (hb : ∀ b ∈ l, (0 ≤ b.f0 ∧ b.f0 < 10) ∧ (0 ≤ b.f1 ∧ b.f1 < 10)) : sp 58 [] (TX w h l) = [dg w ++ [120] ++ dg h, J l] := by
 rw [TX_eq, sp_cons 58 _ _ [] (pre_ne w h hw hh), sp_none 58 _ [] (J_ne 58 (by decide) (by decide) (by decide) (by decide) l hb)]
 rfl
theorem TX_len (w h : Int) (l : List BL) : (TX w h l).length ≤ 4 + 4 * l.length := by
 have := J_len l
 unfold TX
 rw [List.length_append, base_len]
 omega
theorem finS_good {w h : Int} {l : List BL} (hg : good w h l = true) : finS w h l (str (TX w h l)) = (w, h, l, true) := by
 unfold finS
 rw [hg, decide_eq_true rfl]
 rfl
theorem tx_bt (b : BL) (hb : (0 ≤ b.f0 ∧ b.f0 < 10) ∧ (0 ≤ b.f1 ∧ b.f1 < 10)) : bt (str (tx b)) 0 = 48 + b.f0 ∧ bt (str (tx b)) 2 = 48 + b.f1 ∧ (bt (str (tx b)) 1 == 124) = b.f2 := by
 have l3 := tx_len b
 refine ⟨?_, ?_, ?_⟩
 ·have := bt_some (tx b) 0 (by omega)
  rw [show ((0 : Nat) : Int) = 0 from rfl] at this
  rw [this, ← dg_toNat _ hb.1]; rfl
 ·have := bt_some (tx b) 2 (by omega)
  rw [show ((2 : Nat) : Int) = 2 from rfl] at this
  rw [this, ← dg_toNat _ hb.2]; rfl
 ·have := bt_some (tx b) 1 (by omega)
  rw [show ((1 : Nat) : Int) = 1 from rfl] at this
  rw [this, show (tx b)[1]'(by omega) = sgn b.f2 from rfl]
  cases b.f2 <;> rfl
theorem specLoop_good (w h : Int) (l : List BL) (hg : good w h l = true) : ∀ (d i : Nat), i + d = l.length → Ev (fun k => spec_avParse.l0 k (str (TX w h l)) ((l.map tx).map str) (((l.map tx).map str).length : Int) (i : Int) w h (l.take i)) (w, h, l, true) := by
 obtain ⟨hw, hh, h30, hb⟩ := good_small hg
 have hlen : (((l.map tx).map str).length : Int) = (l.length : Int) := by simp
 intro d
 induction d with
 | zero =>
  intro i hi
  have := fin_spec w h l (by omega) (str (TX w h l))
  rw [finS_good hg] at this
  refine Ev.succ ?_
  simp only [spec_avParse.l0]
  rw [hlen, List.take_of_length_le (by omega)]
  exact Ev.itef (by omega) this
 | succ d ih =>
  intro i hi
  have hlt : i < l.length := by omega
  have hw1 : wrap64 ((i : Int) + 1) = ((i + 1 : Nat) : Int) := by rw [w64 (by omega) (by omega)]; rfl
  have e : rdOf ByteArray.empty ((l.map tx).map str) (i : Int) = str (tx l[i]) := by rw [rdOf_get _ _ i (by simpa using hlt)]; simp
  obtain ⟨b0, b2, b1⟩ := tx_bt l[i] (hb _ (List.getElem_mem hlt))
  obtain ⟨c0, c1⟩ := hb _ (List.getElem_mem hlt)
  have ih := ih (i + 1) (by omega)
  rw [List.take_succ_eq_append_getElem hlt] at ih
  have z : ((str (tx l[i])).size : Int) = 3 := rfl
  refine Ev.succ ?_
  simp only [spec_avParse.l0]
  rw [e, hw1, b0, b1, b2, z]
  have e0 : wrap64 (wrap64 (48 + l[i].f0) - 48) = l[i].f0 := by rw [w64 (x := 48 + l[i].f0) (by omega) (by omega), w64 (by omega) (by omega)]; omega
  have e1 : wrap64 (wrap64 (48 + l[i].f1) - 48) = l[i].f1 := by rw [w64 (x := 48 + l[i].f1) (by omega) (by omega), w64 (by omega) (by omega)]; omega
  rw [e0, e1]
  exact Ev.itet (by omega) (Ev.itet (by omega) (Ev.itet (by omega) (Ev.itet rfl (Ev.itet (by omega) (Ev.itet (by omega) (Ev.itet (by omega) (Ev.itet (by simp; omega) ih)))))))
theorem spec_good (w h : Int) (l : List BL) (hg : good w h l = true) : Ev (fun k => spec_avParse.f k (str (TX w h l))) (w, h, l, true) := by
 obtain ⟨hw, hh, h30, hb⟩ := good_small hg
 have hT := TX_len w h l
 have h0 := l1Split_ev (TX w h l) (by omega) 58
 rw [show ((58 : UInt8).toNat : Int) = 58 from rfl, sp_TX w h l (by omega) (by omega) hb] at h0
 have h3 := l1Split_ev (dg w ++ [120] ++ dg h) (by simp [dg]) 120
 rw [show ((120 : UInt8).toNat : Int) = 120 from rfl, sp_base w h (by omega) (by omega)] at h3
 have hva := read_dg w (by omega)
 have hvb := read_dg h (by omega)
 unfold spec_avParse.f
 have e2 : (((([dg w ++ [120] ++ dg h, J l] : List (List UInt8)).map str).length : Int) != 2) = false := rfl
 refine Ev.bind h0 ?_
 by_cases hbig : ((str (TX w h l)).size : Int) > 140
 ·exfalso
  rw [str_size] at hbig
  omega
 refine Ev.itef hbig ?_
 rw [e2]
 refine Ev.succ ?_
 simp only [spec_avParse.j0, List.map_cons, List.map_nil, rd0, rd1]
 refine Ev.itef (by simp) (Ev.itet (by simp) (Ev.bind h3 (Ev.itet (by simp) (Ev.itet (by simp) (Ev.bind hva (Ev.itet (by simp) (Ev.bind hvb (Ev.itet (by simp) ?_))))))))
 cases l with
 | nil =>
  have := fin_spec w h [] (by simp) (str (TX w h []))
  rw [finS_good hg] at this
  exact Ev.itef (by simp [J, Go.Lib.join_nil, str_size]) this
 | cons b l =>
  have h6 := l1Split_ev (J (b :: l)) (by have := J_len (b :: l); omega) 44
  rw [show ((44 : UInt8).toNat : Int) = 44 from rfl, sp_J b l hb] at h6
  have hp : 0 < (J (b :: l)).length := by
   cases l with
   | nil => rw [J_one, tx_len]; omega
   | cons c l => rw [J_cons, List.length_append, tx_len]; omega
  have := specLoop_good w h (b :: l) hg _ 0 (by rw [Nat.zero_add])
  exact Ev.itet (by rw [str_size]; omega) (Ev.bind h6 this)
def finI (w h : Int) (l : List BL) (s : ByteArray) : RS := if good w h l = true ∧ str (TX w h l) = s then (w, h, l, true) else fail
def OkI (s : ByteArray) (r : RS) : Prop := r = fail ∨ ∃ w h l, good w h l = true ∧ s = str (TX w h l) ∧ r = (w, h, l, true)
theorem finI_ok (w h : Int) (l : List BL) (s : ByteArray) : OkI s (finI w h l s) := by
 unfold finI
 by_cases h1 : good w h l = true ∧ str (TX w h l) = s
 ·rw [if_pos h1]; exact Or.inr ⟨w, h, l, h1.1, h1.2.symm, rfl⟩
 ·rw [if_neg h1]; exact Or.inl rfl
theorem fin_impl (w h : Int) (l : List BL) (hl : l.length ≤ 1048576) (s : ByteArray) : Ev (fun k => impl_ParseCity.j2 k s w h l) (finI w h l s) := by
 have hg := IsCity_ev w h l hl
 refine Ev.succ ?_
 simp only [impl_ParseCity.j2]
 unfold finI
 cases hgg : good w h l <;> rw [hgg] at hg
 ·rw [if_neg (by simp)]
  exact Ev.bind hg (Ev.itef (by simp) (Ev.now _))
 ·obtain ⟨hw, hh, h30, hb⟩ := good_small hgg
  have hc := cityText_f w h l h30 (by omega) (by omega) hb
  have hc' : impl_cityText.f w h l = some (str (TX w h l)) := hc
  by_cases h2 : str (TX w h l) = s
  ·rw [if_pos (And.intro rfl h2)]
   exact Ev.bind hg (Ev.itet rfl (Ev.bind (Ev.some_ fun _ => hc') (Ev.itet (by rw [h2]) (Ev.now _))))
  ·rw [if_neg (fun e : (true = true) ∧ _ => h2 e.2)]
   exact Ev.bind hg (Ev.itet rfl (Ev.bind (Ev.some_ fun _ => hc') (Ev.itef (fun e : (str (TX w h l)).toList = s.toList => h2 (by rw [ByteArray.toList_eq, ByteArray.toList_eq] at e; exact ba_ext e)) (Ev.now _))))
def rns : List Int → List ByteArray → List Int × Bool
 | acc, [] => (acc, true)
 | acc, x :: r => match impl_readNumber.num x with
  | some v => rns (acc ++ [v]) r
  | none => ([], false)
theorem numbers_ev (s : List UInt8) (hs : s.length ≤ 1048576) (c : UInt8) : Ev (fun k => impl_readNumbers.f k (str s) (⟨#[c]⟩ : ByteArray)) (rns [] ((sp c [] s).map str)) := by
 have hS : strings_Split.f (str s) (⟨#[c]⟩ : ByteArray) = some ((sp c [] s).map str) := by
  unfold strings_Split.f
  rw [if_pos ⟨by rw [str_size]; omega, Nat.le_refl 1⟩, Split_l]
 have hz : ∀ x ∈ (sp c [] s).map str, x.size ≤ 2097152 := by
  intro x hx
  obtain ⟨y, hy, rfl⟩ := List.mem_map.mp hx
  have := sp_piece c s [] y hy
  rw [str_size]
  simp at this
  omega
 have hn : ((sp c [] s).map str).length ≤ 1048577 := by
  have := sp_len c s []
  rw [List.length_map]
  omega
 unfold impl_readNumbers.f
 rw [hS]
 simp only [Option.bind_some]
 generalize (sp c [] s).map str = U at hz hn ⊢
 have key : ∀ (d i : Nat) (acc : List Int), i + d = U.length → acc.length ≤ i → Ev (fun k => impl_readNumbers.l0 k acc U (U.length : Int) (i : Int)) (rns acc (U.drop i)) := by
  intro d
  induction d with
  | zero =>
   intro i acc hi ha
   refine Ev.succ ?_
   simp only [impl_readNumbers.l0]
   rw [List.drop_eq_nil_of_le (by omega)]
   exact Ev.itef (by omega) (Ev.now _)
  | succ d ih =>
   intro i acc hi ha
   have hlt : i < U.length := by omega
   have hw1 : wrap64 ((i : Int) + 1) = ((i + 1 : Nat) : Int) := by rw [w64 (by omega) (by omega)]; rfl
   refine Ev.succ ?_
   simp only [impl_readNumbers.l0]
   rw [hw1, rdOf_get _ _ i hlt, List.drop_eq_getElem_cons hlt, rns]
   unfold impl_readNumber.f
   rw [if_pos (hz _ (List.getElem_mem hlt))]
   simp only [Option.bind_some]
   refine Ev.itet (by omega) (Ev.itet (by omega) (Ev.itet (by omega) ?_))
   cases impl_readNumber.num U[i] with
   | none => exact Ev.itef (by simp) (Ev.now _)
   | some v => exact Ev.itet rfl (Ev.itet (by omega) (ih (i + 1) (acc ++ [v]) (by omega) (by simp; omega)))
 have := key U.length 0 [] (by omega) (Nat.le_refl _)
 simpa using this
theorem cut_f (s : List UInt8) (hs : s.length ≤ 1048576) : ∃ (p q : List UInt8) (b : Bool), strings_Cut.f (str s) (⟨#[58]⟩ : ByteArray) = some (str p, str q, b) ∧ p.length ≤ s.length ∧ q.length ≤ 1048575 := by
 refine ⟨(Go.Lib.cut s [58]).1, (Go.Lib.cut s [58]).2.1, (Go.Lib.cut s [58]).2.2, ?_, ?_, ?_⟩
 ·unfold strings_Cut.f
  rw [if_pos (by rw [str_size]; omega)]
  rfl
 ·unfold Go.Lib.cut
  split
  ·simp; omega
  ·exact Nat.le_refl _
 ·unfold Go.Lib.cut
  split
  ·simp; omega
  ·simp
theorem implLoop (s x : ByteArray) (W H : Int) (q : List UInt8) (hq : q.length ≤ 1048575) : ∀ (d i : Nat) (acc : List BL), i + d = ((sp 44 [] q).map str).length → acc.length ≤ i → ∃ r, Ev (fun k => impl_ParseCity.l0 k s x ((sp 44 [] q).map str) (((sp 44 [] q).map str).length : Int) (i : Int) W H acc) r ∧ OkI s r := by
 have hn : ((sp 44 [] q).map str).length ≤ 1048576 := by
  have := sp_len 44 q []
  rw [List.length_map]
  omega
 intro d
 induction d with
 | zero =>
  intro i acc hi ha
  refine ⟨finI W H acc s, Ev.succ ?_, finI_ok W H acc s⟩
  simp only [impl_ParseCity.l0]
  exact Ev.itef (by omega) (fin_impl W H acc (by omega) s)
 | succ d ih =>
  intro i acc hi ha
  have hlt : i < ((sp 44 [] q).map str).length := by omega
  have hw : wrap64 ((i : Int) + 1) = ((i + 1 : Nat) : Int) := by rw [w64 (by omega) (by omega)]; rfl
  have hlt' : i < (sp 44 [] q).length := by rw [List.length_map] at hlt; exact hlt
  have e : rdOf ByteArray.empty ((sp 44 [] q).map str) (i : Int) = str (sp 44 [] q)[i] := by rw [rdOf_get _ _ i hlt]; simp
  have hz : ((sp 44 [] q)[i]).length ≤ 1048576 := by
   have := sp_piece 44 q [] _ (List.getElem_mem hlt')
   simp at this
   omega
  by_cases hx : x.toList = ([] : List UInt8)
  ·refine ⟨finI W H acc s, Ev.succ ?_, finI_ok W H acc s⟩
   simp only [impl_ParseCity.l0]
   exact Ev.itet (by omega) (Ev.itet (by omega) (Ev.itet (by omega) (Ev.itet hx (fin_impl W H acc (by omega) s))))
  ·have hC : strings_Contains.f (str (sp 44 [] q)[i]) (⟨#[124]⟩ : ByteArray) = some (Go.Lib.contains (sp 44 [] q)[i] [124]) := by
    unfold strings_Contains.f
    rw [if_pos (by rw [str_size]; omega)]
    rfl
   have body : ∀ (c : UInt8) (f2 : Bool) (R : List Int × Bool), ∃ r, Ev (fun k => if R.2 = true then (if (R.1.length : Int) = 2 then (if 0 < (R.1.length : Int) then (if 1 < (R.1.length : Int) then (if acc.length < 5864062014805 then (impl_ParseCity.l0 k s x ((sp 44 [] q).map str) (((sp 44 [] q).map str).length : Int) ((i + 1 : Nat) : Int) W H (acc ++ [(⟨rd R.1 0, rd R.1 1, f2⟩ : BL)])) else none) else none) else none) else some (0, 0, ([] : List BL), false)) else some (0, 0, ([] : List BL), false)) r ∧ OkI s r := by
    intro c f2 R
    by_cases h1 : R.2 = true
    ·by_cases h2 : (R.1.length : Int) = 2
     ·obtain ⟨r, hr, ho⟩ := ih (i + 1) (acc ++ [(⟨rd R.1 0, rd R.1 1, f2⟩ : BL)]) (by omega) (by simp; omega)
      exact ⟨r, Ev.itet h1 (Ev.itet h2 (Ev.itet (by omega) (Ev.itet (by omega) (Ev.itet (by omega) hr)))), ho⟩
     ·exact ⟨fail, Ev.itet h1 (Ev.itef h2 (Ev.now _)), Or.inl rfl⟩
    ·exact ⟨fail, Ev.itef h1 (Ev.now _), Or.inl rfl⟩
   by_cases hc : Go.Lib.contains (sp 44 [] q)[i] [124] = true
   ·obtain ⟨r, hr, ho⟩ := body 124 (([124] : List UInt8) == ([124] : List UInt8)) (rns [] ((sp 124 [] (sp 44 [] q)[i]).map str))
    refine ⟨r, Ev.succ ?_, ho⟩
    simp only [impl_ParseCity.l0]
    rw [e, hC, hw]
    simp only [Option.bind_some]
    exact Ev.itet (by omega) (Ev.itet (by omega) (Ev.itet (by omega) (Ev.itef hx (Ev.itet hc (Ev.bind (numbers_ev _ hz 124) hr)))))
   ·obtain ⟨r, hr, ho⟩ := body 45 (([45] : List UInt8) == ([124] : List UInt8)) (rns [] ((sp 45 [] (sp 44 [] q)[i]).map str))
    refine ⟨r, Ev.succ ?_, ho⟩
    simp only [impl_ParseCity.l0]
    rw [e, hC, hw]
    simp only [Option.bind_some]
    exact Ev.itet (by omega) (Ev.itet (by omega) (Ev.itet (by omega) (Ev.itef hx (Ev.itef hc (Ev.bind (numbers_ev _ hz 45) hr)))))
theorem impl_sound (s : List UInt8) (hs : s.length ≤ 1048576) : ∃ r, Ev (fun k => impl_ParseCity.f k (str s)) r ∧ OkI (str s) r := by
 obtain ⟨p, q, b, hC, hp, hq⟩ := cut_f s hs
 have jt : ∀ x l, Ev (fun k => impl_ParseCity.j0 k (str s) x l true) fail := fun x l => by
  refine Ev.succ ?_
  simp only [impl_ParseCity.j0]
  exact Ev.itet (by simp) (Ev.now _)
 have hN := numbers_ev p (by omega) 120
 unfold impl_ParseCity.f
 rw [hC]
 simp only [Option.bind_some]
 generalize rns [] ((sp 120 [] p).map str) = R at hN
 by_cases h1 : R.2 = true
 ·by_cases h2 : R.1.length = 2
  ·have e2 : ((R.1.length : Int) != 2) = false := by simp [h2]
   have hS : strings_Split.f (str q) (⟨#[44]⟩ : ByteArray) = some ((sp 44 [] q).map str) := by
    unfold strings_Split.f
    rw [if_pos ⟨by rw [str_size]; omega, Nat.le_refl 1⟩, Split_l]
   obtain ⟨r, hr, ho⟩ := implLoop (str s) (str q) (rd R.1 0) (rd R.1 1) q hq _ 0 [] (by rw [Nat.zero_add]) (Nat.le_refl _)
   refine ⟨r, Ev.bind hN (Ev.itet h1 ?_), ho⟩
   rw [e2]
   refine Ev.succ ?_
   simp only [impl_ParseCity.j0]
   rw [hS]
   simp only [Option.bind_some]
   exact Ev.itef (by simp) (Ev.itet (by omega) (Ev.itet (by omega) hr))
  ·have e2 : ((R.1.length : Int) != 2) = true := by simp; omega
   exact ⟨fail, Ev.bind hN (Ev.itet h1 (by rw [e2]; exact jt _ _)), Or.inl rfl⟩
 ·exact ⟨fail, Ev.bind hN (Ev.itef h1 (jt _ _)), Or.inl rfl⟩
theorem num_dg (n : Int) (h : 0 ≤ n ∧ n < 10) : impl_readNumber.num (str (dg n)) = some n := by
 have e1 : impl_readNumber.dec n = str (dg n) := by
  rw [← dec_dg n h]
  unfold impl_readNumber.dec impl_joinNumbers.dec Go.Lib.itoa
  rw [if_neg (by omega)]
 have e2 : Go.Lib.atoiAll (str (dg n)).data.toList = .ok n := by
  rw [show (str (dg n)).data.toList = dg n by simp [str]]
  obtain ⟨m, rfl⟩ : ∃ m : Nat, n = (m : Int) := ⟨n.toNat, by omega⟩
  have hm : m = 0 ∨ m = 1 ∨ m = 2 ∨ m = 3 ∨ m = 4 ∨ m = 5 ∨ m = 6 ∨ m = 7 ∨ m = 8 ∨ m = 9 := by omega
  rcases hm with rfl | rfl | rfl | rfl | rfl | rfl | rfl | rfl | rfl | rfl <;> decide +kernel
 unfold impl_readNumber.num
 rw [e2]
 have e1' : (⟨(Go.Lib.itoa n).toArray⟩ : ByteArray) = str (dg n) := e1
 simp only [e1', if_true]
theorem rns_two (x y : Int) (hx : 0 ≤ x ∧ x < 10) (hy : 0 ≤ y ∧ y < 10) : rns [] [str (dg x), str (dg y)] = ([x, y], true) := by
 simp only [rns, num_dg x hx, num_dg y hy]
 rfl
theorem sp_tx (b : BL) (hb : (0 ≤ b.f0 ∧ b.f0 < 10) ∧ (0 ≤ b.f1 ∧ b.f1 < 10)) : sp (sgn b.f2) [] (tx b) = [dg b.f0, dg b.f1] := by
 have h1 : (sgn b.f2).toNat < 48 ∨ 57 < (sgn b.f2).toNat := by unfold sgn; split <;> decide
 unfold tx
 rw [List.append_assoc, List.singleton_append, sp_cons _ _ _ [] (dg_ne b.f0 hb.1 _ h1), sp_none _ _ [] (dg_ne b.f1 hb.2 _ h1)]
 rfl
theorem tx_has (b : BL) (hb : (0 ≤ b.f0 ∧ b.f0 < 10) ∧ (0 ≤ b.f1 ∧ b.f1 < 10)) : Go.Lib.contains (tx b) [124] = b.f2 := by
 unfold Go.Lib.contains
 rw [Go.Lib.index_one]
 cases hu : b.f2
 ·have : (124 : UInt8) ∉ tx b := by
   unfold tx sgn
   rw [hu]
   intro e
   rcases List.mem_append.mp e with e | e
   ·rcases List.mem_append.mp e with e | e
    ·exact dg_ne _ hb.1 124 (by decide) e
    ·exact absurd (List.mem_singleton.mp e) (by decide)
   ·exact dg_ne _ hb.2 124 (by decide) e
  rw [idx_none 124 _ this]
  rfl
 ·have e : tx b = dg b.f0 ++ 124 :: dg b.f1 := by
   unfold tx sgn
   rw [hu]
   simp
  rw [e, idx_some 124 _ _ (dg_ne _ hb.1 124 (by decide))]
  simp
theorem str_ne {x : List UInt8} (h : 0 < x.length) : ¬ (str x).toList = ([] : List UInt8) := by
 intro e
 rw [ByteArray.toList_eq] at e
 have : (str x).data.toList = x := by simp [str]
 rw [this] at e
 rw [e] at h
 simp at h
theorem implLoop_good (w h : Int) (l : List BL) (hg : good w h l = true) (x : ByteArray) (hx : ¬ x.toList = ([] : List UInt8)) : ∀ (d i : Nat), i + d = l.length → Ev (fun k => impl_ParseCity.l0 k (str (TX w h l)) x ((l.map tx).map str) (((l.map tx).map str).length : Int) (i : Int) w h (l.take i)) (w, h, l, true) := by
 obtain ⟨hw, hh, h30, hb⟩ := good_small hg
 have hlen : (((l.map tx).map str).length : Int) = (l.length : Int) := by simp
 intro d
 induction d with
 | zero =>
  intro i hi
  have := fin_impl w h l (by omega) (str (TX w h l))
  rw [show finI w h l (str (TX w h l)) = (w, h, l, true) by unfold finI; rw [if_pos ⟨hg, rfl⟩]] at this
  refine Ev.succ ?_
  simp only [impl_ParseCity.l0]
  rw [hlen, List.take_of_length_le (by omega)]
  exact Ev.itef (by omega) this
 | succ d ih =>
  intro i hi
  have hlt : i < l.length := by omega
  have hw1 : wrap64 ((i : Int) + 1) = ((i + 1 : Nat) : Int) := by rw [w64 (by omega) (by omega)]; rfl
  have e : rdOf ByteArray.empty ((l.map tx).map str) (i : Int) = str (tx l[i]) := by rw [rdOf_get _ _ i (by simpa using hlt)]; simp
  have hbi := hb _ (List.getElem_mem hlt)
  have ih := ih (i + 1) (by omega)
  rw [List.take_succ_eq_append_getElem hlt] at ih
  have hC : strings_Contains.f (str (tx l[i])) (⟨#[124]⟩ : ByteArray) = some l[i].f2 := by
   unfold strings_Contains.f
   rw [if_pos (by rw [str_size, tx_len]; omega), ← tx_has l[i] hbi]
   simp [str]
  have hN := numbers_ev (tx l[i]) (by rw [tx_len]; omega) (sgn l[i].f2)
  rw [sp_tx _ hbi] at hN
  simp only [List.map_cons, List.map_nil] at hN
  rw [rns_two _ _ hbi.1 hbi.2] at hN
  refine Ev.succ ?_
  simp only [impl_ParseCity.l0]
  rw [e, hC, hw1]
  simp only [Option.bind_some]
  refine Ev.itet (by omega) (Ev.itet (by omega) (Ev.itet (by omega) (Ev.itef hx ?_)))
  have eb : l[i] = (⟨rd [l[i].f0, l[i].f1] 0, rd [l[i].f0, l[i].f1] 1, l[i].f2⟩ : BL) := rfl
  cases hu : l[i].f2
  ·rw [hu] at hN eb
   rw [eb] at ih
   refine Ev.itef (by simp) (Ev.bind hN (Ev.itet rfl (Ev.itet rfl (Ev.itet (by simp) (Ev.itet (by simp) (Ev.itet (by simp; omega) ?_))))))
   exact ih
  ·rw [hu] at hN eb
   rw [eb] at ih
   refine Ev.itet rfl (Ev.bind hN (Ev.itet rfl (Ev.itet rfl (Ev.itet (by simp) (Ev.itet (by simp) (Ev.itet (by simp; omega) ?_))))))
   exact ih
theorem cut_TX (w h : Int) (l : List BL) (hw : 0 ≤ w ∧ w < 10) (hh : 0 ≤ h ∧ h < 10) (hT : (TX w h l).length ≤ 1048576) : strings_Cut.f (str (TX w h l)) (⟨#[58]⟩ : ByteArray) = some (str (dg w ++ [120] ++ dg h), str (J l), true) := by
 have hi := idx_some 58 (J l) _ (pre_ne w h hw hh)
 have hd : ((dg w ++ [120] ++ dg h) ++ 58 :: J l).drop ((dg w ++ [120] ++ dg h).length + [(58 : UInt8)].length) = J l := by
  generalize dg w ++ [120] ++ dg h = p
  rw [List.drop_append, List.drop_eq_nil_of_le (by simp), show p.length + [(58 : UInt8)].length - p.length = 1 by simp]
  rfl
 have hc : Go.Lib.cut (TX w h l) [58] = (dg w ++ [120] ++ dg h, J l, true) := by
  unfold Go.Lib.cut
  rw [TX_eq, Go.Lib.index_one, hi, if_pos (by omega), Int.toNat_natCast, List.take_left, hd]
 unfold strings_Cut.f
 rw [if_pos (by rw [str_size]; omega)]
 unfold strings_Cut.a strings_Cut.b strings_Cut.c
 rw [show (str (TX w h l)).data.toList = TX w h l by simp [str], show (⟨#[58]⟩ : ByteArray).data.toList = [58] from rfl, hc]
 rfl
theorem impl_good (w h : Int) (l : List BL) (hg : good w h l = true) : Ev (fun k => impl_ParseCity.f k (str (TX w h l))) (w, h, l, true) := by
 obtain ⟨hw, hh, h30, hb⟩ := good_small hg
 have hT := TX_len w h l
 have hJ := J_len l
 have hN := numbers_ev (dg w ++ [120] ++ dg h) (by simp [dg]) 120
 rw [sp_base w h (by omega) (by omega)] at hN
 simp only [List.map_cons, List.map_nil] at hN
 rw [rns_two _ _ (by omega) (by omega)] at hN
 have hS : strings_Split.f (str (J l)) (⟨#[44]⟩ : ByteArray) = some ((sp 44 [] (J l)).map str) := by
  unfold strings_Split.f
  rw [if_pos ⟨by rw [str_size]; omega, Nat.le_refl 1⟩, Split_l]
 unfold impl_ParseCity.f
 rw [cut_TX w h l (by omega) (by omega) (by omega)]
 simp only [Option.bind_some]
 refine Ev.bind hN (Ev.itet rfl (Ev.succ ?_))
 simp only [impl_ParseCity.j0]
 rw [hS]
 simp only [Option.bind_some]
 refine Ev.itef (by simp) (Ev.itet (by simp) (Ev.itet (by simp) ?_))
 cases l with
 | nil =>
  have := fin_impl w h [] (by simp) (str (TX w h []))
  rw [show finI w h [] (str (TX w h [])) = (w, h, [], true) by unfold finI; rw [if_pos ⟨hg, rfl⟩]] at this
  refine Ev.succ ?_
  rw [show J ([] : List BL) = [] by simp [J, Go.Lib.join_nil]]
  simp only [sp, List.map_cons, List.map_nil, impl_ParseCity.l0]
  exact Ev.itet (by simp) (Ev.itet (by simp) (Ev.itet (by simp) (Ev.itet (by simp [str]) this)))
 | cons b l =>
  have hp : 0 < (J (b :: l)).length := by
   cases l with
   | nil => rw [J_one, tx_len]; omega
   | cons c l => rw [J_cons, List.length_append, tx_len]; omega
  have := implLoop_good w h (b :: l) hg (str (J (b :: l))) (str_ne hp) _ 0 (by rw [Nat.zero_add])
  rw [sp_J b l hb]
  exact this
theorem both (s : ByteArray) (hs : s.size ≤ 1048576) : ∃ r : RS, r.2.2.1.length ≤ 1048576 ∧ Ev (fun k => spec_ParseCity.f k s) r ∧ Ev (fun k => impl_ParseCity.f k s) r := by
 obtain ⟨t, rfl⟩ : ∃ t, s = str t := ⟨s.data.toList, (str_data s).symm⟩
 rw [str_size] at hs
 unfold spec_ParseCity.f
 obtain ⟨r1, h1, o1⟩ := spec_sound t hs
 obtain ⟨r2, h2, o2⟩ := impl_sound t hs
 have yes : ∀ w h l, good w h l = true → str t = str (TX w h l) → ∃ r : RS, r.2.2.1.length ≤ 1048576 ∧ Ev (fun k => (spec_avParse.f k (str t)).bind fun bt164 => (if bt164.2.2.2 = true then (some (bt164.1, bt164.2.1, bt164.2.2.1, true)) else (some (0, 0, ([] : List BL), false)))) r ∧ Ev (fun k => impl_ParseCity.f k (str t)) r := by
  intro w h l hg e
  have h30 := (good_wh hg).2.2
  have a := spec_good w h l hg
  have b := impl_good w h l hg
  rw [← e] at a b
  exact ⟨(w, h, l, true), by simp only; omega, Ev.bind a (Ev.itet rfl (Ev.now _)), b⟩
 rcases o1 with ⟨e1, _⟩ | ⟨w, h, l, hg, e, _⟩
 ·rcases o2 with rfl | ⟨w, h, l, hg, e, _⟩
  ·exact ⟨fail, by simp [fail], Ev.bind h1 (Ev.itef (by rw [e1]; simp) (Ev.now _)), h2⟩
  ·exact yes w h l hg e
 ·exact yes w h l hg e
theorem main : laws_FnExactParseCity.Pure := by
 intro s _
 refine Ev.rounds ?_
 unfold laws_FnExactParseCity.f
 by_cases h : s.size ≤ 1048576
 ·obtain ⟨⟨r1, r2, r3, r4⟩, hr, hs, hi⟩ := both s h
  simp only at hr
  have hmr := markCity_marks r1 r2 r3 hr
  have hhr := heldCity_marks r1 r2 r3.length hr
  have heq := eqCity_ev r1 r2 r3 hr
  refine Ev.itef (by omega) (Ev.bind hs (Ev.bind hi (Ev.bind heq (Ev.itet rfl (Ev.succ ?_)))))
  simp only [laws_FnExactParseCity.j0]
  refine Ev.itef (by simp) (Ev.bind hmr (Ev.bind hhr (Ev.itef (by omega) (Ev.itet rfl (Ev.bind hi (Ev.bind heq (Ev.itet rfl (Ev.succ ?_))))))))
  simp only [laws_FnExactParseCity.j1]
  exact Ev.itef (by simp) (Ev.bind hhr (Ev.itef (by omega) (Ev.itet rfl (Ev.now _))))
 ·exact Ev.itet (by omega) (Ev.now _)
end ParseCity
theorem FnExactParseCity : laws_FnExactParseCity.Pure := ParseCity.main
end Go.Proofs.YtbnbdaommbnecacDoor.Pure
