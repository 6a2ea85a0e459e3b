/- Cut by wip/cut.py out of the texts of this claim (printed by the kit's printer, or this session's own): what the row's theorem does not reach is struck. Not trusted: Lean checks it. -/
import Derived.Test.YtohpaddcfcgmbaaZFnExactWalkWordWalk
import Derived.Test.YtohpaddcfcgmbaaZFnExactWalkWordKit
namespace Go.Proofs.Ytohpaddcfcgmbaa.Pure
open Go.RowKit Go.Proofs.YtohpaddcfcgmbaaW.PrintWords Go.Proofs.YtohpaddcfcgmbaaW.PrintLast Go.Proofs.YtohpaddcfcgmbaaW.PrintMore Go.Proofs.YtohpaddcfcgmbaaKit
open Go.Proofs.Ytohpaddcfcgmbaa.PFnExactWalkWord
namespace WalkWord
theorem ge_le (a b c : Int) : (if a ≥ b then some (decide (a ≤ c)) else some false) = some (decide (b ≤ a ∧ a ≤ c)) := by
 by_cases h : a ≥ b
 ·rw [if_pos h]; simp [show b ≤ a from h]
 ·rw [if_neg h]; simp; omega
theorem l1In_f (a b c : Int) : spec_l1In.f a b c = some (decide (b ≤ a ∧ a ≤ c)) := by unfold spec_l1In.f; exact ge_le a b c
theorem within_f (a b c : Int) : impl_within.f a b c = some (decide (b ≤ a ∧ a ≤ c)) := by unfold impl_within.f; exact ge_le a b c
def conv (b : S35) : S38 := ⟨b.f0, b.f1, b.f2⟩
theorem rdL_get (l : List S35) (i : Nat) (h : i < l.length) : rd_T35 l (i : Int) = l[i] := by unfold rd_T35; simp [h]
theorem rdB_get (l : List S38) (i : Nat) (h : i < l.length) : rd_T38 l (i : Int) = l[i] := by unfold rd_T38; simp [h]
theorem toBlockS_ev (l : List S35) (hl : l.length ≤ 1048576) : Ev (fun k => laws_toBlockS.f k l) (l.map conv) := by
 unfold laws_toBlockS.f
 refine Ev.itet (by omega) (Ev.itet (by omega) ?_)
 have key : ∀ (d i : Nat), i + d = l.length → Ev (fun k => laws_toBlockS.l0 k l ((l.map conv).take i ++ List.replicate d z38) (i : Int)) (l.map conv) := by
  intro d
  induction d with
  | zero =>
   intro i hi
   refine Ev.stop fun k => ?_
   simp only [laws_toBlockS.l0]
   rw [if_neg (by omega), List.take_of_length_le (by simp; omega)]
   simp
  | succ d ih =>
   intro i hi
   have hlt : i < l.length := by omega
   have hlt2 : i < (l.map conv).length := by simp; omega
   refine Ev.to _ (fun k => ?_) (ih (i + 1) (by omega))
   simp only [laws_toBlockS.l0, laws_toBlock.f, Option.bind_some]
   rw [if_pos (by omega), if_pos (by omega), if_pos (by simp; omega), rdL_get l i hlt, w64 (by omega) (by omega)]
   have e : ((l.map conv).take i ++ List.replicate (d + 1) z38).set (i : Int).toNat (⟨l[i].f0, l[i].f1, l[i].f2⟩ : S38) = (l.map conv).take (i + 1) ++ List.replicate d z38 := by
    rw [List.take_succ_eq_append_getElem hlt2, Int.toNat_natCast, List.set_append_right _ _ (by simp; omega)]
    have h0 : i - ((l.map conv).take i).length = 0 := by simp; omega
    rw [h0, List.replicate_succ, List.set_cons_zero, List.append_assoc]
    simp [conv]
   rw [e]
   rfl
 have := key l.length 0 (by omega)
 simpa using this
theorem toCity_ev (a b : Int) (l : List S35) (hl : l.length ≤ 1048576) : Ev (fun k => laws_toCity.f k a b l) (a, b, l.map conv) := by
 unfold laws_toCity.f
 exact Ev.bind (toBlockS_ev l hl) (Ev.now _)
theorem eqBlockS_ev (l : List S38) (hl : l.length ≤ 1048576) : Ev (fun k => laws_eqBlockS.f k l l) true := by
 unfold laws_eqBlockS.f
 refine Ev.itet rfl ?_
 have key : ∀ (d i : Nat), i + d = l.length → Ev (fun k => laws_eqBlockS.l0 k l l (i : Int)) true := by
  intro d
  induction d with
  | zero => exact fun i hi => Ev.stop fun k => by simp only [laws_eqBlockS.l0]; rw [if_neg (by omega)]
  | succ d ih =>
   intro i hi
   refine Ev.to _ (fun k => ?_) (ih (i + 1) (by omega))
   have hw : wrap64 ((i : Int) + 1) = ((i + 1 : Nat) : Int) := by rw [w64 (by omega) (by omega)]; rfl
   simp only [laws_eqBlockS.l0, laws_eqBlock.f]
   rw [if_pos (by omega), if_pos (by omega), if_pos (by omega), hw]
   simp
 exact key l.length 0 (by omega)
theorem eqCity_ev (a b : Int) (l : List S38) (hl : l.length ≤ 1048576) : Ev (fun k => laws_eqCity.f k a b l a b l) true := by
 unfold laws_eqCity.f
 exact Ev.itet rfl (Ev.itet rfl (Ev.bind (eqBlockS_ev l hl) (Ev.itet rfl (Ev.now _))))
theorem szCity_f (a b : Int) (l : List S35) (hl : l.length ≤ maxLen) : laws_szCity.f a b l 1048576 = some (if l.length ≤ 1048576 then 1048576 - (l.length : Int) else -1) := by
 unfold laws_szCity.f laws_szBlockS.f
 unfold maxLen at hl
 rw [w64 (by omega) (by omega)]
 by_cases h : l.length ≤ 1048576
 ·rw [if_neg (by omega), Option.bind_some, if_neg (by omega), if_pos h]
 ·rw [if_pos (by omega), Option.bind_some, if_pos (by omega), if_neg h]
theorem toIntS_ev (l : List Int) (hl : l.length ≤ 1048576) : Ev (fun k => laws_toIntS.f k l) l := by
 unfold laws_toIntS.f
 refine Ev.itet (by omega) (Ev.itet (by omega) ?_)
 have key : ∀ (d i : Nat), i + d = l.length → Ev (fun k => laws_toIntS.l0 k l (l.take i ++ List.replicate d 0) (i : Int)) l := by
  intro d
  induction d with
  | zero =>
   intro i hi
   refine Ev.stop fun k => ?_
   simp only [laws_toIntS.l0]
   rw [if_neg (by omega), List.take_of_length_le (by omega)]
   simp
  | succ d ih =>
   intro i hi
   have hlt : i < l.length := by omega
   refine Ev.to _ (fun k => ?_) (ih (i + 1) (by omega))
   simp only [laws_toIntS.l0]
   rw [if_pos (by omega), if_pos (by omega), if_pos (by simp; omega), rd_get l i hlt, w64 (by omega) (by omega)]
   have e : (l.take i ++ List.replicate (d + 1) 0).set (i : Int).toNat l[i] = l.take (i + 1) ++ List.replicate d 0 := by
    rw [List.take_succ_eq_append_getElem hlt, Int.toNat_natCast, List.set_append_right _ _ (by simp; omega)]
    have : i - (l.take i).length = 0 := by simp; omega
    rw [this, List.replicate_succ, List.set_cons_zero, List.append_assoc]
    rfl
   rw [e]
   rfl
 have := key l.length 0 (by omega)
 simpa using this
theorem eqIntS_ev (l : List Int) (hl : l.length ≤ 1048576) : Ev (fun k => laws_eqIntS.f k l l) true := by
 unfold laws_eqIntS.f
 refine Ev.itet rfl ?_
 have := runL_all (fun _ => true) l 0
 rw [show (l.all fun _ => true) = true by simp] at this
 rw [← this]
 refine ev_loop0 l (fun k i (_ : Unit) => laws_eqIntS.l0 k l l i) _ _ (fun _ _ => True) () trivial (fun i s hi _ => ⟨fun s' e => ⟨trivial, fun r hr => Ev.to _ (fun k => ?_) hr⟩, fun r e => by simp at e⟩) (fun s _ => Ev.stop fun k => ?_)
 ·simp only [laws_eqIntS.l0]
  rw [if_pos (by omega), if_pos (by omega), if_pos (by omega), if_pos trivial, w64 (by omega) (by omega)]
 ·simp only [laws_eqIntS.l0]
  rw [if_neg (by omega)]
def isB (w h : Int) (b : S38) : Bool := if b.f2 = true then decide (0 ≤ b.f0 ∧ b.f0 ≤ w - 1) && decide (0 ≤ b.f1 ∧ b.f1 ≤ h - 2) else decide (0 ≤ b.f0 ∧ b.f0 ≤ w - 2) && decide (0 ≤ b.f1 ∧ b.f1 ≤ h - 1)
theorem isBlock_f (w h : Int) (l : List S38) (b : S38) (hw : 1 ≤ w ∧ w ≤ 8) (hh : 1 ≤ h ∧ h ≤ 8) : impl_isBlock.f w h l b.f0 b.f1 b.f2 = some (isB w h b) := by
 unfold impl_isBlock.f isB
 rw [w64 (x := w - 1) (by omega) (by omega), w64 (x := h - 2) (by omega) (by omega), w64 (x := w - 2) (by omega) (by omega), w64 (x := h - 1) (by omega) (by omega)]
 simp only [within_f, Option.bind_some]
 cases b.f2
 ·simp only [Bool.false_eq_true, if_false]
  cases decide (0 ≤ b.f0 ∧ b.f0 ≤ w - 2) <;> simp
 ·simp only [if_true]
  cases decide (0 ≤ b.f0 ∧ b.f0 ≤ w - 1) <;> simp
theorem avIs_ev (w h : Int) (b : S38) (hw : 1 ≤ w ∧ w ≤ 8) (hh : 1 ≤ h ∧ h ≤ 8) : Ev (fun k => spec_avIs.f k w h b.f0 b.f1 b.f2) (isB w h b) := by
 unfold spec_avIs.f isB
 rw [w64 (x := w - 1) (by omega) (by omega), w64 (x := h - 1) (by omega) (by omega)]
 simp only [l1In_f, Option.bind_some]
 have no : ∀ r, r = false → Ev (fun k => spec_avIs.j0 k w h true b.f0 b.f1 b.f2) r := by
  rintro r rfl
  refine Ev.succ ?_
  simp only [spec_avIs.j0]
  exact Ev.itet (by trivial) (Ev.now _)
 by_cases h0 : 0 ≤ b.f0 ∧ b.f0 ≤ w - 1
 ·rw [decide_eq_true h0]
  simp only [if_true]
  by_cases h1 : 0 ≤ b.f1 ∧ b.f1 ≤ h - 1
  ·rw [decide_eq_true h1]
   refine Ev.succ ?_
   simp only [spec_avIs.j0]
   refine Ev.itef (by simp) ?_
   rw [w64 (x := w - 1) (by omega) (by omega), w64 (x := h - 1) (by omega) (by omega)]
   cases b.f2
   ·simp only [Bool.false_eq_true, if_false]
    have e : (decide (0 ≤ b.f0 ∧ b.f0 ≤ w - 2) && true) = decide (b.f0 < w - 1) := by rw [Bool.and_true]; apply decide_eq_decide.mpr; omega
    rw [e]
    exact Ev.now _
   ·simp only [if_true]
    have e : (true && decide (0 ≤ b.f1 ∧ b.f1 ≤ h - 2)) = decide (b.f1 < h - 1) := by rw [Bool.true_and]; apply decide_eq_decide.mpr; omega
    rw [e]
    exact Ev.now _
  ·rw [decide_eq_false h1]
   refine no _ ?_
   have h2 : ¬ (0 ≤ b.f1 ∧ b.f1 ≤ h - 2) := by omega
   rw [decide_eq_false h2]
   split <;> simp
 ·rw [decide_eq_false h0]
  simp only [Bool.false_eq_true, if_false]
  refine no _ ?_
  have h2 : ¬ (0 ≤ b.f0 ∧ b.f0 ≤ w - 2) := by omega
  rw [decide_eq_false h2]
  split <;> simp
def less (b c : S38) : Bool := if b.f0 = c.f0 then (if b.f1 = c.f1 then (if b.f2 = true then false else c.f2) else decide (b.f1 < c.f1)) else decide (b.f0 < c.f0)
theorem avLess_f (b c : S38) : spec_avLess.f b.f0 b.f1 b.f2 c.f0 c.f1 c.f2 = some (less b c) := by
 unfold spec_avLess.f less
 repeat' split
 all_goals rfl
def cmpI (a b : Int) : Int := if a < b then -1 else if a > b then 1 else 0
theorem compare_f (a b : Int) : cmp_Compare_int.f a b = some (cmpI a b) := by
 unfold cmp_Compare_int.f cmp_isNaN_int.f cmpI
 simp only [Option.bind_some, bne_self_eq_false, Bool.false_eq_true, if_false]
 repeat' split
 all_goals rfl
def or3 (a b c : Int) : Int := if a = 0 then (if b = 0 then c else b) else a
theorem or_ev (a b c : Int) : Ev (fun k => cmp_Or_int.f k [a, b, c]) (or3 a b c) := by
 unfold cmp_Or_int.f or3
 refine Ev.succ ?_
 simp only [cmp_Or_int.l0]
 refine Ev.itet (by simp) (Ev.itet (by simp) (Ev.itet (by simp) ?_))
 rw [show rd [a, b, c] 0 = a from rfl, w64 (x := (0 : Int) + 1) (by omega) (by omega)]
 by_cases ha : a = 0
 ·rw [if_pos ha]
  refine Ev.itet ha (Ev.succ ?_)
  simp only [cmp_Or_int.l0]
  refine Ev.itet (by simp) (Ev.itet (by simp) (Ev.itet (by simp) ?_))
  rw [show rd [a, b, c] (0 + 1) = b from rfl, w64 (x := (0 : Int) + 1 + 1) (by omega) (by omega)]
  by_cases hb : b = 0
  ·rw [if_pos hb]
   refine Ev.itet hb (Ev.succ ?_)
   simp only [cmp_Or_int.l0]
   refine Ev.itet (by simp) (Ev.itet (by simp) (Ev.itet (by simp) ?_))
   rw [show rd [a, b, c] (0 + 1 + 1) = c from rfl, w64 (x := (0 : Int) + 1 + 1 + 1) (by omega) (by omega)]
   by_cases hc : c = 0
   ·refine Ev.itet hc (Ev.succ ?_)
    simp only [cmp_Or_int.l0]
    rw [hc]
    exact Ev.itef (by simp) (Ev.now _)
   ·exact Ev.itef hc (Ev.now _)
  ·rw [if_neg hb]
   exact Ev.itef hb (Ev.now _)
 ·rw [if_neg ha]
  exact Ev.itef ha (Ev.now _)
def cmpB (b c : S38) : Int := or3 (cmpI b.f0 c.f0) (cmpI b.f1 c.f1) (if (b.f2 != c.f2) = true then (if c.f2 = true then -1 else 1) else 0)
theorem compareBlocks_ev (b c : S38) : Ev (fun k => impl_compareBlocks.f k b.f0 b.f1 b.f2 c.f0 c.f1 c.f2) (cmpB b c) := by
 unfold impl_compareBlocks.f cmpB
 simp only [compare_f, Option.bind_some]
 by_cases h : (b.f2 != c.f2) = true
 ·rw [if_pos h]
  refine Ev.itet h ?_
  by_cases h2 : c.f2 = true
  ·rw [if_pos h2]
   exact Ev.itet h2 (Ev.bind (or_ev _ _ _) (Ev.now _))
  ·rw [if_neg h2]
   exact Ev.itef h2 (Ev.bind (or_ev _ _ _) (Ev.now _))
 ·rw [if_neg h]
  exact Ev.itef h (Ev.bind (or_ev _ _ _) (Ev.now _))
theorem cmpB_less (b c : S38) : (cmpB b c ≥ 0) ↔ less b c = false := by
 unfold cmpB less
 by_cases h0 : b.f0 = c.f0
 ·have e0 : cmpI b.f0 c.f0 = 0 := by unfold cmpI; rw [if_neg (by omega), if_neg (by omega)]
  rw [e0, if_pos h0]
  unfold or3
  rw [if_pos rfl]
  by_cases h1 : b.f1 = c.f1
  ·have e1 : cmpI b.f1 c.f1 = 0 := by unfold cmpI; rw [if_neg (by omega), if_neg (by omega)]
   rw [e1, if_pos rfl, if_pos h1]
   cases b.f2 <;> cases c.f2 <;> simp
  ·rw [if_neg h1]
   by_cases h2 : b.f1 < c.f1
   ·have e1 : cmpI b.f1 c.f1 = -1 := by unfold cmpI; rw [if_pos h2]
    rw [e1, if_neg (by decide), decide_eq_true h2]
    simp
   ·have e1 : cmpI b.f1 c.f1 = 1 := by unfold cmpI; rw [if_neg h2, if_pos (by omega)]
    rw [e1, if_neg (by decide), decide_eq_false h2]
    simp
 ·rw [if_neg h0]
  unfold or3
  by_cases h2 : b.f0 < c.f0
  ·have e1 : cmpI b.f0 c.f0 = -1 := by unfold cmpI; rw [if_pos h2]
   rw [e1, if_neg (by decide), decide_eq_true h2]
   simp
  ·have e1 : cmpI b.f0 c.f0 = 1 := by unfold cmpI; rw [if_neg h2, if_pos (by omega)]
   rw [e1, if_neg (by decide), decide_eq_false h2]
   simp
def okAt (w h : Int) (l : List S38) (i : Nat) : Bool := match l[i]? with
 | none => true
 | some c => isB w h c && (match i with
  | 0 => true
  | p + 1 => match l[p]? with
   | none => true
   | some b => less b c)
def chk (w h : Int) (l : List S38) : Nat → Nat → Bool
 | 0, _ => true
 | d + 1, i => okAt w h l i && chk w h l d (i + 1)
theorem avGood_l0 (w h : Int) (l : List S38) (hl : l.length ≤ 1048576) (hw : 1 ≤ w ∧ w ≤ 8) (hh : 1 ≤ h ∧ h ≤ 8) : ∀ d i : Nat, i + d = l.length → Ev (fun k => spec_avGood.l0 k l (l.length : Int) (i : Int) w h l) (chk w h l d i)
 | 0, i, hi => Ev.stop fun k => by simp only [spec_avGood.l0]; rw [if_neg (by omega)]; rfl
 | d + 1, i, hi => by
  have ih := avGood_l0 w h l hl hw hh d (i + 1) (by omega)
  have hlt : i < l.length := by omega
  have hwr : wrap64 ((i : Int) + 1) = ((i + 1 : Nat) : Int) := by rw [w64 (by omega) (by omega)]; rfl
  refine Ev.succ ?_
  simp only [spec_avGood.l0, chk, okAt, List.getElem?_eq_getElem hlt]
  rw [rdB_get l i hlt, hwr]
  refine Ev.itet (by omega) (Ev.itet (by omega) (Ev.itet (by omega) (Ev.bind (avIs_ev w h l[i] hw hh) ?_)))
  cases isB w h l[i]
  ·exact Ev.itef (by simp) (Ev.now _)
  ·refine Ev.itet rfl ?_
   match i, hlt, ih with
   | 0, _, ih => exact Ev.itef (by simp) (by simpa using ih)
   | p + 1, hlt, ih =>
    have hlp : p < l.length := by omega
    have hwp : wrap64 (((p + 1 : Nat) : Int) - 1) = (p : Int) := by rw [w64 (by omega) (by omega)]; omega
    rw [hwp, rdB_get l p hlp]
    simp only [List.getElem?_eq_getElem hlp, avLess_f, Option.bind_some]
    refine Ev.itet (by omega) (Ev.itet (by omega) (Ev.itet (by omega) ?_))
    cases less l[p] l[p + 1]
    ·exact Ev.itef (by simp) (Ev.now _)
    ·exact Ev.itet rfl (by simpa using ih)
theorem IsCity_l0 (w h : Int) (l : List S38) (hl : l.length ≤ 1048576) (hw : 1 ≤ w ∧ w ≤ 8) (hh : 1 ≤ h ∧ h ≤ 8) : ∀ d i : Nat, i + d = l.length → Ev (fun k => impl_IsCity.l0 k l (l.length : Int) (i : Int) w h l) (chk w h l d i)
 | 0, i, hi => Ev.stop fun k => by simp only [impl_IsCity.l0]; rw [if_neg (by omega)]; rfl
 | d + 1, i, hi => by
  have ih := IsCity_l0 w h l hl hw hh d (i + 1) (by omega)
  have hlt : i < l.length := by omega
  have hwr : wrap64 ((i : Int) + 1) = ((i + 1 : Nat) : Int) := by rw [w64 (by omega) (by omega)]; rfl
  refine Ev.succ ?_
  simp only [impl_IsCity.l0, chk, okAt, List.getElem?_eq_getElem hlt]
  rw [rdB_get l i hlt, hwr, isBlock_f w h l l[i] hw hh]
  simp only [Option.bind_some]
  refine Ev.itet (by omega) (Ev.itet (by omega) (Ev.itet (by omega) ?_))
  cases isB w h l[i]
  ·exact Ev.itef (by simp) (Ev.now _)
  ·refine Ev.itet rfl ?_
   match i, hlt, ih with
   | 0, _, ih => exact Ev.itef (by simp) (by simpa using ih)
   | p + 1, hlt, ih =>
    have hlp : p < l.length := by omega
    have hwp : wrap64 (((p + 1 : Nat) : Int) - 1) = (p : Int) := by rw [w64 (by omega) (by omega)]; omega
    rw [hwp, rdB_get l p hlp]
    simp only [List.getElem?_eq_getElem hlp]
    refine Ev.itet (by omega) (Ev.itet (by omega) (Ev.itet (by omega) (Ev.bind (compareBlocks_ev l[p] l[p + 1]) ?_)))
    cases hls : less l[p] l[p + 1]
    ·exact Ev.itet ((cmpB_less _ _).2 hls) (Ev.now _)
    ·exact Ev.itef (fun e => by rw [(cmpB_less _ _).1 e] at hls; cases hls) (by simpa using ih)
def good (w h : Int) (l : List S38) : Bool := decide (1 ≤ w ∧ w ≤ 8) && (decide (1 ≤ h ∧ h ≤ 8) && (decide (l.length ≤ 30) && chk w h l l.length 0))
theorem avGood_ev (w h : Int) (l : List S38) (hl : l.length ≤ 1048576) : Ev (fun k => spec_avGood.f k w h l) (good w h l) := by
 unfold spec_avGood.f good
 simp only [l1In_f, Option.bind_some]
 have no : ∀ r, r = false → Ev (fun k => spec_avGood.j0 k true w h l) r := by
  rintro r rfl
  refine Ev.succ ?_
  simp only [spec_avGood.j0]
  exact Ev.itet (by trivial) (Ev.now _)
 by_cases h0 : 1 ≤ w ∧ w ≤ 8
 ·rw [decide_eq_true h0]
  simp only [if_true, Bool.true_and]
  by_cases h1 : 1 ≤ h ∧ h ≤ 8
  ·rw [decide_eq_true h1]
   simp only [if_true, Bool.true_and]
   by_cases h2 : l.length ≤ 30
   ·rw [decide_eq_true h2, Bool.true_and, decide_eq_false (by omega)]
    refine Ev.succ ?_
    simp only [spec_avGood.j0]
    exact Ev.itef (by simp) (avGood_l0 w h l hl h0 h1 l.length 0 (by omega))
   ·rw [decide_eq_false h2, Bool.false_and, decide_eq_true (by omega)]
    exact no _ rfl
  ·rw [decide_eq_false h1]
   simp only [Bool.false_eq_true, if_false, Bool.false_and]
   exact no _ rfl
 ·rw [decide_eq_false h0]
  simp only [Bool.false_eq_true, if_false, Bool.false_and]
  exact no _ rfl
theorem IsCity_ev (w h : Int) (l : List S38) (hl : l.length ≤ 1048576) : Ev (fun k => impl_IsCity.f k w h l) (good w h l) := by
 unfold impl_IsCity.f good
 simp only [within_f, Option.bind_some]
 have no : ∀ r, r = false → Ev (fun k => impl_IsCity.j0 k true w h l) r := by
  rintro r rfl
  refine Ev.succ ?_
  simp only [impl_IsCity.j0]
  exact Ev.itet (by trivial) (Ev.now _)
 by_cases h0 : 1 ≤ w ∧ w ≤ 8
 ·rw [decide_eq_true h0]
  simp only [if_true, Bool.true_and]
  by_cases h1 : 1 ≤ h ∧ h ≤ 8
  ·rw [decide_eq_true h1]
   simp only [if_true, Bool.true_and]
   by_cases h2 : l.length ≤ 30
   ·rw [decide_eq_true h2, Bool.true_and, decide_eq_false (by omega)]
    refine Ev.succ ?_
    simp only [impl_IsCity.j0]
    exact Ev.itef (by simp) (IsCity_l0 w h l hl h0 h1 l.length 0 (by omega))
   ·rw [decide_eq_false h2, Bool.false_and, decide_eq_true (by omega)]
    exact no _ rfl
  ·rw [decide_eq_false h1]
   simp only [Bool.false_eq_true, if_false, Bool.false_and]
   exact no _ rfl
 ·rw [decide_eq_false h0]
  simp only [Bool.false_eq_true, if_false, Bool.false_and]
  exact no _ rfl
set_option linter.unusedVariables false
def eqB (b c : S38) : Bool := b.f0 == c.f0 && (b.f1 == c.f1 && (b.f2 == c.f2))
def shut (l : List S38) (b : S38) : Bool := l.any (eqB b)
theorem avShut_ev (w h : Int) (l : List S38) (hl : l.length ≤ 1048576) (b : S38) : Ev (fun k => spec_avShut.f k w h l b.f0 b.f1 b.f2) (shut l b) := by
 unfold spec_avShut.f
 have key : ∀ (d i : Nat), i + d = l.length → Ev (fun k => spec_avShut.l0 k l (l.length : Int) (i : Int) b.f0 b.f1 b.f2) ((l.drop i).any (eqB b)) := by
  intro d
  induction d with
  | zero => exact fun i hi => Ev.stop fun k => by simp only [spec_avShut.l0]; rw [if_neg (by omega), List.drop_eq_nil_of_le (by omega)]; rfl
  | succ d ih =>
   intro i hi
   have hlt : i < l.length := by omega
   have ih := ih (i + 1) (by omega)
   have hw : wrap64 ((i : Int) + 1) = ((i + 1 : Nat) : Int) := by rw [w64 (by omega) (by omega)]; rfl
   refine Ev.succ ?_
   simp only [spec_avShut.l0]
   rw [rdB_get l i hlt, hw, List.drop_eq_getElem_cons hlt, List.any_cons]
   refine Ev.itet (by omega) (Ev.itet (by omega) (Ev.itet (by omega) ?_))
   change Ev (fun k => if eqB b l[i] = true then _ else _) _
   cases eqB b l[i]
   ·exact Ev.itef (by simp) (by simpa using ih)
   ·exact Ev.itet rfl (Ev.now _)
 have := key l.length 0 (by omega)
 simpa [shut] using this
theorem isClosed_ev (w h : Int) (l : List S38) (hl : l.length ≤ 1048576) (b : S38) : Ev (fun k => impl_isClosed.f k w h l b.f0 b.f1 b.f2) (shut l b) := by
 unfold impl_isClosed.f impl_Block_108.f
 have key : ∀ (d i : Nat), i + d = l.length → ∃ r : Int, decide (r ≥ 0) = (l.drop i).any (eqB b) ∧ Ev (fun k => impl_Block_125.l0 k l (l.length : Int) (i : Int) b.f0 b.f1 b.f2) r := by
  intro d
  induction d with
  | zero => exact fun i hi => ⟨-1, by rw [List.drop_eq_nil_of_le (by omega)]; rfl, Ev.stop fun k => by simp only [impl_Block_125.l0]; rw [if_neg (by omega)]⟩
  | succ d ih =>
   intro i hi
   have hlt : i < l.length := by omega
   obtain ⟨r, h1, h2⟩ := ih (i + 1) (by omega)
   have hw : wrap64 ((i : Int) + 1) = ((i + 1 : Nat) : Int) := by rw [w64 (by omega) (by omega)]; rfl
   rw [List.drop_eq_getElem_cons hlt, List.any_cons]
   cases he : eqB b l[i]
   ·refine ⟨r, by simpa using h1, Ev.succ ?_⟩
    simp only [impl_Block_125.l0]
    rw [rdB_get l i hlt, hw]
    refine Ev.itet (by omega) (Ev.itet (by omega) (Ev.itet (by omega) ?_))
    change Ev (fun k => if eqB b l[i] = true then _ else _) _
    exact Ev.itef (by rw [he]; simp) h2
   ·refine ⟨(i : Int), by simp, Ev.succ ?_⟩
    simp only [impl_Block_125.l0]
    rw [rdB_get l i hlt, hw]
    refine Ev.itet (by omega) (Ev.itet (by omega) (Ev.itet (by omega) ?_))
    change Ev (fun k => if eqB b l[i] = true then _ else _) _
    exact Ev.itet he (Ev.now _)
 obtain ⟨r, h1, h2⟩ := key l.length 0 (by omega)
 refine Ev.bind (Ev.bind h2 (Ev.now (decide (r ≥ 0)))) ?_
 rw [h1]
 simpa [shut] using Ev.now _
def tgt (s : Nat) (x y : Int) : Int × Int := match s with
 | 0 => (x + 1, y)
 | 1 => (x, y + 1)
 | 2 => (x, y - 1)
 | _ => (x - 1, y)
def bk (s : Nat) (x y : Int) : S38 := match s with
 | 0 => ⟨x, y, false⟩
 | 1 => ⟨x, y, true⟩
 | 2 => ⟨x, y - 1, true⟩
 | _ => ⟨x - 1, y, false⟩
def inC (w h : Int) (p : Int × Int) : Bool := decide (0 ≤ p.1 ∧ p.1 ≤ w - 1) && decide (0 ≤ p.2 ∧ p.2 ≤ h - 1)
theorem inC_iff {w h : Int} {p : Int × Int} : inC w h p = true ↔ (0 ≤ p.1 ∧ p.1 ≤ w - 1) ∧ (0 ≤ p.2 ∧ p.2 ≤ h - 1) := by simp [inC]
theorem isB_in (w h : Int) (s : Nat) (x y : Int) (hx : 0 ≤ x ∧ x ≤ w - 1) (hy : 0 ≤ y ∧ y ≤ h - 1) : isB w h (bk s x y) = inC w h (tgt s x y) := by
 rw [Bool.eq_iff_iff, inC_iff]
 match s with
 | 0 => simp [isB, bk, tgt]; omega
 | 1 => simp [isB, bk, tgt]; omega
 | 2 => simp [isB, bk, tgt]; omega
 | _ + 3 => simp [isB, bk, tgt]; omega
def okS (w h : Int) (l : List S38) (s : Nat) (x y : Int) : Bool := inC w h (tgt s x y) && !shut l (bk s x y)
def sg : Nat → Int
 | 0 => 101
 | 1 => 110
 | 2 => 115
 | _ => 119
theorem avStep_ev (w h : Int) (l : List S38) (hl : l.length ≤ 1048576) (hw : 1 ≤ w ∧ w ≤ 8) (hh : 1 ≤ h ∧ h ≤ 8) (s : Nat) (x y : Int) (hx : 0 ≤ x ∧ x ≤ w - 1) (hy : 0 ≤ y ∧ y ≤ h - 1) : Ev (fun k => spec_avStep.f k w h l x y (sg s)) (if okS w h l s x y = true then ((tgt s x y).1, (tgt s x y).2, true) else (0, 0, false)) := by
 have hj : Ev (fun k => spec_avStep.j0 k (tgt s x y).1 (tgt s x y).2 w h l (bk s x y).f0 (bk s x y).f1 (bk s x y).f2) (if okS w h l s x y = true then ((tgt s x y).1, (tgt s x y).2, true) else (0, 0, false)) := by
  refine Ev.succ ?_
  simp only [spec_avStep.j0]
  refine Ev.bind (avIs_ev w h (bk s x y) hw hh) ?_
  rw [isB_in w h s x y hx hy]
  unfold okS
  cases inC w h (tgt s x y)
  ·exact Ev.itef (by simp) (Ev.now _)
  ·refine Ev.itet rfl (Ev.bind (avShut_ev w h l hl (bk s x y)) ?_)
   cases shut l (bk s x y)
   ·exact Ev.itef (by simp) (Ev.now _)
   ·exact Ev.itet rfl (Ev.now _)
 unfold spec_avStep.f
 have e1 : wrap64 (x + 1) = x + 1 := w64 (by omega) (by omega)
 have e2 : wrap64 (x - 1) = x - 1 := w64 (by omega) (by omega)
 have e3 : wrap64 (y + 1) = y + 1 := w64 (by omega) (by omega)
 have e4 : wrap64 (y - 1) = y - 1 := w64 (by omega) (by omega)
 rw [e1, e2, e3, e4]
 match s, hj with
 | 0, hj => exact Ev.itet rfl hj
 | 1, hj => exact Ev.itef (by simp [sg]) (Ev.itef (by simp [sg]) (Ev.itet rfl hj))
 | 2, hj => exact Ev.itef (by simp [sg]) (Ev.itef (by simp [sg]) (Ev.itef (by simp [sg]) (Ev.itet rfl hj)))
 | _ + 3, hj => exact Ev.itef (by simp [sg]) (Ev.itet rfl hj)
theorem moved_f (s : Nat) (hs : s < 4) (x y : Int) (hx : 0 ≤ x ∧ x ≤ 100) (hy : 0 ≤ y ∧ y ≤ 100) : impl_moved.f [x, y] (s : Int) = some [(tgt s x y).1, (tgt s x y).2] := by
 have e1 : wrap64 (x + 1) = x + 1 := w64 (by omega) (by omega)
 have e2 : wrap64 (x - 1) = x - 1 := w64 (by omega) (by omega)
 have e3 : wrap64 (y + 1) = y + 1 := w64 (by omega) (by omega)
 have e4 : wrap64 (y - 1) = y - 1 := w64 (by omega) (by omega)
 have r0 : rd [x, y] 0 = x := rfl
 have r1 : rd [x, y] 1 = y := rfl
 have b0 : bt (⟨#[101, 110, 115, 119]⟩ : ByteArray) ((0 : Nat) : Int) = 101 := rfl
 have b1 : bt (⟨#[101, 110, 115, 119]⟩ : ByteArray) ((1 : Nat) : Int) = 110 := rfl
 have b2 : bt (⟨#[101, 110, 115, 119]⟩ : ByteArray) ((2 : Nat) : Int) = 115 := rfl
 have b3 : bt (⟨#[101, 110, 115, 119]⟩ : ByteArray) ((3 : Nat) : Int) = 119 := rfl
 unfold impl_moved.f
 rw [r0, r1, e1, e2, e3, e4]
 match s, hs with
 | 0, _ => rw [b0]; simp [tgt]
 | 1, _ => rw [b1]; simp [tgt]
 | 2, _ => rw [b2]; simp [tgt]
 | 3, _ => rw [b3]; simp [tgt]
theorem can_ev (w h : Int) (l : List S38) (hl : l.length ≤ 1048576) (hw : 1 ≤ w ∧ w ≤ 8) (hh : 1 ≤ h ∧ h ≤ 8) (s : Nat) (hs : s < 4) (x y : Int) (hx : 0 ≤ x ∧ x ≤ w - 1) (hy : 0 ≤ y ∧ y ≤ h - 1) : Ev (fun k => impl_stepIn.can k w h l [x, y] (s : Int)) (okS w h l s x y) := by
 unfold impl_stepIn.can okS
 simp only [moved_f s hs x y (by omega) (by omega), Option.bind_some]
 have ei : impl_stepIn.in_ w h (rd [(tgt s x y).1, (tgt s x y).2] 0) (rd [(tgt s x y).1, (tgt s x y).2] 1) = inC w h (tgt s x y) := by
  unfold impl_stepIn.in_ inC
  rw [w64 (x := w - 1) (by omega) (by omega), w64 (x := h - 1) (by omega) (by omega)]
  rfl
 rw [ei]
 cases inC w h (tgt s x y)
 ·exact Ev.itef (by simp) (Ev.now _)
 ·refine Ev.itet rfl ?_
  have e0 : mn (rd [x, y] 0) (rd [(tgt s x y).1, (tgt s x y).2] 0) = (bk s x y).f0 := by
   show mn x (tgt s x y).1 = _
   unfold mn
   match s with
   | 0 => simp [tgt, bk]; omega
   | 1 => simp [tgt, bk]
   | 2 => simp [tgt, bk]
   | _ + 3 => simp [tgt, bk]; omega
  have e1 : mn (rd [x, y] 1) (rd [(tgt s x y).1, (tgt s x y).2] 1) = (bk s x y).f1 := by
   show mn y (tgt s x y).2 = _
   unfold mn
   match s with
   | 0 => simp [tgt, bk]
   | 1 => simp [tgt, bk]; omega
   | 2 => simp [tgt, bk]; omega
   | _ + 3 => simp [tgt, bk]
  have e2 : (rd [x, y] 0 == rd [(tgt s x y).1, (tgt s x y).2] 0) = (bk s x y).f2 := by
   show (x == (tgt s x y).1) = _
   match s with
   | 0 => simp [tgt, bk]; omega
   | 1 => simp [tgt, bk]
   | 2 => simp [tgt, bk]
   | _ + 3 => simp [tgt, bk]; omega
  rw [e0, e1, e2]
  exact Ev.bind (isClosed_ev w h l hl (bk s x y)) (Ev.now _)
theorem good_wh {w h : Int} {l : List S38} (hg : good w h l = true) : (1 ≤ w ∧ w ≤ 8) ∧ (1 ≤ h ∧ h ≤ 8) ∧ l.length ≤ 30 := by
 unfold good at hg
 simp only [Bool.and_eq_true, decide_eq_true_eq] at hg
 exact ⟨hg.1, hg.2.1, hg.2.2.1⟩
theorem corner_pair {w h : Int} (hw : 1 ≤ w ∧ w ≤ 8) (hh : 1 ≤ h ∧ h ≤ 8) {l : List Int} (hc : spec_avCorner.good w h l = true) : ∃ x y, l = [x, y] ∧ (0 ≤ x ∧ x ≤ w - 1) ∧ (0 ≤ y ∧ y ≤ h - 1) := by
 unfold spec_avCorner.good at hc
 rw [w64 (x := w - 1) (by omega) (by omega), w64 (x := h - 1) (by omega) (by omega)] at hc
 simp only [Bool.and_eq_true, decide_eq_true_eq] at hc
 match l, hc with
 | [x, y], hc => exact ⟨x, y, rfl, hc.2.1, hc.2.2⟩
theorem areCorners_ev (w h : Int) (l : List S38) (hl : l.length ≤ 1048576) (ls : List (List Int)) : Ev (fun k => impl_areCorners.f k w h l ls) (good w h l && ls.all (spec_avCorner.good w h)) := by
 have e : (!ls.any (impl_areCorners.bad w h)) = ls.all (spec_avCorner.good w h) := by
  rw [List.not_any_eq_all_not]
  congr 1
  funext z
  unfold impl_areCorners.bad spec_avCorner.good
  rw [Bool.not_not]
 unfold impl_areCorners.f
 refine Ev.bind (IsCity_ev w h l hl) ?_
 cases good w h l
 ·exact Ev.itef (by simp) (Ev.now _)
 ·refine Ev.itet rfl ?_
  rw [e, Bool.true_and]
  exact Ev.now _
def upto (k : Int) : Nat → List Int
 | 0 => []
 | n + 1 => k :: upto (k + 1) n
theorem upto_length (k : Int) (n : Nat) : (upto k n).length = n := by
 induction n generalizing k with
 | zero => rfl
 | succ n ih => simp [upto, ih]
theorem upto_get (k : Int) (n i : Nat) (h : i < (upto k n).length) : (upto k n)[i] = k + i := by
 induction n generalizing k i with
 | zero => simp [upto] at h
 | succ n ih =>
  cases i with
  | zero => simp [upto]
  | succ i =>
   simp only [upto, List.getElem_cons_succ]
   rw [ih (k + 1) i (by simpa [upto] using h)]
   omega
theorem upto_snoc (k : Int) (n : Nat) : upto k (n + 1) = upto k n ++ [k + n] := by
 induction n generalizing k with
 | zero => simp [upto]
 | succ n ih =>
  rw [upto, ih (k + 1)]
  simp only [upto, List.cons_append, List.cons.injEq, true_and]
  congr 2
  omega
theorem markIntS_ev (l : List Int) (hl : l.length ≤ 1048576) (k0 : Int) (h0 : 0 ≤ k0) (h1 : k0 ≤ 8388608) : Ev (fun k => laws_markIntS.f k l k0) (k0 + l.length, upto k0 l.length) := by
 unfold laws_markIntS.f
 have key : ∀ (d i : Nat), i + d = l.length → Ev (fun k => laws_markIntS.l0 k (upto k0 i ++ l.drop i) (k0 + i) (i : Int)) (k0 + l.length, upto k0 l.length) := by
  intro d
  induction d with
  | zero =>
   intro i hi
   obtain rfl : i = l.length := by omega
   refine Ev.stop fun k => ?_
   simp only [laws_markIntS.l0]
   rw [if_neg (by simp [upto_length])]
   simp
  | succ d ih =>
   intro i hi
   have hlt : i < l.length := by omega
   refine Ev.to _ (fun k => ?_) (ih (i + 1) (by omega))
   simp only [laws_markIntS.l0]
   have hlen : ((upto k0 i ++ l.drop i).length : Int) = l.length := by simp [upto_length]; omega
   rw [hlen, if_pos (by omega), if_pos (by omega), w64 (x := k0 + i + 1) (by omega) (by omega), w64 (x := (i : Int) + 1) (by omega) (by omega)]
   have e : (upto k0 i ++ l.drop i).set (i : Int).toNat (k0 + i) = upto k0 (i + 1) ++ l.drop (i + 1) := by
    rw [Int.toNat_natCast, List.set_append_right _ _ (by simp [upto_length]), upto_length, Nat.sub_self, List.drop_eq_getElem_cons hlt, List.set_cons_zero, upto_snoc, List.append_assoc]
    rfl
   rw [e, show k0 + (i : Int) + 1 = k0 + ((i + 1 : Nat) : Int) by omega, show (i : Int) + 1 = ((i + 1 : Nat) : Int) by omega]
 have := key l.length 0 (by omega)
 simpa [upto] using this
theorem heldIntS_ev (n : Nat) (hn : n ≤ 1048576) (k0 : Int) (h0 : 0 ≤ k0) (h1 : k0 ≤ 1048577) : Ev (fun k => laws_heldIntS.f k (upto k0 n) k0) (k0 + n) := by
 unfold laws_heldIntS.f
 have key : ∀ (d i : Nat), i + d = n → Ev (fun k => laws_heldIntS.l0 k (upto k0 n) (k0 + i) (i : Int)) (k0 + n) := by
  intro d
  induction d with
  | zero =>
   intro i hi
   obtain rfl : i = n := by omega
   refine Ev.stop fun k => ?_
   simp only [laws_heldIntS.l0]
   rw [if_neg (by simp [upto_length])]
  | succ d ih =>
   intro i hi
   refine Ev.to _ (fun k => ?_) (ih (i + 1) (by omega))
   simp only [laws_heldIntS.l0]
   have hlen : ((upto k0 n).length : Int) = n := by simp [upto_length]
   have hi' : i < (upto k0 n).length := by rw [upto_length]; omega
   rw [hlen, if_pos (by omega), if_pos (by omega), rd_get _ i hi', upto_get k0 n i hi', if_pos rfl, w64 (x := k0 + i + 1) (by omega) (by omega), w64 (x := (i : Int) + 1) (by omega) (by omega)]
   rw [show k0 + (i : Int) + 1 = k0 + ((i + 1 : Nat) : Int) by omega, show (i : Int) + 1 = ((i + 1 : Nat) : Int) by omega]
 have := key n 0 (by omega)
 simpa using this
theorem markCity_ev (w h : Int) (l : List S38) (hl : l.length ≤ 1048576) : ∃ l', Ev (fun k => laws_markCity.f k w h l 1) (1 + 3 * (l.length : Int), l') := by
 have key : ∀ (d i : Nat) (l : List S38) (k0 : Int), i + d = l.length → l.length ≤ 1048576 → 0 ≤ k0 → k0 ≤ 1 + 3 * (i : Int) → ∃ l', Ev (fun k => laws_markBlockS.l0 k l k0 (i : Int)) (k0 + 3 * (d : Int), l') := by
  intro d
  induction d with
  | zero =>
   intro i l k0 hi hl h0 h1
   refine ⟨l, Ev.stop fun k => ?_⟩
   simp only [laws_markBlockS.l0]
   rw [if_neg (by omega)]
   simp
  | succ d ih =>
   intro i l k0 hi hl h0 h1
   obtain ⟨l', h'⟩ := ih (i + 1) _ (k0 + 3) (by
    show i + 1 + d = (((l.set (i : Int).toNat (⟨k0, (rd_T38 l i).f1, (rd_T38 l i).f2⟩ : S38)).set (i : Int).toNat (⟨(rd_T38 (l.set (i : Int).toNat (⟨k0, (rd_T38 l i).f1, (rd_T38 l i).f2⟩ : S38)) i).f0, k0 + 1, (rd_T38 (l.set (i : Int).toNat (⟨k0, (rd_T38 l i).f1, (rd_T38 l i).f2⟩ : S38)) i).f2⟩ : S38)).set (i : Int).toNat (⟨(rd_T38 ((l.set (i : Int).toNat (⟨k0, (rd_T38 l i).f1, (rd_T38 l i).f2⟩ : S38)).set (i : Int).toNat (⟨(rd_T38 (l.set (i : Int).toNat (⟨k0, (rd_T38 l i).f1, (rd_T38 l i).f2⟩ : S38)) i).f0, k0 + 1, (rd_T38 (l.set (i : Int).toNat (⟨k0, (rd_T38 l i).f1, (rd_T38 l i).f2⟩ : S38)) i).f2⟩ : S38)) i).f0, (rd_T38 ((l.set (i : Int).toNat (⟨k0, (rd_T38 l i).f1, (rd_T38 l i).f2⟩ : S38)).set (i : Int).toNat (⟨(rd_T38 (l.set (i : Int).toNat (⟨k0, (rd_T38 l i).f1, (rd_T38 l i).f2⟩ : S38)) i).f0, k0 + 1, (rd_T38 (l.set (i : Int).toNat (⟨k0, (rd_T38 l i).f1, (rd_T38 l i).f2⟩ : S38)) i).f2⟩ : S38)) i).f1, ((Int.tmod (k0 + 1 + 1) 3) == 0)⟩ : S38)).length
    simp; omega) (by simp; omega) (by omega) (by omega)
   refine ⟨l', ?_⟩
   have e9 : k0 + 3 * ((d + 1 : Nat) : Int) = k0 + 3 + 3 * (d : Int) := by omega
   rw [e9]
   refine Ev.succ ?_
   simp only [laws_markBlockS.l0, Option.bind_some]
   rw [w64 (x := k0 + 1) (by omega) (by omega), w64 (x := k0 + 1 + 1) (by omega) (by omega), w64 (x := k0 + 1 + 1 + 1) (by omega) (by omega), w64 (x := (i : Int) + 1) (by omega) (by omega)]
   refine Ev.itet (by omega) (Ev.itet (by omega) ?_)
   have e3 : k0 + 1 + 1 + 1 = k0 + 3 := by omega
   rw [e3]
   simpa using h'
 unfold laws_markCity.f laws_markBlockS.f
 obtain ⟨l', h'⟩ := key l.length 0 l 1 (by omega) hl (by omega) (by omega)
 exact ⟨l', Ev.bind h' (Ev.now _)⟩
theorem eq101 (b : UInt8) : ((b.toNat : Int) = 101) ↔ b = 101 := byte_eq b 101 (by decide)
theorem eq119 (b : UInt8) : ((b.toNat : Int) = 119) ↔ b = 119 := byte_eq b 119 (by decide)
theorem eq110 (b : UInt8) : ((b.toNat : Int) = 110) ↔ b = 110 := byte_eq b 110 (by decide)
theorem eq115 (b : UInt8) : ((b.toNat : Int) = 115) ↔ b = 115 := byte_eq b 115 (by decide)
theorem idx_f (b : UInt8) : strings_IndexByte.f ⟨#[101, 110, 115, 119]⟩ (b.toNat : Int) = some (Lib.indexByte [101, 110, 115, 119] b) := by
 unfold strings_IndexByte.f
 rw [byte_back]
theorem sign_cases (b : UInt8) : (∃ n : Nat, n < 4 ∧ ((b.toNat : Int)) = sg n ∧ Lib.indexByte [101, 110, 115, 119] b = (n : Int)) ∨ (Lib.indexByte [101, 110, 115, 119] b < 0 ∧ ¬ ((b.toNat : Int)) = 101 ∧ ¬ ((b.toNat : Int)) = 119 ∧ ¬ ((b.toNat : Int)) = 110 ∧ ¬ ((b.toNat : Int)) = 115) := by
 by_cases e1 : b = 101
 ·subst e1; exact .inl ⟨0, by omega, by decide, by decide⟩
 by_cases e2 : b = 110
 ·subst e2; exact .inl ⟨1, by omega, by decide, by decide⟩
 by_cases e3 : b = 115
 ·subst e3; exact .inl ⟨2, by omega, by decide, by decide⟩
 by_cases e4 : b = 119
 ·subst e4; exact .inl ⟨3, by omega, by decide, by decide⟩
 ·refine .inr ⟨?_, by rw [eq101]; exact e1, by rw [eq119]; exact e4, by rw [eq110]; exact e2, by rw [eq115]; exact e3⟩
  simp [Lib.indexByte, Ne.symm e1, Ne.symm e2, Ne.symm e3, Ne.symm e4]
theorem sign_of (b : UInt8) : ∃ c t : Int, (b.toNat : Int) = c ∧ strings_IndexByte.f ⟨#[101, 110, 115, 119]⟩ c = some t ∧ ((∃ n : Nat, n < 4 ∧ c = sg n ∧ t = (n : Int)) ∨ (t < 0 ∧ ¬ c = 101 ∧ ¬ c = 119 ∧ ¬ c = 110 ∧ ¬ c = 115)) := ⟨_, _, rfl, idx_f b, sign_cases b⟩
theorem avStep_none (w h : Int) (l : List S38) (x y c : Int) (h1 : ¬ c = 101) (h2 : ¬ c = 119) (h3 : ¬ c = 110) (h4 : ¬ c = 115) : Ev (fun k => spec_avStep.f k w h l x y c) (0, 0, false) := by
 unfold spec_avStep.f
 exact Ev.itef h1 (Ev.itef h2 (Ev.itef h3 (Ev.itef h4 (Ev.now _))))
theorem walk_ev (w h : Int) (l : List S38) (hl : l.length ≤ 1048576) (hw : 1 ≤ w ∧ w ≤ 8) (hh : 1 ≤ h ∧ h ≤ 8) (s : ByteArray) (hs : s.size ≤ 200) : ∀ (d i : Nat) (x y : Int), i + d = s.size → (0 ≤ x ∧ x ≤ w - 1) → (0 ≤ y ∧ y ≤ h - 1) →
  ∃ r : List Int × Bool, r.1.length ≤ 2 ∧ Ev (fun k => spec_WalkWord.l0 k s x y (i : Int) w h l) r ∧ ∃ K, ∀ p k, K ≤ p → K ≤ k → impl_WalkWord.l0 p w h l s k (i : Int) [x, y] = some r
 | 0, i, x, y, hi, hx, hy => by
  refine ⟨([x, y], true), by simp, Ev.stop fun k => ?_, 1, fun p k _ hk => ?_⟩
  ·simp only [spec_WalkWord.l0]
   rw [if_neg (by omega)]
  ·obtain ⟨k, rfl⟩ : ∃ j, k = j + 1 := ⟨k - 1, by omega⟩
   simp only [impl_WalkWord.l0]
   rw [if_neg (by omega)]
 | d + 1, i, x, y, hi, hx, hy => by
  have hlt : i < s.data.toList.length := by rw [len_data]; omega
  obtain ⟨c, t, ec, eix, hcase⟩ := sign_of s.data.toList[i]
  have hebt := Lib.hid (show bt s (i : Int) = c from (bt_get s i hlt).trans ec)
  clear ec
  have ei : wrap64 ((i : Int) + 1) = ((i + 1 : Nat) : Int) := by rw [w64 (by omega) (by omega)]; rfl
  rcases hcase with ⟨n, hn, esg, rfl⟩ | ⟨ht, n1, n2, n3, n4⟩
  ·have hstep := avStep_ev w h l hl hw hh n x y hx hy
   obtain ⟨K1, hcan⟩ := can_ev w h l hl hw hh n hn x y hx hy
   have hmv := moved_f n hn x y (by omega) (by omega)
   cases hok : okS w h l n x y with
   | false =>
    rw [hok] at hstep
    refine ⟨([], false), by simp, Ev.succ ?_, K1 + 1, fun p k hp hk => ?_⟩
    ·simp only [spec_WalkWord.l0]
     rw [hebt.out, esg]
     refine Ev.itet (by omega) (Ev.itet (by omega) (Ev.bind hstep (Ev.itef (by simp) (Ev.now _))))
    ·obtain ⟨k, rfl⟩ : ∃ j, k = j + 1 := ⟨k - 1, by omega⟩
     have hc : impl_stepIn.can p w h l [x, y] (n : Int) = some (okS w h l n x y) := hcan p (by omega)
     rw [hok] at hc
     simp only [impl_WalkWord.l0]
     rw [if_pos (by omega), if_pos (by omega), hebt.out, eix, Option.bind_some, if_neg (by omega), if_pos (show [x, y].length = 2 from rfl), hc, Option.bind_some, if_neg (by simp)]
   | true =>
    rw [hok] at hstep
    have hin : inC w h (tgt n x y) = true := by
     unfold okS at hok
     simp only [Bool.and_eq_true] at hok
     exact hok.1
    obtain ⟨hx', hy'⟩ := inC_iff.1 hin
    obtain ⟨r, h1, h2, K2, h3⟩ := walk_ev w h l hl hw hh s hs d (i + 1) (tgt n x y).1 (tgt n x y).2 (by omega) hx' hy'
    refine ⟨r, h1, Ev.succ ?_, K1 + K2 + 1, fun p k hp hk => ?_⟩
    ·simp only [spec_WalkWord.l0]
     rw [hebt.out, esg, ei]
     refine Ev.itet (by omega) (Ev.itet (by omega) (Ev.bind hstep (Ev.itet rfl h2)))
    ·obtain ⟨k, rfl⟩ : ∃ j, k = j + 1 := ⟨k - 1, by omega⟩
     have hc : impl_stepIn.can p w h l [x, y] (n : Int) = some (okS w h l n x y) := hcan p (by omega)
     rw [hok] at hc
     simp only [impl_WalkWord.l0]
     rw [if_pos (by omega), if_pos (by omega), hebt.out, eix, Option.bind_some, if_neg (by omega), if_pos (show [x, y].length = 2 from rfl), hc, Option.bind_some, if_pos rfl, hmv, Option.bind_some, ei]
     exact h3 p k (by omega) (by omega)
  ·refine ⟨([], false), by simp, Ev.succ ?_, 1, fun p k hp hk => ?_⟩
   ·simp only [spec_WalkWord.l0]
    rw [hebt.out]
    exact Ev.itet (by omega) (Ev.itet (by omega) (Ev.bind (avStep_none w h l x y _ n1 n2 n3 n4) (Ev.itef (by simp) (Ev.now _))))
   ·obtain ⟨k, rfl⟩ : ∃ j, k = j + 1 := ⟨k - 1, by omega⟩
    simp only [impl_WalkWord.l0]
    rw [if_pos (by omega), if_pos (by omega), hebt.out, eix, Option.bind_some, if_pos ht]
theorem both (w h : Int) (l : List S38) (hl : l.length ≤ 1048576) (a : List Int) (ha : a.length ≤ 1048576) (s : ByteArray) : ∃ r : List Int × Bool, r.1.length ≤ 2 ∧ Ev (fun k => spec_WalkWord.f k w h l a s) r ∧ Ev (fun k => impl_WalkWord.f k w h l a s) r := by
 have hg := avGood_ev w h l hl
 have hc := areCorners_ev w h l hl [a]
 have e1 : [a].all (spec_avCorner.good w h) = spec_avCorner.good w h a := by simp
 rw [e1] at hc
 have no : Ev (fun k => spec_WalkWord.j0 k a s true w h l) ([], false) := by
  refine Ev.succ ?_
  simp only [spec_WalkWord.j0]
  exact Ev.itet trivial (Ev.now _)
 unfold spec_WalkWord.f impl_WalkWord.f
 cases hgg : good w h l <;> rw [hgg] at hg hc
 ·exact ⟨([], false), by simp, Ev.bind hg (Ev.itef (by simp) no), Ev.bind hc (Ev.itef (by simp) (Ev.now _))⟩
 ·obtain ⟨hw, hh, h30⟩ := good_wh hgg
  rw [Bool.true_and] at hc
  cases hcc : spec_avCorner.good w h a <;> rw [hcc] at hc
  ·exact ⟨([], false), by simp, Ev.bind hg (Ev.itet rfl (Ev.bind (a := false) (by unfold spec_avCorner.f; rw [hcc]; exact Ev.now _) (Ev.itef (by simp) no))), Ev.bind hc (Ev.itef (by simp) (Ev.now _))⟩
  ·have hcor : Ev (fun _ => spec_avCorner.f w h l a) true := by unfold spec_avCorner.f; rw [hcc]; exact Ev.now _
   by_cases hs : (s.size : Int) > 200
   ·refine ⟨([], false), by simp, Ev.bind hg (Ev.itet rfl (Ev.bind hcor (Ev.itet rfl ?_))), Ev.bind hc (Ev.itet rfl (Ev.itet hs (Ev.now _)))⟩
    rw [decide_eq_true hs]
    exact no
   ·obtain ⟨x, y, rfl, hx, hy⟩ := corner_pair hw hh hcc
    obtain ⟨r, h1, h2, K, h3⟩ := walk_ev w h l hl hw hh s (by omega) s.size 0 x y (by omega) hx hy
    refine ⟨r, h1, Ev.bind hg (Ev.itet rfl (Ev.bind hcor (Ev.itet rfl ?_))), Ev.bind hc (Ev.itet rfl (Ev.itef hs (Ev.bind (a := [x, y]) ?_ ⟨K, fun k hk => h3 k k hk hk⟩)))⟩
    ·rw [decide_eq_false hs]
     refine Ev.succ ?_
     simp only [spec_WalkWord.j0]
     exact Ev.itef (by simp) (Ev.itet (by simp) (Ev.itet (by simp) h2))
    ·unfold slices_Clone_int_int.f
     exact Ev.itet (by simp) (Ev.now _)
theorem main : laws_FnExactWalkWord.Pure := by
 intro w hgt l a s _ _ hl _ _ _ _ _
 refine Ev.rounds ?_
 unfold laws_FnExactWalkWord.f
 by_cases ha : (a.length : Int) > 1048576
 ·exact Ev.itet ha (Ev.now _)
 refine Ev.itef ha ?_
 by_cases hsz : (s.size : Int) > 1048576
 ·exact Ev.itet hsz (Ev.now _)
 refine Ev.itef hsz ?_
 rw [szCity_f w hgt l hl]
 simp only [Option.bind_some]
 by_cases h : l.length ≤ 1048576
 ·rw [if_pos h]
  have hm : (l.map conv).length ≤ 1048576 := by simpa using h
  have ha' : a.length ≤ 1048576 := by omega
  obtain ⟨⟨r1, r2⟩, hr, hs, hi⟩ := both w hgt (l.map conv) hm a ha' s
  simp only at hr
  have hr' : r1.length ≤ 1048576 := by omega
  obtain ⟨l', hmk⟩ := markCity_ev w hgt (l.map conv) hm
  refine Ev.itef (by omega) (Ev.bind (toCity_ev w hgt l h) (Ev.bind (toIntS_ev a ha') (Ev.bind hs (Ev.bind (toCity_ev w hgt l h) (Ev.bind (toIntS_ev a ha') (Ev.bind hi (Ev.bind (eqIntS_ev r1 hr') (Ev.itet rfl (Ev.succ ?_)))))))))
  simp only [laws_FnExactWalkWord.j0]
  refine Ev.itef (by simp) (Ev.bind (toCity_ev w hgt l h) (Ev.bind (eqCity_ev w hgt _ hm) (Ev.itet rfl (Ev.bind (toIntS_ev a ha') (Ev.bind (eqIntS_ev a ha') (Ev.itet rfl (Ev.bind hmk (Ev.bind (markIntS_ev a ha' _ (by omega) (by omega)) (Ev.itef (by omega) (Ev.bind (eqIntS_ev r1 hr') (Ev.itet rfl (Ev.succ ?_))))))))))))
  simp only [laws_FnExactWalkWord.j1]
  refine Ev.itef (by simp) (Ev.bind (markIntS_ev r1 hr' 1 (by omega) (by omega)) (Ev.bind (heldIntS_ev _ hr' 1 (by omega) (by omega)) (Ev.itef (by omega) (Ev.itet rfl (Ev.bind (toCity_ev w hgt l h) (Ev.bind (toIntS_ev a ha') (Ev.bind hi (Ev.bind (eqIntS_ev r1 hr') (Ev.itet rfl (Ev.succ ?_))))))))))
  simp only [laws_FnExactWalkWord.j2]
  exact Ev.itef (by simp) (Ev.bind (heldIntS_ev _ hr' 1 (by omega) (by omega)) (Ev.itef (by omega) (Ev.itet rfl (Ev.now _))))
 ·rw [if_neg h]
  exact Ev.itet (by omega) (Ev.now _)
end WalkWord
theorem FnExactWalkWord : laws_FnExactWalkWord.Pure := WalkWord.main
end Go.Proofs.Ytohpaddcfcgmbaa.Pure
