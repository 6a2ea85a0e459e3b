/- Cut by wip/cut.py out of the texts of this claim (printed by the kit's printer, or this session's own): what the row's theorem does not reach is struck. Not trusted: Lean checks it. -/
import Derived.Test.YtpedofomfhmnfaaZFnExactFirstShortestWayWalk
import Derived.Test.YtpedofomfhmnfaaZFnExactFirstShortestWayKit
namespace Go.Proofs.Ytpedofomfhmnfaa.Pure
open Go.RowKit Go.Proofs.YtpedofomfhmnfaaW.PrintWords Go.Proofs.YtpedofomfhmnfaaW.PrintLast Go.Proofs.YtpedofomfhmnfaaW.PrintMore Go.Proofs.YtpedofomfhmnfaaKit
open Go.Proofs.Ytpedofomfhmnfaa.PFnExactFirstShortestWay
namespace FirstShortestWay
theorem ge_le (a b c : Int) : (if a ≥ b then some (decide (a ≤ c)) else some false) = some (decide (b ≤ a ∧ a ≤ c)) := by
 by_cases h : a ≥ b
 ·rw [if_pos h]; simp [show b ≤ a from h]
 ·rw [if_neg h]; simp; omega
theorem l1In_f (a b c : Int) : spec_l1In.f a b c = some (decide (b ≤ a ∧ a ≤ c)) := by unfold spec_l1In.f; exact ge_le a b c
theorem within_f (a b c : Int) : impl_within.f a b c = some (decide (b ≤ a ∧ a ≤ c)) := by unfold impl_within.f; exact ge_le a b c
def conv (b : S56) : S58 := ⟨b.f0, b.f1, b.f2⟩
theorem rdL_get (l : List S56) (i : Nat) (h : i < l.length) : rd_T56 l (i : Int) = l[i] := by unfold rd_T56; simp [h]
theorem rdB_get (l : List S58) (i : Nat) (h : i < l.length) : rd_T58 l (i : Int) = l[i] := by unfold rd_T58; simp [h]
theorem toBlockS_ev (l : List S56) (hl : l.length ≤ 1048576) : Ev (fun k => laws_toBlockS.f k l) (l.map conv) := by
 unfold laws_toBlockS.f
 refine Ev.itet (by omega) (Ev.itet (by omega) ?_)
 have key : ∀ (d i : Nat), i + d = l.length → Ev (fun k => laws_toBlockS.l0 k l ((l.map conv).take i ++ List.replicate d z58) (i : Int)) (l.map conv) := by
  intro d
  induction d with
  | zero =>
   intro i hi
   refine Ev.stop fun k => ?_
   simp only [laws_toBlockS.l0]
   rw [if_neg (by omega), List.take_of_length_le (by simp; omega)]
   simp
  | succ d ih =>
   intro i hi
   have hlt : i < l.length := by omega
   have hlt2 : i < (l.map conv).length := by simp; omega
   refine Ev.to _ (fun k => ?_) (ih (i + 1) (by omega))
   simp only [laws_toBlockS.l0, laws_toBlock.f, Option.bind_some]
   rw [if_pos (by omega), if_pos (by omega), if_pos (by simp; omega), rdL_get l i hlt, w64 (by omega) (by omega)]
   have e : ((l.map conv).take i ++ List.replicate (d + 1) z58).set (i : Int).toNat (⟨l[i].f0, l[i].f1, l[i].f2⟩ : S58) = (l.map conv).take (i + 1) ++ List.replicate d z58 := by
    rw [List.take_succ_eq_append_getElem hlt2, Int.toNat_natCast, List.set_append_right _ _ (by simp; omega)]
    have h0 : i - ((l.map conv).take i).length = 0 := by simp; omega
    rw [h0, List.replicate_succ, List.set_cons_zero, List.append_assoc]
    simp [conv]
   rw [e]
   rfl
 have := key l.length 0 (by omega)
 simpa using this
theorem toCity_ev (a b : Int) (l : List S56) (hl : l.length ≤ 1048576) : Ev (fun k => laws_toCity.f k a b l) (a, b, l.map conv) := by
 unfold laws_toCity.f
 exact Ev.bind (toBlockS_ev l hl) (Ev.now _)
theorem eqBlockS_ev (l : List S58) (hl : l.length ≤ 1048576) : Ev (fun k => laws_eqBlockS.f k l l) true := by
 unfold laws_eqBlockS.f
 refine Ev.itet rfl ?_
 have key : ∀ (d i : Nat), i + d = l.length → Ev (fun k => laws_eqBlockS.l0 k l l (i : Int)) true := by
  intro d
  induction d with
  | zero => exact fun i hi => Ev.stop fun k => by simp only [laws_eqBlockS.l0]; rw [if_neg (by omega)]
  | succ d ih =>
   intro i hi
   refine Ev.to _ (fun k => ?_) (ih (i + 1) (by omega))
   have hw : wrap64 ((i : Int) + 1) = ((i + 1 : Nat) : Int) := by rw [w64 (by omega) (by omega)]; rfl
   simp only [laws_eqBlockS.l0, laws_eqBlock.f]
   rw [if_pos (by omega), if_pos (by omega), if_pos (by omega), hw]
   simp
 exact key l.length 0 (by omega)
theorem eqCity_ev (a b : Int) (l : List S58) (hl : l.length ≤ 1048576) : Ev (fun k => laws_eqCity.f k a b l a b l) true := by
 unfold laws_eqCity.f
 exact Ev.itet rfl (Ev.itet rfl (Ev.bind (eqBlockS_ev l hl) (Ev.itet rfl (Ev.now _))))
theorem szCity_f (a b : Int) (l : List S56) (hl : l.length ≤ maxLen) : laws_szCity.f a b l 1048576 = some (if l.length ≤ 1048576 then 1048576 - (l.length : Int) else -1) := by
 unfold laws_szCity.f laws_szBlockS.f
 unfold maxLen at hl
 rw [w64 (by omega) (by omega)]
 by_cases h : l.length ≤ 1048576
 ·rw [if_neg (by omega), Option.bind_some, if_neg (by omega), if_pos h]
 ·rw [if_pos (by omega), Option.bind_some, if_pos (by omega), if_neg h]
theorem toIntS_ev (l : List Int) (hl : l.length ≤ 1048576) : Ev (fun k => laws_toIntS.f k l) l := by
 unfold laws_toIntS.f
 refine Ev.itet (by omega) (Ev.itet (by omega) ?_)
 have key : ∀ (d i : Nat), i + d = l.length → Ev (fun k => laws_toIntS.l0 k l (l.take i ++ List.replicate d 0) (i : Int)) l := by
  intro d
  induction d with
  | zero =>
   intro i hi
   refine Ev.stop fun k => ?_
   simp only [laws_toIntS.l0]
   rw [if_neg (by omega), List.take_of_length_le (by omega)]
   simp
  | succ d ih =>
   intro i hi
   have hlt : i < l.length := by omega
   refine Ev.to _ (fun k => ?_) (ih (i + 1) (by omega))
   simp only [laws_toIntS.l0]
   rw [if_pos (by omega), if_pos (by omega), if_pos (by simp; omega), rd_get l i hlt, w64 (by omega) (by omega)]
   have e : (l.take i ++ List.replicate (d + 1) 0).set (i : Int).toNat l[i] = l.take (i + 1) ++ List.replicate d 0 := by
    rw [List.take_succ_eq_append_getElem hlt, Int.toNat_natCast, List.set_append_right _ _ (by simp; omega)]
    have : i - (l.take i).length = 0 := by simp; omega
    rw [this, List.replicate_succ, List.set_cons_zero, List.append_assoc]
    rfl
   rw [e]
   rfl
 have := key l.length 0 (by omega)
 simpa using this
theorem eqIntS_ev (l : List Int) (hl : l.length ≤ 1048576) : Ev (fun k => laws_eqIntS.f k l l) true := by
 unfold laws_eqIntS.f
 refine Ev.itet rfl ?_
 have := runL_all (fun _ => true) l 0
 rw [show (l.all fun _ => true) = true by simp] at this
 rw [← this]
 refine ev_loop0 l (fun k i (_ : Unit) => laws_eqIntS.l0 k l l i) _ _ (fun _ _ => True) () trivial (fun i s hi _ => ⟨fun s' e => ⟨trivial, fun r hr => Ev.to _ (fun k => ?_) hr⟩, fun r e => by simp at e⟩) (fun s _ => Ev.stop fun k => ?_)
 ·simp only [laws_eqIntS.l0]
  rw [if_pos (by omega), if_pos (by omega), if_pos (by omega), if_pos trivial, w64 (by omega) (by omega)]
 ·simp only [laws_eqIntS.l0]
  rw [if_neg (by omega)]
def isB (w h : Int) (b : S58) : Bool := if b.f2 = true then decide (0 ≤ b.f0 ∧ b.f0 ≤ w - 1) && decide (0 ≤ b.f1 ∧ b.f1 ≤ h - 2) else decide (0 ≤ b.f0 ∧ b.f0 ≤ w - 2) && decide (0 ≤ b.f1 ∧ b.f1 ≤ h - 1)
theorem isBlock_f (w h : Int) (l : List S58) (b : S58) (hw : 1 ≤ w ∧ w ≤ 8) (hh : 1 ≤ h ∧ h ≤ 8) : impl_isBlock.f w h l b.f0 b.f1 b.f2 = some (isB w h b) := by
 unfold impl_isBlock.f isB
 rw [w64 (x := w - 1) (by omega) (by omega), w64 (x := h - 2) (by omega) (by omega), w64 (x := w - 2) (by omega) (by omega), w64 (x := h - 1) (by omega) (by omega)]
 simp only [within_f, Option.bind_some]
 cases b.f2
 ·simp only [Bool.false_eq_true, if_false]
  cases decide (0 ≤ b.f0 ∧ b.f0 ≤ w - 2) <;> simp
 ·simp only [if_true]
  cases decide (0 ≤ b.f0 ∧ b.f0 ≤ w - 1) <;> simp
theorem avIs_ev (w h : Int) (b : S58) (hw : 1 ≤ w ∧ w ≤ 8) (hh : 1 ≤ h ∧ h ≤ 8) : Ev (fun k => spec_avIs.f k w h b.f0 b.f1 b.f2) (isB w h b) := by
 unfold spec_avIs.f isB
 rw [w64 (x := w - 1) (by omega) (by omega), w64 (x := h - 1) (by omega) (by omega)]
 simp only [l1In_f, Option.bind_some]
 have no : ∀ r, r = false → Ev (fun k => spec_avIs.j0 k w h true b.f0 b.f1 b.f2) r := by
  rintro r rfl
  refine Ev.succ ?_
  simp only [spec_avIs.j0]
  exact Ev.itet (by trivial) (Ev.now _)
 by_cases h0 : 0 ≤ b.f0 ∧ b.f0 ≤ w - 1
 ·rw [decide_eq_true h0]
  simp only [if_true]
  by_cases h1 : 0 ≤ b.f1 ∧ b.f1 ≤ h - 1
  ·rw [decide_eq_true h1]
   refine Ev.succ ?_
   simp only [spec_avIs.j0]
   refine Ev.itef (by simp) ?_
   rw [w64 (x := w - 1) (by omega) (by omega), w64 (x := h - 1) (by omega) (by omega)]
   cases b.f2
   ·simp only [Bool.false_eq_true, if_false]
    have e : (decide (0 ≤ b.f0 ∧ b.f0 ≤ w - 2) && true) = decide (b.f0 < w - 1) := by rw [Bool.and_true]; apply decide_eq_decide.mpr; omega
    rw [e]
    exact Ev.now _
   ·simp only [if_true]
    have e : (true && decide (0 ≤ b.f1 ∧ b.f1 ≤ h - 2)) = decide (b.f1 < h - 1) := by rw [Bool.true_and]; apply decide_eq_decide.mpr; omega
    rw [e]
    exact Ev.now _
  ·rw [decide_eq_false h1]
   refine no _ ?_
   have h2 : ¬ (0 ≤ b.f1 ∧ b.f1 ≤ h - 2) := by omega
   rw [decide_eq_false h2]
   split <;> simp
 ·rw [decide_eq_false h0]
  simp only [Bool.false_eq_true, if_false]
  refine no _ ?_
  have h2 : ¬ (0 ≤ b.f0 ∧ b.f0 ≤ w - 2) := by omega
  rw [decide_eq_false h2]
  split <;> simp
def less (b c : S58) : Bool := if b.f0 = c.f0 then (if b.f1 = c.f1 then (if b.f2 = true then false else c.f2) else decide (b.f1 < c.f1)) else decide (b.f0 < c.f0)
theorem avLess_f (b c : S58) : spec_avLess.f b.f0 b.f1 b.f2 c.f0 c.f1 c.f2 = some (less b c) := by
 unfold spec_avLess.f less
 repeat' split
 all_goals rfl
def cmpI (a b : Int) : Int := if a < b then -1 else if a > b then 1 else 0
theorem compare_f (a b : Int) : cmp_Compare_int.f a b = some (cmpI a b) := by
 unfold cmp_Compare_int.f cmp_isNaN_int.f cmpI
 simp only [Option.bind_some, bne_self_eq_false, Bool.false_eq_true, if_false]
 repeat' split
 all_goals rfl
def or3 (a b c : Int) : Int := if a = 0 then (if b = 0 then c else b) else a
theorem or_ev (a b c : Int) : Ev (fun k => cmp_Or_int.f k [a, b, c]) (or3 a b c) := by
 unfold cmp_Or_int.f or3
 refine Ev.succ ?_
 simp only [cmp_Or_int.l0]
 refine Ev.itet (by simp) (Ev.itet (by simp) (Ev.itet (by simp) ?_))
 rw [show rd [a, b, c] 0 = a from rfl, w64 (x := (0 : Int) + 1) (by omega) (by omega)]
 by_cases ha : a = 0
 ·rw [if_pos ha]
  refine Ev.itet ha (Ev.succ ?_)
  simp only [cmp_Or_int.l0]
  refine Ev.itet (by simp) (Ev.itet (by simp) (Ev.itet (by simp) ?_))
  rw [show rd [a, b, c] (0 + 1) = b from rfl, w64 (x := (0 : Int) + 1 + 1) (by omega) (by omega)]
  by_cases hb : b = 0
  ·rw [if_pos hb]
   refine Ev.itet hb (Ev.succ ?_)
   simp only [cmp_Or_int.l0]
   refine Ev.itet (by simp) (Ev.itet (by simp) (Ev.itet (by simp) ?_))
   rw [show rd [a, b, c] (0 + 1 + 1) = c from rfl, w64 (x := (0 : Int) + 1 + 1 + 1) (by omega) (by omega)]
   by_cases hc : c = 0
   ·refine Ev.itet hc (Ev.succ ?_)
    simp only [cmp_Or_int.l0]
    rw [hc]
    exact Ev.itef (by simp) (Ev.now _)
   ·exact Ev.itef hc (Ev.now _)
  ·rw [if_neg hb]
   exact Ev.itef hb (Ev.now _)
 ·rw [if_neg ha]
  exact Ev.itef ha (Ev.now _)
def cmpB (b c : S58) : Int := or3 (cmpI b.f0 c.f0) (cmpI b.f1 c.f1) (if (b.f2 != c.f2) = true then (if c.f2 = true then -1 else 1) else 0)
theorem compareBlocks_ev (b c : S58) : Ev (fun k => impl_compareBlocks.f k b.f0 b.f1 b.f2 c.f0 c.f1 c.f2) (cmpB b c) := by
 unfold impl_compareBlocks.f cmpB
 simp only [compare_f, Option.bind_some]
 by_cases h : (b.f2 != c.f2) = true
 ·rw [if_pos h]
  refine Ev.itet h ?_
  by_cases h2 : c.f2 = true
  ·rw [if_pos h2]
   exact Ev.itet h2 (Ev.bind (or_ev _ _ _) (Ev.now _))
  ·rw [if_neg h2]
   exact Ev.itef h2 (Ev.bind (or_ev _ _ _) (Ev.now _))
 ·rw [if_neg h]
  exact Ev.itef h (Ev.bind (or_ev _ _ _) (Ev.now _))
theorem cmpB_less (b c : S58) : (cmpB b c ≥ 0) ↔ less b c = false := by
 unfold cmpB less
 by_cases h0 : b.f0 = c.f0
 ·have e0 : cmpI b.f0 c.f0 = 0 := by unfold cmpI; rw [if_neg (by omega), if_neg (by omega)]
  rw [e0, if_pos h0]
  unfold or3
  rw [if_pos rfl]
  by_cases h1 : b.f1 = c.f1
  ·have e1 : cmpI b.f1 c.f1 = 0 := by unfold cmpI; rw [if_neg (by omega), if_neg (by omega)]
   rw [e1, if_pos rfl, if_pos h1]
   cases b.f2 <;> cases c.f2 <;> simp
  ·rw [if_neg h1]
   by_cases h2 : b.f1 < c.f1
   ·have e1 : cmpI b.f1 c.f1 = -1 := by unfold cmpI; rw [if_pos h2]
    rw [e1, if_neg (by decide), decide_eq_true h2]
    simp
   ·have e1 : cmpI b.f1 c.f1 = 1 := by unfold cmpI; rw [if_neg h2, if_pos (by omega)]
    rw [e1, if_neg (by decide), decide_eq_false h2]
    simp
 ·rw [if_neg h0]
  unfold or3
  by_cases h2 : b.f0 < c.f0
  ·have e1 : cmpI b.f0 c.f0 = -1 := by unfold cmpI; rw [if_pos h2]
   rw [e1, if_neg (by decide), decide_eq_true h2]
   simp
  ·have e1 : cmpI b.f0 c.f0 = 1 := by unfold cmpI; rw [if_neg h2, if_pos (by omega)]
   rw [e1, if_neg (by decide), decide_eq_false h2]
   simp
def okAt (w h : Int) (l : List S58) (i : Nat) : Bool := match l[i]? with
 | none => true
 | some c => isB w h c && (match i with
  | 0 => true
  | p + 1 => match l[p]? with
   | none => true
   | some b => less b c)
def chk (w h : Int) (l : List S58) : Nat → Nat → Bool
 | 0, _ => true
 | d + 1, i => okAt w h l i && chk w h l d (i + 1)
theorem avGood_l0 (w h : Int) (l : List S58) (hl : l.length ≤ 1048576) (hw : 1 ≤ w ∧ w ≤ 8) (hh : 1 ≤ h ∧ h ≤ 8) : ∀ d i : Nat, i + d = l.length → Ev (fun k => spec_avGood.l0 k l (l.length : Int) (i : Int) w h l) (chk w h l d i)
 | 0, i, hi => Ev.stop fun k => by simp only [spec_avGood.l0]; rw [if_neg (by omega)]; rfl
 | d + 1, i, hi => by
  have ih := avGood_l0 w h l hl hw hh d (i + 1) (by omega)
  have hlt : i < l.length := by omega
  have hwr : wrap64 ((i : Int) + 1) = ((i + 1 : Nat) : Int) := by rw [w64 (by omega) (by omega)]; rfl
  refine Ev.succ ?_
  simp only [spec_avGood.l0, chk, okAt, List.getElem?_eq_getElem hlt]
  rw [rdB_get l i hlt, hwr]
  refine Ev.itet (by omega) (Ev.itet (by omega) (Ev.itet (by omega) (Ev.bind (avIs_ev w h l[i] hw hh) ?_)))
  cases isB w h l[i]
  ·exact Ev.itef (by simp) (Ev.now _)
  ·refine Ev.itet rfl ?_
   match i, hlt, ih with
   | 0, _, ih => exact Ev.itef (by simp) (by simpa using ih)
   | p + 1, hlt, ih =>
    have hlp : p < l.length := by omega
    have hwp : wrap64 (((p + 1 : Nat) : Int) - 1) = (p : Int) := by rw [w64 (by omega) (by omega)]; omega
    rw [hwp, rdB_get l p hlp]
    simp only [List.getElem?_eq_getElem hlp, avLess_f, Option.bind_some]
    refine Ev.itet (by omega) (Ev.itet (by omega) (Ev.itet (by omega) ?_))
    cases less l[p] l[p + 1]
    ·exact Ev.itef (by simp) (Ev.now _)
    ·exact Ev.itet rfl (by simpa using ih)
theorem IsCity_l0 (w h : Int) (l : List S58) (hl : l.length ≤ 1048576) (hw : 1 ≤ w ∧ w ≤ 8) (hh : 1 ≤ h ∧ h ≤ 8) : ∀ d i : Nat, i + d = l.length → Ev (fun k => impl_IsCity.l0 k l (l.length : Int) (i : Int) w h l) (chk w h l d i)
 | 0, i, hi => Ev.stop fun k => by simp only [impl_IsCity.l0]; rw [if_neg (by omega)]; rfl
 | d + 1, i, hi => by
  have ih := IsCity_l0 w h l hl hw hh d (i + 1) (by omega)
  have hlt : i < l.length := by omega
  have hwr : wrap64 ((i : Int) + 1) = ((i + 1 : Nat) : Int) := by rw [w64 (by omega) (by omega)]; rfl
  refine Ev.succ ?_
  simp only [impl_IsCity.l0, chk, okAt, List.getElem?_eq_getElem hlt]
  rw [rdB_get l i hlt, hwr, isBlock_f w h l l[i] hw hh]
  simp only [Option.bind_some]
  refine Ev.itet (by omega) (Ev.itet (by omega) (Ev.itet (by omega) ?_))
  cases isB w h l[i]
  ·exact Ev.itef (by simp) (Ev.now _)
  ·refine Ev.itet rfl ?_
   match i, hlt, ih with
   | 0, _, ih => exact Ev.itef (by simp) (by simpa using ih)
   | p + 1, hlt, ih =>
    have hlp : p < l.length := by omega
    have hwp : wrap64 (((p + 1 : Nat) : Int) - 1) = (p : Int) := by rw [w64 (by omega) (by omega)]; omega
    rw [hwp, rdB_get l p hlp]
    simp only [List.getElem?_eq_getElem hlp]
    refine Ev.itet (by omega) (Ev.itet (by omega) (Ev.itet (by omega) (Ev.bind (compareBlocks_ev l[p] l[p + 1]) ?_)))
    cases hls : less l[p] l[p + 1]
    ·exact Ev.itet ((cmpB_less _ _).2 hls) (Ev.now _)
    ·exact Ev.itef (fun e => by rw [(cmpB_less _ _).1 e] at hls; cases hls) (by simpa using ih)
def good (w h : Int) (l : List S58) : Bool := decide (1 ≤ w ∧ w ≤ 8) && (decide (1 ≤ h ∧ h ≤ 8) && (decide (l.length ≤ 30) && chk w h l l.length 0))
theorem avGood_ev (w h : Int) (l : List S58) (hl : l.length ≤ 1048576) : Ev (fun k => spec_avGood.f k w h l) (good w h l) := by
 unfold spec_avGood.f good
 simp only [l1In_f, Option.bind_some]
 have no : ∀ r, r = false → Ev (fun k => spec_avGood.j0 k true w h l) r := by
  rintro r rfl
  refine Ev.succ ?_
  simp only [spec_avGood.j0]
  exact Ev.itet (by trivial) (Ev.now _)
 by_cases h0 : 1 ≤ w ∧ w ≤ 8
 ·rw [decide_eq_true h0]
  simp only [if_true, Bool.true_and]
  by_cases h1 : 1 ≤ h ∧ h ≤ 8
  ·rw [decide_eq_true h1]
   simp only [if_true, Bool.true_and]
   by_cases h2 : l.length ≤ 30
   ·rw [decide_eq_true h2, Bool.true_and, decide_eq_false (by omega)]
    refine Ev.succ ?_
    simp only [spec_avGood.j0]
    exact Ev.itef (by simp) (avGood_l0 w h l hl h0 h1 l.length 0 (by omega))
   ·rw [decide_eq_false h2, Bool.false_and, decide_eq_true (by omega)]
    exact no _ rfl
  ·rw [decide_eq_false h1]
   simp only [Bool.false_eq_true, if_false, Bool.false_and]
   exact no _ rfl
 ·rw [decide_eq_false h0]
  simp only [Bool.false_eq_true, if_false, Bool.false_and]
  exact no _ rfl
theorem IsCity_ev (w h : Int) (l : List S58) (hl : l.length ≤ 1048576) : Ev (fun k => impl_IsCity.f k w h l) (good w h l) := by
 unfold impl_IsCity.f good
 simp only [within_f, Option.bind_some]
 have no : ∀ r, r = false → Ev (fun k => impl_IsCity.j0 k true w h l) r := by
  rintro r rfl
  refine Ev.succ ?_
  simp only [impl_IsCity.j0]
  exact Ev.itet (by trivial) (Ev.now _)
 by_cases h0 : 1 ≤ w ∧ w ≤ 8
 ·rw [decide_eq_true h0]
  simp only [if_true, Bool.true_and]
  by_cases h1 : 1 ≤ h ∧ h ≤ 8
  ·rw [decide_eq_true h1]
   simp only [if_true, Bool.true_and]
   by_cases h2 : l.length ≤ 30
   ·rw [decide_eq_true h2, Bool.true_and, decide_eq_false (by omega)]
    refine Ev.succ ?_
    simp only [impl_IsCity.j0]
    exact Ev.itef (by simp) (IsCity_l0 w h l hl h0 h1 l.length 0 (by omega))
   ·rw [decide_eq_false h2, Bool.false_and, decide_eq_true (by omega)]
    exact no _ rfl
  ·rw [decide_eq_false h1]
   simp only [Bool.false_eq_true, if_false, Bool.false_and]
   exact no _ rfl
 ·rw [decide_eq_false h0]
  simp only [Bool.false_eq_true, if_false, Bool.false_and]
  exact no _ rfl
set_option linter.unusedVariables false
def eqB (b c : S58) : Bool := b.f0 == c.f0 && (b.f1 == c.f1 && (b.f2 == c.f2))
def shut (l : List S58) (b : S58) : Bool := l.any (eqB b)
theorem avShut_ev (w h : Int) (l : List S58) (hl : l.length ≤ 1048576) (b : S58) : Ev (fun k => spec_avShut.f k w h l b.f0 b.f1 b.f2) (shut l b) := by
 unfold spec_avShut.f
 have key : ∀ (d i : Nat), i + d = l.length → Ev (fun k => spec_avShut.l0 k l (l.length : Int) (i : Int) b.f0 b.f1 b.f2) ((l.drop i).any (eqB b)) := by
  intro d
  induction d with
  | zero => exact fun i hi => Ev.stop fun k => by simp only [spec_avShut.l0]; rw [if_neg (by omega), List.drop_eq_nil_of_le (by omega)]; rfl
  | succ d ih =>
   intro i hi
   have hlt : i < l.length := by omega
   have ih := ih (i + 1) (by omega)
   have hw : wrap64 ((i : Int) + 1) = ((i + 1 : Nat) : Int) := by rw [w64 (by omega) (by omega)]; rfl
   refine Ev.succ ?_
   simp only [spec_avShut.l0]
   rw [rdB_get l i hlt, hw, List.drop_eq_getElem_cons hlt, List.any_cons]
   refine Ev.itet (by omega) (Ev.itet (by omega) (Ev.itet (by omega) ?_))
   change Ev (fun k => if eqB b l[i] = true then _ else _) _
   cases eqB b l[i]
   ·exact Ev.itef (by simp) (by simpa using ih)
   ·exact Ev.itet rfl (Ev.now _)
 have := key l.length 0 (by omega)
 simpa [shut] using this
theorem isClosed_ev (w h : Int) (l : List S58) (hl : l.length ≤ 1048576) (b : S58) : Ev (fun k => impl_isClosed.f k w h l b.f0 b.f1 b.f2) (shut l b) := by
 unfold impl_isClosed.f impl_Block_76.f
 have key : ∀ (d i : Nat), i + d = l.length → ∃ r : Int, decide (r ≥ 0) = (l.drop i).any (eqB b) ∧ Ev (fun k => impl_Block_83.l0 k l (l.length : Int) (i : Int) b.f0 b.f1 b.f2) r := by
  intro d
  induction d with
  | zero => exact fun i hi => ⟨-1, by rw [List.drop_eq_nil_of_le (by omega)]; rfl, Ev.stop fun k => by simp only [impl_Block_83.l0]; rw [if_neg (by omega)]⟩
  | succ d ih =>
   intro i hi
   have hlt : i < l.length := by omega
   obtain ⟨r, h1, h2⟩ := ih (i + 1) (by omega)
   have hw : wrap64 ((i : Int) + 1) = ((i + 1 : Nat) : Int) := by rw [w64 (by omega) (by omega)]; rfl
   rw [List.drop_eq_getElem_cons hlt, List.any_cons]
   cases he : eqB b l[i]
   ·refine ⟨r, by simpa using h1, Ev.succ ?_⟩
    simp only [impl_Block_83.l0]
    rw [rdB_get l i hlt, hw]
    refine Ev.itet (by omega) (Ev.itet (by omega) (Ev.itet (by omega) ?_))
    change Ev (fun k => if eqB b l[i] = true then _ else _) _
    exact Ev.itef (by rw [he]; simp) h2
   ·refine ⟨(i : Int), by simp, Ev.succ ?_⟩
    simp only [impl_Block_83.l0]
    rw [rdB_get l i hlt, hw]
    refine Ev.itet (by omega) (Ev.itet (by omega) (Ev.itet (by omega) ?_))
    change Ev (fun k => if eqB b l[i] = true then _ else _) _
    exact Ev.itet he (Ev.now _)
 obtain ⟨r, h1, h2⟩ := key l.length 0 (by omega)
 refine Ev.bind (Ev.bind h2 (Ev.now (decide (r ≥ 0)))) ?_
 rw [h1]
 simpa [shut] using Ev.now _
def tgt (s : Nat) (x y : Int) : Int × Int := match s with
 | 0 => (x + 1, y)
 | 1 => (x, y + 1)
 | 2 => (x, y - 1)
 | _ => (x - 1, y)
def bk (s : Nat) (x y : Int) : S58 := match s with
 | 0 => ⟨x, y, false⟩
 | 1 => ⟨x, y, true⟩
 | 2 => ⟨x, y - 1, true⟩
 | _ => ⟨x - 1, y, false⟩
def inC (w h : Int) (p : Int × Int) : Bool := decide (0 ≤ p.1 ∧ p.1 ≤ w - 1) && decide (0 ≤ p.2 ∧ p.2 ≤ h - 1)
theorem inC_iff {w h : Int} {p : Int × Int} : inC w h p = true ↔ (0 ≤ p.1 ∧ p.1 ≤ w - 1) ∧ (0 ≤ p.2 ∧ p.2 ≤ h - 1) := by simp [inC]
theorem isB_in (w h : Int) (s : Nat) (x y : Int) (hx : 0 ≤ x ∧ x ≤ w - 1) (hy : 0 ≤ y ∧ y ≤ h - 1) : isB w h (bk s x y) = inC w h (tgt s x y) := by
 rw [Bool.eq_iff_iff, inC_iff]
 match s with
 | 0 => simp [isB, bk, tgt]; omega
 | 1 => simp [isB, bk, tgt]; omega
 | 2 => simp [isB, bk, tgt]; omega
 | _ + 3 => simp [isB, bk, tgt]; omega
def okS (w h : Int) (l : List S58) (s : Nat) (x y : Int) : Bool := inC w h (tgt s x y) && !shut l (bk s x y)
def sg : Nat → Int
 | 0 => 101
 | 1 => 110
 | 2 => 115
 | _ => 119
theorem avStep_ev (w h : Int) (l : List S58) (hl : l.length ≤ 1048576) (hw : 1 ≤ w ∧ w ≤ 8) (hh : 1 ≤ h ∧ h ≤ 8) (s : Nat) (x y : Int) (hx : 0 ≤ x ∧ x ≤ w - 1) (hy : 0 ≤ y ∧ y ≤ h - 1) : Ev (fun k => spec_avStep.f k w h l x y (sg s)) (if okS w h l s x y = true then ((tgt s x y).1, (tgt s x y).2, true) else (0, 0, false)) := by
 have hj : Ev (fun k => spec_avStep.j0 k (tgt s x y).1 (tgt s x y).2 w h l (bk s x y).f0 (bk s x y).f1 (bk s x y).f2) (if okS w h l s x y = true then ((tgt s x y).1, (tgt s x y).2, true) else (0, 0, false)) := by
  refine Ev.succ ?_
  simp only [spec_avStep.j0]
  refine Ev.bind (avIs_ev w h (bk s x y) hw hh) ?_
  rw [isB_in w h s x y hx hy]
  unfold okS
  cases inC w h (tgt s x y)
  ·exact Ev.itef (by simp) (Ev.now _)
  ·refine Ev.itet rfl (Ev.bind (avShut_ev w h l hl (bk s x y)) ?_)
   cases shut l (bk s x y)
   ·exact Ev.itef (by simp) (Ev.now _)
   ·exact Ev.itet rfl (Ev.now _)
 unfold spec_avStep.f
 have e1 : wrap64 (x + 1) = x + 1 := w64 (by omega) (by omega)
 have e2 : wrap64 (x - 1) = x - 1 := w64 (by omega) (by omega)
 have e3 : wrap64 (y + 1) = y + 1 := w64 (by omega) (by omega)
 have e4 : wrap64 (y - 1) = y - 1 := w64 (by omega) (by omega)
 rw [e1, e2, e3, e4]
 match s, hj with
 | 0, hj => exact Ev.itet rfl hj
 | 1, hj => exact Ev.itef (by simp [sg]) (Ev.itef (by simp [sg]) (Ev.itet rfl hj))
 | 2, hj => exact Ev.itef (by simp [sg]) (Ev.itef (by simp [sg]) (Ev.itef (by simp [sg]) (Ev.itet rfl hj)))
 | _ + 3, hj => exact Ev.itef (by simp [sg]) (Ev.itet rfl hj)
theorem moved_f (s : Nat) (hs : s < 4) (x y : Int) (hx : 0 ≤ x ∧ x ≤ 100) (hy : 0 ≤ y ∧ y ≤ 100) : impl_moved.f [x, y] (s : Int) = some [(tgt s x y).1, (tgt s x y).2] := by
 have e1 : wrap64 (x + 1) = x + 1 := w64 (by omega) (by omega)
 have e2 : wrap64 (x - 1) = x - 1 := w64 (by omega) (by omega)
 have e3 : wrap64 (y + 1) = y + 1 := w64 (by omega) (by omega)
 have e4 : wrap64 (y - 1) = y - 1 := w64 (by omega) (by omega)
 have r0 : rd [x, y] 0 = x := rfl
 have r1 : rd [x, y] 1 = y := rfl
 have b0 : bt (⟨#[101, 110, 115, 119]⟩ : ByteArray) ((0 : Nat) : Int) = 101 := rfl
 have b1 : bt (⟨#[101, 110, 115, 119]⟩ : ByteArray) ((1 : Nat) : Int) = 110 := rfl
 have b2 : bt (⟨#[101, 110, 115, 119]⟩ : ByteArray) ((2 : Nat) : Int) = 115 := rfl
 have b3 : bt (⟨#[101, 110, 115, 119]⟩ : ByteArray) ((3 : Nat) : Int) = 119 := rfl
 unfold impl_moved.f
 rw [r0, r1, e1, e2, e3, e4]
 match s, hs with
 | 0, _ => rw [b0]; simp [tgt]
 | 1, _ => rw [b1]; simp [tgt]
 | 2, _ => rw [b2]; simp [tgt]
 | 3, _ => rw [b3]; simp [tgt]
theorem can_ev (w h : Int) (l : List S58) (hl : l.length ≤ 1048576) (hw : 1 ≤ w ∧ w ≤ 8) (hh : 1 ≤ h ∧ h ≤ 8) (s : Nat) (hs : s < 4) (x y : Int) (hx : 0 ≤ x ∧ x ≤ w - 1) (hy : 0 ≤ y ∧ y ≤ h - 1) : Ev (fun k => impl_stepIn.can k w h l [x, y] (s : Int)) (okS w h l s x y) := by
 unfold impl_stepIn.can okS
 simp only [moved_f s hs x y (by omega) (by omega), Option.bind_some]
 have ei : impl_stepIn.in_ w h (rd [(tgt s x y).1, (tgt s x y).2] 0) (rd [(tgt s x y).1, (tgt s x y).2] 1) = inC w h (tgt s x y) := by
  unfold impl_stepIn.in_ inC
  rw [w64 (x := w - 1) (by omega) (by omega), w64 (x := h - 1) (by omega) (by omega)]
  rfl
 rw [ei]
 cases inC w h (tgt s x y)
 ·exact Ev.itef (by simp) (Ev.now _)
 ·refine Ev.itet rfl ?_
  have e0 : mn (rd [x, y] 0) (rd [(tgt s x y).1, (tgt s x y).2] 0) = (bk s x y).f0 := by
   show mn x (tgt s x y).1 = _
   unfold mn
   match s with
   | 0 => simp [tgt, bk]; omega
   | 1 => simp [tgt, bk]
   | 2 => simp [tgt, bk]
   | _ + 3 => simp [tgt, bk]; omega
  have e1 : mn (rd [x, y] 1) (rd [(tgt s x y).1, (tgt s x y).2] 1) = (bk s x y).f1 := by
   show mn y (tgt s x y).2 = _
   unfold mn
   match s with
   | 0 => simp [tgt, bk]
   | 1 => simp [tgt, bk]; omega
   | 2 => simp [tgt, bk]; omega
   | _ + 3 => simp [tgt, bk]
  have e2 : (rd [x, y] 0 == rd [(tgt s x y).1, (tgt s x y).2] 0) = (bk s x y).f2 := by
   show (x == (tgt s x y).1) = _
   match s with
   | 0 => simp [tgt, bk]; omega
   | 1 => simp [tgt, bk]
   | 2 => simp [tgt, bk]
   | _ + 3 => simp [tgt, bk]; omega
  rw [e0, e1, e2]
  exact Ev.bind (isClosed_ev w h l hl (bk s x y)) (Ev.now _)
namespace Bfs
inductive Way (nb : Nat → List Nat) : Nat → Nat → Nat → Prop
  | here (u : Nat) : Way nb 0 u u
  | step {n u v w : Nat} : Way nb n u v → w ∈ nb v → Way nb (n + 1) u w
theorem Way.cons {nb : Nat → List Nat} {n v w : Nat} (h : Way nb n v w) : ∀ {u : Nat}, v ∈ nb u → Way nb (n + 1) u w := by
 induction h with
 | here x => exact fun hu => .step (.here _) hu
 | step _ hw ih => exact fun hu => .step (ih hu) hw
theorem Way.trans {nb : Nat → List Nat} {n m u v w : Nat} (h : Way nb n u v) (k : Way nb m v w) : Way nb (n + m) u w := by
 induction k with
 | here _ => exact h
 | step _ hw ih => exact .step (ih h) hw
theorem Way.zero {nb : Nat → List Nat} {u v : Nat} (h : Way nb 0 u v) : u = v := by cases h; rfl
theorem Way.lt {nb : Nat → List Nat} {N : Nat} (hN : ∀ v, v < N → ∀ w ∈ nb v, w < N) {n u v : Nat} (h : Way nb n u v) (hu : u < N) : v < N := by
 induction h with
 | here _ => exact hu
 | step _ hw ih => exact hN _ (ih hu) _ hw
theorem Way.turn {nb : Nat → List Nat} {N : Nat} (hN : ∀ v, v < N → ∀ w ∈ nb v, w < N) (hs : ∀ v, v < N → ∀ w ∈ nb v, v ∈ nb w) {n u v : Nat} (h : Way nb n u v) (hu : u < N) : Way nb n v u := by
 induction h with
 | here _ => exact .here _
 | step hv hw ih => exact (ih hu).cons (hs _ (hv.lt hN hu) _ hw)
def fa (far : List Int) (v : Nat) : Int := far.getD v 0
theorem fa_set {far : List Int} {w : Nat} (hw : w < far.length) (x : Int) (v : Nat) : fa (far.set w x) v = if v = w then x else fa far v := by
 unfold fa
 by_cases e : v = w
 ·subst e; simp [hw]
 ·rw [if_neg e, List.getD_eq_getElem?_getD, List.getD_eq_getElem?_getD, List.getElem?_set_ne (Ne.symm e)]
def visit (d : Int) : List Nat → List Int × List Nat → List Int × List Nat
 | [], s => s
 | n :: ns, s => visit d ns (if fa s.1 n < 0 then (s.1.set n (d + 1), s.2 ++ [n]) else s)
def run (nb : Nat → List Nat) : Nat → Nat → List Int × List Nat → Option (List Int)
 | 0, _, _ => none
 | f + 1, k, s => if k < s.2.length then run nb f (k + 1) (visit (fa s.1 (s.2.getD k 0)) (nb (s.2.getD k 0)) s) else some s.1
structure Mid (nb : Nat → List Nat) (N s : Nat) (d : Int) (k : Nat) (p : List Nat) (st : List Int × List Nat) : Prop where
  len : st.1.length = N
  qN : ∀ v ∈ st.2, v < N
  mem : ∀ v, v < N → (v ∈ st.2 ∧ 0 ≤ fa st.1 v ∨ v ∉ st.2 ∧ fa st.1 v = -1)
  way : ∀ v ∈ st.2, Way nb (fa st.1 v).toNat s v
  mono : (st.2.map (fa st.1)).Pairwise (· ≤ ·)
  near : ∀ v ∈ st.2, fa st.1 v ≤ d + 1
  src : s ∈ st.2 ∧ fa st.1 s = 0
  done : ∀ u ∈ st.2.take k, ∀ w ∈ nb u, w ∈ st.2 ∧ fa st.1 w ≤ fa st.1 u + 1
  seen : ∀ w ∈ p, w ∈ st.2 ∧ fa st.1 w ≤ d + 1
  nod : st.2.Nodup
  small : ∀ v ∈ st.2, fa st.1 v < st.2.length
theorem Mid.put {nb : Nat → List Nat} {N s : Nat} {d : Int} {k : Nat} {p : List Nat} {st : List Int × List Nat} (h : Mid nb N s d k p st) (hd : 0 ≤ d) (hk : k < st.2.length) (at_ : Nat) (hat : at_ ∈ st.2 ∧ fa st.1 at_ = d) (n : Nat) (hn : n ∈ nb at_) (hnN : n < N) :
  Mid nb N s d k (n :: p) (if fa st.1 n < 0 then (st.1.set n (d + 1), st.2 ++ [n]) else st) ∧ (∃ t, (if fa st.1 n < 0 then (st.1.set n (d + 1), st.2 ++ [n]) else st).2 = st.2 ++ t) ∧ fa (if fa st.1 n < 0 then (st.1.set n (d + 1), st.2 ++ [n]) else st).1 at_ = d := by
 by_cases hneg : fa st.1 n < 0
 ·rw [if_pos hneg]
  have hnq : n ∉ st.2 := by
   rcases h.mem n hnN with ⟨_, h2⟩ | ⟨h1, _⟩
   ·omega
   ·exact h1
  have hset : ∀ v, fa (st.1.set n (d + 1)) v = if v = n then d + 1 else fa st.1 v := fa_set (by rw [h.len]; exact hnN) _
  have hold : ∀ v ∈ st.2, fa (st.1.set n (d + 1)) v = fa st.1 v := fun v hv => by rw [hset, if_neg (fun (e : v = n) => hnq (e ▸ hv))]
  refine ⟨⟨by simp [h.len], ?_, ?_, ?_, ?_, ?_, ?_, ?_, ?_, ?_, ?_⟩, ⟨[n], rfl⟩, by rw [hold _ hat.1]; exact hat.2⟩
  ·intro v hv
   rcases List.mem_append.1 hv with hv | hv
   ·exact h.qN v hv
   ·rw [List.mem_singleton.1 hv]; exact hnN
  ·intro v hv
   simp only [hset, List.mem_append, List.mem_singleton]
   by_cases e : v = n
   ·left; rw [if_pos e]; exact ⟨.inr e, by omega⟩
   ·rw [if_neg e]
    rcases h.mem v hv with ⟨h1, h2⟩ | ⟨h1, h2⟩
    ·exact .inl ⟨.inl h1, h2⟩
    ·exact .inr ⟨fun e' => e'.elim h1 e, h2⟩
  ·intro v hv
   rcases List.mem_append.1 hv with hv | hv
   ·simp only [hold v hv]; exact h.way v hv
   ·obtain rfl := List.mem_singleton.1 hv
    simp only [hset, if_true]
    rw [Int.toNat_add hd (by omega)]
    have hw := h.way at_ hat.1
    rw [hat.2] at hw
    exact .step hw hn
  ·simp only [List.map_append, List.map_cons, List.map_nil]
   rw [List.pairwise_append]
   refine ⟨?_, List.pairwise_singleton _ _, ?_⟩
   ·rw [List.map_congr_left hold]; exact h.mono
   ·intro a ha b hb
    obtain ⟨v, hv, rfl⟩ := List.mem_map.1 ha
    rw [List.mem_singleton.1 hb, hold v hv, hset, if_pos rfl]
    exact h.near v hv
  ·intro v hv
   rcases List.mem_append.1 hv with hv | hv
   ·simp only [hold v hv]; exact h.near v hv
   ·obtain rfl := List.mem_singleton.1 hv
    simp only [hset, if_true]; omega
  ·exact ⟨List.mem_append_left _ h.src.1, by simp only [hold s h.src.1]; exact h.src.2⟩
  ·intro u hu w hw
   simp only [List.take_append_of_le_length (Nat.le_of_lt hk)] at hu
   have huq := List.mem_of_mem_take hu
   obtain ⟨h1, h2⟩ := h.done u hu w hw
   exact ⟨List.mem_append_left _ h1, by simp only [hold w h1, hold u huq]; exact h2⟩
  ·intro w hw
   rcases List.mem_cons.1 hw with rfl | hw
   ·exact ⟨by simp, by simp only [hset, if_true]; omega⟩
   ·obtain ⟨h1, h2⟩ := h.seen w hw
    exact ⟨List.mem_append_left _ h1, by simp only [hold w h1]; exact h2⟩
  ·exact List.nodup_append.2 ⟨h.nod, by simp, fun a ha b hb => by rw [List.mem_singleton.1 hb]; exact fun e => hnq (e ▸ ha)⟩
  ·intro v hv
   simp only [List.length_append, List.length_singleton]
   rcases List.mem_append.1 hv with hv | hv
   ·simp only [hold v hv]; have := h.small v hv; omega
   ·obtain rfl := List.mem_singleton.1 hv
    simp only [hset, if_true]
    have := h.small at_ hat.1
    rw [hat.2] at this
    omega
 ·rw [if_neg hneg]
  have hnq : n ∈ st.2 := by
   rcases h.mem n hnN with ⟨h1, _⟩ | ⟨_, h2⟩
   ·exact h1
   ·omega
  refine ⟨{ h with seen := fun w hw => ?_ }, ⟨[], by simp⟩, hat.2⟩
  rcases List.mem_cons.1 hw with rfl | hw
  ·exact ⟨hnq, h.near _ hnq⟩
  ·exact h.seen w hw
theorem Mid.visit {nb : Nat → List Nat} {N s : Nat} {d : Int} {k : Nat} (hd : 0 ≤ d) (at_ : Nat) (hatN : ∀ w ∈ nb at_, w < N) : ∀ (ns p : List Nat) (st : List Int × List Nat), Mid nb N s d k p st → k < st.2.length → at_ ∈ st.2 ∧ fa st.1 at_ = d → (∀ w ∈ ns, w ∈ nb at_) →
  ∃ p', (∀ w, w ∈ p' ↔ w ∈ ns ∨ w ∈ p) ∧ Mid nb N s d k p' (visit d ns st) ∧ (∃ t, (visit d ns st).2 = st.2 ++ t) ∧ fa (visit d ns st).1 at_ = d
 | [], p, st, h, hk, hat, _ => ⟨p, by simp, h, ⟨[], by simp [Bfs.visit]⟩, hat.2⟩
 | n :: ns, p, st, h, hk, hat, hns => by
  obtain ⟨h1, ⟨t1, ht1⟩, h3⟩ := h.put hd hk at_ hat n (hns n (by simp)) (hatN n (hns n (by simp)))
  obtain ⟨p', hp', h4, ⟨t2, ht2⟩, h5⟩ := Mid.visit hd at_ hatN ns (n :: p) _ h1 (by rw [ht1]; simp; omega) ⟨by rw [ht1]; exact List.mem_append_left _ hat.1, h3⟩ (fun w hw => hns w (by simp [hw]))
  refine ⟨p', fun w => ?_, h4, ⟨t1 ++ t2, ?_⟩, h5⟩
  ·rw [hp' w]; simp only [List.mem_cons]
   constructor
   ·rintro (h | h | h)
    ·exact .inl (.inr h)
    ·exact .inl (.inl h)
    ·exact .inr h
   ·rintro ((h | h) | h)
    ·exact .inr (.inl h)
    ·exact .inl h
    ·exact .inr (.inr h)
  ·rw [← List.append_assoc, ← ht1]; exact ht2
structure Inv (nb : Nat → List Nat) (N s k : Nat) (st : List Int × List Nat) : Prop where
  len : st.1.length = N
  qN : ∀ v ∈ st.2, v < N
  mem : ∀ v, v < N → (v ∈ st.2 ∧ 0 ≤ fa st.1 v ∨ v ∉ st.2 ∧ fa st.1 v = -1)
  way : ∀ v ∈ st.2, Way nb (fa st.1 v).toNat s v
  mono : (st.2.map (fa st.1)).Pairwise (· ≤ ·)
  near : ∀ v ∈ st.2, k < st.2.length → fa st.1 v ≤ fa st.1 (st.2.getD k 0) + 1
  src : s ∈ st.2 ∧ fa st.1 s = 0
  done : ∀ u ∈ st.2.take k, ∀ w ∈ nb u, w ∈ st.2 ∧ fa st.1 w ≤ fa st.1 u + 1
  nod : st.2.Nodup
  kle : k ≤ st.2.length
  small : ∀ v ∈ st.2, fa st.1 v < st.2.length
theorem getD_get {q : List Nat} {k : Nat} (h : k < q.length) : q[k] = q.getD k 0 := by rw [List.getD_eq_getElem?_getD, List.getElem?_eq_getElem h]; rfl
theorem getD_mem {q : List Nat} {k : Nat} (h : k < q.length) : q.getD k 0 ∈ q := by
 rw [List.getD_eq_getElem?_getD, List.getElem?_eq_getElem h]; exact List.getElem_mem h
theorem Inv.at_ {nb : Nat → List Nat} {N s k : Nat} {st : List Int × List Nat} (h : Inv nb N s k st) (hk : k < st.2.length) : st.2.getD k 0 < N ∧ 0 ≤ fa st.1 (st.2.getD k 0) := by
 have hm := getD_mem hk
 refine ⟨h.qN _ hm, ?_⟩
 rcases h.mem _ (h.qN _ hm) with ⟨_, h2⟩ | ⟨h1, _⟩
 ·exact h2
 ·exact absurd hm h1
theorem Inv.round {nb : Nat → List Nat} {N s k : Nat} {st : List Int × List Nat} (hN : ∀ v, v < N → ∀ w ∈ nb v, w < N) (h : Inv nb N s k st) (hk : k < st.2.length) : Inv nb N s (k + 1) (visit (fa st.1 (st.2.getD k 0)) (nb (st.2.getD k 0)) st) := by
 have hm := getD_mem hk
 obtain ⟨h1, h0⟩ := h.at_ hk
 have hM : Mid nb N s (fa st.1 (st.2.getD k 0)) k [] st := ⟨h.len, h.qN, h.mem, h.way, h.mono, fun v hv => h.near v hv hk, h.src, h.done, (fun w hw => by cases hw), h.nod, h.small⟩
 obtain ⟨p', hp', h4, ⟨t, ht⟩, h5⟩ := Mid.visit h0 (st.2.getD k 0) (hN _ h1) (nb (st.2.getD k 0)) [] st hM hk ⟨hm, rfl⟩ (fun w hw => hw)
 have hsame : (visit (fa st.1 (st.2.getD k 0)) (nb (st.2.getD k 0)) st).2.getD k 0 = st.2.getD k 0 := by
  rw [ht, List.getD_eq_getElem?_getD, List.getD_eq_getElem?_getD, List.getElem?_append_left hk]
 have hlt : k < (visit (fa st.1 (st.2.getD k 0)) (nb (st.2.getD k 0)) st).2.length := by rw [ht]; simp; omega
 refine ⟨h4.len, h4.qN, h4.mem, h4.way, h4.mono, fun v hv hk1 => ?_, h4.src, fun u hu w hw => ?_, h4.nod, by omega, h4.small⟩
 ·have h6 := h4.near v hv
  have h7 : fa (visit (fa st.1 (st.2.getD k 0)) (nb (st.2.getD k 0)) st).1 (st.2.getD k 0) ≤ fa (visit (fa st.1 (st.2.getD k 0)) (nb (st.2.getD k 0)) st).1 ((visit (fa st.1 (st.2.getD k 0)) (nb (st.2.getD k 0)) st).2.getD (k + 1) 0) := by
   have hp := List.pairwise_iff_getElem.1 h4.mono k (k + 1) (by simpa using hlt) (by simpa using hk1) (by omega)
   rw [List.getElem_map, List.getElem_map] at hp
   have e1 : (visit (fa st.1 (st.2.getD k 0)) (nb (st.2.getD k 0)) st).2[k] = st.2.getD k 0 := by
    exact (getD_get hlt).trans hsame
   have e2 : (visit (fa st.1 (st.2.getD k 0)) (nb (st.2.getD k 0)) st).2[k + 1] = (visit (fa st.1 (st.2.getD k 0)) (nb (st.2.getD k 0)) st).2.getD (k + 1) 0 := by
    exact getD_get hk1
   rw [e1, e2] at hp
   exact hp
  rw [h5] at h7
  omega
 ·rw [List.take_succ_eq_append_getElem hlt] at hu
  rcases List.mem_append.1 hu with hu | hu
  ·exact h4.done u hu w hw
  ·have e1 : (visit (fa st.1 (st.2.getD k 0)) (nb (st.2.getD k 0)) st).2[k] = st.2.getD k 0 := by
    exact (getD_get hlt).trans hsame
   rw [List.mem_singleton.1 hu, e1] at hw ⊢
   have := h4.seen w ((hp' w).2 (.inl hw))
   rw [h5]
   exact this
structure Dist (nb : Nat → List Nat) (N s : Nat) (far : List Int) : Prop where
  len : far.length = N
  all : ∀ v, v < N → (fa far v = -1 ∧ ∀ n, ¬ Way nb n s v) ∨ (0 ≤ fa far v ∧ Way nb (fa far v).toNat s v ∧ ∀ n : Nat, Way nb n s v → fa far v ≤ n)
theorem Inv.fin {nb : Nat → List Nat} {N s k : Nat} {st : List Int × List Nat} (h : Inv nb N s k st) (hk : ¬ k < st.2.length) : Dist nb N s st.1 := by
 have hfull : st.2.take k = st.2 := List.take_of_length_le (by omega)
 have key : ∀ (n v : Nat), Way nb n s v → v ∈ st.2 ∧ fa st.1 v ≤ n := by
  intro n v hw
  induction hw with
  | here _ => exact ⟨h.src.1, by rw [h.src.2]; omega⟩
  | @step n s v w hv hw ih =>
   obtain ⟨h1, h2⟩ := ih h
   obtain ⟨h3, h4⟩ := h.done v (by rw [hfull]; exact h1) w hw
   exact ⟨h3, by omega⟩
 refine ⟨h.len, fun v hv => ?_⟩
 rcases h.mem v hv with ⟨h1, h2⟩ | ⟨h1, h2⟩
 ·exact .inr ⟨h2, h.way v h1, fun n hw => (key n v hw).2⟩
 ·exact .inl ⟨h2, fun n hw => h1 (key n v hw).1⟩
theorem nodup_le {N : Nat} : ∀ (q : List Nat), q.Nodup → (∀ v ∈ q, v < N) → q.length ≤ N := by
 intro q hq hN
 have : q.length ≤ (List.range N).length := List.Nodup.length_le_of_subset hq (fun v hv => List.mem_range.2 (hN v hv))
 simpa using this
theorem run_ends {nb : Nat → List Nat} {N s : Nat} (hN : ∀ v, v < N → ∀ w ∈ nb v, w < N) : ∀ (f k : Nat) (st : List Int × List Nat), Inv nb N s k st → N + 1 ≤ f + k → ∃ far, run nb f k st = some far ∧ Dist nb N s far
 | 0, k, st, h, hf => by
  have h1 := h.kle
  have h2 := nodup_le st.2 h.nod h.qN
  omega
 | f + 1, k, st, h, hf => by
  unfold run
  by_cases hk : k < st.2.length
  ·rw [if_pos hk]
   exact run_ends hN f (k + 1) _ (h.round hN hk) (by omega)
  ·rw [if_neg hk]
   exact ⟨_, rfl, h.fin hk⟩
def start (N s : Nat) : List Int × List Nat := ((List.replicate N (-1)).set s 0, [s])
theorem start_inv (nb : Nat → List Nat) {N s : Nat} (hs : s < N) : Inv nb N s 0 (start N s) := by
 have hset : ∀ v, fa (start N s).1 v = if v = s then 0 else fa (List.replicate N (-1)) v := fa_set (by simpa using hs) 0
 have hrep : ∀ v, v < N → fa (List.replicate N (-1)) v = -1 := fun v hv => by unfold fa; simp [hv]
 have hss : fa (start N s).1 s = 0 := by rw [hset, if_pos rfl]
 refine ⟨by simp [start], fun v hv => by rw [List.mem_singleton.1 hv]; exact hs, fun v hv => ?_, fun v hv => ?_, List.pairwise_singleton _ _, fun v hv _ => ?_, ⟨by simp [start], hss⟩, fun u hu => by simp at hu, by simp [start], by simp, fun v hv => by rw [List.mem_singleton.1 hv, hss]; simp [start]⟩
 ·by_cases e : v = s
  ·left; rw [e, hss]; exact ⟨by simp [start], by omega⟩
  ·right; rw [hset, if_neg e, hrep v hv]; exact ⟨by simp [start, e], rfl⟩
 ·rw [List.mem_singleton.1 hv, hss]; exact .here _
 ·rw [List.mem_singleton.1 hv]; simp only [start, List.getD_cons_zero]; omega
theorem Dist.uniq {nb : Nat → List Nat} {N s : Nat} {far far' : List Int} (h : Dist nb N s far) (h' : Dist nb N s far') : far = far' := by
 refine List.ext_getElem (h.len.trans h'.len.symm) fun v h1 h2 => ?_
 have e1 : far[v] = fa far v := by unfold fa; simp [h1]
 have e2 : far'[v] = fa far' v := by unfold fa; simp [h2]
 rw [e1, e2]
 have hv : v < N := by rw [← h.len]; exact h1
 rcases h.all v hv with ⟨a1, a2⟩ | ⟨a1, a2, a3⟩ <;> rcases h'.all v hv with ⟨b1, b2⟩ | ⟨b1, b2, b3⟩
 ·rw [a1, b1]
 ·exact absurd b2 (a2 _)
 ·exact absurd a2 (b2 _)
 ·have := a3 _ b2; have := b3 _ a2; omega
theorem Dist.turn {nb : Nat → List Nat} {N s t : Nat} {far far' : List Int} (hN : ∀ v, v < N → ∀ w ∈ nb v, w < N) (hsym : ∀ v, v < N → ∀ w ∈ nb v, v ∈ nb w) (hs : s < N) (ht : t < N) (h : Dist nb N s far) (h' : Dist nb N t far') : fa far t = fa far' s := by
 rcases h.all t ht with ⟨a1, a2⟩ | ⟨a1, a2, a3⟩ <;> rcases h'.all s hs with ⟨b1, b2⟩ | ⟨b1, b2, b3⟩
 ·rw [a1, b1]
 ·exact absurd (b2.turn hN hsym ht) (a2 _)
 ·exact absurd (a2.turn hN hsym hs) (b2 _)
 ·have := a3 _ (b2.turn hN hsym ht); have := b3 _ (a2.turn hN hsym hs); omega
end Bfs
def xN (h : Int) (v : Nat) : Int := (v : Int) / h
def yN (h : Int) (v : Nat) : Int := (v : Int) % h
def node (h x y : Int) : Nat := (x * h + y).toNat
theorem node_int {w h x y : Int} (hh : 1 ≤ h) (hx : 0 ≤ x ∧ x ≤ w - 1) (hy : 0 ≤ y ∧ y ≤ h - 1) : ((node h x y : Nat) : Int) = x * h + y ∧ node h x y < (w * h).toNat := by
 have h1 : 0 ≤ x * h := Int.mul_nonneg hx.1 (by omega)
 have h2 : x * h ≤ (w - 1) * h := Int.mul_le_mul_of_nonneg_right hx.2 (by omega)
 rw [Int.sub_mul, Int.one_mul] at h2
 unfold node
 omega
theorem node_xy {w h x y : Int} (hh : 1 ≤ h) (hx : 0 ≤ x ∧ x ≤ w - 1) (hy : 0 ≤ y ∧ y ≤ h - 1) : xN h (node h x y) = x ∧ yN h (node h x y) = y := by
 have h1 := (node_int hh hx hy).1
 unfold xN yN
 rw [h1, Int.add_comm, Int.add_mul_ediv_right _ _ (by omega), Int.ediv_eq_zero_of_lt (by omega) (by omega), Int.add_mul_emod_self_right, Int.emod_eq_of_lt (by omega) (by omega)]
 exact ⟨by omega, rfl⟩
theorem xy_in {w h : Int} (hh : 1 ≤ h) {v : Nat} (hv : v < (w * h).toNat) : (0 ≤ xN h v ∧ xN h v ≤ w - 1) ∧ (0 ≤ yN h v ∧ yN h v ≤ h - 1) := by
 unfold xN yN
 have h1 := Int.ediv_nonneg (a := (v : Int)) (b := h) (by omega) (by omega)
 have h2 : (v : Int) / h < w := Int.ediv_lt_of_lt_mul (by omega) (by omega)
 have h3 := Int.emod_nonneg (v : Int) (b := h) (by omega)
 have h4 := Int.emod_lt_of_pos (v : Int) (b := h) (by omega)
 omega
theorem xy_node {w h : Int} (hh : 1 ≤ h) {v : Nat} (hv : v < (w * h).toNat) : node h (xN h v) (yN h v) = v := by
 unfold node xN yN
 have := Int.mul_ediv_add_emod (v : Int) h
 rw [Int.mul_comm] at this
 omega
def nbO (w h : Int) (l : List S58) (v s : Nat) : Option Nat := if okS w h l s (xN h v) (yN h v) = true then some (node h (tgt s (xN h v) (yN h v)).1 (tgt s (xN h v) (yN h v)).2) else none
def nbU (w h : Int) (l : List S58) (n v : Nat) : List Nat := (List.range n).filterMap (nbO w h l v)
def nb (w h : Int) (l : List S58) (v : Nat) : List Nat := nbU w h l 4 v
theorem okS_in {w h : Int} {l : List S58} {s : Nat} {x y : Int} (hk : okS w h l s x y = true) : (0 ≤ (tgt s x y).1 ∧ (tgt s x y).1 ≤ w - 1) ∧ (0 ≤ (tgt s x y).2 ∧ (tgt s x y).2 ≤ h - 1) := by
 unfold okS at hk
 exact inC_iff.1 ((Bool.and_eq_true _ _ ▸ hk).1)
theorem mem_nb {w h : Int} {l : List S58} {v u : Nat} : u ∈ nb w h l v ↔ ∃ s, s < 4 ∧ okS w h l s (xN h v) (yN h v) = true ∧ node h (tgt s (xN h v) (yN h v)).1 (tgt s (xN h v) (yN h v)).2 = u := by
 unfold nb nbU
 simp only [List.mem_filterMap, List.mem_range, nbO]
 constructor
 ·rintro ⟨s, hs, e⟩
  by_cases hk : okS w h l s (xN h v) (yN h v) = true
  ·rw [if_pos hk] at e; exact ⟨s, hs, hk, Option.some.inj e⟩
  ·rw [if_neg hk] at e; cases e
 ·rintro ⟨s, hs, hk, e⟩
  exact ⟨s, hs, by rw [if_pos hk, e]⟩
theorem nb_lt {w h : Int} (hh : 1 ≤ h) (l : List S58) (v : Nat) : ∀ u ∈ nb w h l v, u < (w * h).toNat := by
 intro u hu
 obtain ⟨s, _, hk, rfl⟩ := mem_nb.1 hu
 obtain ⟨h1, h2⟩ := okS_in hk
 exact (node_int hh h1 h2).2
def opp (s : Nat) : Nat := 3 - s
theorem okS_opp {w h : Int} (l : List S58) {s : Nat} (hs : s < 4) {x y : Int} (hx : 0 ≤ x ∧ x ≤ w - 1) (hy : 0 ≤ y ∧ y ≤ h - 1) (hk : okS w h l s x y = true) : okS w h l (opp s) (tgt s x y).1 (tgt s x y).2 = true ∧ tgt (opp s) (tgt s x y).1 (tgt s x y).2 = (x, y) := by
 have e1 : tgt (opp s) (tgt s x y).1 (tgt s x y).2 = (x, y) := by
  match s, hs with
  | 0, _ => simp [tgt, opp]
  | 1, _ => simp [tgt, opp]
  | 2, _ => simp [tgt, opp]
  | 3, _ => simp [tgt, opp]
 have e2 : bk (opp s) (tgt s x y).1 (tgt s x y).2 = bk s x y := by
  match s, hs with
  | 0, _ => simp [tgt, opp, bk]
  | 1, _ => simp [tgt, opp, bk]
  | 2, _ => simp [tgt, opp, bk]
  | 3, _ => simp [tgt, opp, bk]
 refine ⟨?_, e1⟩
 unfold okS at hk ⊢
 rw [e1, e2, Bool.and_eq_true] at *
 exact ⟨inC_iff.2 ⟨hx, hy⟩, hk.2⟩
theorem nb_sym {w h : Int} (hh : 1 ≤ h) (l : List S58) (v : Nat) (hv : v < (w * h).toNat) : ∀ u ∈ nb w h l v, v ∈ nb w h l u := by
 intro u hu
 obtain ⟨s, hs, hk, rfl⟩ := mem_nb.1 hu
 obtain ⟨h1, h2⟩ := okS_in hk
 obtain ⟨h3, h4⟩ := xy_in hh hv
 obtain ⟨k1, k2⟩ := okS_opp l hs h3 h4 hk
 obtain ⟨e1, e2⟩ := node_xy hh h1 h2
 refine mem_nb.2 ⟨opp s, by unfold opp; omega, ?_, ?_⟩
 ·rw [e1, e2]; exact k1
 ·rw [e1, e2, k2]; exact xy_node hh hv
theorem visit_append (d : Int) : ∀ (a b : List Nat) (st : List Int × List Nat), Bfs.visit d (a ++ b) st = Bfs.visit d b (Bfs.visit d a st)
 | [], _, _ => rfl
 | _ :: a, b, st => visit_append d a b _
structure Rd (N : Nat) (at_ : Nat) (d : Int) (m : Nat) (st : List Int × List Nat) : Prop where
  len : st.1.length = N
  q : st.2.length ≤ m
  fa : Bfs.fa st.1 at_ = d
  atN : at_ < N
theorem Rd.put {N at_ : Nat} {d : Int} {m : Nat} {st : List Int × List Nat} (h : Rd N at_ d m st) (hd : 0 ≤ d) (n : Nat) (hn : n < N) : Rd N at_ d (m + 1) (if Bfs.fa st.1 n < 0 then (st.1.set n (d + 1), st.2 ++ [n]) else st) := by
 by_cases hneg : Bfs.fa st.1 n < 0
 ·rw [if_pos hneg]
  refine ⟨by simp [h.len], by have := h.q; simp; omega, ?_, h.atN⟩
  rw [Bfs.fa_set (by rw [h.len]; exact hn), if_neg (fun e => by rw [← e, h.fa] at hneg; omega)]
  exact h.fa
 ·rw [if_neg hneg]
  exact ⟨h.len, by have := h.q; omega, h.fa, h.atN⟩
theorem far_step (w h : Int) (l : List S58) (hl : l.length ≤ 1048576) (hw : 1 ≤ w ∧ w ≤ 8) (hh : 1 ≤ h ∧ h ≤ 8) (v s : Nat) (hv : v < (w * h).toNat) (d : Int) (hd : 0 ≤ d ∧ d ≤ 1000) (m : Nat) (hm : m < 1000) (st : List Int × List Nat) (hr : Rd (w * h).toNat v d m st) :
  Ev (fun k => spec_avFar.step k w h l (v : Int) (sg s) (st.1, st.2.map Int.ofNat)) ((Bfs.visit d (nbO w h l v s).toList st).1, (Bfs.visit d (nbO w h l v s).toList st).2.map Int.ofNat) ∧ Rd (w * h).toNat v d (m + 1) (Bfs.visit d (nbO w h l v s).toList st) := by
 obtain ⟨hx, hy⟩ := xy_in hh.1 hv
 unfold spec_avFar.step nbO
 have hs := avStep_ev w h l hl hw hh s (xN h v) (yN h v) hx hy
 by_cases hk : okS w h l s (xN h v) (yN h v) = true
 ·rw [if_pos hk] at hs ⊢
  obtain ⟨h1, h2⟩ := okS_in hk
  obtain ⟨e1, e2⟩ := node_int hh.1 h1 h2
  generalize hg : tgt s (xN h v) (yN h v) = p at hs h1 h2 e1 e2
  obtain ⟨x, y⟩ := p
  simp only [] at hs h1 h2 e1 e2
  have hwh : w * h ≤ 8 * 8 := Int.le_trans (Int.mul_le_mul_of_nonneg_right hw.2 (by omega)) (Int.mul_le_mul_of_nonneg_left hh.2 (by omega))
  have hxh : 0 ≤ x * h := Int.mul_nonneg h1.1 (by omega)
  have ew : wrap64 (wrap64 (x * h) + y) = ((node h x y : Nat) : Int) := by
   rw [w64 (x := x * h) (by omega) (by omega), ← e1, w64 (by omega) (by omega)]
  have hlen := hr.len
  have hq := hr.q
  refine ⟨?_, by simpa [Bfs.visit] using hr.put hd.1 _ e2⟩
  refine Ev.bind hs ?_
  simp only [Option.toList, Bfs.visit]
  rw [ew]
  refine Ev.itet trivial (Ev.itet ⟨by omega, by omega, by simp; omega⟩ ?_)
  have er : rd st.1 ((node h x y : Nat) : Int) = Bfs.fa st.1 (node h x y) := rfl
  have ea : rd st.1 (v : Int) = d := hr.fa
  rw [er, ea, w64 (x := d + 1) (by omega) (by omega)]
  by_cases hneg : Bfs.fa st.1 (node h x y) < 0
  ·refine Ev.itet hneg ?_
   rw [if_pos hneg]
   simpa using Ev.now _
  ·refine Ev.itef hneg ?_
   rw [if_neg hneg]
   exact Ev.now _
 ·rw [if_neg hk] at hs ⊢
  refine ⟨Ev.bind hs (Ev.itef (by simp) (Ev.now _)), ?_⟩
  exact ⟨hr.len, by have := hr.q; simp only [Option.toList, Bfs.visit]; omega, hr.fa, hr.atN⟩
theorem nbU_succ (w h : Int) (l : List S58) (n v : Nat) : nbU w h l (n + 1) v = nbU w h l n v ++ (nbO w h l v n).toList := by
 unfold nbU
 rw [List.range_succ, List.filterMap_append]
 congr 1
theorem far_steps (w h : Int) (l : List S58) (hl : l.length ≤ 1048576) (hw : 1 ≤ w ∧ w ≤ 8) (hh : 1 ≤ h ∧ h ≤ 8) (v : Nat) (hv : v < (w * h).toNat) (d : Int) (hd : 0 ≤ d ∧ d ≤ 1000) (m : Nat) (hm : m < 900) (st : List Int × List Nat) (hr : Rd (w * h).toNat v d m st) :
  ∀ j, j ≤ 4 → Ev (fun k => spec_avFar.steps k w h l (v : Int) j (st.1, st.2.map Int.ofNat)) ((Bfs.visit d (nbU w h l j v) st).1, (Bfs.visit d (nbU w h l j v) st).2.map Int.ofNat) ∧ Rd (w * h).toNat v d (m + j) (Bfs.visit d (nbU w h l j v) st)
 | 0, _ => ⟨Ev.now _, hr⟩
 | j + 1, hj => by
  obtain ⟨h1, h2⟩ := far_steps w h l hl hw hh v hv d hd m hm st hr j (by omega)
  obtain ⟨h3, h4⟩ := far_step w h l hl hw hh v j hv d hd (m + j) (by omega) _ h2
  rw [nbU_succ, visit_append]
  exact ⟨Ev.bind h1 h3, h4⟩
theorem wh_le {w h : Int} (hw : 1 ≤ w ∧ w ≤ 8) (hh : 1 ≤ h ∧ h ≤ 8) : 1 ≤ w * h ∧ w * h ≤ 64 := by
 have h1 : w * h ≤ 8 * 8 := Int.le_trans (Int.mul_le_mul_of_nonneg_right hw.2 (by omega)) (Int.mul_le_mul_of_nonneg_left hh.2 (by omega))
 have h2 : 1 * 1 ≤ w * h := Int.mul_le_mul hw.1 hh.1 (by omega) (by omega)
 omega
theorem Inv_Rd {w h : Int} (hw : 1 ≤ w ∧ w ≤ 8) (hh : 1 ≤ h ∧ h ≤ 8) {nbf : Nat → List Nat} {s k : Nat} {st : List Int × List Nat} (hi : Bfs.Inv nbf (w * h).toNat s k st) (hk : k < st.2.length) : Rd (w * h).toNat (st.2.getD k 0) (Bfs.fa st.1 (st.2.getD k 0)) 64 st ∧ 0 ≤ Bfs.fa st.1 (st.2.getD k 0) ∧ Bfs.fa st.1 (st.2.getD k 0) ≤ 1000 := by
 have h1 := wh_le hw hh
 have h2 := Bfs.nodup_le st.2 hi.nod hi.qN
 obtain ⟨h3, h4⟩ := hi.at_ hk
 have h5 := hi.small _ (Bfs.getD_mem hk)
 exact ⟨⟨hi.len, by omega, rfl, h3⟩, h4, by omega⟩
theorem far_run (w h : Int) (l : List S58) (hl : l.length ≤ 1048576) (hw : 1 ≤ w ∧ w ≤ 8) (hh : 1 ≤ h ∧ h ≤ 8) (s : Nat) (far : List Int) : ∀ (f i : Nat) (st : List Int × List Nat), Bfs.Inv (nb w h l) (w * h).toNat s i st → Bfs.run (nb w h l) f i st = some far → Ev (fun k => spec_avFar.l1 w h l k i (st.1, st.2.map Int.ofNat)) far
 | 0, i, st, hi, he => by cases he
 | f + 1, i, st, hi, he => by
  unfold Bfs.run at he
  refine Ev.succ ?_
  simp only [spec_avFar.l1]
  by_cases hk : i < st.2.length
  ·rw [if_pos hk] at he
   obtain ⟨h1, h2, h3⟩ := Inv_Rd hw hh hi hk
   have er : rd (st.2.map Int.ofNat) (i : Int) = ((st.2.getD i 0 : Nat) : Int) := by
    unfold rd
    simp [hk]
   have ih := far_run w h l hl hw hh s far f (i + 1) _ (hi.round (fun v _ => nb_lt hh.1 l v) hk) he
   obtain ⟨h4, _⟩ := far_steps w h l hl hw hh _ h1.atN _ ⟨h2, h3⟩ 64 (by omega) st h1 4 (by omega)
   have hN := h1.atN
   have hlen := h1.len
   rw [er]
   exact Ev.itet (by simpa using hk) (Ev.itet (by omega) (Ev.bind h4 ih))
  ·rw [if_neg hk] at he
   obtain rfl := Option.some.inj he
   exact Ev.itef (by simpa using hk) (Ev.now _)
theorem avFar_ev (w h : Int) (l : List S58) (hl : l.length ≤ 1048576) (hw : 1 ≤ w ∧ w ≤ 8) (hh : 1 ≤ h ∧ h ≤ 8) (x y : Int) (hx : 0 ≤ x ∧ x ≤ w - 1) (hy : 0 ≤ y ∧ y ≤ h - 1) : ∃ far, Ev (fun k => spec_avFar.f k w h l [x, y]) far ∧ Bfs.Dist (nb w h l) (w * h).toNat (node h x y) far := by
 obtain ⟨e1, e2⟩ := node_int hh.1 hx hy
 obtain ⟨far, h1, h2⟩ := Bfs.run_ends (nb := nb w h l) (fun v _ => nb_lt hh.1 l v) ((w * h).toNat + 1) 0 _ (Bfs.start_inv (nb w h l) e2) (by omega)
 refine ⟨far, ?_, h2⟩
 have h3 := far_run w h l hl hw hh _ far _ 0 _ (Bfs.start_inv (nb w h l) e2) h1
 unfold spec_avFar.f
 have hok : spec_avFar.ok w h [x, y] = true := by
  unfold spec_avFar.ok
  rw [show rd [x, y] 0 = x from rfl, show rd [x, y] 1 = y from rfl]
  simp only [Bool.and_eq_true, decide_eq_true_eq]
  exact ⟨hw, hh, rfl, hx, hy⟩
 refine Ev.itet hok ?_
 rw [show rd [x, y] 0 = x from rfl, show rd [x, y] 1 = y from rfl, ← e1]
 exact h3
def rows (w h : Int) (far : List Int) : List (List Int) := (List.range w.toNat).map fun i => (List.range h.toNat).map fun j => Bfs.fa far (i * h.toNat + j)
theorem rows_row (w h : Int) (far : List Int) (i : Nat) (hi : i < w.toNat) : (rows w h far).getD i [] = (List.range h.toNat).map fun j => Bfs.fa far (i * h.toNat + j) := by
 unfold rows
 simp [hi]
theorem node_nat {w h x y : Int} (hh : 1 ≤ h) (hx : 0 ≤ x ∧ x ≤ w - 1) (hy : 0 ≤ y ∧ y ≤ h - 1) : node h x y = x.toNat * h.toNat + y.toNat := by
 have h1 := (node_int hh hx hy).1
 have e : x * h = ((x.toNat * h.toNat : Nat) : Int) := by rw [Int.natCast_mul, Int.toNat_of_nonneg hx.1, Int.toNat_of_nonneg (by omega)]
 omega
theorem rows_rd2 {w h x y : Int} (hh : 1 ≤ h) (far : List Int) (hx : 0 ≤ x ∧ x ≤ w - 1) (hy : 0 ≤ y ∧ y ≤ h - 1) : impl_distancesTo.rd2 (rows w h far) x y = Bfs.fa far (node h x y) := by
 unfold impl_distancesTo.rd2
 rw [rows_row w h far _ (by omega), node_nat hh hx hy]
 unfold rd
 have : y.toNat < h.toNat := by omega
 simp [this]
theorem node_inj {w h x y x' y' : Int} (hh : 1 ≤ h) (hx : 0 ≤ x ∧ x ≤ w - 1) (hy : 0 ≤ y ∧ y ≤ h - 1) (hx' : 0 ≤ x' ∧ x' ≤ w - 1) (hy' : 0 ≤ y' ∧ y' ≤ h - 1) (e : node h x y = node h x' y') : x = x' ∧ y = y' := by
 have h1 := node_xy hh hx hy
 have h2 := node_xy hh hx' hy'
 rw [e] at h1
 exact ⟨h1.1.symm.trans h2.1, h1.2.symm.trans h2.2⟩
theorem rows_set2 {w h x y : Int} (hh : 1 ≤ h) (far : List Int) (hlen : far.length = (w * h).toNat) (hx : 0 ≤ x ∧ x ≤ w - 1) (hy : 0 ≤ y ∧ y ≤ h - 1) (v : Int) : impl_distancesTo.set2 (rows w h far) x y v = rows w h (far.set (node h x y) v) := by
 have hN := (node_int hh hx hy).2
 have hfa := Bfs.fa_set (far := far) (w := node h x y) (by rw [hlen]; exact hN) v
 unfold impl_distancesTo.set2
 rw [rows_row w h far _ (by omega)]
 refine List.ext_getElem (by simp [rows]) fun i h1 h2 => ?_
 have hi : i < w.toNat := by simpa [rows] using h2
 have er : (rows w h (far.set (node h x y) v))[i] = (List.range h.toNat).map fun j => Bfs.fa (far.set (node h x y) v) (i * h.toNat + j) := by simp [rows]
 rw [er, List.getElem_set]
 have hnode : ∀ j : Nat, j < h.toNat → i * h.toNat + j = node h (i : Int) (j : Int) := fun j hj => by
  have := node_nat (w := w) hh (x := (i : Int)) (y := (j : Int)) (by omega) (by omega)
  simpa using this.symm
 by_cases e : x.toNat = i
 ·rw [if_pos e]
  refine List.ext_getElem (by simp) fun j h3 h4 => ?_
  have hj : j < h.toNat := by simpa using h4
  rw [List.getElem_set]
  simp only [List.getElem_map, List.getElem_range]
  rw [hfa, hnode j hj]
  by_cases ej : y.toNat = j
  ·rw [if_pos ej, if_pos (by rw [← e, ← ej, Int.toNat_of_nonneg hx.1, Int.toNat_of_nonneg hy.1])]
  ·rw [if_neg ej, if_neg (fun e' => ej (by have := (node_inj hh (by omega) (by omega) hx hy e').2; omega)), ← hnode j hj, e]
 ·rw [if_neg e]
  have er2 : (rows w h far)[i]'(by simpa [rows] using hi) = (List.range h.toNat).map fun j => Bfs.fa far (i * h.toNat + j) := by simp [rows]
  rw [er2]
  refine List.map_congr_left fun j hj => ?_
  have hj := List.mem_range.1 hj
  rw [hfa, hnode j hj, if_neg (fun e' => e (by have := (node_inj hh (by omega) (by omega) hx hy e').1; omega))]
theorem rows_shape (w h : Int) (hw : 1 ≤ w) (hh : 1 ≤ h) (far : List Int) : impl_distancesTo.shape w h (rows w h far) = true := by
 unfold impl_distancesTo.shape rows
 simp only [Bool.and_eq_true, decide_eq_true_eq, List.all_eq_true, List.length_map, List.length_range, List.mem_map, List.mem_range]
 refine ⟨by omega, ?_⟩
 rintro r ⟨i, _, rfl⟩
 simp
 omega
def pr (h : Int) (v : Nat) : List Int := [xN h v, yN h v]
theorem dist_step (w h : Int) (l : List S58) (hl : l.length ≤ 1048576) (hw : 1 ≤ w ∧ w ≤ 8) (hh : 1 ≤ h ∧ h ≤ 8) (v s : Nat) (hs : s < 4) (hv : v < (w * h).toNat) (d : Int) (hd : 0 ≤ d ∧ d ≤ 1000) (m : Nat) (hm : m < 1000) (st : List Int × List Nat) (hr : Rd (w * h).toNat v d m st) :
  Ev (fun k => impl_distancesTo.step k w h l (xN h v) (yN h v) (s : Int) (rows w h st.1, st.2.map (pr h))) (rows w h (Bfs.visit d (nbO w h l v s).toList st).1, (Bfs.visit d (nbO w h l v s).toList st).2.map (pr h)) ∧ Rd (w * h).toNat v d (m + 1) (Bfs.visit d (nbO w h l v s).toList st) := by
 obtain ⟨hx, hy⟩ := xy_in hh.1 hv
 have hc := can_ev w h l hl hw hh s hs (xN h v) (yN h v) hx hy
 unfold impl_distancesTo.step nbO
 simp only [moved_f s hs (xN h v) (yN h v) (by omega) (by omega), Option.bind_some]
 have ei : impl_stepIn.in_ w h (rd [(tgt s (xN h v) (yN h v)).1, (tgt s (xN h v) (yN h v)).2] 0) (rd [(tgt s (xN h v) (yN h v)).1, (tgt s (xN h v) (yN h v)).2] 1) = inC w h (tgt s (xN h v) (yN h v)) := by
  unfold impl_stepIn.in_ inC
  rw [w64 (x := w - 1) (by omega) (by omega), w64 (x := h - 1) (by omega) (by omega)]
  rfl
 rw [ei]
 have ea : impl_distancesTo.rd2 (rows w h st.1) (xN h v) (yN h v) = d := by
  rw [rows_rd2 hh.1 _ hx hy, xy_node hh.1 hv, hr.fa]
 by_cases hin : inC w h (tgt s (xN h v) (yN h v)) = true
 ·obtain ⟨h1, h2⟩ := inC_iff.1 hin
  obtain ⟨e1, e2⟩ := node_int hh.1 h1 h2
  have hlen := hr.len
  have hq := hr.q
  have e0 : rd [(tgt s (xN h v) (yN h v)).1, (tgt s (xN h v) (yN h v)).2] 0 = (tgt s (xN h v) (yN h v)).1 := rfl
  have e9 : rd [(tgt s (xN h v) (yN h v)).1, (tgt s (xN h v) (yN h v)).2] 1 = (tgt s (xN h v) (yN h v)).2 := rfl
  rw [e0, e9, ea, rows_rd2 hh.1 _ h1 h2, w64 (x := d + 1) (by omega) (by omega)]
  by_cases hk : okS w h l s (xN h v) (yN h v) = true
  ·rw [if_pos hk]
   refine ⟨?_, by simpa [Bfs.visit] using hr.put hd.1 _ e2⟩
   refine Ev.itet hin ?_
   simp only [Option.toList, Bfs.visit]
   by_cases hneg : Bfs.fa st.1 (node h (tgt s (xN h v) (yN h v)).1 (tgt s (xN h v) (yN h v)).2) < 0
   ·refine Ev.itet hneg (Ev.bind hc (Ev.itet hk (Ev.itet (by simp; omega) ?_)))
    rw [if_pos hneg, rows_set2 hh.1 _ hlen h1 h2]
    have ep : pr h (node h (tgt s (xN h v) (yN h v)).1 (tgt s (xN h v) (yN h v)).2) = [(tgt s (xN h v) (yN h v)).1, (tgt s (xN h v) (yN h v)).2] := by
     unfold pr
     rw [(node_xy hh.1 h1 h2).1, (node_xy hh.1 h1 h2).2]
    simp only [List.map_append, List.map_cons, List.map_nil, ep]
    exact Ev.now _
   ·refine Ev.itef hneg ?_
    rw [if_neg hneg]
    exact Ev.now _
  ·rw [if_neg hk]
   refine ⟨Ev.itet hin ?_, ⟨hr.len, by have := hr.q; simp only [Option.toList, Bfs.visit]; omega, hr.fa, hr.atN⟩⟩
   by_cases hneg : Bfs.fa st.1 (node h (tgt s (xN h v) (yN h v)).1 (tgt s (xN h v) (yN h v)).2) < 0
   ·exact Ev.itet hneg (Ev.bind hc (Ev.itef hk (Ev.now _)))
   ·exact Ev.itef hneg (Ev.now _)
 ·have hk : ¬ okS w h l s (xN h v) (yN h v) = true := fun hk => hin (by unfold okS at hk; exact (Bool.and_eq_true _ _ ▸ hk).1)
  rw [if_neg hk]
  exact ⟨Ev.itef hin (Ev.now _), ⟨hr.len, by have := hr.q; simp only [Option.toList, Bfs.visit]; omega, hr.fa, hr.atN⟩⟩
theorem dist_steps (w h : Int) (l : List S58) (hl : l.length ≤ 1048576) (hw : 1 ≤ w ∧ w ≤ 8) (hh : 1 ≤ h ∧ h ≤ 8) (v : Nat) (hv : v < (w * h).toNat) (d : Int) (hd : 0 ≤ d ∧ d ≤ 1000) (m : Nat) (hm : m < 900) (st : List Int × List Nat) (hr : Rd (w * h).toNat v d m st) :
  ∀ j, j ≤ 4 → Ev (fun k => impl_distancesTo.steps k w h l (xN h v) (yN h v) j (rows w h st.1, st.2.map (pr h))) (rows w h (Bfs.visit d (nbU w h l j v) st).1, (Bfs.visit d (nbU w h l j v) st).2.map (pr h)) ∧ Rd (w * h).toNat v d (m + j) (Bfs.visit d (nbU w h l j v) st)
 | 0, _ => ⟨Ev.now _, hr⟩
 | j + 1, hj => by
  obtain ⟨h1, h2⟩ := dist_steps w h l hl hw hh v hv d hd m hm st hr j (by omega)
  obtain ⟨h3, h4⟩ := dist_step w h l hl hw hh v j (by omega) hv d hd (m + j) (by omega) _ h2
  rw [nbU_succ, visit_append]
  exact ⟨Ev.bind h1 h3, h4⟩
theorem dist_run (w h : Int) (l : List S58) (hl : l.length ≤ 1048576) (hw : 1 ≤ w ∧ w ≤ 8) (hh : 1 ≤ h ∧ h ≤ 8) (s : Nat) (far : List Int) : ∀ (f i : Nat) (st : List Int × List Nat), Bfs.Inv (nb w h l) (w * h).toNat s i st → Bfs.run (nb w h l) f i st = some far → Ev (fun k => impl_distancesTo.l1 w h l k i (rows w h st.1, st.2.map (pr h))) (rows w h far)
 | 0, i, st, hi, he => by cases he
 | f + 1, i, st, hi, he => by
  unfold Bfs.run at he
  refine Ev.succ ?_
  simp only [impl_distancesTo.l1]
  by_cases hk : i < st.2.length
  ·rw [if_pos hk] at he
   obtain ⟨h1, h2, h3⟩ := Inv_Rd hw hh hi hk
   have er : (st.2.map (pr h)).getD i [] = pr h (st.2.getD i 0) := by simp [hk]
   have ih := dist_run w h l hl hw hh s far f (i + 1) _ (hi.round (fun v _ => nb_lt hh.1 l v) hk) he
   obtain ⟨h4, _⟩ := dist_steps w h l hl hw hh _ h1.atN _ ⟨h2, h3⟩ 64 (by omega) st h1 4 (by omega)
   obtain ⟨hx, hy⟩ := xy_in hh.1 h1.atN
   rw [er]
   refine Ev.itet (by simpa using hk) (Ev.itet ?_ (Ev.bind h4 ih))
   unfold impl_distancesTo.pair pr
   rw [show rd [xN h (st.2.getD i 0), yN h (st.2.getD i 0)] 0 = xN h (st.2.getD i 0) from rfl, show rd [xN h (st.2.getD i 0), yN h (st.2.getD i 0)] 1 = yN h (st.2.getD i 0) from rfl]
   simp only [Bool.and_eq_true, decide_eq_true_eq]
   exact ⟨rfl, hx, hy⟩
  ·rw [if_neg hk] at he
   obtain rfl := Option.some.inj he
   exact Ev.itef (by simpa using hk) (Ev.now _)
theorem grid_ev (w h : Int) (hw : 1 ≤ w ∧ w ≤ 8) (hh : 1 ≤ h ∧ h ≤ 8) : Ev (fun k => impl_grid.f k w h (-1)) (rows w h (List.replicate (w * h).toNat (-1))) := by
 have hR : rows w h (List.replicate (w * h).toNat (-1)) = List.replicate w.toNat (List.replicate h.toNat (-1)) := by
  refine List.ext_getElem (by simp [rows]) fun i h1 h2 => ?_
  have hi : i < w.toNat := by simpa using h2
  simp only [rows, List.getElem_map, List.getElem_range, List.getElem_replicate]
  refine List.ext_getElem (by simp) fun j h3 h4 => ?_
  have hj : j < h.toNat := by simpa using h4
  simp only [List.getElem_map, List.getElem_range, List.getElem_replicate]
  have hn := node_int (w := w) (x := (i : Int)) (y := (j : Int)) hh.1 (by omega) (by omega)
  rw [node_nat (w := w) hh.1 (by omega) (by omega)] at hn
  simp only [Int.toNat_natCast] at hn
  unfold Bfs.fa
  simp [hn.2]
 rw [hR]
 unfold impl_grid.f
 refine Ev.itet (by omega) (Ev.itet (by omega) ?_)
 simp only [Option.bind_some, List.length_replicate]
 have key : ∀ (d i : Nat), i + d = w.toNat → Ev (fun k => impl_grid.l0 k h (-1) (List.replicate i (List.replicate h.toNat (-1)) ++ List.replicate d []) (w.toNat : Int) (i : Int)) (List.replicate w.toNat (List.replicate h.toNat (-1))) := by
  intro d
  induction d with
  | zero =>
   intro i hi
   refine Ev.stop fun k => ?_
   simp only [impl_grid.l0]
   rw [if_neg (by omega)]
   simp [show i = w.toNat by omega]
  | succ d ih =>
   intro i hi
   refine Ev.to _ (fun k => ?_) (ih (i + 1) (by omega))
   simp only [impl_grid.l0]
   have hrep : slices_Repeat_int_int.f ([-1] : List Int) h = some (List.replicate h.toNat (-1)) := by
    unfold slices_Repeat_int_int.f
    rw [if_pos ⟨rfl, hh.1, hh.2⟩]
    rfl
   rw [if_pos (by omega), hrep, Option.bind_some, if_pos (by omega), if_pos (by simp; omega), w64 (by omega) (by omega)]
   have e : (List.replicate i (List.replicate h.toNat (-1)) ++ List.replicate (d + 1) ([] : List Int)).set (i : Int).toNat (List.replicate h.toNat (-1)) = List.replicate (i + 1) (List.replicate h.toNat (-1)) ++ List.replicate d [] := by
    rw [Int.toNat_natCast, List.set_append_right _ _ (by simp), List.length_replicate, Nat.sub_self, List.replicate_succ, List.set_cons_zero, List.replicate_succ' (n := i), List.append_assoc]
    rfl
   rw [e]
   rfl
 have := key w.toNat 0 (by omega)
 simpa using this
theorem distancesTo_ev (w h : Int) (l : List S58) (hl : l.length ≤ 1048576) (hw : 1 ≤ w ∧ w ≤ 8) (hh : 1 ≤ h ∧ h ≤ 8) (x y : Int) (hx : 0 ≤ x ∧ x ≤ w - 1) (hy : 0 ≤ y ∧ y ≤ h - 1) : ∃ far, Ev (fun k => impl_distancesTo.f k w h l [x, y]) (rows w h far) ∧ Bfs.Dist (nb w h l) (w * h).toNat (node h x y) far := by
 obtain ⟨e1, e2⟩ := node_int hh.1 hx hy
 obtain ⟨far, h1, h2⟩ := Bfs.run_ends (nb := nb w h l) (fun v _ => nb_lt hh.1 l v) ((w * h).toNat + 1) 0 _ (Bfs.start_inv (nb w h l) e2) (by omega)
 refine ⟨far, ?_, h2⟩
 have h3 := dist_run w h l hl hw hh _ far _ 0 _ (Bfs.start_inv (nb w h l) e2) h1
 unfold impl_distancesTo.f
 have hp : impl_distancesTo.pair w h [x, y] = true := by
  unfold impl_distancesTo.pair
  rw [show rd [x, y] 0 = x from rfl, show rd [x, y] 1 = y from rfl]
  simp only [Bool.and_eq_true, decide_eq_true_eq]
  exact ⟨rfl, hx, hy⟩
 have hok : impl_distancesTo.ok w h [x, y] = true := by
  unfold impl_distancesTo.ok
  simp only [Bool.and_eq_true, decide_eq_true_eq]
  exact ⟨hw, hh, hp⟩
 refine Ev.itet hok (Ev.bind (grid_ev w h hw hh) (Ev.itet (rows_shape w h hw.1 hh.1 _) ?_))
 rw [show rd [x, y] 0 = x from rfl, show rd [x, y] 1 = y from rfl, rows_set2 hh.1 _ (by simp) hx hy]
 have ep : [[x, y]] = [node h x y].map (pr h) := by
  simp only [List.map_cons, List.map_nil, pr]
  rw [(node_xy hh.1 hx hy).1, (node_xy hh.1 hx hy).2]
 rw [ep]
 exact h3
theorem good_wh {w h : Int} {l : List S58} (hg : good w h l = true) : (1 ≤ w ∧ w ≤ 8) ∧ (1 ≤ h ∧ h ≤ 8) ∧ l.length ≤ 30 := by
 unfold good at hg
 simp only [Bool.and_eq_true, decide_eq_true_eq] at hg
 exact ⟨hg.1, hg.2.1, hg.2.2.1⟩
theorem corner_pair {w h : Int} (hw : 1 ≤ w ∧ w ≤ 8) (hh : 1 ≤ h ∧ h ≤ 8) {l : List Int} (hc : spec_avCorner.good w h l = true) : ∃ x y, l = [x, y] ∧ (0 ≤ x ∧ x ≤ w - 1) ∧ (0 ≤ y ∧ y ≤ h - 1) := by
 unfold spec_avCorner.good at hc
 rw [w64 (x := w - 1) (by omega) (by omega), w64 (x := h - 1) (by omega) (by omega)] at hc
 simp only [Bool.and_eq_true, decide_eq_true_eq] at hc
 match l, hc with
 | [x, y], hc => exact ⟨x, y, rfl, hc.2.1, hc.2.2⟩
theorem areCorners_ev (w h : Int) (l : List S58) (hl : l.length ≤ 1048576) (ls : List (List Int)) : Ev (fun k => impl_areCorners.f k w h l ls) (good w h l && ls.all (spec_avCorner.good w h)) := by
 have e : (!ls.any (impl_areCorners.bad w h)) = ls.all (spec_avCorner.good w h) := by
  rw [List.not_any_eq_all_not]
  congr 1
  funext z
  unfold impl_areCorners.bad spec_avCorner.good
  rw [Bool.not_not]
 unfold impl_areCorners.f
 refine Ev.bind (IsCity_ev w h l hl) ?_
 cases good w h l
 ·exact Ev.itef (by simp) (Ev.now _)
 ·refine Ev.itet rfl ?_
  rw [e, Bool.true_and]
  exact Ev.now _
theorem asked_ev (w h : Int) (l : List S58) (hl : l.length ≤ 1048576) (a b : List Int) : Ev (fun k => spec_avAsked.f k w h l a b) (good w h l && (spec_avCorner.good w h a && spec_avCorner.good w h b)) := by
 unfold spec_avAsked.f
 refine Ev.bind (avGood_ev w h l hl) ?_
 cases good w h l
 ·exact Ev.itef (by simp) (Ev.now _)
 ·refine Ev.itet rfl (Ev.bind (a := spec_avCorner.good w h a) (Ev.now _) ?_)
  cases spec_avCorner.good w h a
  ·exact Ev.itef (by simp) (Ev.now _)
  ·exact Ev.itet rfl (Ev.bind (a := spec_avCorner.good w h b) (Ev.now _) (Ev.now _))
theorem rows_lens {w h : Int} (hw : 1 ≤ w) (hh : 1 ≤ h) (far : List Int) (x : Int) (hx : 0 ≤ x ∧ x ≤ w - 1) : ((rows w h far).length : Int) = w ∧ ((rd_L6 (rows w h far) x).length : Int) = h := by
 refine ⟨by simp [rows]; omega, ?_⟩
 unfold rd_L6
 rw [rows_row w h far _ (by omega)]
 simp
 omega
theorem distance_ev (w h : Int) (l : List S58) (hl : l.length ≤ 1048576) (hw : 1 ≤ w ∧ w ≤ 8) (hh : 1 ≤ h ∧ h ≤ 8) (x y x' y' : Int) (hx : 0 ≤ x ∧ x ≤ w - 1) (hy : 0 ≤ y ∧ y ≤ h - 1) (hx' : 0 ≤ x' ∧ x' ≤ w - 1) (hy' : 0 ≤ y' ∧ y' ≤ h - 1) :
  ∃ d : Int, Ev (fun k => spec_avDistance.f k w h l [x, y] [x', y']) d ∧ Ev (fun k => impl_distanceIn.f k w h l [x, y] [x', y']) (mx 0 d, decide (d ≥ 0)) := by
 obtain ⟨far, f1, f2⟩ := avFar_ev w h l hl hw hh x y hx hy
 obtain ⟨far', g1, g2⟩ := distancesTo_ev w h l hl hw hh x' y' hx' hy'
 obtain ⟨n1, n2⟩ := node_int hh.1 hx hy
 obtain ⟨m1, m2⟩ := node_int hh.1 hx' hy'
 have ht := Bfs.Dist.turn (fun v _ => nb_lt hh.1 l v) (fun v hv => nb_sym hh.1 l v hv) n2 m2 f2 g2
 have h64 := wh_le hw hh
 have hlen := f2.len
 refine ⟨Bfs.fa far (node h x' y'), ?_, ?_⟩
 ·unfold spec_avDistance.f
  refine Ev.bind f1 ?_
  have hxh : 0 ≤ x' * h := Int.mul_nonneg hx'.1 (by omega)
  have e0 : rd [x', y'] 0 = x' := rfl
  have e1 : rd [x', y'] 1 = y' := rfl
  have ew : wrap64 (wrap64 (x' * h) + y') = ((node h x' y' : Nat) : Int) := by
   rw [w64 (x := x' * h) (by omega) (by omega), ← m1, w64 (by omega) (by omega)]
  rw [e0, e1, ew]
  exact Ev.itet (by simp) (Ev.itet (by simp) (Ev.itet (by omega) (Ev.itet (by omega) (Ev.now _))))
 ·unfold impl_distanceIn.f
  refine Ev.bind g1 ?_
  have e0 : rd [x, y] 0 = x := rfl
  have e1 : rd [x, y] 1 = y := rfl
  have er : rd (rd_L6 (rows w h far') x) y = Bfs.fa far (node h x' y') := by
   rw [ht]; exact rows_rd2 hh.1 far' hx hy
  obtain ⟨l1, l2⟩ := rows_lens hw.1 hh.1 far' x hx
  rw [e0, e1, l1, l2, er]
  exact Ev.itet (by simp) (Ev.itet hx.1 (Ev.itet (by omega) (Ev.itet (by simp) (Ev.itet hy.1 (Ev.itet (by omega) (Ev.now _))))))
theorem chain {nb : Nat → List Nat} {N s : Nat} {far : List Int} (hN : ∀ v, v < N → ∀ w ∈ nb v, w < N) (hs : s < N) (h : Bfs.Dist nb N s far) : ∀ (d v : Nat), v < N → Bfs.fa far v = (d : Int) → ∃ q : List Nat, q.Nodup ∧ (∀ u ∈ q, u < N ∧ Bfs.fa far u ≤ (d : Int)) ∧ q.length = d + 1
 | 0, v, hv, e => ⟨[v], List.pairwise_singleton _ _, fun u hu => by rw [List.mem_singleton.1 hu]; exact ⟨hv, by omega⟩, rfl⟩
 | d + 1, v, hv, e => by
  have hway : Bfs.Way nb (d + 1) s v := by
   rcases h.all v hv with ⟨a, _⟩ | ⟨_, a, _⟩
   ·omega
   ·rw [e, Int.toNat_natCast] at a; exact a
  obtain ⟨u, hu, hw⟩ : ∃ u, Bfs.Way nb d s u ∧ v ∈ nb u := by cases hway with | step a b => exact ⟨_, a, b⟩
  have huN := hu.lt hN hs
  have hfu : Bfs.fa far u = (d : Int) := by
   rcases h.all u huN with ⟨a, b⟩ | ⟨a, b, c⟩
   ·exact absurd hu (b d)
   ·have c1 := c d hu
    have hw2 : Bfs.Way nb ((Bfs.fa far u).toNat + 1) s v := .step b hw
    rcases h.all v hv with ⟨a', b'⟩ | ⟨a', b', c'⟩
    ·omega
    ·have := c' _ hw2; omega
  obtain ⟨q, q1, q2, q3⟩ := chain hN hs h d u huN hfu
  refine ⟨v :: q, List.nodup_cons.2 ⟨fun hm => ?_, q1⟩, fun x hx => ?_, by simp [q3]⟩
  ·have := (q2 v hm).2; omega
  ·rcases List.mem_cons.1 hx with rfl | hx
   ·exact ⟨hv, by omega⟩
   ·have := q2 x hx; exact ⟨this.1, by omega⟩
theorem dist_lt {nb : Nat → List Nat} {N s : Nat} {far : List Int} (hN : ∀ v, v < N → ∀ w ∈ nb v, w < N) (hs : s < N) (h : Bfs.Dist nb N s far) (v : Nat) (hv : v < N) : Bfs.fa far v < (N : Int) := by
 rcases h.all v hv with ⟨a, _⟩ | ⟨a, _, _⟩
 ·omega
 ·obtain ⟨q, q1, q2, q3⟩ := chain hN hs h (Bfs.fa far v).toNat v hv (by omega)
  have := Bfs.nodup_le q q1 (fun u hu => (q2 u hu).1)
  omega
theorem dist3 (w h : Int) (l : List S58) (hl : l.length ≤ 1048576) (hw : 1 ≤ w ∧ w ≤ 8) (hh : 1 ≤ h ∧ h ≤ 8) (x y x' y' : Int) (hx : 0 ≤ x ∧ x ≤ w - 1) (hy : 0 ≤ y ∧ y ≤ h - 1) (hx' : 0 ≤ x' ∧ x' ≤ w - 1) (hy' : 0 ≤ y' ∧ y' ≤ h - 1) :
  ∃ far : List Int, Ev (fun k => spec_avFar.f k w h l [x', y']) far ∧ Ev (fun k => impl_distancesTo.f k w h l [x', y']) (rows w h far) ∧ Bfs.Dist (nb w h l) (w * h).toNat (node h x' y') far ∧ Ev (fun k => spec_avDistance.f k w h l [x, y] [x', y']) (Bfs.fa far (node h x y)) ∧ Ev (fun k => impl_distanceIn.f k w h l [x, y] [x', y']) (mx 0 (Bfs.fa far (node h x y)), decide (Bfs.fa far (node h x y) ≥ 0)) := by
 obtain ⟨far, f1, f2⟩ := avFar_ev w h l hl hw hh x y hx hy
 obtain ⟨far', g1, g2⟩ := distancesTo_ev w h l hl hw hh x' y' hx' hy'
 obtain ⟨fb, e1, e2⟩ := avFar_ev w h l hl hw hh x' y' hx' hy'
 obtain rfl := e2.uniq g2
 obtain ⟨d, d1, d2⟩ := distance_ev w h l hl hw hh x y x' y' hx hy hx' hy'
 obtain ⟨n1, n2⟩ := node_int hh.1 hx hy
 obtain ⟨m1, m2⟩ := node_int hh.1 hx' hy'
 have ht := Bfs.Dist.turn (fun v _ => nb_lt hh.1 l v) (fun v hv => nb_sym hh.1 l v hv) n2 m2 f2 g2
 have ed : d = Bfs.fa fb (node h x y) := by
  have hlen := f2.len
  have h64 := wh_le hw hh
  refine Ev.inj d1 ?_
  unfold spec_avDistance.f
  refine Ev.bind f1 ?_
  have hxh : 0 ≤ x' * h := Int.mul_nonneg hx'.1 (by omega)
  have e0 : rd [x', y'] 0 = x' := rfl
  have e1 : rd [x', y'] 1 = y' := rfl
  have ew : wrap64 (wrap64 (x' * h) + y') = ((node h x' y' : Nat) : Int) := by
   rw [w64 (x := x' * h) (by omega) (by omega), ← m1, w64 (by omega) (by omega)]
  rw [e0, e1, ew, ← ht]
  exact Ev.itet (by simp) (Ev.itet (by simp) (Ev.itet (by omega) (Ev.itet (by omega) (Ev.now _))))
 subst ed
 exact ⟨fb, e1, g1, g2, d1, d2⟩
def nearB (w h : Int) (l : List S58) (far : List Int) (v j : Nat) : Bool := match nbO w h l v j with
 | none => false
 | some u => Bfs.fa far u == Bfs.fa far v - 1
theorem fa_le {w h : Int} {l : List S58} (hw : 1 ≤ w ∧ w ≤ 8) (hh : 1 ≤ h ∧ h ≤ 8) {s : Nat} {far : List Int} (hs : s < (w * h).toNat) (hd : Bfs.Dist (nb w h l) (w * h).toNat s far) (v : Nat) (hv : v < (w * h).toNat) : -1 ≤ Bfs.fa far v ∧ Bfs.fa far v ≤ 64 := by
 have h1 := dist_lt (fun v _ => nb_lt hh.1 l v) hs hd v hv
 have h64 := wh_le hw hh
 rcases hd.all v hv with ⟨a, _⟩ | ⟨a, _, _⟩ <;> omega
theorem nearer_ev (w h : Int) (l : List S58) (hl : l.length ≤ 1048576) (hw : 1 ≤ w ∧ w ≤ 8) (hh : 1 ≤ h ∧ h ≤ 8) {s : Nat} {far : List Int} (hs : s < (w * h).toNat) (hd : Bfs.Dist (nb w h l) (w * h).toNat s far) (v j : Nat) (hv : v < (w * h).toNat) (hj : j < 4) : Ev (fun k => impl_nearer.f k w h l (rows w h far) (pr h v) (j : Int)) (nearB w h l far v j) := by
 obtain ⟨hx, hy⟩ := xy_in hh.1 hv
 obtain ⟨b1, b2⟩ := fa_le hw hh hs hd v hv
 unfold impl_nearer.f nearB nbO pr
 refine Ev.bind (can_ev w h l hl hw hh j hj (xN h v) (yN h v) hx hy) ?_
 by_cases hk : okS w h l j (xN h v) (yN h v) = true
 ·obtain ⟨h1, h2⟩ := okS_in hk
  rw [hk, if_pos (rfl : true = true)]
  simp only [moved_f j hj (xN h v) (yN h v) (by omega) (by omega), Option.bind_some, if_true]
  rw [show rd [xN h v, yN h v] 0 = xN h v from rfl, show rd [xN h v, yN h v] 1 = yN h v from rfl, show rd [(tgt j (xN h v) (yN h v)).1, (tgt j (xN h v) (yN h v)).2] 0 = (tgt j (xN h v) (yN h v)).1 from rfl, show rd [(tgt j (xN h v) (yN h v)).1, (tgt j (xN h v) (yN h v)).2] 1 = (tgt j (xN h v) (yN h v)).2 from rfl]
  rw [rows_rd2 hh.1 far hx hy, rows_rd2 hh.1 far h1 h2, xy_node hh.1 hv, w64 (by omega) (by omega)]
  exact Ev.now _
 ·rw [Bool.not_eq_true] at hk
  rw [hk]
  simp only [Bool.false_eq_true, if_false]
  exact Ev.now _
set_option linter.unusedSectionVars false
def fst (p : Nat → Bool) : Nat → Nat → Option Nat
 | 0, _ => none
 | d + 1, j => if p j = true then some j else fst p d (j + 1)
theorem fst_lt (p : Nat → Bool) : ∀ d j o, fst p d j = some o → j ≤ o ∧ o < j + d ∧ p o = true
 | 0, _, _, h => by cases h
 | d + 1, j, o, h => by
  unfold fst at h
  by_cases hp : p j = true
  ·rw [if_pos hp] at h
   obtain rfl := Option.some.inj h
   exact ⟨by omega, by omega, hp⟩
  ·rw [if_neg hp] at h
   obtain ⟨h1, h2, h3⟩ := fst_lt p d (j + 1) o h
   exact ⟨by omega, by omega, h3⟩
theorem fst_some (p : Nat → Bool) : ∀ d j i, j ≤ i → i < j + d → p i = true → ∃ o, fst p d j = some o
 | 0, j, i, h1, h2, _ => by omega
 | d + 1, j, i, h1, h2, hp => by
  unfold fst
  by_cases hj : p j = true
  ·exact ⟨j, by rw [if_pos hj]⟩
  ·rw [if_neg hj]
   by_cases e : j = i
   ·exact absurd (e ▸ hp) hj
   ·exact fst_some p d (j + 1) i (by omega) (by omega) hp
def nx (h : Int) (v j : Nat) : Nat := node h (tgt j (xN h v) (yN h v)).1 (tgt j (xN h v) (yN h v)).2
def word (w h : Int) (l : List S58) (far : List Int) : Nat → Nat → List Nat
 | 0, _ => []
 | n + 1, v => match fst (nearB w h l far v) 4 0 with
  | none => []
  | some j => j :: word w h l far n (nx h v j)
section
variable (w h : Int) (l : List S58) (hl : l.length ≤ 1048576) (hw : 1 ≤ w ∧ w ≤ 8) (hh : 1 ≤ h ∧ h ≤ 8) {s : Nat} {far : List Int} (hs : s < (w * h).toNat) (hD : Bfs.Dist (nb w h l) (w * h).toNat s far)
include hl hw hh hs hD
theorem nearB_to (v j n : Nat) (hfv : Bfs.fa far v = ((n + 1 : Nat) : Int)) (hn : nearB w h l far v j = true) : okS w h l j (xN h v) (yN h v) = true ∧ nx h v j < (w * h).toNat ∧ Bfs.fa far (nx h v j) = (n : Int) := by
 unfold nearB nbO at hn
 by_cases hk : okS w h l j (xN h v) (yN h v) = true
 ·rw [if_pos hk] at hn
  simp only at hn
  obtain ⟨h1, h2⟩ := okS_in hk
  refine ⟨hk, (node_int hh.1 h1 h2).2, ?_⟩
  have h3 := eq_of_beq hn
  unfold nx
  omega
 ·rw [if_neg hk] at hn
  cases hn
theorem nearB_is (v n : Nat) (hv : v < (w * h).toNat) (hfv : Bfs.fa far v = ((n + 1 : Nat) : Int)) : ∃ j, j < 4 ∧ nearB w h l far v j = true := by
 have hN : ∀ v, v < (w * h).toNat → ∀ u ∈ nb w h l v, u < (w * h).toNat := fun v _ => nb_lt hh.1 l v
 rcases hD.all v hv with ⟨a1, _⟩ | ⟨a1, a2, a3⟩
 ·omega
 ·rw [hfv, Int.toNat_natCast] at a2
  obtain ⟨u, hu, hm⟩ : ∃ u, Bfs.Way (nb w h l) n s u ∧ v ∈ nb w h l u := by cases a2 with | step a b => exact ⟨_, a, b⟩
  have huN := hu.lt hN hs
  have hfu : Bfs.fa far u = (n : Int) := by
   rcases hD.all u huN with ⟨_, b⟩ | ⟨b1, b2, b3⟩
   ·exact absurd hu (b n)
   ·have c1 := b3 n hu
    have c2 := a3 _ (Bfs.Way.step b2 hm)
    omega
  obtain ⟨j, hj, hk, e⟩ := mem_nb.1 (nb_sym hh.1 l u huN v hm)
  refine ⟨j, hj, ?_⟩
  unfold nearB nbO
  rw [if_pos hk]
  simp only
  rw [e, hfu, hfv]
  simp
theorem first_is (v n : Nat) (hv : v < (w * h).toNat) (hfv : Bfs.fa far v = ((n + 1 : Nat) : Int)) : ∃ j, fst (nearB w h l far v) 4 0 = some j ∧ j < 4 ∧ okS w h l j (xN h v) (yN h v) = true ∧ nx h v j < (w * h).toNat ∧ Bfs.fa far (nx h v j) = (n : Int) := by
 obtain ⟨i, hi, hp⟩ := nearB_is w h l hl hw hh hs hD v n hv hfv
 obtain ⟨j, hj⟩ := fst_some (nearB w h l far v) 4 0 i (by omega) (by omega) hp
 obtain ⟨_, h2, h3⟩ := fst_lt _ _ _ _ hj
 exact ⟨j, hj, by omega, nearB_to w h l hl hw hh hs hD v j n hfv h3⟩
theorem scan_ev (v : Nat) (hv : v < (w * h).toNat) : ∀ d j, j + d ≤ 4 → Ev (fun k => impl_firstWay.scan k w.toNat h.toNat l (rows w h far) (pr h v) d j) (fst (nearB w h l far v) d j)
 | 0, _, _ => Ev.now _
 | d + 1, j, hj => by
  have ih := scan_ev v hv d (j + 1) (by omega)
  have hne := nearer_ev w h l hl hw hh hs hD v j hv (by omega)
  unfold impl_firstWay.scan fst
  rw [Int.toNat_of_nonneg (show 0 ≤ w by omega), Int.toNat_of_nonneg (show 0 ≤ h by omega)]
  refine Ev.bind hne ?_
  by_cases hp : nearB w h l far v j = true
  ·rw [if_pos hp]
   exact Ev.itet hp (Ev.now _)
  ·rw [if_neg hp]
   exact Ev.itef hp ih
def bytes (js : List Nat) : List Int := js.map fun (j : Nat) => bt ⟨#[101, 110, 115, 119]⟩ (j : Int)
theorem impl_l0 : ∀ (n v : Nat) (wd : List Int), v < (w * h).toNat → Bfs.fa far v = (n : Int) → wd.length + n ≤ 1000 → ∃ K, ∀ p, K ≤ p → ∀ f, n < f → impl_firstWay.l0 p w.toNat h.toNat l (rows w h far) f (pr h v) wd = some (wd ++ bytes (word w h l far n v))
 | 0, v, wd, hv, hfv, hwd => by
  refine ⟨0, fun p _ f hf => ?_⟩
  obtain ⟨hx, hy⟩ := xy_in hh.1 hv
  obtain ⟨f, rfl⟩ : ∃ m, f = m + 1 := ⟨f - 1, by omega⟩
  have hp : impl_distancesTo.pair (w.toNat : Int) (h.toNat : Int) (pr h v) = true := by
   unfold impl_distancesTo.pair pr
   rw [show rd [xN h v, yN h v] 0 = xN h v from rfl, show rd [xN h v, yN h v] 1 = yN h v from rfl, Int.toNat_of_nonneg (show 0 ≤ w by omega), Int.toNat_of_nonneg (show 0 ≤ h by omega)]
   simp only [Bool.and_eq_true, decide_eq_true_eq]
   exact ⟨rfl, hx, hy⟩
  have hr : impl_distancesTo.rd2 (rows w h far) (rd (pr h v) 0) (rd (pr h v) 1) = ((0 : Nat) : Int) := by
   rw [show rd (pr h v) 0 = xN h v from rfl, show rd (pr h v) 1 = yN h v from rfl, rows_rd2 hh.1 far hx hy, xy_node hh.1 hv, hfv]
  simp only [impl_firstWay.l0]
  rw [if_pos hp, hr, if_neg (by omega)]
  simp [word, bytes]
 | n + 1, v, wd, hv, hfv, hwd => by
  obtain ⟨hx, hy⟩ := xy_in hh.1 hv
  obtain ⟨j, hj, hj4, hk, hxN, hfx⟩ := first_is w h l hl hw hh hs hD v n hv hfv
  obtain ⟨K1, h1⟩ := scan_ev w h l hl hw hh hs hD v hv 4 0 (by omega)
  obtain ⟨K2, h2⟩ := impl_l0 n (nx h v j) (wd ++ [bt ⟨#[101, 110, 115, 119]⟩ (j : Int)]) hxN hfx (by simp; omega)
  refine ⟨K1 + K2, fun p hp f hf => ?_⟩
  obtain ⟨f, rfl⟩ : ∃ m, f = m + 1 := ⟨f - 1, by omega⟩
  have hpr : impl_distancesTo.pair (w.toNat : Int) (h.toNat : Int) (pr h v) = true := by
   unfold impl_distancesTo.pair pr
   rw [show rd [xN h v, yN h v] 0 = xN h v from rfl, show rd [xN h v, yN h v] 1 = yN h v from rfl, Int.toNat_of_nonneg (show 0 ≤ w by omega), Int.toNat_of_nonneg (show 0 ≤ h by omega)]
   simp only [Bool.and_eq_true, decide_eq_true_eq]
   exact ⟨rfl, hx, hy⟩
  have hr : impl_distancesTo.rd2 (rows w h far) (rd (pr h v) 0) (rd (pr h v) 1) = ((n + 1 : Nat) : Int) := by
   rw [show rd (pr h v) 0 = xN h v from rfl, show rd (pr h v) 1 = yN h v from rfl, rows_rd2 hh.1 far hx hy, xy_node hh.1 hv, hfv]
  obtain ⟨t1, t2⟩ := okS_in hk
  have ep : pr h (nx h v j) = [(tgt j (xN h v) (yN h v)).1, (tgt j (xN h v) (yN h v)).2] := by
   unfold pr nx
   rw [(node_xy hh.1 t1 t2).1, (node_xy hh.1 t1 t2).2]
  have h3 := h1 p (by omega)
  simp only at h3
  have hmv : impl_moved.f (pr h v) (j : Int) = some (pr h (nx h v j)) := by
   rw [ep]
   exact moved_f j hj4 (xN h v) (yN h v) (by omega) (by omega)
  have h4 := h2 p (by omega) f (by omega)
  simp only [impl_firstWay.l0]
  rw [if_pos hpr, hr, if_pos (by omega), h3, Option.bind_some, hj]
  simp only
  rw [if_pos (by omega), hmv, Option.bind_some, h4]
  have ew : word w h l far (n + 1) v = j :: word w h l far n (nx h v j) := by
   simp only [word]
   rw [hj]
  rw [ew]
  simp [bytes]
theorem firstWay_ev (n v : Nat) (hv : v < (w * h).toNat) (hfv : Bfs.fa far v = (n : Int)) (hn : n ≤ 1000) : Ev (fun k => impl_firstWay.f k w.toNat h.toNat l (rows w h far) (xN h v) (yN h v)) (strOfNums (bytes (word w h l far n v))) := by
 obtain ⟨K, hK⟩ := impl_l0 w h l hl hw hh hs hD n v [] hv hfv (by simpa using hn)
 refine ⟨K + n + 1, fun k hk => ?_⟩
 have h1 := hK k (by omega) k (by omega)
 unfold impl_firstWay.f
 show (impl_firstWay.l0 k w.toNat h.toNat l (rows w h far) k (pr h v) []).bind (fun wd => some (strOfNums wd)) = _
 rw [h1]
 simp
theorem sg_eq (j : Nat) : spec_avFar.sg j = sg j := by
 match j with
 | 0 => rfl
 | 1 => rfl
 | 2 => rfl
 | _ + 3 => rfl
theorem sscan_ev (n v : Nat) (hv : v < (w * h).toNat) (hfv : Bfs.fa far v = ((n + 1 : Nat) : Int)) : ∀ d j, j + d ≤ 4 → Ev (fun k => spec_FirstShortestWay.scan k w h l far (xN h v) (yN h v) ((n + 1 : Nat) : Int) d j) ((fst (nearB w h l far v) d j).map fun j => (xN h (nx h v j), yN h (nx h v j), j))
 | 0, _, _ => Ev.now _
 | d + 1, j, hj => by
  have ih := sscan_ev n v hv hfv d (j + 1) (by omega)
  have h64 := wh_le hw hh
  have hlen := hD.len
  obtain ⟨hx, hy⟩ := xy_in hh.1 hv
  have hst := avStep_ev w h l hl hw hh j (xN h v) (yN h v) hx hy
  unfold spec_FirstShortestWay.scan fst
  rw [sg_eq w h l hl hw hh hs hD j]
  by_cases hk : okS w h l j (xN h v) (yN h v) = true
  ·obtain ⟨h1, h2⟩ := okS_in hk
   obtain ⟨n1, n2⟩ := node_int hh.1 h1 h2
   rw [if_pos hk] at hst
   refine Ev.bind hst ?_
   have hxh : 0 ≤ (tgt j (xN h v) (yN h v)).1 * h := Int.mul_nonneg h1.1 (by omega)
   have ew : wrap64 (wrap64 ((tgt j (xN h v) (yN h v)).1 * h) + (tgt j (xN h v) (yN h v)).2) = ((nx h v j : Nat) : Int) := by
    unfold nx
    rw [w64 (x := (tgt j (xN h v) (yN h v)).1 * h) (by omega) (by omega), ← n1, w64 (by omega) (by omega)]
   have e3 : nearB w h l far v j = (Bfs.fa far (nx h v j) == Bfs.fa far v - 1) := by
    unfold nearB nbO
    rw [if_pos hk]
    rfl
   have e4 : xN h (nx h v j) = (tgt j (xN h v) (yN h v)).1 := (node_xy hh.1 h1 h2).1
   have e5 : yN h (nx h v j) = (tgt j (xN h v) (yN h v)).2 := (node_xy hh.1 h1 h2).2
   have n3 : nx h v j < (w * h).toNat := n2
   simp only
   rw [ew]
   refine Ev.itet trivial (Ev.itet (by omega) ?_)
   have r1 : rd far ((nx h v j : Nat) : Int) = Bfs.fa far (nx h v j) := rfl
   rw [r1]
   by_cases e : Bfs.fa far (nx h v j) = ((n + 1 : Nat) : Int) - 1
   ·rw [if_pos (show nearB w h l far v j = true by rw [e3, hfv, e]; simp)]
    refine Ev.itet e ?_
    simp only [Option.map_some]
    rw [e4, e5]
    exact Ev.now _
   ·rw [if_neg (show ¬ nearB w h l far v j = true by rw [e3, hfv]; simpa using e)]
    exact Ev.itef e ih
  ·rw [if_neg hk] at hst
   rw [if_neg (show ¬ nearB w h l far v j = true by unfold nearB nbO; rw [if_neg hk]; simp)]
   exact Ev.bind hst (Ev.itef (by simp) ih)
def outS (out : ByteArray) : List Nat → ByteArray
 | [] => out
 | j :: js => outS (out ++ Utf8.encode (spec_avFar.sg j)) js
theorem spec_l0 : ∀ (n v : Nat) (out : ByteArray), v < (w * h).toNat → Bfs.fa far v = (n : Int) → Ev (fun k => spec_FirstShortestWay.l0 k w h l far n (xN h v) (yN h v) out) (outS out (word w h l far n v))
 | 0, _, _, _, _ => Ev.now _
 | n + 1, v, out, hv, hfv => by
  obtain ⟨j, hj, hj4, hk, hxN, hfx⟩ := first_is w h l hl hw hh hs hD v n hv hfv
  have h1 := sscan_ev w h l hl hw hh hs hD n v hv hfv 4 0 (by omega)
  rw [hj] at h1
  simp only [spec_FirstShortestWay.l0]
  have ew : word w h l far (n + 1) v = j :: word w h l far n (nx h v j) := by
   simp only [word]
   rw [hj]
  rw [ew]
  exact Ev.bind h1 (spec_l0 n (nx h v j) _ hxN hfx)
theorem outS_eq : ∀ (js : List Nat) (out : ByteArray), (∀ j ∈ js, j < 4) → (outS out js).data.toList = out.data.toList ++ (strOfNums (bytes js)).data.toList
 | [], out, _ => by simp [outS, bytes, strOfNums]
 | j :: js, out, hj => by
  have ih := outS_eq js (out ++ Utf8.encode (spec_avFar.sg j)) (fun i hi => hj i (by simp [hi]))
  have h4 := hj j (by simp)
  have e : (out ++ Utf8.encode (spec_avFar.sg j)).data.toList = out.data.toList ++ [(bt ⟨#[101, 110, 115, 119]⟩ (j : Int)).toNat.toUInt8] := by
   rw [ByteArray.data_append, Array.toList_append]
   congr 1
   match j, h4 with
   | 0, _ => rfl
   | 1, _ => rfl
   | 2, _ => rfl
   | 3, _ => rfl
  rw [outS, ih, e]
  simp [bytes, strOfNums]
end
theorem word_lt (w h : Int) (l : List S58) (far : List Int) : ∀ n v, ∀ j ∈ word w h l far n v, j < 4
 | 0, _ => by simp [word]
 | n + 1, v => by
  intro j hj
  simp only [word] at hj
  cases hf : fst (nearB w h l far v) 4 0 with
  | none => rw [hf] at hj; simp at hj
  | some i =>
   rw [hf] at hj
   have := fst_lt _ _ _ _ hf
   rcases List.mem_cons.1 hj with rfl | hj
   ·omega
   ·exact word_lt w h l far n _ j hj
theorem both (w h : Int) (l : List S58) (hl : l.length ≤ 1048576) (a b : List Int) : ∃ r, Ev (fun k => spec_FirstShortestWay.f k w h l a b) r ∧ Ev (fun k => impl_FirstShortestWay.f k w h l a b) r := by
 have hg := asked_ev w h l hl a b
 have hc := areCorners_ev w h l hl [a, b]
 have e1 : [a, b].all (spec_avCorner.good w h) = (spec_avCorner.good w h a && spec_avCorner.good w h b) := by simp
 rw [e1] at hc
 unfold spec_FirstShortestWay.f impl_FirstShortestWay.f
 cases hq : (good w h l && (spec_avCorner.good w h a && spec_avCorner.good w h b)) <;> rw [hq] at hg hc
 ·exact ⟨(⟨#[]⟩, false), Ev.bind hg (Ev.itef (by simp) (Ev.now _)), Ev.bind hc (Ev.itef (by simp) (Ev.now _))⟩
 ·rw [Bool.and_eq_true, Bool.and_eq_true] at hq
  obtain ⟨hw, hh, h30⟩ := good_wh hq.1
  obtain ⟨x, y, rfl, hx, hy⟩ := corner_pair hw hh hq.2.1
  obtain ⟨x', y', rfl, hx', hy'⟩ := corner_pair hw hh hq.2.2
  obtain ⟨far, f1, f2, f3, d1, d2⟩ := dist3 w h l hl hw hh x y x' y' hx hy hx' hy'
  obtain ⟨m1, m2⟩ := node_int hh.1 hx' hy'
  obtain ⟨n1, n2⟩ := node_int hh.1 hx hy
  obtain ⟨q1, q2⟩ := node_xy hh.1 hx hy
  have h64 := wh_le hw hh
  have hlen := f3.len
  obtain ⟨b1, b2⟩ := fa_le hw hh m2 f3 _ n2
  by_cases hd : Bfs.fa far (node h x y) < 0
  ·exact ⟨(⟨#[]⟩, false), Ev.bind hg (Ev.itet rfl (Ev.bind d1 (Ev.itet hd (Ev.now _)))), Ev.bind hc (Ev.itet rfl (Ev.bind d2 (Ev.itef (by simp; omega) (Ev.now _))))⟩
  ·obtain ⟨D, hDn⟩ : ∃ n : Nat, Bfs.fa far (node h x y) = (n : Int) := ⟨(Bfs.fa far (node h x y)).toNat, by omega⟩
   have hfw := firstWay_ev w h l hl hw hh m2 f3 D (node h x y) n2 hDn (by omega)
   have hsp := spec_l0 w h l hl hw hh m2 f3 D (node h x y) ⟨#[]⟩ n2 hDn
   rw [q1, q2] at hfw hsp
   have eq : outS ⟨#[]⟩ (word w h l far D (node h x y)) = strOfNums (bytes (word w h l far D (node h x y))) := by
    apply ba_ext
    rw [outS_eq w h l hl hw hh m2 f3 _ _ (word_lt w h l far D _)]
    simp
   rw [eq] at hsp
   refine ⟨(strOfNums (bytes (word w h l far D (node h x y))), true), Ev.bind hg (Ev.itet rfl (Ev.bind d1 (Ev.itef hd (Ev.bind ?_ (Ev.now _))))), Ev.bind hc (Ev.itet rfl (Ev.bind d2 (Ev.itet (by simp; omega) (Ev.bind ?_ (Ev.now _)))))⟩
   ·unfold spec_FirstShortestWay.way
    have hok : spec_FirstShortestWay.ok w h [x, y] [x', y'] = true := by
     unfold spec_FirstShortestWay.ok spec_FirstShortestWay.pair
     rw [show rd [x, y] 0 = x from rfl, show rd [x, y] 1 = y from rfl, show rd [x', y'] 0 = x' from rfl, show rd [x', y'] 1 = y' from rfl]
     simp only [Bool.and_eq_true, decide_eq_true_eq]
     exact ⟨hw, hh, ⟨rfl, hx, hy⟩, rfl, hx', hy'⟩
    refine Ev.itet ⟨hok, by omega⟩ (Ev.bind f1 (Ev.itet (by omega) ?_))
    rw [show rd [x, y] 0 = x from rfl, show rd [x, y] 1 = y from rfl, hDn, Int.toNat_natCast]
    exact hsp
   ·unfold impl_FirstShortestWay.ways
    refine Ev.itet ?_ (Ev.bind f2 (Ev.itet (rows_shape w h hw.1 hh.1 _) hfw))
    unfold impl_FirstShortestWay.ok impl_distancesTo.pair
    rw [show rd [x, y] 0 = x from rfl, show rd [x, y] 1 = y from rfl]
    simp only [Bool.and_eq_true, decide_eq_true_eq]
    exact ⟨hw, hh, rfl, hx, hy⟩
theorem main : laws_FnExactFirstShortestWay.Pure := by
 intro w hgt l a b _ _ hl _ _ _ _ _ _ _
 refine Ev.rounds ?_
 unfold laws_FnExactFirstShortestWay.f
 by_cases ha : (a.length : Int) > 1048576
 ·exact Ev.itet ha (Ev.now _)
 refine Ev.itef ha ?_
 by_cases hb : (b.length : Int) > 1048576
 ·exact Ev.itet hb (Ev.now _)
 refine Ev.itef hb ?_
 rw [szCity_f w hgt l hl]
 simp only [Option.bind_some]
 by_cases h : l.length ≤ 1048576
 ·rw [if_pos h]
  have hm : (l.map conv).length ≤ 1048576 := by simpa using h
  have ha' : a.length ≤ 1048576 := by omega
  have hb' : b.length ≤ 1048576 := by omega
  obtain ⟨r, hs, hi⟩ := both w hgt (l.map conv) hm a b
  refine Ev.itef (by omega) (Ev.bind (toCity_ev w hgt l h) (Ev.bind (toIntS_ev a ha') (Ev.bind (toIntS_ev b hb') (Ev.bind hs (Ev.bind (toCity_ev w hgt l h) (Ev.bind (toIntS_ev a ha') (Ev.bind (toIntS_ev b hb') (Ev.bind hi (Ev.itet rfl (Ev.succ ?_))))))))))
  simp only [laws_FnExactFirstShortestWay.j0]
  exact Ev.itef (by simp) (Ev.bind (toCity_ev w hgt l h) (Ev.bind (eqCity_ev w hgt _ hm) (Ev.itet rfl (Ev.bind (toIntS_ev a ha') (Ev.bind (eqIntS_ev a ha') (Ev.itet rfl (Ev.bind (toIntS_ev b hb') (Ev.bind (eqIntS_ev b hb') (Ev.itet rfl (Ev.now _))))))))))
 ·rw [if_neg h]
  exact Ev.itet (by omega) (Ev.now _)
end FirstShortestWay
theorem FnExactFirstShortestWay : laws_FnExactFirstShortestWay.Pure := FirstShortestWay.main
end Go.Proofs.Ytpedofomfhmnfaa.Pure
