/- Cut by wip/cut.py out of the texts of this claim (printed by the kit's printer, or this session's own): what the row's theorem does not reach is struck. Not trusted: Lean checks it. -/
import Derived.Test.YtpedofomfhmnfaaZFnExactNeededBlocksWalk
import Derived.Test.YtpedofomfhmnfaaZFnExactNeededBlocksKit
namespace Go.Proofs.Ytpedofomfhmnfaa.Pure
open Go.RowKit Go.Proofs.YtpedofomfhmnfaaW.PrintWords Go.Proofs.YtpedofomfhmnfaaW.PrintLast Go.Proofs.YtpedofomfhmnfaaW.PrintMore Go.Proofs.YtpedofomfhmnfaaKit
open Go.Proofs.Ytpedofomfhmnfaa.PFnExactNeededBlocks
namespace NeededBlocks
theorem q5_ (a b c : Int) : (if a ≥ b then some (decide (a ≤ c)) else some false) = some (decide (b ≤ a ∧ a ≤ c)) := by
 by_cases h : a ≥ b
 ·rw [if_pos h]; simp [show b ≤ a from h]
 ·rw [if_neg h]; simp; omega
theorem f3_ (a b c : Int) : spec_l1In.f a b c = some (decide (b ≤ a ∧ a ≤ c)) := by unfold spec_l1In.f; exact q5_ a b c
theorem a2_ (a b c : Int) : impl_within.f a b c = some (decide (b ≤ a ∧ a ≤ c)) := by unfold impl_within.f; exact q5_ a b c
def conv (b : S56) : S58 := ⟨b.f0, b.f1, b.f2⟩
theorem v5_ (l : List S56) (i : Nat) (h : i < l.length) : rd_T56 l (i : Int) = l[i] := by unfold rd_T56; simp [h]
theorem r0_ (l : List S58) (i : Nat) (h : i < l.length) : qk l (i : Int) = l[i] := by unfold qk; simp [h]
theorem q3_ (l : List S56) (hl : l.length ≤ 1048576) : Ev (fun k => laws_toBlockS.f k l) (l.map conv) := by
 unfold laws_toBlockS.f
 refine Ev.itet (by omega) (Ev.itet (by omega) ?_)
 have key : ∀ (d i : Nat), i + d = l.length → Ev (fun k => laws_toBlockS.l0 k l ((l.map conv).take i ++ List.replicate d z58) (i : Int)) (l.map conv) := by
  intro d
  induction d with
  | zero =>
   intro i hi
   refine Ev.stop fun k => ?_
   simp only [laws_toBlockS.l0]
   rw [if_neg (by omega), List.take_of_length_le (by simp; omega)]
   simp
  | succ d ih =>
   intro i hi
   have hlt : i < l.length := by omega
   have hlt2 : i < (l.map conv).length := by simp; omega
   refine Ev.to _ (fun k => ?_) (ih (i + 1) (by omega))
   simp only [laws_toBlockS.l0, laws_toBlock.f, Option.bind_some]
   rw [if_pos (by omega), if_pos (by omega), if_pos (by simp; omega), v5_ l i hlt, w64 (by omega) (by omega)]
   have e : ((l.map conv).take i ++ List.replicate (d + 1) z58).set (i : Int).toNat (⟨l[i].f0, l[i].f1, l[i].f2⟩ : S58) = (l.map conv).take (i + 1) ++ List.replicate d z58 := by
    rw [List.take_succ_eq_append_getElem hlt2, Int.toNat_natCast, List.set_append_right _ _ (by simp; omega)];have h0 : i - ((l.map conv).take i).length = 0 := by simp; omega
    rw [h0, List.replicate_succ, List.set_cons_zero, List.append_assoc]
    simp [conv]
   rw [e]
   rfl
 have := key l.length 0 (by omega)
 simpa using this
theorem a0_ (a b : Int) (l : List S56) (hl : l.length ≤ 1048576) : Ev (fun k => laws_toCity.f k a b l) (a, b, l.map conv) := by
 unfold laws_toCity.f
 exact Ev.bind (q3_ l hl) (Ev.now _)
theorem d0_ (l : List S58) (hl : l.length ≤ 1048576) : Ev (fun k => laws_eqBlockS.f k l l) true := by
 unfold laws_eqBlockS.f
 refine Ev.itet rfl ?_
 have key : ∀ (d i : Nat), i + d = l.length → Ev (fun k => laws_eqBlockS.l0 k l l (i : Int)) true := by
  intro d
  induction d with
  | zero => exact fun i hi => Ev.stop fun k => by simp only [laws_eqBlockS.l0]; rw [if_neg (by omega)]
  | succ d ih =>
   intro i hi
   refine Ev.to _ (fun k => ?_) (ih (i + 1) (by omega))
   have hw : wrap64 ((i : Int) + 1) = ((i + 1 : Nat) : Int) := by rw [w64 (by omega) (by omega)]; rfl
   simp only [laws_eqBlockS.l0, laws_eqBlock.f]
   rw [if_pos (by omega), if_pos (by omega), if_pos (by omega), hw]
   simp
 exact key l.length 0 (by omega)
theorem g3_ (a b : Int) (l : List S58) (hl : l.length ≤ 1048576) : Ev (fun k => laws_eqCity.f k a b l a b l) true := by
 unfold laws_eqCity.f
 exact Ev.itet rfl (Ev.itet rfl (Ev.bind (d0_ l hl) (Ev.itet rfl (Ev.now _))))
theorem e4_ (a b : Int) (l : List S56) (hl : l.length ≤ maxLen) : laws_szCity.f a b l 1048576 = some (if l.length ≤ 1048576 then 1048576 - (l.length : Int) else -1) := by
 unfold laws_szCity.f laws_szBlockS.f
 unfold maxLen at hl
 rw [w64 (by omega) (by omega)]
 by_cases h : l.length ≤ 1048576
 ·rw [if_neg (by omega), Option.bind_some, if_neg (by omega), if_pos h]
 ·rw [if_pos (by omega), Option.bind_some, if_pos (by omega), if_neg h]
theorem q0_ (l : List Int) (hl : l.length ≤ 1048576) : Ev (fun k => laws_toIntS.f k l) l := by
 unfold laws_toIntS.f
 refine Ev.itet (by omega) (Ev.itet (by omega) ?_)
 have key : ∀ (d i : Nat), i + d = l.length → Ev (fun k => laws_toIntS.l0 k l (l.take i ++ List.replicate d 0) (i : Int)) l := by
  intro d
  induction d with
  | zero =>
   intro i hi
   refine Ev.stop fun k => ?_
   simp only [laws_toIntS.l0]
   rw [if_neg (by omega), List.take_of_length_le (by omega)]
   simp
  | succ d ih =>
   intro i hi
   have hlt : i < l.length := by omega
   refine Ev.to _ (fun k => ?_) (ih (i + 1) (by omega))
   simp only [laws_toIntS.l0]
   rw [if_pos (by omega), if_pos (by omega), if_pos (by simp; omega), rd_get l i hlt, w64 (by omega) (by omega)]
   have e : (l.take i ++ List.replicate (d + 1) 0).set (i : Int).toNat l[i] = l.take (i + 1) ++ List.replicate d 0 := by
    rw [List.take_succ_eq_append_getElem hlt, Int.toNat_natCast, List.set_append_right _ _ (by simp; omega)];have : i - (l.take i).length = 0 := by simp; omega
    rw [this, List.replicate_succ, List.set_cons_zero, List.append_assoc]
    rfl
   rw [e]
   rfl
 have := key l.length 0 (by omega)
 simpa using this
theorem e1_ (l : List Int) (hl : l.length ≤ 1048576) : Ev (fun k => laws_eqIntS.f k l l) true := by
 unfold laws_eqIntS.f
 refine Ev.itet rfl ?_
 have := runL_all (fun _ => true) l 0;rw [show (l.all fun _ => true) = true by simp] at this;rw [← this]
 refine ev_loop0 l (fun k i (_ : Unit) => laws_eqIntS.l0 k l l i) _ _ (fun _ _ => True) () trivial (fun i s hi _ => ⟨fun s' e => ⟨trivial, fun r hr => Ev.to _ (fun k => ?_) hr⟩, fun r e => by simp at e⟩) (fun s _ => Ev.stop fun k => ?_)
 ·simp only [laws_eqIntS.l0]
  rw [if_pos (by omega), if_pos (by omega), if_pos (by omega), if_pos trivial, w64 (by omega) (by omega)]
 ·simp only [laws_eqIntS.l0]
  rw [if_neg (by omega)]
def isB (w h : Int) (b : S58) : Bool := if b.f2 = true then decide (0 ≤ b.f0 ∧ b.f0 ≤ w - 1) && decide (0 ≤ b.f1 ∧ b.f1 ≤ h - 2) else decide (0 ≤ b.f0 ∧ b.f0 ≤ w - 2) && decide (0 ≤ b.f1 ∧ b.f1 ≤ h - 1)
theorem f1_ (w h : Int) (l : List S58) (b : S58) (hw : 1 ≤ w ∧ w ≤ 8) (hh : 1 ≤ h ∧ h ≤ 8) : impl_isBlock.f w h l b.f0 b.f1 b.f2 = some (isB w h b) := by
 unfold impl_isBlock.f isB
 rw [w64 (x := w - 1) (by omega) (by omega), w64 (x := h - 2) (by omega) (by omega), w64 (x := w - 2) (by omega) (by omega), w64 (x := h - 1) (by omega) (by omega)]
 simp only [a2_, Option.bind_some]
 cases b.f2
 ·simp only [Bool.false_eq_true, if_false]
  cases decide (0 ≤ b.f0 ∧ b.f0 ≤ w - 2) <;> simp
 ·simp only [if_true]
  cases decide (0 ≤ b.f0 ∧ b.f0 ≤ w - 1) <;> simp
theorem b1_ (w h : Int) (b : S58) (hw : 1 ≤ w ∧ w ≤ 8) (hh : 1 ≤ h ∧ h ≤ 8) : Ev (fun k => spec_avIs.f k w h b.f0 b.f1 b.f2) (isB w h b) := by
 unfold spec_avIs.f isB
 rw [w64 (x := w - 1) (by omega) (by omega), w64 (x := h - 1) (by omega) (by omega)]
 simp only [f3_, Option.bind_some]
 have no : ∀ r, r = false → Ev (fun k => spec_avIs.j0 k w h true b.f0 b.f1 b.f2) r := by
  rintro r rfl
  refine Ev.succ ?_
  simp only [spec_avIs.j0]
  exact Ev.itet (by trivial) (Ev.now _)
 by_cases h0 : 0 ≤ b.f0 ∧ b.f0 ≤ w - 1
 ·rw [decide_eq_true h0]
  simp only [if_true]
  by_cases h1 : 0 ≤ b.f1 ∧ b.f1 ≤ h - 1
  ·rw [decide_eq_true h1]
   refine Ev.succ ?_
   simp only [spec_avIs.j0]
   refine Ev.itef (by simp) ?_
   rw [w64 (x := w - 1) (by omega) (by omega), w64 (x := h - 1) (by omega) (by omega)];cases b.f2
   ·simp only [Bool.false_eq_true, if_false]
    have e : (decide (0 ≤ b.f0 ∧ b.f0 ≤ w - 2) && true) = decide (b.f0 < w - 1) := by rw [Bool.and_true]; apply decide_eq_decide.mpr; omega
    rw [e]
    exact Ev.now _
   ·simp only [if_true]
    have e : (true && decide (0 ≤ b.f1 ∧ b.f1 ≤ h - 2)) = decide (b.f1 < h - 1) := by rw [Bool.true_and]; apply decide_eq_decide.mpr; omega
    rw [e]
    exact Ev.now _
  ·rw [decide_eq_false h1]
   refine no _ ?_
   have h2 : ¬ (0 ≤ b.f1 ∧ b.f1 ≤ h - 2) := by omega
   rw [decide_eq_false h2]
   split <;> simp
 ·rw [decide_eq_false h0]
  simp only [Bool.false_eq_true, if_false]
  refine no _ ?_
  have h2 : ¬ (0 ≤ b.f0 ∧ b.f0 ≤ w - 2) := by omega
  rw [decide_eq_false h2]
  split <;> simp
def less (b c : S58) : Bool := if b.f0 = c.f0 then (if b.f1 = c.f1 then (if b.f2 = true then false else c.f2) else decide (b.f1 < c.f1)) else decide (b.f0 < c.f0)
theorem b2_ (b c : S58) : spec_avLess.f b.f0 b.f1 b.f2 c.f0 c.f1 c.f2 = some (less b c) := by
 unfold spec_avLess.f less
 repeat' split
 all_goals rfl
def cmpI (a b : Int) : Int := if a < b then -1 else if a > b then 1 else 0
theorem h3_ (a b : Int) : cmp_Compare_int.f a b = some (cmpI a b) := by
 unfold cmp_Compare_int.f cmp_isNaN_int.f cmpI
 simp only [Option.bind_some, bne_self_eq_false, Bool.false_eq_true, if_false]
 repeat' split
 all_goals rfl
def or3 (a b c : Int) : Int := if a = 0 then (if b = 0 then c else b) else a
theorem c3_ (a b c : Int) : Ev (fun k => cmp_Or_int.f k [a, b, c]) (or3 a b c) := by
 unfold cmp_Or_int.f or3
 refine Ev.succ ?_
 simp only [cmp_Or_int.l0]
 refine Ev.itet (by simp) (Ev.itet (by simp) (Ev.itet (by simp) ?_))
 rw [show rd [a, b, c] 0 = a from rfl, w64 (x := (0 : Int) + 1) (by omega) (by omega)]
 by_cases ha : a = 0
 ·rw [if_pos ha]
  refine Ev.itet ha (Ev.succ ?_)
  simp only [cmp_Or_int.l0]
  refine Ev.itet (by simp) (Ev.itet (by simp) (Ev.itet (by simp) ?_))
  rw [show rd [a, b, c] (0 + 1) = b from rfl, w64 (x := (0 : Int) + 1 + 1) (by omega) (by omega)]
  by_cases hb : b = 0
  ·rw [if_pos hb]
   refine Ev.itet hb (Ev.succ ?_)
   simp only [cmp_Or_int.l0]
   refine Ev.itet (by simp) (Ev.itet (by simp) (Ev.itet (by simp) ?_))
   rw [show rd [a, b, c] (0 + 1 + 1) = c from rfl, w64 (x := (0 : Int) + 1 + 1 + 1) (by omega) (by omega)]
   by_cases hc : c = 0
   ·refine Ev.itet hc (Ev.succ ?_)
    simp only [cmp_Or_int.l0]
    rw [hc]
    exact Ev.itef (by simp) (Ev.now _)
   ·exact Ev.itef hc (Ev.now _)
  ·rw [if_neg hb]
   exact Ev.itef hb (Ev.now _)
 ·rw [if_neg ha]
  exact Ev.itef ha (Ev.now _)
def cmpB (b c : S58) : Int := or3 (cmpI b.f0 c.f0) (cmpI b.f1 c.f1) (if (b.f2 != c.f2) = true then (if c.f2 = true then -1 else 1) else 0)
theorem h0_ (b c : S58) : Ev (fun k => impl_compareBlocks.f k b.f0 b.f1 b.f2 c.f0 c.f1 c.f2) (cmpB b c) := by
 unfold impl_compareBlocks.f cmpB
 simp only [h3_, Option.bind_some]
 by_cases h : (b.f2 != c.f2) = true
 ·rw [if_pos h]
  refine Ev.itet h ?_
  by_cases h2 : c.f2 = true
  ·rw [if_pos h2]
   exact Ev.itet h2 (Ev.bind (c3_ _ _ _) (Ev.now _))
  ·rw [if_neg h2]
   exact Ev.itef h2 (Ev.bind (c3_ _ _ _) (Ev.now _))
 ·rw [if_neg h]
  exact Ev.itef h (Ev.bind (c3_ _ _ _) (Ev.now _))
theorem g1_ (b c : S58) : (cmpB b c ≥ 0) ↔ less b c = false := by
 unfold cmpB less
 by_cases h0 : b.f0 = c.f0
 ·have e0 : cmpI b.f0 c.f0 = 0 := by unfold cmpI; rw [if_neg (by omega), if_neg (by omega)]
  rw [e0, if_pos h0]
  unfold or3
  rw [if_pos rfl]
  by_cases h1 : b.f1 = c.f1
  ·have e1 : cmpI b.f1 c.f1 = 0 := by unfold cmpI; rw [if_neg (by omega), if_neg (by omega)]
   rw [e1, if_pos rfl, if_pos h1];cases b.f2 <;> cases c.f2 <;> simp
  ·rw [if_neg h1]
   by_cases h2 : b.f1 < c.f1
   ·have e1 : cmpI b.f1 c.f1 = -1 := by unfold cmpI; rw [if_pos h2]
    rw [e1, if_neg (by decide), decide_eq_true h2]
    simp
   ·have e1 : cmpI b.f1 c.f1 = 1 := by unfold cmpI; rw [if_neg h2, if_pos (by omega)]
    rw [e1, if_neg (by decide), decide_eq_false h2]
    simp
 ·rw [if_neg h0]
  unfold or3
  by_cases h2 : b.f0 < c.f0
  ·have e1 : cmpI b.f0 c.f0 = -1 := by unfold cmpI; rw [if_pos h2]
   rw [e1, if_neg (by decide), decide_eq_true h2]
   simp
  ·have e1 : cmpI b.f0 c.f0 = 1 := by unfold cmpI; rw [if_neg h2, if_pos (by omega)]
   rw [e1, if_neg (by decide), decide_eq_false h2]
   simp
def okAt (w h : Int) (l : List S58) (i : Nat) : Bool := match l[i]? with
 | none => true
 | some c => isB w h c && (match i with
  | 0 => true
  | p + 1 => match l[p]? with
   | none => true
   | some b => less b c)
def chk (w h : Int) (l : List S58) : Nat → Nat → Bool
 | 0, _ => true
 | d + 1, i => okAt w h l i && chk w h l d (i + 1)
theorem h1_ (w h : Int) (l : List S58) (hl : l.length ≤ 1048576) (hw : 1 ≤ w ∧ w ≤ 8) (hh : 1 ≤ h ∧ h ≤ 8) : ∀ d i : Nat, i + d = l.length → Ev (fun k => spec_avGood.l0 k l (l.length : Int) (i : Int) w h l) (chk w h l d i)
 | 0, i, hi => Ev.stop fun k => by simp only [spec_avGood.l0]; rw [if_neg (by omega)]; rfl
 | d + 1, i, hi => by
  have ih := h1_ w h l hl hw hh d (i + 1) (by omega);have hlt : i < l.length := by omega
  have hwr : wrap64 ((i : Int) + 1) = ((i + 1 : Nat) : Int) := by rw [w64 (by omega) (by omega)]; rfl
  refine Ev.succ ?_
  simp only [spec_avGood.l0, chk, okAt, List.getElem?_eq_getElem hlt]
  rw [r0_ l i hlt, hwr]
  refine Ev.itet (by omega) (Ev.itet (by omega) (Ev.itet (by omega) (Ev.bind (b1_ w h l[i] hw hh) ?_)))
  cases isB w h l[i]
  ·exact Ev.itef (by simp) (Ev.now _)
  ·refine Ev.itet rfl ?_
   match i, hlt, ih with
   | 0, _, ih => exact Ev.itef (by simp) (by simpa using ih)
   | p + 1, hlt, ih =>
    have hlp : p < l.length := by omega
    have hwp : wrap64 (((p + 1 : Nat) : Int) - 1) = (p : Int) := by rw [w64 (by omega) (by omega)]; omega
    rw [hwp, r0_ l p hlp]
    simp only [List.getElem?_eq_getElem hlp, b2_, Option.bind_some]
    refine Ev.itet (by omega) (Ev.itet (by omega) (Ev.itet (by omega) ?_))
    cases less l[p] l[p + 1]
    ·exact Ev.itef (by simp) (Ev.now _)
    ·exact Ev.itet rfl (by simpa using ih)
theorem p2_ (w h : Int) (l : List S58) (hl : l.length ≤ 1048576) (hw : 1 ≤ w ∧ w ≤ 8) (hh : 1 ≤ h ∧ h ≤ 8) : ∀ d i : Nat, i + d = l.length → Ev (fun k => impl_IsCity.l0 k l (l.length : Int) (i : Int) w h l) (chk w h l d i)
 | 0, i, hi => Ev.stop fun k => by simp only [impl_IsCity.l0]; rw [if_neg (by omega)]; rfl
 | d + 1, i, hi => by
  have ih := p2_ w h l hl hw hh d (i + 1) (by omega);have hlt : i < l.length := by omega
  have hwr : wrap64 ((i : Int) + 1) = ((i + 1 : Nat) : Int) := by rw [w64 (by omega) (by omega)]; rfl
  refine Ev.succ ?_
  simp only [impl_IsCity.l0, chk, okAt, List.getElem?_eq_getElem hlt]
  rw [r0_ l i hlt, hwr, f1_ w h l l[i] hw hh]
  simp only [Option.bind_some]
  refine Ev.itet (by omega) (Ev.itet (by omega) (Ev.itet (by omega) ?_))
  cases isB w h l[i]
  ·exact Ev.itef (by simp) (Ev.now _)
  ·refine Ev.itet rfl ?_
   match i, hlt, ih with
   | 0, _, ih => exact Ev.itef (by simp) (by simpa using ih)
   | p + 1, hlt, ih =>
    have hlp : p < l.length := by omega
    have hwp : wrap64 (((p + 1 : Nat) : Int) - 1) = (p : Int) := by rw [w64 (by omega) (by omega)]; omega
    rw [hwp, r0_ l p hlp]
    simp only [List.getElem?_eq_getElem hlp]
    refine Ev.itet (by omega) (Ev.itet (by omega) (Ev.itet (by omega) (Ev.bind (h0_ l[p] l[p + 1]) ?_)))
    cases hls : less l[p] l[p + 1]
    ·exact Ev.itet ((g1_ _ _).2 hls) (Ev.now _)
    ·exact Ev.itef (fun e => by rw [(g1_ _ _).1 e] at hls; cases hls) (by simpa using ih)
def good (w h : Int) (l : List S58) : Bool := decide (1 ≤ w ∧ w ≤ 8) && (decide (1 ≤ h ∧ h ≤ 8) && (decide (l.length ≤ 30) && chk w h l l.length 0))
theorem p4_ (w h : Int) (l : List S58) (hl : l.length ≤ 1048576) : Ev (fun k => spec_avGood.f k w h l) (good w h l) := by
 unfold spec_avGood.f good
 simp only [f3_, Option.bind_some]
 have no : ∀ r, r = false → Ev (fun k => spec_avGood.j0 k true w h l) r := by
  rintro r rfl
  refine Ev.succ ?_
  simp only [spec_avGood.j0]
  exact Ev.itet (by trivial) (Ev.now _)
 by_cases h0 : 1 ≤ w ∧ w ≤ 8
 ·rw [decide_eq_true h0]
  simp only [if_true, Bool.true_and]
  by_cases h1 : 1 ≤ h ∧ h ≤ 8
  ·rw [decide_eq_true h1]
   simp only [if_true, Bool.true_and]
   by_cases h2 : l.length ≤ 30
   ·rw [decide_eq_true h2, Bool.true_and, decide_eq_false (by omega)]
    refine Ev.succ ?_
    simp only [spec_avGood.j0]
    exact Ev.itef (by simp) (h1_ w h l hl h0 h1 l.length 0 (by omega))
   ·rw [decide_eq_false h2, Bool.false_and, decide_eq_true (by omega)]
    exact no _ rfl
  ·rw [decide_eq_false h1]
   simp only [Bool.false_eq_true, if_false, Bool.false_and]
   exact no _ rfl
 ·rw [decide_eq_false h0]
  simp only [Bool.false_eq_true, if_false, Bool.false_and]
  exact no _ rfl
theorem q4_ (w h : Int) (l : List S58) (hl : l.length ≤ 1048576) : Ev (fun k => impl_IsCity.f k w h l) (good w h l) := by
 unfold impl_IsCity.f good
 simp only [a2_, Option.bind_some]
 have no : ∀ r, r = false → Ev (fun k => impl_IsCity.j0 k true w h l) r := by
  rintro r rfl
  refine Ev.succ ?_
  simp only [impl_IsCity.j0]
  exact Ev.itet (by trivial) (Ev.now _)
 by_cases h0 : 1 ≤ w ∧ w ≤ 8
 ·rw [decide_eq_true h0]
  simp only [if_true, Bool.true_and]
  by_cases h1 : 1 ≤ h ∧ h ≤ 8
  ·rw [decide_eq_true h1]
   simp only [if_true, Bool.true_and]
   by_cases h2 : l.length ≤ 30
   ·rw [decide_eq_true h2, Bool.true_and, decide_eq_false (by omega)]
    refine Ev.succ ?_
    simp only [impl_IsCity.j0]
    exact Ev.itef (by simp) (p2_ w h l hl h0 h1 l.length 0 (by omega))
   ·rw [decide_eq_false h2, Bool.false_and, decide_eq_true (by omega)]
    exact no _ rfl
  ·rw [decide_eq_false h1]
   simp only [Bool.false_eq_true, if_false, Bool.false_and]
   exact no _ rfl
 ·rw [decide_eq_false h0]
  simp only [Bool.false_eq_true, if_false, Bool.false_and]
  exact no _ rfl
set_option linter.unusedVariables false
def eqB (b c : S58) : Bool := b.f0 == c.f0 && (b.f1 == c.f1 && (b.f2 == c.f2))
def shut (l : List S58) (b : S58) : Bool := l.any (eqB b)
theorem q2_ (w h : Int) (l : List S58) (hl : l.length ≤ 1048576) (b : S58) : Ev (fun k => spec_avShut.f k w h l b.f0 b.f1 b.f2) (shut l b) := by
 unfold spec_avShut.f
 have key : ∀ (d i : Nat), i + d = l.length → Ev (fun k => spec_avShut.l0 k l (l.length : Int) (i : Int) b.f0 b.f1 b.f2) ((l.drop i).any (eqB b)) := by
  intro d
  induction d with
  | zero => exact fun i hi => Ev.stop fun k => by simp only [spec_avShut.l0]; rw [if_neg (by omega), List.drop_eq_nil_of_le (by omega)]; rfl
  | succ d ih =>
   intro i hi
   have hlt : i < l.length := by omega
   have ih := ih (i + 1) (by omega);have hw : wrap64 ((i : Int) + 1) = ((i + 1 : Nat) : Int) := by rw [w64 (by omega) (by omega)]; rfl
   refine Ev.succ ?_
   simp only [spec_avShut.l0]
   rw [r0_ l i hlt, hw, List.drop_eq_getElem_cons hlt, List.any_cons]
   refine Ev.itet (by omega) (Ev.itet (by omega) (Ev.itet (by omega) ?_))
   change Ev (fun k => if eqB b l[i] = true then _ else _) _
   cases eqB b l[i]
   ·exact Ev.itef (by simp) (by simpa using ih)
   ·exact Ev.itet rfl (Ev.now _)
 have := key l.length 0 (by omega)
 simpa [shut] using this
theorem e0_ (w h : Int) (l : List S58) (hl : l.length ≤ 1048576) (b : S58) : Ev (fun k => impl_isClosed.f k w h l b.f0 b.f1 b.f2) (shut l b) := by
 unfold impl_isClosed.f impl_Block_76.f
 have key : ∀ (d i : Nat), i + d = l.length → ∃ r : Int, decide (r ≥ 0) = (l.drop i).any (eqB b) ∧ Ev (fun k => impl_Block_83.l0 k l (l.length : Int) (i : Int) b.f0 b.f1 b.f2) r := by
  intro d
  induction d with
  | zero => exact fun i hi => ⟨-1, by rw [List.drop_eq_nil_of_le (by omega)]; rfl, Ev.stop fun k => by simp only [impl_Block_83.l0]; rw [if_neg (by omega)]⟩
  | succ d ih =>
   intro i hi
   have hlt : i < l.length := by omega
   obtain ⟨r, h1, h2⟩ := ih (i + 1) (by omega);have hw : wrap64 ((i : Int) + 1) = ((i + 1 : Nat) : Int) := by rw [w64 (by omega) (by omega)]; rfl
   rw [List.drop_eq_getElem_cons hlt, List.any_cons];cases he : eqB b l[i]
   ·refine ⟨r, by simpa using h1, Ev.succ ?_⟩
    simp only [impl_Block_83.l0]
    rw [r0_ l i hlt, hw]
    refine Ev.itet (by omega) (Ev.itet (by omega) (Ev.itet (by omega) ?_))
    change Ev (fun k => if eqB b l[i] = true then _ else _) _
    exact Ev.itef (by rw [he]; simp) h2
   ·refine ⟨(i : Int), by simp, Ev.succ ?_⟩
    simp only [impl_Block_83.l0]
    rw [r0_ l i hlt, hw]
    refine Ev.itet (by omega) (Ev.itet (by omega) (Ev.itet (by omega) ?_))
    change Ev (fun k => if eqB b l[i] = true then _ else _) _
    exact Ev.itet he (Ev.now _)
 obtain ⟨r, h1, h2⟩ := key l.length 0 (by omega)
 refine Ev.bind (Ev.bind h2 (Ev.now (decide (r ≥ 0)))) ?_
 rw [h1]
 simpa [shut] using Ev.now _
def tgt (s : Nat) (x y : Int) : Int × Int := match s with
 | 0 => (x + 1, y)
 | 1 => (x, y + 1)
 | 2 => (x, y - 1)
 | _ => (x - 1, y)
def bk (s : Nat) (x y : Int) : S58 := match s with
 | 0 => ⟨x, y, false⟩
 | 1 => ⟨x, y, true⟩
 | 2 => ⟨x, y - 1, true⟩
 | _ => ⟨x - 1, y, false⟩
def inC (w h : Int) (p : Int × Int) : Bool := decide (0 ≤ p.1 ∧ p.1 ≤ w - 1) && decide (0 ≤ p.2 ∧ p.2 ≤ h - 1)
theorem inC_iff {w h : Int} {p : Int × Int} : inC w h p = true ↔ (0 ≤ p.1 ∧ p.1 ≤ w - 1) ∧ (0 ≤ p.2 ∧ p.2 ≤ h - 1) := by simp [inC]
theorem e5_ (w h : Int) (s : Nat) (x y : Int) (hx : 0 ≤ x ∧ x ≤ w - 1) (hy : 0 ≤ y ∧ y ≤ h - 1) : isB w h (bk s x y) = inC w h (tgt s x y) := by
 rw [Bool.eq_iff_iff, inC_iff]
 match s with
 | 0 => simp [isB, bk, tgt]; omega
 | 1 => simp [isB, bk, tgt]; omega
 | 2 => simp [isB, bk, tgt]; omega
 | _ + 3 => simp [isB, bk, tgt]; omega
def okS (w h : Int) (l : List S58) (s : Nat) (x y : Int) : Bool := inC w h (tgt s x y) && !shut l (bk s x y)
def sg : Nat → Int
 | 0 => 101
 | 1 => 110
 | 2 => 115
 | _ => 119
theorem r4_ (w h : Int) (l : List S58) (hl : l.length ≤ 1048576) (hw : 1 ≤ w ∧ w ≤ 8) (hh : 1 ≤ h ∧ h ≤ 8) (s : Nat) (x y : Int) (hx : 0 ≤ x ∧ x ≤ w - 1) (hy : 0 ≤ y ∧ y ≤ h - 1) : Ev (fun k => spec_avStep.f k w h l x y (sg s)) (if okS w h l s x y = true then ((tgt s x y).1, (tgt s x y).2, true) else (0, 0, false)) := by
 have hj : Ev (fun k => spec_avStep.j0 k (tgt s x y).1 (tgt s x y).2 w h l (bk s x y).f0 (bk s x y).f1 (bk s x y).f2) (if okS w h l s x y = true then ((tgt s x y).1, (tgt s x y).2, true) else (0, 0, false)) := by
  refine Ev.succ ?_
  simp only [spec_avStep.j0]
  refine Ev.bind (b1_ w h (bk s x y) hw hh) ?_
  rw [e5_ w h s x y hx hy]
  unfold okS
  cases inC w h (tgt s x y)
  ·exact Ev.itef (by simp) (Ev.now _)
  ·refine Ev.itet rfl (Ev.bind (q2_ w h l hl (bk s x y)) ?_)
   cases shut l (bk s x y)
   ·exact Ev.itef (by simp) (Ev.now _)
   ·exact Ev.itet rfl (Ev.now _)
 unfold spec_avStep.f
 have e1 : wrap64 (x + 1) = x + 1 := w64 (by omega) (by omega);have e2 : wrap64 (x - 1) = x - 1 := w64 (by omega) (by omega);have e3 : wrap64 (y + 1) = y + 1 := w64 (by omega) (by omega);have e4 : wrap64 (y - 1) = y - 1 := w64 (by omega) (by omega);rw [e1, e2, e3, e4]
 match s, hj with
 | 0, hj => exact Ev.itet rfl hj
 | 1, hj => exact Ev.itef (by simp [sg]) (Ev.itef (by simp [sg]) (Ev.itet rfl hj))
 | 2, hj => exact Ev.itef (by simp [sg]) (Ev.itef (by simp [sg]) (Ev.itef (by simp [sg]) (Ev.itet rfl hj)))
 | _ + 3, hj => exact Ev.itef (by simp [sg]) (Ev.itet rfl hj)
theorem u3_ (s : Nat) (hs : s < 4) (x y : Int) (hx : 0 ≤ x ∧ x ≤ 100) (hy : 0 ≤ y ∧ y ≤ 100) : impl_moved.f [x, y] (s : Int) = some [(tgt s x y).1, (tgt s x y).2] := by
 have e1 : wrap64 (x + 1) = x + 1 := w64 (by omega) (by omega);have e2 : wrap64 (x - 1) = x - 1 := w64 (by omega) (by omega);have e3 : wrap64 (y + 1) = y + 1 := w64 (by omega) (by omega);have e4 : wrap64 (y - 1) = y - 1 := w64 (by omega) (by omega);have r0 : rd [x, y] 0 = x := rfl;have r1 : rd [x, y] 1 = y := rfl;have b0 : bt (⟨#[101, 110, 115, 119]⟩ : ByteArray) ((0 : Nat) : Int) = 101 := rfl;have b1 : bt (⟨#[101, 110, 115, 119]⟩ : ByteArray) ((1 : Nat) : Int) = 110 := rfl;have b2 : bt (⟨#[101, 110, 115, 119]⟩ : ByteArray) ((2 : Nat) : Int) = 115 := rfl;have b3 : bt (⟨#[101, 110, 115, 119]⟩ : ByteArray) ((3 : Nat) : Int) = 119 := rfl
 unfold impl_moved.f
 rw [r0, r1, e1, e2, e3, e4]
 match s, hs with
 | 0, _ => rw [b0]; simp [tgt]
 | 1, _ => rw [b1]; simp [tgt]
 | 2, _ => rw [b2]; simp [tgt]
 | 3, _ => rw [b3]; simp [tgt]
theorem f5_ (w h : Int) (l : List S58) (hl : l.length ≤ 1048576) (hw : 1 ≤ w ∧ w ≤ 8) (hh : 1 ≤ h ∧ h ≤ 8) (s : Nat) (hs : s < 4) (x y : Int) (hx : 0 ≤ x ∧ x ≤ w - 1) (hy : 0 ≤ y ∧ y ≤ h - 1) : Ev (fun k => impl_stepIn.can k w h l [x, y] (s : Int)) (okS w h l s x y) := by
 unfold impl_stepIn.can okS
 simp only [u3_ s hs x y (by omega) (by omega), Option.bind_some]
 have ei : impl_stepIn.in_ w h (rd [(tgt s x y).1, (tgt s x y).2] 0) (rd [(tgt s x y).1, (tgt s x y).2] 1) = inC w h (tgt s x y) := by
  unfold impl_stepIn.in_ inC
  rw [w64 (x := w - 1) (by omega) (by omega), w64 (x := h - 1) (by omega) (by omega)]
  rfl
 rw [ei];cases inC w h (tgt s x y)
 ·exact Ev.itef (by simp) (Ev.now _)
 ·refine Ev.itet rfl ?_
  have e0 : mn (rd [x, y] 0) (rd [(tgt s x y).1, (tgt s x y).2] 0) = (bk s x y).f0 := by
   show mn x (tgt s x y).1 = _
   unfold mn
   match s with
   | 0 => simp [tgt, bk]; omega
   | 1 => simp [tgt, bk]
   | 2 => simp [tgt, bk]
   | _ + 3 => simp [tgt, bk]; omega
  have e1 : mn (rd [x, y] 1) (rd [(tgt s x y).1, (tgt s x y).2] 1) = (bk s x y).f1 := by
   show mn y (tgt s x y).2 = _
   unfold mn
   match s with
   | 0 => simp [tgt, bk]
   | 1 => simp [tgt, bk]; omega
   | 2 => simp [tgt, bk]; omega
   | _ + 3 => simp [tgt, bk]
  have e2 : (rd [x, y] 0 == rd [(tgt s x y).1, (tgt s x y).2] 0) = (bk s x y).f2 := by
   show (x == (tgt s x y).1) = _
   match s with
   | 0 => simp [tgt, bk]; omega
   | 1 => simp [tgt, bk]
   | 2 => simp [tgt, bk]
   | _ + 3 => simp [tgt, bk]; omega
  rw [e0, e1, e2]
  exact Ev.bind (e0_ w h l hl (bk s x y)) (Ev.now _)
namespace Bfs
inductive Way (nb : Nat → List Nat) : Nat → Nat → Nat → Prop
  | here (u : Nat) : Way nb 0 u u
  | step {n u v w : Nat} : Way nb n u v → w ∈ nb v → Way nb (n + 1) u w
theorem Way.cons {nb : Nat → List Nat} {n v w : Nat} (h : Way nb n v w) : ∀ {u : Nat}, v ∈ nb u → Way nb (n + 1) u w := by
 induction h with
 | here x => exact fun hu => .step (.here _) hu
 | step _ hw ih => exact fun hu => .step (ih hu) hw
theorem Way.trans {nb : Nat → List Nat} {n m u v w : Nat} (h : Way nb n u v) (k : Way nb m v w) : Way nb (n + m) u w := by
 induction k with
 | here _ => exact h
 | step _ hw ih => exact .step (ih h) hw
theorem Way.zero {nb : Nat → List Nat} {u v : Nat} (h : Way nb 0 u v) : u = v := by cases h; rfl
theorem Way.lt {nb : Nat → List Nat} {N : Nat} (hN : ∀ v, v < N → ∀ w ∈ nb v, w < N) {n u v : Nat} (h : Way nb n u v) (hu : u < N) : v < N := by
 induction h with
 | here _ => exact hu
 | step _ hw ih => exact hN _ (ih hu) _ hw
theorem Way.turn {nb : Nat → List Nat} {N : Nat} (hN : ∀ v, v < N → ∀ w ∈ nb v, w < N) (hs : ∀ v, v < N → ∀ w ∈ nb v, v ∈ nb w) {n u v : Nat} (h : Way nb n u v) (hu : u < N) : Way nb n v u := by
 induction h with
 | here _ => exact .here _
 | step hv hw ih => exact (ih hu).cons (hs _ (hv.lt hN hu) _ hw)
def fa (far : List Int) (v : Nat) : Int := far.getD v 0
theorem fa_set {far : List Int} {w : Nat} (hw : w < far.length) (x : Int) (v : Nat) : fa (far.set w x) v = if v = w then x else fa far v := by
 unfold fa
 by_cases e : v = w
 ·subst e; simp [hw]
 ·rw [if_neg e, List.getD_eq_getElem?_getD, List.getD_eq_getElem?_getD, List.getElem?_set_ne (Ne.symm e)]
def visit (d : Int) : List Nat → List Int × List Nat → List Int × List Nat
 | [], s => s
 | n :: ns, s => visit d ns (if fa s.1 n < 0 then (s.1.set n (d + 1), s.2 ++ [n]) else s)
def run (nb : Nat → List Nat) : Nat → Nat → List Int × List Nat → Option (List Int)
 | 0, _, _ => none
 | f + 1, k, s => if k < s.2.length then run nb f (k + 1) (visit (fa s.1 (s.2.getD k 0)) (nb (s.2.getD k 0)) s) else some s.1
structure Mid (nb : Nat → List Nat) (N s : Nat) (d : Int) (k : Nat) (p : List Nat) (st : List Int × List Nat) : Prop where
  len : st.1.length = N
  qN : ∀ v ∈ st.2, v < N
  mem : ∀ v, v < N → (v ∈ st.2 ∧ 0 ≤ fa st.1 v ∨ v ∉ st.2 ∧ fa st.1 v = -1)
  way : ∀ v ∈ st.2, Way nb (fa st.1 v).toNat s v
  mono : (st.2.map (fa st.1)).Pairwise (· ≤ ·)
  near : ∀ v ∈ st.2, fa st.1 v ≤ d + 1
  src : s ∈ st.2 ∧ fa st.1 s = 0
  done : ∀ u ∈ st.2.take k, ∀ w ∈ nb u, w ∈ st.2 ∧ fa st.1 w ≤ fa st.1 u + 1
  seen : ∀ w ∈ p, w ∈ st.2 ∧ fa st.1 w ≤ d + 1
  nod : st.2.Nodup
  small : ∀ v ∈ st.2, fa st.1 v < st.2.length
theorem Mid.put {nb : Nat → List Nat} {N s : Nat} {d : Int} {k : Nat} {p : List Nat} {st : List Int × List Nat} (h : Mid nb N s d k p st) (hd : 0 ≤ d) (hk : k < st.2.length) (at_ : Nat) (hat : at_ ∈ st.2 ∧ fa st.1 at_ = d) (n : Nat) (hn : n ∈ nb at_) (hnN : n < N) :
  Mid nb N s d k (n :: p) (if fa st.1 n < 0 then (st.1.set n (d + 1), st.2 ++ [n]) else st) ∧ (∃ t, (if fa st.1 n < 0 then (st.1.set n (d + 1), st.2 ++ [n]) else st).2 = st.2 ++ t) ∧ fa (if fa st.1 n < 0 then (st.1.set n (d + 1), st.2 ++ [n]) else st).1 at_ = d := by
 by_cases hneg : fa st.1 n < 0
 ·rw [if_pos hneg]
  have hnq : n ∉ st.2 := by
   rcases h.mem n hnN with ⟨_, h2⟩ | ⟨h1, _⟩
   ·omega
   ·exact h1
  have hset : ∀ v, fa (st.1.set n (d + 1)) v = if v = n then d + 1 else fa st.1 v := fa_set (by rw [h.len]; exact hnN) _;have hold : ∀ v ∈ st.2, fa (st.1.set n (d + 1)) v = fa st.1 v := fun v hv => by rw [hset, if_neg (fun (e : v = n) => hnq (e ▸ hv))]
  refine ⟨⟨by simp [h.len], ?_, ?_, ?_, ?_, ?_, ?_, ?_, ?_, ?_, ?_⟩, ⟨[n], rfl⟩, by rw [hold _ hat.1]; exact hat.2⟩
  ·intro v hv
   rcases List.mem_append.1 hv with hv | hv
   ·exact h.qN v hv
   ·rw [List.mem_singleton.1 hv]; exact hnN
  ·intro v hv
   simp only [hset, List.mem_append, List.mem_singleton]
   by_cases e : v = n
   ·left; rw [if_pos e]; exact ⟨.inr e, by omega⟩
   ·rw [if_neg e]
    rcases h.mem v hv with ⟨h1, h2⟩ | ⟨h1, h2⟩
    ·exact .inl ⟨.inl h1, h2⟩
    ·exact .inr ⟨fun e' => e'.elim h1 e, h2⟩
  ·intro v hv
   rcases List.mem_append.1 hv with hv | hv
   ·simp only [hold v hv]; exact h.way v hv
   ·obtain rfl := List.mem_singleton.1 hv
    simp only [hset, if_true]
    rw [Int.toNat_add hd (by omega)];have hw := h.way at_ hat.1;rw [hat.2] at hw
    exact .step hw hn
  ·simp only [List.map_append, List.map_cons, List.map_nil]
   rw [List.pairwise_append]
   refine ⟨?_, List.pairwise_singleton _ _, ?_⟩
   ·rw [List.map_congr_left hold]; exact h.mono
   ·intro a ha b hb
    obtain ⟨v, hv, rfl⟩ := List.mem_map.1 ha;rw [List.mem_singleton.1 hb, hold v hv, hset, if_pos rfl]
    exact h.near v hv
  ·intro v hv
   rcases List.mem_append.1 hv with hv | hv
   ·simp only [hold v hv]; exact h.near v hv
   ·obtain rfl := List.mem_singleton.1 hv
    simp only [hset, if_true]; omega
  ·exact ⟨List.mem_append_left _ h.src.1, by simp only [hold s h.src.1]; exact h.src.2⟩
  ·intro u hu w hw
   simp only [List.take_append_of_le_length (Nat.le_of_lt hk)] at hu
   have huq := List.mem_of_mem_take hu;obtain ⟨h1, h2⟩ := h.done u hu w hw
   exact ⟨List.mem_append_left _ h1, by simp only [hold w h1, hold u huq]; exact h2⟩
  ·intro w hw
   rcases List.mem_cons.1 hw with rfl | hw
   ·exact ⟨by simp, by simp only [hset, if_true]; omega⟩
   ·obtain ⟨h1, h2⟩ := h.seen w hw
    exact ⟨List.mem_append_left _ h1, by simp only [hold w h1]; exact h2⟩
  ·exact List.nodup_append.2 ⟨h.nod, by simp, fun a ha b hb => by rw [List.mem_singleton.1 hb]; exact fun e => hnq (e ▸ ha)⟩
  ·intro v hv
   simp only [List.length_append, List.length_singleton]
   rcases List.mem_append.1 hv with hv | hv
   ·simp only [hold v hv]; have := h.small v hv; omega
   ·obtain rfl := List.mem_singleton.1 hv
    simp only [hset, if_true]
    have := h.small at_ hat.1;rw [hat.2] at this
    omega
 ·rw [if_neg hneg]
  have hnq : n ∈ st.2 := by
   rcases h.mem n hnN with ⟨h1, _⟩ | ⟨_, h2⟩
   ·exact h1
   ·omega
  refine ⟨{ h with seen := fun w hw => ?_ }, ⟨[], by simp⟩, hat.2⟩
  rcases List.mem_cons.1 hw with rfl | hw
  ·exact ⟨hnq, h.near _ hnq⟩
  ·exact h.seen w hw
theorem Mid.visit {nb : Nat → List Nat} {N s : Nat} {d : Int} {k : Nat} (hd : 0 ≤ d) (at_ : Nat) (hatN : ∀ w ∈ nb at_, w < N) : ∀ (ns p : List Nat) (st : List Int × List Nat), Mid nb N s d k p st → k < st.2.length → at_ ∈ st.2 ∧ fa st.1 at_ = d → (∀ w ∈ ns, w ∈ nb at_) →
  ∃ p', (∀ w, w ∈ p' ↔ w ∈ ns ∨ w ∈ p) ∧ Mid nb N s d k p' (visit d ns st) ∧ (∃ t, (visit d ns st).2 = st.2 ++ t) ∧ fa (visit d ns st).1 at_ = d
 | [], p, st, h, hk, hat, _ => ⟨p, by simp, h, ⟨[], by simp [Bfs.visit]⟩, hat.2⟩
 | n :: ns, p, st, h, hk, hat, hns => by
  obtain ⟨h1, ⟨t1, ht1⟩, h3⟩ := h.put hd hk at_ hat n (hns n (by simp)) (hatN n (hns n (by simp)));obtain ⟨p', hp', h4, ⟨t2, ht2⟩, h5⟩ := Mid.visit hd at_ hatN ns (n :: p) _ h1 (by rw [ht1]; simp; omega) ⟨by rw [ht1]; exact List.mem_append_left _ hat.1, h3⟩ (fun w hw => hns w (by simp [hw]))
  refine ⟨p', fun w => ?_, h4, ⟨t1 ++ t2, ?_⟩, h5⟩
  ·rw [hp' w]; simp only [List.mem_cons]
   constructor
   ·rintro (h | h | h)
    ·exact .inl (.inr h)
    ·exact .inl (.inl h)
    ·exact .inr h
   ·rintro ((h | h) | h)
    ·exact .inr (.inl h)
    ·exact .inl h
    ·exact .inr (.inr h)
  ·rw [← List.append_assoc, ← ht1]; exact ht2
structure Inv (nb : Nat → List Nat) (N s k : Nat) (st : List Int × List Nat) : Prop where
  len : st.1.length = N
  qN : ∀ v ∈ st.2, v < N
  mem : ∀ v, v < N → (v ∈ st.2 ∧ 0 ≤ fa st.1 v ∨ v ∉ st.2 ∧ fa st.1 v = -1)
  way : ∀ v ∈ st.2, Way nb (fa st.1 v).toNat s v
  mono : (st.2.map (fa st.1)).Pairwise (· ≤ ·)
  near : ∀ v ∈ st.2, k < st.2.length → fa st.1 v ≤ fa st.1 (st.2.getD k 0) + 1
  src : s ∈ st.2 ∧ fa st.1 s = 0
  done : ∀ u ∈ st.2.take k, ∀ w ∈ nb u, w ∈ st.2 ∧ fa st.1 w ≤ fa st.1 u + 1
  nod : st.2.Nodup
  kle : k ≤ st.2.length
  small : ∀ v ∈ st.2, fa st.1 v < st.2.length
theorem p1_ {q : List Nat} {k : Nat} (h : k < q.length) : q[k] = q.getD k 0 := by rw [List.getD_eq_getElem?_getD, List.getElem?_eq_getElem h]; rfl
theorem getD_mem {q : List Nat} {k : Nat} (h : k < q.length) : q.getD k 0 ∈ q := by
 rw [List.getD_eq_getElem?_getD, List.getElem?_eq_getElem h]; exact List.getElem_mem h
theorem Inv.at_ {nb : Nat → List Nat} {N s k : Nat} {st : List Int × List Nat} (h : Inv nb N s k st) (hk : k < st.2.length) : st.2.getD k 0 < N ∧ 0 ≤ fa st.1 (st.2.getD k 0) := by
 have hm := getD_mem hk
 refine ⟨h.qN _ hm, ?_⟩
 rcases h.mem _ (h.qN _ hm) with ⟨_, h2⟩ | ⟨h1, _⟩
 ·exact h2
 ·exact absurd hm h1
theorem Inv.round {nb : Nat → List Nat} {N s k : Nat} {st : List Int × List Nat} (hN : ∀ v, v < N → ∀ w ∈ nb v, w < N) (h : Inv nb N s k st) (hk : k < st.2.length) : Inv nb N s (k + 1) (visit (fa st.1 (st.2.getD k 0)) (nb (st.2.getD k 0)) st) := by
 have hm := getD_mem hk;obtain ⟨h1, h0⟩ := h.at_ hk;have hM : Mid nb N s (fa st.1 (st.2.getD k 0)) k [] st := ⟨h.len, h.qN, h.mem, h.way, h.mono, fun v hv => h.near v hv hk, h.src, h.done, (fun w hw => by cases hw), h.nod, h.small⟩;obtain ⟨p', hp', h4, ⟨t, ht⟩, h5⟩ := Mid.visit h0 (st.2.getD k 0) (hN _ h1) (nb (st.2.getD k 0)) [] st hM hk ⟨hm, rfl⟩ (fun w hw => hw)
 have hsame : (visit (fa st.1 (st.2.getD k 0)) (nb (st.2.getD k 0)) st).2.getD k 0 = st.2.getD k 0 := by
  rw [ht, List.getD_eq_getElem?_getD, List.getD_eq_getElem?_getD, List.getElem?_append_left hk]
 have hlt : k < (visit (fa st.1 (st.2.getD k 0)) (nb (st.2.getD k 0)) st).2.length := by rw [ht]; simp; omega
 refine ⟨h4.len, h4.qN, h4.mem, h4.way, h4.mono, fun v hv hk1 => ?_, h4.src, fun u hu w hw => ?_, h4.nod, by omega, h4.small⟩
 ·have h6 := h4.near v hv
  have h7 : fa (visit (fa st.1 (st.2.getD k 0)) (nb (st.2.getD k 0)) st).1 (st.2.getD k 0) ≤ fa (visit (fa st.1 (st.2.getD k 0)) (nb (st.2.getD k 0)) st).1 ((visit (fa st.1 (st.2.getD k 0)) (nb (st.2.getD k 0)) st).2.getD (k + 1) 0) := by
   have hp := List.pairwise_iff_getElem.1 h4.mono k (k + 1) (by simpa using hlt) (by simpa using hk1) (by omega);rw [List.getElem_map, List.getElem_map] at hp
   have e1 : (visit (fa st.1 (st.2.getD k 0)) (nb (st.2.getD k 0)) st).2[k] = st.2.getD k 0 := by
    exact (p1_ hlt).trans hsame
   have e2 : (visit (fa st.1 (st.2.getD k 0)) (nb (st.2.getD k 0)) st).2[k + 1] = (visit (fa st.1 (st.2.getD k 0)) (nb (st.2.getD k 0)) st).2.getD (k + 1) 0 := by
    exact p1_ hk1
   rw [e1, e2] at hp
   exact hp
  rw [h5] at h7
  omega
 ·rw [List.take_succ_eq_append_getElem hlt] at hu
  rcases List.mem_append.1 hu with hu | hu
  ·exact h4.done u hu w hw
  ·have e1 : (visit (fa st.1 (st.2.getD k 0)) (nb (st.2.getD k 0)) st).2[k] = st.2.getD k 0 := by
    exact (p1_ hlt).trans hsame
   rw [List.mem_singleton.1 hu, e1] at hw ⊢;have := h4.seen w ((hp' w).2 (.inl hw));rw [h5]
   exact this
structure Dist (nb : Nat → List Nat) (N s : Nat) (far : List Int) : Prop where
  len : far.length = N
  all : ∀ v, v < N → (fa far v = -1 ∧ ∀ n, ¬ Way nb n s v) ∨ (0 ≤ fa far v ∧ Way nb (fa far v).toNat s v ∧ ∀ n : Nat, Way nb n s v → fa far v ≤ n)
theorem Inv.fin {nb : Nat → List Nat} {N s k : Nat} {st : List Int × List Nat} (h : Inv nb N s k st) (hk : ¬ k < st.2.length) : Dist nb N s st.1 := by
 have hfull : st.2.take k = st.2 := List.take_of_length_le (by omega)
 have key : ∀ (n v : Nat), Way nb n s v → v ∈ st.2 ∧ fa st.1 v ≤ n := by
  intro n v hw
  induction hw with
  | here _ => exact ⟨h.src.1, by rw [h.src.2]; omega⟩
  | @step n s v w hv hw ih =>
   obtain ⟨h1, h2⟩ := ih h;obtain ⟨h3, h4⟩ := h.done v (by rw [hfull]; exact h1) w hw
   exact ⟨h3, by omega⟩
 refine ⟨h.len, fun v hv => ?_⟩
 rcases h.mem v hv with ⟨h1, h2⟩ | ⟨h1, h2⟩
 ·exact .inr ⟨h2, h.way v h1, fun n hw => (key n v hw).2⟩
 ·exact .inl ⟨h2, fun n hw => h1 (key n v hw).1⟩
theorem nodup_le {N : Nat} : ∀ (q : List Nat), q.Nodup → (∀ v ∈ q, v < N) → q.length ≤ N := by
 intro q hq hN
 have : q.length ≤ (List.range N).length := List.Nodup.length_le_of_subset hq (fun v hv => List.mem_range.2 (hN v hv))
 simpa using this
theorem run_ends {nb : Nat → List Nat} {N s : Nat} (hN : ∀ v, v < N → ∀ w ∈ nb v, w < N) : ∀ (f k : Nat) (st : List Int × List Nat), Inv nb N s k st → N + 1 ≤ f + k → ∃ far, run nb f k st = some far ∧ Dist nb N s far
 | 0, k, st, h, hf => by
  have h1 := h.kle
  have h2 := nodup_le st.2 h.nod h.qN
  omega
 | f + 1, k, st, h, hf => by
  unfold run
  by_cases hk : k < st.2.length
  ·rw [if_pos hk]
   exact run_ends hN f (k + 1) _ (h.round hN hk) (by omega)
  ·rw [if_neg hk]
   exact ⟨_, rfl, h.fin hk⟩
def start (N s : Nat) : List Int × List Nat := ((List.replicate N (-1)).set s 0, [s])
theorem start_inv (nb : Nat → List Nat) {N s : Nat} (hs : s < N) : Inv nb N s 0 (start N s) := by
 have hset : ∀ v, fa (start N s).1 v = if v = s then 0 else fa (List.replicate N (-1)) v := fa_set (by simpa using hs) 0;have hrep : ∀ v, v < N → fa (List.replicate N (-1)) v = -1 := fun v hv => by unfold fa; simp [hv]
 have hss : fa (start N s).1 s = 0 := by rw [hset, if_pos rfl]
 refine ⟨by simp [start], fun v hv => by rw [List.mem_singleton.1 hv]; exact hs, fun v hv => ?_, fun v hv => ?_, List.pairwise_singleton _ _, fun v hv _ => ?_, ⟨by simp [start], hss⟩, fun u hu => by simp at hu, by simp [start], by simp, fun v hv => by rw [List.mem_singleton.1 hv, hss]; simp [start]⟩
 ·by_cases e : v = s
  ·left; rw [e, hss]; exact ⟨by simp [start], by omega⟩
  ·right; rw [hset, if_neg e, hrep v hv]; exact ⟨by simp [start, e], rfl⟩
 ·rw [List.mem_singleton.1 hv, hss]; exact .here _
 ·rw [List.mem_singleton.1 hv]; simp only [start, List.getD_cons_zero]; omega
theorem Dist.turn {nb : Nat → List Nat} {N s t : Nat} {far far' : List Int} (hN : ∀ v, v < N → ∀ w ∈ nb v, w < N) (hsym : ∀ v, v < N → ∀ w ∈ nb v, v ∈ nb w) (hs : s < N) (ht : t < N) (h : Dist nb N s far) (h' : Dist nb N t far') : fa far t = fa far' s := by
 rcases h.all t ht with ⟨a1, a2⟩ | ⟨a1, a2, a3⟩ <;> rcases h'.all s hs with ⟨b1, b2⟩ | ⟨b1, b2, b3⟩
 ·rw [a1, b1]
 ·exact absurd (b2.turn hN hsym ht) (a2 _)
 ·exact absurd (a2.turn hN hsym hs) (b2 _)
 ·have := a3 _ (b2.turn hN hsym ht); have := b3 _ (a2.turn hN hsym hs); omega
end Bfs
def xN (h : Int) (v : Nat) : Int := (v : Int) / h
def yN (h : Int) (v : Nat) : Int := (v : Int) % h
def node (h x y : Int) : Nat := (x * h + y).toNat
theorem p0_ {w h x y : Int} (hh : 1 ≤ h) (hx : 0 ≤ x ∧ x ≤ w - 1) (hy : 0 ≤ y ∧ y ≤ h - 1) : ((node h x y : Nat) : Int) = x * h + y ∧ node h x y < (w * h).toNat := by
 have h1 : 0 ≤ x * h := Int.mul_nonneg hx.1 (by omega)
 have h2 : x * h ≤ (w - 1) * h := Int.mul_le_mul_of_nonneg_right hx.2 (by omega)
 rw [Int.sub_mul, Int.one_mul] at h2
 unfold node
 omega
theorem u0_ {w h x y : Int} (hh : 1 ≤ h) (hx : 0 ≤ x ∧ x ≤ w - 1) (hy : 0 ≤ y ∧ y ≤ h - 1) : xN h (node h x y) = x ∧ yN h (node h x y) = y := by
 have h1 := (p0_ hh hx hy).1
 unfold xN yN
 rw [h1, Int.add_comm, Int.add_mul_ediv_right _ _ (by omega), Int.ediv_eq_zero_of_lt (by omega) (by omega), Int.add_mul_emod_self_right, Int.emod_eq_of_lt (by omega) (by omega)]
 exact ⟨by omega, rfl⟩
theorem z2_ {w h : Int} (hh : 1 ≤ h) {v : Nat} (hv : v < (w * h).toNat) : (0 ≤ xN h v ∧ xN h v ≤ w - 1) ∧ (0 ≤ yN h v ∧ yN h v ≤ h - 1) := by
 unfold xN yN
 have h1 := Int.ediv_nonneg (a := (v : Int)) (b := h) (by omega) (by omega)
 have h2 : (v : Int) / h < w := Int.ediv_lt_of_lt_mul (by omega) (by omega)
 have h3 := Int.emod_nonneg (v : Int) (b := h) (by omega)
 have h4 := Int.emod_lt_of_pos (v : Int) (b := h) (by omega)
 omega
theorem v3_ {w h : Int} (hh : 1 ≤ h) {v : Nat} (hv : v < (w * h).toNat) : node h (xN h v) (yN h v) = v := by
 unfold node xN yN
 have := Int.mul_ediv_add_emod (v : Int) h
 rw [Int.mul_comm] at this
 omega
def nbO (w h : Int) (l : List S58) (v s : Nat) : Option Nat := if okS w h l s (xN h v) (yN h v) = true then some (node h (tgt s (xN h v) (yN h v)).1 (tgt s (xN h v) (yN h v)).2) else none
def nbU (w h : Int) (l : List S58) (n v : Nat) : List Nat := (List.range n).filterMap (nbO w h l v)
def nb (w h : Int) (l : List S58) (v : Nat) : List Nat := nbU w h l 4 v
theorem c2_ {w h : Int} {l : List S58} {s : Nat} {x y : Int} (hk : okS w h l s x y = true) : (0 ≤ (tgt s x y).1 ∧ (tgt s x y).1 ≤ w - 1) ∧ (0 ≤ (tgt s x y).2 ∧ (tgt s x y).2 ≤ h - 1) := by
 unfold okS at hk
 exact inC_iff.1 ((Bool.and_eq_true _ _ ▸ hk).1)
theorem mem_nb {w h : Int} {l : List S58} {v u : Nat} : u ∈ nb w h l v ↔ ∃ s, s < 4 ∧ okS w h l s (xN h v) (yN h v) = true ∧ node h (tgt s (xN h v) (yN h v)).1 (tgt s (xN h v) (yN h v)).2 = u := by
 unfold nb nbU
 simp only [List.mem_filterMap, List.mem_range, nbO]
 constructor
 ·rintro ⟨s, hs, e⟩
  by_cases hk : okS w h l s (xN h v) (yN h v) = true
  ·rw [if_pos hk] at e; exact ⟨s, hs, hk, Option.some.inj e⟩
  ·rw [if_neg hk] at e; cases e
 ·rintro ⟨s, hs, hk, e⟩
  exact ⟨s, hs, by rw [if_pos hk, e]⟩
theorem z1_ {w h : Int} (hh : 1 ≤ h) (l : List S58) (v : Nat) : ∀ u ∈ nb w h l v, u < (w * h).toNat := by
 intro u hu
 obtain ⟨s, _, hk, rfl⟩ := mem_nb.1 hu
 obtain ⟨h1, h2⟩ := c2_ hk
 exact (p0_ hh h1 h2).2
def opp (s : Nat) : Nat := 3 - s
theorem z5_ {w h : Int} (l : List S58) {s : Nat} (hs : s < 4) {x y : Int} (hx : 0 ≤ x ∧ x ≤ w - 1) (hy : 0 ≤ y ∧ y ≤ h - 1) (hk : okS w h l s x y = true) : okS w h l (opp s) (tgt s x y).1 (tgt s x y).2 = true ∧ tgt (opp s) (tgt s x y).1 (tgt s x y).2 = (x, y) := by
 have e1 : tgt (opp s) (tgt s x y).1 (tgt s x y).2 = (x, y) := by
  match s, hs with
  | 0, _ => simp [tgt, opp]
  | 1, _ => simp [tgt, opp]
  | 2, _ => simp [tgt, opp]
  | 3, _ => simp [tgt, opp]
 have e2 : bk (opp s) (tgt s x y).1 (tgt s x y).2 = bk s x y := by
  match s, hs with
  | 0, _ => simp [tgt, opp, bk]
  | 1, _ => simp [tgt, opp, bk]
  | 2, _ => simp [tgt, opp, bk]
  | 3, _ => simp [tgt, opp, bk]
 refine ⟨?_, e1⟩
 unfold okS at hk ⊢
 rw [e1, e2, Bool.and_eq_true] at *
 exact ⟨inC_iff.2 ⟨hx, hy⟩, hk.2⟩
theorem g5_ {w h : Int} (hh : 1 ≤ h) (l : List S58) (v : Nat) (hv : v < (w * h).toNat) : ∀ u ∈ nb w h l v, v ∈ nb w h l u := by
 intro u hu
 obtain ⟨s, hs, hk, rfl⟩ := mem_nb.1 hu
 obtain ⟨h1, h2⟩ := c2_ hk
 obtain ⟨h3, h4⟩ := z2_ hh hv
 obtain ⟨k1, k2⟩ := z5_ l hs h3 h4 hk
 obtain ⟨e1, e2⟩ := u0_ hh h1 h2
 refine mem_nb.2 ⟨opp s, by unfold opp; omega, ?_, ?_⟩
 ·rw [e1, e2]; exact k1
 ·rw [e1, e2, k2]; exact v3_ hh hv
theorem v0_ (d : Int) : ∀ (a b : List Nat) (st : List Int × List Nat), Bfs.visit d (a ++ b) st = Bfs.visit d b (Bfs.visit d a st)
 | [], _, _ => rfl
 | _ :: a, b, st => v0_ d a b _
structure Rd (N : Nat) (at_ : Nat) (d : Int) (m : Nat) (st : List Int × List Nat) : Prop where
  len : st.1.length = N
  q : st.2.length ≤ m
  fa : Bfs.fa st.1 at_ = d
  atN : at_ < N
theorem Rd.put {N at_ : Nat} {d : Int} {m : Nat} {st : List Int × List Nat} (h : Rd N at_ d m st) (hd : 0 ≤ d) (n : Nat) (hn : n < N) : Rd N at_ d (m + 1) (if Bfs.fa st.1 n < 0 then (st.1.set n (d + 1), st.2 ++ [n]) else st) := by
 by_cases hneg : Bfs.fa st.1 n < 0
 ·rw [if_pos hneg]
  refine ⟨by simp [h.len], by have := h.q; simp; omega, ?_, h.atN⟩
  rw [Bfs.fa_set (by rw [h.len]; exact hn), if_neg (fun e => by rw [← e, h.fa] at hneg; omega)]
  exact h.fa
 ·rw [if_neg hneg]
  exact ⟨h.len, by have := h.q; omega, h.fa, h.atN⟩
theorem f4_ (w h : Int) (l : List S58) (hl : l.length ≤ 1048576) (hw : 1 ≤ w ∧ w ≤ 8) (hh : 1 ≤ h ∧ h ≤ 8) (v s : Nat) (hv : v < (w * h).toNat) (d : Int) (hd : 0 ≤ d ∧ d ≤ 1000) (m : Nat) (hm : m < 1000) (st : List Int × List Nat) (hr : Rd (w * h).toNat v d m st) :
  Ev (fun k => spec_avFar.step k w h l (v : Int) (sg s) (st.1, st.2.map Int.ofNat)) ((Bfs.visit d (nbO w h l v s).toList st).1, (Bfs.visit d (nbO w h l v s).toList st).2.map Int.ofNat) ∧ Rd (w * h).toNat v d (m + 1) (Bfs.visit d (nbO w h l v s).toList st) := by
 obtain ⟨hx, hy⟩ := z2_ hh.1 hv
 unfold spec_avFar.step nbO
 have hs := r4_ w h l hl hw hh s (xN h v) (yN h v) hx hy
 by_cases hk : okS w h l s (xN h v) (yN h v) = true
 ·rw [if_pos hk] at hs ⊢
  obtain ⟨h1, h2⟩ := c2_ hk;obtain ⟨e1, e2⟩ := p0_ hh.1 h1 h2
  generalize hg : tgt s (xN h v) (yN h v) = p at hs h1 h2 e1 e2
  obtain ⟨x, y⟩ := p
  simp only [] at hs h1 h2 e1 e2
  have hwh : w * h ≤ 8 * 8 := Int.le_trans (Int.mul_le_mul_of_nonneg_right hw.2 (by omega)) (Int.mul_le_mul_of_nonneg_left hh.2 (by omega));have hxh : 0 ≤ x * h := Int.mul_nonneg h1.1 (by omega)
  have ew : wrap64 (wrap64 (x * h) + y) = ((node h x y : Nat) : Int) := by
   rw [w64 (x := x * h) (by omega) (by omega), ← e1, w64 (by omega) (by omega)]
  have hlen := hr.len;have hq := hr.q
  refine ⟨?_, by simpa [Bfs.visit] using hr.put hd.1 _ e2⟩
  refine Ev.bind hs ?_
  simp only [Option.toList, Bfs.visit]
  rw [ew]
  refine Ev.itet trivial (Ev.itet ⟨by omega, by omega, by simp; omega⟩ ?_)
  have er : rd st.1 ((node h x y : Nat) : Int) = Bfs.fa st.1 (node h x y) := rfl;have ea : rd st.1 (v : Int) = d := hr.fa;rw [er, ea, w64 (x := d + 1) (by omega) (by omega)]
  by_cases hneg : Bfs.fa st.1 (node h x y) < 0
  ·refine Ev.itet hneg ?_
   rw [if_pos hneg]
   simpa using Ev.now _
  ·refine Ev.itef hneg ?_
   rw [if_neg hneg]
   exact Ev.now _
 ·rw [if_neg hk] at hs ⊢
  refine ⟨Ev.bind hs (Ev.itef (by simp) (Ev.now _)), ?_⟩
  exact ⟨hr.len, by have := hr.q; simp only [Option.toList, Bfs.visit]; omega, hr.fa, hr.atN⟩
theorem d2_ (w h : Int) (l : List S58) (n v : Nat) : nbU w h l (n + 1) v = nbU w h l n v ++ (nbO w h l v n).toList := by
 unfold nbU
 rw [List.range_succ, List.filterMap_append]
 congr 1
theorem r2_ (w h : Int) (l : List S58) (hl : l.length ≤ 1048576) (hw : 1 ≤ w ∧ w ≤ 8) (hh : 1 ≤ h ∧ h ≤ 8) (v : Nat) (hv : v < (w * h).toNat) (d : Int) (hd : 0 ≤ d ∧ d ≤ 1000) (m : Nat) (hm : m < 900) (st : List Int × List Nat) (hr : Rd (w * h).toNat v d m st) :
  ∀ j, j ≤ 4 → Ev (fun k => spec_avFar.steps k w h l (v : Int) j (st.1, st.2.map Int.ofNat)) ((Bfs.visit d (nbU w h l j v) st).1, (Bfs.visit d (nbU w h l j v) st).2.map Int.ofNat) ∧ Rd (w * h).toNat v d (m + j) (Bfs.visit d (nbU w h l j v) st)
 | 0, _ => ⟨Ev.now _, hr⟩
 | j + 1, hj => by
  obtain ⟨h1, h2⟩ := r2_ w h l hl hw hh v hv d hd m hm st hr j (by omega);obtain ⟨h3, h4⟩ := f4_ w h l hl hw hh v j hv d hd (m + j) (by omega) _ h2;rw [d2_, v0_]
  exact ⟨Ev.bind h1 h3, h4⟩
theorem r5_ {w h : Int} (hw : 1 ≤ w ∧ w ≤ 8) (hh : 1 ≤ h ∧ h ≤ 8) : 1 ≤ w * h ∧ w * h ≤ 64 := by
 have h1 : w * h ≤ 8 * 8 := Int.le_trans (Int.mul_le_mul_of_nonneg_right hw.2 (by omega)) (Int.mul_le_mul_of_nonneg_left hh.2 (by omega))
 have h2 : 1 * 1 ≤ w * h := Int.mul_le_mul hw.1 hh.1 (by omega) (by omega)
 omega
theorem u4_ {w h : Int} (hw : 1 ≤ w ∧ w ≤ 8) (hh : 1 ≤ h ∧ h ≤ 8) {nbf : Nat → List Nat} {s k : Nat} {st : List Int × List Nat} (hi : Bfs.Inv nbf (w * h).toNat s k st) (hk : k < st.2.length) : Rd (w * h).toNat (st.2.getD k 0) (Bfs.fa st.1 (st.2.getD k 0)) 64 st ∧ 0 ≤ Bfs.fa st.1 (st.2.getD k 0) ∧ Bfs.fa st.1 (st.2.getD k 0) ≤ 1000 := by
 have h1 := r5_ hw hh
 have h2 := Bfs.nodup_le st.2 hi.nod hi.qN
 obtain ⟨h3, h4⟩ := hi.at_ hk
 have h5 := hi.small _ (Bfs.getD_mem hk)
 exact ⟨⟨hi.len, by omega, rfl, h3⟩, h4, by omega⟩
theorem z3_ (w h : Int) (l : List S58) (hl : l.length ≤ 1048576) (hw : 1 ≤ w ∧ w ≤ 8) (hh : 1 ≤ h ∧ h ≤ 8) (s : Nat) (far : List Int) : ∀ (f i : Nat) (st : List Int × List Nat), Bfs.Inv (nb w h l) (w * h).toNat s i st → Bfs.run (nb w h l) f i st = some far → Ev (fun k => spec_avFar.l1 w h l k i (st.1, st.2.map Int.ofNat)) far
 | 0, i, st, hi, he => by cases he
 | f + 1, i, st, hi, he => by
  unfold Bfs.run at he
  refine Ev.succ ?_
  simp only [spec_avFar.l1]
  by_cases hk : i < st.2.length
  ·rw [if_pos hk] at he
   obtain ⟨h1, h2, h3⟩ := u4_ hw hh hi hk
   have er : rd (st.2.map Int.ofNat) (i : Int) = ((st.2.getD i 0 : Nat) : Int) := by
    unfold rd
    simp [hk]
   have ih := z3_ w h l hl hw hh s far f (i + 1) _ (hi.round (fun v _ => z1_ hh.1 l v) hk) he;obtain ⟨h4, _⟩ := r2_ w h l hl hw hh _ h1.atN _ ⟨h2, h3⟩ 64 (by omega) st h1 4 (by omega);have hN := h1.atN;have hlen := h1.len;rw [er]
   exact Ev.itet (by simpa using hk) (Ev.itet (by omega) (Ev.bind h4 ih))
  ·rw [if_neg hk] at he
   obtain rfl := Option.some.inj he
   exact Ev.itef (by simpa using hk) (Ev.now _)
theorem g4_ (w h : Int) (l : List S58) (hl : l.length ≤ 1048576) (hw : 1 ≤ w ∧ w ≤ 8) (hh : 1 ≤ h ∧ h ≤ 8) (x y : Int) (hx : 0 ≤ x ∧ x ≤ w - 1) (hy : 0 ≤ y ∧ y ≤ h - 1) : ∃ far, Ev (fun k => spec_avFar.f k w h l [x, y]) far ∧ Bfs.Dist (nb w h l) (w * h).toNat (node h x y) far := by
 obtain ⟨e1, e2⟩ := p0_ hh.1 hx hy;obtain ⟨far, h1, h2⟩ := Bfs.run_ends (nb := nb w h l) (fun v _ => z1_ hh.1 l v) ((w * h).toNat + 1) 0 _ (Bfs.start_inv (nb w h l) e2) (by omega)
 refine ⟨far, ?_, h2⟩
 have h3 := z3_ w h l hl hw hh _ far _ 0 _ (Bfs.start_inv (nb w h l) e2) h1
 unfold spec_avFar.f
 have hok : spec_avFar.ok w h [x, y] = true := by
  unfold spec_avFar.ok
  rw [show rd [x, y] 0 = x from rfl, show rd [x, y] 1 = y from rfl]
  simp only [Bool.and_eq_true, decide_eq_true_eq]
  exact ⟨hw, hh, rfl, hx, hy⟩
 refine Ev.itet hok ?_
 rw [show rd [x, y] 0 = x from rfl, show rd [x, y] 1 = y from rfl, ← e1]
 exact h3
def rows (w h : Int) (far : List Int) : List (List Int) := (List.range w.toNat).map fun i => (List.range h.toNat).map fun j => Bfs.fa far (i * h.toNat + j)
theorem rows_row (w h : Int) (far : List Int) (i : Nat) (hi : i < w.toNat) : (rows w h far).getD i [] = (List.range h.toNat).map fun j => Bfs.fa far (i * h.toNat + j) := by
 unfold rows
 simp [hi]
theorem q1_ {w h x y : Int} (hh : 1 ≤ h) (hx : 0 ≤ x ∧ x ≤ w - 1) (hy : 0 ≤ y ∧ y ≤ h - 1) : node h x y = x.toNat * h.toNat + y.toNat := by
 have h1 := (p0_ hh hx hy).1
 have e : x * h = ((x.toNat * h.toNat : Nat) : Int) := by rw [Int.natCast_mul, Int.toNat_of_nonneg hx.1, Int.toNat_of_nonneg (by omega)]
 omega
theorem r1_ {w h x y : Int} (hh : 1 ≤ h) (far : List Int) (hx : 0 ≤ x ∧ x ≤ w - 1) (hy : 0 ≤ y ∧ y ≤ h - 1) : impl_distancesTo.rd2 (rows w h far) x y = Bfs.fa far (node h x y) := by
 unfold impl_distancesTo.rd2
 rw [rows_row w h far _ (by omega), q1_ hh hx hy]
 unfold rd
 have : y.toNat < h.toNat := by omega
 simp [this]
theorem e2_ {w h x y x' y' : Int} (hh : 1 ≤ h) (hx : 0 ≤ x ∧ x ≤ w - 1) (hy : 0 ≤ y ∧ y ≤ h - 1) (hx' : 0 ≤ x' ∧ x' ≤ w - 1) (hy' : 0 ≤ y' ∧ y' ≤ h - 1) (e : node h x y = node h x' y') : x = x' ∧ y = y' := by
 have h1 := u0_ hh hx hy
 have h2 := u0_ hh hx' hy'
 rw [e] at h1
 exact ⟨h1.1.symm.trans h2.1, h1.2.symm.trans h2.2⟩
theorem u2_ {w h x y : Int} (hh : 1 ≤ h) (far : List Int) (hlen : far.length = (w * h).toNat) (hx : 0 ≤ x ∧ x ≤ w - 1) (hy : 0 ≤ y ∧ y ≤ h - 1) (v : Int) : impl_distancesTo.set2 (rows w h far) x y v = rows w h (far.set (node h x y) v) := by
 have hN := (p0_ hh hx hy).2;have hfa := Bfs.fa_set (far := far) (w := node h x y) (by rw [hlen]; exact hN) v
 unfold impl_distancesTo.set2
 rw [rows_row w h far _ (by omega)]
 refine List.ext_getElem (by simp [rows]) fun i h1 h2 => ?_
 have hi : i < w.toNat := by simpa [rows] using h2
 have er : (rows w h (far.set (node h x y) v))[i] = (List.range h.toNat).map fun j => Bfs.fa (far.set (node h x y) v) (i * h.toNat + j) := by simp [rows]
 rw [er, List.getElem_set]
 have hnode : ∀ j : Nat, j < h.toNat → i * h.toNat + j = node h (i : Int) (j : Int) := fun j hj => by
  have := q1_ (w := w) hh (x := (i : Int)) (y := (j : Int)) (by omega) (by omega)
  simpa using this.symm
 by_cases e : x.toNat = i
 ·rw [if_pos e]
  refine List.ext_getElem (by simp) fun j h3 h4 => ?_
  have hj : j < h.toNat := by simpa using h4
  rw [List.getElem_set]
  simp only [List.getElem_map, List.getElem_range]
  rw [hfa, hnode j hj]
  by_cases ej : y.toNat = j
  ·rw [if_pos ej, if_pos (by rw [← e, ← ej, Int.toNat_of_nonneg hx.1, Int.toNat_of_nonneg hy.1])]
  ·rw [if_neg ej, if_neg (fun e' => ej (by have := (e2_ hh (by omega) (by omega) hx hy e').2; omega)), ← hnode j hj, e]
 ·rw [if_neg e]
  have er2 : (rows w h far)[i]'(by simpa [rows] using hi) = (List.range h.toNat).map fun j => Bfs.fa far (i * h.toNat + j) := by simp [rows]
  rw [er2]
  refine List.map_congr_left fun j hj => ?_
  have hj := List.mem_range.1 hj;rw [hfa, hnode j hj, if_neg (fun e' => e (by have := (e2_ hh (by omega) (by omega) hx hy e').1; omega))]
theorem d3_ (w h : Int) (hw : 1 ≤ w) (hh : 1 ≤ h) (far : List Int) : impl_distancesTo.shape w h (rows w h far) = true := by
 unfold impl_distancesTo.shape rows
 simp only [Bool.and_eq_true, decide_eq_true_eq, List.all_eq_true, List.length_map, List.length_range, List.mem_map, List.mem_range]
 refine ⟨by omega, ?_⟩
 rintro r ⟨i, _, rfl⟩
 simp
 omega
def pr (h : Int) (v : Nat) : List Int := [xN h v, yN h v]
theorem v4_ (w h : Int) (l : List S58) (hl : l.length ≤ 1048576) (hw : 1 ≤ w ∧ w ≤ 8) (hh : 1 ≤ h ∧ h ≤ 8) (v s : Nat) (hs : s < 4) (hv : v < (w * h).toNat) (d : Int) (hd : 0 ≤ d ∧ d ≤ 1000) (m : Nat) (hm : m < 1000) (st : List Int × List Nat) (hr : Rd (w * h).toNat v d m st) :
  Ev (fun k => impl_distancesTo.step k w h l (xN h v) (yN h v) (s : Int) (rows w h st.1, st.2.map (pr h))) (rows w h (Bfs.visit d (nbO w h l v s).toList st).1, (Bfs.visit d (nbO w h l v s).toList st).2.map (pr h)) ∧ Rd (w * h).toNat v d (m + 1) (Bfs.visit d (nbO w h l v s).toList st) := by
 obtain ⟨hx, hy⟩ := z2_ hh.1 hv;have hc := f5_ w h l hl hw hh s hs (xN h v) (yN h v) hx hy
 unfold impl_distancesTo.step nbO
 simp only [u3_ s hs (xN h v) (yN h v) (by omega) (by omega), Option.bind_some]
 have ei : impl_stepIn.in_ w h (rd [(tgt s (xN h v) (yN h v)).1, (tgt s (xN h v) (yN h v)).2] 0) (rd [(tgt s (xN h v) (yN h v)).1, (tgt s (xN h v) (yN h v)).2] 1) = inC w h (tgt s (xN h v) (yN h v)) := by
  unfold impl_stepIn.in_ inC
  rw [w64 (x := w - 1) (by omega) (by omega), w64 (x := h - 1) (by omega) (by omega)]
  rfl
 rw [ei]
 have ea : impl_distancesTo.rd2 (rows w h st.1) (xN h v) (yN h v) = d := by
  rw [r1_ hh.1 _ hx hy, v3_ hh.1 hv, hr.fa]
 by_cases hin : inC w h (tgt s (xN h v) (yN h v)) = true
 ·obtain ⟨h1, h2⟩ := inC_iff.1 hin
  obtain ⟨e1, e2⟩ := p0_ hh.1 h1 h2;have hlen := hr.len;have hq := hr.q;have e0 : rd [(tgt s (xN h v) (yN h v)).1, (tgt s (xN h v) (yN h v)).2] 0 = (tgt s (xN h v) (yN h v)).1 := rfl;have e9 : rd [(tgt s (xN h v) (yN h v)).1, (tgt s (xN h v) (yN h v)).2] 1 = (tgt s (xN h v) (yN h v)).2 := rfl;rw [e0, e9, ea, r1_ hh.1 _ h1 h2, w64 (x := d + 1) (by omega) (by omega)]
  by_cases hk : okS w h l s (xN h v) (yN h v) = true
  ·rw [if_pos hk]
   refine ⟨?_, by simpa [Bfs.visit] using hr.put hd.1 _ e2⟩
   refine Ev.itet hin ?_
   simp only [Option.toList, Bfs.visit]
   by_cases hneg : Bfs.fa st.1 (node h (tgt s (xN h v) (yN h v)).1 (tgt s (xN h v) (yN h v)).2) < 0
   ·refine Ev.itet hneg (Ev.bind hc (Ev.itet hk (Ev.itet (by simp; omega) ?_)))
    rw [if_pos hneg, u2_ hh.1 _ hlen h1 h2]
    have ep : pr h (node h (tgt s (xN h v) (yN h v)).1 (tgt s (xN h v) (yN h v)).2) = [(tgt s (xN h v) (yN h v)).1, (tgt s (xN h v) (yN h v)).2] := by
     unfold pr
     rw [(u0_ hh.1 h1 h2).1, (u0_ hh.1 h1 h2).2]
    simp only [List.map_append, List.map_cons, List.map_nil, ep]
    exact Ev.now _
   ·refine Ev.itef hneg ?_
    rw [if_neg hneg]
    exact Ev.now _
  ·rw [if_neg hk]
   refine ⟨Ev.itet hin ?_, ⟨hr.len, by have := hr.q; simp only [Option.toList, Bfs.visit]; omega, hr.fa, hr.atN⟩⟩
   by_cases hneg : Bfs.fa st.1 (node h (tgt s (xN h v) (yN h v)).1 (tgt s (xN h v) (yN h v)).2) < 0
   ·exact Ev.itet hneg (Ev.bind hc (Ev.itef hk (Ev.now _)))
   ·exact Ev.itef hneg (Ev.now _)
 ·have hk : ¬ okS w h l s (xN h v) (yN h v) = true := fun hk => hin (by unfold okS at hk; exact (Bool.and_eq_true _ _ ▸ hk).1)
  rw [if_neg hk]
  exact ⟨Ev.itef hin (Ev.now _), ⟨hr.len, by have := hr.q; simp only [Option.toList, Bfs.visit]; omega, hr.fa, hr.atN⟩⟩
theorem a1_ (w h : Int) (l : List S58) (hl : l.length ≤ 1048576) (hw : 1 ≤ w ∧ w ≤ 8) (hh : 1 ≤ h ∧ h ≤ 8) (v : Nat) (hv : v < (w * h).toNat) (d : Int) (hd : 0 ≤ d ∧ d ≤ 1000) (m : Nat) (hm : m < 900) (st : List Int × List Nat) (hr : Rd (w * h).toNat v d m st) :
  ∀ j, j ≤ 4 → Ev (fun k => impl_distancesTo.steps k w h l (xN h v) (yN h v) j (rows w h st.1, st.2.map (pr h))) (rows w h (Bfs.visit d (nbU w h l j v) st).1, (Bfs.visit d (nbU w h l j v) st).2.map (pr h)) ∧ Rd (w * h).toNat v d (m + j) (Bfs.visit d (nbU w h l j v) st)
 | 0, _ => ⟨Ev.now _, hr⟩
 | j + 1, hj => by
  obtain ⟨h1, h2⟩ := a1_ w h l hl hw hh v hv d hd m hm st hr j (by omega);obtain ⟨h3, h4⟩ := v4_ w h l hl hw hh v j (by omega) hv d hd (m + j) (by omega) _ h2;rw [d2_, v0_]
  exact ⟨Ev.bind h1 h3, h4⟩
theorem f2_ (w h : Int) (l : List S58) (hl : l.length ≤ 1048576) (hw : 1 ≤ w ∧ w ≤ 8) (hh : 1 ≤ h ∧ h ≤ 8) (s : Nat) (far : List Int) : ∀ (f i : Nat) (st : List Int × List Nat), Bfs.Inv (nb w h l) (w * h).toNat s i st → Bfs.run (nb w h l) f i st = some far → Ev (fun k => impl_distancesTo.l1 w h l k i (rows w h st.1, st.2.map (pr h))) (rows w h far)
 | 0, i, st, hi, he => by cases he
 | f + 1, i, st, hi, he => by
  unfold Bfs.run at he
  refine Ev.succ ?_
  simp only [impl_distancesTo.l1]
  by_cases hk : i < st.2.length
  ·rw [if_pos hk] at he
   obtain ⟨h1, h2, h3⟩ := u4_ hw hh hi hk;have er : (st.2.map (pr h)).getD i [] = pr h (st.2.getD i 0) := by simp [hk]
   have ih := f2_ w h l hl hw hh s far f (i + 1) _ (hi.round (fun v _ => z1_ hh.1 l v) hk) he;obtain ⟨h4, _⟩ := a1_ w h l hl hw hh _ h1.atN _ ⟨h2, h3⟩ 64 (by omega) st h1 4 (by omega);obtain ⟨hx, hy⟩ := z2_ hh.1 h1.atN;rw [er]
   refine Ev.itet (by simpa using hk) (Ev.itet ?_ (Ev.bind h4 ih))
   unfold impl_distancesTo.pair pr
   rw [show rd [xN h (st.2.getD i 0), yN h (st.2.getD i 0)] 0 = xN h (st.2.getD i 0) from rfl, show rd [xN h (st.2.getD i 0), yN h (st.2.getD i 0)] 1 = yN h (st.2.getD i 0) from rfl]
   simp only [Bool.and_eq_true, decide_eq_true_eq]
   exact ⟨rfl, hx, hy⟩
  ·rw [if_neg hk] at he
   obtain rfl := Option.some.inj he
   exact Ev.itef (by simpa using hk) (Ev.now _)
theorem a5_ (w h : Int) (hw : 1 ≤ w ∧ w ≤ 8) (hh : 1 ≤ h ∧ h ≤ 8) : Ev (fun k => impl_grid.f k w h (-1)) (rows w h (List.replicate (w * h).toNat (-1))) := by
 have hR : rows w h (List.replicate (w * h).toNat (-1)) = List.replicate w.toNat (List.replicate h.toNat (-1)) := by
  refine List.ext_getElem (by simp [rows]) fun i h1 h2 => ?_
  have hi : i < w.toNat := by simpa using h2
  simp only [rows, List.getElem_map, List.getElem_range, List.getElem_replicate]
  refine List.ext_getElem (by simp) fun j h3 h4 => ?_
  have hj : j < h.toNat := by simpa using h4
  simp only [List.getElem_map, List.getElem_range, List.getElem_replicate]
  have hn := p0_ (w := w) (x := (i : Int)) (y := (j : Int)) hh.1 (by omega) (by omega);rw [q1_ (w := w) hh.1 (by omega) (by omega)] at hn
  simp only [Int.toNat_natCast] at hn
  unfold Bfs.fa
  simp [hn.2]
 rw [hR]
 unfold impl_grid.f
 refine Ev.itet (by omega) (Ev.itet (by omega) ?_)
 simp only [Option.bind_some, List.length_replicate]
 have key : ∀ (d i : Nat), i + d = w.toNat → Ev (fun k => impl_grid.l0 k h (-1) (List.replicate i (List.replicate h.toNat (-1)) ++ List.replicate d []) (w.toNat : Int) (i : Int)) (List.replicate w.toNat (List.replicate h.toNat (-1))) := by
  intro d
  induction d with
  | zero =>
   intro i hi
   refine Ev.stop fun k => ?_
   simp only [impl_grid.l0]
   rw [if_neg (by omega)]
   simp [show i = w.toNat by omega]
  | succ d ih =>
   intro i hi
   refine Ev.to _ (fun k => ?_) (ih (i + 1) (by omega))
   simp only [impl_grid.l0]
   have hrep : slices_Repeat_int_int.f ([-1] : List Int) h = some (List.replicate h.toNat (-1)) := by
    unfold slices_Repeat_int_int.f
    rw [if_pos ⟨rfl, hh.1, hh.2⟩]
    rfl
   rw [if_pos (by omega), hrep, Option.bind_some, if_pos (by omega), if_pos (by simp; omega), w64 (by omega) (by omega)]
   have e : (List.replicate i (List.replicate h.toNat (-1)) ++ List.replicate (d + 1) ([] : List Int)).set (i : Int).toNat (List.replicate h.toNat (-1)) = List.replicate (i + 1) (List.replicate h.toNat (-1)) ++ List.replicate d [] := by
    rw [Int.toNat_natCast, List.set_append_right _ _ (by simp), List.length_replicate, Nat.sub_self, List.replicate_succ, List.set_cons_zero, List.replicate_succ' (n := i), List.append_assoc]
    rfl
   rw [e]
   rfl
 have := key w.toNat 0 (by omega)
 simpa using this
theorem c1_ (w h : Int) (l : List S58) (hl : l.length ≤ 1048576) (hw : 1 ≤ w ∧ w ≤ 8) (hh : 1 ≤ h ∧ h ≤ 8) (x y : Int) (hx : 0 ≤ x ∧ x ≤ w - 1) (hy : 0 ≤ y ∧ y ≤ h - 1) : ∃ far, Ev (fun k => impl_distancesTo.f k w h l [x, y]) (rows w h far) ∧ Bfs.Dist (nb w h l) (w * h).toNat (node h x y) far := by
 obtain ⟨e1, e2⟩ := p0_ hh.1 hx hy;obtain ⟨far, h1, h2⟩ := Bfs.run_ends (nb := nb w h l) (fun v _ => z1_ hh.1 l v) ((w * h).toNat + 1) 0 _ (Bfs.start_inv (nb w h l) e2) (by omega)
 refine ⟨far, ?_, h2⟩
 have h3 := f2_ w h l hl hw hh _ far _ 0 _ (Bfs.start_inv (nb w h l) e2) h1
 unfold impl_distancesTo.f
 have hp : impl_distancesTo.pair w h [x, y] = true := by
  unfold impl_distancesTo.pair
  rw [show rd [x, y] 0 = x from rfl, show rd [x, y] 1 = y from rfl]
  simp only [Bool.and_eq_true, decide_eq_true_eq]
  exact ⟨rfl, hx, hy⟩
 have hok : impl_distancesTo.ok w h [x, y] = true := by
  unfold impl_distancesTo.ok
  simp only [Bool.and_eq_true, decide_eq_true_eq]
  exact ⟨hw, hh, hp⟩
 refine Ev.itet hok (Ev.bind (a5_ w h hw hh) (Ev.itet (d3_ w h hw.1 hh.1 _) ?_))
 rw [show rd [x, y] 0 = x from rfl, show rd [x, y] 1 = y from rfl, u2_ hh.1 _ (by simp) hx hy]
 have ep : [[x, y]] = [node h x y].map (pr h) := by
  simp only [List.map_cons, List.map_nil, pr]
  rw [(u0_ hh.1 hx hy).1, (u0_ hh.1 hx hy).2]
 rw [ep]
 exact h3
theorem b5_ {w h : Int} {l : List S58} (hg : good w h l = true) : (1 ≤ w ∧ w ≤ 8) ∧ (1 ≤ h ∧ h ≤ 8) ∧ l.length ≤ 30 := by
 unfold good at hg
 simp only [Bool.and_eq_true, decide_eq_true_eq] at hg
 exact ⟨hg.1, hg.2.1, hg.2.2.1⟩
theorem f0_ {w h : Int} (hw : 1 ≤ w ∧ w ≤ 8) (hh : 1 ≤ h ∧ h ≤ 8) {l : List Int} (hc : spec_avCorner.good w h l = true) : ∃ x y, l = [x, y] ∧ (0 ≤ x ∧ x ≤ w - 1) ∧ (0 ≤ y ∧ y ≤ h - 1) := by
 unfold spec_avCorner.good at hc
 rw [w64 (x := w - 1) (by omega) (by omega), w64 (x := h - 1) (by omega) (by omega)] at hc
 simp only [Bool.and_eq_true, decide_eq_true_eq] at hc
 match l, hc with
 | [x, y], hc => exact ⟨x, y, rfl, hc.2.1, hc.2.2⟩
theorem v2_ (w h : Int) (l : List S58) (hl : l.length ≤ 1048576) (ls : List (List Int)) : Ev (fun k => impl_areCorners.f k w h l ls) (good w h l && ls.all (spec_avCorner.good w h)) := by
 have e : (!ls.any (impl_areCorners.bad w h)) = ls.all (spec_avCorner.good w h) := by
  rw [List.not_any_eq_all_not]
  congr 1
  funext z
  unfold impl_areCorners.bad spec_avCorner.good
  rw [Bool.not_not]
 unfold impl_areCorners.f
 refine Ev.bind (q4_ w h l hl) ?_
 cases good w h l
 ·exact Ev.itef (by simp) (Ev.now _)
 ·refine Ev.itet rfl ?_
  rw [e, Bool.true_and]
  exact Ev.now _
theorem h4_ (w h : Int) (l : List S58) (hl : l.length ≤ 1048576) (a b : List Int) : Ev (fun k => spec_avAsked.f k w h l a b) (good w h l && (spec_avCorner.good w h a && spec_avCorner.good w h b)) := by
 unfold spec_avAsked.f
 refine Ev.bind (p4_ w h l hl) ?_
 cases good w h l
 ·exact Ev.itef (by simp) (Ev.now _)
 ·refine Ev.itet rfl (Ev.bind (a := spec_avCorner.good w h a) (Ev.now _) ?_)
  cases spec_avCorner.good w h a
  ·exact Ev.itef (by simp) (Ev.now _)
  ·exact Ev.itet rfl (Ev.bind (a := spec_avCorner.good w h b) (Ev.now _) (Ev.now _))
theorem z4_ {w h : Int} (hw : 1 ≤ w) (hh : 1 ≤ h) (far : List Int) (x : Int) (hx : 0 ≤ x ∧ x ≤ w - 1) : ((rows w h far).length : Int) = w ∧ ((rd_L6 (rows w h far) x).length : Int) = h := by
 refine ⟨by simp [rows]; omega, ?_⟩
 unfold rd_L6
 rw [rows_row w h far _ (by omega)]
 simp
 omega
def put : List S58 → S58 → List S58
 | [], b => [b]
 | c :: l, b => if less c b = true then c :: put l b else b :: c :: l
theorem g2_ : ∀ (l : List S58) (b : S58), (put l b).Perm (b :: l)
 | [], b => .refl _
 | c :: l, b => by
  unfold put
  split
  ·exact ((g2_ l b).cons c).trans (.swap _ _ _)
  ·exact .refl _
theorem c5_ (l : List S58) (b : S58) : (put l b).length = l.length + 1 := by rw [(g2_ l b).length_eq]; rfl
theorem e3_ (w h : Int) (l : List S58) (hl : l.length ≤ 1048576) (b : S58) : Ev (fun k => spec_avClose.f k w h l b.f0 b.f1 b.f2) (w, h, put l b) := by
 unfold spec_avClose.f
 have key : ∀ (d i : Nat), i + d = l.length → Ev (fun k => spec_avClose.l0 k (i : Int) w h l b.f0 b.f1 b.f2) (w, h, l.take i ++ put (l.drop i) b) := by
  intro d
  induction d with
  | zero =>
   intro i hi
   refine Ev.succ ?_
   simp only [spec_avClose.l0, Option.bind_some]
   rw [List.drop_eq_nil_of_le (by omega), Int.toNat_natCast, List.drop_eq_nil_of_le (by omega)]
   refine Ev.itef (by omega) (Ev.itet (by omega) (Ev.itet (by omega) (Ev.itet (by simp; omega) (Ev.itet (by simp; omega) (Ev.itet (by simp; omega) ?_)))))
   simpa [put] using Ev.now (w, h, l.take i ++ [b])
  | succ d ih =>
   intro i hi
   have hlt : i < l.length := by omega
   have ih := ih (i + 1) (by omega);have hw : wrap64 ((i : Int) + 1) = ((i + 1 : Nat) : Int) := by rw [w64 (by omega) (by omega)]; rfl
   refine Ev.succ ?_
   simp only [spec_avClose.l0, Option.bind_some]
   rw [r0_ l i hlt, hw, b2_]
   simp only [Option.bind_some]
   refine Ev.itet (by omega) (Ev.itet (by omega) ?_)
   rw [List.drop_eq_getElem_cons hlt]
   unfold put
   cases hs : less l[i] b
   ·refine Ev.itef (by simp) (Ev.itet (by omega) ?_)
    rw [Int.toNat_natCast]
    change Ev _ (w, h, l.take i ++ b :: l[i] :: l.drop (i + 1))
    refine Ev.itet (by simp; omega) (Ev.itet (by simp; omega) (Ev.itet (by simp; omega) ?_))
    have e : (w, h, [] ++ l.take i ++ [(⟨b.f0, b.f1, b.f2⟩ : S58)] ++ l.drop i) = (w, h, l.take i ++ b :: l[i] :: l.drop (i + 1)) := by rw [List.drop_eq_getElem_cons hlt]; simp
    rw [e]
    exact Ev.now _
   ·refine Ev.itet rfl ?_
    have e : l.take (i + 1) ++ put (l.drop (i + 1)) b = l.take i ++ l[i] :: put (l.drop (i + 1)) b := by rw [List.take_succ_eq_append_getElem hlt, List.append_assoc]; rfl
    rw [e] at ih
    exact ih
 have := key l.length 0 (by omega)
 simpa using this
theorem p5_ {l l' : List S58} (hs : ∀ b, shut l b = shut l' b) (w h : Int) (s : Nat) (x y : Int) : okS w h l s x y = okS w h l' s x y := by unfold okS; rw [hs]
theorem d5_ {l l' : List S58} (hs : ∀ b, shut l b = shut l' b) (w h : Int) : nb w h l = nb w h l' := by
 funext v
 unfold nb nbU
 have e : nbO w h l v = nbO w h l' v := by
  funext s
  unfold nbO
  rw [p5_ hs]
 rw [e]
theorem h2_ (w h : Int) (l l' : List S58) (hl : l.length ≤ 1048576) (hl' : l'.length ≤ 1048576) (hs : ∀ b, shut l b = shut l' b) (hw : 1 ≤ w ∧ w ≤ 8) (hh : 1 ≤ h ∧ h ≤ 8) (x y x' y' : Int) (hx : 0 ≤ x ∧ x ≤ w - 1) (hy : 0 ≤ y ∧ y ≤ h - 1) (hx' : 0 ≤ x' ∧ x' ≤ w - 1) (hy' : 0 ≤ y' ∧ y' ≤ h - 1) :
  ∃ d : Int, Ev (fun k => spec_avDistance.f k w h l [x, y] [x', y']) d ∧ Ev (fun k => impl_distanceIn.f k w h l' [x, y] [x', y']) (mx 0 d, decide (d ≥ 0)) := by
 obtain ⟨far, f1, f2⟩ := g4_ w h l hl hw hh x y hx hy;obtain ⟨far', g1, g2⟩ := c1_ w h l' hl' hw hh x' y' hx' hy';rw [← d5_ hs] at g2;obtain ⟨n1, n2⟩ := p0_ hh.1 hx hy;obtain ⟨m1, m2⟩ := p0_ hh.1 hx' hy';have ht := Bfs.Dist.turn (fun v _ => z1_ hh.1 l v) (fun v hv => g5_ hh.1 l v hv) n2 m2 f2 g2;have h64 := r5_ hw hh;have hlen := f2.len
 refine ⟨Bfs.fa far (node h x' y'), ?_, ?_⟩
 ·unfold spec_avDistance.f
  refine Ev.bind f1 ?_
  have hxh : 0 ≤ x' * h := Int.mul_nonneg hx'.1 (by omega);have e0 : rd [x', y'] 0 = x' := rfl;have e1 : rd [x', y'] 1 = y' := rfl
  have ew : wrap64 (wrap64 (x' * h) + y') = ((node h x' y' : Nat) : Int) := by
   rw [w64 (x := x' * h) (by omega) (by omega), ← m1, w64 (by omega) (by omega)]
  rw [e0, e1, ew]
  exact Ev.itet (by simp) (Ev.itet (by simp) (Ev.itet (by omega) (Ev.itet (by omega) (Ev.now _))))
 ·unfold impl_distanceIn.f
  refine Ev.bind g1 ?_
  have e0 : rd [x, y] 0 = x := rfl;have e1 : rd [x, y] 1 = y := rfl
  have er : rd (rd_L6 (rows w h far') x) y = Bfs.fa far (node h x' y') := by
   rw [ht]; exact r1_ hh.1 far' hx hy
  obtain ⟨l1, l2⟩ := z4_ hw.1 hh.1 far' x hx;rw [e0, e1, l1, l2, er]
  exact Ev.itet (by simp) (Ev.itet hx.1 (Ev.itet (by omega) (Ev.itet (by simp) (Ev.itet hy.1 (Ev.itet (by omega) (Ev.now _))))))
theorem p3_ : ∀ (l : List S58) (b c : S58), shut (put l b) c = shut (l ++ [b]) c
 | [], b, c => rfl
 | a :: l, b, c => by
  unfold put
  split
  ·have ih := p3_ l b c
   unfold shut at ih ⊢
   simp only [List.cons_append, List.any_cons] at ih ⊢
   rw [ih]
  ·unfold shut
   simp only [List.cons_append, List.any_cons, List.any_append, List.any_nil, Bool.or_false]
   cases eqB c b <;> cases eqB c a <;> simp
theorem g0_ (l : List Int) (hl : l.length ≤ 1048576) (k0 : Int) (h0 : 0 ≤ k0) (h1 : k0 ≤ 8388608) : ∃ l', Ev (fun k => laws_markIntS.f k l k0) (k0 + l.length, l') := by
 have key : ∀ (d i : Nat) (l : List Int) (k1 : Int), i + d = l.length → l.length ≤ 1048576 → 0 ≤ k1 → k1 ≤ 8388608 + (i : Int) → ∃ l', Ev (fun k => laws_markIntS.l0 k l k1 (i : Int)) (k1 + d, l') := by
  intro d
  induction d with
  | zero => exact fun i l k1 hi _ _ _ => ⟨l, Ev.stop fun k => by simp only [laws_markIntS.l0]; rw [if_neg (by omega)]; simp⟩
  | succ d ih =>
   intro i l k1 hi hl h0 h1
   obtain ⟨l', h'⟩ := ih (i + 1) (l.set (i : Int).toNat k1) (k1 + 1) (by simp; omega) (by simpa using hl) (by omega) (by omega)
   refine ⟨l', Ev.succ ?_⟩
   simp only [laws_markIntS.l0]
   rw [w64 (x := k1 + 1) (by omega) (by omega), w64 (x := (i : Int) + 1) (by omega) (by omega), show k1 + ((d + 1 : Nat) : Int) = k1 + 1 + d by omega]
   exact Ev.itet (by omega) (Ev.itet (by omega) h')
 exact key l.length 0 l k0 (by omega) hl h0 (by omega)
theorem r3_ (w h : Int) (l : List S58) (hl : l.length ≤ 1048576) : ∃ l', Ev (fun k => laws_markCity.f k w h l 1) (1 + 3 * (l.length : Int), l') := by
 have key : ∀ (d i : Nat) (l : List S58) (k0 : Int), i + d = l.length → l.length ≤ 1048576 → 0 ≤ k0 → k0 ≤ 1 + 3 * (i : Int) → ∃ l', Ev (fun k => laws_markBlockS.l0 k l k0 (i : Int)) (k0 + 3 * (d : Int), l') := by
  intro d
  induction d with
  | zero =>
   intro i l k0 hi hl h0 h1
   refine ⟨l, Ev.stop fun k => ?_⟩
   simp only [laws_markBlockS.l0]
   rw [if_neg (by omega)]
   simp
  | succ d ih =>
   intro i l k0 hi hl h0 h1
   obtain ⟨l', h'⟩ := ih (i + 1) _ (k0 + 3) (by
    show i + 1 + d = (((l.set (i : Int).toNat (⟨k0, (qk l i).f1, (qk l i).f2⟩ : S58)).set (i : Int).toNat (⟨(qk (l.set (i : Int).toNat (⟨k0, (qk l i).f1, (qk l i).f2⟩ : S58)) i).f0, k0 + 1, (qk (l.set (i : Int).toNat (⟨k0, (qk l i).f1, (qk l i).f2⟩ : S58)) i).f2⟩ : S58)).set (i : Int).toNat (⟨(qk ((l.set (i : Int).toNat (⟨k0, (qk l i).f1, (qk l i).f2⟩ : S58)).set (i : Int).toNat (⟨(qk (l.set (i : Int).toNat (⟨k0, (qk l i).f1, (qk l i).f2⟩ : S58)) i).f0, k0 + 1, (qk (l.set (i : Int).toNat (⟨k0, (qk l i).f1, (qk l i).f2⟩ : S58)) i).f2⟩ : S58)) i).f0, (qk ((l.set (i : Int).toNat (⟨k0, (qk l i).f1, (qk l i).f2⟩ : S58)).set (i : Int).toNat (⟨(qk (l.set (i : Int).toNat (⟨k0, (qk l i).f1, (qk l i).f2⟩ : S58)) i).f0, k0 + 1, (qk (l.set (i : Int).toNat (⟨k0, (qk l i).f1, (qk l i).f2⟩ : S58)) i).f2⟩ : S58)) i).f1, ((Int.tmod (k0 + 1 + 1) 3) == 0)⟩ : S58)).length
    simp; omega) (by simp; omega) (by omega) (by omega)
   refine ⟨l', ?_⟩
   have e9 : k0 + 3 * ((d + 1 : Nat) : Int) = k0 + 3 + 3 * (d : Int) := by omega
   rw [e9]
   refine Ev.succ ?_
   simp only [laws_markBlockS.l0, Option.bind_some]
   rw [w64 (x := k0 + 1) (by omega) (by omega), w64 (x := k0 + 1 + 1) (by omega) (by omega), w64 (x := k0 + 1 + 1 + 1) (by omega) (by omega), w64 (x := (i : Int) + 1) (by omega) (by omega)]
   refine Ev.itet (by omega) (Ev.itet (by omega) ?_)
   have e3 : k0 + 1 + 1 + 1 = k0 + 3 := by omega
   rw [e3]
   simpa using h'
 unfold laws_markCity.f laws_markBlockS.f
 obtain ⟨l', h'⟩ := key l.length 0 l 1 (by omega) hl (by omega) (by omega)
 exact ⟨l', Ev.bind h' (Ev.now _)⟩
def mkB (j : Nat) : S58 := ⟨1 + 3 * (j : Int), 1 + 3 * (j : Int) + 1, (Int.tmod (1 + 3 * (j : Int) + 1 + 1) 3 == 0)⟩
def marks (n : Nat) : List S58 := (List.range n).map mkB
theorem a4_ (l : List S58) (i : Nat) (x : S58) (h : i < l.length) : qk (l.set i x) (i : Int) = x := by
 rw [r0_ _ i (by simpa using h)]
 simp
theorem u1_ (l : List S58) (hl : l.length ≤ 1048576) : Ev (fun k => laws_markBlockS.f k l 1) (1 + 3 * (l.length : Int), marks l.length) := by
 have key : ∀ (d i : Nat) (l : List S58), i + d = l.length → l.length ≤ 1048576 → l.take i = marks i → Ev (fun k => laws_markBlockS.l0 k l (1 + 3 * (i : Int)) (i : Int)) (1 + 3 * (l.length : Int), marks l.length) := by
  intro d
  induction d with
  | zero =>
   intro i l hi hl ht
   refine Ev.stop fun k => ?_
   simp only [laws_markBlockS.l0]
   rw [if_neg (by omega)];rw [List.take_of_length_le (by omega)] at ht;rw [show i = l.length by omega] at ht ⊢;rw [← ht]
  | succ d ih =>
   intro i l hi hl ht
   have hlt : i < l.length := by omega
   have ih := ih (i + 1) (l.set i (mkB i)) (by simp; omega) (by simp; omega) (by
    rw [List.take_succ_eq_append_getElem (by simpa using hlt), List.take_set_of_le (Nat.le_refl i), ht]
    simp [marks, List.range_succ])
   rw [List.length_set] at ih;have e9 : 1 + 3 * ((i + 1 : Nat) : Int) = 1 + 3 * (i : Int) + 1 + 1 + 1 := by omega
   rw [e9] at ih
   refine Ev.succ ?_
   simp only [laws_markBlockS.l0, Option.bind_some]
   rw [w64 (x := 1 + 3 * (i : Int) + 1) (by omega) (by omega), w64 (x := 1 + 3 * (i : Int) + 1 + 1) (by omega) (by omega), w64 (x := 1 + 3 * (i : Int) + 1 + 1 + 1) (by omega) (by omega), w64 (x := (i : Int) + 1) (by omega) (by omega)]
   refine Ev.itet (by omega) (Ev.itet (by omega) ?_)
   rw [Int.toNat_natCast, a4_ l i _ hlt, a4_ (l.set i _) i _ (by simpa using hlt), List.set_set, List.set_set]
   exact ih
 unfold laws_markBlockS.f
 have := key l.length 0 l (by omega) hl (by simp [marks])
 simpa using this
theorem z0_ (n : Nat) (hn : n ≤ 1048576) : Ev (fun k => laws_heldBlockS.f k (marks n) 1) (1 + 3 * (n : Int)) := by
 have hlen : (marks n).length = n := by simp [marks]
 have key : ∀ (d i : Nat), i + d = n → Ev (fun k => laws_heldBlockS.l0 k (marks n) (1 + 3 * (i : Int)) (i : Int)) (1 + 3 * (n : Int)) := by
  intro d
  induction d with
  | zero =>
   intro i hi
   refine Ev.stop fun k => ?_
   simp only [laws_heldBlockS.l0]
   rw [if_neg (by omega), show i = n by omega]
  | succ d ih =>
   intro i hi
   have ih := ih (i + 1) (by omega);have e9 : 1 + 3 * ((i + 1 : Nat) : Int) = 1 + 3 * (i : Int) + 1 + 1 + 1 := by omega
   rw [e9] at ih
   have hg : qk (marks n) (i : Int) = mkB i := by
    rw [r0_ _ i (by omega)]
    simp [marks]
   refine Ev.succ ?_
   simp only [laws_heldBlockS.l0]
   rw [hg, w64 (x := 1 + 3 * (i : Int) + 1) (by omega) (by omega), w64 (x := 1 + 3 * (i : Int) + 1 + 1) (by omega) (by omega), w64 (x := 1 + 3 * (i : Int) + 1 + 1 + 1) (by omega) (by omega), w64 (x := (i : Int) + 1) (by omega) (by omega)]
   exact Ev.itet (by omega) (Ev.itet (by omega) (Ev.itet rfl (Ev.itet rfl (Ev.itef (by simp [mkB]) ih))))
 unfold laws_heldBlockS.f
 have := key n 0 (by omega)
 simpa using this
def col (x : Int) : Nat → Int → List S58
 | 0, _ => []
 | d + 1, y => ⟨x, y, false⟩ :: ⟨x, y, true⟩ :: col x d (y + 1)
def row (h : Nat) : Nat → Int → List S58
 | 0, _ => []
 | d + 1, x => col x h 0 ++ row h d (x + 1)
theorem c0_ (x : Int) : ∀ d y, (col x d y).length = 2 * d
 | 0, _ => rfl
 | d + 1, y => by unfold col; simp [c0_ x d (y + 1)]; omega
theorem a3_ (h : Nat) : ∀ d x, (row h d x).length = 2 * h * d
 | 0, _ => by simp [row]
 | d + 1, x => by unfold row; rw [List.length_append, c0_, a3_ h d (x + 1), Nat.mul_succ]; omega
theorem put1 (w h : Int) (l acc : List S58) (b : S58) (hw : 1 ≤ w ∧ w ≤ 8) (hh : 1 ≤ h ∧ h ≤ 8) (ha : acc.length ≤ 900) : impl_blocksOf.put w h l b.f0 b.f1 b.f2 acc = some (acc ++ [b].filter (isB w h)) := by
 unfold impl_blocksOf.put
 rw [f1_ w h l b hw hh, Option.bind_some]
 cases hb : isB w h b
 ·rw [if_neg (by simp), List.filter_cons_of_neg (by rw [hb]; simp)]; simp
 ·rw [if_pos rfl, if_pos (by omega), List.filter_cons_of_pos hb]; rfl
theorem b3_ (p : S58 → Bool) (b : S58) : ([b].filter p).length ≤ 1 := Nat.le_trans (List.length_filter_le _ _) (by simp)
theorem b4_ (w h : Int) (l : List S58) (hw : 1 ≤ w ∧ w ≤ 8) (hh : 1 ≤ h ∧ h ≤ 8) : Ev (fun k => impl_blocksOf.f k w h l) ((row h.toNat w.toNat 0).filter (isB w h)) := by
 have k1 : ∀ (x : Int) (r : List S58) (d : Nat) (y : Int) (acc : List S58), y + d = h → 0 ≤ y → acc.length + 2 * d ≤ 800 → Ev (fun k => impl_blocksOf.l0 w h l k (wrap64 (x + 1)) (acc ++ (col x d y).filter (isB w h))) r → Ev (fun k => impl_blocksOf.l1 w h l k x y acc) r := by
  intro x r d
  induction d with
  | zero =>
   intro y acc hy h0 ha he
   refine Ev.succ ?_
   simp only [impl_blocksOf.l1]
   exact Ev.itef (by omega) (by simpa [col] using he)
  | succ d ih =>
   intro y acc hy h0 ha he
   have e1 := put1 w h l acc ⟨x, y, false⟩ hw hh (by omega);have f1 := b3_ (isB w h) ⟨x, y, false⟩;have e2 := put1 w h l (acc ++ [⟨x, y, false⟩].filter (isB w h)) ⟨x, y, true⟩ hw hh (by rw [List.length_append]; omega);have f2 := b3_ (isB w h) ⟨x, y, true⟩
   simp only at e1 e2
   refine Ev.succ ?_
   simp only [impl_blocksOf.l1]
   rw [e1]
   simp only [Option.bind_some]
   rw [e2]
   simp only [Option.bind_some]
   rw [w64 (x := y + 1) (by omega) (by omega)]
   refine Ev.itet (by omega) (ih (y + 1) _ (by omega) (by omega) (by rw [List.length_append, List.length_append]; omega) ?_)
   have e3 : acc ++ (col x (d + 1) y).filter (isB w h) = acc ++ [⟨x, y, false⟩].filter (isB w h) ++ [⟨x, y, true⟩].filter (isB w h) ++ (col x d (y + 1)).filter (isB w h) := by
    rw [show col x (d + 1) y = [⟨x, y, false⟩] ++ ([⟨x, y, true⟩] ++ col x d (y + 1)) from rfl, List.filter_append, List.filter_append]
    simp only [List.append_assoc]
   rw [← e3]
   exact he
 have k0 : ∀ (d : Nat) (x : Int) (acc : List S58), x + d = w → 0 ≤ x → acc.length + 16 * d ≤ 800 → Ev (fun k => impl_blocksOf.l0 w h l k x acc) (acc ++ (row h.toNat d x).filter (isB w h)) := by
  intro d
  induction d with
  | zero =>
   intro x acc hx h0 ha
   refine Ev.succ ?_
   simp only [impl_blocksOf.l0]
   exact Ev.itef (by omega) (by simpa [row] using Ev.now acc)
  | succ d ih =>
   intro x acc hx h0 ha
   have hc := Nat.le_trans (List.length_filter_le (isB w h) (col x h.toNat 0)) (Nat.le_of_eq (c0_ x h.toNat 0));have ih := ih (x + 1) (acc ++ (col x h.toNat 0).filter (isB w h)) (by omega) (by omega) (by rw [List.length_append]; omega)
   refine Ev.succ ?_
   simp only [impl_blocksOf.l0]
   refine Ev.itet (by omega) (k1 x _ h.toNat 0 acc (by omega) (by omega) (by omega) ?_)
   rw [w64 (x := x + 1) (by omega) (by omega)]
   have e3 : acc ++ (row h.toNat (d + 1) x).filter (isB w h) = acc ++ (col x h.toNat 0).filter (isB w h) ++ (row h.toNat d (x + 1)).filter (isB w h) := by
    rw [show row h.toNat (d + 1) x = col x h.toNat 0 ++ row h.toNat d (x + 1) from rfl, List.filter_append]
    simp only [List.append_assoc]
   rw [e3]
   exact ih
 unfold impl_blocksOf.f
 simpa using k0 w.toNat 0 [] (by omega) (by omega) (by simp; omega)
def stp (w h : Int) (l : List S58) (D : S58 → Int) (acc : List S58) (b : S58) : List S58 := if isB w h b = true then (if shut l b = true then acc else if D b < 0 then acc ++ [b] else acc) else acc
theorem d1_ (w h : Int) (l : List S58) (D : S58 → Int) (acc : List S58) (b : S58) : (stp w h l D acc b).length ≤ acc.length + 1 := by
 unfold stp
 repeat' split
 all_goals simp
theorem v1_ (w h : Int) (l : List S58) (D : S58 → Int) : ∀ (bs acc : List S58), (bs.foldl (stp w h l D) acc).length ≤ acc.length + bs.length
 | [], acc => by simp
 | b :: bs, acc => by
  have h1 := v1_ w h l D bs (stp w h l D acc b)
  have h2 := d1_ w h l D acc b
  simp only [List.foldl_cons, List.length_cons]
  omega
theorem b0_ (w h : Int) (l : List S58) (D : S58 → Int) : ∀ (bs acc : List S58), (bs.filter (isB w h)).foldl (stp w h l D) acc = bs.foldl (stp w h l D) acc
 | [], acc => rfl
 | b :: bs, acc => by
  cases hb : isB w h b
  ·rw [List.filter_cons_of_neg (by rw [hb]; simp), b0_ w h l D bs acc, List.foldl_cons]
   unfold stp
   rw [if_neg (by rw [hb]; simp)]
  ·rw [List.filter_cons_of_pos hb, List.foldl_cons, List.foldl_cons, b0_ w h l D bs _]
abbrev HD (w h : Int) (l : List S58) (a b : List Int) (D : S58 → Int) : Prop := ∀ c, Ev (fun k => spec_avDistance.f k w h (put l c) a b) (D c) ∧ Ev (fun k => impl_distanceIn.f k w h (l ++ [c]) a b) (mx 0 (D c), decide (D c ≥ 0))
theorem u5_ (w h : Int) (l : List S58) (hl : l.length ≤ 30) (a b : List Int) (D : S58 → Int) (hD : HD w h l a b D) : ∀ (bs acc : List S58), (∀ c ∈ bs, isB w h c = true) → acc.length + bs.length ≤ 1000 → Ev (fun k => impl_NeededBlocks.go k w h l a b bs acc) (bs.foldl (stp w h l D) acc)
 | [], acc, _, _ => by simp only [impl_NeededBlocks.go]; exact Ev.now _
 | c :: bs, acc, hb, ha => by
  simp only [List.length_cons] at ha
  have hc := e0_ w h l (by omega) c;have ih := fun acc' (hq : acc'.length ≤ acc.length + 1) => u5_ w h l hl a b D hD bs acc' (fun c' h' => hb c' (by simp [h'])) (by omega);have hcb := hb c (by simp)
  simp only [impl_NeededBlocks.go, List.foldl_cons]
  refine Ev.bind hc ?_
  unfold stp at ih ⊢
  cases hs : shut l c
  ·refine Ev.itef (by simp) ?_
   rw [if_pos hcb, if_neg (by simp)]
   unfold impl_Block_55.f
   rw [if_pos (by omega)]
   simp only [Option.bind_some]
   refine Ev.itet (by omega) (Ev.bind (hD c).2 ?_)
   by_cases hd : D c ≥ 0
   ·rw [if_neg (by omega)]
    exact Ev.itet (by simpa using hd) (ih acc (by omega))
   ·rw [if_pos (by omega)]
    exact Ev.itef (by simpa using hd) (Ev.itet (by omega) (ih (acc ++ [c]) (by simp)))
  ·rw [if_pos hcb, if_pos rfl]
   exact Ev.itet rfl (ih acc (by omega))
theorem c4_ (w h : Int) (l : List S58) (hl : l.length ≤ 30) (hw : 1 ≤ w ∧ w ≤ 8) (hh : 1 ≤ h ∧ h ≤ 8) (a b : List Int) (D : S58 → Int) (hD : HD w h l a b D) (x y c : Int) (u : Bool) (hc : c = 0 ∧ u = false ∨ c = 1 ∧ u = true) (acc : List S58) (ha : acc.length ≤ 900) (r : List S58 × Bool) (he : Ev (fun k => spec_NeededBlocks.l2 k a b (stp w h l D acc ⟨x, y, u⟩) x y (c + 1) w h l) r) : Ev (fun k => spec_NeededBlocks.l2 k a b acc x y c w h l) r := by
 have hu : (c == 1) = u := by rcases hc with ⟨rfl, rfl⟩ | ⟨rfl, rfl⟩ <;> rfl
 have h1 := b1_ w h ⟨x, y, u⟩ hw hh;have h2 := q2_ w h l (by omega) ⟨x, y, u⟩;have h3 := e3_ w h l (by omega) ⟨x, y, u⟩;have h4 := (hD ⟨x, y, u⟩).1
 simp only at h1 h2 h3
 refine Ev.succ ?_
 simp only [spec_NeededBlocks.l2]
 rw [hu, w64 (x := c + 1) (by omega) (by omega)]
 refine Ev.itet (by omega) (Ev.bind h1 ?_)
 unfold stp at he
 cases hb : isB w h ⟨x, y, u⟩
 ·rw [if_neg (by rw [hb]; simp)] at he
  exact Ev.itef (by simp) he
 ·rw [if_pos hb] at he
  refine Ev.itet rfl (Ev.bind h2 ?_)
  cases hs : shut l ⟨x, y, u⟩
  ·rw [if_neg (by rw [hs]; simp)] at he
   refine Ev.itef (by simp) (Ev.bind h3 (Ev.bind h4 ?_))
   by_cases hd : D ⟨x, y, u⟩ < 0
   ·rw [if_pos hd] at he
    exact Ev.itet hd (Ev.itet (by omega) he)
   ·rw [if_neg hd] at he
    exact Ev.itef hd he
  ·rw [if_pos hs] at he
   exact Ev.itet rfl he
theorem h5_ (w h : Int) (l : List S58) (hl : l.length ≤ 30) (hw : 1 ≤ w ∧ w ≤ 8) (hh : 1 ≤ h ∧ h ≤ 8) (a b : List Int) (D : S58 → Int) (hD : HD w h l a b D) (x : Int) (r : List S58 × Bool) : ∀ (d : Nat) (y : Int) (acc : List S58), y + d = h → 0 ≤ y → acc.length + 2 * d ≤ 800 → Ev (fun k => spec_NeededBlocks.l0 k a b ((col x d y).foldl (stp w h l D) acc) (wrap64 (x + 1)) w h l) r → Ev (fun k => spec_NeededBlocks.l1 k a b acc x y w h l) r := by
 intro d
 induction d with
 | zero =>
  intro y acc hy h0 ha he
  refine Ev.succ ?_
  simp only [spec_NeededBlocks.l1]
  exact Ev.itef (by omega) he
 | succ d ih =>
  intro y acc hy h0 ha he
  have s1 := d1_ w h l D acc ⟨x, y, false⟩;have s2 := d1_ w h l D (stp w h l D acc ⟨x, y, false⟩) ⟨x, y, true⟩
  refine Ev.succ ?_
  simp only [spec_NeededBlocks.l1]
  refine Ev.itet (by omega) (c4_ w h l hl hw hh a b D hD x y 0 false (.inl ⟨rfl, rfl⟩) acc (by omega) r (c4_ w h l hl hw hh a b D hD x y 1 true (.inr ⟨rfl, rfl⟩) _ (by omega) r ?_))
  refine Ev.succ ?_
  simp only [spec_NeededBlocks.l2]
  rw [w64 (x := y + 1) (by omega) (by omega)]
  exact Ev.itef (by omega) (ih (y + 1) _ (by omega) (by omega) (by omega) he)
theorem p6_ (w h : Int) (l : List S58) (hl : l.length ≤ 30) (hw : 1 ≤ w ∧ w ≤ 8) (hh : 1 ≤ h ∧ h ≤ 8) (a b : List Int) (D : S58 → Int) (hD : HD w h l a b D) : ∀ (d : Nat) (x : Int) (acc : List S58), x + d = w → 0 ≤ x → acc.length + 16 * d ≤ 800 → Ev (fun k => spec_NeededBlocks.l0 k a b acc x w h l) ((row h.toNat d x).foldl (stp w h l D) acc, true) := by
 intro d
 induction d with
 | zero =>
  intro x acc hx h0 ha
  refine Ev.succ ?_
  simp only [spec_NeededBlocks.l0]
  exact Ev.itef (by omega) (Ev.now _)
 | succ d ih =>
  intro x acc hx h0 ha
  have hc := v1_ w h l D (col x h.toNat 0) acc;rw [c0_] at hc;have ih := ih (x + 1) ((col x h.toNat 0).foldl (stp w h l D) acc) (by omega) (by omega) (by omega)
  refine Ev.succ ?_
  simp only [spec_NeededBlocks.l0]
  refine Ev.itet (by omega) (h5_ w h l hl hw hh a b D hD x _ h.toNat 0 acc (by omega) (by omega) (by omega) ?_)
  rw [w64 (x := x + 1) (by omega) (by omega), show row h.toNat (d + 1) x = col x h.toNat 0 ++ row h.toNat d (x + 1) from rfl, List.foldl_append]
  exact ih
theorem d4_ (w h : Int) (hw : 1 ≤ w ∧ w ≤ 8) (hh : 1 ≤ h ∧ h ≤ 8) : (row h.toNat w.toNat 0).length ≤ 128 := by
 rw [a3_]
 have : 2 * h.toNat * w.toNat ≤ 16 * 8 := Nat.mul_le_mul (by omega) (by omega)
 omega
theorem both (w h : Int) (l : List S58) (hl : l.length ≤ 1048576) (a b : List Int) : ∃ r : List S58 × Bool, r.1.length ≤ 1048576 ∧ Ev (fun k => spec_NeededBlocks.f k w h l a b) r ∧ Ev (fun k => impl_NeededBlocks.f k w h l a b) r := by
 have ha := h4_ w h l hl a b;have hc := v2_ w h l hl [a, b];have e1 : [a, b].all (spec_avCorner.good w h) = (spec_avCorner.good w h a && spec_avCorner.good w h b) := by simp
 rw [e1] at hc
 have no : Ev (fun k => spec_NeededBlocks.j0 k a b true w h l) ([], false) := by
  refine Ev.succ ?_
  simp only [spec_NeededBlocks.j0]
  exact Ev.itet trivial (Ev.now _)
 unfold spec_NeededBlocks.f impl_NeededBlocks.f
 cases hgg : (good w h l && (spec_avCorner.good w h a && spec_avCorner.good w h b)) <;> rw [hgg] at ha hc
 ·exact ⟨([], false), by simp, Ev.bind ha (Ev.itef (by simp) no), Ev.bind hc (Ev.itef (by simp) (Ev.now _))⟩
 ·simp only [Bool.and_eq_true] at hgg
  obtain ⟨hg, h1, h2⟩ := hgg;obtain ⟨hw, hh, h30⟩ := b5_ hg;obtain ⟨x, y, rfl, hx, hy⟩ := f0_ hw hh h1;obtain ⟨x', y', rfl, hx', hy'⟩ := f0_ hw hh h2;obtain ⟨d, d1, d2⟩ := h2_ w h l l hl hl (fun _ => rfl) hw hh x y x' y' hx hy hx' hy'
  by_cases hd : d < 0
  ·refine ⟨([], false), by simp, Ev.bind ha (Ev.itet rfl (Ev.bind d1 ?_)), Ev.bind hc (Ev.itet rfl (Ev.bind d2 (Ev.itef (by simp; omega) (Ev.now _))))⟩
   rw [decide_eq_true hd]
   exact no
  ·have hDD : ∀ c : S58, ∃ d : Int, Ev (fun k => spec_avDistance.f k w h (put l c) [x, y] [x', y']) d ∧ Ev (fun k => impl_distanceIn.f k w h (l ++ [c]) [x, y] [x', y']) (mx 0 d, decide (d ≥ 0)) := fun c => h2_ w h (put l c) (l ++ [c]) (by rw [c5_]; omega) (by simp; omega) (p3_ l c) hw hh x y x' y' hx hy hx' hy'
   obtain ⟨D, hD⟩ := Classical.skolem.1 hDD;have hsm := d4_ w h hw hh;have hfl := Nat.le_trans (List.length_filter_le (isB w h) (row h.toNat w.toNat 0)) hsm;have hfold := v1_ w h l D (row h.toNat w.toNat 0) []
   simp only [List.length_nil, Nat.zero_add] at hfold
   refine ⟨((row h.toNat w.toNat 0).foldl (stp w h l D) [], true), by simp only; omega, Ev.bind ha (Ev.itet rfl (Ev.bind d1 ?_)), Ev.bind hc (Ev.itet rfl (Ev.bind d2 (Ev.itet (by simp; omega) (Ev.bind (b4_ w h l hw hh) (Ev.itet (by omega) (Ev.bind (u5_ w h l h30 [x, y] [x', y'] D hD _ [] (fun c hc => (List.mem_filter.1 hc).2) (by simp only [List.length_nil]; omega)) ?_))))))⟩
   ·rw [decide_eq_false hd]
    refine Ev.succ ?_
    simp only [spec_NeededBlocks.j0]
    exact Ev.itef (by simp) (p6_ w h l h30 hw hh [x, y] [x', y'] D hD w.toNat 0 [] (by omega) (by omega) (by simp; omega))
   ·rw [b0_]
    exact Ev.now _
theorem main : laws_FnExactNeededBlocks.Pure := by
 intro w hgt l a b _ _ hl _ _ _ _ _ _ _
 refine Ev.rounds ?_
 unfold laws_FnExactNeededBlocks.f
 by_cases ha : (a.length : Int) > 1048576
 ·exact Ev.itet ha (Ev.now _)
 refine Ev.itef ha ?_
 by_cases hb : (b.length : Int) > 1048576
 ·exact Ev.itet hb (Ev.now _)
 refine Ev.itef hb ?_
 rw [e4_ w hgt l hl]
 simp only [Option.bind_some]
 by_cases h : l.length ≤ 1048576
 ·rw [if_pos h]
  have hm : (l.map conv).length ≤ 1048576 := by simpa using h
  have ha' : a.length ≤ 1048576 := by omega
  have hb' : b.length ≤ 1048576 := by omega
  obtain ⟨⟨r1, r2⟩, hr, hs, hi⟩ := both w hgt (l.map conv) hm a b
  simp only at hr
  obtain ⟨lm, hmk⟩ := r3_ w hgt (l.map conv) hm;have heq := d0_ r1 hr;obtain ⟨m1, hm1⟩ := g0_ a ha' (1 + 3 * ((l.map conv).length : Int)) (by omega) (by omega);obtain ⟨m2, hm2⟩ := g0_ b hb' (1 + 3 * ((l.map conv).length : Int) + a.length) (by omega) (by omega)
  refine Ev.itef (by omega) (Ev.bind (a0_ w hgt l h) (Ev.bind (q0_ a ha') (Ev.bind (q0_ b hb') (Ev.bind hs (Ev.bind (a0_ w hgt l h) (Ev.bind (q0_ a ha') (Ev.bind (q0_ b hb') (Ev.bind hi (Ev.bind heq (Ev.itet rfl (Ev.succ ?_)))))))))))
  simp only [laws_FnExactNeededBlocks.j0]
  refine Ev.itef (by simp) (Ev.bind (a0_ w hgt l h) (Ev.bind (g3_ w hgt _ hm) (Ev.itet rfl (Ev.bind (q0_ a ha') (Ev.bind (e1_ a ha') (Ev.itet rfl (Ev.bind (q0_ b hb') (Ev.bind (e1_ b hb') (Ev.itet rfl (Ev.bind hmk (Ev.bind hm1 (Ev.bind hm2 (Ev.itef (by omega) (Ev.bind heq (Ev.itet rfl (Ev.succ ?_))))))))))))))))
  simp only [laws_FnExactNeededBlocks.j1]
  refine Ev.itef (by simp) (Ev.bind (u1_ r1 hr) (Ev.bind (z0_ r1.length hr) (Ev.itef (by omega) (Ev.itet rfl (Ev.bind (a0_ w hgt l h) (Ev.bind (q0_ a ha') (Ev.bind (q0_ b hb') (Ev.bind hi (Ev.bind heq (Ev.itet rfl (Ev.succ ?_)))))))))))
  simp only [laws_FnExactNeededBlocks.j2]
  exact Ev.itef (by simp) (Ev.bind (z0_ r1.length hr) (Ev.itef (by omega) (Ev.itet rfl (Ev.now _))))
 ·rw [if_neg h]
  exact Ev.itet (by omega) (Ev.now _)
end NeededBlocks
theorem FnExactNeededBlocks : laws_FnExactNeededBlocks.Pure := NeededBlocks.main
end Go.Proofs.Ytpedofomfhmnfaa.Pure
