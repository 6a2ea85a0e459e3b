/- Cut by wip/cut.py out of the texts of this claim (printed by the kit's printer, or this session's own): what the row's theorem does not reach is struck. Not trusted: Lean checks it. -/
import Derived.Test.YtpedofomfhmnfaaZFnExactMeetingCornerPx0
import Derived.Test.YtpedofomfhmnfaaZFnExactMeetingCornerPx3
import Derived.Test.YtpedofomfhmnfaaZFnExactMeetingCornerPx8
import Derived.Test.YtpedofomfhmnfaaZFnExactMeetingCornerPx11
import Derived.Test.YtpedofomfhmnfaaZFnExactMeetingCornerPx13
namespace Go.Proofs.Ytpedofomfhmnfaa.PFnExactMeetingCorner
open Go.RowKit Go.Proofs.YtpedofomfhmnfaaW.PrintWords Go.Proofs.YtpedofomfhmnfaaW.PrintLast Go.Proofs.YtpedofomfhmnfaaW.PrintMore
attribute [local go_sem] max2_int min2_int max_two min_two max_three min_three max_four min_four
set_option linter.unusedVariables false
set_option linter.unusedSimpArgs false
mutual
def impl_leastIn.l0 : Nat → List Int → Int → List (List Int) → Int → Option (List Int × Int × Bool)
 | 0, _, _, _, _ => none
 | k + 1, x4, x5, x10, x12 => if x12 < (x10.length : Int) then (if 0 ≤ x12 then impl_leastIn.l1 k x4 x5 x10 x12 (rd_L4 x10 x12) 0 else none) else some (x4, x5, !x4.isEmpty)
def impl_leastIn.l1 : Nat → List Int → Int → List (List Int) → Int → List Int → Int → Option (List Int × Int × Bool)
 | 0, _, _, _, _, _, _ => none
 | k + 1, x4, x5, x10, x12, x17, x19 => if x19 < (x17.length : Int) then (if 0 ≤ x19 then (if 0 ≤ rd x17 x19 ∧ (x4 = [] ∨ rd x17 x19 < x5) then impl_leastIn.l1 k [x12, x19] (rd x17 x19) x10 x12 x17 (wrap64 (x19 + 1)) else impl_leastIn.l1 k x4 x5 x10 x12 x17 (wrap64 (x19 + 1))) else none) else impl_leastIn.l0 k x4 x5 x10 (wrap64 (x12 + 1))
end
def impl_leastIn.f (k : Nat) (l0 : List (List Int)) : Option (List Int × Int × Bool) := impl_leastIn.l0 k [] 0 l0 0
theorem impl_leastIn.mono_l : ∀ k, (∀ y0 y1 y2 y3, LeO (impl_leastIn.l0 k y0 y1 y2 y3) (impl_leastIn.l0 (k + 1) y0 y1 y2 y3)) ∧ (∀ y0 y1 y2 y3 y4 y5, LeO (impl_leastIn.l1 k y0 y1 y2 y3 y4 y5) (impl_leastIn.l1 (k + 1) y0 y1 y2 y3 y4 y5))
 | 0 => ⟨fun _ _ _ _ r h => by simp [impl_leastIn.l0] at h, fun _ _ _ _ _ _ r h => by simp [impl_leastIn.l1] at h⟩
 | k + 1 => by
  obtain ⟨ih0, ih1⟩ := impl_leastIn.mono_l k
  refine ⟨fun y0 y1 y2 y3 => ?_, fun y0 y1 y2 y3 y4 y5 => ?_⟩
  ·unfold impl_leastIn.l0
   exact LeO.ite (LeO.ite (ih1 _ _ _ _ _ _) (LeO.refl _)) (LeO.refl _)
  ·unfold impl_leastIn.l1
   exact LeO.ite (LeO.ite (LeO.ite (ih1 _ _ _ _ _ _) (ih1 _ _ _ _ _ _)) (LeO.refl _)) (ih0 _ _ _ _)
theorem impl_leastIn.mono : ∀ a0 k, LeO (impl_leastIn.f k a0) (impl_leastIn.f (k + 1) a0) := fun a0 k => (impl_leastIn.mono_l k).1 _ _ _ _
set_option maxHeartbeats 8000000 in
set_option maxRecDepth 100000 in
theorem impl_leastIn.calls (k : Nat) (A0 : Option Addr) (c0 : Nat) (l0 : List (List Int)) (r1 : List Int) (r2 : Int) (r3 : Bool) (w : World) (hr0 : Kd.C (Kd.slice 3 (Kd.int .i64)) w A0 l0.length l0) (hc0 : l0.length ≤ c0) (h : impl_leastIn.f k l0 = some (r1, r2, r3)) :
  Calls Try.prog 63 #[.slice A0 l0.length c0] w fun e w' => ∃ v0_ : Value, e = .returned (.tuple #[v0_, .int .i64 r2, .bool r3]) ∧ Kd.R (Kd.int .i64) 3 w' w.heap.size (fun _ => True) v0_ r1 ∧ Below w.heap.size w w' := by
 have q1 : ∀ (w : World) (a : Option Addr) (n c n' c' : Nat), (binOp .eql 25 (.slice a n c) (.slice none n' c')).run Try.prog w = .ok (.bool a.isNone) w := fun w a n c n' c' => Lib.run_eql_slice_nil w _ _ a n c n' c' Try.underlying25
 have q2 : ∀ (w : World) (a : Option Addr) (n c n' c' : Nat), (binOp .neq 25 (.slice a n c) (.slice none n' c')).run Try.prog w = .ok (.bool (!a.isNone)) w := fun w a n c n' c' => by
  have h0 := Lib.run_eql_slice_nil w _ _ a n c n' c' Try.underlying25
  revert h0
  cases a <;> simp [binOp, Try.underlying25] <;> (generalize Sem.run _ (Op.equal _ _ _) _ = X; cases X <;> simp [Result.andThen]; try (rintro rfl rfl; simp))
 have HR0 := Lib.hid hr0
 have HH := Lib.hid h
 clear hr0 h
 go_enter Try.func63, Try.ntmps63
 go_wp2
 go_loopg [5, 6, 13] k (fun kq v5 v6 v13 wr => ∃ (x4 : List Int) (x5 x12 : Int), v6 = .int .i64 x5 ∧ v13 = .int .i64 x12 ∧ Hid (impl_leastIn.l0 kq x4 x5 l0 x12 = some (r1, r2, r3)) ∧ Hid (kq ≤ k) ∧ Hid (x4 = [] → v5 = .slice none 0 0) ∧ Hid (Kd.R (Kd.int .i64) 3 wr w.heap.size (fun _ => True) v5 x4) ∧ Hid (Below w.heap.size w wr))
 case atStart => exact ⟨[], 0, 0, rfl, rfl, HH, Lib.hid (Nat.le_refl _), Lib.hid (fun _ => rfl), Lib.hid (Kd.R_nil _ _ _ _ _), Lib.hid (Below.refl _ _)⟩
 case round =>
  clear HH
  obtain ⟨x4, x5, x12, rfl, rfl, HA, HK1, HN, HO, HB⟩ := hrel
  cases gk with
  | zero => exact absurd HA.out (by simp [impl_leastIn.l0])
  | succ k1 =>
   have h := HA.out
   clear HA
   simp only [impl_leastIn.l0] at h
   by_cases c2 : x12 < (l0.length : Int)
   ·rw [if_pos c2] at h
    have c2b : decide (x12 < (l0.length : Int)) = true := decide_eq_true c2
    by_cases c3 : 0 ≤ x12
    ·rw [if_pos c3] at h
     have H' := Lib.hid h
     clear h
     obtain ⟨ad253, A1, cc1, e253, hx253, hl253, hi253⟩ := at_L4 HR0.out x12 c3 c2
     cases e253
     replace hx253 := (HB.out.cell (World.block_lt_of_cell? w _ hx253)).trans hx253
     have HRW := Lib.hid hi253
     clear hi253 hl253
     have p253 := eq_true c3
     have q253 := eq_true c2
     clear c2 c3
     go_wp2
     go_loopg [5, 6, 20] k1 (fun kq v5 v6 v20 wr => ∃ (x4 : List Int) (x5 x19 : Int), v6 = .int .i64 x5 ∧ v20 = .int .i64 x19 ∧ Hid (impl_leastIn.l1 kq x4 x5 l0 x12 (rd_L4 l0 x12) x19 = some (r1, r2, r3)) ∧ Hid (kq ≤ k1) ∧ Hid (x4 = [] → v5 = .slice none 0 0) ∧ Hid (Kd.R (Kd.int .i64) 3 wr w.heap.size (fun _ => True) v5 x4) ∧ Hid (Below w.heap.size w wr))
     case atStart => exact ⟨x4, x5, 0, rfl, rfl, H', Lib.hid (Nat.le_refl _), HN, HO, HB⟩
     case round =>
      clear H' HN HO HB hx253 p253 q253 c2b
      obtain ⟨x4, x5, x19, rfl, rfl, HA, HK2, HN, HO, HB⟩ := hrel
      cases gk with
      | zero => exact absurd HA.out (by simp [impl_leastIn.l1])
      | succ k2 =>
       have h := HA.out
       clear HA
       simp only [impl_leastIn.l1] at h
       by_cases d1 : x19 < ((rd_L4 l0 x12).length : Int)
       ·rw [if_pos d1] at h
        have d1b : decide (x19 < ((rd_L4 l0 x12).length : Int)) = true := decide_eq_true d1
        by_cases d0 : 0 ≤ x19
        ·rw [if_pos d0] at h
         obtain ⟨ad254, e254, hx254⟩ := Kd.at_int HRW.out x19 d0 d1
         cases e254
         replace hx254 := (HB.out.cell (World.block_lt_of_cell? w _ hx254)).trans hx254
         have p254 := eq_true d0
         have q254 := eq_true d1
         clear d0 d1
         obtain ⟨D, hD⟩ : ∃ D, rd (rd_L4 l0 x12) x19 = D := ⟨_, rfl⟩
         rw [hD] at h hx254
         clear hD
         by_cases e0 : 0 ≤ D
         ·have e0b : decide (0 ≤ D) = true := decide_eq_true e0
          by_cases e1 : x4 = []
          ·rw [if_pos ⟨e0, Or.inl e1⟩] at h
           have HE := HN.out e1
           subst HE
           have H' := Lib.hid h
           clear h e0 e1
           (go_wp2_with ((with_reducible refine gate_dst (N := 38) rfl ?_); refine Kd.R_lit (Kd.int .i64) _ 3 ?hg (N := 38) ?hd (xs := ([x12, x19] : List Int)) (inner := [.int .i64 x12, .int .i64 x19]) (ok := fun _ => True) (okp := fun _ => True) ?hr ?hp (fun _ hk => hk) trivial (Below.refl _ _) (Nat.le_refl _) (by simp) ?_; (case hd => rfl); (case hg => rfl); (case hr => first | (go_simp; done) | (go_simp; rfl)); (case hp => exact (Reps.one (show Kd.M (Kd.int .i64) _ _ _ x12 [.int .i64 x12] from rfl) (Reps.one (show Kd.M (Kd.int .i64) _ _ _ x19 [.int .i64 x19] from rfl) (Reps.none _ _)))); intro v256 w9 ho10 hb hg_ hnew_; clear hg_ hnew_; have HO9 := Lib.hid (Kd.R_lower ho10 (below_size HB.out)); have HB9 := Lib.hid (below_step HB.out hb); clear hb ho10))
           go_roundg k2
           case measure => have := HK1.out; have := HK2.out; omega
           case rel => exact ⟨_, D, wrap64 (x19 + 1), rfl, (by first | rfl | (simp; done)), H', Lib.hid (by have := HK2.out; omega), Lib.hid (fun e => by cases e), HO9, HB9⟩
          ·obtain ⟨g5, c5, e5, _, _, _⟩ := Kd.R_form HO.out (by cases x4 with | nil => exact absurd rfl e1 | cons a b => simp)
           subst e5
           by_cases e2 : D < x5
           ·have e2b : decide (D < x5) = true := decide_eq_true e2
            rw [if_pos ⟨e0, Or.inr e2⟩] at h
            have H' := Lib.hid h
            clear h e0 e1 e2
            (go_wp2_with ((with_reducible refine gate_dst (N := 38) rfl ?_); refine Kd.R_lit (Kd.int .i64) _ 3 ?hg (N := 38) ?hd (xs := ([x12, x19] : List Int)) (inner := [.int .i64 x12, .int .i64 x19]) (ok := fun _ => True) (okp := fun _ => True) ?hr ?hp (fun _ hk => hk) trivial (Below.refl _ _) (Nat.le_refl _) (by simp) ?_; (case hd => rfl); (case hg => rfl); (case hr => first | (go_simp; done) | (go_simp; rfl)); (case hp => exact (Reps.one (show Kd.M (Kd.int .i64) _ _ _ x12 [.int .i64 x12] from rfl) (Reps.one (show Kd.M (Kd.int .i64) _ _ _ x19 [.int .i64 x19] from rfl) (Reps.none _ _)))); intro v256 w9 ho10 hb hg_ hnew_; clear hg_ hnew_; have HO9 := Lib.hid (Kd.R_lower ho10 (below_size HB.out)); have HB9 := Lib.hid (below_step HB.out hb); clear hb ho10))
            go_roundg k2
            case measure => have := HK1.out; have := HK2.out; omega
            case rel => exact ⟨_, D, wrap64 (x19 + 1), rfl, (by first | rfl | (simp; done)), H', Lib.hid (by have := HK2.out; omega), Lib.hid (fun e => by cases e), HO9, HB9⟩
           ·have e2b : decide (D < x5) = false := decide_eq_false e2
            rw [if_neg (fun hh => hh.2.elim e1 e2)] at h
            have H' := Lib.hid h
            clear h e0 e1 e2
            go_wp2
            go_roundg k2
            case measure => have := HK1.out; have := HK2.out; omega
            case rel => exact ⟨x4, x5, wrap64 (x19 + 1), rfl, (by first | rfl | (simp; done)), H', Lib.hid (by have := HK2.out; omega), HN, HO, HB⟩
         ·have e0b : decide (0 ≤ D) = false := decide_eq_false e0
          rw [if_neg (fun hh => e0 hh.1)] at h
          have H' := Lib.hid h
          clear h e0
          go_wp2
          go_roundg k2
          case measure => have := HK1.out; have := HK2.out; omega
          case rel => exact ⟨x4, x5, wrap64 (x19 + 1), rfl, (by first | rfl | (simp; done)), H', Lib.hid (by have := HK2.out; omega), HN, HO, HB⟩
        ·rw [if_neg d0] at h; cases h
       ·rw [if_neg d1] at h
        have d1b : decide (x19 < ((rd_L4 l0 x12).length : Int)) = false := decide_eq_false d1
        have H' := Lib.hid h
        clear h d1
        go_wp2
        go_roundg k2
        case measure => have := HK1.out; have := HK2.out; omega
        case rel => exact ⟨x4, x5, wrap64 (x12 + 1), rfl, (by first | rfl | (simp; done)), H', Lib.hid (by have := HK1.out; have := HK2.out; omega), HN, HO, HB⟩
    ·rw [if_neg c3] at h; cases h
   ·rw [if_neg c2] at h
    have c2b : decide (x12 < (l0.length : Int)) = false := decide_eq_false c2
    simp only [Option.some.injEq, Prod.mk.injEq] at h
    obtain ⟨rfl, rfl, e3⟩ := h
    by_cases e1 : x4 = []
    ·have HE := HN.out e1
     subst HE
     subst e1
     obtain rfl : r3 = false := e3.symm
     clear e3
     go_wp2
     go_ret3
     exact ⟨_, rfl, HO.out, HB.out⟩
    ·obtain ⟨g5, c5, e5, _, _, _⟩ := Kd.R_form HO.out (by cases x4 with | nil => exact absurd rfl e1 | cons a b => simp)
     subst e5
     obtain rfl : r3 = true := by cases x4 with | nil => exact absurd rfl e1 | cons a b => exact e3.symm
     clear e3
     go_wp2
     go_ret3
     exact ⟨_, rfl, HO.out, HB.out⟩
def impl_MeetingCorner.one (v d : Int) : Int := if d < 0 ∨ v < 0 then -1 else wrap64 (v + d)
def impl_MeetingCorner.upd (s : List (List Int)) (x y : Nat) (d : Int) : List (List Int) := s.set x ((s.getD x []).set y (impl_MeetingCorner.one (rd (s.getD x []) (y : Int)) d))
def impl_MeetingCorner.row (s : List (List Int)) (x : Nat) (col : List Int) : Nat → List (List Int)
 | 0 => s
 | j + 1 => impl_MeetingCorner.upd (impl_MeetingCorner.row s x col j) x j (rd col (j : Int))
def impl_MeetingCorner.tab (s t : List (List Int)) : Nat → List (List Int)
 | 0 => s
 | i + 1 => impl_MeetingCorner.row (impl_MeetingCorner.tab s t i) i (t.getD i []) (t.getD i []).length
def impl_MeetingCorner.ppl (k : Nat) (W H : Int) (l : List S58) (ps g : List (List Int)) : Nat → Option (List (List Int))
 | 0 => some g
 | i + 1 => (impl_MeetingCorner.ppl k W H l ps g i).bind fun s => (impl_distancesTo.f k W H l (ps.getD i [])).bind fun t => if impl_distancesTo.shape W H t = true then some (impl_MeetingCorner.tab s t t.length) else none
def impl_MeetingCorner.ok (W H : Int) : Bool := decide (1 ≤ W ∧ W ≤ 8) && decide (1 ≤ H ∧ H ≤ 8)
def impl_MeetingCorner.body (k : Nat) (W H : Int) (l : List S58) (ps : List (List Int)) : Option (List Int × Int × Bool) := if impl_MeetingCorner.ok W H = true then (impl_grid.f k W H 0).bind fun g => if impl_distancesTo.shape W H g = true then (impl_MeetingCorner.ppl k W H l ps g ps.length).bind fun s => impl_leastIn.f k s else none else none
def impl_MeetingCorner.f (k : Nat) (a0_0 : Int) (a0_1 : Int) (l0_2 : List S58) (l1 : List (List Int)) : Option (List Int × Int × Bool) := if 1 ≤ l1.length ∧ l1.length ≤ 10 then (impl_areCorners.f k a0_0 a0_1 l0_2 l1).bind fun t => if t = true then impl_MeetingCorner.body k a0_0 a0_1 l0_2 l1 else some ([], 0, false) else some ([], 0, false)
theorem impl_MeetingCorner.ppl_mono (k : Nat) (W H : Int) (l : List S58) (ps g : List (List Int)) : ∀ i, LeO (impl_MeetingCorner.ppl k W H l ps g i) (impl_MeetingCorner.ppl (k + 1) W H l ps g i)
 | 0 => LeO.refl _
 | i + 1 => LeO.bind (impl_MeetingCorner.ppl_mono k W H l ps g i) (fun _ => LeO.bind (impl_distancesTo.mono _ _ _ _ _) (fun _ => LeO.refl _))
theorem impl_MeetingCorner.mono : ∀ a0 a1 a2 a3 k, LeO (impl_MeetingCorner.f k a0 a1 a2 a3) (impl_MeetingCorner.f (k + 1) a0 a1 a2 a3) := fun a0 a1 a2 a3 k => LeO.ite (LeO.bind (impl_areCorners.mono _ _ _ _ _) (fun _ => LeO.ite (LeO.ite (LeO.bind (impl_grid.mono _ _ _ _) (fun _ => LeO.ite (LeO.bind (impl_MeetingCorner.ppl_mono _ _ _ _ _ _ _) (fun _ => impl_leastIn.mono _ _)) (LeO.refl _))) (LeO.refl _)) (LeO.refl _))) (LeO.refl _)
theorem impl_MeetingCorner.upd_shape {W H : Int} {g : List (List Int)} (h : impl_distancesTo.shape W H g = true) (x y : Nat) (d : Int) : impl_distancesTo.shape W H (impl_MeetingCorner.upd g x y d) = true := by
 have h0 := impl_distancesTo.shape_set h (x : Int) (y : Int) (impl_MeetingCorner.one (rd (g.getD x []) (y : Int)) d)
 simpa [impl_distancesTo.set2, impl_MeetingCorner.upd] using h0
theorem impl_MeetingCorner.row_shape {W H : Int} {g : List (List Int)} (h : impl_distancesTo.shape W H g = true) (x : Nat) (col : List Int) : ∀ j, impl_distancesTo.shape W H (impl_MeetingCorner.row g x col j) = true
 | 0 => h
 | j + 1 => impl_MeetingCorner.upd_shape (impl_MeetingCorner.row_shape h x col j) _ _ _
theorem impl_MeetingCorner.tab_shape {W H : Int} {g : List (List Int)} (h : impl_distancesTo.shape W H g = true) (t : List (List Int)) : ∀ j, impl_distancesTo.shape W H (impl_MeetingCorner.tab g t j) = true
 | 0 => h
 | j + 1 => impl_MeetingCorner.row_shape (impl_MeetingCorner.tab_shape h t j) _ _ _
theorem impl_MeetingCorner.ppl_shape {k : Nat} {W H : Int} {l : List S58} {ps g : List (List Int)} (h : impl_distancesTo.shape W H g = true) : ∀ {i : Nat} {s : List (List Int)}, impl_MeetingCorner.ppl k W H l ps g i = some s → impl_distancesTo.shape W H s = true
 | 0, s, e => by obtain rfl := Option.some.inj e; exact h
 | i + 1, s, e => by
  obtain ⟨s1, h1, e⟩ := Option.bind_eq_some_iff.mp e
  obtain ⟨t, _, e⟩ := Option.bind_eq_some_iff.mp e
  split at e
  ·obtain rfl := Option.some.inj e
   exact impl_MeetingCorner.tab_shape (impl_MeetingCorner.ppl_shape h h1) _ _
  ·cases e
theorem impl_MeetingCorner.ppl_at {k : Nat} {W H : Int} {l : List S58} {ps g : List (List Int)} {n : Nat} {s : List (List Int)} (h : impl_MeetingCorner.ppl k W H l ps g n = some s) : ∀ d j : Nat, j + d = n → ∃ s1, impl_MeetingCorner.ppl k W H l ps g j = some s1
 | 0, j, hj => ⟨s, by rw [show j = n by omega]; exact h⟩
 | d + 1, j, hj => by
  obtain ⟨s1, h1⟩ := impl_MeetingCorner.ppl_at h d (j + 1) (by omega)
  obtain ⟨s2, h2, _⟩ := Option.bind_eq_some_iff.mp h1
  exact ⟨s2, h2⟩
theorem impl_MeetingCorner.ppl_next {k : Nat} {W H : Int} {l : List S58} {ps g : List (List Int)} {n : Nat} {s s' : List (List Int)} (h : impl_MeetingCorner.ppl k W H l ps g n = some s) (h' : impl_MeetingCorner.ppl k W H l ps g (n + 1) = some s') : ∃ t, impl_distancesTo.f k W H l (ps.getD n []) = some t ∧ impl_distancesTo.shape W H t = true ∧ s' = impl_MeetingCorner.tab s t t.length := by
 obtain ⟨s1, h1, e⟩ := Option.bind_eq_some_iff.mp h'
 obtain rfl := Option.some.inj (h.symm.trans h1)
 obtain ⟨t, ht, e⟩ := Option.bind_eq_some_iff.mp e
 split at e
 ·exact ⟨t, ht, by assumption, (Option.some.inj e).symm⟩
 ·cases e
theorem impl_MeetingCorner.at_ {w : World} {A : Option Addr} {n : Nat} {xs : List (List Int)} (h : Kd.C (Kd.slice 3 (Kd.int .i64)) w A n xs) (i : Nat) (h1 : i < n) : ∃ ad A0 c0, A = some ad ∧ w.cell? (ad.add i) = some (.slice A0 (xs.getD i []).length c0) ∧ (xs.getD i []).length ≤ c0 ∧ (Kd.int .i64).C w A0 (xs.getD i []).length (xs.getD i []) := by
 obtain ⟨ad, c, e, _, hK, hc0⟩ := Kd.C_get h ([] : List Int) (i : Int) (by omega) (by omega)
 rw [Int.toNat_natCast] at hK hc0
 have hc : ∀ j u, c[j]? = some u → w.cell? (ad.add (i * 1 + j)) = some u := hc0
 obtain ⟨A0, c0, rfl, l0, g0⟩ := hK
 exact ⟨ad, A0, c0, e, by have hq := hc 0 _ rfl; rwa [Nat.mul_one, Nat.add_zero] at hq, l0, g0⟩
structure impl_MeetingCorner.MV (w wr : World) (B : Nat) (C : Array Value) (a b : Nat) (gv : Value) (g : List (List Int)) : Prop where
  box : wr.heap[B]? = some (.cells C 31 (0, 0))
  grid : Kd.S (Kd.slice 3 (Kd.int .i64)) 25 wr a (fun k_ => a ≤ k_ ∧ k_ < b) gv g
  bel : Below w.heap.size w wr
  hw : w.heap.size ≤ B
  hB : B < a
  hb : b ≤ wr.heap.size
section
variable {w wr w1 : World} {B a b : Nat} {C : Array Value} {gv v : Value} {g t : List (List Int)}
theorem impl_MeetingCorner.MV.below (h : impl_MeetingCorner.MV w wr B C a b gv g) (hb : Below wr.heap.size wr w1) : impl_MeetingCorner.MV w w1 B C a b gv g :=
 ⟨(hb.block _ (blk_lt h.box)).trans h.box, Kd.S_below h.grid hb, below_then h.bel h.bel.size hb, h.hw, h.hB, Nat.le_trans h.hb hb.size⟩
theorem impl_MeetingCorner.MV.put (h : impl_MeetingCorner.MV w wr B C a b gv g) {rb : Nat} (hrb : a ≤ rb ∧ rb < b) (j : Nat) (x : Value) {g' : List (List Int)} (hg : Kd.S (Kd.slice 3 (Kd.int .i64)) 25 (wr.setCell ⟨rb, j, none⟩ x) a (fun k_ => a ≤ k_ ∧ k_ < b) gv g') : impl_MeetingCorner.MV w (wr.setCell ⟨rb, j, none⟩ x) B C a b gv g' := by
 have h1 := h.hB
 have h2 := h.hw
 exact ⟨blk_far h.box (by simp only; omega) _, hg, h.bel.setCell (by simp only; omega) _, h.hw, h.hB, by simpa using h.hb⟩
theorem impl_MeetingCorner.tput (h : Kd.S (Kd.slice 3 (Kd.int .i64)) 25 wr b (fun k_ => b ≤ k_) v t) {rb : Nat} (hrb : rb < b) (j : Nat) (x : Value) : Kd.S (Kd.slice 3 (Kd.int .i64)) 25 (wr.setCell ⟨rb, j, none⟩ x) b (fun k_ => b ≤ k_) v t :=
 Kd.S_step h (fun k hk _ => Below.heap_setCell wr _ _ k (by simp only; omega))
theorem impl_MeetingCorner.cput {rb tb : Nat} (h : rb < tb) (j i : Nat) (x : Value) : (wr.setCell ⟨rb, j, none⟩ x).cell? ⟨tb, i, none⟩ = wr.cell? ⟨tb, i, none⟩ := cell_far (p := ⟨rb, j, none⟩) (show tb ≠ rb by omega) x
end
set_option maxHeartbeats 8000000 in
set_option maxRecDepth 100000 in
theorem impl_MeetingCorner.calls (k : Nat) (a0_0 : Int) (a0_1 : Int) (A0_2 : Option Addr) (c0_2 : Nat) (l0_2 : List S58) (A1 : Option Addr) (c1 : Nat) (l1 : List (List Int)) (r1 : List Int) (r2 : Int) (r3 : Bool) (w : World) (hr0_2 : Kd.C k58 w A0_2 l0_2.length l0_2) (hc0_2 : l0_2.length ≤ c0_2) (hr1 : Kd.C (Kd.slice 3 (Kd.int .i64)) w A1 l1.length l1) (hc1 : l1.length ≤ c1) (h : impl_MeetingCorner.f k a0_0 a0_1 l0_2 l1 = some (r1, r2, r3)) :
  Calls Try.prog 28 #[.agg #[.int .i64 a0_0, .int .i64 a0_1, .slice A0_2 l0_2.length c0_2], .slice A1 l1.length c1] w fun e w' => ∃ v0_ : Value, e = .returned (.tuple #[v0_, .int .i64 r2, .bool r3]) ∧ Kd.R (Kd.int .i64) 3 w' w.heap.size (fun _ => True) v0_ r1 ∧ Below w.heap.size w w' := by
 have hu := Try.underlying31
 unfold impl_MeetingCorner.f at h
 have HL := Lib.hid hr0_2
 have HP := Lib.hid hr1
 have HB0 := Lib.hid (below_alloc (Below.refl w.heap.size w) (.cells #[.int .i64 a0_0, .int .i64 a0_1, .slice A0_2 l0_2.length c0_2] 31))
 have HX0 := Lib.hid (blk_new w (.cells #[.int .i64 a0_0, .int .i64 a0_1, .slice A0_2 l0_2.length c0_2] 31))
 by_cases hn : 1 ≤ l1.length ∧ l1.length ≤ 10
 ·rw [if_pos hn] at h
  obtain ⟨tc, htc, h⟩ := Option.bind_eq_some_iff.mp h
  have HTC := Lib.hid htc
  have HH := Lib.hid h
  have HWI := Lib.hid (show impl_within.f (l1.length : Int) 1 10 = some true by rw [impl_areCorners.within_f, decide_eq_true (by omega)])
  obtain ⟨hn1, hn10⟩ := hn
  obtain ⟨ad1, _, _, e1, _, _, _⟩ := impl_MeetingCorner.at_ hr1 0 (by omega)
  subst e1
  clear htc hr0_2 hr1
  cases tc with
  | false =>
   rw [if_neg (by decide)] at h
   simp only [Option.some.injEq, Prod.mk.injEq] at h
   obtain ⟨rfl, rfl, rfl⟩ := h
   go_enter Try.func28, Try.ntmps28
   go_upto_region 1 with (fail)
   generalize w.alloc (.cells #[.int .i64 a0_0, .int .i64 a0_1, .slice A0_2 l0_2.length c0_2] 31) = W1 at HX0 HB0 ⊢
   obtain ⟨B, hB⟩ : ∃ B, B = w.heap.size := ⟨_, rfl⟩
   rw [← hB] at HX0 ⊢
   clear hB
   go_wp2_with (first
    | (go_at_call 61; refine (impl_within.calls _ 1 10 true _ HWI.out).mono ?_; rintro e w2 ⟨rfl, hd⟩; obtain ⟨n2, rfl⟩ := hd.out; have HB2 := Lib.hid (pw_below_drewN HB0.out n2); have HX2 := Lib.hid (show (W1.drewN n2).heap[B]? = _ from HX0.out); have hcz0 := (blk_cell HX2.out 0).trans rfl; have hcz1 := (blk_cell HX2.out 1).trans rfl; have hcz2 := (blk_cell HX2.out 2).trans rfl; clear hd)
    | (go_at_call 44; refine (impl_areCorners.calls k a0_0 a0_1 A0_2 c0_2 l0_2 (some ad1) c1 l1 false _ (Kd.C_below HL.out HB2.out) hc0_2 (Kd.C_below HP.out HB2.out) hc1 HTC.out).mono ?_; rintro e w3 ⟨rfl, hb3⟩; have HB3 := Lib.hid (below_then HB2.out HB2.out.size hb3); clear hb3))
   go_ret3
   exact ⟨_, rfl, Kd.R_nil _ _ _ _ _, HB3.out⟩
  | true =>
   rw [if_pos rfl] at h
   unfold impl_MeetingCorner.body at h
   by_cases hok : impl_MeetingCorner.ok a0_0 a0_1 = true
   ·rw [if_pos hok] at h
    obtain ⟨g0, hg, h⟩ := Option.bind_eq_some_iff.mp h
    by_cases hsh : impl_distancesTo.shape a0_0 a0_1 g0 = true
    ·rw [if_pos hsh] at h
     obtain ⟨sF, hsF, hle⟩ := Option.bind_eq_some_iff.mp h
     clear h
     unfold impl_MeetingCorner.ok at hok
     simp only [Bool.and_eq_true, decide_eq_true_eq] at hok
     obtain ⟨⟨hW1, hW8⟩, hH1, hH8⟩ := hok
     obtain ⟨W, rfl⟩ : ∃ n : Nat, a0_0 = (n : Int) := ⟨a0_0.toNat, by omega⟩
     obtain ⟨H, rfl⟩ : ∃ n : Nat, a0_1 = (n : Int) := ⟨a0_1.toNat, by omega⟩
     have HG := Lib.hid hg
     have HSH := Lib.hid hsh
     have HSF := Lib.hid hsF
     have HLE := Lib.hid hle
     clear hg hsh hsF hle
     go_enter Try.func28, Try.ntmps28
     go_upto_region 1 with (fail)
     generalize w.alloc (.cells #[.int .i64 W, .int .i64 H, .slice A0_2 l0_2.length c0_2] 31) = W1 at HX0 HB0 ⊢
     obtain ⟨B, hB⟩ : ∃ B, B = w.heap.size := ⟨_, rfl⟩
     rw [← hB] at HX0 ⊢
     have HBB := Lib.hid (Nat.le_of_eq hB.symm)
     clear hB
     go_upto_region 3 with (first
      | (go_at_call 61; refine (impl_within.calls _ 1 10 true _ HWI.out).mono ?_; rintro e w2 ⟨rfl, hd⟩; obtain ⟨n2, rfl⟩ := hd.out; have HB2 := Lib.hid (pw_below_drewN HB0.out n2); have HX2 := Lib.hid (show (W1.drewN n2).heap[B]? = _ from HX0.out); have hcz0 := (blk_cell HX2.out 0).trans rfl; have hcz1 := (blk_cell HX2.out 1).trans rfl; have hcz2 := (blk_cell HX2.out 2).trans rfl; clear hd)
      | (go_at_call 44; refine (impl_areCorners.calls k W H A0_2 c0_2 l0_2 (some ad1) c1 l1 true _ (Kd.C_below HL.out HB2.out) hc0_2 (Kd.C_below HP.out HB2.out) hc1 HTC.out).mono ?_; rintro e w3 ⟨rfl, hb3⟩; have HB3 := Lib.hid (below_then HB2.out HB2.out.size hb3); have HX3 := Lib.hid ((hb3.block _ (blk_lt HX2.out)).trans HX2.out); clear hb3))
     clear hcz0 hcz1 hcz2 HB2 HX2 HB0 HX0
     have hcz0 : w3.cell? ⟨B, 0, none⟩ = some (.int .i64 W) := (blk_cell HX3.out 0).trans rfl
     have hcz1 : w3.cell? ⟨B, 1, none⟩ = some (.int .i64 H) := (blk_cell HX3.out 1).trans rfl
     have HBL := Lib.hid (blk_lt HX3.out)
     go_upto_region 4 with (go_at_call 62; refine (impl_grid.calls k W H 0 g0 _ HG.out).mono ?_; rintro e w4 ⟨v4, rfl, hS4, hb4⟩; have HS4 := Lib.hid hS4; have HB4 := Lib.hid hb4; clear hb4 hS4)
     clear hcz0 hcz1
     obtain ⟨gb, cap, ev, _, _, _⟩ := Kd.S_form HS4.out (by have := (impl_distancesTo.shape_len HSH.out).1; omega)
     subst ev
     have hgW : g0.length = W := by have := (impl_distancesTo.shape_len HSH.out).1; omega
     obtain ⟨a, ha⟩ : ∃ a, a = w3.heap.size := ⟨_, rfl⟩
     obtain ⟨b, hb⟩ : ∃ b, b = w4.heap.size := ⟨_, rfl⟩
     have HV := Lib.hid (show impl_MeetingCorner.MV w w4 B #[.int .i64 W, .int .i64 H, .slice A0_2 l0_2.length c0_2] a b (.slice (some ⟨gb, 0, none⟩) W cap) g0 from ⟨(HB4.out.block _ HBL.out).trans HX3.out, by (have h0 := Kd.S_mono (Kd.S_bound HS4.out) (fun k hk => (⟨hk.2.1, hk.2.2.1⟩ : w3.heap.size ≤ k ∧ k < w4.heap.size)); rw [hgW] at h0; rw [ha, hb]; exact h0), below_then HB3.out HB3.out.size HB4.out, HBB.out, by rw [ha]; exact HBL.out, by omega⟩)
     rw [hgW]
     clear HS4 HB4 HX3 HB3 ha hb hgW HBL HBB h HH HTC
     go_wp2
     go_loopg [31] l1.length (fun gn v31 wr => ∃ (i : Nat) (s : List (List Int)), v31 = .int .i64 i ∧ gn = l1.length - i ∧ i ≤ l1.length ∧ Hid (impl_MeetingCorner.ppl k W H l0_2 l1 g0 i = some s) ∧ Hid (impl_MeetingCorner.MV w wr B #[.int .i64 W, .int .i64 H, .slice A0_2 l0_2.length c0_2] a b (.slice (some ⟨gb, 0, none⟩) W cap) s))
     case atStart => exact ⟨0, g0, rfl, by omega, by omega, Lib.hid rfl, by first | exact HV | exact Lib.hid (HV.out.below (below_drew (Below.refl _ _))) | exact Lib.hid (HV.out.below (pw_below_drewN (Below.refl _ _) _))⟩
     case round =>
      clear HV
      obtain ⟨i, s, rfl, hgn, hil, HS, HV⟩ := hrel
      by_cases hi : i < l1.length
      ·obtain ⟨s', hs'⟩ := impl_MeetingCorner.ppl_at HSF.out (l1.length - (i + 1)) (i + 1) (by omega)
       obtain ⟨t, ht, htsh, rfl⟩ := impl_MeetingCorner.ppl_next HS.out hs'
       have HS' := Lib.hid hs'
       obtain ⟨adp, Ap, cp, ep, hxp, hlp, hCp⟩ := impl_MeetingCorner.at_ (Kd.C_below HP.out HV.out.bel) i hi
       obtain rfl := Option.some.inj ep
       generalize l1.getD i [] = P at ht hxp hlp hCp
       have HT := Lib.hid ht
       have HTS := Lib.hid htsh
       have HCP := Lib.hid hCp
       have hi0 : (0 : Int) ≤ (i : Int) := by omega
       have hi1 : (i : Int) < (l1.length : Int) := by omega
       clear hs' ht htsh hCp
       go_upto_region 7 with (fail)
       have hcz0 : wr.cell? ⟨B, 0, none⟩ = some (.int .i64 W) := (blk_cell HV.out.box 0).trans rfl
       have hcz1 : wr.cell? ⟨B, 1, none⟩ = some (.int .i64 H) := (blk_cell HV.out.box 1).trans rfl
       have hcz2 : wr.cell? ⟨B, 2, none⟩ = some (.slice A0_2 l0_2.length c0_2) := (blk_cell HV.out.box 2).trans rfl
       have hlt1 := (impl_distancesTo.shape_len HTS.out).1
       have htW : t.length = W := by omega
       have HTW := Lib.hid htW
       clear hxp htW hlt1
       go_wp2_with (go_at_call 47; refine (impl_distancesTo.calls k W H A0_2 c0_2 l0_2 Ap cp P t _ (Kd.C_below HL.out (by first | exact HV.out.bel | exact below_drew HV.out.bel | exact pw_below_drewN HV.out.bel _)) hc0_2 HCP.out hlp HT.out).mono ?_; rintro e w6 ⟨v6, rfl, hS6, hb6⟩; obtain ⟨tb, capt, ev, _, _, _⟩ := Kd.S_form hS6 (by have := HTW.out; omega); subst ev; rw [HTW.out] at hS6; rw [HTW.out]; have HS6 := Lib.hid hS6; have HB6 := Lib.hid (show Below wr.heap.size wr w6 from below_then (by first | exact Below.refl _ _ | exact below_drew (Below.refl _ _) | exact pw_below_drewN (Below.refl _ _) _) (Nat.le_refl _) hb6); clear hS6 hb6)
       obtain ⟨b6, hb6⟩ : ∃ b6, b6 = wr.heap.size := ⟨_, rfl⟩
       have HT6 := Lib.hid (show Kd.S (Kd.slice 3 (Kd.int .i64)) 25 w6 b6 (fun k_ => b6 ≤ k_) (.slice (some ⟨tb, 0, none⟩) W capt) t by rw [hb6]; exact Kd.S_mono (Kd.S_bound HS6.out) (fun k hk => (hk.2.1 : wr.heap.size ≤ k)))
       have HV6 := Lib.hid (HV.out.below HB6.out)
       have hbb : b ≤ b6 := by rw [hb6]; exact HV.out.hb
       clear HS6 HV HB6 hcz0 hcz1 hcz2 HCP hb6
       go_loopg [39] W (fun gn v39 wr => ∃ x : Nat, v39 = .int .i64 x ∧ gn = W - x ∧ x ≤ W ∧ Hid (impl_MeetingCorner.MV w wr B #[.int .i64 W, .int .i64 H, .slice A0_2 l0_2.length c0_2] a b (.slice (some ⟨gb, 0, none⟩) W cap) (impl_MeetingCorner.tab s t x)) ∧ Hid (Kd.S (Kd.slice 3 (Kd.int .i64)) 25 wr b6 (fun k_ => b6 ≤ k_) (.slice (some ⟨tb, 0, none⟩) W capt) t))
       case atStart => exact ⟨0, rfl, by omega, by omega, HV6, HT6⟩
       case round =>
        clear HV6 HT6
        obtain ⟨x, rfl, hgx, hxW, HV, HTT⟩ := hrel
        by_cases hx : x < W
        ·have hlt : (t.getD x []).length = H := by have := (impl_distancesTo.shape_len HTS.out).2 x (by omega); omega
         obtain ⟨rbt, cpt, hct, hrbt, hcellt, _⟩ := impl_distancesTo.grid_row HTT.out (i := x) hx (by omega)
         rw [hlt] at hct hcellt
         have HCT := Lib.hid (fun (j : Nat) (hj : j < H) => (hcellt j hj).1)
         have hx0 : (0 : Int) ≤ (x : Int) := by omega
         have hx1 : (x : Int) < (W : Int) := by omega
         have HLT := Lib.hid hlt
         clear hcellt hlt
         go_wp2
         clear hct
         go_loopg [46] H (fun gn v46 wr => ∃ y : Nat, v46 = .int .i64 y ∧ gn = H - y ∧ y ≤ H ∧ Hid (impl_MeetingCorner.MV w wr B #[.int .i64 W, .int .i64 H, .slice A0_2 l0_2.length c0_2] a b (.slice (some ⟨gb, 0, none⟩) W cap) (impl_MeetingCorner.row (impl_MeetingCorner.tab s t x) x (t.getD x []) y)) ∧ Hid (Kd.S (Kd.slice 3 (Kd.int .i64)) 25 wr b6 (fun k_ => b6 ≤ k_) (.slice (some ⟨tb, 0, none⟩) W capt) t) ∧ Hid (∀ j : Nat, j < H → wr.cell? ⟨rbt, j, none⟩ = some (.int .i64 (rd (t.getD x []) (j : Int)))))
         case atStart => exact ⟨0, rfl, by omega, by omega, HV, HTT, HCT⟩
         case round =>
          clear HV HTT HCT
          obtain ⟨y, rfl, hgy, hyH, HV, HTT, HCT⟩ := hrel
          by_cases hy : y < H
          ·have hsh1 : impl_distancesTo.shape W H (impl_MeetingCorner.row (impl_MeetingCorner.tab s t x) x (t.getD x []) y) = true := impl_MeetingCorner.row_shape (impl_MeetingCorner.tab_shape (impl_MeetingCorner.ppl_shape HSH.out HS.out) t x) x (t.getD x []) y
           have hrl : ((impl_MeetingCorner.row (impl_MeetingCorner.tab s t x) x (t.getD x []) y).getD x []).length = H := by have := (impl_distancesTo.shape_len hsh1).2 x (by omega); omega
           obtain ⟨rb, cp2, hrow, hrb, hcells, hset⟩ := impl_distancesTo.grid_row HV.out.grid (i := x) hx (by omega)
           rw [hrl] at hrow hcells
           obtain ⟨hc, hfz⟩ := hcells y hy
           have hcd := HCT.out y hy
           have HST := Lib.hid (hset y (impl_MeetingCorner.one (rd ((impl_MeetingCorner.row (impl_MeetingCorner.tab s t x) x (t.getD x []) y).getD x []) (y : Int)) (rd (t.getD x []) (y : Int))))
           have HRB := Lib.hid hrb
           have hV : impl_MeetingCorner.row (impl_MeetingCorner.tab s t x) x (t.getD x []) (y + 1) = (impl_MeetingCorner.row (impl_MeetingCorner.tab s t x) x (t.getD x []) y).set x (((impl_MeetingCorner.row (impl_MeetingCorner.tab s t x) x (t.getD x []) y).getD x []).set y (impl_MeetingCorner.one (rd ((impl_MeetingCorner.row (impl_MeetingCorner.tab s t x) x (t.getD x []) y).getD x []) (y : Int)) (rd (t.getD x []) (y : Int)))) := rfl
           rw [← hV] at HST
           clear hset hcells hrb hrl hsh1 hV
           obtain ⟨V, hV⟩ : ∃ V, rd ((impl_MeetingCorner.row (impl_MeetingCorner.tab s t x) x (t.getD x []) y).getD x []) (y : Int) = V := ⟨_, rfl⟩
           obtain ⟨D, hD⟩ : ∃ D, rd (t.getD x []) (y : Int) = D := ⟨_, rfl⟩
           rw [hV] at hc HST
           rw [hD] at hcd HST
           clear hV hD
           have hy0 : (0 : Int) ≤ (y : Int) := by omega
           have hy1 : (y : Int) < (H : Int) := by omega
           by_cases hD : D < 0
           ·have e1 : impl_MeetingCorner.one V D = -1 := by unfold impl_MeetingCorner.one; rw [if_pos (Or.inl hD)]
            rw [e1] at HST
            go_wp2
            go_roundg (H - (y + 1))
            case measure => omega
            case rel => exact ⟨y + 1, by go_num, rfl, by omega, Lib.hid (HV.out.put HRB.out y _ HST.out), Lib.hid (impl_MeetingCorner.tput HTT.out (by have := HRB.out.2; omega) y _), Lib.hid (fun j hj => (impl_MeetingCorner.cput (by have := HRB.out.2; omega) y j _).trans (HCT.out j hj))⟩
           ·by_cases hV : V < 0
            ·have e1 : impl_MeetingCorner.one V D = -1 := by unfold impl_MeetingCorner.one; rw [if_pos (Or.inr hV)]
             rw [e1] at HST
             go_wp2
             go_roundg (H - (y + 1))
             case measure => omega
             case rel => exact ⟨y + 1, by go_num, rfl, by omega, Lib.hid (HV.out.put HRB.out y _ HST.out), Lib.hid (impl_MeetingCorner.tput HTT.out (by have := HRB.out.2; omega) y _), Lib.hid (fun j hj => (impl_MeetingCorner.cput (by have := HRB.out.2; omega) y j _).trans (HCT.out j hj))⟩
            ·have e1 : impl_MeetingCorner.one V D = wrap64 (V + D) := by unfold impl_MeetingCorner.one; rw [if_neg (by omega)]
             rw [e1] at HST
             go_wp2
             go_roundg (H - (y + 1))
             case measure => omega
             case rel => exact ⟨y + 1, by go_num, rfl, by omega, Lib.hid (HV.out.put HRB.out y _ HST.out), Lib.hid (impl_MeetingCorner.tput HTT.out (by have := HRB.out.2; omega) y _), Lib.hid (fun j hj => (impl_MeetingCorner.cput (by have := HRB.out.2; omega) y j _).trans (HCT.out j hj))⟩
          ·obtain rfl : y = H := by omega
           go_wp2
           go_roundg (W - (x + 1))
           case measure => omega
           case rel => exact ⟨x + 1, by go_num, rfl, by omega, by (rw [show impl_MeetingCorner.tab s t (x + 1) = impl_MeetingCorner.row (impl_MeetingCorner.tab s t x) x (t.getD x []) (t.getD x []).length from rfl, HLT.out]; exact HV), HTT⟩
        ·obtain rfl : x = W := by omega
         go_wp2
         go_roundg (l1.length - (i + 1))
         case measure => omega
         case rel => exact ⟨i + 1, _, by go_num, rfl, by omega, HS', by (rw [HTW.out]; exact HV)⟩
      ·obtain rfl : i = l1.length := by omega
       obtain rfl := Option.some.inj (HS.out.symm.trans HSF.out)
       have hsW : s.length = W := by have := (impl_distancesTo.shape_len (impl_MeetingCorner.ppl_shape HSH.out HS.out)).1; omega
       obtain ⟨hq1, hq2, hq3⟩ := Kd.S_reads' HV.out.grid
       have h0 := impl_leastIn.calls k (some ⟨gb, 0, none⟩) cap s r1 r2 r3 wr (by rw [hsW] at hq3 ⊢; exact hq3) (by omega) HLE.out
       rw [hsW] at h0
       have HLC := Lib.hid h0
       clear h0 hq1 hq2 hq3 hsW
       go_wp2_with (go_at_call 63; refine HLC.out.mono ?_; rintro e w9 ⟨v9, rfl, hR9, hb9⟩; have HF := Lib.hid (And.intro (Kd.R_lower hR9 HV.out.bel.size) (below_then HV.out.bel HV.out.bel.size hb9)); clear hR9 hb9)
       go_ret3
       exact ⟨_, rfl, HF.out.1, HF.out.2⟩
    ·rw [if_neg hsh] at h
     cases h
   ·rw [if_neg hok] at h
    cases h
 ·rw [if_neg hn] at h
  simp only [Option.some.injEq, Prod.mk.injEq] at h
  obtain ⟨rfl, rfl, rfl⟩ := h
  have HWI := Lib.hid (show impl_within.f (l1.length : Int) 1 10 = some false by rw [impl_areCorners.within_f, decide_eq_false (by omega)])
  have hml : l1.length ≤ maxLen := hr1.2.1
  clear hr0_2 hr1
  go_enter Try.func28, Try.ntmps28
  go_upto_region 1 with (fail)
  generalize w.alloc (.cells #[.int .i64 a0_0, .int .i64 a0_1, .slice A0_2 l0_2.length c0_2] 31) = W1 at HX0 HB0 ⊢
  go_wp2_with (go_at_call 61; refine (impl_within.calls _ 1 10 false _ HWI.out).mono ?_; rintro e w2 ⟨rfl, hd⟩; obtain ⟨n2, rfl⟩ := hd.out; have HB2 := Lib.hid (pw_below_drewN HB0.out n2); clear hd)
  go_ret3
  exact ⟨_, rfl, Kd.R_nil _ _ _ _ _, HB2.out⟩
def laws_eqIntSS.l0 : Nat → List (List Int) → List (List Int) → Int → Option (Bool)
 | 0, _, _, _ => none
 | k + 1, x0, x1, x5 => if x5 < (x0.length : Int) then (if 0 ≤ x5 then (if x5 < (x1.length : Int) then ((laws_eqIntS.f k (rd_L4 x0 x5) (rd_L4 x1 x5)).bind fun t274 => (if t274 = true then (laws_eqIntSS.l0 k x0 x1 (wrap64 (x5 + 1))) else (some false))) else (none)) else (none)) else (some true)
def laws_eqIntSS.f (k : Nat) (l0 : List (List Int)) (l1 : List (List Int)) : Option (Bool) := if (l0.length : Int) = (l1.length : Int) then (laws_eqIntSS.l0 k l0 l1 0) else (some false)
theorem laws_eqIntSS.mono_l : ∀ k, (∀ y0 y1 y2, LeO (laws_eqIntSS.l0 k y0 y1 y2) (laws_eqIntSS.l0 (k + 1) y0 y1 y2))
 | 0 => fun _ _ _ r h => by simp [laws_eqIntSS.l0] at h
 | k + 1 => by
  have ih0 := laws_eqIntSS.mono_l k
  ·intro y0 y1 y2
   unfold laws_eqIntSS.l0
   repeat' first
   | (with_reducible exact ih0 _ _ _)
   | (with_reducible exact laws_eqIntS.mono _ _ _)
   | (with_reducible exact LeO.refl _)
   | (with_reducible exact LeO.none _)
   | (with_reducible refine LeO.ite ?_ ?_)
   | (with_reducible refine LeO.bind ?_ (fun _ => ?_))
   | exact ih0 _ _ _
   | exact laws_eqIntS.mono _ _ _
   | exact LeO.none _
   | refine LeO.ite ?_ ?_
   | refine LeO.bind ?_ (fun _ => ?_)
theorem laws_eqIntSS.mono : ∀ a0 a1 k, LeO (laws_eqIntSS.f k a0 a1) (laws_eqIntSS.f (k + 1) a0 a1) := by
 intro a0 a1 k
 have ih0 := laws_eqIntSS.mono_l k
 unfold laws_eqIntSS.f
 repeat' first
   | (with_reducible exact ih0 _ _ _)
   | (with_reducible exact laws_eqIntS.mono _ _ _)
   | (with_reducible exact LeO.refl _)
   | (with_reducible exact LeO.none _)
   | (with_reducible refine LeO.ite ?_ ?_)
   | (with_reducible refine LeO.bind ?_ (fun _ => ?_))
   | exact ih0 _ _ _
   | exact laws_eqIntS.mono _ _ _
   | exact LeO.none _
   | refine LeO.ite ?_ ?_
   | refine LeO.bind ?_ (fun _ => ?_)
set_option maxHeartbeats 8000000 in
set_option maxRecDepth 100000 in
theorem laws_eqIntSS.calls (k : Nat) (A0 : Option Addr) (c0 : Nat) (l0 : List (List Int)) (A1 : Option Addr) (c1 : Nat) (l1 : List (List Int)) (r : Bool) (w : World) (hr0 : Kd.C (Kd.slice 3 (Kd.int .i64)) w A0 l0.length l0) (hc0 : l0.length ≤ c0) (hr1 : Kd.C (Kd.slice 3 (Kd.int .i64)) w A1 l1.length l1) (hc1 : l1.length ≤ c1) (h : laws_eqIntSS.f k l0 l1 = some r) :
  Calls Try.prog 29 #[.slice A0 l0.length c0, .slice A1 l1.length c1] w fun e w' => e = .returned (.bool r) ∧ Drawn0 w w' := by
 have HR0 := Aside0.mk hr0
 have HC0 := Aside0.mk hc0
 clear hr0 hc0
 have HR1 := Aside0.mk hr1
 have HC1 := Aside0.mk hc1
 clear hr1 hc1
 have H : (if (l0.length : Int) = (l1.length : Int) then (laws_eqIntSS.l0 k l0 l1 0) else (some false)) = some r := h
 clear h
 by_cases c3 : (l0.length : Int) = (l1.length : Int)
 ·rw [if_pos c3] at H
  have c3b0 : ((l0.length : Int) == (l1.length : Int)) = true := beq_iff_eq.mpr c3
  have c3b1 : ((l0.length : Int) != (l1.length : Int)) = false := bne_eq_false_iff_eq.mpr c3
  have c3b2 : (l0.length == l1.length) = true := by first | simpa using c3 | (simp at c3 ⊢; omega)
  clear c3
  have H' := Aside0.mk H
  clear H
  go_enter Try.func29, Try.ntmps29
  go_wp2
  repeat (go_quiet (fail); try go_wp2)
  go_loopg [5] k (fun kq v5 w' => ∃ (x5_1 : Int), v5 = .int .i64 x5_1 ∧ Aside0 (laws_eqIntSS.l0 kq l0 l1 x5_1 = some r) ∧ Aside0 (kq ≤ k) ∧ Drawn0 w w')
  case atStart => exact ⟨(0), (by first | rfl | (simp; done) | (simp [*]; done)), H', ⟨Nat.le_refl _⟩, by repeat (first | exact Drawn0.refl _ | apply Drawn0.step)⟩
  case round =>
   clear H'
   try clear c1
   try clear c3
   try clear c3b0
   try clear c3b1
   try clear c3b2
   obtain ⟨x5_1, rfl, HA, HK1, ⟨m1, rfl⟩⟩ := hrel
   cases gk with
   | zero => exact absurd HA.out (by simp [laws_eqIntSS.l0])
   | succ k1 =>
    have H := HA.out
    clear HA
    simp only [laws_eqIntSS.l0] at H
    by_cases c4 : x5_1 < (l0.length : Int)
    ·rw [if_pos c4] at H
     have c4b0 : decide (x5_1 < (l0.length : Int)) = true := decide_eq_true c4
     clear c4
     by_cases c5 : 0 ≤ x5_1
     ·rw [if_pos c5] at H
      have c5b0 : decide (0 ≤ x5_1) = true := decide_eq_true c5
      clear c5
      by_cases c6 : x5_1 < (l1.length : Int)
      ·rw [if_pos c6] at H
       have c6b0 : decide (x5_1 < (l1.length : Int)) = true := decide_eq_true c6
       clear c6
       replace H := Option.bind_eq_some_iff.mp H
       obtain ⟨t274, A70, H⟩ := H
       replace H : (if t274 = true then (laws_eqIntSS.l0 k1 l0 l1 (wrap64 (x5_1 + 1))) else (some false)) = some r := H
       have A7 := Aside0.mk A70
       clear A70
       by_cases c8 : t274 = true
       ·subst c8
        have H1 : (laws_eqIntSS.l0 k1 l0 l1 (wrap64 (x5_1 + 1))) = some r := by rw [if_pos rfl] at H; exact H
        clear H
        have H := H1
        clear H1
        have H' := Aside0.mk H
        clear H
        have p272 : 0 ≤ (x5_1 : Int) := of_decide_eq_true (by first | (with_reducible assumption) | assumption)
        have q272 : x5_1 < (l0.length : Int) := of_decide_eq_true (by first | (with_reducible assumption) | assumption)
        obtain ⟨ad272, A272_0, c272_0, e272, hx272_0, hl272_0, hi272_0⟩ := at_L4 HR0.out x5_1 p272 q272
        cases e272
        have HR272_0 := Aside0.mk hi272_0
        have HC272_0 := Aside0.mk hl272_0
        clear hi272_0 hl272_0
        replace p272 := eq_true p272
        replace q272 := eq_true q272
        have p273 : 0 ≤ (x5_1 : Int) := of_decide_eq_true (by first | (with_reducible assumption) | assumption)
        have q273 : x5_1 < (l1.length : Int) := of_decide_eq_true (by first | (with_reducible assumption) | assumption)
        obtain ⟨ad273, A273_0, c273_0, e273, hx273_0, hl273_0, hi273_0⟩ := at_L4 HR1.out x5_1 p273 q273
        cases e273
        have HR273_0 := Aside0.mk hi273_0
        have HC273_0 := Aside0.mk hl273_0
        clear hi273_0 hl273_0
        replace p273 := eq_true p273
        replace q273 := eq_true q273
        go_wp2_with (first | (go_at_call 15; (with_reducible refine (laws_eqIntS.calls k1 _ _ (rd_L4 l0 x5_1) _ _ (rd_L4 l1 x5_1) true _ ?side1 ?side2 ?side3 ?side4 A7.out).mono ?_); (case side1 => repeat (first | exact HR272_0.out | (with_reducible refine Kd.C_alloc ?_ _) | (with_reducible refine Kd.C_drewN ?_ _) | (with_reducible refine Kd.C_drew ?_))); (case side2 => exact HC272_0.out); (case side3 => repeat (first | exact HR273_0.out | (with_reducible refine Kd.C_alloc ?_ _) | (with_reducible refine Kd.C_drewN ?_ _) | (with_reducible refine Kd.C_drew ?_))); (case side4 => exact HC273_0.out); rintro e w' ⟨rfl, ⟨nd, rfl⟩⟩; (try first | exact ⟨rfl, _, World.drewN_drewN _ _ _⟩ | exact ⟨rfl, _, Eq.trans (World.drewN_drewN _ _ _) (congrArg (World.drewN _) (Nat.add_assoc _ _ _))⟩)))
        repeat (go_quiet (first | (go_at_call 15; (with_reducible refine (laws_eqIntS.calls k1 _ _ (rd_L4 l0 x5_1) _ _ (rd_L4 l1 x5_1) true _ ?side1 ?side2 ?side3 ?side4 A7.out).mono ?_); (case side1 => repeat (first | exact HR272_0.out | (with_reducible refine Kd.C_alloc ?_ _) | (with_reducible refine Kd.C_drewN ?_ _) | (with_reducible refine Kd.C_drew ?_))); (case side2 => exact HC272_0.out); (case side3 => repeat (first | exact HR273_0.out | (with_reducible refine Kd.C_alloc ?_ _) | (with_reducible refine Kd.C_drewN ?_ _) | (with_reducible refine Kd.C_drew ?_))); (case side4 => exact HC273_0.out); rintro e w' ⟨rfl, ⟨nd, rfl⟩⟩; (try first | exact ⟨rfl, _, World.drewN_drewN _ _ _⟩ | exact ⟨rfl, _, Eq.trans (World.drewN_drewN _ _ _) (congrArg (World.drewN _) (Nat.add_assoc _ _ _))⟩))); try go_wp2_with (first | (go_at_call 15; (with_reducible refine (laws_eqIntS.calls k1 _ _ (rd_L4 l0 x5_1) _ _ (rd_L4 l1 x5_1) true _ ?side1 ?side2 ?side3 ?side4 A7.out).mono ?_); (case side1 => repeat (first | exact HR272_0.out | (with_reducible refine Kd.C_alloc ?_ _) | (with_reducible refine Kd.C_drewN ?_ _) | (with_reducible refine Kd.C_drew ?_))); (case side2 => exact HC272_0.out); (case side3 => repeat (first | exact HR273_0.out | (with_reducible refine Kd.C_alloc ?_ _) | (with_reducible refine Kd.C_drewN ?_ _) | (with_reducible refine Kd.C_drew ?_))); (case side4 => exact HC273_0.out); rintro e w' ⟨rfl, ⟨nd, rfl⟩⟩; (try first | exact ⟨rfl, _, World.drewN_drewN _ _ _⟩ | exact ⟨rfl, _, Eq.trans (World.drewN_drewN _ _ _) (congrArg (World.drewN _) (Nat.add_assoc _ _ _))⟩))))
        go_roundg k1
        case measure => have := HK1.out; omega
        case rel => exact ⟨(wrap64 (x5_1 + 1)), (by first | rfl | (simp; done) | (simp [*]; done)), H', ⟨by have := HK1.out; omega⟩, by repeat (first | exact Drawn0.refl _ | apply Drawn0.step)⟩
       ·replace c8 := Bool.eq_false_iff.mpr c8
        subst c8
        have H1 : (some false) = some r := by rw [if_neg (show ¬ (false = true) by decide)] at H; exact H
        clear H
        have H := H1
        clear H1
        obtain rfl := Option.some.inj H
        have p272 : 0 ≤ (x5_1 : Int) := of_decide_eq_true (by first | (with_reducible assumption) | assumption)
        have q272 : x5_1 < (l0.length : Int) := of_decide_eq_true (by first | (with_reducible assumption) | assumption)
        obtain ⟨ad272, A272_0, c272_0, e272, hx272_0, hl272_0, hi272_0⟩ := at_L4 HR0.out x5_1 p272 q272
        cases e272
        have HR272_0 := Aside0.mk hi272_0
        have HC272_0 := Aside0.mk hl272_0
        clear hi272_0 hl272_0
        replace p272 := eq_true p272
        replace q272 := eq_true q272
        have p273 : 0 ≤ (x5_1 : Int) := of_decide_eq_true (by first | (with_reducible assumption) | assumption)
        have q273 : x5_1 < (l1.length : Int) := of_decide_eq_true (by first | (with_reducible assumption) | assumption)
        obtain ⟨ad273, A273_0, c273_0, e273, hx273_0, hl273_0, hi273_0⟩ := at_L4 HR1.out x5_1 p273 q273
        cases e273
        have HR273_0 := Aside0.mk hi273_0
        have HC273_0 := Aside0.mk hl273_0
        clear hi273_0 hl273_0
        replace p273 := eq_true p273
        replace q273 := eq_true q273
        go_wp2_with (first | (go_at_call 15; (with_reducible refine (laws_eqIntS.calls k1 _ _ (rd_L4 l0 x5_1) _ _ (rd_L4 l1 x5_1) false _ ?side1 ?side2 ?side3 ?side4 A7.out).mono ?_); (case side1 => repeat (first | exact HR272_0.out | (with_reducible refine Kd.C_alloc ?_ _) | (with_reducible refine Kd.C_drewN ?_ _) | (with_reducible refine Kd.C_drew ?_))); (case side2 => exact HC272_0.out); (case side3 => repeat (first | exact HR273_0.out | (with_reducible refine Kd.C_alloc ?_ _) | (with_reducible refine Kd.C_drewN ?_ _) | (with_reducible refine Kd.C_drew ?_))); (case side4 => exact HC273_0.out); rintro e w' ⟨rfl, ⟨nd, rfl⟩⟩; (try first | exact ⟨rfl, _, World.drewN_drewN _ _ _⟩ | exact ⟨rfl, _, Eq.trans (World.drewN_drewN _ _ _) (congrArg (World.drewN _) (Nat.add_assoc _ _ _))⟩)))
        repeat (go_quiet (first | (go_at_call 15; (with_reducible refine (laws_eqIntS.calls k1 _ _ (rd_L4 l0 x5_1) _ _ (rd_L4 l1 x5_1) false _ ?side1 ?side2 ?side3 ?side4 A7.out).mono ?_); (case side1 => repeat (first | exact HR272_0.out | (with_reducible refine Kd.C_alloc ?_ _) | (with_reducible refine Kd.C_drewN ?_ _) | (with_reducible refine Kd.C_drew ?_))); (case side2 => exact HC272_0.out); (case side3 => repeat (first | exact HR273_0.out | (with_reducible refine Kd.C_alloc ?_ _) | (with_reducible refine Kd.C_drewN ?_ _) | (with_reducible refine Kd.C_drew ?_))); (case side4 => exact HC273_0.out); rintro e w' ⟨rfl, ⟨nd, rfl⟩⟩; (try first | exact ⟨rfl, _, World.drewN_drewN _ _ _⟩ | exact ⟨rfl, _, Eq.trans (World.drewN_drewN _ _ _) (congrArg (World.drewN _) (Nat.add_assoc _ _ _))⟩))); try go_wp2_with (first | (go_at_call 15; (with_reducible refine (laws_eqIntS.calls k1 _ _ (rd_L4 l0 x5_1) _ _ (rd_L4 l1 x5_1) false _ ?side1 ?side2 ?side3 ?side4 A7.out).mono ?_); (case side1 => repeat (first | exact HR272_0.out | (with_reducible refine Kd.C_alloc ?_ _) | (with_reducible refine Kd.C_drewN ?_ _) | (with_reducible refine Kd.C_drew ?_))); (case side2 => exact HC272_0.out); (case side3 => repeat (first | exact HR273_0.out | (with_reducible refine Kd.C_alloc ?_ _) | (with_reducible refine Kd.C_drewN ?_ _) | (with_reducible refine Kd.C_drew ?_))); (case side4 => exact HC273_0.out); rintro e w' ⟨rfl, ⟨nd, rfl⟩⟩; (try first | exact ⟨rfl, _, World.drewN_drewN _ _ _⟩ | exact ⟨rfl, _, Eq.trans (World.drewN_drewN _ _ _) (congrArg (World.drewN _) (Nat.add_assoc _ _ _))⟩))))
        go_ret
        exact ⟨by first | rfl | (simp; done) | (simp [*]; done), by repeat (first | exact Drawn0.refl _ | apply Drawn0.step)⟩
      ·rw [if_neg c6] at H
       exact absurd H (by simp)
     ·rw [if_neg c5] at H
      exact absurd H (by simp)
    ·rw [if_neg c4] at H
     have c4b0 : decide (x5_1 < (l0.length : Int)) = false := decide_eq_false c4
     clear c4
     obtain rfl := Option.some.inj H
     go_wp2
     repeat (go_quiet (fail); try go_wp2)
     go_ret
     exact ⟨by first | rfl | (simp; done) | (simp [*]; done), by repeat (first | exact Drawn0.refl _ | apply Drawn0.step)⟩
 ·rw [if_neg c3] at H
  have c3b0 : ((l0.length : Int) == (l1.length : Int)) = false := beq_eq_false_iff_ne.mpr c3
  have c3b1 : ((l0.length : Int) != (l1.length : Int)) = true := bne_iff_ne.mpr c3
  have c3b2 : (l0.length == l1.length) = false := by first | simpa using c3 | (simp at c3 ⊢; omega)
  obtain rfl := Option.some.inj H
  go_enter Try.func29, Try.ntmps29
  go_wp2
  repeat (go_quiet (fail); try go_wp2)
  go_ret
  exact ⟨by first | rfl | (simp; done) | (simp [*]; done), by repeat (first | exact Drawn0.refl _ | apply Drawn0.step)⟩
def laws_markIntSS.go (k : Nat) (l : List (List Int)) (a : Int) : Nat → Option Int
 | 0 => some a
 | i + 1 => (laws_markIntSS.go k l a i).bind fun b => (laws_markIntS.f k (l.getD i []) b).bind fun c => some c.1
def laws_markIntSS.f (k : Nat) (l0 : List (List Int)) (a1 : Int) : Option Int := laws_markIntSS.go k l0 a1 l0.length
theorem laws_markIntSS.go_mono (k : Nat) (l : List (List Int)) (a : Int) : ∀ n, LeO (laws_markIntSS.go k l a n) (laws_markIntSS.go (k + 1) l a n)
 | 0 => LeO.refl _
 | n + 1 => LeO.bind (laws_markIntSS.go_mono k l a n) (fun _ => LeO.bind (laws_markIntS.mono _ _ _) (fun _ => LeO.refl _))
theorem laws_markIntSS.mono : ∀ a0 a1 k, LeO (laws_markIntSS.f k a0 a1) (laws_markIntSS.f (k + 1) a0 a1) := fun _ _ k => laws_markIntSS.go_mono k _ _ _
theorem laws_markIntSS.go_at {k : Nat} {l : List (List Int)} {a : Int} {n : Nat} {s : Int} (h : laws_markIntSS.go k l a n = some s) : ∀ d j : Nat, j + d = n → ∃ s1, laws_markIntSS.go k l a j = some s1
 | 0, j, hj => ⟨s, by rw [show j = n by omega]; exact h⟩
 | d + 1, j, hj => by
  obtain ⟨s1, h1⟩ := laws_markIntSS.go_at h d (j + 1) (by omega)
  obtain ⟨s2, h2, _⟩ := Option.bind_eq_some_iff.mp h1
  exact ⟨s2, h2⟩
theorem laws_markIntSS.go_next {k : Nat} {l : List (List Int)} {a : Int} {n : Nat} {s s' : Int} (h : laws_markIntSS.go k l a n = some s) (h' : laws_markIntSS.go k l a (n + 1) = some s') : ∃ row, laws_markIntS.f k (l.getD n []) s = some (s', row) := by
 obtain ⟨s1, h1, e⟩ := Option.bind_eq_some_iff.mp h'
 obtain rfl := Option.some.inj (h.symm.trans h1)
 obtain ⟨⟨x, y⟩, ht, e⟩ := Option.bind_eq_some_iff.mp e
 obtain rfl := Option.some.inj e
 exact ⟨y, ht⟩
def laws_markIntSS.B (ok : Nat → Prop) (base : Nat) (w : World) (k_ : Nat) : Prop := ok k_ ∧ base ≤ k_ ∧ k_ < w.heap.size ∧ ∃ q, q ∈ [25, 3] ∧ ∃ cells, w.heap[k_]? = some (.cells cells q (0, 0))
set_option maxHeartbeats 4000000 in
theorem laws_markIntSS.own (k : Nat) (ok : Nat → Prop) (A : Option Addr) (c : Nat) (l0 : List (List Int)) (a1 : Int) (r1 : Int) (w0 w : World) (hB : Below w0.heap.size w0 w) (ho0 : Kd.S (Kd.slice 3 (Kd.int .i64)) 25 w w0.heap.size ok (.slice A l0.length c) l0) (h : laws_markIntSS.f k l0 a1 = some r1) :
  Calls Try.prog 30 #[.slice A l0.length c, .int .i64 a1] w fun e w' => e = .returned (.int .i64 r1) ∧ Below w0.heap.size w0 w' ∧ Kept w w' (laws_markIntSS.B ok w0.heap.size w) := by
 have HS := Lib.hid (show Kd.S (Kd.slice 3 (Kd.int .i64)) 25 w w0.heap.size (laws_markIntSS.B ok w0.heap.size w) (.slice A l0.length c) l0 from Kd.S_bound ho0)
 have HK := Lib.hid (Kept.refl w (laws_markIntSS.B ok w0.heap.size w))
 have HB := Lib.hid hB
 have HF := Lib.hid h
 clear hB ho0 h
 generalize laws_markIntSS.B ok w0.heap.size w = P at HS HK ⊢
 have hml : l0.length ≤ maxLen := (Kd.S_reads' HS.out).2.2.2.1
 have hm2 : l0.length ≤ 9223372036854775807 := by unfold maxLen at hml; omega
 clear hml
 go_enter Try.func30, Try.ntmps30
 go_wp2
 go_loopg [1, 5] l0.length (fun gn v1 v5 wr => ∃ (i : Nat) (b : Int) (xs : List (List Int)), v1 = .int .i64 b ∧ v5 = .int .i64 i ∧ gn = l0.length - i ∧ i ≤ l0.length ∧ Hid (xs.length = l0.length) ∧ Hid (laws_markIntSS.go k l0 a1 i = some b) ∧ Hid (∀ j, i ≤ j → xs.getD j [] = l0.getD j []) ∧ Hid (Kd.S (Kd.slice 3 (Kd.int .i64)) 25 wr w0.heap.size P (.slice A l0.length c) xs) ∧ Hid (Below w0.heap.size w0 wr) ∧ Hid (Kept w wr P))
 case atStart => exact ⟨0, a1, l0, rfl, rfl, by omega, by omega, Lib.hid rfl, Lib.hid rfl, Lib.hid (fun _ _ => rfl), HS, HB, HK⟩
 case round =>
  clear HS HB HK
  obtain ⟨i, b, xs, rfl, rfl, hgn, hil, HL, HG, HX, HS, HB, HK⟩ := hrel
  by_cases hi : i < l0.length
  ·obtain ⟨b', hb'⟩ := laws_markIntSS.go_at HF.out (l0.length - (i + 1)) (i + 1) (by omega)
   obtain ⟨row, hrow⟩ := laws_markIntSS.go_next HG.out hb'
   have HB' := Lib.hid hb'
   have HR' := Lib.hid hrow
   clear hb' hrow
   obtain ⟨g, cap, ev, _, _, _⟩ := Kd.S_form HS.out (by have := HL.out; omega)
   have eA := (Value.slice.inj ev).1
   clear ev
   subst eA
   obtain ⟨oki, cs, hcl, hM, hcc, hfr, hoki, hH⟩ := Kd.S_elem HS.out ([] : List Int) (i : Int) (by omega) (by omega)
   rw [Int.toNat_natCast] at hM hcc
   obtain ⟨v, rfl, hR⟩ := hM
   have hc0 : wr.cell? ⟨g, i, none⟩ = some v := by
    have h0 := hcc 0 _ rfl
    simpa [Kd.slice] using h0
   rw [HX.out i (Nat.le_refl _)] at hR
   have HRR := Lib.hid hR
   have HH := Lib.hid hH
   have HO := Lib.hid hoki
   have hi0 : (0 : Int) ≤ (i : Int) := by omega
   have hi1 : (i : Int) < (l0.length : Int) := by omega
   clear hcc hfr hoki hH hR hcl
   go_wp2_with (go_at_call 22; refine (laws_markIntS.calls k oki v (l0.getD i []) b b' row w0 wr HB.out HRR.out HR'.out).mono ?_; rintro e w2 ⟨rfl, hR2, hB2, hK2⟩; have HR2 := Lib.hid hR2; have HB2 := Lib.hid hB2; have HK2 := Lib.hid hK2; clear hR2 hB2 hK2)
   go_roundg (l0.length - (i + 1))
   case measure => omega
   case rel =>
    refine ⟨i + 1, b', xs.set i row, rfl, by go_num, rfl, by omega, Lib.hid (by rw [List.length_set]; exact HL.out), HB', Lib.hid (fun j hj => ?_), Lib.hid ?_, HB2, Lib.hid (HK.out.then_ HK2.out (fun k_ hk => .inl (HO.out k_ hk).1))⟩
    ·rw [← HX.out j (by omega)]
     simp only [List.getD_eq_getElem?_getD]
     rw [List.getElem?_set_ne (by omega)]
    ·have h1 := Kd.H_kept HH.out HK2.out (fun _ _ hn => hn)
     have h2 := Kd.H_back h1 (x' := row) (okp := oki) ⟨v, rfl, Kd.R_reok rfl HR2.out (fun k_ hk => HRR.out.1 k_ hk)⟩ (fun _ hk => hk)
     rwa [Int.toNat_natCast] at h2
  ·obtain rfl : i = l0.length := by omega
   obtain rfl := Option.some.inj (HG.out.symm.trans HF.out)
   go_wp2
   go_ret
   exact ⟨rfl, HB.out, HK.out⟩
theorem laws_markIntSS.keepR {α : Type} {d : Kd α} {e base base' : Nat} {ok okS : Nat → Prop} {w W2 : World} {v : Value} {xs : List α} (h : d.R e w base ok v xs) (hk : Kept w W2 (laws_markIntSS.B okS base' w)) (hE : d.E = []) (hq : (e ≠ 25 ∧ e ≠ 3) ∨ (∀ k, okS k → some k ≠ v.ownBlock)) : d.R e W2 base ok v xs := by
 refine Kd.R_reok hE (Kd.R_kept (Kd.R_bound (Kd.R_tight hE h)) hk (fun k h1 h2 => ?_)) h.1
 obtain ⟨e1, _, _, q, hq1, cells, hc⟩ := h1
 obtain ⟨o2, _, _, q2, hq2, cells2, hc2⟩ := h2
 rcases hq with ⟨n1, n2⟩ | hq
 ·rw [hE] at hq1
  obtain rfl : q = e := by simpa using hq1
  have h3 := Option.some.inj (hc.symm.trans hc2)
  obtain ⟨_, h4, _⟩ := Obj.cells.inj h3
  rw [← h4] at hq2
  simp only [List.mem_cons, List.not_mem_nil, or_false] at hq2
  rcases hq2 with h5 | h5
  ·exact n1 h5
  ·exact n2 h5
 ·exact hq k o2 e1
theorem laws_markIntSS.box {g t base' : Nat} {cs : Array Value} {okS : Nat → Prop} {w W2 : World} (hb : w.heap[g]? = some (.cells cs t (0, 0))) (hk : Kept w W2 (laws_markIntSS.B okS base' w)) (n1 : t ≠ 25) (n2 : t ≠ 3) : W2.heap[g]? = some (.cells cs t (0, 0)) := by
 refine blk_kept hb hk (fun h2 => ?_)
 obtain ⟨_, _, _, q2, hq2, cells2, hc2⟩ := h2
 have h3 := Option.some.inj (hb.symm.trans hc2)
 obtain ⟨_, h4, _⟩ := Obj.cells.inj h3
 rw [← h4] at hq2
 simp only [List.mem_cons, List.not_mem_nil, or_false] at hq2
 rcases hq2 with h5 | h5
 ·exact n1 h5
 ·exact n2 h5
def laws_heldIntS.l0 : Nat → List Int → Int → Int → Option (Int)
 | 0, _, _, _ => none
 | k + 1, x0, x1, x5 => if x5 < (x0.length : Int) then (if 0 ≤ x5 then (if (rd x0 x5) = x1 then (laws_heldIntS.l0 k x0 (wrap64 (x1 + 1)) (wrap64 (x5 + 1))) else (some (-1))) else (none)) else (some x1)
def laws_heldIntS.f (k : Nat) (l0 : List Int) (a1 : Int) : Option (Int) := laws_heldIntS.l0 k l0 a1 0
theorem laws_heldIntS.mono_l : ∀ k, (∀ y0 y1 y2, LeO (laws_heldIntS.l0 k y0 y1 y2) (laws_heldIntS.l0 (k + 1) y0 y1 y2))
 | 0 => fun _ _ _ r h => by simp [laws_heldIntS.l0] at h
 | k + 1 => by
  have ih0 := laws_heldIntS.mono_l k
  ·intro y0 y1 y2
   unfold laws_heldIntS.l0
   repeat' first
   | (with_reducible exact ih0 _ _ _)
   | (with_reducible exact LeO.refl _)
   | (with_reducible exact LeO.none _)
   | (with_reducible refine LeO.ite ?_ ?_)
   | (with_reducible refine LeO.bind ?_ (fun _ => ?_))
   | exact ih0 _ _ _
   | exact LeO.none _
   | refine LeO.ite ?_ ?_
   | refine LeO.bind ?_ (fun _ => ?_)
theorem laws_heldIntS.mono : ∀ a0 a1 k, LeO (laws_heldIntS.f k a0 a1) (laws_heldIntS.f (k + 1) a0 a1) := by
 intro a0 a1 k
 have ih0 := laws_heldIntS.mono_l k
 unfold laws_heldIntS.f
 repeat' first
   | (with_reducible exact ih0 _ _ _)
   | (with_reducible exact LeO.refl _)
   | (with_reducible exact LeO.none _)
   | (with_reducible refine LeO.ite ?_ ?_)
   | (with_reducible refine LeO.bind ?_ (fun _ => ?_))
   | exact ih0 _ _ _
   | exact LeO.none _
   | refine LeO.ite ?_ ?_
   | refine LeO.bind ?_ (fun _ => ?_)
set_option maxHeartbeats 8000000 in
set_option maxRecDepth 100000 in
theorem laws_heldIntS.calls (k : Nat) (A0 : Option Addr) (c0 : Nat) (l0 : List Int) (a1 : Int) (r : Int) (w : World) (hr0 : Kd.C (Kd.int .i64) w A0 l0.length l0) (hc0 : l0.length ≤ c0) (h : laws_heldIntS.f k l0 a1 = some r) :
  Calls Try.prog 31 #[.slice A0 l0.length c0, .int .i64 a1] w fun e w' => e = .returned (.int .i64 r) ∧ Drawn0 w w' := by
 have HR0 := Aside0.mk hr0
 have HC0 := Aside0.mk hc0
 clear hr0 hc0
 have H : (laws_heldIntS.l0 k l0 a1 0) = some r := h
 clear h
 have H' := Aside0.mk H
 clear H
 go_enter Try.func31, Try.ntmps31
 go_wp2
 go_loopg [1, 5] k (fun kq v1 v5 w' => ∃ (x1_1 : Int) (x5_1 : Int), v1 = .int .i64 x1_1 ∧ v5 = .int .i64 x5_1 ∧ Aside0 (laws_heldIntS.l0 kq l0 x1_1 x5_1 = some r) ∧ Aside0 (kq ≤ k) ∧ Drawn0 w w')
 case atStart => exact ⟨(a1), (0), (by first | rfl | (simp; done) | (simp [*]; done)), (by first | rfl | (simp; done) | (simp [*]; done)), H', ⟨Nat.le_refl _⟩, by repeat (first | exact Drawn0.refl _ | apply Drawn0.step)⟩
 case round =>
  clear H'
  obtain ⟨x1_1, x5_1, rfl, rfl, HA, HK1, ⟨m1, rfl⟩⟩ := hrel
  cases gk with
  | zero => exact absurd HA.out (by simp [laws_heldIntS.l0])
  | succ k1 =>
   have H := HA.out
   clear HA
   simp only [laws_heldIntS.l0] at H
   by_cases c3 : x5_1 < (l0.length : Int)
   ·rw [if_pos c3] at H
    have c3b0 : decide (x5_1 < (l0.length : Int)) = true := decide_eq_true c3
    clear c3
    by_cases c4 : 0 ≤ x5_1
    ·rw [if_pos c4] at H
     have c4b0 : decide (0 ≤ x5_1) = true := decide_eq_true c4
     clear c4
     by_cases c5 : (rd l0 x5_1) = x1_1
     ·rw [if_pos c5] at H
      have c5b0 : ((rd l0 x5_1) == x1_1) = true := beq_iff_eq.mpr c5
      have c5b1 : ((rd l0 x5_1) != x1_1) = false := bne_eq_false_iff_eq.mpr c5
      clear c5
      have H' := Aside0.mk H
      clear H
      have p275 : 0 ≤ (x5_1 : Int) := of_decide_eq_true (by first | (with_reducible assumption) | assumption)
      have q275 : x5_1 < (l0.length : Int) := of_decide_eq_true (by first | (with_reducible assumption) | assumption)
      obtain ⟨ad275, e275, hx275_0⟩ := Kd.at_int HR0.out x5_1 p275 q275
      cases e275
      replace p275 := eq_true p275
      replace q275 := eq_true q275
      go_wp2
      go_roundg k1
      case measure => have := HK1.out; omega
      case rel => exact ⟨(wrap64 (x1_1 + 1)), (wrap64 (x5_1 + 1)), (by first | rfl | (simp; done) | (simp [*]; done)), (by first | rfl | (simp; done) | (simp [*]; done)), H', ⟨by have := HK1.out; omega⟩, by repeat (first | exact Drawn0.refl _ | apply Drawn0.step)⟩
     ·rw [if_neg c5] at H
      have c5b0 : ((rd l0 x5_1) == x1_1) = false := beq_eq_false_iff_ne.mpr c5
      have c5b1 : ((rd l0 x5_1) != x1_1) = true := bne_iff_ne.mpr c5
      obtain rfl := Option.some.inj H
      have p275 : 0 ≤ (x5_1 : Int) := of_decide_eq_true (by first | (with_reducible assumption) | assumption)
      have q275 : x5_1 < (l0.length : Int) := of_decide_eq_true (by first | (with_reducible assumption) | assumption)
      obtain ⟨ad275, e275, hx275_0⟩ := Kd.at_int HR0.out x5_1 p275 q275
      cases e275
      replace p275 := eq_true p275
      replace q275 := eq_true q275
      go_wp2
      go_ret
      exact ⟨by first | rfl | (simp; done) | (simp [*]; done), by repeat (first | exact Drawn0.refl _ | apply Drawn0.step)⟩
    ·rw [if_neg c4] at H
     exact absurd H (by simp)
   ·rw [if_neg c3] at H
    have c3b0 : decide (x5_1 < (l0.length : Int)) = false := decide_eq_false c3
    clear c3
    obtain rfl := Option.some.inj H
    go_wp2
    go_ret
    exact ⟨by first | rfl | (simp; done) | (simp [*]; done), by repeat (first | exact Drawn0.refl _ | apply Drawn0.step)⟩
end Go.Proofs.Ytpedofomfhmnfaa.PFnExactMeetingCorner
