/- Cut by wip/cut.py out of the texts of this claim (printed by the kit's printer, or this session's own): what the row's theorem does not reach is struck. Not trusted: Lean checks it. -/
import Derived.Test.YtpedofomfhmnfaaZFnExactNeededBlocksPx0
import Derived.Test.YtpedofomfhmnfaaZFnExactNeededBlocksPx3
namespace Go.Proofs.Ytpedofomfhmnfaa.PFnExactNeededBlocks
open Go.RowKit Go.Proofs.YtpedofomfhmnfaaW.PrintWords Go.Proofs.YtpedofomfhmnfaaW.PrintLast Go.Proofs.YtpedofomfhmnfaaW.PrintMore
attribute [local go_sem] max2_int min2_int max_two min_two max_three min_three max_four min_four
set_option linter.unusedVariables false
set_option linter.unusedSimpArgs false
mutual
def spec_avGood.j0 : Nat → Bool → Int → Int → List (S58) → Option (Bool)
 | 0, _, _, _, _ => none
 | k + 1, x20, x141000, x141001, x141002 => if x20 = true then (some false) else (spec_avGood.l0 k x141002 (x141002.length : Int) 0 x141000 x141001 x141002)
def spec_avGood.l0 : Nat → List (S58) → Int → Int → Int → Int → List (S58) → Option (Bool)
 | 0, _, _, _, _, _, _ => none
 | k + 1, x22, x23, x24, x141000, x141001, x141002 => if x24 < x23 then (if 0 ≤ x24 then (if x24 < (x22.length : Int) then ((spec_avIs.f k x141000 x141001 ((qk x22 x24).f0) ((qk x22 x24).f1) ((qk x22 x24).f2)).bind fun t145 => (if t145 = true then (if x24 > 0 then (if 0 ≤ (wrap64 (x24 - 1)) then (if (wrap64 (x24 - 1)) < (x141002.length : Int) then ((spec_avLess.f ((qk x141002 (wrap64 (x24 - 1))).f0) ((qk x141002 (wrap64 (x24 - 1))).f1) ((qk x141002 (wrap64 (x24 - 1))).f2) ((qk x22 x24).f0) ((qk x22 x24).f1) ((qk x22 x24).f2)).bind fun t147 => (if t147 = true then (spec_avGood.l0 k x22 x23 (wrap64 (x24 + 1)) x141000 x141001 x141002) else (some false))) else (none)) else (none)) else (spec_avGood.l0 k x22 x23 (wrap64 (x24 + 1)) x141000 x141001 x141002)) else (some false))) else (none)) else (none)) else (some true)
end
def spec_avGood.f (k : Nat) (a0_0 : Int) (a0_1 : Int) (l0_2 : List (S58)) : Option (Bool) := (spec_l1In.f a0_0 1 8).bind fun t141 => (if t141 = true then ((spec_l1In.f a0_1 1 8).bind fun t142 => (if t142 = true then (spec_avGood.j0 k (decide ((l0_2.length : Int) > 30)) a0_0 a0_1 l0_2) else (spec_avGood.j0 k true a0_0 a0_1 l0_2))) else (spec_avGood.j0 k true a0_0 a0_1 l0_2))
theorem spec_avGood.zt : ∀ k, (∀ y0 y1 y2 y3, LeO (spec_avGood.j0 k y0 y1 y2 y3) (spec_avGood.j0 (k + 1) y0 y1 y2 y3)) ∧ (∀ y0 y1 y2 y3 y4 y5, LeO (spec_avGood.l0 k y0 y1 y2 y3 y4 y5) (spec_avGood.l0 (k + 1) y0 y1 y2 y3 y4 y5))
 | 0 => ⟨fun _ _ _ _ r h => by simp [spec_avGood.j0] at h, fun _ _ _ _ _ _ r h => by simp [spec_avGood.l0] at h⟩
 | k + 1 => by
  obtain ⟨ih0, ih1⟩ := spec_avGood.zt k
  refine ⟨?_, ?_⟩
  ·intro y0 y1 y2 y3
   unfold spec_avGood.j0
   repeat' first
   | (with_reducible exact ih0 _ _ _ _)
   | (with_reducible exact ih1 _ _ _ _ _ _)
   | (with_reducible exact spec_avIs.mono _ _ _ _ _ _)
   | (with_reducible exact LeO.refl _)
   | (with_reducible exact LeO.none _)
   | (with_reducible refine LeO.ite ?_ ?_)
   | (with_reducible refine LeO.bind ?_ (fun _ => ?_))
   | exact ih0 _ _ _ _
   | exact ih1 _ _ _ _ _ _
   | exact spec_avIs.mono _ _ _ _ _ _
   | exact LeO.none _
   | refine LeO.ite ?_ ?_
   | refine LeO.bind ?_ (fun _ => ?_)
  ·intro y0 y1 y2 y3 y4 y5
   unfold spec_avGood.l0
   repeat' first
   | (with_reducible exact ih0 _ _ _ _)
   | (with_reducible exact ih1 _ _ _ _ _ _)
   | (with_reducible exact spec_avIs.mono _ _ _ _ _ _)
   | (with_reducible exact LeO.refl _)
   | (with_reducible exact LeO.none _)
   | (with_reducible refine LeO.ite ?_ ?_)
   | (with_reducible refine LeO.bind ?_ (fun _ => ?_))
   | exact ih0 _ _ _ _
   | exact ih1 _ _ _ _ _ _
   | exact spec_avIs.mono _ _ _ _ _ _
   | exact LeO.none _
   | refine LeO.ite ?_ ?_
   | refine LeO.bind ?_ (fun _ => ?_)
theorem spec_avGood.mono : ∀ a0 a1 a2 k, LeO (spec_avGood.f k a0 a1 a2) (spec_avGood.f (k + 1) a0 a1 a2) := by
 intro a0 a1 a2 k
 obtain ⟨ih0, ih1⟩ := spec_avGood.zt k
 unfold spec_avGood.f
 repeat' first
   | (with_reducible exact ih0 _ _ _ _)
   | (with_reducible exact ih1 _ _ _ _ _ _)
   | (with_reducible exact spec_avIs.mono _ _ _ _ _ _)
   | (with_reducible exact LeO.refl _)
   | (with_reducible exact LeO.none _)
   | (with_reducible refine LeO.ite ?_ ?_)
   | (with_reducible refine LeO.bind ?_ (fun _ => ?_))
   | exact ih0 _ _ _ _
   | exact ih1 _ _ _ _ _ _
   | exact spec_avIs.mono _ _ _ _ _ _
   | exact LeO.none _
   | refine LeO.ite ?_ ?_
   | refine LeO.bind ?_ (fun _ => ?_)
def spec_avGood.T6 : Bool × List (List Nat × List Nat) := (true, [([], []), ([0], [0]), ([], []), ([2], [2]), ([], []), ([1, 3, 4], [1, 3, 4]), ([5], [5]), ([6, 5], [6]), ([7], [7]), ([8, 7], [7, 8]), ([9, 7, 7], [7, 9]), ([10], [10]), ([11, 10], [10, 11]), ([10], [10]), ([13, 10], [10, 13]), ([12, 14, 10], [10, 12, 14]), ([15, 10], [10, 15]), ([10], [10]), ([16, 17, 10, 10], [10, 16, 17]), ([18, 10], [10, 18]), ([10, 19, 7], [7, 10, 19]), ([7, 20], [7, 20])])
def spec_avGood.B6 : List Nat := [0, 1, 0, 4, 0, 31, 63, 127, 255, 511, 1023, 2047, 4095, 2047, 10239, 32767, 65535, 2047, 262143, 524287, 1048575, 2097151]
theorem spec_avGood.tab6 : rtab .any (opsOf Try.f58 6) = spec_avGood.T6 := by kernel_rfl
theorem spec_avGood.bits6 : waitsOk spec_avGood.T6.2 spec_avGood.B6 = true := by kernel_rfl
set_option maxHeartbeats 8000000 in
set_option maxRecDepth 100000 in
theorem spec_avGood.calls (k : Nat) (a0_0 : Int) (a0_1 : Int) (A0_2 : Option Addr) (c0_2 : Nat) (l0_2 : List (S58)) (r : Bool) (w : World) (hr0_2 : Kd.C k58 w A0_2 l0_2.length l0_2) (hc0_2 : l0_2.length ≤ c0_2) (h : spec_avGood.f k a0_0 a0_1 l0_2 = some r) :
  Calls Try.prog 58 #[.agg #[.int .i64 a0_0, .int .i64 a0_1, .slice A0_2 l0_2.length c0_2]] w fun e w' => e = .returned (.bool r) ∧ Below w.heap.size w w' := by
 have hu31 := Try.underlying31;have hu58 := Try.underlying58;have HR0_2 := qb.mk hr0_2;have HC0_2 := qb.mk hc0_2;clear hr0_2 hc0_2;have HB := qb.mk (Below.refl w.heap.size w);have H : ((spec_l1In.f a0_0 1 8).bind fun d1 => (if d1 = true then ((spec_l1In.f a0_1 1 8).bind fun b8 => (if b8 = true then (spec_avGood.j0 k (decide ((l0_2.length : Int) > 30)) a0_0 a0_1 l0_2) else (spec_avGood.j0 k true a0_0 a0_1 l0_2))) else (spec_avGood.j0 k true a0_0 a0_1 l0_2))) = some r := h;clear h;have HC2 := qb.mk H;clear H
 go_enter Try.func58, Try.ntmps58
 go_upto_region 1 with (first | ((with_reducible refine ze (N := 1) rfl ?_); (try (refine gate_guard (by rfl) ?_; dsimp only)); refine zc ?hg (N := 1) ?hd (cs := #[.int .i64 a0_0, .int .i64 a0_1, .slice A0_2 l0_2.length c0_2]) (t := 31) ?hr ?_; (case hd => rfl); (case hg => rfl); (case hr => first | (go_simp; done) | (go_simp; rfl)); intro b3 hg w3 hbox hb; have n0_ := qb.mk (qp (be0_ HB) hb); have n1_ := qb.mk (hbox); have n2_ := qb.mk ((by rw [hg]; exact (ql (be0_ HB)) : w.heap.size ≤ b3)); have n3_ := qb.mk ((by rw [hg]; exact (ql (be0_ HB)) : w.heap.size ≤ b3)); clear HB; have HB := n0_; have b0 := n1_; have d3 := n2_; have b5 := n3_; clear n0_ n1_ n2_ n3_; clear hb hbox hg))
 (try simp only [Act.put, sA_, sB_, sC_])
 go_cut [20] (fun v20 wc => ∃ (kq : Nat) (x20_1 : Bool), v20 = .bool x20_1 ∧ qb (spec_avGood.j0 kq x20_1 a0_0 a0_1 l0_2 = some r) ∧ qb (kq ≤ k) ∧ qb (wc.heap[b3]? = some (.cells #[.int .i64 a0_0, .int .i64 a0_1, (.slice A0_2 l0_2.length c0_2)] 31 (0, 0))) ∧ qb (Below w.heap.size w wc))
 case first =>
  have H := HC2.out;clear HC2;replace H := Option.bind_eq_some_iff.mp H;obtain ⟨d1, A40, H⟩ := H;replace H : (if d1 = true then ((spec_l1In.f a0_1 1 8).bind fun b8 => (if b8 = true then (spec_avGood.j0 k (decide ((l0_2.length : Int) > 30)) a0_0 a0_1 l0_2) else (spec_avGood.j0 k true a0_0 a0_1 l0_2))) else (spec_avGood.j0 k true a0_0 a0_1 l0_2)) = some r := H;have A4 := qb.mk A40;clear A40
  by_cases c5 : d1 = true
  ·subst c5
   have H1 : ((spec_l1In.f a0_1 1 8).bind fun b8 => (if b8 = true then (spec_avGood.j0 k (decide ((l0_2.length : Int) > 30)) a0_0 a0_1 l0_2) else (spec_avGood.j0 k true a0_0 a0_1 l0_2))) = some r := by rw [if_pos rfl] at H; exact H
   clear H;have H := H1;clear H1;replace H := Option.bind_eq_some_iff.mp H;obtain ⟨b8, A60, H⟩ := H;replace H : (if b8 = true then (spec_avGood.j0 k (decide ((l0_2.length : Int) > 30)) a0_0 a0_1 l0_2) else (spec_avGood.j0 k true a0_0 a0_1 l0_2)) = some r := H;have A6 := qb.mk A60;clear A60
   by_cases c7 : b8 = true
   ·subst c7
    have H1 : (spec_avGood.j0 k (decide ((l0_2.length : Int) > 30)) a0_0 a0_1 l0_2) = some r := by rw [if_pos rfl] at H; exact H
    clear H;have H := H1;clear H1;have H' := qb.mk H;clear H;have hcz8_0 : w3.cell? ⟨b3, 0, none⟩ = some (.int .i64 a0_0) := (qc b0.out 0).trans rfl;have hcz8_1 : w3.cell? ⟨b3, 1, none⟩ = some (.int .i64 a0_1) := (qc b0.out 1).trans rfl;have hcz8_2 : w3.cell? ⟨b3, 2, none⟩ = some (.slice A0_2 l0_2.length c0_2) := (qc b0.out 2).trans rfl;have hfz8_0 := qj b0.out 0;have hfz8_1 := qj b0.out 1;have hfz8_2 := qj b0.out 2
    go_wp2_with (first | ((with_reducible refine qx (f := 59) rfl ?_); refine zl (some 7) rfl rfl Try.func59 (by kernel_rfl) rfl #[.int .i64 a0_0, .int .i64 1, .int .i64 8] rfl (by (try simp only [List.map_toArray, List.map_cons, List.map_nil]); first | done | rfl | (simp only [List.length_drop, List.length_take]; rfl)) ?_; (with_reducible refine (spec_l1In.calls a0_0 1 8 true _ A4.out).mono ?_); rintro e w' ⟨rfl, ⟨nd, rfl⟩⟩; refine ⟨_, rfl, ?_⟩) | (go_at_call 59; (with_reducible refine (spec_l1In.calls a0_1 1 8 true _ A6.out).mono ?_); rintro e w' ⟨rfl, ⟨nd, rfl⟩⟩))
    go_meet
    case rel => exact ⟨_, (decide ((l0_2.length : Int) > 30)), (by first | rfl | (simp; done) | (simp [*]; done)), H', ⟨by first | omega | exact Nat.le_refl _⟩, ⟨bk_ b0⟩, ⟨be1_ HB b5⟩⟩
   ·replace c7 := Bool.eq_false_iff.mpr c7
    subst c7;have H1 : (spec_avGood.j0 k true a0_0 a0_1 l0_2) = some r := by rw [if_neg (show ¬ (false = true) by decide)] at H; exact H
    clear H;have H := H1;clear H1;have H' := qb.mk H;clear H;have hcz9_0 : w3.cell? ⟨b3, 0, none⟩ = some (.int .i64 a0_0) := (qc b0.out 0).trans rfl;have hcz9_1 : w3.cell? ⟨b3, 1, none⟩ = some (.int .i64 a0_1) := (qc b0.out 1).trans rfl;have hcz9_2 : w3.cell? ⟨b3, 2, none⟩ = some (.slice A0_2 l0_2.length c0_2) := (qc b0.out 2).trans rfl;have hfz9_0 := qj b0.out 0;have hfz9_1 := qj b0.out 1;have hfz9_2 := qj b0.out 2
    go_wp2_with (first | ((with_reducible refine qx (f := 59) rfl ?_); refine zl (some 7) rfl rfl Try.func59 (by kernel_rfl) rfl #[.int .i64 a0_0, .int .i64 1, .int .i64 8] rfl (by (try simp only [List.map_toArray, List.map_cons, List.map_nil]); first | done | rfl | (simp only [List.length_drop, List.length_take]; rfl)) ?_; (with_reducible refine (spec_l1In.calls a0_0 1 8 true _ A4.out).mono ?_); rintro e w' ⟨rfl, ⟨nd, rfl⟩⟩; refine ⟨_, rfl, ?_⟩) | (go_at_call 59; (with_reducible refine (spec_l1In.calls a0_1 1 8 false _ A6.out).mono ?_); rintro e w' ⟨rfl, ⟨nd, rfl⟩⟩))
    go_meet
    case rel => exact ⟨_, (true), (by first | rfl | (simp; done) | (simp [*]; done)), H', ⟨by first | omega | exact Nat.le_refl _⟩, ⟨bk_ b0⟩, ⟨be1_ HB b5⟩⟩
  ·replace c5 := Bool.eq_false_iff.mpr c5
   subst c5;have H1 : (spec_avGood.j0 k true a0_0 a0_1 l0_2) = some r := by rw [if_neg (show ¬ (false = true) by decide)] at H; exact H
   clear H;have H := H1;clear H1;have H' := qb.mk H;clear H;have hcz10_0 : w3.cell? ⟨b3, 0, none⟩ = some (.int .i64 a0_0) := (qc b0.out 0).trans rfl;have hcz10_1 : w3.cell? ⟨b3, 1, none⟩ = some (.int .i64 a0_1) := (qc b0.out 1).trans rfl;have hcz10_2 : w3.cell? ⟨b3, 2, none⟩ = some (.slice A0_2 l0_2.length c0_2) := (qc b0.out 2).trans rfl;have hfz10_0 := qj b0.out 0;have hfz10_1 := qj b0.out 1;have hfz10_2 := qj b0.out 2
   go_wp2_with (first | ((with_reducible refine qx (f := 59) rfl ?_); refine zl (some 7) rfl rfl Try.func59 (by kernel_rfl) rfl #[.int .i64 a0_0, .int .i64 1, .int .i64 8] rfl (by (try simp only [List.map_toArray, List.map_cons, List.map_nil]); first | done | rfl | (simp only [List.length_drop, List.length_take]; rfl)) ?_; (with_reducible refine (spec_l1In.calls a0_0 1 8 false _ A4.out).mono ?_); rintro e w' ⟨rfl, ⟨nd, rfl⟩⟩; refine ⟨_, rfl, ?_⟩))
   go_meet
   case rel => exact ⟨_, (true), (by first | rfl | (simp; done) | (simp [*]; done)), H', ⟨by first | omega | exact Nat.le_refl _⟩, ⟨bk_ b0⟩, ⟨be1_ HB b5⟩⟩
 case rest =>
  clear HC2;(try clear c5);(try clear c7);(try clear hcz10_0);(try clear hcz10_1);(try clear hcz10_2);(try clear hcz8_0);(try clear hcz8_1);(try clear hcz8_2);(try clear hcz9_0);(try clear hcz9_1);(try clear hcz9_2);(try clear hfz10_0);(try clear hfz10_1);(try clear hfz10_2);(try clear hfz8_0);(try clear hfz8_1);(try clear hfz8_2);(try clear hfz9_0);(try clear hfz9_1);(try clear hfz9_2);obtain ⟨kq, x20_1, rfl, HA, HJ1, b0, HB⟩ := hcut;cases kq with
  | zero => exact absurd HA.out (by simp [spec_avGood.j0])
  | succ kj1 =>
   have H := HA.out;clear HA
   simp only [spec_avGood.j0] at H
   by_cases c11 : x20_1 = true
   ·subst c11
    have H1 : (some false) = some r := by rw [if_pos rfl] at H; exact H
    clear H;have H := H1;clear H1;obtain rfl := Option.some.inj H
    go_wp2
    go_ret
    exact ⟨by first | rfl | (simp [qt, qr] <;> rfl) | (simp [*, qt, qr] <;> rfl), be1_ HB b5⟩
   ·replace c11 := Bool.eq_false_iff.mpr c11
    subst c11;have H1 : (spec_avGood.l0 kj1 l0_2 (l0_2.length : Int) 0 a0_0 a0_1 l0_2) = some r := by rw [if_neg (show ¬ (false = true) by decide)] at H; exact H
    clear H;have H := H1;clear H1;have H' := qb.mk H;clear H;have hcz12_0 : wc.cell? ⟨b3, 0, none⟩ = some (.int .i64 a0_0) := (qc b0.out 0).trans rfl;have hcz12_1 : wc.cell? ⟨b3, 1, none⟩ = some (.int .i64 a0_1) := (qc b0.out 1).trans rfl;have hcz12_2 : wc.cell? ⟨b3, 2, none⟩ = some (.slice A0_2 l0_2.length c0_2) := (qc b0.out 2).trans rfl;have hfz12_0 := qj b0.out 0;have hfz12_1 := qj b0.out 1;have hfz12_2 := qj b0.out 2
    go_wp2
    go_loopg [24] kj1 (fun kq v24 w' => ∃ (x24_2 : Int), v24 = .int .i64 x24_2 ∧ qb (spec_avGood.l0 kq l0_2 (l0_2.length : Int) x24_2 a0_0 a0_1 l0_2 = some r) ∧ qb (kq ≤ kj1) ∧ qb (w'.heap[b3]? = some (.cells #[.int .i64 a0_0, .int .i64 a0_1, (.slice A0_2 l0_2.length c0_2)] 31 (0, 0))) ∧ qb (Below w.heap.size w w'))
    case atStart => exact ⟨(0), (by first | rfl | (simp; done) | (simp [*]; done)), H', ⟨Nat.le_refl _⟩, ⟨bk_ b0⟩, ⟨be1_ HB b5⟩⟩
    case round =>
     clear H';(try clear c5);(try clear c7);(try clear c11);(try clear hcz10_0);(try clear hcz10_1);(try clear hcz10_2);(try clear hcz12_0);(try clear hcz12_1);(try clear hcz12_2);(try clear hcz8_0);(try clear hcz8_1);(try clear hcz8_2);(try clear hcz9_0);(try clear hcz9_1);(try clear hcz9_2);(try clear hfz10_0);(try clear hfz10_1);(try clear hfz10_2);(try clear hfz12_0);(try clear hfz12_1);(try clear hfz12_2);(try clear hfz8_0);(try clear hfz8_1);(try clear hfz8_2);(try clear hfz9_0);(try clear hfz9_1);(try clear hfz9_2);obtain ⟨x24_2, rfl, HA, HK2, b0, HB⟩ := hrel;cases gk with
     | zero => exact absurd HA.out (by simp [spec_avGood.l0])
     | succ k2 =>
      have H := HA.out;clear HA
      simp only [spec_avGood.l0] at H
      by_cases c13 : x24_2 < (l0_2.length : Int)
      ·rw [if_pos c13] at H
       have c13b0 : decide (x24_2 < (l0_2.length : Int)) = true := decide_eq_true c13;clear c13
       by_cases c14 : 0 ≤ x24_2
       ·rw [if_pos c14] at H
        have c14b0 : decide (0 ≤ x24_2) = true := decide_eq_true c14;clear c14
        by_cases c15 : x24_2 < (l0_2.length : Int)
        ·rw [if_pos c15] at H
         have c15b0 : decide (x24_2 < (l0_2.length : Int)) = true := decide_eq_true c15;clear c15;replace H := Option.bind_eq_some_iff.mp H;obtain ⟨d2, A160, H⟩ := H;replace H : (if d2 = true then (if x24_2 > 0 then (if 0 ≤ (wrap64 (x24_2 - 1)) then (if (wrap64 (x24_2 - 1)) < (l0_2.length : Int) then ((spec_avLess.f ((qk l0_2 (wrap64 (x24_2 - 1))).f0) ((qk l0_2 (wrap64 (x24_2 - 1))).f1) ((qk l0_2 (wrap64 (x24_2 - 1))).f2) ((qk l0_2 x24_2).f0) ((qk l0_2 x24_2).f1) ((qk l0_2 x24_2).f2)).bind fun b9 => (if b9 = true then (spec_avGood.l0 k2 l0_2 (l0_2.length : Int) (wrap64 (x24_2 + 1)) a0_0 a0_1 l0_2) else (some false))) else (none)) else (none)) else (spec_avGood.l0 k2 l0_2 (l0_2.length : Int) (wrap64 (x24_2 + 1)) a0_0 a0_1 l0_2)) else (some false)) = some r := H;have A16 := qb.mk A160;clear A160
         by_cases c17 : d2 = true
         ·subst c17
          have H1 : (if x24_2 > 0 then (if 0 ≤ (wrap64 (x24_2 - 1)) then (if (wrap64 (x24_2 - 1)) < (l0_2.length : Int) then ((spec_avLess.f ((qk l0_2 (wrap64 (x24_2 - 1))).f0) ((qk l0_2 (wrap64 (x24_2 - 1))).f1) ((qk l0_2 (wrap64 (x24_2 - 1))).f2) ((qk l0_2 x24_2).f0) ((qk l0_2 x24_2).f1) ((qk l0_2 x24_2).f2)).bind fun b9 => (if b9 = true then (spec_avGood.l0 k2 l0_2 (l0_2.length : Int) (wrap64 (x24_2 + 1)) a0_0 a0_1 l0_2) else (some false))) else (none)) else (none)) else (spec_avGood.l0 k2 l0_2 (l0_2.length : Int) (wrap64 (x24_2 + 1)) a0_0 a0_1 l0_2)) = some r := by rw [if_pos rfl] at H; exact H
          clear H;have H := H1;clear H1
          by_cases c18 : x24_2 > 0
          ·rw [if_pos c18] at H
           have c18b0 : decide (0 < x24_2) = true := decide_eq_true c18;clear c18;obtain ⟨ji19, hji19⟩ : ∃ j_ : Int, (wrap64 (x24_2 - 1)) = j_ := ⟨_, rfl⟩;replace H : (if 0 ≤ (ji19) then (if (ji19) < (l0_2.length : Int) then ((spec_avLess.f ((qk l0_2 (ji19)).f0) ((qk l0_2 (ji19)).f1) ((qk l0_2 (ji19)).f2) ((qk l0_2 x24_2).f0) ((qk l0_2 x24_2).f1) ((qk l0_2 x24_2).f2)).bind fun b9 => (if b9 = true then (spec_avGood.l0 k2 l0_2 (l0_2.length : Int) (wrap64 (x24_2 + 1)) a0_0 a0_1 l0_2) else (some false))) else (none)) else (none)) = some r := by first | (rw [hji19] at H; exact H) | (simp only [hji19] at H ⊢; exact H)
           (try rw [hji19] at A16)
           have hji19w : (IntKind.i64.wrap (x24_2 - 1)) = ji19 := (i64_w _).trans hji19
           by_cases c20 : 0 ≤ (ji19)
           ·rw [if_pos c20] at H
            have c20b0 : decide (0 ≤ (ji19)) = true := decide_eq_true c20;clear c20
            by_cases c21 : (ji19) < (l0_2.length : Int)
            ·rw [if_pos c21] at H
             have c21b0 : decide ((ji19) < (l0_2.length : Int)) = true := decide_eq_true c21;clear c21;replace H := Option.bind_eq_some_iff.mp H;obtain ⟨b9, A220, H⟩ := H;replace H : (if b9 = true then (spec_avGood.l0 k2 l0_2 (l0_2.length : Int) (wrap64 (x24_2 + 1)) a0_0 a0_1 l0_2) else (some false)) = some r := H;have A22 := qb.mk A220;clear A220
             by_cases c23 : b9 = true
             ·subst c23
              have H1 : (spec_avGood.l0 k2 l0_2 (l0_2.length : Int) (wrap64 (x24_2 + 1)) a0_0 a0_1 l0_2) = some r := by rw [if_pos rfl] at H; exact H
              clear H;have H := H1;clear H1;have H' := qb.mk H;clear H;have p143 : 0 ≤ (x24_2 : Int) := of_decide_eq_true (by first | (with_reducible assumption) | assumption);have q143 : x24_2 < (l0_2.length : Int) := of_decide_eq_true (by first | (with_reducible assumption) | assumption);obtain ⟨ad143, e143, hx143_0, hx143_1, hx143_2⟩ := jd HR0_2.out x24_2 p143 q143;cases e143;replace hx143_0 := (HB.out.cell (World.block_lt_of_cell? w _ hx143_0)).trans hx143_0;replace hx143_1 := (HB.out.cell (World.block_lt_of_cell? w _ hx143_1)).trans hx143_1;replace hx143_2 := (HB.out.cell (World.block_lt_of_cell? w _ hx143_2)).trans hx143_2;replace p143 := eq_true p143;replace q143 := eq_true q143
              try go_wp2_with (first | ((with_reducible refine ze (N := 4) rfl ?_); (try (refine gate_guard (by rfl) ?_; dsimp only)); refine zc ?hg (N := 4) ?hd (cs := #[.int .i64 0, .int .i64 0, .bool false]) (t := 58) ?hr ?_; (case hd => rfl); (case hg => rfl); (case hr => first | (go_simp; done) | (go_simp; rfl)); intro b2 hg w24 hbox hb; have n0_ := qb.mk (qo (g := b3) (o := .cells #[.int .i64 a0_0, .int .i64 a0_1, .slice (some ad143) l0_2.length c0_2] 31 (0, 0)) (bk_ b0) hb); have n1_ := qb.mk (qp (be1_ HB b5) hb); have n2_ := qb.mk (hbox); have n3_ := qb.mk ((by rw [hg]; exact (ql (be1_ HB b5)) : w.heap.size ≤ b2)); have n4_ := qb.mk ((by rw [hg]; exact (ql (be1_ HB b5)) : w.heap.size ≤ b2)); have n5_ := qb.mk ((by rw [hg]; exact Nat.ne_of_lt (zd (g := b3) (o := .cells #[.int .i64 a0_0, .int .i64 a0_1, .slice (some ad143) l0_2.length c0_2] 31 (0, 0)) (bk_ b0)) : b3 ≠ b2)); have n6_ := qb.mk ((by rw [hg]; exact Nat.ne_of_gt (zd (g := b3) (o := .cells #[.int .i64 a0_0, .int .i64 a0_1, .slice (some ad143) l0_2.length c0_2] 31 (0, 0)) (bk_ b0)) : b2 ≠ b3)); clear b0; clear HB; have b0 := n0_; have HB := n1_; have b1 := n2_; have d0 := n3_; have b7 := n4_; have b4 := n5_; have b6 := n6_; clear n0_ n1_ n2_ n3_ n4_ n5_ n6_; clear hb hbox hg; have hnb25 := b6.out; have hnc25 := b4.out; have hcz26_0 : w24.cell? ⟨b2, 0, none⟩ = some (.int .i64 0) := (qc b1.out 0).trans rfl; have hcz26_1 : w24.cell? ⟨b2, 1, none⟩ = some (.int .i64 0) := (qc b1.out 1).trans rfl; have hcz26_2 : w24.cell? ⟨b2, 2, none⟩ = some (.bool false) := (qc b1.out 2).trans rfl; have hfz26_0 := qj b1.out 0; have hfz26_1 := qj b1.out 1; have hfz26_2 := qj b1.out 2))
              have n0_ : qb ((((w24.setCell ⟨b2, 0, none⟩ (.int .i64 ((qk l0_2 x24_2).f0))).setCell ⟨b2, 1, none⟩ (.int .i64 ((qk l0_2 x24_2).f1))).setCell ⟨b2, 2, none⟩ (.bool ((qk l0_2 x24_2).f2))).heap[b3]? = some (.cells #[.int .i64 a0_0, .int .i64 a0_1, .slice (some ad143) l0_2.length c0_2] 31 (0, 0))) := ⟨by (with_reducible repeat (first | refine qh ?_ _ | refine qi ?_ | refine qg ?_ _)); refine zk ?_ b4.out _; (with_reducible repeat (first | refine qh ?_ _ | refine qi ?_ | refine qg ?_ _)); refine zk ?_ b4.out _; (with_reducible repeat (first | refine qh ?_ _ | refine qi ?_ | refine qg ?_ _)); refine zk ?_ b4.out _; (with_reducible repeat (first | refine qh ?_ _ | refine qi ?_ | refine qg ?_ _)); exact b0.out⟩;have n1_ : qb ((((w24.setCell ⟨b2, 0, none⟩ (.int .i64 ((qk l0_2 x24_2).f0))).setCell ⟨b2, 1, none⟩ (.int .i64 ((qk l0_2 x24_2).f1))).setCell ⟨b2, 2, none⟩ (.bool ((qk l0_2 x24_2).f2))).heap[b2]? = some (.cells #[.int .i64 ((qk l0_2 x24_2).f0), .int .i64 ((qk l0_2 x24_2).f1), .bool ((qk l0_2 x24_2).f2)] 58 (0, 0))) := ⟨by (with_reducible repeat (first | refine qh ?_ _ | refine qi ?_ | refine qg ?_ _)); refine zj (cs := #[.int .i64 ((qk l0_2 x24_2).f0), .int .i64 ((qk l0_2 x24_2).f1), .bool false]) ?_ 2 _ rfl; (with_reducible repeat (first | refine qh ?_ _ | refine qi ?_ | refine qg ?_ _)); refine zj (cs := #[.int .i64 ((qk l0_2 x24_2).f0), .int .i64 0, .bool false]) ?_ 1 _ rfl; (with_reducible repeat (first | refine qh ?_ _ | refine qi ?_ | refine qg ?_ _)); refine zj (cs := #[.int .i64 0, .int .i64 0, .bool false]) ?_ 0 _ rfl; (with_reducible repeat (first | refine qh ?_ _ | refine qi ?_ | refine qg ?_ _)); exact b1.out⟩;have n2_ : qb (Below w.heap.size w (((w24.setCell ⟨b2, 0, none⟩ (.int .i64 ((qk l0_2 x24_2).f0))).setCell ⟨b2, 1, none⟩ (.int .i64 ((qk l0_2 x24_2).f1))).setCell ⟨b2, 2, none⟩ (.bool ((qk l0_2 x24_2).f2)))) := ⟨be2_ HB b5 b7⟩;(try clear b0);(try clear b1);(try clear HB)
              generalize (((w24.setCell ⟨b2, 0, none⟩ (.int .i64 ((qk l0_2 x24_2).f0))).setCell ⟨b2, 1, none⟩ (.int .i64 ((qk l0_2 x24_2).f1))).setCell ⟨b2, 2, none⟩ (.bool ((qk l0_2 x24_2).f2))) = w27 at n0_ n1_ n2_ ⊢
              have b0 := n0_;have b1 := n1_;have HB := n2_;clear n0_ n1_ n2_;have n0_ := qb.mk (qi b0.out);have n1_ := qb.mk (qi b1.out);have n2_ := qb.mk (qe HB.out);clear b0;clear b1;clear HB;have b0 := n0_;have b1 := n1_;have HB := n2_;clear n0_ n1_ n2_;have p146 : 0 ≤ ((ji19) : Int) := of_decide_eq_true (by first | (with_reducible assumption) | assumption);have q146 : (ji19) < (l0_2.length : Int) := of_decide_eq_true (by first | (with_reducible assumption) | assumption);obtain ⟨ad146, e146, hx146_0, hx146_1, hx146_2⟩ := jd HR0_2.out (ji19) p146 q146;have hw146_2 := hx146_2;have hw146_1 := hx146_1;have hw146_0 := hx146_0;obtain rfl : ad143 = ad146 := (by injection e146);replace hx146_0 := (HB.out.cell (World.block_lt_of_cell? w _ hx146_0)).trans hx146_0;replace hx146_1 := (HB.out.cell (World.block_lt_of_cell? w _ hx146_1)).trans hx146_1;replace hx146_2 := (HB.out.cell (World.block_lt_of_cell? w _ hx146_2)).trans hx146_2;replace p146 := eq_true p146;replace q146 := eq_true q146
              refine jf (n := 22) (S := fun w' => w'.cell? ⟨b3, 0, none⟩ = some (.int .i64 a0_0) ∧ w'.cell? ⟨b3, 1, none⟩ = some (.int .i64 a0_1) ∧ w'.cell? ⟨b3, 2, none⟩ = some (.slice (some ad143) l0_2.length c0_2) ∧ w'.cell? ⟨b2, 0, none⟩ = some (.int .i64 ((qk l0_2 x24_2).f0)) ∧ w'.cell? ⟨b2, 1, none⟩ = some (.int .i64 ((qk l0_2 x24_2).f1)) ∧ w'.cell? ⟨b2, 2, none⟩ = some (.bool ((qk l0_2 x24_2).f2)) ∧ w'.cell? (ad143.add (((ji19)).toNat * 3)) = some (.int .i64 ((qk l0_2 (ji19)).f0)) ∧ w'.cell? ⟨(ad143.add (((ji19)).toNat * 3)).block, (ad143.add (((ji19)).toNat * 3)).off + 1, none⟩ = some (.int .i64 ((qk l0_2 (ji19)).f1)) ∧ w'.cell? ⟨(ad143.add (((ji19)).toNat * 3)).block, (ad143.add (((ji19)).toNat * 3)).off + 2, none⟩ = some (.bool ((qk l0_2 (ji19)).f2))) (ds := []) #[false, false, false, false, false, false, false, false, false, false, false, false, false, false, false, false, false, false, false, false, false, false] (by kernel_rfl) rfl rfl ⟨(qc b0.out 0).trans rfl, (qc b0.out 1).trans rfl, (qc b0.out 2).trans rfl, (qc b1.out 0).trans rfl, (qc b1.out 1).trans rfl, (qc b1.out 2).trans rfl, ((HB.out.cell (World.block_lt_of_cell? w _ hw146_0)).trans hw146_0), ((HB.out.cell (World.block_lt_of_cell? w _ hw146_1)).trans hw146_1), ((HB.out.cell (World.block_lt_of_cell? w _ hw146_2)).trans hw146_2)⟩ (fun hHeld => ?_); refine zy spec_avGood.tab6 spec_avGood.bits6 (fun HT_ HW_ => ?_)
              generalize w27.drew = w28 at b0 b1 HB hx146_0 hx146_1 hx146_2 hHeld ⊢
              refine pure_ (i := 0) (N := some 29) (v := ?_) (a' := ?_) #[true, false, false, false, false, false, false, false, false, false, false, false, false, false, false, false, false, false, false, false, false, false] rfl rfl (qu HT_.out (by kernel_rfl)) (fun _ _ _ h => h) (Or.inl ⟨by rfl, ?_⟩) ?_ ?_
              rotate_left
              ·intro w'
               go_simp
               with_reducible rfl
              rotate_left
              ·simp only [Act.put, sA_, sB_, sC_, i64_w, i32_w]
               rfl
              refine pure_ (i := 2) (N := some 31) (v := ?_) (a' := ?_) #[true, false, true, false, false, false, false, false, false, false, false, false, false, false, false, false, false, false, false, false, false, false] rfl rfl (qu HT_.out (by kernel_rfl)) (fun _ _ _ h => h) (Or.inl ⟨by rfl, ?_⟩) ?_ ?_
              rotate_left
              ·intro w'
               go_simp
               with_reducible rfl
              rotate_left
              ·simp only [Act.put, sA_, sB_, sC_, i64_w, i32_w]
               rfl
              refine take_ (i := 1) (N := some 30) (v := ?_) (a' := ?_) #[true, true, true, false, false, false, false, false, false, false, false, false, false, false, false, false, false, false, false, false, false, false] rfl rfl (zg HT_.out HW_.out (by kernel_rfl)) (fun _ _ _ h => h) (Or.inl ⟨by rfl, ?_⟩) hHeld ?_ ?_
              rotate_left
              ·rintro w' ⟨s0, s1, s2, s3, s4, s5, s6, s7, s8⟩
               go_simp
               with_reducible rfl
              rotate_left
              ·simp only [Act.put, sA_, sB_, sC_, i64_w, i32_w]
               rfl
              refine take_ (i := 3) (N := some 32) (v := ?_) (a' := ?_) #[true, true, true, true, false, false, false, false, false, false, false, false, false, false, false, false, false, false, false, false, false, false] rfl rfl (zg HT_.out HW_.out (by kernel_rfl)) (fun _ _ _ h => h) (Or.inl ⟨by rfl, ?_⟩) hHeld ?_ ?_
              rotate_left
              ·rintro w' ⟨s0, s1, s2, s3, s4, s5, s6, s7, s8⟩
               go_simp
               with_reducible rfl
              rotate_left
              ·simp only [Act.put, sA_, sB_, sC_, i64_w, i32_w]
               rfl
              refine take_ (i := 4) (N := some 33) (v := ?_) (a' := ?_) #[true, true, true, true, true, false, false, false, false, false, false, false, false, false, false, false, false, false, false, false, false, false] rfl rfl (zg HT_.out HW_.out (by kernel_rfl)) (fun _ _ _ h => h) (Or.inl ⟨by rfl, ?_⟩) hHeld ?_ ?_
              rotate_left
              ·rintro w' ⟨s0, s1, s2, s3, s4, s5, s6, s7, s8⟩
               go_simp
               with_reducible rfl
              rotate_left
              ·simp only [Act.put, sA_, sB_, sC_, i64_w, i32_w]
               rfl
              refine one_ (i := 5) (N := some 34) #[true, true, true, true, true, true, false, false, false, false, false, false, false, false, false, false, false, false, false, false, false, false] rfl rfl (zw HT_.out (by kernel_rfl)) (by decide) (fun K hK => ?_)
              refine goes_ Try.func50 (by kernel_rfl) rfl #[.int .i64 a0_0, .int .i64 a0_1, .agg #[.int .i64 ((qk l0_2 x24_2).f0), .int .i64 ((qk l0_2 x24_2).f1), .bool ((qk l0_2 x24_2).f2)]] (by rfl) rfl rfl (by (try simp only [List.map_toArray, List.map_cons, List.map_nil]); first | done | rfl | (simp only [List.length_drop, List.length_take]; rfl)) ?_
              with_reducible refine (spec_avIs.calls k2 a0_0 a0_1 ((qk l0_2 x24_2).f0) ((qk l0_2 x24_2).f1) ((qk l0_2 x24_2).f2) true _ A16.out).mono ?_
              rintro e w29 ⟨rfl, hb⟩
              refine ⟨_, rfl, ?_⟩
              have n0_ := qb.mk (qo (g := b3) (o := .cells #[.int .i64 a0_0, .int .i64 a0_1, .slice (some ad143) l0_2.length c0_2] 31 (0, 0)) (bk_ b0) hb);have n1_ := qb.mk (qo (g := b2) (o := .cells #[.int .i64 ((qk l0_2 x24_2).f0), .int .i64 ((qk l0_2 x24_2).f1), .bool ((qk l0_2 x24_2).f2)] 58 (0, 0)) (bk_ b1) hb);have n2_ := qb.mk (qp (be2_ HB b5 b7) hb);clear b0;clear b1;clear HB;have b0 := n0_;have b1 := n1_;have HB := n2_;clear n0_ n1_ n2_;(try clear hb);(try clear hb2);(try clear hk);(try clear hi)
              refine hK.out _ _ ⟨(qc b0.out 0).trans rfl, (qc b0.out 1).trans rfl, (qc b0.out 2).trans rfl, (qc b1.out 0).trans rfl, (qc b1.out 1).trans rfl, (qc b1.out 2).trans rfl, ((HB.out.cell (World.block_lt_of_cell? w _ hw146_0)).trans hw146_0), ((HB.out.cell (World.block_lt_of_cell? w _ hw146_1)).trans hw146_1), ((HB.out.cell (World.block_lt_of_cell? w _ hw146_2)).trans hw146_2)⟩ (fun hHeld => ?_)
              clear hK K
              refine norm_ (a' := ?_) ?_ ?_
              rotate_left
              ·show Act.put _ (some 34) _ = _
               simp only [Act.put, sA_, sB_, sC_, i64_w, i32_w]
               rfl
              refine pure_ (i := 6) (N := some 35) (v := ?_) (a' := ?_) #[true, true, true, true, true, true, true, false, false, false, false, false, false, false, false, false, false, false, false, false, false, false] rfl rfl (qu HT_.out (by kernel_rfl)) (fun _ _ _ h => h) (Or.inl ⟨by rfl, ?_⟩) ?_ ?_
              rotate_left
              ·intro w'
               go_simp
               with_reducible rfl
              rotate_left
              ·simp only [Act.put, sA_, sB_, sC_, i64_w, i32_w]
               rfl
              refine pure_ (i := 7) (N := some 36) (v := ?_) (a' := ?_) #[true, true, true, true, true, true, true, true, false, false, false, false, false, false, false, false, false, false, false, false, false, false] rfl rfl (qu HT_.out (by kernel_rfl)) (fun _ _ _ h => h) (Or.inl ⟨by rfl, ?_⟩) ?_ ?_
              rotate_left
              ·intro w'
               go_simp
               with_reducible rfl
              rotate_left
              ·simp only [Act.put, sA_, sB_, sC_, i64_w, i32_w]
               rfl
              refine pure_ (i := 8) (N := some 37) (v := ?_) (a' := ?_) #[true, true, true, true, true, true, true, true, true, false, false, false, false, false, false, false, false, false, false, false, false, false] rfl rfl (qu HT_.out (by kernel_rfl)) (fun _ _ _ h => h) (Or.inl ⟨by rfl, ?_⟩) ?_ ?_
              rotate_left
              ·intro w'
               go_simp
               with_reducible rfl
              rotate_left
              ·simp only [Act.put, sA_, sB_, sC_, i64_w, i32_w]
               rfl
              refine pure_ (i := 9) (N := some 38) (v := ?_) (a' := ?_) #[true, true, true, true, true, true, true, true, true, true, false, false, false, false, false, false, false, false, false, false, false, false] rfl rfl (qu HT_.out (by kernel_rfl)) (fun _ _ _ h => h) (Or.inl ⟨by rfl, ?_⟩) ?_ ?_
              rotate_left
              ·intro w'
               go_simp
               with_reducible rfl
              rotate_left
              ·simp only [Act.put, sA_, sB_, sC_, i64_w, i32_w]
               rfl
              refine pure_ (i := 10) (N := some 39) (v := ?_) (a' := ?_) #[true, true, true, true, true, true, true, true, true, true, true, false, false, false, false, false, false, false, false, false, false, false] rfl rfl (qu HT_.out (by kernel_rfl)) (fun _ _ _ h => h) (Or.inl ⟨by rfl, ?_⟩) ?_ ?_
              rotate_left
              ·intro w'
               go_simp
               with_reducible rfl
              rotate_left
              ·simp only [Act.put, sA_, sB_, sC_, i64_w, i32_w]
               rfl
              refine pure_ (i := 11) (N := some 40) (v := ?_) (a' := ?_) #[true, true, true, true, true, true, true, true, true, true, true, true, false, false, false, false, false, false, false, false, false, false] rfl rfl (qu HT_.out (by kernel_rfl)) (fun _ _ _ h => h) (Or.inl ⟨by rfl, ?_⟩) ?_ ?_
              rotate_left
              ·intro w'
               go_simp
               with_reducible rfl
              rotate_left
              ·simp only [Act.put, sA_, sB_, sC_, i64_w, i32_w]
               rfl
              refine pure_ (i := 13) (N := some 42) (v := ?_) (a' := ?_) #[true, true, true, true, true, true, true, true, true, true, true, true, false, true, false, false, false, false, false, false, false, false] rfl rfl (qu HT_.out (by kernel_rfl)) (fun _ _ _ h => h) (Or.inl ⟨by rfl, ?_⟩) ?_ ?_
              rotate_left
              ·intro w'
               go_simp
               with_reducible rfl
              rotate_left
              ·simp only [Act.put, sA_, sB_, sC_, i64_w, i32_w]
               rfl
              refine pure_ (i := 14) (N := some 43) (v := ?_) (a' := ?_) #[true, true, true, true, true, true, true, true, true, true, true, true, false, true, true, false, false, false, false, false, false, false] rfl rfl (qu HT_.out (by kernel_rfl)) (fun _ _ _ h => h) (Or.inl ⟨by rfl, ?_⟩) ?_ ?_
              rotate_left
              ·intro w'
               go_simp
               with_reducible rfl
              rotate_left
              ·simp only [Act.put, sA_, sB_, sC_, i64_w, i32_w]
               rfl
              refine take_ (i := 12) (N := some 41) (v := ?_) (a' := ?_) #[true, true, true, true, true, true, true, true, true, true, true, true, true, true, true, false, false, false, false, false, false, false] rfl rfl (zg HT_.out HW_.out (by kernel_rfl)) (fun _ _ _ h => h) (Or.inl ⟨by rfl, ?_⟩) hHeld ?_ ?_
              rotate_left
              ·rintro w' ⟨s0, s1, s2, s3, s4, s5, s6, s7, s8⟩
               go_simp
               with_reducible rfl
              rotate_left
              ·simp only [Act.put, sA_, sB_, sC_, i64_w, i32_w]
               rfl
              refine pure_ (i := 15) (N := some 44) (v := ?_) (a' := ?_) #[true, true, true, true, true, true, true, true, true, true, true, true, true, true, true, true, false, false, false, false, false, false] rfl rfl (qu HT_.out (by kernel_rfl)) (fun _ _ _ h => h) (Or.inl ⟨by rfl, ?_⟩) ?_ ?_
              rotate_left
              ·intro w'
               go_simp
               with_reducible rfl
              rotate_left
              ·simp only [Act.put, sA_, sB_, sC_, i64_w, i32_w]
               rfl
              refine take_ (i := 16) (N := some 45) (v := ?_) (a' := ?_) #[true, true, true, true, true, true, true, true, true, true, true, true, true, true, true, true, true, false, false, false, false, false] rfl rfl (zg HT_.out HW_.out (by kernel_rfl)) (fun _ _ _ h => h) (Or.inl ⟨by rfl, ?_⟩) hHeld ?_ ?_
              rotate_left
              ·rintro w' ⟨s0, s1, s2, s3, s4, s5, s6, s7, s8⟩
               go_simp
               with_reducible rfl
              rotate_left
              ·simp only [Act.put, sA_, sB_, sC_, i64_w, i32_w]
               rfl
              refine take_ (i := 17) (N := some 46) (v := ?_) (a' := ?_) #[true, true, true, true, true, true, true, true, true, true, true, true, true, true, true, true, true, true, false, false, false, false] rfl rfl (zg HT_.out HW_.out (by kernel_rfl)) (fun _ _ _ h => h) (Or.inl ⟨by rfl, ?_⟩) hHeld ?_ ?_
              rotate_left
              ·rintro w' ⟨s0, s1, s2, s3, s4, s5, s6, s7, s8⟩
               go_simp
               with_reducible rfl
              rotate_left
              ·simp only [Act.put, sA_, sB_, sC_, i64_w, i32_w]
               rfl
              refine one_ (i := 18) (N := some 47) #[true, true, true, true, true, true, true, true, true, true, true, true, true, true, true, true, true, true, true, false, false, false] rfl rfl (zw HT_.out (by kernel_rfl)) (by decide) (fun K hK => ?_)
              refine goes_ Try.func75 (by kernel_rfl) rfl #[.agg #[.int .i64 ((qk l0_2 (ji19)).f0), .int .i64 ((qk l0_2 (ji19)).f1), .bool ((qk l0_2 (ji19)).f2)], .agg #[.int .i64 ((qk l0_2 x24_2).f0), .int .i64 ((qk l0_2 x24_2).f1), .bool ((qk l0_2 x24_2).f2)]] (by rfl) rfl rfl (by (try simp only [List.map_toArray, List.map_cons, List.map_nil]); first | done | (simp only [hji19]; rfl) | rfl | (simp only [List.length_drop, List.length_take]; rfl)) ?_
              with_reducible refine (spec_avLess.calls ((qk l0_2 (ji19)).f0) ((qk l0_2 (ji19)).f1) ((qk l0_2 (ji19)).f2) ((qk l0_2 x24_2).f0) ((qk l0_2 x24_2).f1) ((qk l0_2 x24_2).f2) true _ A22.out).mono ?_
              rintro e w30 ⟨rfl, hb⟩
              refine ⟨_, rfl, ?_⟩
              have n0_ := qb.mk (qo (g := b3) (o := .cells #[.int .i64 a0_0, .int .i64 a0_1, .slice (some ad143) l0_2.length c0_2] 31 (0, 0)) (bk_ b0) hb);have n1_ := qb.mk (qo (g := b2) (o := .cells #[.int .i64 ((qk l0_2 x24_2).f0), .int .i64 ((qk l0_2 x24_2).f1), .bool ((qk l0_2 x24_2).f2)] 58 (0, 0)) (bk_ b1) hb);have n2_ := qb.mk (qp (be2_ HB b5 b7) hb);clear b0;clear b1;clear HB;have b0 := n0_;have b1 := n1_;have HB := n2_;clear n0_ n1_ n2_;(try clear hb);(try clear hb2);(try clear hk);(try clear hi)
              refine hK.out _ _ ⟨(qc b0.out 0).trans rfl, (qc b0.out 1).trans rfl, (qc b0.out 2).trans rfl, (qc b1.out 0).trans rfl, (qc b1.out 1).trans rfl, (qc b1.out 2).trans rfl, ((HB.out.cell (World.block_lt_of_cell? w _ hw146_0)).trans hw146_0), ((HB.out.cell (World.block_lt_of_cell? w _ hw146_1)).trans hw146_1), ((HB.out.cell (World.block_lt_of_cell? w _ hw146_2)).trans hw146_2)⟩ (fun hHeld => ?_)
              clear hK K
              refine norm_ (a' := ?_) ?_ ?_
              rotate_left
              ·show Act.put _ (some 47) _ = _
               simp only [Act.put, sA_, sB_, sC_, i64_w, i32_w]
               rfl
              refine pure_ (i := 19) (N := some 48) (v := ?_) (a' := ?_) #[true, true, true, true, true, true, true, true, true, true, true, true, true, true, true, true, true, true, true, true, false, false] rfl rfl (qu HT_.out (by kernel_rfl)) (fun _ _ _ h => h) (Or.inl ⟨by rfl, ?_⟩) ?_ ?_
              rotate_left
              ·intro w'
               go_simp
               with_reducible rfl
              rotate_left
              ·simp only [Act.put, sA_, sB_, sC_, i64_w, i32_w]
               rfl
              refine pure_ (i := 20) (N := some 49) (v := ?_) (a' := ?_) #[true, true, true, true, true, true, true, true, true, true, true, true, true, true, true, true, true, true, true, true, true, false] rfl rfl (qu HT_.out (by kernel_rfl)) (fun _ _ _ h => h) (Or.inl ⟨by rfl, ?_⟩) ?_ ?_
              rotate_left
              ·intro w'
               go_simp
               with_reducible rfl
              rotate_left
              ·simp only [Act.put, sA_, sB_, sC_, i64_w, i32_w]
               rfl
              refine pure_ (i := 21) (N := some 50) (v := ?_) (a' := ?_) #[true, true, true, true, true, true, true, true, true, true, true, true, true, true, true, true, true, true, true, true, true, true] rfl rfl (qu HT_.out (by kernel_rfl)) (fun _ _ _ h => h) (Or.inl ⟨by rfl, ?_⟩) ?_ ?_
              rotate_left
              ·intro w'
               go_simp
               with_reducible rfl
              rotate_left
              ·simp only [Act.put, sA_, sB_, sC_, i64_w, i32_w]
               rfl
              refine done_ (je HT_.out (by kernel_rfl)) ?_
              try go_wp2
              go_roundg k2
              case measure => have := HJ1.out; have := HK2.out; omega
              case rel => exact ⟨(wrap64 (x24_2 + 1)), (by first | rfl | (simp; done) | (simp [*]; done)), H', ⟨by have := HJ1.out; have := HK2.out; omega⟩, ⟨bk_ b0⟩, ⟨be2_ HB b5 b7⟩⟩
             ·replace c23 := Bool.eq_false_iff.mpr c23
              subst c23;have H1 : (some false) = some r := by rw [if_neg (show ¬ (false = true) by decide)] at H; exact H
              clear H;have H := H1;clear H1;obtain rfl := Option.some.inj H;have p143 : 0 ≤ (x24_2 : Int) := of_decide_eq_true (by first | (with_reducible assumption) | assumption);have q143 : x24_2 < (l0_2.length : Int) := of_decide_eq_true (by first | (with_reducible assumption) | assumption);obtain ⟨ad143, e143, hx143_0, hx143_1, hx143_2⟩ := jd HR0_2.out x24_2 p143 q143;cases e143;replace hx143_0 := (HB.out.cell (World.block_lt_of_cell? w _ hx143_0)).trans hx143_0;replace hx143_1 := (HB.out.cell (World.block_lt_of_cell? w _ hx143_1)).trans hx143_1;replace hx143_2 := (HB.out.cell (World.block_lt_of_cell? w _ hx143_2)).trans hx143_2;replace p143 := eq_true p143;replace q143 := eq_true q143
              try go_wp2_with (first | ((with_reducible refine ze (N := 4) rfl ?_); (try (refine gate_guard (by rfl) ?_; dsimp only)); refine zc ?hg (N := 4) ?hd (cs := #[.int .i64 0, .int .i64 0, .bool false]) (t := 58) ?hr ?_; (case hd => rfl); (case hg => rfl); (case hr => first | (go_simp; done) | (go_simp; rfl)); intro b2 hg w31 hbox hb; have n0_ := qb.mk (qo (g := b3) (o := .cells #[.int .i64 a0_0, .int .i64 a0_1, .slice (some ad143) l0_2.length c0_2] 31 (0, 0)) (bk_ b0) hb); have n1_ := qb.mk (qp (be1_ HB b5) hb); have n2_ := qb.mk (hbox); have n3_ := qb.mk ((by rw [hg]; exact (ql (be1_ HB b5)) : w.heap.size ≤ b2)); have n4_ := qb.mk ((by rw [hg]; exact (ql (be1_ HB b5)) : w.heap.size ≤ b2)); have n5_ := qb.mk ((by rw [hg]; exact Nat.ne_of_lt (zd (g := b3) (o := .cells #[.int .i64 a0_0, .int .i64 a0_1, .slice (some ad143) l0_2.length c0_2] 31 (0, 0)) (bk_ b0)) : b3 ≠ b2)); have n6_ := qb.mk ((by rw [hg]; exact Nat.ne_of_gt (zd (g := b3) (o := .cells #[.int .i64 a0_0, .int .i64 a0_1, .slice (some ad143) l0_2.length c0_2] 31 (0, 0)) (bk_ b0)) : b2 ≠ b3)); clear b0; clear HB; have b0 := n0_; have HB := n1_; have b1 := n2_; have d0 := n3_; have b7 := n4_; have b4 := n5_; have b6 := n6_; clear n0_ n1_ n2_ n3_ n4_ n5_ n6_; clear hb hbox hg; have hnb32 := b6.out; have hnc32 := b4.out; have hcz33_0 : w31.cell? ⟨b2, 0, none⟩ = some (.int .i64 0) := (qc b1.out 0).trans rfl; have hcz33_1 : w31.cell? ⟨b2, 1, none⟩ = some (.int .i64 0) := (qc b1.out 1).trans rfl; have hcz33_2 : w31.cell? ⟨b2, 2, none⟩ = some (.bool false) := (qc b1.out 2).trans rfl; have hfz33_0 := qj b1.out 0; have hfz33_1 := qj b1.out 1; have hfz33_2 := qj b1.out 2))
              have n0_ : qb ((((w31.setCell ⟨b2, 0, none⟩ (.int .i64 ((qk l0_2 x24_2).f0))).setCell ⟨b2, 1, none⟩ (.int .i64 ((qk l0_2 x24_2).f1))).setCell ⟨b2, 2, none⟩ (.bool ((qk l0_2 x24_2).f2))).heap[b3]? = some (.cells #[.int .i64 a0_0, .int .i64 a0_1, .slice (some ad143) l0_2.length c0_2] 31 (0, 0))) := ⟨by (with_reducible repeat (first | refine qh ?_ _ | refine qi ?_ | refine qg ?_ _)); refine zk ?_ b4.out _; (with_reducible repeat (first | refine qh ?_ _ | refine qi ?_ | refine qg ?_ _)); refine zk ?_ b4.out _; (with_reducible repeat (first | refine qh ?_ _ | refine qi ?_ | refine qg ?_ _)); refine zk ?_ b4.out _; (with_reducible repeat (first | refine qh ?_ _ | refine qi ?_ | refine qg ?_ _)); exact b0.out⟩;have n1_ : qb ((((w31.setCell ⟨b2, 0, none⟩ (.int .i64 ((qk l0_2 x24_2).f0))).setCell ⟨b2, 1, none⟩ (.int .i64 ((qk l0_2 x24_2).f1))).setCell ⟨b2, 2, none⟩ (.bool ((qk l0_2 x24_2).f2))).heap[b2]? = some (.cells #[.int .i64 ((qk l0_2 x24_2).f0), .int .i64 ((qk l0_2 x24_2).f1), .bool ((qk l0_2 x24_2).f2)] 58 (0, 0))) := ⟨by (with_reducible repeat (first | refine qh ?_ _ | refine qi ?_ | refine qg ?_ _)); refine zj (cs := #[.int .i64 ((qk l0_2 x24_2).f0), .int .i64 ((qk l0_2 x24_2).f1), .bool false]) ?_ 2 _ rfl; (with_reducible repeat (first | refine qh ?_ _ | refine qi ?_ | refine qg ?_ _)); refine zj (cs := #[.int .i64 ((qk l0_2 x24_2).f0), .int .i64 0, .bool false]) ?_ 1 _ rfl; (with_reducible repeat (first | refine qh ?_ _ | refine qi ?_ | refine qg ?_ _)); refine zj (cs := #[.int .i64 0, .int .i64 0, .bool false]) ?_ 0 _ rfl; (with_reducible repeat (first | refine qh ?_ _ | refine qi ?_ | refine qg ?_ _)); exact b1.out⟩;have n2_ : qb (Below w.heap.size w (((w31.setCell ⟨b2, 0, none⟩ (.int .i64 ((qk l0_2 x24_2).f0))).setCell ⟨b2, 1, none⟩ (.int .i64 ((qk l0_2 x24_2).f1))).setCell ⟨b2, 2, none⟩ (.bool ((qk l0_2 x24_2).f2)))) := ⟨be2_ HB b5 b7⟩;(try clear b0);(try clear b1);(try clear HB)
              generalize (((w31.setCell ⟨b2, 0, none⟩ (.int .i64 ((qk l0_2 x24_2).f0))).setCell ⟨b2, 1, none⟩ (.int .i64 ((qk l0_2 x24_2).f1))).setCell ⟨b2, 2, none⟩ (.bool ((qk l0_2 x24_2).f2))) = w34 at n0_ n1_ n2_ ⊢
              have b0 := n0_;have b1 := n1_;have HB := n2_;clear n0_ n1_ n2_;have n0_ := qb.mk (qi b0.out);have n1_ := qb.mk (qi b1.out);have n2_ := qb.mk (qe HB.out);clear b0;clear b1;clear HB;have b0 := n0_;have b1 := n1_;have HB := n2_;clear n0_ n1_ n2_;have p146 : 0 ≤ ((ji19) : Int) := of_decide_eq_true (by first | (with_reducible assumption) | assumption);have q146 : (ji19) < (l0_2.length : Int) := of_decide_eq_true (by first | (with_reducible assumption) | assumption);obtain ⟨ad146, e146, hx146_0, hx146_1, hx146_2⟩ := jd HR0_2.out (ji19) p146 q146;have hw146_2 := hx146_2;have hw146_1 := hx146_1;have hw146_0 := hx146_0;obtain rfl : ad143 = ad146 := (by injection e146);replace hx146_0 := (HB.out.cell (World.block_lt_of_cell? w _ hx146_0)).trans hx146_0;replace hx146_1 := (HB.out.cell (World.block_lt_of_cell? w _ hx146_1)).trans hx146_1;replace hx146_2 := (HB.out.cell (World.block_lt_of_cell? w _ hx146_2)).trans hx146_2;replace p146 := eq_true p146;replace q146 := eq_true q146
              refine jf (n := 22) (S := fun w' => w'.cell? ⟨b3, 0, none⟩ = some (.int .i64 a0_0) ∧ w'.cell? ⟨b3, 1, none⟩ = some (.int .i64 a0_1) ∧ w'.cell? ⟨b3, 2, none⟩ = some (.slice (some ad143) l0_2.length c0_2) ∧ w'.cell? ⟨b2, 0, none⟩ = some (.int .i64 ((qk l0_2 x24_2).f0)) ∧ w'.cell? ⟨b2, 1, none⟩ = some (.int .i64 ((qk l0_2 x24_2).f1)) ∧ w'.cell? ⟨b2, 2, none⟩ = some (.bool ((qk l0_2 x24_2).f2)) ∧ w'.cell? (ad143.add (((ji19)).toNat * 3)) = some (.int .i64 ((qk l0_2 (ji19)).f0)) ∧ w'.cell? ⟨(ad143.add (((ji19)).toNat * 3)).block, (ad143.add (((ji19)).toNat * 3)).off + 1, none⟩ = some (.int .i64 ((qk l0_2 (ji19)).f1)) ∧ w'.cell? ⟨(ad143.add (((ji19)).toNat * 3)).block, (ad143.add (((ji19)).toNat * 3)).off + 2, none⟩ = some (.bool ((qk l0_2 (ji19)).f2))) (ds := []) #[false, false, false, false, false, false, false, false, false, false, false, false, false, false, false, false, false, false, false, false, false, false] (by kernel_rfl) rfl rfl ⟨(qc b0.out 0).trans rfl, (qc b0.out 1).trans rfl, (qc b0.out 2).trans rfl, (qc b1.out 0).trans rfl, (qc b1.out 1).trans rfl, (qc b1.out 2).trans rfl, ((HB.out.cell (World.block_lt_of_cell? w _ hw146_0)).trans hw146_0), ((HB.out.cell (World.block_lt_of_cell? w _ hw146_1)).trans hw146_1), ((HB.out.cell (World.block_lt_of_cell? w _ hw146_2)).trans hw146_2)⟩ (fun hHeld => ?_); refine zy spec_avGood.tab6 spec_avGood.bits6 (fun HT_ HW_ => ?_)
              generalize w34.drew = w35 at b0 b1 HB hx146_0 hx146_1 hx146_2 hHeld ⊢
              refine pure_ (i := 0) (N := some 29) (v := ?_) (a' := ?_) #[true, false, false, false, false, false, false, false, false, false, false, false, false, false, false, false, false, false, false, false, false, false] rfl rfl (qu HT_.out (by kernel_rfl)) (fun _ _ _ h => h) (Or.inl ⟨by rfl, ?_⟩) ?_ ?_
              rotate_left
              ·intro w'
               go_simp
               with_reducible rfl
              rotate_left
              ·simp only [Act.put, sA_, sB_, sC_, i64_w, i32_w]
               rfl
              refine pure_ (i := 2) (N := some 31) (v := ?_) (a' := ?_) #[true, false, true, false, false, false, false, false, false, false, false, false, false, false, false, false, false, false, false, false, false, false] rfl rfl (qu HT_.out (by kernel_rfl)) (fun _ _ _ h => h) (Or.inl ⟨by rfl, ?_⟩) ?_ ?_
              rotate_left
              ·intro w'
               go_simp
               with_reducible rfl
              rotate_left
              ·simp only [Act.put, sA_, sB_, sC_, i64_w, i32_w]
               rfl
              refine take_ (i := 1) (N := some 30) (v := ?_) (a' := ?_) #[true, true, true, false, false, false, false, false, false, false, false, false, false, false, false, false, false, false, false, false, false, false] rfl rfl (zg HT_.out HW_.out (by kernel_rfl)) (fun _ _ _ h => h) (Or.inl ⟨by rfl, ?_⟩) hHeld ?_ ?_
              rotate_left
              ·rintro w' ⟨s0, s1, s2, s3, s4, s5, s6, s7, s8⟩
               go_simp
               with_reducible rfl
              rotate_left
              ·simp only [Act.put, sA_, sB_, sC_, i64_w, i32_w]
               rfl
              refine take_ (i := 3) (N := some 32) (v := ?_) (a' := ?_) #[true, true, true, true, false, false, false, false, false, false, false, false, false, false, false, false, false, false, false, false, false, false] rfl rfl (zg HT_.out HW_.out (by kernel_rfl)) (fun _ _ _ h => h) (Or.inl ⟨by rfl, ?_⟩) hHeld ?_ ?_
              rotate_left
              ·rintro w' ⟨s0, s1, s2, s3, s4, s5, s6, s7, s8⟩
               go_simp
               with_reducible rfl
              rotate_left
              ·simp only [Act.put, sA_, sB_, sC_, i64_w, i32_w]
               rfl
              refine take_ (i := 4) (N := some 33) (v := ?_) (a' := ?_) #[true, true, true, true, true, false, false, false, false, false, false, false, false, false, false, false, false, false, false, false, false, false] rfl rfl (zg HT_.out HW_.out (by kernel_rfl)) (fun _ _ _ h => h) (Or.inl ⟨by rfl, ?_⟩) hHeld ?_ ?_
              rotate_left
              ·rintro w' ⟨s0, s1, s2, s3, s4, s5, s6, s7, s8⟩
               go_simp
               with_reducible rfl
              rotate_left
              ·simp only [Act.put, sA_, sB_, sC_, i64_w, i32_w]
               rfl
              refine one_ (i := 5) (N := some 34) #[true, true, true, true, true, true, false, false, false, false, false, false, false, false, false, false, false, false, false, false, false, false] rfl rfl (zw HT_.out (by kernel_rfl)) (by decide) (fun K hK => ?_)
              refine goes_ Try.func50 (by kernel_rfl) rfl #[.int .i64 a0_0, .int .i64 a0_1, .agg #[.int .i64 ((qk l0_2 x24_2).f0), .int .i64 ((qk l0_2 x24_2).f1), .bool ((qk l0_2 x24_2).f2)]] (by rfl) rfl rfl (by (try simp only [List.map_toArray, List.map_cons, List.map_nil]); first | done | rfl | (simp only [List.length_drop, List.length_take]; rfl)) ?_
              with_reducible refine (spec_avIs.calls k2 a0_0 a0_1 ((qk l0_2 x24_2).f0) ((qk l0_2 x24_2).f1) ((qk l0_2 x24_2).f2) true _ A16.out).mono ?_
              rintro e w36 ⟨rfl, hb⟩
              refine ⟨_, rfl, ?_⟩
              have n0_ := qb.mk (qo (g := b3) (o := .cells #[.int .i64 a0_0, .int .i64 a0_1, .slice (some ad143) l0_2.length c0_2] 31 (0, 0)) (bk_ b0) hb);have n1_ := qb.mk (qo (g := b2) (o := .cells #[.int .i64 ((qk l0_2 x24_2).f0), .int .i64 ((qk l0_2 x24_2).f1), .bool ((qk l0_2 x24_2).f2)] 58 (0, 0)) (bk_ b1) hb);have n2_ := qb.mk (qp (be2_ HB b5 b7) hb);clear b0;clear b1;clear HB;have b0 := n0_;have b1 := n1_;have HB := n2_;clear n0_ n1_ n2_;(try clear hb);(try clear hb2);(try clear hk);(try clear hi)
              refine hK.out _ _ ⟨(qc b0.out 0).trans rfl, (qc b0.out 1).trans rfl, (qc b0.out 2).trans rfl, (qc b1.out 0).trans rfl, (qc b1.out 1).trans rfl, (qc b1.out 2).trans rfl, ((HB.out.cell (World.block_lt_of_cell? w _ hw146_0)).trans hw146_0), ((HB.out.cell (World.block_lt_of_cell? w _ hw146_1)).trans hw146_1), ((HB.out.cell (World.block_lt_of_cell? w _ hw146_2)).trans hw146_2)⟩ (fun hHeld => ?_)
              clear hK K
              refine norm_ (a' := ?_) ?_ ?_
              rotate_left
              ·show Act.put _ (some 34) _ = _
               simp only [Act.put, sA_, sB_, sC_, i64_w, i32_w]
               rfl
              refine pure_ (i := 6) (N := some 35) (v := ?_) (a' := ?_) #[true, true, true, true, true, true, true, false, false, false, false, false, false, false, false, false, false, false, false, false, false, false] rfl rfl (qu HT_.out (by kernel_rfl)) (fun _ _ _ h => h) (Or.inl ⟨by rfl, ?_⟩) ?_ ?_
              rotate_left
              ·intro w'
               go_simp
               with_reducible rfl
              rotate_left
              ·simp only [Act.put, sA_, sB_, sC_, i64_w, i32_w]
               rfl
              refine pure_ (i := 7) (N := some 36) (v := ?_) (a' := ?_) #[true, true, true, true, true, true, true, true, false, false, false, false, false, false, false, false, false, false, false, false, false, false] rfl rfl (qu HT_.out (by kernel_rfl)) (fun _ _ _ h => h) (Or.inl ⟨by rfl, ?_⟩) ?_ ?_
              rotate_left
              ·intro w'
               go_simp
               with_reducible rfl
              rotate_left
              ·simp only [Act.put, sA_, sB_, sC_, i64_w, i32_w]
               rfl
              refine pure_ (i := 8) (N := some 37) (v := ?_) (a' := ?_) #[true, true, true, true, true, true, true, true, true, false, false, false, false, false, false, false, false, false, false, false, false, false] rfl rfl (qu HT_.out (by kernel_rfl)) (fun _ _ _ h => h) (Or.inl ⟨by rfl, ?_⟩) ?_ ?_
              rotate_left
              ·intro w'
               go_simp
               with_reducible rfl
              rotate_left
              ·simp only [Act.put, sA_, sB_, sC_, i64_w, i32_w]
               rfl
              refine pure_ (i := 9) (N := some 38) (v := ?_) (a' := ?_) #[true, true, true, true, true, true, true, true, true, true, false, false, false, false, false, false, false, false, false, false, false, false] rfl rfl (qu HT_.out (by kernel_rfl)) (fun _ _ _ h => h) (Or.inl ⟨by rfl, ?_⟩) ?_ ?_
              rotate_left
              ·intro w'
               go_simp
               with_reducible rfl
              rotate_left
              ·simp only [Act.put, sA_, sB_, sC_, i64_w, i32_w]
               rfl
              refine pure_ (i := 10) (N := some 39) (v := ?_) (a' := ?_) #[true, true, true, true, true, true, true, true, true, true, true, false, false, false, false, false, false, false, false, false, false, false] rfl rfl (qu HT_.out (by kernel_rfl)) (fun _ _ _ h => h) (Or.inl ⟨by rfl, ?_⟩) ?_ ?_
              rotate_left
              ·intro w'
               go_simp
               with_reducible rfl
              rotate_left
              ·simp only [Act.put, sA_, sB_, sC_, i64_w, i32_w]
               rfl
              refine pure_ (i := 11) (N := some 40) (v := ?_) (a' := ?_) #[true, true, true, true, true, true, true, true, true, true, true, true, false, false, false, false, false, false, false, false, false, false] rfl rfl (qu HT_.out (by kernel_rfl)) (fun _ _ _ h => h) (Or.inl ⟨by rfl, ?_⟩) ?_ ?_
              rotate_left
              ·intro w'
               go_simp
               with_reducible rfl
              rotate_left
              ·simp only [Act.put, sA_, sB_, sC_, i64_w, i32_w]
               rfl
              refine pure_ (i := 13) (N := some 42) (v := ?_) (a' := ?_) #[true, true, true, true, true, true, true, true, true, true, true, true, false, true, false, false, false, false, false, false, false, false] rfl rfl (qu HT_.out (by kernel_rfl)) (fun _ _ _ h => h) (Or.inl ⟨by rfl, ?_⟩) ?_ ?_
              rotate_left
              ·intro w'
               go_simp
               with_reducible rfl
              rotate_left
              ·simp only [Act.put, sA_, sB_, sC_, i64_w, i32_w]
               rfl
              refine pure_ (i := 14) (N := some 43) (v := ?_) (a' := ?_) #[true, true, true, true, true, true, true, true, true, true, true, true, false, true, true, false, false, false, false, false, false, false] rfl rfl (qu HT_.out (by kernel_rfl)) (fun _ _ _ h => h) (Or.inl ⟨by rfl, ?_⟩) ?_ ?_
              rotate_left
              ·intro w'
               go_simp
               with_reducible rfl
              rotate_left
              ·simp only [Act.put, sA_, sB_, sC_, i64_w, i32_w]
               rfl
              refine take_ (i := 12) (N := some 41) (v := ?_) (a' := ?_) #[true, true, true, true, true, true, true, true, true, true, true, true, true, true, true, false, false, false, false, false, false, false] rfl rfl (zg HT_.out HW_.out (by kernel_rfl)) (fun _ _ _ h => h) (Or.inl ⟨by rfl, ?_⟩) hHeld ?_ ?_
              rotate_left
              ·rintro w' ⟨s0, s1, s2, s3, s4, s5, s6, s7, s8⟩
               go_simp
               with_reducible rfl
              rotate_left
              ·simp only [Act.put, sA_, sB_, sC_, i64_w, i32_w]
               rfl
              refine pure_ (i := 15) (N := some 44) (v := ?_) (a' := ?_) #[true, true, true, true, true, true, true, true, true, true, true, true, true, true, true, true, false, false, false, false, false, false] rfl rfl (qu HT_.out (by kernel_rfl)) (fun _ _ _ h => h) (Or.inl ⟨by rfl, ?_⟩) ?_ ?_
              rotate_left
              ·intro w'
               go_simp
               with_reducible rfl
              rotate_left
              ·simp only [Act.put, sA_, sB_, sC_, i64_w, i32_w]
               rfl
              refine take_ (i := 16) (N := some 45) (v := ?_) (a' := ?_) #[true, true, true, true, true, true, true, true, true, true, true, true, true, true, true, true, true, false, false, false, false, false] rfl rfl (zg HT_.out HW_.out (by kernel_rfl)) (fun _ _ _ h => h) (Or.inl ⟨by rfl, ?_⟩) hHeld ?_ ?_
              rotate_left
              ·rintro w' ⟨s0, s1, s2, s3, s4, s5, s6, s7, s8⟩
               go_simp
               with_reducible rfl
              rotate_left
              ·simp only [Act.put, sA_, sB_, sC_, i64_w, i32_w]
               rfl
              refine take_ (i := 17) (N := some 46) (v := ?_) (a' := ?_) #[true, true, true, true, true, true, true, true, true, true, true, true, true, true, true, true, true, true, false, false, false, false] rfl rfl (zg HT_.out HW_.out (by kernel_rfl)) (fun _ _ _ h => h) (Or.inl ⟨by rfl, ?_⟩) hHeld ?_ ?_
              rotate_left
              ·rintro w' ⟨s0, s1, s2, s3, s4, s5, s6, s7, s8⟩
               go_simp
               with_reducible rfl
              rotate_left
              ·simp only [Act.put, sA_, sB_, sC_, i64_w, i32_w]
               rfl
              refine one_ (i := 18) (N := some 47) #[true, true, true, true, true, true, true, true, true, true, true, true, true, true, true, true, true, true, true, false, false, false] rfl rfl (zw HT_.out (by kernel_rfl)) (by decide) (fun K hK => ?_)
              refine goes_ Try.func75 (by kernel_rfl) rfl #[.agg #[.int .i64 ((qk l0_2 (ji19)).f0), .int .i64 ((qk l0_2 (ji19)).f1), .bool ((qk l0_2 (ji19)).f2)], .agg #[.int .i64 ((qk l0_2 x24_2).f0), .int .i64 ((qk l0_2 x24_2).f1), .bool ((qk l0_2 x24_2).f2)]] (by rfl) rfl rfl (by (try simp only [List.map_toArray, List.map_cons, List.map_nil]); first | done | (simp only [hji19]; rfl) | rfl | (simp only [List.length_drop, List.length_take]; rfl)) ?_
              with_reducible refine (spec_avLess.calls ((qk l0_2 (ji19)).f0) ((qk l0_2 (ji19)).f1) ((qk l0_2 (ji19)).f2) ((qk l0_2 x24_2).f0) ((qk l0_2 x24_2).f1) ((qk l0_2 x24_2).f2) false _ A22.out).mono ?_
              rintro e w37 ⟨rfl, hb⟩
              refine ⟨_, rfl, ?_⟩
              have n0_ := qb.mk (qo (g := b3) (o := .cells #[.int .i64 a0_0, .int .i64 a0_1, .slice (some ad143) l0_2.length c0_2] 31 (0, 0)) (bk_ b0) hb);have n1_ := qb.mk (qo (g := b2) (o := .cells #[.int .i64 ((qk l0_2 x24_2).f0), .int .i64 ((qk l0_2 x24_2).f1), .bool ((qk l0_2 x24_2).f2)] 58 (0, 0)) (bk_ b1) hb);have n2_ := qb.mk (qp (be2_ HB b5 b7) hb);clear b0;clear b1;clear HB;have b0 := n0_;have b1 := n1_;have HB := n2_;clear n0_ n1_ n2_;(try clear hb);(try clear hb2);(try clear hk);(try clear hi)
              refine hK.out _ _ ⟨(qc b0.out 0).trans rfl, (qc b0.out 1).trans rfl, (qc b0.out 2).trans rfl, (qc b1.out 0).trans rfl, (qc b1.out 1).trans rfl, (qc b1.out 2).trans rfl, ((HB.out.cell (World.block_lt_of_cell? w _ hw146_0)).trans hw146_0), ((HB.out.cell (World.block_lt_of_cell? w _ hw146_1)).trans hw146_1), ((HB.out.cell (World.block_lt_of_cell? w _ hw146_2)).trans hw146_2)⟩ (fun hHeld => ?_)
              clear hK K
              refine norm_ (a' := ?_) ?_ ?_
              rotate_left
              ·show Act.put _ (some 47) _ = _
               simp only [Act.put, sA_, sB_, sC_, i64_w, i32_w]
               rfl
              refine pure_ (i := 19) (N := some 48) (v := ?_) (a' := ?_) #[true, true, true, true, true, true, true, true, true, true, true, true, true, true, true, true, true, true, true, true, false, false] rfl rfl (qu HT_.out (by kernel_rfl)) (fun _ _ _ h => h) (Or.inl ⟨by rfl, ?_⟩) ?_ ?_
              rotate_left
              ·intro w'
               go_simp
               with_reducible rfl
              rotate_left
              ·simp only [Act.put, sA_, sB_, sC_, i64_w, i32_w]
               rfl
              refine pure_ (i := 20) (N := some 49) (v := ?_) (a' := ?_) #[true, true, true, true, true, true, true, true, true, true, true, true, true, true, true, true, true, true, true, true, true, false] rfl rfl (qu HT_.out (by kernel_rfl)) (fun _ _ _ h => h) (Or.inl ⟨by rfl, ?_⟩) ?_ ?_
              rotate_left
              ·intro w'
               go_simp
               with_reducible rfl
              rotate_left
              ·simp only [Act.put, sA_, sB_, sC_, i64_w, i32_w]
               rfl
              refine pure_ (i := 21) (N := some 50) (v := ?_) (a' := ?_) #[true, true, true, true, true, true, true, true, true, true, true, true, true, true, true, true, true, true, true, true, true, true] rfl rfl (qu HT_.out (by kernel_rfl)) (fun _ _ _ h => h) (Or.inl ⟨by rfl, ?_⟩) ?_ ?_
              rotate_left
              ·intro w'
               go_simp
               with_reducible rfl
              rotate_left
              ·simp only [Act.put, sA_, sB_, sC_, i64_w, i32_w]
               rfl
              refine done_ (je HT_.out (by kernel_rfl)) ?_
              try go_wp2
              go_ret
              exact ⟨by first | rfl | (simp [qt, qr] <;> rfl) | (simp only [← hji19]; first | rfl | (simp [qt, qr] <;> rfl)) | (simp [*, qt, qr] <;> rfl), be2_ HB b5 b7⟩
            ·rw [if_neg c21] at H
             exact absurd H (by simp)
           ·rw [if_neg c20] at H
            exact absurd H (by simp)
          ·rw [if_neg c18] at H
           have c18b0 : decide (0 < x24_2) = false := decide_eq_false c18;clear c18;have H' := qb.mk H;clear H;have p143 : 0 ≤ (x24_2 : Int) := of_decide_eq_true (by first | (with_reducible assumption) | assumption);have q143 : x24_2 < (l0_2.length : Int) := of_decide_eq_true (by first | (with_reducible assumption) | assumption);obtain ⟨ad143, e143, hx143_0, hx143_1, hx143_2⟩ := jd HR0_2.out x24_2 p143 q143;cases e143;replace hx143_0 := (HB.out.cell (World.block_lt_of_cell? w _ hx143_0)).trans hx143_0;replace hx143_1 := (HB.out.cell (World.block_lt_of_cell? w _ hx143_1)).trans hx143_1;replace hx143_2 := (HB.out.cell (World.block_lt_of_cell? w _ hx143_2)).trans hx143_2;replace p143 := eq_true p143;replace q143 := eq_true q143
           try go_wp2_with (first | ((with_reducible refine ze (N := 4) rfl ?_); (try (refine gate_guard (by rfl) ?_; dsimp only)); refine zc ?hg (N := 4) ?hd (cs := #[.int .i64 0, .int .i64 0, .bool false]) (t := 58) ?hr ?_; (case hd => rfl); (case hg => rfl); (case hr => first | (go_simp; done) | (go_simp; rfl)); intro b2 hg w38 hbox hb; have n0_ := qb.mk (qo (g := b3) (o := .cells #[.int .i64 a0_0, .int .i64 a0_1, .slice (some ad143) l0_2.length c0_2] 31 (0, 0)) (bk_ b0) hb); have n1_ := qb.mk (qp (be1_ HB b5) hb); have n2_ := qb.mk (hbox); have n3_ := qb.mk ((by rw [hg]; exact (ql (be1_ HB b5)) : w.heap.size ≤ b2)); have n4_ := qb.mk ((by rw [hg]; exact (ql (be1_ HB b5)) : w.heap.size ≤ b2)); have n5_ := qb.mk ((by rw [hg]; exact Nat.ne_of_lt (zd (g := b3) (o := .cells #[.int .i64 a0_0, .int .i64 a0_1, .slice (some ad143) l0_2.length c0_2] 31 (0, 0)) (bk_ b0)) : b3 ≠ b2)); have n6_ := qb.mk ((by rw [hg]; exact Nat.ne_of_gt (zd (g := b3) (o := .cells #[.int .i64 a0_0, .int .i64 a0_1, .slice (some ad143) l0_2.length c0_2] 31 (0, 0)) (bk_ b0)) : b2 ≠ b3)); clear b0; clear HB; have b0 := n0_; have HB := n1_; have b1 := n2_; have d0 := n3_; have b7 := n4_; have b4 := n5_; have b6 := n6_; clear n0_ n1_ n2_ n3_ n4_ n5_ n6_; clear hb hbox hg; have hnb39 := b6.out; have hnc39 := b4.out; have hcz40_0 : w38.cell? ⟨b2, 0, none⟩ = some (.int .i64 0) := (qc b1.out 0).trans rfl; have hcz40_1 : w38.cell? ⟨b2, 1, none⟩ = some (.int .i64 0) := (qc b1.out 1).trans rfl; have hcz40_2 : w38.cell? ⟨b2, 2, none⟩ = some (.bool false) := (qc b1.out 2).trans rfl; have hfz40_0 := qj b1.out 0; have hfz40_1 := qj b1.out 1; have hfz40_2 := qj b1.out 2))
           have n0_ : qb ((((w38.setCell ⟨b2, 0, none⟩ (.int .i64 ((qk l0_2 x24_2).f0))).setCell ⟨b2, 1, none⟩ (.int .i64 ((qk l0_2 x24_2).f1))).setCell ⟨b2, 2, none⟩ (.bool ((qk l0_2 x24_2).f2))).heap[b3]? = some (.cells #[.int .i64 a0_0, .int .i64 a0_1, .slice (some ad143) l0_2.length c0_2] 31 (0, 0))) := ⟨by (with_reducible repeat (first | refine qh ?_ _ | refine qi ?_ | refine qg ?_ _)); refine zk ?_ b4.out _; (with_reducible repeat (first | refine qh ?_ _ | refine qi ?_ | refine qg ?_ _)); refine zk ?_ b4.out _; (with_reducible repeat (first | refine qh ?_ _ | refine qi ?_ | refine qg ?_ _)); refine zk ?_ b4.out _; (with_reducible repeat (first | refine qh ?_ _ | refine qi ?_ | refine qg ?_ _)); exact b0.out⟩;have n1_ : qb ((((w38.setCell ⟨b2, 0, none⟩ (.int .i64 ((qk l0_2 x24_2).f0))).setCell ⟨b2, 1, none⟩ (.int .i64 ((qk l0_2 x24_2).f1))).setCell ⟨b2, 2, none⟩ (.bool ((qk l0_2 x24_2).f2))).heap[b2]? = some (.cells #[.int .i64 ((qk l0_2 x24_2).f0), .int .i64 ((qk l0_2 x24_2).f1), .bool ((qk l0_2 x24_2).f2)] 58 (0, 0))) := ⟨by (with_reducible repeat (first | refine qh ?_ _ | refine qi ?_ | refine qg ?_ _)); refine zj (cs := #[.int .i64 ((qk l0_2 x24_2).f0), .int .i64 ((qk l0_2 x24_2).f1), .bool false]) ?_ 2 _ rfl; (with_reducible repeat (first | refine qh ?_ _ | refine qi ?_ | refine qg ?_ _)); refine zj (cs := #[.int .i64 ((qk l0_2 x24_2).f0), .int .i64 0, .bool false]) ?_ 1 _ rfl; (with_reducible repeat (first | refine qh ?_ _ | refine qi ?_ | refine qg ?_ _)); refine zj (cs := #[.int .i64 0, .int .i64 0, .bool false]) ?_ 0 _ rfl; (with_reducible repeat (first | refine qh ?_ _ | refine qi ?_ | refine qg ?_ _)); exact b1.out⟩;have n2_ : qb (Below w.heap.size w (((w38.setCell ⟨b2, 0, none⟩ (.int .i64 ((qk l0_2 x24_2).f0))).setCell ⟨b2, 1, none⟩ (.int .i64 ((qk l0_2 x24_2).f1))).setCell ⟨b2, 2, none⟩ (.bool ((qk l0_2 x24_2).f2)))) := ⟨be2_ HB b5 b7⟩;(try clear b0);(try clear b1);(try clear HB)
           generalize (((w38.setCell ⟨b2, 0, none⟩ (.int .i64 ((qk l0_2 x24_2).f0))).setCell ⟨b2, 1, none⟩ (.int .i64 ((qk l0_2 x24_2).f1))).setCell ⟨b2, 2, none⟩ (.bool ((qk l0_2 x24_2).f2))) = w41 at n0_ n1_ n2_ ⊢
           have b0 := n0_;have b1 := n1_;have HB := n2_;clear n0_ n1_ n2_;have n0_ := qb.mk (qi b0.out);have n1_ := qb.mk (qi b1.out);have n2_ := qb.mk (qe HB.out);clear b0;clear b1;clear HB;have b0 := n0_;have b1 := n1_;have HB := n2_;clear n0_ n1_ n2_
           refine jf (n := 22) (S := fun w' => w'.cell? ⟨b3, 0, none⟩ = some (.int .i64 a0_0) ∧ w'.cell? ⟨b3, 1, none⟩ = some (.int .i64 a0_1) ∧ w'.cell? ⟨b3, 2, none⟩ = some (.slice (some ad143) l0_2.length c0_2) ∧ w'.cell? ⟨b2, 0, none⟩ = some (.int .i64 ((qk l0_2 x24_2).f0)) ∧ w'.cell? ⟨b2, 1, none⟩ = some (.int .i64 ((qk l0_2 x24_2).f1)) ∧ w'.cell? ⟨b2, 2, none⟩ = some (.bool ((qk l0_2 x24_2).f2))) (ds := []) #[false, false, false, false, false, false, false, false, false, false, false, false, false, false, false, false, false, false, false, false, false, false] (by kernel_rfl) rfl rfl ⟨(qc b0.out 0).trans rfl, (qc b0.out 1).trans rfl, (qc b0.out 2).trans rfl, (qc b1.out 0).trans rfl, (qc b1.out 1).trans rfl, (qc b1.out 2).trans rfl⟩ (fun hHeld => ?_); refine zy spec_avGood.tab6 spec_avGood.bits6 (fun HT_ HW_ => ?_)
           generalize w41.drew = w42 at b0 b1 HB hHeld ⊢
           refine pure_ (i := 0) (N := some 29) (v := ?_) (a' := ?_) #[true, false, false, false, false, false, false, false, false, false, false, false, false, false, false, false, false, false, false, false, false, false] rfl rfl (qu HT_.out (by kernel_rfl)) (fun _ _ _ h => h) (Or.inl ⟨by rfl, ?_⟩) ?_ ?_
           rotate_left
           ·intro w'
            go_simp
            with_reducible rfl
           rotate_left
           ·simp only [Act.put, sA_, sB_, sC_, i64_w, i32_w]
            rfl
           refine pure_ (i := 2) (N := some 31) (v := ?_) (a' := ?_) #[true, false, true, false, false, false, false, false, false, false, false, false, false, false, false, false, false, false, false, false, false, false] rfl rfl (qu HT_.out (by kernel_rfl)) (fun _ _ _ h => h) (Or.inl ⟨by rfl, ?_⟩) ?_ ?_
           rotate_left
           ·intro w'
            go_simp
            with_reducible rfl
           rotate_left
           ·simp only [Act.put, sA_, sB_, sC_, i64_w, i32_w]
            rfl
           refine take_ (i := 1) (N := some 30) (v := ?_) (a' := ?_) #[true, true, true, false, false, false, false, false, false, false, false, false, false, false, false, false, false, false, false, false, false, false] rfl rfl (zg HT_.out HW_.out (by kernel_rfl)) (fun _ _ _ h => h) (Or.inl ⟨by rfl, ?_⟩) hHeld ?_ ?_
           rotate_left
           ·rintro w' ⟨s0, s1, s2, s3, s4, s5⟩
            go_simp
            with_reducible rfl
           rotate_left
           ·simp only [Act.put, sA_, sB_, sC_, i64_w, i32_w]
            rfl
           refine take_ (i := 3) (N := some 32) (v := ?_) (a' := ?_) #[true, true, true, true, false, false, false, false, false, false, false, false, false, false, false, false, false, false, false, false, false, false] rfl rfl (zg HT_.out HW_.out (by kernel_rfl)) (fun _ _ _ h => h) (Or.inl ⟨by rfl, ?_⟩) hHeld ?_ ?_
           rotate_left
           ·rintro w' ⟨s0, s1, s2, s3, s4, s5⟩
            go_simp
            with_reducible rfl
           rotate_left
           ·simp only [Act.put, sA_, sB_, sC_, i64_w, i32_w]
            rfl
           refine take_ (i := 4) (N := some 33) (v := ?_) (a' := ?_) #[true, true, true, true, true, false, false, false, false, false, false, false, false, false, false, false, false, false, false, false, false, false] rfl rfl (zg HT_.out HW_.out (by kernel_rfl)) (fun _ _ _ h => h) (Or.inl ⟨by rfl, ?_⟩) hHeld ?_ ?_
           rotate_left
           ·rintro w' ⟨s0, s1, s2, s3, s4, s5⟩
            go_simp
            with_reducible rfl
           rotate_left
           ·simp only [Act.put, sA_, sB_, sC_, i64_w, i32_w]
            rfl
           refine one_ (i := 5) (N := some 34) #[true, true, true, true, true, true, false, false, false, false, false, false, false, false, false, false, false, false, false, false, false, false] rfl rfl (zw HT_.out (by kernel_rfl)) (by decide) (fun K hK => ?_)
           refine goes_ Try.func50 (by kernel_rfl) rfl #[.int .i64 a0_0, .int .i64 a0_1, .agg #[.int .i64 ((qk l0_2 x24_2).f0), .int .i64 ((qk l0_2 x24_2).f1), .bool ((qk l0_2 x24_2).f2)]] (by rfl) rfl rfl (by (try simp only [List.map_toArray, List.map_cons, List.map_nil]); first | done | rfl | (simp only [List.length_drop, List.length_take]; rfl)) ?_
           with_reducible refine (spec_avIs.calls k2 a0_0 a0_1 ((qk l0_2 x24_2).f0) ((qk l0_2 x24_2).f1) ((qk l0_2 x24_2).f2) true _ A16.out).mono ?_
           rintro e w43 ⟨rfl, hb⟩
           refine ⟨_, rfl, ?_⟩
           have n0_ := qb.mk (qo (g := b3) (o := .cells #[.int .i64 a0_0, .int .i64 a0_1, .slice (some ad143) l0_2.length c0_2] 31 (0, 0)) (bk_ b0) hb);have n1_ := qb.mk (qo (g := b2) (o := .cells #[.int .i64 ((qk l0_2 x24_2).f0), .int .i64 ((qk l0_2 x24_2).f1), .bool ((qk l0_2 x24_2).f2)] 58 (0, 0)) (bk_ b1) hb);have n2_ := qb.mk (qp (be2_ HB b5 b7) hb);clear b0;clear b1;clear HB;have b0 := n0_;have b1 := n1_;have HB := n2_;clear n0_ n1_ n2_;(try clear hb);(try clear hb2);(try clear hk);(try clear hi)
           refine hK.out _ _ ⟨(qc b0.out 0).trans rfl, (qc b0.out 1).trans rfl, (qc b0.out 2).trans rfl, (qc b1.out 0).trans rfl, (qc b1.out 1).trans rfl, (qc b1.out 2).trans rfl⟩ (fun hHeld => ?_)
           clear hK K
           refine norm_ (a' := ?_) ?_ ?_
           rotate_left
           ·show Act.put _ (some 34) _ = _
            simp only [Act.put, sA_, sB_, sC_, i64_w, i32_w]
            rfl
           refine pure_ (i := 6) (N := some 35) (v := ?_) (a' := ?_) #[true, true, true, true, true, true, true, false, false, false, false, false, false, false, false, false, false, false, false, false, false, false] rfl rfl (qu HT_.out (by kernel_rfl)) (fun _ _ _ h => h) (Or.inl ⟨by rfl, ?_⟩) ?_ ?_
           rotate_left
           ·intro w'
            go_simp
            with_reducible rfl
           rotate_left
           ·simp only [Act.put, sA_, sB_, sC_, i64_w, i32_w]
            rfl
           refine pure_ (i := 7) (N := some 36) (v := ?_) (a' := ?_) #[true, true, true, true, true, true, true, true, false, false, false, false, false, false, false, false, false, false, false, false, false, false] rfl rfl (qu HT_.out (by kernel_rfl)) (fun _ _ _ h => h) (Or.inl ⟨by rfl, ?_⟩) ?_ ?_
           rotate_left
           ·intro w'
            go_simp
            with_reducible rfl
           rotate_left
           ·simp only [Act.put, sA_, sB_, sC_, i64_w, i32_w]
            rfl
           refine pure_ (i := 8) (N := some 37) (v := ?_) (a' := ?_) #[true, true, true, true, true, true, true, true, true, false, false, false, false, false, false, false, false, false, false, false, false, false] rfl rfl (qu HT_.out (by kernel_rfl)) (fun _ _ _ h => h) (Or.inl ⟨by rfl, ?_⟩) ?_ ?_
           rotate_left
           ·intro w'
            go_simp
            with_reducible rfl
           rotate_left
           ·simp only [Act.put, sA_, sB_, sC_, i64_w, i32_w]
            rfl
           refine pure_ (i := 9) (N := some 38) (v := ?_) (a' := ?_) #[true, true, true, true, true, true, true, true, true, true, false, false, false, false, false, false, false, false, false, false, false, false] rfl rfl (qu HT_.out (by kernel_rfl)) (fun _ _ _ h => h) (Or.inl ⟨by rfl, ?_⟩) ?_ ?_
           rotate_left
           ·intro w'
            go_simp
            with_reducible rfl
           rotate_left
           ·simp only [Act.put, sA_, sB_, sC_, i64_w, i32_w]
            rfl
           refine pure_ (i := 10) (N := some 39) (v := ?_) (a' := ?_) #[true, true, true, true, true, true, true, true, true, true, true, false, false, false, false, false, false, false, false, false, false, false] rfl rfl (qu HT_.out (by kernel_rfl)) (fun _ _ _ h => h) (Or.inl ⟨by rfl, ?_⟩) ?_ ?_
           rotate_left
           ·intro w'
            go_simp
            with_reducible rfl
           rotate_left
           ·simp only [Act.put, sA_, sB_, sC_, i64_w, i32_w]
            rfl
           refine pure_ (i := 11) (N := some 40) (v := undef) (a' := ?_) #[true, true, true, true, true, true, true, true, true, true, true, true, false, false, false, false, false, false, false, false, false, false] rfl rfl (qu HT_.out (by kernel_rfl)) (fun _ _ _ h => h) (Or.inr ⟨by rfl, rfl⟩) ?_ ?_
           rotate_left
           ·simp only [Act.put, sA_, sB_, sC_, i64_w, i32_w]
            rfl
           refine pure_ (i := 12) (N := some 41) (v := undef) (a' := ?_) #[true, true, true, true, true, true, true, true, true, true, true, true, true, false, false, false, false, false, false, false, false, false] rfl rfl (qu HT_.out (by kernel_rfl)) (fun _ _ _ h => h) (Or.inr ⟨by rfl, rfl⟩) ?_ ?_
           rotate_left
           ·simp only [Act.put, sA_, sB_, sC_, i64_w, i32_w]
            rfl
           refine pure_ (i := 13) (N := some 42) (v := undef) (a' := ?_) #[true, true, true, true, true, true, true, true, true, true, true, true, true, true, false, false, false, false, false, false, false, false] rfl rfl (qu HT_.out (by kernel_rfl)) (fun _ _ _ h => h) (Or.inr ⟨by rfl, rfl⟩) ?_ ?_
           rotate_left
           ·simp only [Act.put, sA_, sB_, sC_, i64_w, i32_w]
            rfl
           refine pure_ (i := 14) (N := some 43) (v := undef) (a' := ?_) #[true, true, true, true, true, true, true, true, true, true, true, true, true, true, true, false, false, false, false, false, false, false] rfl rfl (qu HT_.out (by kernel_rfl)) (fun _ _ _ h => h) (Or.inr ⟨by rfl, rfl⟩) ?_ ?_
           rotate_left
           ·simp only [Act.put, sA_, sB_, sC_, i64_w, i32_w]
            rfl
           refine pure_ (i := 15) (N := some 44) (v := undef) (a' := ?_) #[true, true, true, true, true, true, true, true, true, true, true, true, true, true, true, true, false, false, false, false, false, false] rfl rfl (qu HT_.out (by kernel_rfl)) (fun _ _ _ h => h) (Or.inr ⟨by rfl, rfl⟩) ?_ ?_
           rotate_left
           ·simp only [Act.put, sA_, sB_, sC_, i64_w, i32_w]
            rfl
           refine pure_ (i := 16) (N := some 45) (v := undef) (a' := ?_) #[true, true, true, true, true, true, true, true, true, true, true, true, true, true, true, true, true, false, false, false, false, false] rfl rfl (qu HT_.out (by kernel_rfl)) (fun _ _ _ h => h) (Or.inr ⟨by rfl, rfl⟩) ?_ ?_
           rotate_left
           ·simp only [Act.put, sA_, sB_, sC_, i64_w, i32_w]
            rfl
           refine pure_ (i := 17) (N := some 46) (v := undef) (a' := ?_) #[true, true, true, true, true, true, true, true, true, true, true, true, true, true, true, true, true, true, false, false, false, false] rfl rfl (qu HT_.out (by kernel_rfl)) (fun _ _ _ h => h) (Or.inr ⟨by rfl, rfl⟩) ?_ ?_
           rotate_left
           ·simp only [Act.put, sA_, sB_, sC_, i64_w, i32_w]
            rfl
           refine pure_ (i := 18) (N := some 47) (v := undef) (a' := ?_) #[true, true, true, true, true, true, true, true, true, true, true, true, true, true, true, true, true, true, true, false, false, false] rfl rfl (qu HT_.out (by kernel_rfl)) (fun _ _ _ h => h) (Or.inr ⟨by rfl, rfl⟩) ?_ ?_
           rotate_left
           ·simp only [Act.put, sA_, sB_, sC_, i64_w, i32_w]
            rfl
           refine pure_ (i := 19) (N := some 48) (v := undef) (a' := ?_) #[true, true, true, true, true, true, true, true, true, true, true, true, true, true, true, true, true, true, true, true, false, false] rfl rfl (qu HT_.out (by kernel_rfl)) (fun _ _ _ h => h) (Or.inr ⟨by rfl, rfl⟩) ?_ ?_
           rotate_left
           ·simp only [Act.put, sA_, sB_, sC_, i64_w, i32_w]
            rfl
           refine pure_ (i := 20) (N := some 49) (v := ?_) (a' := ?_) #[true, true, true, true, true, true, true, true, true, true, true, true, true, true, true, true, true, true, true, true, true, false] rfl rfl (qu HT_.out (by kernel_rfl)) (fun _ _ _ h => h) (Or.inl ⟨by rfl, ?_⟩) ?_ ?_
           rotate_left
           ·intro w'
            go_simp
            with_reducible rfl
           rotate_left
           ·simp only [Act.put, sA_, sB_, sC_, i64_w, i32_w]
            rfl
           refine pure_ (i := 21) (N := some 50) (v := ?_) (a' := ?_) #[true, true, true, true, true, true, true, true, true, true, true, true, true, true, true, true, true, true, true, true, true, true] rfl rfl (qu HT_.out (by kernel_rfl)) (fun _ _ _ h => h) (Or.inl ⟨by rfl, ?_⟩) ?_ ?_
           rotate_left
           ·intro w'
            go_simp
            with_reducible rfl
           rotate_left
           ·simp only [Act.put, sA_, sB_, sC_, i64_w, i32_w]
            rfl
           refine done_ (je HT_.out (by kernel_rfl)) ?_
           try go_wp2
           go_roundg k2
           case measure => have := HJ1.out; have := HK2.out; omega
           case rel => exact ⟨(wrap64 (x24_2 + 1)), (by first | rfl | (simp; done) | (simp [*]; done)), H', ⟨by have := HJ1.out; have := HK2.out; omega⟩, ⟨bk_ b0⟩, ⟨be2_ HB b5 b7⟩⟩
         ·replace c17 := Bool.eq_false_iff.mpr c17
          subst c17;have H1 : (some false) = some r := by rw [if_neg (show ¬ (false = true) by decide)] at H; exact H
          clear H;have H := H1;clear H1;obtain rfl := Option.some.inj H;have p143 : 0 ≤ (x24_2 : Int) := of_decide_eq_true (by first | (with_reducible assumption) | assumption);have q143 : x24_2 < (l0_2.length : Int) := of_decide_eq_true (by first | (with_reducible assumption) | assumption);obtain ⟨ad143, e143, hx143_0, hx143_1, hx143_2⟩ := jd HR0_2.out x24_2 p143 q143;cases e143;replace hx143_0 := (HB.out.cell (World.block_lt_of_cell? w _ hx143_0)).trans hx143_0;replace hx143_1 := (HB.out.cell (World.block_lt_of_cell? w _ hx143_1)).trans hx143_1;replace hx143_2 := (HB.out.cell (World.block_lt_of_cell? w _ hx143_2)).trans hx143_2;replace p143 := eq_true p143;replace q143 := eq_true q143
          try go_wp2_with (first | ((with_reducible refine ze (N := 4) rfl ?_); (try (refine gate_guard (by rfl) ?_; dsimp only)); refine zc ?hg (N := 4) ?hd (cs := #[.int .i64 0, .int .i64 0, .bool false]) (t := 58) ?hr ?_; (case hd => rfl); (case hg => rfl); (case hr => first | (go_simp; done) | (go_simp; rfl)); intro b2 hg w44 hbox hb; have n0_ := qb.mk (qo (g := b3) (o := .cells #[.int .i64 a0_0, .int .i64 a0_1, .slice (some ad143) l0_2.length c0_2] 31 (0, 0)) (bk_ b0) hb); have n1_ := qb.mk (qp (be1_ HB b5) hb); have n2_ := qb.mk (hbox); have n3_ := qb.mk ((by rw [hg]; exact (ql (be1_ HB b5)) : w.heap.size ≤ b2)); have n4_ := qb.mk ((by rw [hg]; exact (ql (be1_ HB b5)) : w.heap.size ≤ b2)); have n5_ := qb.mk ((by rw [hg]; exact Nat.ne_of_lt (zd (g := b3) (o := .cells #[.int .i64 a0_0, .int .i64 a0_1, .slice (some ad143) l0_2.length c0_2] 31 (0, 0)) (bk_ b0)) : b3 ≠ b2)); have n6_ := qb.mk ((by rw [hg]; exact Nat.ne_of_gt (zd (g := b3) (o := .cells #[.int .i64 a0_0, .int .i64 a0_1, .slice (some ad143) l0_2.length c0_2] 31 (0, 0)) (bk_ b0)) : b2 ≠ b3)); clear b0; clear HB; have b0 := n0_; have HB := n1_; have b1 := n2_; have d0 := n3_; have b7 := n4_; have b4 := n5_; have b6 := n6_; clear n0_ n1_ n2_ n3_ n4_ n5_ n6_; clear hb hbox hg; have hnb45 := b6.out; have hnc45 := b4.out; have hcz46_0 : w44.cell? ⟨b2, 0, none⟩ = some (.int .i64 0) := (qc b1.out 0).trans rfl; have hcz46_1 : w44.cell? ⟨b2, 1, none⟩ = some (.int .i64 0) := (qc b1.out 1).trans rfl; have hcz46_2 : w44.cell? ⟨b2, 2, none⟩ = some (.bool false) := (qc b1.out 2).trans rfl; have hfz46_0 := qj b1.out 0; have hfz46_1 := qj b1.out 1; have hfz46_2 := qj b1.out 2))
          have n0_ : qb ((((w44.setCell ⟨b2, 0, none⟩ (.int .i64 ((qk l0_2 x24_2).f0))).setCell ⟨b2, 1, none⟩ (.int .i64 ((qk l0_2 x24_2).f1))).setCell ⟨b2, 2, none⟩ (.bool ((qk l0_2 x24_2).f2))).heap[b3]? = some (.cells #[.int .i64 a0_0, .int .i64 a0_1, .slice (some ad143) l0_2.length c0_2] 31 (0, 0))) := ⟨by (with_reducible repeat (first | refine qh ?_ _ | refine qi ?_ | refine qg ?_ _)); refine zk ?_ b4.out _; (with_reducible repeat (first | refine qh ?_ _ | refine qi ?_ | refine qg ?_ _)); refine zk ?_ b4.out _; (with_reducible repeat (first | refine qh ?_ _ | refine qi ?_ | refine qg ?_ _)); refine zk ?_ b4.out _; (with_reducible repeat (first | refine qh ?_ _ | refine qi ?_ | refine qg ?_ _)); exact b0.out⟩;have n1_ : qb ((((w44.setCell ⟨b2, 0, none⟩ (.int .i64 ((qk l0_2 x24_2).f0))).setCell ⟨b2, 1, none⟩ (.int .i64 ((qk l0_2 x24_2).f1))).setCell ⟨b2, 2, none⟩ (.bool ((qk l0_2 x24_2).f2))).heap[b2]? = some (.cells #[.int .i64 ((qk l0_2 x24_2).f0), .int .i64 ((qk l0_2 x24_2).f1), .bool ((qk l0_2 x24_2).f2)] 58 (0, 0))) := ⟨by (with_reducible repeat (first | refine qh ?_ _ | refine qi ?_ | refine qg ?_ _)); refine zj (cs := #[.int .i64 ((qk l0_2 x24_2).f0), .int .i64 ((qk l0_2 x24_2).f1), .bool false]) ?_ 2 _ rfl; (with_reducible repeat (first | refine qh ?_ _ | refine qi ?_ | refine qg ?_ _)); refine zj (cs := #[.int .i64 ((qk l0_2 x24_2).f0), .int .i64 0, .bool false]) ?_ 1 _ rfl; (with_reducible repeat (first | refine qh ?_ _ | refine qi ?_ | refine qg ?_ _)); refine zj (cs := #[.int .i64 0, .int .i64 0, .bool false]) ?_ 0 _ rfl; (with_reducible repeat (first | refine qh ?_ _ | refine qi ?_ | refine qg ?_ _)); exact b1.out⟩;have n2_ : qb (Below w.heap.size w (((w44.setCell ⟨b2, 0, none⟩ (.int .i64 ((qk l0_2 x24_2).f0))).setCell ⟨b2, 1, none⟩ (.int .i64 ((qk l0_2 x24_2).f1))).setCell ⟨b2, 2, none⟩ (.bool ((qk l0_2 x24_2).f2)))) := ⟨be2_ HB b5 b7⟩;(try clear b0);(try clear b1);(try clear HB)
          generalize (((w44.setCell ⟨b2, 0, none⟩ (.int .i64 ((qk l0_2 x24_2).f0))).setCell ⟨b2, 1, none⟩ (.int .i64 ((qk l0_2 x24_2).f1))).setCell ⟨b2, 2, none⟩ (.bool ((qk l0_2 x24_2).f2))) = w47 at n0_ n1_ n2_ ⊢
          have b0 := n0_;have b1 := n1_;have HB := n2_;clear n0_ n1_ n2_;have n0_ := qb.mk (qi b0.out);have n1_ := qb.mk (qi b1.out);have n2_ := qb.mk (qe HB.out);clear b0;clear b1;clear HB;have b0 := n0_;have b1 := n1_;have HB := n2_;clear n0_ n1_ n2_
          refine jf (n := 22) (S := fun w' => w'.cell? ⟨b3, 0, none⟩ = some (.int .i64 a0_0) ∧ w'.cell? ⟨b3, 1, none⟩ = some (.int .i64 a0_1) ∧ w'.cell? ⟨b3, 2, none⟩ = some (.slice (some ad143) l0_2.length c0_2) ∧ w'.cell? ⟨b2, 0, none⟩ = some (.int .i64 ((qk l0_2 x24_2).f0)) ∧ w'.cell? ⟨b2, 1, none⟩ = some (.int .i64 ((qk l0_2 x24_2).f1)) ∧ w'.cell? ⟨b2, 2, none⟩ = some (.bool ((qk l0_2 x24_2).f2))) (ds := []) #[false, false, false, false, false, false, false, false, false, false, false, false, false, false, false, false, false, false, false, false, false, false] (by kernel_rfl) rfl rfl ⟨(qc b0.out 0).trans rfl, (qc b0.out 1).trans rfl, (qc b0.out 2).trans rfl, (qc b1.out 0).trans rfl, (qc b1.out 1).trans rfl, (qc b1.out 2).trans rfl⟩ (fun hHeld => ?_); refine zy spec_avGood.tab6 spec_avGood.bits6 (fun HT_ HW_ => ?_)
          generalize w47.drew = w48 at b0 b1 HB hHeld ⊢
          refine pure_ (i := 0) (N := some 29) (v := ?_) (a' := ?_) #[true, false, false, false, false, false, false, false, false, false, false, false, false, false, false, false, false, false, false, false, false, false] rfl rfl (qu HT_.out (by kernel_rfl)) (fun _ _ _ h => h) (Or.inl ⟨by rfl, ?_⟩) ?_ ?_
          rotate_left
          ·intro w'
           go_simp
           with_reducible rfl
          rotate_left
          ·simp only [Act.put, sA_, sB_, sC_, i64_w, i32_w]
           rfl
          refine pure_ (i := 2) (N := some 31) (v := ?_) (a' := ?_) #[true, false, true, false, false, false, false, false, false, false, false, false, false, false, false, false, false, false, false, false, false, false] rfl rfl (qu HT_.out (by kernel_rfl)) (fun _ _ _ h => h) (Or.inl ⟨by rfl, ?_⟩) ?_ ?_
          rotate_left
          ·intro w'
           go_simp
           with_reducible rfl
          rotate_left
          ·simp only [Act.put, sA_, sB_, sC_, i64_w, i32_w]
           rfl
          refine take_ (i := 1) (N := some 30) (v := ?_) (a' := ?_) #[true, true, true, false, false, false, false, false, false, false, false, false, false, false, false, false, false, false, false, false, false, false] rfl rfl (zg HT_.out HW_.out (by kernel_rfl)) (fun _ _ _ h => h) (Or.inl ⟨by rfl, ?_⟩) hHeld ?_ ?_
          rotate_left
          ·rintro w' ⟨s0, s1, s2, s3, s4, s5⟩
           go_simp
           with_reducible rfl
          rotate_left
          ·simp only [Act.put, sA_, sB_, sC_, i64_w, i32_w]
           rfl
          refine take_ (i := 3) (N := some 32) (v := ?_) (a' := ?_) #[true, true, true, true, false, false, false, false, false, false, false, false, false, false, false, false, false, false, false, false, false, false] rfl rfl (zg HT_.out HW_.out (by kernel_rfl)) (fun _ _ _ h => h) (Or.inl ⟨by rfl, ?_⟩) hHeld ?_ ?_
          rotate_left
          ·rintro w' ⟨s0, s1, s2, s3, s4, s5⟩
           go_simp
           with_reducible rfl
          rotate_left
          ·simp only [Act.put, sA_, sB_, sC_, i64_w, i32_w]
           rfl
          refine take_ (i := 4) (N := some 33) (v := ?_) (a' := ?_) #[true, true, true, true, true, false, false, false, false, false, false, false, false, false, false, false, false, false, false, false, false, false] rfl rfl (zg HT_.out HW_.out (by kernel_rfl)) (fun _ _ _ h => h) (Or.inl ⟨by rfl, ?_⟩) hHeld ?_ ?_
          rotate_left
          ·rintro w' ⟨s0, s1, s2, s3, s4, s5⟩
           go_simp
           with_reducible rfl
          rotate_left
          ·simp only [Act.put, sA_, sB_, sC_, i64_w, i32_w]
           rfl
          refine one_ (i := 5) (N := some 34) #[true, true, true, true, true, true, false, false, false, false, false, false, false, false, false, false, false, false, false, false, false, false] rfl rfl (zw HT_.out (by kernel_rfl)) (by decide) (fun K hK => ?_)
          refine goes_ Try.func50 (by kernel_rfl) rfl #[.int .i64 a0_0, .int .i64 a0_1, .agg #[.int .i64 ((qk l0_2 x24_2).f0), .int .i64 ((qk l0_2 x24_2).f1), .bool ((qk l0_2 x24_2).f2)]] (by rfl) rfl rfl (by (try simp only [List.map_toArray, List.map_cons, List.map_nil]); first | done | rfl | (simp only [List.length_drop, List.length_take]; rfl)) ?_
          with_reducible refine (spec_avIs.calls k2 a0_0 a0_1 ((qk l0_2 x24_2).f0) ((qk l0_2 x24_2).f1) ((qk l0_2 x24_2).f2) false _ A16.out).mono ?_
          rintro e w49 ⟨rfl, hb⟩
          refine ⟨_, rfl, ?_⟩
          have n0_ := qb.mk (qo (g := b3) (o := .cells #[.int .i64 a0_0, .int .i64 a0_1, .slice (some ad143) l0_2.length c0_2] 31 (0, 0)) (bk_ b0) hb);have n1_ := qb.mk (qo (g := b2) (o := .cells #[.int .i64 ((qk l0_2 x24_2).f0), .int .i64 ((qk l0_2 x24_2).f1), .bool ((qk l0_2 x24_2).f2)] 58 (0, 0)) (bk_ b1) hb);have n2_ := qb.mk (qp (be2_ HB b5 b7) hb);clear b0;clear b1;clear HB;have b0 := n0_;have b1 := n1_;have HB := n2_;clear n0_ n1_ n2_;(try clear hb);(try clear hb2);(try clear hk);(try clear hi)
          refine hK.out _ _ ⟨(qc b0.out 0).trans rfl, (qc b0.out 1).trans rfl, (qc b0.out 2).trans rfl, (qc b1.out 0).trans rfl, (qc b1.out 1).trans rfl, (qc b1.out 2).trans rfl⟩ (fun hHeld => ?_)
          clear hK K
          refine norm_ (a' := ?_) ?_ ?_
          rotate_left
          ·show Act.put _ (some 34) _ = _
           simp only [Act.put, sA_, sB_, sC_, i64_w, i32_w]
           rfl
          refine pure_ (i := 6) (N := some 35) (v := ?_) (a' := ?_) #[true, true, true, true, true, true, true, false, false, false, false, false, false, false, false, false, false, false, false, false, false, false] rfl rfl (qu HT_.out (by kernel_rfl)) (fun _ _ _ h => h) (Or.inl ⟨by rfl, ?_⟩) ?_ ?_
          rotate_left
          ·intro w'
           go_simp
           with_reducible rfl
          rotate_left
          ·simp only [Act.put, sA_, sB_, sC_, i64_w, i32_w]
           rfl
          refine pure_ (i := 7) (N := some 36) (v := ?_) (a' := ?_) #[true, true, true, true, true, true, true, true, false, false, false, false, false, false, false, false, false, false, false, false, false, false] rfl rfl (qu HT_.out (by kernel_rfl)) (fun _ _ _ h => h) (Or.inl ⟨by rfl, ?_⟩) ?_ ?_
          rotate_left
          ·intro w'
           go_simp
           with_reducible rfl
          rotate_left
          ·simp only [Act.put, sA_, sB_, sC_, i64_w, i32_w]
           rfl
          refine pure_ (i := 8) (N := some 37) (v := undef) (a' := ?_) #[true, true, true, true, true, true, true, true, true, false, false, false, false, false, false, false, false, false, false, false, false, false] rfl rfl (qu HT_.out (by kernel_rfl)) (fun _ _ _ h => h) (Or.inr ⟨by rfl, rfl⟩) ?_ ?_
          rotate_left
          ·simp only [Act.put, sA_, sB_, sC_, i64_w, i32_w]
           rfl
          refine pure_ (i := 9) (N := some 38) (v := undef) (a' := ?_) #[true, true, true, true, true, true, true, true, true, true, false, false, false, false, false, false, false, false, false, false, false, false] rfl rfl (qu HT_.out (by kernel_rfl)) (fun _ _ _ h => h) (Or.inr ⟨by rfl, rfl⟩) ?_ ?_
          rotate_left
          ·simp only [Act.put, sA_, sB_, sC_, i64_w, i32_w]
           rfl
          refine pure_ (i := 10) (N := some 39) (v := undef) (a' := ?_) #[true, true, true, true, true, true, true, true, true, true, true, false, false, false, false, false, false, false, false, false, false, false] rfl rfl (qu HT_.out (by kernel_rfl)) (fun _ _ _ h => h) (Or.inr ⟨by rfl, rfl⟩) ?_ ?_
          rotate_left
          ·simp only [Act.put, sA_, sB_, sC_, i64_w, i32_w]
           rfl
          refine pure_ (i := 11) (N := some 40) (v := undef) (a' := ?_) #[true, true, true, true, true, true, true, true, true, true, true, true, false, false, false, false, false, false, false, false, false, false] rfl rfl (qu HT_.out (by kernel_rfl)) (fun _ _ _ h => h) (Or.inr ⟨by rfl, rfl⟩) ?_ ?_
          rotate_left
          ·simp only [Act.put, sA_, sB_, sC_, i64_w, i32_w]
           rfl
          refine pure_ (i := 12) (N := some 41) (v := undef) (a' := ?_) #[true, true, true, true, true, true, true, true, true, true, true, true, true, false, false, false, false, false, false, false, false, false] rfl rfl (qu HT_.out (by kernel_rfl)) (fun _ _ _ h => h) (Or.inr ⟨by rfl, rfl⟩) ?_ ?_
          rotate_left
          ·simp only [Act.put, sA_, sB_, sC_, i64_w, i32_w]
           rfl
          refine pure_ (i := 13) (N := some 42) (v := undef) (a' := ?_) #[true, true, true, true, true, true, true, true, true, true, true, true, true, true, false, false, false, false, false, false, false, false] rfl rfl (qu HT_.out (by kernel_rfl)) (fun _ _ _ h => h) (Or.inr ⟨by rfl, rfl⟩) ?_ ?_
          rotate_left
          ·simp only [Act.put, sA_, sB_, sC_, i64_w, i32_w]
           rfl
          refine pure_ (i := 14) (N := some 43) (v := undef) (a' := ?_) #[true, true, true, true, true, true, true, true, true, true, true, true, true, true, true, false, false, false, false, false, false, false] rfl rfl (qu HT_.out (by kernel_rfl)) (fun _ _ _ h => h) (Or.inr ⟨by rfl, rfl⟩) ?_ ?_
          rotate_left
          ·simp only [Act.put, sA_, sB_, sC_, i64_w, i32_w]
           rfl
          refine pure_ (i := 15) (N := some 44) (v := undef) (a' := ?_) #[true, true, true, true, true, true, true, true, true, true, true, true, true, true, true, true, false, false, false, false, false, false] rfl rfl (qu HT_.out (by kernel_rfl)) (fun _ _ _ h => h) (Or.inr ⟨by rfl, rfl⟩) ?_ ?_
          rotate_left
          ·simp only [Act.put, sA_, sB_, sC_, i64_w, i32_w]
           rfl
          refine pure_ (i := 16) (N := some 45) (v := undef) (a' := ?_) #[true, true, true, true, true, true, true, true, true, true, true, true, true, true, true, true, true, false, false, false, false, false] rfl rfl (qu HT_.out (by kernel_rfl)) (fun _ _ _ h => h) (Or.inr ⟨by rfl, rfl⟩) ?_ ?_
          rotate_left
          ·simp only [Act.put, sA_, sB_, sC_, i64_w, i32_w]
           rfl
          refine pure_ (i := 17) (N := some 46) (v := undef) (a' := ?_) #[true, true, true, true, true, true, true, true, true, true, true, true, true, true, true, true, true, true, false, false, false, false] rfl rfl (qu HT_.out (by kernel_rfl)) (fun _ _ _ h => h) (Or.inr ⟨by rfl, rfl⟩) ?_ ?_
          rotate_left
          ·simp only [Act.put, sA_, sB_, sC_, i64_w, i32_w]
           rfl
          refine pure_ (i := 18) (N := some 47) (v := undef) (a' := ?_) #[true, true, true, true, true, true, true, true, true, true, true, true, true, true, true, true, true, true, true, false, false, false] rfl rfl (qu HT_.out (by kernel_rfl)) (fun _ _ _ h => h) (Or.inr ⟨by rfl, rfl⟩) ?_ ?_
          rotate_left
          ·simp only [Act.put, sA_, sB_, sC_, i64_w, i32_w]
           rfl
          refine pure_ (i := 19) (N := some 48) (v := undef) (a' := ?_) #[true, true, true, true, true, true, true, true, true, true, true, true, true, true, true, true, true, true, true, true, false, false] rfl rfl (qu HT_.out (by kernel_rfl)) (fun _ _ _ h => h) (Or.inr ⟨by rfl, rfl⟩) ?_ ?_
          rotate_left
          ·simp only [Act.put, sA_, sB_, sC_, i64_w, i32_w]
           rfl
          refine pure_ (i := 20) (N := some 49) (v := undef) (a' := ?_) #[true, true, true, true, true, true, true, true, true, true, true, true, true, true, true, true, true, true, true, true, true, false] rfl rfl (qu HT_.out (by kernel_rfl)) (fun _ _ _ h => h) (Or.inr ⟨by rfl, rfl⟩) ?_ ?_
          rotate_left
          ·simp only [Act.put, sA_, sB_, sC_, i64_w, i32_w]
           rfl
          refine pure_ (i := 21) (N := some 50) (v := ?_) (a' := ?_) #[true, true, true, true, true, true, true, true, true, true, true, true, true, true, true, true, true, true, true, true, true, true] rfl rfl (qu HT_.out (by kernel_rfl)) (fun _ _ _ h => h) (Or.inl ⟨by rfl, ?_⟩) ?_ ?_
          rotate_left
          ·intro w'
           go_simp
           with_reducible rfl
          rotate_left
          ·simp only [Act.put, sA_, sB_, sC_, i64_w, i32_w]
           rfl
          refine done_ (je HT_.out (by kernel_rfl)) ?_
          try go_wp2
          go_ret
          exact ⟨by first | rfl | (simp [qt, qr] <;> rfl) | (simp [*, qt, qr] <;> rfl), be2_ HB b5 b7⟩
        ·rw [if_neg c15] at H
         exact absurd H (by simp)
       ·rw [if_neg c14] at H
        exact absurd H (by simp)
      ·rw [if_neg c13] at H
       have c13b0 : decide (x24_2 < (l0_2.length : Int)) = false := decide_eq_false c13;clear c13;obtain rfl := Option.some.inj H
       go_wp2
       go_ret
       exact ⟨by first | rfl | (simp [qt, qr] <;> rfl) | (simp [*, qt, qr] <;> rfl), be1_ HB b5⟩
end Go.Proofs.Ytpedofomfhmnfaa.PFnExactNeededBlocks
