/- Cut by wip/cut.py out of the texts of this claim (printed by the kit's printer, or this session's own): what the row's theorem does not reach is struck. Not trusted: Lean checks it. -/
import Derived.Test.YtohpaddcfcgmbaaZFnExactBestToOpenPx0
import Derived.Test.YtohpaddcfcgmbaaZFnExactBestToOpenPx1
namespace Go.Proofs.Ytohpaddcfcgmbaa.PFnExactBestToOpen
open Go.RowKit Go.Proofs.YtohpaddcfcgmbaaW.PrintWords Go.Proofs.YtohpaddcfcgmbaaW.PrintLast Go.Proofs.YtohpaddcfcgmbaaW.PrintMore
attribute [local go_sem] max2_int min2_int max_two min_two max_three min_three max_four min_four
set_option linter.unusedVariables false
set_option linter.unusedSimpArgs false
attribute [local go_sem high] eqA38
def laws_toIntS.l0 : Nat → List Int → List Int → Int → Option (List Int)
 | 0, _, _, _ => none
 | k + 1, x0, x3, x4 => if x4 < (x0.length : Int) then (if 0 ≤ x4 then (if x4 < (x3.length : Int) then (laws_toIntS.l0 k x0 (x3.set (x4 : Int).toNat (rd x0 x4)) (wrap64 (x4 + 1))) else (none)) else (none)) else (some x3)
def laws_toIntS.f (k : Nat) (l0 : List Int) : Option (List Int) := if 0 ≤ (l0.length : Int) then (if ((l0.length : Int) : Int).toNat ≤ 35184372088832 then (laws_toIntS.l0 k l0 (List.replicate ((l0.length : Int) : Int).toNat 0) 0) else (none)) else (none)
theorem laws_toIntS.zu : ∀ k, (∀ y0 y1 y2, LeO (laws_toIntS.l0 k y0 y1 y2) (laws_toIntS.l0 (k + 1) y0 y1 y2))
 | 0 => fun _ _ _ r h => by simp [laws_toIntS.l0] at h
 | k + 1 => by
  have ih0 := laws_toIntS.zu k
  ·intro y0 y1 y2
   unfold laws_toIntS.l0
   repeat' first
   | (with_reducible exact ih0 _ _ _)
   | (with_reducible exact LeO.refl _)
   | (with_reducible exact LeO.none _)
   | (with_reducible refine LeO.ite ?_ ?_)
   | (with_reducible refine LeO.bind ?_ (fun _ => ?_))
   | exact ih0 _ _ _
   | exact LeO.none _
   | refine LeO.ite ?_ ?_
   | refine LeO.bind ?_ (fun _ => ?_)
theorem laws_toIntS.mono : ∀ a0 k, LeO (laws_toIntS.f k a0) (laws_toIntS.f (k + 1) a0) := by
 intro a0 k
 have ih0 := laws_toIntS.zu k
 unfold laws_toIntS.f
 repeat' first
   | (with_reducible exact ih0 _ _ _)
   | (with_reducible exact LeO.refl _)
   | (with_reducible exact LeO.none _)
   | (with_reducible refine LeO.ite ?_ ?_)
   | (with_reducible refine LeO.bind ?_ (fun _ => ?_))
   | exact ih0 _ _ _
   | exact LeO.none _
   | refine LeO.ite ?_ ?_
   | refine LeO.bind ?_ (fun _ => ?_)
set_option maxHeartbeats 8000000 in
set_option maxRecDepth 100000 in
theorem laws_toIntS.calls (k : Nat) (A0 : Option Addr) (c0 : Nat) (l0 : List Int) (r : List Int) (w : World) (hr0 : Kd.C (Kd.int .i64) w A0 l0.length l0) (hc0 : l0.length ≤ c0) (h : laws_toIntS.f k l0 = some r) :
  Calls Try.prog 29 #[.slice A0 l0.length c0] w fun e w' => ∃ v0_ : Value, e = .returned (v0_) ∧ Kd.R (Kd.int .i64) 3 w' w.heap.size (fun _ => True) v0_ r ∧ Below w.heap.size w w' := by
 have HR0 := qd.mk hr0
 have HC0 := qd.mk hc0
 clear hr0 hc0
 have HB := qd.mk (Below.refl w.heap.size w)
 have H : (if 0 ≤ (l0.length : Int) then (if ((l0.length : Int) : Int).toNat ≤ 35184372088832 then (laws_toIntS.l0 k l0 (List.replicate ((l0.length : Int) : Int).toNat 0) 0) else (none)) else (none)) = some r := h
 clear h
 by_cases c2 : 0 ≤ (l0.length : Int)
 ·rw [if_pos c2] at H
  have c2b0 := eq_true c2
  have c2b1 : decide (0 ≤ (l0.length : Int)) = true := decide_eq_true c2
  clear c2
  by_cases c3 : ((l0.length : Int) : Int).toNat ≤ 35184372088832
  ·rw [if_pos c3] at H
   have c3b0 := eq_true c3
   have c3b1 : decide (((l0.length : Int) : Int).toNat ≤ 35184372088832) = true := decide_eq_true c3
   clear c3
   obtain ⟨y128, hy128⟩ : ∃ y_ : List Int, y_ = (List.replicate ((l0.length : Int) : Int).toNat 0) := ⟨_, rfl⟩
   replace H : (laws_toIntS.l0 k l0 y128 0) = some r := by first | (rw [hy128]; with_reducible exact H) | (have H2_ := (Option.bind_some _ _).symm.trans H; rw [hy128]; with_reducible exact H2_) | (have H2_ := (Option.bind_some _ _).symm.trans H; with_reducible exact H2_) | with_reducible exact H | (rw [hy128]; exact H) | exact H
   have Ny128 := qd.mk hy128
   clear hy128
   have H' := qd.mk H
   clear H
   go_enter Try.func29, Try.ntmps29
   go_wp2_with (first | ((with_reducible refine za (N := 7) rfl ?_); refine Kd.R_make (Kd.int .i64) _ 3 rfl (N := 7) rfl 42 _ _ rfl (l0.length : Int) rfl rfl Try.underlying42 (.int .i64 0) 8 info3 rfl (by decide) (by omega) 0 (ok := fun _ => True) (okp := fun _ => True) rfl (fun _ hk => hk) trivial (of_decide_eq_true (by first | (with_reducible assumption) | assumption)) (Nat.le_trans (Nat.mul_le_mul_right _ (of_decide_eq_true (by first | (with_reducible assumption) | assumption) : (l0.length : Int).toNat ≤ 35184372088832)) (by omega)) (Below.refl _ _) (Nat.le_refl _) ?_; intro v129 w4 ho5 hb hg_ hnew_; clear hg_ hnew_; (first | rw [← Ny128.out] at ho5 | (simp only [Int.reduceToNat] at ho5; rw [← Ny128.out] at ho5)); have n0_ := qd.mk (Kd.zq ho5 (qm (be0_ HB))); have n1_ := qd.mk (qn (be0_ HB) hb); clear HB; have HO130 := n0_; have HB := n1_; clear n0_ n1_; clear hb ho5))
   go_loopg [4] k (fun kq v4 w' => ∃ (x3_1 : List Int) (x4_1 : Int), v4 = .int .i64 x4_1 ∧ qd (laws_toIntS.l0 kq l0 x3_1 x4_1 = some r) ∧ qd (kq ≤ k) ∧ qd (Kd.R (Kd.int .i64) 3 w' w.heap.size (fun _ => True) v129 x3_1) ∧ qd (Below w.heap.size w w'))
   case atStart => exact ⟨(y128), (0), (by first | rfl | (simp; done) | (simp [*]; done)), H', ⟨Nat.le_refl _⟩, ⟨kr_ HO130⟩, ⟨be0_ HB⟩⟩
   case round =>
    clear H'
    try clear c2
    try clear c2b0
    try clear c2b1
    try clear c3
    try clear c3b0
    try clear c3b1
    obtain ⟨x3_1, x4_1, rfl, HA, HK1, HO_3, HB⟩ := hrel
    cases gk with
    | zero => exact absurd HA.out (by simp [laws_toIntS.l0])
    | succ k1 =>
     have H := HA.out
     clear HA
     simp only [laws_toIntS.l0] at H
     by_cases c6 : x4_1 < (l0.length : Int)
     ·rw [if_pos c6] at H
      have c6b0 : decide (x4_1 < (l0.length : Int)) = true := decide_eq_true c6
      clear c6
      by_cases c7 : 0 ≤ x4_1
      ·rw [if_pos c7] at H
       have c7b0 : decide (0 ≤ x4_1) = true := decide_eq_true c7
       clear c7
       by_cases c8 : x4_1 < (x3_1.length : Int)
       ·rw [if_pos c8] at H
        have c8b0 : decide (x4_1 < (x3_1.length : Int)) = true := decide_eq_true c8
        clear c8
        obtain ⟨y132, hy132⟩ : ∃ y_ : List Int, y_ = (x3_1.set (x4_1 : Int).toNat (rd l0 x4_1)) := ⟨_, rfl⟩
        replace H : (laws_toIntS.l0 k1 l0 y132 (wrap64 (x4_1 + 1))) = some r := by first | (rw [hy132]; with_reducible exact H) | (have H2_ := (Option.bind_some _ _).symm.trans H; rw [hy132]; with_reducible exact H2_) | (have H2_ := (Option.bind_some _ _).symm.trans H; with_reducible exact H2_) | with_reducible exact H | (rw [hy132]; exact H) | exact H
        have Ny132 := qd.mk hy132
        clear hy132
        have H' := qd.mk H
        clear H
        have p131 : 0 ≤ (x4_1 : Int) := of_decide_eq_true (by first | (with_reducible assumption) | assumption)
        have q131 : x4_1 < (l0.length : Int) := of_decide_eq_true (by first | (with_reducible assumption) | assumption)
        obtain ⟨ad131, e131, hx131_0⟩ := Kd.jc HR0.out x4_1 p131 q131
        cases e131
        replace hx131_0 := (HB.out.cell (World.block_lt_of_cell? w _ hx131_0)).trans hx131_0
        replace p131 := eq_true p131
        replace q131 := eq_true q131
        have p9 : 0 ≤ (x4_1 : Int) := of_decide_eq_true (by first | (with_reducible assumption) | assumption)
        have q9 : (x4_1 : Int) < ((x3_1.length : Int) : Int) := of_decide_eq_true (by first | (with_reducible assumption) | assumption)
        obtain ⟨go9, co9, eo9, gb9, gl9, cl9, HG9⟩ := Kd.R_form HO_3.out (by omega)
        (first | cases eo9 | (injection eo9 with ea_ en_ ec_; (first | subst ea_ | (injection ea_ with ea_; subst ea_)); subst ec_; clear en_))
        have GB9 := qd.mk gb9
        have GG9 := qd.mk HG9
        clear gb9 gl9 HG9
        obtain ⟨hx9_0, hf9_0⟩ := Kd.R_celln 0 HO_3.out (x4_1 : Int) p9 q9
        replace p9 := eq_true p9
        replace q9 := eq_true q9
        have HP10 := Kd.R_putg HO_3.out (x4_1 : Int) (rd l0 x4_1)
        go_wp2_with (first | ((with_reducible refine gate_store (t := 3) (p := 20) rfl ?_); refine store_event (t := 3) (p := 20) (v := ?vo_w11) (w1 := (wr.setCell ⟨go9, (x4_1 : Int).toNat, none⟩ (.int .i64 (rd l0 x4_1)))) ?hg ?ho ?hn ?hr ?_; (case ho => rfl); (case hg => rfl); (case hn => rfl); (case hr => first | (go_simp; done) | (go_simp; rfl)); intro w11 hw; have hg : wr.grownBy w11 (some go9) := (by rw [hw]; exact HP10.2); have hp_ : Kd.R (Kd.int .i64) 3 w11 w.heap.size (fun _ => True) (.slice (some ⟨go9, 0, none⟩) x3_1.length co9) y132 := (by rw [hw, Ny132.out]; exact HP10.1); clear HP10; have n0_ := qd.mk (hp_); have n1_ := qd.mk ((by rw [hw]; exact qf (HB.out) GB9.out : Below w.heap.size w w11)); clear HO_3; clear HB; have HO_3 := n0_; have HB := n1_; clear n0_ n1_; clear hg hw hp_))
        go_roundg k1
        case measure => have := HK1.out; omega
        case rel => exact ⟨(y132), (wrap64 (x4_1 + 1)), (by first | rfl | (simp; done) | (simp [*]; done)), H', ⟨by have := HK1.out; omega⟩, ⟨kr_ HO_3⟩, ⟨be0_ HB⟩⟩
       ·rw [if_neg c8] at H
        exact absurd H (by simp)
      ·rw [if_neg c7] at H
       exact absurd H (by simp)
     ·rw [if_neg c6] at H
      have c6b0 : decide (x4_1 < (l0.length : Int)) = false := decide_eq_false c6
      clear c6
      obtain rfl := Option.some.inj H
      go_wp2
      go_ret
      exact ⟨_, by first | rfl | (simp [qq, qp] <;> rfl) | (simp [*, qq, qp] <;> rfl), kr_ HO_3, be0_ HB⟩
  ·rw [if_neg c3] at H
   exact absurd H (by simp)
 ·rw [if_neg c2] at H
  exact absurd H (by simp)
def laws_eqIntS.l0 : Nat → List Int → List Int → Int → Option (Bool)
 | 0, _, _, _ => none
 | k + 1, x0, x1, x5 => if x5 < (x0.length : Int) then (if 0 ≤ x5 then (if x5 < (x1.length : Int) then (if (rd x0 x5) = (rd x1 x5) then (laws_eqIntS.l0 k x0 x1 (wrap64 (x5 + 1))) else (some false)) else (none)) else (none)) else (some true)
def laws_eqIntS.f (k : Nat) (l0 : List Int) (l1 : List Int) : Option (Bool) := if (l0.length : Int) = (l1.length : Int) then (laws_eqIntS.l0 k l0 l1 0) else (some false)
theorem laws_eqIntS.zu : ∀ k, (∀ y0 y1 y2, LeO (laws_eqIntS.l0 k y0 y1 y2) (laws_eqIntS.l0 (k + 1) y0 y1 y2))
 | 0 => fun _ _ _ r h => by simp [laws_eqIntS.l0] at h
 | k + 1 => by
  have ih0 := laws_eqIntS.zu k
  ·intro y0 y1 y2
   unfold laws_eqIntS.l0
   repeat' first
   | (with_reducible exact ih0 _ _ _)
   | (with_reducible exact LeO.refl _)
   | (with_reducible exact LeO.none _)
   | (with_reducible refine LeO.ite ?_ ?_)
   | (with_reducible refine LeO.bind ?_ (fun _ => ?_))
   | exact ih0 _ _ _
   | exact LeO.none _
   | refine LeO.ite ?_ ?_
   | refine LeO.bind ?_ (fun _ => ?_)
theorem laws_eqIntS.mono : ∀ a0 a1 k, LeO (laws_eqIntS.f k a0 a1) (laws_eqIntS.f (k + 1) a0 a1) := by
 intro a0 a1 k
 have ih0 := laws_eqIntS.zu k
 unfold laws_eqIntS.f
 repeat' first
   | (with_reducible exact ih0 _ _ _)
   | (with_reducible exact LeO.refl _)
   | (with_reducible exact LeO.none _)
   | (with_reducible refine LeO.ite ?_ ?_)
   | (with_reducible refine LeO.bind ?_ (fun _ => ?_))
   | exact ih0 _ _ _
   | exact LeO.none _
   | refine LeO.ite ?_ ?_
   | refine LeO.bind ?_ (fun _ => ?_)
set_option maxHeartbeats 8000000 in
set_option maxRecDepth 100000 in
theorem laws_eqIntS.calls (k : Nat) (A0 : Option Addr) (c0 : Nat) (l0 : List Int) (A1 : Option Addr) (c1 : Nat) (l1 : List Int) (r : Bool) (w : World) (hr0 : Kd.C (Kd.int .i64) w A0 l0.length l0) (hc0 : l0.length ≤ c0) (hr1 : Kd.C (Kd.int .i64) w A1 l1.length l1) (hc1 : l1.length ≤ c1) (h : laws_eqIntS.f k l0 l1 = some r) :
  Calls Try.prog 31 #[.slice A0 l0.length c0, .slice A1 l1.length c1] w fun e w' => e = .returned (.bool r) ∧ zl w w' := by
 have HR0 := qd.mk hr0
 have HC0 := qd.mk hc0
 clear hr0 hc0
 have HR1 := qd.mk hr1
 have HC1 := qd.mk hc1
 clear hr1 hc1
 have H : (if (l0.length : Int) = (l1.length : Int) then (laws_eqIntS.l0 k l0 l1 0) else (some false)) = some r := h
 clear h
 by_cases c3 : (l0.length : Int) = (l1.length : Int)
 ·rw [if_pos c3] at H
  have c3b0 : ((l0.length : Int) == (l1.length : Int)) = true := beq_iff_eq.mpr c3
  have c3b1 : ((l0.length : Int) != (l1.length : Int)) = false := bne_eq_false_iff_eq.mpr c3
  have c3b2 : (l0.length == l1.length) = true := by first | simpa using c3 | (simp at c3 ⊢; omega)
  clear c3
  have H' := qd.mk H
  clear H
  go_enter Try.func31, Try.ntmps31
  go_wp2
  repeat (go_quiet (fail); try go_wp2)
  go_loopg [5] k (fun kq v5 w' => ∃ (x5_1 : Int), v5 = .int .i64 x5_1 ∧ qd (laws_eqIntS.l0 kq l0 l1 x5_1 = some r) ∧ qd (kq ≤ k) ∧ zl w w')
  case atStart => exact ⟨(0), (by first | rfl | (simp; done) | (simp [*]; done)), H', ⟨Nat.le_refl _⟩, by repeat (first | exact zl.refl _ | apply zl.step)⟩
  case round =>
   clear H'
   try clear c1
   try clear c3
   try clear c3b0
   try clear c3b1
   try clear c3b2
   obtain ⟨x5_1, rfl, HA, HK1, ⟨m1, rfl⟩⟩ := hrel
   cases gk with
   | zero => exact absurd HA.out (by simp [laws_eqIntS.l0])
   | succ k1 =>
    have H := HA.out
    clear HA
    simp only [laws_eqIntS.l0] at H
    by_cases c4 : x5_1 < (l0.length : Int)
    ·rw [if_pos c4] at H
     have c4b0 : decide (x5_1 < (l0.length : Int)) = true := decide_eq_true c4
     clear c4
     by_cases c5 : 0 ≤ x5_1
     ·rw [if_pos c5] at H
      have c5b0 : decide (0 ≤ x5_1) = true := decide_eq_true c5
      clear c5
      by_cases c6 : x5_1 < (l1.length : Int)
      ·rw [if_pos c6] at H
       have c6b0 : decide (x5_1 < (l1.length : Int)) = true := decide_eq_true c6
       clear c6
       by_cases c7 : (rd l0 x5_1) = (rd l1 x5_1)
       ·rw [if_pos c7] at H
        have c7b0 : ((rd l0 x5_1) == (rd l1 x5_1)) = true := beq_iff_eq.mpr c7
        have c7b1 : ((rd l0 x5_1) != (rd l1 x5_1)) = false := bne_eq_false_iff_eq.mpr c7
        clear c7
        have H' := qd.mk H
        clear H
        have p133 : 0 ≤ (x5_1 : Int) := of_decide_eq_true (by first | (with_reducible assumption) | assumption)
        have q133 : x5_1 < (l0.length : Int) := of_decide_eq_true (by first | (with_reducible assumption) | assumption)
        obtain ⟨ad133, e133, hx133_0⟩ := Kd.jc HR0.out x5_1 p133 q133
        cases e133
        replace p133 := eq_true p133
        replace q133 := eq_true q133
        have p134 : 0 ≤ (x5_1 : Int) := of_decide_eq_true (by first | (with_reducible assumption) | assumption)
        have q134 : x5_1 < (l1.length : Int) := of_decide_eq_true (by first | (with_reducible assumption) | assumption)
        obtain ⟨ad134, e134, hx134_0⟩ := Kd.jc HR1.out x5_1 p134 q134
        cases e134
        replace p134 := eq_true p134
        replace q134 := eq_true q134
        go_wp2
        repeat (go_quiet (fail); try go_wp2)
        go_roundg k1
        case measure => have := HK1.out; omega
        case rel => exact ⟨(wrap64 (x5_1 + 1)), (by first | rfl | (simp; done) | (simp [*]; done)), H', ⟨by have := HK1.out; omega⟩, by repeat (first | exact zl.refl _ | apply zl.step)⟩
       ·rw [if_neg c7] at H
        have c7b0 : ((rd l0 x5_1) == (rd l1 x5_1)) = false := beq_eq_false_iff_ne.mpr c7
        have c7b1 : ((rd l0 x5_1) != (rd l1 x5_1)) = true := bne_iff_ne.mpr c7
        obtain rfl := Option.some.inj H
        have p133 : 0 ≤ (x5_1 : Int) := of_decide_eq_true (by first | (with_reducible assumption) | assumption)
        have q133 : x5_1 < (l0.length : Int) := of_decide_eq_true (by first | (with_reducible assumption) | assumption)
        obtain ⟨ad133, e133, hx133_0⟩ := Kd.jc HR0.out x5_1 p133 q133
        cases e133
        replace p133 := eq_true p133
        replace q133 := eq_true q133
        have p134 : 0 ≤ (x5_1 : Int) := of_decide_eq_true (by first | (with_reducible assumption) | assumption)
        have q134 : x5_1 < (l1.length : Int) := of_decide_eq_true (by first | (with_reducible assumption) | assumption)
        obtain ⟨ad134, e134, hx134_0⟩ := Kd.jc HR1.out x5_1 p134 q134
        cases e134
        replace p134 := eq_true p134
        replace q134 := eq_true q134
        go_wp2
        repeat (go_quiet (fail); try go_wp2)
        go_ret
        exact ⟨by first | rfl | (simp; done) | (simp [*]; done), by repeat (first | exact zl.refl _ | apply zl.step)⟩
      ·rw [if_neg c6] at H
       exact absurd H (by simp)
     ·rw [if_neg c5] at H
      exact absurd H (by simp)
    ·rw [if_neg c4] at H
     have c4b0 : decide (x5_1 < (l0.length : Int)) = false := decide_eq_false c4
     clear c4
     obtain rfl := Option.some.inj H
     go_wp2
     repeat (go_quiet (fail); try go_wp2)
     go_ret
     exact ⟨by first | rfl | (simp; done) | (simp [*]; done), by repeat (first | exact zl.refl _ | apply zl.step)⟩
 ·rw [if_neg c3] at H
  have c3b0 : ((l0.length : Int) == (l1.length : Int)) = false := beq_eq_false_iff_ne.mpr c3
  have c3b1 : ((l0.length : Int) != (l1.length : Int)) = true := bne_iff_ne.mpr c3
  have c3b2 : (l0.length == l1.length) = false := by first | simpa using c3 | (simp at c3 ⊢; omega)
  obtain rfl := Option.some.inj H
  go_enter Try.func31, Try.ntmps31
  go_wp2
  repeat (go_quiet (fail); try go_wp2)
  go_ret
  exact ⟨by first | rfl | (simp; done) | (simp [*]; done), by repeat (first | exact zl.refl _ | apply zl.step)⟩
def spec_avOpen.l0 : Nat → List (S38) → Int → Int → Int → Int → Bool → Int → Int → List (S38) → Option (Int × Int × (List (S38)))
 | 0, _, _, _, _, _, _, _, _, _ => none
 | k + 1, x14, x15, x16, x137000, x137001, x137002, x139000, x139001, x139002 => if x16 < x15 then (if 0 ≤ x16 then (if x16 < (x14.length : Int) then (if (!(((qk x14 x16).f0) == x137000) || (!(((qk x14 x16).f1) == x137001) || (!(((qk x14 x16).f2) == x137002)))) = true then (if x139002.length < 5864062014805 then (spec_avOpen.l0 k x14 x15 (wrap64 (x16 + 1)) x137000 x137001 x137002 x139000 x139001 (x139002 ++ [(⟨(qk x14 x16).f0, (qk x14 x16).f1, (qk x14 x16).f2⟩ : S38)])) else (none)) else (spec_avOpen.l0 k x14 x15 (wrap64 (x16 + 1)) x137000 x137001 x137002 x139000 x139001 x139002)) else (none)) else (none)) else (some (x139000, x139001, x139002))
def spec_avOpen.f (k : Nat) (a0_0 : Int) (a0_1 : Int) (l0_2 : List (S38)) (a1_0 : Int) (a1_1 : Int) (a1_2 : Bool) : Option (Int × Int × (List (S38))) := spec_avOpen.l0 k l0_2 (l0_2.length : Int) 0 a1_0 a1_1 a1_2 a0_0 a0_1 ([] : List (S38))
theorem spec_avOpen.zu : ∀ k, (∀ y0 y1 y2 y3 y4 y5 y6 y7 y8, LeO (spec_avOpen.l0 k y0 y1 y2 y3 y4 y5 y6 y7 y8) (spec_avOpen.l0 (k + 1) y0 y1 y2 y3 y4 y5 y6 y7 y8))
 | 0 => fun _ _ _ _ _ _ _ _ _ r h => by simp [spec_avOpen.l0] at h
 | k + 1 => by
  have ih0 := spec_avOpen.zu k
  ·intro y0 y1 y2 y3 y4 y5 y6 y7 y8
   unfold spec_avOpen.l0
   repeat' first
   | (with_reducible exact ih0 _ _ _ _ _ _ _ _ _)
   | (with_reducible exact LeO.refl _)
   | (with_reducible exact LeO.none _)
   | (with_reducible refine LeO.ite ?_ ?_)
   | (with_reducible refine LeO.bind ?_ (fun _ => ?_))
   | exact ih0 _ _ _ _ _ _ _ _ _
   | exact LeO.none _
   | refine LeO.ite ?_ ?_
   | refine LeO.bind ?_ (fun _ => ?_)
theorem spec_avOpen.mono : ∀ a0 a1 a2 a3 a4 a5 k, LeO (spec_avOpen.f k a0 a1 a2 a3 a4 a5) (spec_avOpen.f (k + 1) a0 a1 a2 a3 a4 a5) := by
 intro a0 a1 a2 a3 a4 a5 k
 have ih0 := spec_avOpen.zu k
 unfold spec_avOpen.f
 repeat' first
   | (with_reducible exact ih0 _ _ _ _ _ _ _ _ _)
   | (with_reducible exact LeO.refl _)
   | (with_reducible exact LeO.none _)
   | (with_reducible refine LeO.ite ?_ ?_)
   | (with_reducible refine LeO.bind ?_ (fun _ => ?_))
   | exact ih0 _ _ _ _ _ _ _ _ _
   | exact LeO.none _
   | refine LeO.ite ?_ ?_
   | refine LeO.bind ?_ (fun _ => ?_)
set_option maxHeartbeats 8000000 in
set_option maxRecDepth 100000 in
theorem spec_avOpen.calls (k : Nat) (a0_0 : Int) (a0_1 : Int) (A0_2 : Option Addr) (c0_2 : Nat) (l0_2 : List (S38)) (a1_0 : Int) (a1_1 : Int) (a1_2 : Bool) (r1 : Int) (r2 : Int) (r3 : List (S38)) (w : World) (hr0_2 : Kd.C k38 w A0_2 l0_2.length l0_2) (hc0_2 : l0_2.length ≤ c0_2) (h : spec_avOpen.f k a0_0 a0_1 l0_2 a1_0 a1_1 a1_2 = some (r1, r2, r3)) :
  Calls Try.prog 73 #[.agg #[.int .i64 a0_0, .int .i64 a0_1, .slice A0_2 l0_2.length c0_2], .agg #[.int .i64 a1_0, .int .i64 a1_1, .bool a1_2]] w fun e w' => ∃ v2_ : Value, e = .returned (.agg #[.int .i64 r1, .int .i64 r2, v2_]) ∧ Kd.R k38 38 w' w.heap.size (fun _ => True) v2_ r3 ∧ Below w.heap.size w w' := by
 have hu30 := Try.underlying30
 have hu38 := Try.underlying38
 have HR0_2 := qd.mk hr0_2
 have HC0_2 := qd.mk hc0_2
 clear hr0_2 hc0_2
 have HB := qd.mk (Below.refl w.heap.size w)
 have H : (spec_avOpen.l0 k l0_2 (l0_2.length : Int) 0 a1_0 a1_1 a1_2 a0_0 a0_1 ([] : List (S38))) = some (r1, r2, r3) := h
 clear h
 have H' := qd.mk H
 clear H
 go_enter Try.func73, Try.ntmps73
 go_wp2_with (first | ((with_reducible refine za (N := 2) rfl ?_); refine qy ?hg (N := 2) ?hd (cs := #[.int .i64 a0_0, .int .i64 a0_1, .slice A0_2 l0_2.length c0_2]) (t := 30) ?hr ?_; (case hd => rfl); (case hg => rfl); (case hr => first | (go_simp; done) | (go_simp; rfl)); intro gb135 hg w3 hbox hb; have n0_ := qd.mk (qn (be0_ HB) hb); have n1_ := qd.mk (hbox); have n2_ := qd.mk ((by rw [hg]; exact (qm (be0_ HB)) : w.heap.size ≤ gb135)); have n3_ := qd.mk ((by rw [hg]; exact (qm (be0_ HB)) : w.heap.size ≤ gb135)); clear HB; have HB := n0_; have BK135 := n1_; have GW135 := n2_; have GE135 := n3_; clear n0_ n1_ n2_ n3_; clear hb hbox hg) | ((with_reducible refine za (N := 3) rfl ?_); refine qy ?hg (N := 3) ?hd (cs := #[.int .i64 a1_0, .int .i64 a1_1, .bool a1_2]) (t := 38) ?hr ?_; (case hd => rfl); (case hg => rfl); (case hr => first | (go_simp; done) | (go_simp; rfl)); intro gb136 hg w4 hbox hb; have n0_ := qd.mk (ql (g := gb135) (o := .cells #[.int .i64 a0_0, .int .i64 a0_1, .slice A0_2 l0_2.length c0_2] 30 (0, 0)) (bk_ BK135) hb); have n1_ := qd.mk (qn (be1_ HB GE135) hb); have n2_ := qd.mk (hbox); have n3_ := qd.mk ((by rw [hg]; exact (qm (be1_ HB GE135)) : w.heap.size ≤ gb136)); have n4_ := qd.mk ((by rw [hg]; exact (qm (be1_ HB GE135)) : w.heap.size ≤ gb136)); have n5_ := qd.mk ((by rw [hg]; exact Nat.ne_of_lt (qr (g := gb135) (o := .cells #[.int .i64 a0_0, .int .i64 a0_1, .slice A0_2 l0_2.length c0_2] 30 (0, 0)) (bk_ BK135)) : gb135 ≠ gb136)); have n6_ := qd.mk ((by rw [hg]; exact Nat.ne_of_gt (qr (g := gb135) (o := .cells #[.int .i64 a0_0, .int .i64 a0_1, .slice A0_2 l0_2.length c0_2] 30 (0, 0)) (bk_ BK135)) : gb136 ≠ gb135)); clear BK135; clear HB; have BK135 := n0_; have HB := n1_; have BK136 := n2_; have GW136 := n3_; have GE136 := n4_; have NB135_136 := n5_; have NB136_135 := n6_; clear n0_ n1_ n2_ n3_ n4_ n5_ n6_; clear hb hbox hg) | ((with_reducible refine za (N := 4) rfl ?_); refine qy ?hg (N := 4) ?hd (cs := #[.int .i64 0, .int .i64 0, .slice none 0 0]) (t := 30) ?hr ?_; (case hd => rfl); (case hg => rfl); (case hr => first | (go_simp; done) | (go_simp; rfl)); intro gb137 hg w5 hbox hb; have n0_ := qd.mk (ql (g := gb135) (o := .cells #[.int .i64 a0_0, .int .i64 a0_1, .slice A0_2 l0_2.length c0_2] 30 (0, 0)) (bk_ BK135) hb); have n1_ := qd.mk (ql (g := gb136) (o := .cells #[.int .i64 a1_0, .int .i64 a1_1, .bool a1_2] 38 (0, 0)) (bk_ BK136) hb); have n2_ := qd.mk (qn (be2_ HB GE135 GE136) hb); have n3_ := qd.mk (hbox); have n4_ := qd.mk ((by rw [hg]; exact (qm (be2_ HB GE135 GE136)) : w.heap.size ≤ gb137)); have n5_ := qd.mk ((by rw [hg]; exact (qm (be2_ HB GE135 GE136)) : w.heap.size ≤ gb137)); have n6_ := qd.mk ((by rw [hg]; exact Nat.ne_of_lt (qr (g := gb135) (o := .cells #[.int .i64 a0_0, .int .i64 a0_1, .slice A0_2 l0_2.length c0_2] 30 (0, 0)) (bk_ BK135)) : gb135 ≠ gb137)); have n7_ := qd.mk ((by rw [hg]; exact Nat.ne_of_gt (qr (g := gb135) (o := .cells #[.int .i64 a0_0, .int .i64 a0_1, .slice A0_2 l0_2.length c0_2] 30 (0, 0)) (bk_ BK135)) : gb137 ≠ gb135)); have n8_ := qd.mk ((by rw [hg]; exact Nat.ne_of_lt (qr (g := gb136) (o := .cells #[.int .i64 a1_0, .int .i64 a1_1, .bool a1_2] 38 (0, 0)) (bk_ BK136)) : gb136 ≠ gb137)); have n9_ := qd.mk ((by rw [hg]; exact Nat.ne_of_gt (qr (g := gb136) (o := .cells #[.int .i64 a1_0, .int .i64 a1_1, .bool a1_2] 38 (0, 0)) (bk_ BK136)) : gb137 ≠ gb136)); clear BK135; clear BK136; clear HB; have BK135 := n0_; have BK136 := n1_; have HB := n2_; have BK137 := n3_; have GW137 := n4_; have GE137 := n5_; have NB135_137 := n6_; have NB137_135 := n7_; have NB136_137 := n8_; have NB137_136 := n9_; clear n0_ n1_ n2_ n3_ n4_ n5_ n6_ n7_ n8_ n9_; clear hb hbox hg; have hnb6 := NB135_136.out; have hnc6 := NB136_135.out; have hnb7 := NB135_137.out; have hnc7 := NB137_135.out; have hcz8_0 : w5.cell? ⟨gb135, 0, none⟩ = some (.int .i64 a0_0) := (qi BK135.out 0).trans rfl; have hcz8_1 : w5.cell? ⟨gb135, 1, none⟩ = some (.int .i64 a0_1) := (qi BK135.out 1).trans rfl; have hcz8_2 : w5.cell? ⟨gb135, 2, none⟩ = some (.slice A0_2 l0_2.length c0_2) := (qi BK135.out 2).trans rfl; have hfz8_0 := qj BK135.out 0; have hfz8_1 := qj BK135.out 1; have hfz8_2 := qj BK135.out 2) | ((with_reducible refine za (N := 5) rfl ?_); refine qy ?hg (N := 5) ?hd (cs := #[.int .i64 0, .int .i64 0, .slice none 0 0]) (t := 30) ?hr ?_; (case hd => rfl); (case hg => rfl); (case hr => first | (go_simp; done) | (go_simp; rfl)); intro gb138 hg w9 hbox hb; have n0_ := qd.mk (ql (g := gb135) (o := .cells #[.int .i64 a0_0, .int .i64 a0_1, .slice A0_2 l0_2.length c0_2] 30 (0, 0)) (bk_ BK135) hb); have n1_ := qd.mk (ql (g := gb136) (o := .cells #[.int .i64 a1_0, .int .i64 a1_1, .bool a1_2] 38 (0, 0)) (bk_ BK136) hb); have n2_ := qd.mk (ql (g := gb137) (o := .cells #[.int .i64 0, .int .i64 0, .slice none 0 0] 30 (0, 0)) (bk_ BK137) hb); have n3_ := qd.mk (qn (be3_ HB GE135 GE136 GE137) hb); have n4_ := qd.mk (hbox); have n5_ := qd.mk ((by rw [hg]; exact (qm (be3_ HB GE135 GE136 GE137)) : w.heap.size ≤ gb138)); have n6_ := qd.mk ((by rw [hg]; exact (qm (be3_ HB GE135 GE136 GE137)) : w.heap.size ≤ gb138)); have n7_ := qd.mk ((by rw [hg]; exact Nat.ne_of_lt (qr (g := gb135) (o := .cells #[.int .i64 a0_0, .int .i64 a0_1, .slice A0_2 l0_2.length c0_2] 30 (0, 0)) (bk_ BK135)) : gb135 ≠ gb138)); have n8_ := qd.mk ((by rw [hg]; exact Nat.ne_of_gt (qr (g := gb135) (o := .cells #[.int .i64 a0_0, .int .i64 a0_1, .slice A0_2 l0_2.length c0_2] 30 (0, 0)) (bk_ BK135)) : gb138 ≠ gb135)); have n9_ := qd.mk ((by rw [hg]; exact Nat.ne_of_lt (qr (g := gb136) (o := .cells #[.int .i64 a1_0, .int .i64 a1_1, .bool a1_2] 38 (0, 0)) (bk_ BK136)) : gb136 ≠ gb138)); have n10_ := qd.mk ((by rw [hg]; exact Nat.ne_of_gt (qr (g := gb136) (o := .cells #[.int .i64 a1_0, .int .i64 a1_1, .bool a1_2] 38 (0, 0)) (bk_ BK136)) : gb138 ≠ gb136)); have n11_ := qd.mk ((by rw [hg]; exact Nat.ne_of_lt (qr (g := gb137) (o := .cells #[.int .i64 0, .int .i64 0, .slice none 0 0] 30 (0, 0)) (bk_ BK137)) : gb137 ≠ gb138)); have n12_ := qd.mk ((by rw [hg]; exact Nat.ne_of_gt (qr (g := gb137) (o := .cells #[.int .i64 0, .int .i64 0, .slice none 0 0] 30 (0, 0)) (bk_ BK137)) : gb138 ≠ gb137)); clear BK135; clear BK136; clear BK137; clear HB; have BK135 := n0_; have BK136 := n1_; have BK137 := n2_; have HB := n3_; have BK138 := n4_; have GW138 := n5_; have GE138 := n6_; have NB135_138 := n7_; have NB138_135 := n8_; have NB136_138 := n9_; have NB138_136 := n10_; have NB137_138 := n11_; have NB138_137 := n12_; clear n0_ n1_ n2_ n3_ n4_ n5_ n6_ n7_ n8_ n9_ n10_ n11_ n12_; clear hb hbox hg; have hnb10 := NB138_135.out; have hnc10 := NB135_138.out; have hnb11 := NB138_136.out; have hnc11 := NB136_138.out; have hnb12 := NB138_137.out; have hnc12 := NB137_138.out; have hcz13_0 : w9.cell? ⟨gb138, 0, none⟩ = some (.int .i64 0) := (qi BK138.out 0).trans rfl; have hcz13_1 : w9.cell? ⟨gb138, 1, none⟩ = some (.int .i64 0) := (qi BK138.out 1).trans rfl; have hcz13_2 : w9.cell? ⟨gb138, 2, none⟩ = some (.slice none 0 0) := (qi BK138.out 2).trans rfl; have hfz13_0 := qj BK138.out 0; have hfz13_1 := qj BK138.out 1; have hfz13_2 := qj BK138.out 2; have hcz14_0 : w9.cell? ⟨gb135, 0, none⟩ = some (.int .i64 a0_0) := (qi BK135.out 0).trans rfl; have hcz14_1 : w9.cell? ⟨gb135, 1, none⟩ = some (.int .i64 a0_1) := (qi BK135.out 1).trans rfl; have hcz14_2 : w9.cell? ⟨gb135, 2, none⟩ = some (.slice A0_2 l0_2.length c0_2) := (qi BK135.out 2).trans rfl; have hfz14_0 := qj BK135.out 0; have hfz14_1 := qj BK135.out 1; have hfz14_2 := qj BK135.out 2))
 go_loopg [16] k (fun kq v16 w' => ∃ (x16_1 : Int) (x139002_1 : List (S38)) (u139002 : Value), v16 = .int .i64 x16_1 ∧ qd (spec_avOpen.l0 kq l0_2 (l0_2.length : Int) x16_1 a1_0 a1_1 a1_2 a0_0 a0_1 x139002_1 = some (r1, r2, r3)) ∧ qd (kq ≤ k) ∧ qd (Kd.R k38 38 w' w.heap.size (fun k_ => k_ ≠ gb136) u139002 x139002_1) ∧ qd (w'.heap[gb135]? = some (.cells #[.int .i64 a0_0, .int .i64 a0_1, (.slice A0_2 l0_2.length c0_2)] 30 (0, 0))) ∧ qd (w'.heap[gb136]? = some (.cells #[.int .i64 a1_0, .int .i64 a1_1, .bool a1_2] 38 (0, 0))) ∧ qd (w'.heap[gb137]? = some (.cells #[.int .i64 0, .int .i64 0, (.slice none 0 0)] 30 (0, 0))) ∧ qd (w'.heap[gb138]? = some (.cells #[.int .i64 a0_0, .int .i64 a0_1, u139002] 30 (0, 0))) ∧ qd (Below w.heap.size w w'))
 case atStart => exact ⟨(0), (([] : List (S38))), (.slice none 0 0), (by first | rfl | (simp; done) | (simp [*]; done)), H', ⟨Nat.le_refl _⟩, ⟨by first | exact Kd.R_nil _ _ _ _ _ | exact Kd.N_nil _ _ _ _ _ | exact Kd.V_nil _ _ _ _ _ | exact Kd.Q_nil _ _ _ _ _ | exact Kd.S_nil _ _ _ _ _⟩, ⟨by (with_reducible repeat (first | refine qc ?_ _ | refine qe ?_ | refine qb ?_ _)); refine qo ?_ NB135_138.out _; (with_reducible repeat (first | refine qc ?_ _ | refine qe ?_ | refine qb ?_ _)); refine qo ?_ NB135_138.out _; (with_reducible repeat (first | refine qc ?_ _ | refine qe ?_ | refine qb ?_ _)); refine qo ?_ NB135_138.out _; (with_reducible repeat (first | refine qc ?_ _ | refine qe ?_ | refine qb ?_ _)); exact BK135.out⟩, ⟨by (with_reducible repeat (first | refine qc ?_ _ | refine qe ?_ | refine qb ?_ _)); refine qo ?_ NB136_138.out _; (with_reducible repeat (first | refine qc ?_ _ | refine qe ?_ | refine qb ?_ _)); refine qo ?_ NB136_138.out _; (with_reducible repeat (first | refine qc ?_ _ | refine qe ?_ | refine qb ?_ _)); refine qo ?_ NB136_138.out _; (with_reducible repeat (first | refine qc ?_ _ | refine qe ?_ | refine qb ?_ _)); exact BK136.out⟩, ⟨by (with_reducible repeat (first | refine qc ?_ _ | refine qe ?_ | refine qb ?_ _)); refine qo ?_ NB137_138.out _; (with_reducible repeat (first | refine qc ?_ _ | refine qe ?_ | refine qb ?_ _)); refine qo ?_ NB137_138.out _; (with_reducible repeat (first | refine qc ?_ _ | refine qe ?_ | refine qb ?_ _)); refine qo ?_ NB137_138.out _; (with_reducible repeat (first | refine qc ?_ _ | refine qe ?_ | refine qb ?_ _)); exact BK137.out⟩, ⟨by (with_reducible repeat (first | refine qc ?_ _ | refine qe ?_ | refine qb ?_ _)); refine qv (cs := #[.int .i64 a0_0, .int .i64 a0_1, .slice none 0 0]) ?_ 2 _ rfl; (with_reducible repeat (first | refine qc ?_ _ | refine qe ?_ | refine qb ?_ _)); refine qv (cs := #[.int .i64 a0_0, .int .i64 0, .slice none 0 0]) ?_ 1 _ rfl; (with_reducible repeat (first | refine qc ?_ _ | refine qe ?_ | refine qb ?_ _)); refine qv (cs := #[.int .i64 0, .int .i64 0, .slice none 0 0]) ?_ 0 _ rfl; (with_reducible repeat (first | refine qc ?_ _ | refine qe ?_ | refine qb ?_ _)); exact BK138.out⟩, ⟨be4_ HB GE135 GE136 GE137 GE138⟩⟩
 case round =>
  clear H'
  try clear hcz13_0
  try clear hcz13_1
  try clear hcz13_2
  try clear hcz14_0
  try clear hcz14_1
  try clear hcz14_2
  try clear hcz8_0
  try clear hcz8_1
  try clear hcz8_2
  try clear hfz13_0
  try clear hfz13_1
  try clear hfz13_2
  try clear hfz14_0
  try clear hfz14_1
  try clear hfz14_2
  try clear hfz8_0
  try clear hfz8_1
  try clear hfz8_2
  obtain ⟨x16_1, x139002_1, u139002, rfl, HA, HK1, HO_139002, BK135, BK136, BK137, BK138, HB⟩ := hrel
  cases gk with
  | zero => exact absurd HA.out (by simp [spec_avOpen.l0])
  | succ k1 =>
   have H := HA.out
   clear HA
   simp only [spec_avOpen.l0] at H
   by_cases c15 : x16_1 < (l0_2.length : Int)
   ·rw [if_pos c15] at H
    have c15b0 : decide (x16_1 < (l0_2.length : Int)) = true := decide_eq_true c15
    clear c15
    by_cases c16 : 0 ≤ x16_1
    ·rw [if_pos c16] at H
     have c16b0 : decide (0 ≤ x16_1) = true := decide_eq_true c16
     clear c16
     by_cases c17 : x16_1 < (l0_2.length : Int)
     ·rw [if_pos c17] at H
      have c17b0 : decide (x16_1 < (l0_2.length : Int)) = true := decide_eq_true c17
      clear c17
      by_cases c18 : (!(((qk l0_2 x16_1).f0) == a1_0) || (!(((qk l0_2 x16_1).f1) == a1_1) || (!(((qk l0_2 x16_1).f2) == a1_2)))) = true
      ·rw [if_pos c18] at H
       have c18b0 : (!(((qk l0_2 x16_1).f0) == a1_0) || (!(((qk l0_2 x16_1).f1) == a1_1) || (!(((qk l0_2 x16_1).f2) == a1_2)))) = true := c18
       clear c18
       by_cases c19 : x139002_1.length < 5864062014805
       ·rw [if_pos c19] at H
        have LMc19 := qd.mk c19
        clear c19
        obtain ⟨y141, hy141⟩ : ∃ y_ : List (S38), y_ = (x139002_1 ++ [(⟨(qk l0_2 x16_1).f0, (qk l0_2 x16_1).f1, (qk l0_2 x16_1).f2⟩ : S38)]) := ⟨_, rfl⟩
        replace H : (spec_avOpen.l0 k1 l0_2 (l0_2.length : Int) (wrap64 (x16_1 + 1)) a1_0 a1_1 a1_2 a0_0 a0_1 y141) = some (r1, r2, r3) := by first | (rw [hy141]; with_reducible exact H) | (have H2_ := (Option.bind_some _ _).symm.trans H; rw [hy141]; with_reducible exact H2_) | (have H2_ := (Option.bind_some _ _).symm.trans H; with_reducible exact H2_) | with_reducible exact H | (rw [hy141]; exact H) | exact H
        have Ny141 := qd.mk hy141
        clear hy141
        have H' := qd.mk H
        clear H
        have p139 : 0 ≤ (x16_1 : Int) := of_decide_eq_true (by first | (with_reducible assumption) | assumption)
        have q139 : x16_1 < (l0_2.length : Int) := of_decide_eq_true (by first | (with_reducible assumption) | assumption)
        obtain ⟨ad139, e139, hx139_0, hx139_1, hx139_2⟩ := jd HR0_2.out x16_1 p139 q139
        cases e139
        replace hx139_0 := (HB.out.cell (World.block_lt_of_cell? w _ hx139_0)).trans hx139_0
        replace hx139_1 := (HB.out.cell (World.block_lt_of_cell? w _ hx139_1)).trans hx139_1
        replace hx139_2 := (HB.out.cell (World.block_lt_of_cell? w _ hx139_2)).trans hx139_2
        replace p139 := eq_true p139
        replace q139 := eq_true q139
        go_wp2_with (first | ((with_reducible refine za (N := 7) rfl ?_); refine qy ?hg (N := 7) ?hd (cs := #[.int .i64 0, .int .i64 0, .bool false]) (t := 38) ?hr ?_; (case hd => rfl); (case hg => rfl); (case hr => first | (go_simp; done) | (go_simp; rfl)); intro gb140 hg w20 hbox hb; have n0_ := qd.mk (Kd.zc (Kd.R_elderB (kr_ HO_139002) gb140 (Nat.le_of_eq hg.symm)) hb); have n1_ := qd.mk (ql (g := gb135) (o := .cells #[.int .i64 a0_0, .int .i64 a0_1, .slice (some ad139) l0_2.length c0_2] 30 (0, 0)) (bk_ BK135) hb); have n2_ := qd.mk (ql (g := gb136) (o := .cells #[.int .i64 a1_0, .int .i64 a1_1, .bool a1_2] 38 (0, 0)) (bk_ BK136) hb); have n3_ := qd.mk (ql (g := gb137) (o := .cells #[.int .i64 0, .int .i64 0, .slice none 0 0] 30 (0, 0)) (bk_ BK137) hb); have n4_ := qd.mk (ql (g := gb138) (o := .cells #[.int .i64 a0_0, .int .i64 a0_1, u139002] 30 (0, 0)) (bk_ BK138) hb); have n5_ := qd.mk (qn (be4_ HB GE135 GE136 GE137 GE138) hb); have n6_ := qd.mk (hbox); have n7_ := qd.mk ((by rw [hg]; exact (qm (be4_ HB GE135 GE136 GE137 GE138)) : w.heap.size ≤ gb140)); have n8_ := qd.mk ((by rw [hg]; exact (qm (be4_ HB GE135 GE136 GE137 GE138)) : w.heap.size ≤ gb140)); have n9_ := qd.mk ((by rw [hg]; exact Nat.ne_of_lt (qr (g := gb135) (o := .cells #[.int .i64 a0_0, .int .i64 a0_1, .slice (some ad139) l0_2.length c0_2] 30 (0, 0)) (bk_ BK135)) : gb135 ≠ gb140)); have n10_ := qd.mk ((by rw [hg]; exact Nat.ne_of_gt (qr (g := gb135) (o := .cells #[.int .i64 a0_0, .int .i64 a0_1, .slice (some ad139) l0_2.length c0_2] 30 (0, 0)) (bk_ BK135)) : gb140 ≠ gb135)); have n11_ := qd.mk ((by rw [hg]; exact Nat.ne_of_lt (qr (g := gb136) (o := .cells #[.int .i64 a1_0, .int .i64 a1_1, .bool a1_2] 38 (0, 0)) (bk_ BK136)) : gb136 ≠ gb140)); have n12_ := qd.mk ((by rw [hg]; exact Nat.ne_of_gt (qr (g := gb136) (o := .cells #[.int .i64 a1_0, .int .i64 a1_1, .bool a1_2] 38 (0, 0)) (bk_ BK136)) : gb140 ≠ gb136)); have n13_ := qd.mk ((by rw [hg]; exact Nat.ne_of_lt (qr (g := gb137) (o := .cells #[.int .i64 0, .int .i64 0, .slice none 0 0] 30 (0, 0)) (bk_ BK137)) : gb137 ≠ gb140)); have n14_ := qd.mk ((by rw [hg]; exact Nat.ne_of_gt (qr (g := gb137) (o := .cells #[.int .i64 0, .int .i64 0, .slice none 0 0] 30 (0, 0)) (bk_ BK137)) : gb140 ≠ gb137)); have n15_ := qd.mk ((by rw [hg]; exact Nat.ne_of_lt (qr (g := gb138) (o := .cells #[.int .i64 a0_0, .int .i64 a0_1, u139002] 30 (0, 0)) (bk_ BK138)) : gb138 ≠ gb140)); have n16_ := qd.mk ((by rw [hg]; exact Nat.ne_of_gt (qr (g := gb138) (o := .cells #[.int .i64 a0_0, .int .i64 a0_1, u139002] 30 (0, 0)) (bk_ BK138)) : gb140 ≠ gb138)); clear HO_139002; clear BK135; clear BK136; clear BK137; clear BK138; clear HB; have HO_139002 := n0_; have BK135 := n1_; have BK136 := n2_; have BK137 := n3_; have BK138 := n4_; have HB := n5_; have BK140 := n6_; have GW140 := n7_; have GE140 := n8_; have NB135_140 := n9_; have NB140_135 := n10_; have NB136_140 := n11_; have NB140_136 := n12_; have NB137_140 := n13_; have NB140_137 := n14_; have NB138_140 := n15_; have NB140_138 := n16_; clear n0_ n1_ n2_ n3_ n4_ n5_ n6_ n7_ n8_ n9_ n10_ n11_ n12_ n13_ n14_ n15_ n16_; clear hb hbox hg; have hnb21 := NB140_135.out; have hnc21 := NB135_140.out; have hnb22 := NB140_136.out; have hnc22 := NB136_140.out; have hnb23 := NB140_137.out; have hnc23 := NB137_140.out; have hnb24 := NB140_138.out; have hnc24 := NB138_140.out; have hcz25_0 : w20.cell? ⟨gb140, 0, none⟩ = some (.int .i64 0) := (qi BK140.out 0).trans rfl; have hcz25_1 : w20.cell? ⟨gb140, 1, none⟩ = some (.int .i64 0) := (qi BK140.out 1).trans rfl; have hcz25_2 : w20.cell? ⟨gb140, 2, none⟩ = some (.bool false) := (qi BK140.out 2).trans rfl; have hfz25_0 := qj BK140.out 0; have hfz25_1 := qj BK140.out 1; have hfz25_2 := qj BK140.out 2; have hnb26 := NB136_135.out; have hnc26 := NB135_136.out; have hnb27 := NB136_137.out; have hnc27 := NB137_136.out; have hnb28 := NB136_138.out; have hnc28 := NB138_136.out; have hcz29_0 : w20.cell? ⟨gb136, 0, none⟩ = some (.int .i64 a1_0) := (qi BK136.out 0).trans rfl; have hcz29_1 : w20.cell? ⟨gb136, 1, none⟩ = some (.int .i64 a1_1) := (qi BK136.out 1).trans rfl; have hcz29_2 : w20.cell? ⟨gb136, 2, none⟩ = some (.bool a1_2) := (qi BK136.out 2).trans rfl; have hfz29_0 := qj BK136.out 0; have hfz29_1 := qj BK136.out 1; have hfz29_2 := qj BK136.out 2; have hnb30 := NB138_135.out; have hnc30 := NB135_138.out; have hnb31 := NB138_137.out; have hnc31 := NB137_138.out; have hcz32_0 : w20.cell? ⟨gb138, 0, none⟩ = some (.int .i64 a0_0) := (qi BK138.out 0).trans rfl; have hcz32_1 : w20.cell? ⟨gb138, 1, none⟩ = some (.int .i64 a0_1) := (qi BK138.out 1).trans rfl; have hcz32_2 : w20.cell? ⟨gb138, 2, none⟩ = some (u139002) := (qi BK138.out 2).trans rfl; have hfz32_0 := qj BK138.out 0; have hfz32_1 := qj BK138.out 1; have hfz32_2 := qj BK138.out 2) | ((with_reducible refine gate_builtin (b := .append) (xs := #[.tmp 24, .tmp 26]) rfl ?_); at_builtin; refine Kd.R_append k38 (w0 := w) w.heap.size rfl (.tmp 24) (.tmp 26) 28 38 (.agg #[(.int .i64 0), (.int .i64 0), (.bool false)]) 24 rfl Try.underlying28 info38 rfl (by decide) (by omega) u139002 x139002_1 (⟨(qk l0_2 x16_1).f0, (qk l0_2 x16_1).f1, (qk l0_2 x16_1).f2⟩ : S38) [.int .i64 ((qk l0_2 x16_1).f0), .int .i64 ((qk l0_2 x16_1).f1), .bool ((qk l0_2 x16_1).f2)] (fun k_ => k_ ≠ gb136 ∧ k_ ≠ gb140) (fun _ => False) rfl (by first | (go_simp; done) | (go_simp; rfl)) ?aP (fun _ hk => hk.elim) ?aF ?aO ?aB ?aS ?aL ?_; (case aP => exact k38_mkM _ _ _ (⟨(qk l0_2 x16_1).f0, (qk l0_2 x16_1).f1, (qk l0_2 x16_1).f2⟩ : S38)); (case aB => exact (by repeat (first | (with_reducible first | exact HB.out | apply qg | apply qa | apply qh | refine qf ?_ GE135.out | refine qf ?_ GE136.out | refine qf ?_ GE137.out | refine qf ?_ GE138.out | refine qf ?_ GE140.out) | exact HB.out))); (case aF => exact (fun k_ hk => ⟨Kd.freshB (g := gb136) (o := .cells #[.int .i64 a1_0, .int .i64 a1_1, .bool a1_2] 38 (0, 0)) (by (with_reducible repeat (first | refine qc ?_ _ | refine qe ?_ | refine qb ?_ _)); refine qo ?_ NB136_140.out _; (with_reducible repeat (first | refine qc ?_ _ | refine qe ?_ | refine qb ?_ _)); refine qo ?_ NB136_140.out _; (with_reducible repeat (first | refine qc ?_ _ | refine qe ?_ | refine qb ?_ _)); refine qo ?_ NB136_140.out _; (with_reducible repeat (first | refine qc ?_ _ | refine qe ?_ | refine qb ?_ _)); exact BK136.out) k_ hk, Kd.freshB (g := gb140) (o := .cells #[.int .i64 ((qk l0_2 x16_1).f0), .int .i64 ((qk l0_2 x16_1).f1), .bool ((qk l0_2 x16_1).f2)] 38 (0, 0)) (by (with_reducible repeat (first | refine qc ?_ _ | refine qe ?_ | refine qb ?_ _)); refine qv (cs := #[.int .i64 ((qk l0_2 x16_1).f0), .int .i64 ((qk l0_2 x16_1).f1), .bool false]) ?_ 2 _ rfl; (with_reducible repeat (first | refine qc ?_ _ | refine qe ?_ | refine qb ?_ _)); refine qv (cs := #[.int .i64 ((qk l0_2 x16_1).f0), .int .i64 0, .bool false]) ?_ 1 _ rfl; (with_reducible repeat (first | refine qc ?_ _ | refine qe ?_ | refine qb ?_ _)); refine qv (cs := #[.int .i64 0, .int .i64 0, .bool false]) ?_ 0 _ rfl; (with_reducible repeat (first | refine qc ?_ _ | refine qe ?_ | refine qb ?_ _)); exact BK140.out) k_ hk⟩)); (case aO => exact (by (with_reducible repeat (first | apply Kd.qt | apply Kd.qu | apply Kd.qx)); exact Kd.zm (Kd.R_far (p := ⟨gb140, 2, none⟩) (Kd.R_far (p := ⟨gb140, 1, none⟩) (Kd.R_far (p := ⟨gb140, 0, none⟩) (Kd.zm HO_139002.out (fun k_ hk => (⟨hk, hk.2⟩ : _ ∧ k_ ≠ gb140))) (fun _ hk => hk.2) (.int .i64 ((qk l0_2 x16_1).f0))) (fun _ hk => hk.2) (.int .i64 ((qk l0_2 x16_1).f1))) (fun _ hk => hk.2) (.bool ((qk l0_2 x16_1).f2))) (fun _ hk => ⟨hk.1.1, hk.1.2⟩))); (case aS => exact (qm (by repeat (first | (with_reducible first | exact HB.out | apply qg | apply qa | apply qh | refine qf ?_ GE135.out | refine qf ?_ GE136.out | refine qf ?_ GE137.out | refine qf ?_ GE138.out | refine qf ?_ GE140.out) | exact HB.out)))); (case aL => have := LMc19.out; omega); intro v142 w33 ho hb hg hat; rw [← Ny141.out] at ho; have n0_ := qd.mk (blk_grown (g := gb135) (o := .cells #[.int .i64 a0_0, .int .i64 a0_1, .slice (some ad139) l0_2.length c0_2] 30 (0, 0)) (by (with_reducible repeat (first | refine qc ?_ _ | refine qe ?_ | refine qb ?_ _)); refine qo ?_ NB135_140.out _; (with_reducible repeat (first | refine qc ?_ _ | refine qe ?_ | refine qb ?_ _)); refine qo ?_ NB135_140.out _; (with_reducible repeat (first | refine qc ?_ _ | refine qe ?_ | refine qb ?_ _)); refine qo ?_ NB135_140.out _; (with_reducible repeat (first | refine qc ?_ _ | refine qe ?_ | refine qb ?_ _)); exact BK135.out) hg (Kd.R_ne HO_139002.out BK135.out (by decide))); have n1_ := qd.mk (blk_grown (g := gb136) (o := .cells #[.int .i64 a1_0, .int .i64 a1_1, .bool a1_2] 38 (0, 0)) (by (with_reducible repeat (first | refine qc ?_ _ | refine qe ?_ | refine qb ?_ _)); refine qo ?_ NB136_140.out _; (with_reducible repeat (first | refine qc ?_ _ | refine qe ?_ | refine qb ?_ _)); refine qo ?_ NB136_140.out _; (with_reducible repeat (first | refine qc ?_ _ | refine qe ?_ | refine qb ?_ _)); refine qo ?_ NB136_140.out _; (with_reducible repeat (first | refine qc ?_ _ | refine qe ?_ | refine qb ?_ _)); exact BK136.out) hg (Kd.R_away HO_139002.out (fun _ hk => hk.1))); have n2_ := qd.mk (blk_grown (g := gb137) (o := .cells #[.int .i64 0, .int .i64 0, .slice none 0 0] 30 (0, 0)) (by (with_reducible repeat (first | refine qc ?_ _ | refine qe ?_ | refine qb ?_ _)); refine qo ?_ NB137_140.out _; (with_reducible repeat (first | refine qc ?_ _ | refine qe ?_ | refine qb ?_ _)); refine qo ?_ NB137_140.out _; (with_reducible repeat (first | refine qc ?_ _ | refine qe ?_ | refine qb ?_ _)); refine qo ?_ NB137_140.out _; (with_reducible repeat (first | refine qc ?_ _ | refine qe ?_ | refine qb ?_ _)); exact BK137.out) hg (Kd.R_ne HO_139002.out BK137.out (by decide))); have n3_ := qd.mk (blk_grown (g := gb138) (o := .cells #[.int .i64 a0_0, .int .i64 a0_1, u139002] 30 (0, 0)) (by (with_reducible repeat (first | refine qc ?_ _ | refine qe ?_ | refine qb ?_ _)); refine qo ?_ NB138_140.out _; (with_reducible repeat (first | refine qc ?_ _ | refine qe ?_ | refine qb ?_ _)); refine qo ?_ NB138_140.out _; (with_reducible repeat (first | refine qc ?_ _ | refine qe ?_ | refine qb ?_ _)); refine qo ?_ NB138_140.out _; (with_reducible repeat (first | refine qc ?_ _ | refine qe ?_ | refine qb ?_ _)); exact BK138.out) hg (Kd.R_ne HO_139002.out BK138.out (by decide))); have n4_ := qd.mk (blk_grown (g := gb140) (o := .cells #[.int .i64 ((qk l0_2 x16_1).f0), .int .i64 ((qk l0_2 x16_1).f1), .bool ((qk l0_2 x16_1).f2)] 38 (0, 0)) (by (with_reducible repeat (first | refine qc ?_ _ | refine qe ?_ | refine qb ?_ _)); refine qv (cs := #[.int .i64 ((qk l0_2 x16_1).f0), .int .i64 ((qk l0_2 x16_1).f1), .bool false]) ?_ 2 _ rfl; (with_reducible repeat (first | refine qc ?_ _ | refine qe ?_ | refine qb ?_ _)); refine qv (cs := #[.int .i64 ((qk l0_2 x16_1).f0), .int .i64 0, .bool false]) ?_ 1 _ rfl; (with_reducible repeat (first | refine qc ?_ _ | refine qe ?_ | refine qb ?_ _)); refine qv (cs := #[.int .i64 0, .int .i64 0, .bool false]) ?_ 0 _ rfl; (with_reducible repeat (first | refine qc ?_ _ | refine qe ?_ | refine qb ?_ _)); exact BK140.out) hg (Kd.R_away HO_139002.out (fun _ hk => hk.2))); have n5_ := qd.mk (hb); have n6_ := qd.mk (ho); clear BK135; clear BK136; clear BK137; clear BK138; clear BK140; clear HB; clear HO_139002; have BK135 := n0_; have BK136 := n1_; have BK137 := n2_; have BK138 := n3_; have BK140 := n4_; have HB := n5_; have HO143 := n6_; clear n0_ n1_ n2_ n3_ n4_ n5_ n6_; clear ho hb hg hat; obtain ⟨Ao34, co34, eo34⟩ := Kd.zr HO143.out; subst eo34; have hcz35_0 : w33.cell? ⟨gb138, 0, none⟩ = some (.int .i64 a0_0) := (qi BK138.out 0).trans rfl; have hcz35_1 : w33.cell? ⟨gb138, 1, none⟩ = some (.int .i64 a0_1) := (qi BK138.out 1).trans rfl; have hcz35_2 : w33.cell? ⟨gb138, 2, none⟩ = some (u139002) := (qi BK138.out 2).trans rfl; have hfz35_0 := qj BK138.out 0; have hfz35_1 := qj BK138.out 1; have hfz35_2 := qj BK138.out 2))
        go_roundg k1
        case measure => have := HK1.out; omega
        case rel => exact ⟨(wrap64 (x16_1 + 1)), (y141), (.slice Ao34 y141.length co34), (by first | rfl | (simp; done) | (simp [*]; done)), H', ⟨by have := HK1.out; omega⟩, ⟨by (with_reducible repeat (first | apply Kd.qt | apply Kd.qu | apply Kd.qx)); exact Kd.zm (Kd.R_far (p := ⟨gb138, 2, none⟩) (Kd.zz HO143.out BK138.out (by decide)) (fun _ hk => hk.2) (.slice Ao34 y141.length co34)) (fun _ hk => hk.1.1)⟩, ⟨by (with_reducible repeat (first | refine qc ?_ _ | refine qe ?_ | refine qb ?_ _)); refine qo ?_ NB135_138.out _; (with_reducible repeat (first | refine qc ?_ _ | refine qe ?_ | refine qb ?_ _)); exact BK135.out⟩, ⟨by (with_reducible repeat (first | refine qc ?_ _ | refine qe ?_ | refine qb ?_ _)); refine qo ?_ NB136_138.out _; (with_reducible repeat (first | refine qc ?_ _ | refine qe ?_ | refine qb ?_ _)); exact BK136.out⟩, ⟨by (with_reducible repeat (first | refine qc ?_ _ | refine qe ?_ | refine qb ?_ _)); refine qo ?_ NB137_138.out _; (with_reducible repeat (first | refine qc ?_ _ | refine qe ?_ | refine qb ?_ _)); exact BK137.out⟩, ⟨by (with_reducible repeat (first | refine qc ?_ _ | refine qe ?_ | refine qb ?_ _)); refine qv (cs := #[.int .i64 a0_0, .int .i64 a0_1, u139002]) ?_ 2 _ rfl; (with_reducible repeat (first | refine qc ?_ _ | refine qe ?_ | refine qb ?_ _)); exact BK138.out⟩, ⟨by repeat (first | (with_reducible first | exact HB.out | apply qg | apply qa | apply qh | refine qf ?_ GE135.out | refine qf ?_ GE136.out | refine qf ?_ GE137.out | refine qf ?_ GE138.out | refine qf ?_ GE140.out) | exact HB.out)⟩⟩
       ·rw [if_neg c19] at H
        exact absurd H (by simp)
      ·rw [if_neg c18] at H
       have c18b0 : (!(((qk l0_2 x16_1).f0) == a1_0) || (!(((qk l0_2 x16_1).f1) == a1_1) || (!(((qk l0_2 x16_1).f2) == a1_2)))) = false := by simpa using c18
       clear c18
       have H' := qd.mk H
       clear H
       have p139 : 0 ≤ (x16_1 : Int) := of_decide_eq_true (by first | (with_reducible assumption) | assumption)
       have q139 : x16_1 < (l0_2.length : Int) := of_decide_eq_true (by first | (with_reducible assumption) | assumption)
       obtain ⟨ad139, e139, hx139_0, hx139_1, hx139_2⟩ := jd HR0_2.out x16_1 p139 q139
       cases e139
       replace hx139_0 := (HB.out.cell (World.block_lt_of_cell? w _ hx139_0)).trans hx139_0
       replace hx139_1 := (HB.out.cell (World.block_lt_of_cell? w _ hx139_1)).trans hx139_1
       replace hx139_2 := (HB.out.cell (World.block_lt_of_cell? w _ hx139_2)).trans hx139_2
       replace p139 := eq_true p139
       replace q139 := eq_true q139
       go_wp2_with (first | ((with_reducible refine za (N := 7) rfl ?_); refine qy ?hg (N := 7) ?hd (cs := #[.int .i64 0, .int .i64 0, .bool false]) (t := 38) ?hr ?_; (case hd => rfl); (case hg => rfl); (case hr => first | (go_simp; done) | (go_simp; rfl)); intro gb140 hg w36 hbox hb; have n0_ := qd.mk (Kd.zc (Kd.R_elderB (kr_ HO_139002) gb140 (Nat.le_of_eq hg.symm)) hb); have n1_ := qd.mk (ql (g := gb135) (o := .cells #[.int .i64 a0_0, .int .i64 a0_1, .slice (some ad139) l0_2.length c0_2] 30 (0, 0)) (bk_ BK135) hb); have n2_ := qd.mk (ql (g := gb136) (o := .cells #[.int .i64 a1_0, .int .i64 a1_1, .bool a1_2] 38 (0, 0)) (bk_ BK136) hb); have n3_ := qd.mk (ql (g := gb137) (o := .cells #[.int .i64 0, .int .i64 0, .slice none 0 0] 30 (0, 0)) (bk_ BK137) hb); have n4_ := qd.mk (ql (g := gb138) (o := .cells #[.int .i64 a0_0, .int .i64 a0_1, u139002] 30 (0, 0)) (bk_ BK138) hb); have n5_ := qd.mk (qn (be4_ HB GE135 GE136 GE137 GE138) hb); have n6_ := qd.mk (hbox); have n7_ := qd.mk ((by rw [hg]; exact (qm (be4_ HB GE135 GE136 GE137 GE138)) : w.heap.size ≤ gb140)); have n8_ := qd.mk ((by rw [hg]; exact (qm (be4_ HB GE135 GE136 GE137 GE138)) : w.heap.size ≤ gb140)); have n9_ := qd.mk ((by rw [hg]; exact Nat.ne_of_lt (qr (g := gb135) (o := .cells #[.int .i64 a0_0, .int .i64 a0_1, .slice (some ad139) l0_2.length c0_2] 30 (0, 0)) (bk_ BK135)) : gb135 ≠ gb140)); have n10_ := qd.mk ((by rw [hg]; exact Nat.ne_of_gt (qr (g := gb135) (o := .cells #[.int .i64 a0_0, .int .i64 a0_1, .slice (some ad139) l0_2.length c0_2] 30 (0, 0)) (bk_ BK135)) : gb140 ≠ gb135)); have n11_ := qd.mk ((by rw [hg]; exact Nat.ne_of_lt (qr (g := gb136) (o := .cells #[.int .i64 a1_0, .int .i64 a1_1, .bool a1_2] 38 (0, 0)) (bk_ BK136)) : gb136 ≠ gb140)); have n12_ := qd.mk ((by rw [hg]; exact Nat.ne_of_gt (qr (g := gb136) (o := .cells #[.int .i64 a1_0, .int .i64 a1_1, .bool a1_2] 38 (0, 0)) (bk_ BK136)) : gb140 ≠ gb136)); have n13_ := qd.mk ((by rw [hg]; exact Nat.ne_of_lt (qr (g := gb137) (o := .cells #[.int .i64 0, .int .i64 0, .slice none 0 0] 30 (0, 0)) (bk_ BK137)) : gb137 ≠ gb140)); have n14_ := qd.mk ((by rw [hg]; exact Nat.ne_of_gt (qr (g := gb137) (o := .cells #[.int .i64 0, .int .i64 0, .slice none 0 0] 30 (0, 0)) (bk_ BK137)) : gb140 ≠ gb137)); have n15_ := qd.mk ((by rw [hg]; exact Nat.ne_of_lt (qr (g := gb138) (o := .cells #[.int .i64 a0_0, .int .i64 a0_1, u139002] 30 (0, 0)) (bk_ BK138)) : gb138 ≠ gb140)); have n16_ := qd.mk ((by rw [hg]; exact Nat.ne_of_gt (qr (g := gb138) (o := .cells #[.int .i64 a0_0, .int .i64 a0_1, u139002] 30 (0, 0)) (bk_ BK138)) : gb140 ≠ gb138)); clear HO_139002; clear BK135; clear BK136; clear BK137; clear BK138; clear HB; have HO_139002 := n0_; have BK135 := n1_; have BK136 := n2_; have BK137 := n3_; have BK138 := n4_; have HB := n5_; have BK140 := n6_; have GW140 := n7_; have GE140 := n8_; have NB135_140 := n9_; have NB140_135 := n10_; have NB136_140 := n11_; have NB140_136 := n12_; have NB137_140 := n13_; have NB140_137 := n14_; have NB138_140 := n15_; have NB140_138 := n16_; clear n0_ n1_ n2_ n3_ n4_ n5_ n6_ n7_ n8_ n9_ n10_ n11_ n12_ n13_ n14_ n15_ n16_; clear hb hbox hg; have hnb37 := NB140_135.out; have hnc37 := NB135_140.out; have hnb38 := NB140_136.out; have hnc38 := NB136_140.out; have hnb39 := NB140_137.out; have hnc39 := NB137_140.out; have hnb40 := NB140_138.out; have hnc40 := NB138_140.out; have hcz41_0 : w36.cell? ⟨gb140, 0, none⟩ = some (.int .i64 0) := (qi BK140.out 0).trans rfl; have hcz41_1 : w36.cell? ⟨gb140, 1, none⟩ = some (.int .i64 0) := (qi BK140.out 1).trans rfl; have hcz41_2 : w36.cell? ⟨gb140, 2, none⟩ = some (.bool false) := (qi BK140.out 2).trans rfl; have hfz41_0 := qj BK140.out 0; have hfz41_1 := qj BK140.out 1; have hfz41_2 := qj BK140.out 2; have hnb42 := NB136_135.out; have hnc42 := NB135_136.out; have hnb43 := NB136_137.out; have hnc43 := NB137_136.out; have hnb44 := NB136_138.out; have hnc44 := NB138_136.out; have hcz45_0 : w36.cell? ⟨gb136, 0, none⟩ = some (.int .i64 a1_0) := (qi BK136.out 0).trans rfl; have hcz45_1 : w36.cell? ⟨gb136, 1, none⟩ = some (.int .i64 a1_1) := (qi BK136.out 1).trans rfl; have hcz45_2 : w36.cell? ⟨gb136, 2, none⟩ = some (.bool a1_2) := (qi BK136.out 2).trans rfl; have hfz45_0 := qj BK136.out 0; have hfz45_1 := qj BK136.out 1; have hfz45_2 := qj BK136.out 2))
       go_roundg k1
       case measure => have := HK1.out; omega
       case rel => exact ⟨(wrap64 (x16_1 + 1)), (x139002_1), (u139002), (by first | rfl | (simp; done) | (simp [*]; done)), H', ⟨by have := HK1.out; omega⟩, ⟨by (with_reducible repeat (first | apply Kd.qt | apply Kd.qu | apply Kd.qx)); exact Kd.zm (Kd.R_far (p := ⟨gb140, 2, none⟩) (Kd.R_far (p := ⟨gb140, 1, none⟩) (Kd.R_far (p := ⟨gb140, 0, none⟩) (Kd.zm HO_139002.out (fun k_ hk => (⟨hk, hk.2⟩ : _ ∧ k_ ≠ gb140))) (fun _ hk => hk.2) (.int .i64 ((qk l0_2 x16_1).f0))) (fun _ hk => hk.2) (.int .i64 ((qk l0_2 x16_1).f1))) (fun _ hk => hk.2) (.bool ((qk l0_2 x16_1).f2))) (fun _ hk => hk.1.1)⟩, ⟨by (with_reducible repeat (first | refine qc ?_ _ | refine qe ?_ | refine qb ?_ _)); refine qo ?_ NB135_140.out _; (with_reducible repeat (first | refine qc ?_ _ | refine qe ?_ | refine qb ?_ _)); refine qo ?_ NB135_140.out _; (with_reducible repeat (first | refine qc ?_ _ | refine qe ?_ | refine qb ?_ _)); refine qo ?_ NB135_140.out _; (with_reducible repeat (first | refine qc ?_ _ | refine qe ?_ | refine qb ?_ _)); exact BK135.out⟩, ⟨by (with_reducible repeat (first | refine qc ?_ _ | refine qe ?_ | refine qb ?_ _)); refine qo ?_ NB136_140.out _; (with_reducible repeat (first | refine qc ?_ _ | refine qe ?_ | refine qb ?_ _)); refine qo ?_ NB136_140.out _; (with_reducible repeat (first | refine qc ?_ _ | refine qe ?_ | refine qb ?_ _)); refine qo ?_ NB136_140.out _; (with_reducible repeat (first | refine qc ?_ _ | refine qe ?_ | refine qb ?_ _)); exact BK136.out⟩, ⟨by (with_reducible repeat (first | refine qc ?_ _ | refine qe ?_ | refine qb ?_ _)); refine qo ?_ NB137_140.out _; (with_reducible repeat (first | refine qc ?_ _ | refine qe ?_ | refine qb ?_ _)); refine qo ?_ NB137_140.out _; (with_reducible repeat (first | refine qc ?_ _ | refine qe ?_ | refine qb ?_ _)); refine qo ?_ NB137_140.out _; (with_reducible repeat (first | refine qc ?_ _ | refine qe ?_ | refine qb ?_ _)); exact BK137.out⟩, ⟨by (with_reducible repeat (first | refine qc ?_ _ | refine qe ?_ | refine qb ?_ _)); refine qo ?_ NB138_140.out _; (with_reducible repeat (first | refine qc ?_ _ | refine qe ?_ | refine qb ?_ _)); refine qo ?_ NB138_140.out _; (with_reducible repeat (first | refine qc ?_ _ | refine qe ?_ | refine qb ?_ _)); refine qo ?_ NB138_140.out _; (with_reducible repeat (first | refine qc ?_ _ | refine qe ?_ | refine qb ?_ _)); exact BK138.out⟩, ⟨by repeat (first | (with_reducible first | exact HB.out | apply qg | apply qa | apply qh | refine qf ?_ GE135.out | refine qf ?_ GE136.out | refine qf ?_ GE137.out | refine qf ?_ GE138.out | refine qf ?_ GE140.out) | exact HB.out)⟩⟩
     ·rw [if_neg c17] at H
      exact absurd H (by simp)
    ·rw [if_neg c16] at H
     exact absurd H (by simp)
   ·rw [if_neg c15] at H
    have c15b0 : decide (x16_1 < (l0_2.length : Int)) = false := decide_eq_false c15
    clear c15
    simp only [Option.some.injEq, Prod.mk.injEq] at H
    obtain ⟨rfl, rfl, rfl⟩ := H
    have hnb46 := NB138_135.out
    have hnc46 := NB135_138.out
    have hnb47 := NB138_136.out
    have hnc47 := NB136_138.out
    have hnb48 := NB138_137.out
    have hnc48 := NB137_138.out
    have hcz49_0 : wr.cell? ⟨gb138, 0, none⟩ = some (.int .i64 a0_0) := (qi BK138.out 0).trans rfl
    have hcz49_1 : wr.cell? ⟨gb138, 1, none⟩ = some (.int .i64 a0_1) := (qi BK138.out 1).trans rfl
    have hcz49_2 : wr.cell? ⟨gb138, 2, none⟩ = some (u139002) := (qi BK138.out 2).trans rfl
    have hfz49_0 := qj BK138.out 0
    have hfz49_1 := qj BK138.out 1
    have hfz49_2 := qj BK138.out 2
    have hnb50 := NB137_135.out
    have hnc50 := NB135_137.out
    have hnb51 := NB137_136.out
    have hnc51 := NB136_137.out
    have hcz52_0 : wr.cell? ⟨gb137, 0, none⟩ = some (.int .i64 0) := (qi BK137.out 0).trans rfl
    have hcz52_1 : wr.cell? ⟨gb137, 1, none⟩ = some (.int .i64 0) := (qi BK137.out 1).trans rfl
    have hcz52_2 : wr.cell? ⟨gb137, 2, none⟩ = some (.slice none 0 0) := (qi BK137.out 2).trans rfl
    have hfz52_0 := qj BK137.out 0
    have hfz52_1 := qj BK137.out 1
    have hfz52_2 := qj BK137.out 2
    obtain ⟨Ao53, co53, eo53⟩ := Kd.zr HO_139002.out
    subst eo53
    go_wp2
    refine bodyPost_ret (results_cell_row rfl _ _ gb137 30 #[.int .i64 a0_0, .int .i64 a0_1, .slice Ao53 x139002_1.length co53] (0, 0) _ rfl (by (with_reducible repeat (first | refine qc ?_ _ | refine qe ?_ | refine qb ?_ _)); refine qv (cs := #[.int .i64 a0_0, .int .i64 a0_1, .slice none 0 0]) ?_ 2 _ rfl; (with_reducible repeat (first | refine qc ?_ _ | refine qe ?_ | refine qb ?_ _)); refine qv (cs := #[.int .i64 a0_0, .int .i64 0, .slice none 0 0]) ?_ 1 _ rfl; (with_reducible repeat (first | refine qc ?_ _ | refine qe ?_ | refine qb ?_ _)); refine qv (cs := #[.int .i64 0, .int .i64 0, .slice none 0 0]) ?_ 0 _ rfl; (with_reducible repeat (first | refine qc ?_ _ | refine qe ?_ | refine qb ?_ _)); exact BK137.out) Try.underlying30 rfl (by kernel_rfl)) rfl ?_
    exact ⟨_, by first | rfl | (simp [qq, qp] <;> rfl) | (simp [*, qq, qp] <;> rfl), by (with_reducible repeat (first | apply Kd.qt | apply Kd.qu | apply Kd.qx)); exact Kd.zm (Kd.R_far (p := ⟨gb137, 2, none⟩) (Kd.R_far (p := ⟨gb137, 1, none⟩) (Kd.R_far (p := ⟨gb137, 0, none⟩) (Kd.zz HO_139002.out BK137.out (by decide)) (fun _ hk => hk.2) (.int .i64 a0_0)) (fun _ hk => hk.2) (.int .i64 a0_1)) (fun _ hk => hk.2) (.slice Ao53 x139002_1.length co53)) (fun _ hk => trivial), be4_ HB GE135 GE136 GE137 GE138⟩
def spec_l1In.f (a0 : Int) (a1 : Int) (a2 : Int) : Option (Bool) := if a0 ≥ a1 then (some (decide (a0 ≤ a2))) else (some false)
set_option maxHeartbeats 8000000 in
set_option maxRecDepth 100000 in
theorem spec_l1In.calls (a0 : Int) (a1 : Int) (a2 : Int) (r : Bool) (w : World) (h : spec_l1In.f a0 a1 a2 = some r) :
  Calls Try.prog 100 #[.int .i64 a0, .int .i64 a1, .int .i64 a2] w fun e w' => e = .returned (.bool r) ∧ zl w w' := by
 have H : (if a0 ≥ a1 then (some (decide (a0 ≤ a2))) else (some false)) = some r := h
 clear h
 by_cases c4 : a0 ≥ a1
 ·rw [if_pos c4] at H
  have c4b0 : decide (a1 ≤ a0) = true := decide_eq_true c4
  clear c4
  obtain rfl := Option.some.inj H
  go_enter Try.func100, Try.ntmps100
  go_wp2
  go_ret
  exact ⟨by first | rfl | (simp; done) | (simp [*]; done), by repeat (first | exact zl.refl _ | apply zl.step)⟩
 ·rw [if_neg c4] at H
  have c4b0 : decide (a1 ≤ a0) = false := decide_eq_false c4
  clear c4
  obtain rfl := Option.some.inj H
  go_enter Try.func100, Try.ntmps100
  go_wp2
  go_ret
  exact ⟨by first | rfl | (simp; done) | (simp [*]; done), by repeat (first | exact zl.refl _ | apply zl.step)⟩
def spec_avIs.j0 : Nat → Int → Int → Bool → Int → Int → Bool → Option (Bool)
 | 0, _, _, _, _, _, _ => none
 | k + 1, x0, x1, x20, x145000, x145001, x145002 => if x20 = true then (some false) else (if x145002 = true then (some (decide (x145001 < (wrap64 (x1 - 1))))) else (some (decide (x145000 < (wrap64 (x0 - 1))))))
def spec_avIs.f (k : Nat) (a0 : Int) (a1 : Int) (a2_0 : Int) (a2_1 : Int) (a2_2 : Bool) : Option (Bool) := (spec_l1In.f a2_0 0 (wrap64 (a0 - 1))).bind fun t145 => (if t145 = true then ((spec_l1In.f a2_1 0 (wrap64 (a1 - 1))).bind fun t146 => (spec_avIs.j0 k a0 a1 (!t146) a2_0 a2_1 a2_2)) else (spec_avIs.j0 k a0 a1 true a2_0 a2_1 a2_2))
theorem spec_avIs.zu : ∀ k, (∀ y0 y1 y2 y3 y4 y5, LeO (spec_avIs.j0 k y0 y1 y2 y3 y4 y5) (spec_avIs.j0 (k + 1) y0 y1 y2 y3 y4 y5))
 | 0 => fun _ _ _ _ _ _ r h => by simp [spec_avIs.j0] at h
 | k + 1 => by
  have ih0 := spec_avIs.zu k
  ·intro y0 y1 y2 y3 y4 y5
   unfold spec_avIs.j0
   repeat' first
   | (with_reducible exact ih0 _ _ _ _ _ _)
   | (with_reducible exact LeO.refl _)
   | (with_reducible exact LeO.none _)
   | (with_reducible refine LeO.ite ?_ ?_)
   | (with_reducible refine LeO.bind ?_ (fun _ => ?_))
   | exact ih0 _ _ _ _ _ _
   | exact LeO.none _
   | refine LeO.ite ?_ ?_
   | refine LeO.bind ?_ (fun _ => ?_)
theorem spec_avIs.mono : ∀ a0 a1 a2 a3 a4 k, LeO (spec_avIs.f k a0 a1 a2 a3 a4) (spec_avIs.f (k + 1) a0 a1 a2 a3 a4) := by
 intro a0 a1 a2 a3 a4 k
 have ih0 := spec_avIs.zu k
 unfold spec_avIs.f
 repeat' first
   | (with_reducible exact ih0 _ _ _ _ _ _)
   | (with_reducible exact LeO.refl _)
   | (with_reducible exact LeO.none _)
   | (with_reducible refine LeO.ite ?_ ?_)
   | (with_reducible refine LeO.bind ?_ (fun _ => ?_))
   | exact ih0 _ _ _ _ _ _
   | exact LeO.none _
   | refine LeO.ite ?_ ?_
   | refine LeO.bind ?_ (fun _ => ?_)
set_option maxHeartbeats 8000000 in
set_option maxRecDepth 100000 in
theorem spec_avIs.calls (k : Nat) (a0 : Int) (a1 : Int) (a2_0 : Int) (a2_1 : Int) (a2_2 : Bool) (r : Bool) (w : World) (h : spec_avIs.f k a0 a1 a2_0 a2_1 a2_2 = some r) :
  Calls Try.prog 95 #[.int .i64 a0, .int .i64 a1, .agg #[.int .i64 a2_0, .int .i64 a2_1, .bool a2_2]] w fun e w' => e = .returned (.bool r) ∧ Below w.heap.size w w' := by
 have hu38 := Try.underlying38
 have HB := qd.mk (Below.refl w.heap.size w)
 have H : ((spec_l1In.f a2_0 0 (wrap64 (a0 - 1))).bind fun t145 => (if t145 = true then ((spec_l1In.f a2_1 0 (wrap64 (a1 - 1))).bind fun t146 => (spec_avIs.j0 k a0 a1 (!t146) a2_0 a2_1 a2_2)) else (spec_avIs.j0 k a0 a1 true a2_0 a2_1 a2_2))) = some r := h
 clear h
 have HC4 := qd.mk H
 clear H
 go_enter Try.func95, Try.ntmps95
 go_upto_region 1 with (first | ((with_reducible refine za (N := 5) rfl ?_); refine qy ?hg (N := 5) ?hd (cs := #[.int .i64 a2_0, .int .i64 a2_1, .bool a2_2]) (t := 38) ?hr ?_; (case hd => rfl); (case hg => rfl); (case hr => first | (go_simp; done) | (go_simp; rfl)); intro gb144 hg w5 hbox hb; have n0_ := qd.mk (qn (be0_ HB) hb); have n1_ := qd.mk (hbox); have n2_ := qd.mk ((by rw [hg]; exact (qm (be0_ HB)) : w.heap.size ≤ gb144)); have n3_ := qd.mk ((by rw [hg]; exact (qm (be0_ HB)) : w.heap.size ≤ gb144)); clear HB; have HB := n0_; have BK144 := n1_; have GW144 := n2_; have GE144 := n3_; clear n0_ n1_ n2_ n3_; clear hb hbox hg))
 (try simp only [Act.put, sA_, sB_, sC_])
 go_cut [20] (fun v20 wc => ∃ (kq : Nat) (x20_3 : Bool), v20 = .bool x20_3 ∧ qd (spec_avIs.j0 kq a0 a1 x20_3 a2_0 a2_1 a2_2 = some r) ∧ qd (kq ≤ k) ∧ qd (wc.heap[gb144]? = some (.cells #[.int .i64 a2_0, .int .i64 a2_1, .bool a2_2] 38 (0, 0))) ∧ qd (Below w.heap.size w wc))
 case first =>
  have H := HC4.out
  clear HC4
  replace H := Option.bind_eq_some_iff.mp H
  obtain ⟨t145, A60, H⟩ := H
  replace H : (if t145 = true then ((spec_l1In.f a2_1 0 (wrap64 (a1 - 1))).bind fun t146 => (spec_avIs.j0 k a0 a1 (!t146) a2_0 a2_1 a2_2)) else (spec_avIs.j0 k a0 a1 true a2_0 a2_1 a2_2)) = some r := H
  have A6 := qd.mk A60
  clear A60
  by_cases c7 : t145 = true
  ·subst c7
   have H1 : ((spec_l1In.f a2_1 0 (wrap64 (a1 - 1))).bind fun t146 => (spec_avIs.j0 k a0 a1 (!t146) a2_0 a2_1 a2_2)) = some r := by rw [if_pos rfl] at H; exact H
   clear H
   have H := H1
   clear H1
   replace H := Option.bind_eq_some_iff.mp H
   obtain ⟨t146, A80, H⟩ := H
   replace H : (spec_avIs.j0 k a0 a1 (!t146) a2_0 a2_1 a2_2) = some r := H
   have A8 := qd.mk A80
   clear A80
   have H' := qd.mk H
   clear H
   have hcz9_0 : w5.cell? ⟨gb144, 0, none⟩ = some (.int .i64 a2_0) := (qi BK144.out 0).trans rfl
   have hcz9_1 : w5.cell? ⟨gb144, 1, none⟩ = some (.int .i64 a2_1) := (qi BK144.out 1).trans rfl
   have hcz9_2 : w5.cell? ⟨gb144, 2, none⟩ = some (.bool a2_2) := (qi BK144.out 2).trans rfl
   have hfz9_0 := qj BK144.out 0
   have hfz9_1 := qj BK144.out 1
   have hfz9_2 := qj BK144.out 2
   go_wp2_with (first | ((with_reducible refine qw (f := 100) rfl ?_); refine zj (some 11) rfl rfl Try.func100 (by kernel_rfl) rfl #[.int .i64 a2_0, .int .i64 0, .int .i64 (wrap64 (a0 - 1))] rfl (by (try simp only [List.map_toArray, List.map_cons, List.map_nil]); first | done | rfl | (simp only [List.length_drop, List.length_take]; rfl)) ?_; (with_reducible refine (spec_l1In.calls a2_0 0 (wrap64 (a0 - 1)) true _ A6.out).mono ?_); rintro e w' ⟨rfl, ⟨nd, rfl⟩⟩; refine ⟨_, rfl, ?_⟩) | (go_at_call 100; (with_reducible refine (spec_l1In.calls a2_1 0 (wrap64 (a1 - 1)) t146 _ A8.out).mono ?_); rintro e w' ⟨rfl, ⟨nd, rfl⟩⟩))
   go_meet
   case rel => exact ⟨_, (!t146), (by first | rfl | (simp; done) | (simp [*]; done)), H', ⟨by first | omega | exact Nat.le_refl _⟩, ⟨bk_ BK144⟩, ⟨be1_ HB GE144⟩⟩
  ·replace c7 := Bool.eq_false_iff.mpr c7
   subst c7
   have H1 : (spec_avIs.j0 k a0 a1 true a2_0 a2_1 a2_2) = some r := by rw [if_neg (show ¬ (false = true) by decide)] at H; exact H
   clear H
   have H := H1
   clear H1
   have H' := qd.mk H
   clear H
   have hcz10_0 : w5.cell? ⟨gb144, 0, none⟩ = some (.int .i64 a2_0) := (qi BK144.out 0).trans rfl
   have hcz10_1 : w5.cell? ⟨gb144, 1, none⟩ = some (.int .i64 a2_1) := (qi BK144.out 1).trans rfl
   have hcz10_2 : w5.cell? ⟨gb144, 2, none⟩ = some (.bool a2_2) := (qi BK144.out 2).trans rfl
   have hfz10_0 := qj BK144.out 0
   have hfz10_1 := qj BK144.out 1
   have hfz10_2 := qj BK144.out 2
   go_wp2_with (first | ((with_reducible refine qw (f := 100) rfl ?_); refine zj (some 11) rfl rfl Try.func100 (by kernel_rfl) rfl #[.int .i64 a2_0, .int .i64 0, .int .i64 (wrap64 (a0 - 1))] rfl (by (try simp only [List.map_toArray, List.map_cons, List.map_nil]); first | done | rfl | (simp only [List.length_drop, List.length_take]; rfl)) ?_; (with_reducible refine (spec_l1In.calls a2_0 0 (wrap64 (a0 - 1)) false _ A6.out).mono ?_); rintro e w' ⟨rfl, ⟨nd, rfl⟩⟩; refine ⟨_, rfl, ?_⟩))
   go_meet
   case rel => exact ⟨_, (true), (by first | rfl | (simp; done) | (simp [*]; done)), H', ⟨by first | omega | exact Nat.le_refl _⟩, ⟨bk_ BK144⟩, ⟨be1_ HB GE144⟩⟩
 case rest =>
  clear HC4
  try clear c7
  try clear hcz10_0
  try clear hcz10_1
  try clear hcz10_2
  try clear hcz9_0
  try clear hcz9_1
  try clear hcz9_2
  try clear hfz10_0
  try clear hfz10_1
  try clear hfz10_2
  try clear hfz9_0
  try clear hfz9_1
  try clear hfz9_2
  obtain ⟨kq, x20_3, rfl, HA, HJ3, BK144, HB⟩ := hcut
  cases kq with
  | zero => exact absurd HA.out (by simp [spec_avIs.j0])
  | succ kj3 =>
   have H := HA.out
   clear HA
   simp only [spec_avIs.j0] at H
   by_cases c11 : x20_3 = true
   ·subst c11
    have H1 : (some false) = some r := by rw [if_pos rfl] at H; exact H
    clear H
    have H := H1
    clear H1
    obtain rfl := Option.some.inj H
    go_wp2
    go_ret
    exact ⟨by first | rfl | (simp [qq, qp] <;> rfl) | (simp [*, qq, qp] <;> rfl), be1_ HB GE144⟩
   ·replace c11 := Bool.eq_false_iff.mpr c11
    subst c11
    have H1 : (if a2_2 = true then (some (decide (a2_1 < (wrap64 (a1 - 1))))) else (some (decide (a2_0 < (wrap64 (a0 - 1)))))) = some r := by rw [if_neg (show ¬ (false = true) by decide)] at H; exact H
    clear H
    have H := H1
    clear H1
    by_cases c12 : a2_2 = true
    ·subst c12
     have H1 : (some (decide (a2_1 < (wrap64 (a1 - 1))))) = some r := by rw [if_pos rfl] at H; exact H
     clear H
     have H := H1
     clear H1
     obtain rfl := Option.some.inj H
     have hcz13_0 : wc.cell? ⟨gb144, 0, none⟩ = some (.int .i64 a2_0) := (qi BK144.out 0).trans rfl
     have hcz13_1 : wc.cell? ⟨gb144, 1, none⟩ = some (.int .i64 a2_1) := (qi BK144.out 1).trans rfl
     have hcz13_2 : wc.cell? ⟨gb144, 2, none⟩ = some (.bool true) := (qi BK144.out 2).trans rfl
     have hfz13_0 := qj BK144.out 0
     have hfz13_1 := qj BK144.out 1
     have hfz13_2 := qj BK144.out 2
     go_wp2
     go_ret
     exact ⟨by first | rfl | (simp [qq, qp] <;> rfl) | (simp [*, qq, qp] <;> rfl), be1_ HB GE144⟩
    ·replace c12 := Bool.eq_false_iff.mpr c12
     subst c12
     have H1 : (some (decide (a2_0 < (wrap64 (a0 - 1))))) = some r := by rw [if_neg (show ¬ (false = true) by decide)] at H; exact H
     clear H
     have H := H1
     clear H1
     obtain rfl := Option.some.inj H
     have hcz14_0 : wc.cell? ⟨gb144, 0, none⟩ = some (.int .i64 a2_0) := (qi BK144.out 0).trans rfl
     have hcz14_1 : wc.cell? ⟨gb144, 1, none⟩ = some (.int .i64 a2_1) := (qi BK144.out 1).trans rfl
     have hcz14_2 : wc.cell? ⟨gb144, 2, none⟩ = some (.bool false) := (qi BK144.out 2).trans rfl
     have hfz14_0 := qj BK144.out 0
     have hfz14_1 := qj BK144.out 1
     have hfz14_2 := qj BK144.out 2
     go_wp2
     go_ret
     exact ⟨by first | rfl | (simp [qq, qp] <;> rfl) | (simp [*, qq, qp] <;> rfl), be1_ HB GE144⟩
def spec_avLess.f (a0_0 : Int) (a0_1 : Int) (a0_2 : Bool) (a1_0 : Int) (a1_1 : Int) (a1_2 : Bool) : Option (Bool) := if a0_0 = a1_0 then (if a0_1 = a1_1 then (if a0_2 = true then (some false) else (some a1_2)) else (some (decide (a0_1 < a1_1)))) else (some (decide (a0_0 < a1_0)))
set_option maxHeartbeats 8000000 in
set_option maxRecDepth 100000 in
theorem spec_avLess.calls (a0_0 : Int) (a0_1 : Int) (a0_2 : Bool) (a1_0 : Int) (a1_1 : Int) (a1_2 : Bool) (r : Bool) (w : World) (h : spec_avLess.f a0_0 a0_1 a0_2 a1_0 a1_1 a1_2 = some r) :
  Calls Try.prog 106 #[.agg #[.int .i64 a0_0, .int .i64 a0_1, .bool a0_2], .agg #[.int .i64 a1_0, .int .i64 a1_1, .bool a1_2]] w fun e w' => e = .returned (.bool r) ∧ Below w.heap.size w w' := by
 have hu38 := Try.underlying38
 have HB := qd.mk (Below.refl w.heap.size w)
 have H : (if a0_0 = a1_0 then (if a0_1 = a1_1 then (if a0_2 = true then (some false) else (some a1_2)) else (some (decide (a0_1 < a1_1)))) else (some (decide (a0_0 < a1_0)))) = some r := h
 clear h
 by_cases c3 : a0_0 = a1_0
 ·rw [if_pos c3] at H
  have c3b0 : (a0_0 == a1_0) = true := beq_iff_eq.mpr c3
  have c3b1 : (a0_0 != a1_0) = false := bne_eq_false_iff_eq.mpr c3
  clear c3
  by_cases c4 : a0_1 = a1_1
  ·rw [if_pos c4] at H
   have c4b0 : (a0_1 == a1_1) = true := beq_iff_eq.mpr c4
   have c4b1 : (a0_1 != a1_1) = false := bne_eq_false_iff_eq.mpr c4
   clear c4
   by_cases c5 : a0_2 = true
   ·subst c5
    have H1 : (some false) = some r := by rw [if_pos rfl] at H; exact H
    clear H
    have H := H1
    clear H1
    obtain rfl := Option.some.inj H
    go_enter Try.func106, Try.ntmps106
    go_wp2_with (first | ((with_reducible refine za (N := 2) rfl ?_); refine qy ?hg (N := 2) ?hd (cs := #[.int .i64 a0_0, .int .i64 a0_1, .bool true]) (t := 38) ?hr ?_; (case hd => rfl); (case hg => rfl); (case hr => first | (go_simp; done) | (go_simp; rfl)); intro gb147 hg w6 hbox hb; have n0_ := qd.mk (qn (be0_ HB) hb); have n1_ := qd.mk (hbox); have n2_ := qd.mk ((by rw [hg]; exact (qm (be0_ HB)) : w.heap.size ≤ gb147)); have n3_ := qd.mk ((by rw [hg]; exact (qm (be0_ HB)) : w.heap.size ≤ gb147)); clear HB; have HB := n0_; have BK147 := n1_; have GW147 := n2_; have GE147 := n3_; clear n0_ n1_ n2_ n3_; clear hb hbox hg) | ((with_reducible refine za (N := 3) rfl ?_); refine qy ?hg (N := 3) ?hd (cs := #[.int .i64 a1_0, .int .i64 a1_1, .bool a1_2]) (t := 38) ?hr ?_; (case hd => rfl); (case hg => rfl); (case hr => first | (go_simp; done) | (go_simp; rfl)); intro gb148 hg w7 hbox hb; have n0_ := qd.mk (ql (g := gb147) (o := .cells #[.int .i64 a0_0, .int .i64 a0_1, .bool true] 38 (0, 0)) (bk_ BK147) hb); have n1_ := qd.mk (qn (be1_ HB GE147) hb); have n2_ := qd.mk (hbox); have n3_ := qd.mk ((by rw [hg]; exact (qm (be1_ HB GE147)) : w.heap.size ≤ gb148)); have n4_ := qd.mk ((by rw [hg]; exact (qm (be1_ HB GE147)) : w.heap.size ≤ gb148)); have n5_ := qd.mk ((by rw [hg]; exact Nat.ne_of_lt (qr (g := gb147) (o := .cells #[.int .i64 a0_0, .int .i64 a0_1, .bool true] 38 (0, 0)) (bk_ BK147)) : gb147 ≠ gb148)); have n6_ := qd.mk ((by rw [hg]; exact Nat.ne_of_gt (qr (g := gb147) (o := .cells #[.int .i64 a0_0, .int .i64 a0_1, .bool true] 38 (0, 0)) (bk_ BK147)) : gb148 ≠ gb147)); clear BK147; clear HB; have BK147 := n0_; have HB := n1_; have BK148 := n2_; have GW148 := n3_; have GE148 := n4_; have NB147_148 := n5_; have NB148_147 := n6_; clear n0_ n1_ n2_ n3_ n4_ n5_ n6_; clear hb hbox hg; have hnb8 := NB147_148.out; have hnc8 := NB148_147.out; have hcz9_0 : w7.cell? ⟨gb147, 0, none⟩ = some (.int .i64 a0_0) := (qi BK147.out 0).trans rfl; have hcz9_1 : w7.cell? ⟨gb147, 1, none⟩ = some (.int .i64 a0_1) := (qi BK147.out 1).trans rfl; have hcz9_2 : w7.cell? ⟨gb147, 2, none⟩ = some (.bool true) := (qi BK147.out 2).trans rfl; have hfz9_0 := qj BK147.out 0; have hfz9_1 := qj BK147.out 1; have hfz9_2 := qj BK147.out 2; have hcz10_0 : w7.cell? ⟨gb148, 0, none⟩ = some (.int .i64 a1_0) := (qi BK148.out 0).trans rfl; have hcz10_1 : w7.cell? ⟨gb148, 1, none⟩ = some (.int .i64 a1_1) := (qi BK148.out 1).trans rfl; have hcz10_2 : w7.cell? ⟨gb148, 2, none⟩ = some (.bool a1_2) := (qi BK148.out 2).trans rfl; have hfz10_0 := qj BK148.out 0; have hfz10_1 := qj BK148.out 1; have hfz10_2 := qj BK148.out 2))
    go_ret
    exact ⟨by first | rfl | (simp [qq, qp] <;> rfl) | (simp [*, qq, qp] <;> rfl), be2_ HB GE147 GE148⟩
   ·replace c5 := Bool.eq_false_iff.mpr c5
    subst c5
    have H1 : (some a1_2) = some r := by rw [if_neg (show ¬ (false = true) by decide)] at H; exact H
    clear H
    have H := H1
    clear H1
    obtain rfl := Option.some.inj H
    go_enter Try.func106, Try.ntmps106
    go_wp2_with (first | ((with_reducible refine za (N := 2) rfl ?_); refine qy ?hg (N := 2) ?hd (cs := #[.int .i64 a0_0, .int .i64 a0_1, .bool false]) (t := 38) ?hr ?_; (case hd => rfl); (case hg => rfl); (case hr => first | (go_simp; done) | (go_simp; rfl)); intro gb147 hg w11 hbox hb; have n0_ := qd.mk (qn (be0_ HB) hb); have n1_ := qd.mk (hbox); have n2_ := qd.mk ((by rw [hg]; exact (qm (be0_ HB)) : w.heap.size ≤ gb147)); have n3_ := qd.mk ((by rw [hg]; exact (qm (be0_ HB)) : w.heap.size ≤ gb147)); clear HB; have HB := n0_; have BK147 := n1_; have GW147 := n2_; have GE147 := n3_; clear n0_ n1_ n2_ n3_; clear hb hbox hg) | ((with_reducible refine za (N := 3) rfl ?_); refine qy ?hg (N := 3) ?hd (cs := #[.int .i64 a1_0, .int .i64 a1_1, .bool a1_2]) (t := 38) ?hr ?_; (case hd => rfl); (case hg => rfl); (case hr => first | (go_simp; done) | (go_simp; rfl)); intro gb148 hg w12 hbox hb; have n0_ := qd.mk (ql (g := gb147) (o := .cells #[.int .i64 a0_0, .int .i64 a0_1, .bool false] 38 (0, 0)) (bk_ BK147) hb); have n1_ := qd.mk (qn (be1_ HB GE147) hb); have n2_ := qd.mk (hbox); have n3_ := qd.mk ((by rw [hg]; exact (qm (be1_ HB GE147)) : w.heap.size ≤ gb148)); have n4_ := qd.mk ((by rw [hg]; exact (qm (be1_ HB GE147)) : w.heap.size ≤ gb148)); have n5_ := qd.mk ((by rw [hg]; exact Nat.ne_of_lt (qr (g := gb147) (o := .cells #[.int .i64 a0_0, .int .i64 a0_1, .bool false] 38 (0, 0)) (bk_ BK147)) : gb147 ≠ gb148)); have n6_ := qd.mk ((by rw [hg]; exact Nat.ne_of_gt (qr (g := gb147) (o := .cells #[.int .i64 a0_0, .int .i64 a0_1, .bool false] 38 (0, 0)) (bk_ BK147)) : gb148 ≠ gb147)); clear BK147; clear HB; have BK147 := n0_; have HB := n1_; have BK148 := n2_; have GW148 := n3_; have GE148 := n4_; have NB147_148 := n5_; have NB148_147 := n6_; clear n0_ n1_ n2_ n3_ n4_ n5_ n6_; clear hb hbox hg; have hnb13 := NB147_148.out; have hnc13 := NB148_147.out; have hcz14_0 : w12.cell? ⟨gb147, 0, none⟩ = some (.int .i64 a0_0) := (qi BK147.out 0).trans rfl; have hcz14_1 : w12.cell? ⟨gb147, 1, none⟩ = some (.int .i64 a0_1) := (qi BK147.out 1).trans rfl; have hcz14_2 : w12.cell? ⟨gb147, 2, none⟩ = some (.bool false) := (qi BK147.out 2).trans rfl; have hfz14_0 := qj BK147.out 0; have hfz14_1 := qj BK147.out 1; have hfz14_2 := qj BK147.out 2; have hcz15_0 : w12.cell? ⟨gb148, 0, none⟩ = some (.int .i64 a1_0) := (qi BK148.out 0).trans rfl; have hcz15_1 : w12.cell? ⟨gb148, 1, none⟩ = some (.int .i64 a1_1) := (qi BK148.out 1).trans rfl; have hcz15_2 : w12.cell? ⟨gb148, 2, none⟩ = some (.bool a1_2) := (qi BK148.out 2).trans rfl; have hfz15_0 := qj BK148.out 0; have hfz15_1 := qj BK148.out 1; have hfz15_2 := qj BK148.out 2))
    go_ret
    exact ⟨by first | rfl | (simp [qq, qp] <;> rfl) | (simp [*, qq, qp] <;> rfl), be2_ HB GE147 GE148⟩
  ·rw [if_neg c4] at H
   have c4b0 : (a0_1 == a1_1) = false := beq_eq_false_iff_ne.mpr c4
   have c4b1 : (a0_1 != a1_1) = true := bne_iff_ne.mpr c4
   obtain rfl := Option.some.inj H
   go_enter Try.func106, Try.ntmps106
   go_wp2_with (first | ((with_reducible refine za (N := 2) rfl ?_); refine qy ?hg (N := 2) ?hd (cs := #[.int .i64 a0_0, .int .i64 a0_1, .bool a0_2]) (t := 38) ?hr ?_; (case hd => rfl); (case hg => rfl); (case hr => first | (go_simp; done) | (go_simp; rfl)); intro gb147 hg w16 hbox hb; have n0_ := qd.mk (qn (be0_ HB) hb); have n1_ := qd.mk (hbox); have n2_ := qd.mk ((by rw [hg]; exact (qm (be0_ HB)) : w.heap.size ≤ gb147)); have n3_ := qd.mk ((by rw [hg]; exact (qm (be0_ HB)) : w.heap.size ≤ gb147)); clear HB; have HB := n0_; have BK147 := n1_; have GW147 := n2_; have GE147 := n3_; clear n0_ n1_ n2_ n3_; clear hb hbox hg) | ((with_reducible refine za (N := 3) rfl ?_); refine qy ?hg (N := 3) ?hd (cs := #[.int .i64 a1_0, .int .i64 a1_1, .bool a1_2]) (t := 38) ?hr ?_; (case hd => rfl); (case hg => rfl); (case hr => first | (go_simp; done) | (go_simp; rfl)); intro gb148 hg w17 hbox hb; have n0_ := qd.mk (ql (g := gb147) (o := .cells #[.int .i64 a0_0, .int .i64 a0_1, .bool a0_2] 38 (0, 0)) (bk_ BK147) hb); have n1_ := qd.mk (qn (be1_ HB GE147) hb); have n2_ := qd.mk (hbox); have n3_ := qd.mk ((by rw [hg]; exact (qm (be1_ HB GE147)) : w.heap.size ≤ gb148)); have n4_ := qd.mk ((by rw [hg]; exact (qm (be1_ HB GE147)) : w.heap.size ≤ gb148)); have n5_ := qd.mk ((by rw [hg]; exact Nat.ne_of_lt (qr (g := gb147) (o := .cells #[.int .i64 a0_0, .int .i64 a0_1, .bool a0_2] 38 (0, 0)) (bk_ BK147)) : gb147 ≠ gb148)); have n6_ := qd.mk ((by rw [hg]; exact Nat.ne_of_gt (qr (g := gb147) (o := .cells #[.int .i64 a0_0, .int .i64 a0_1, .bool a0_2] 38 (0, 0)) (bk_ BK147)) : gb148 ≠ gb147)); clear BK147; clear HB; have BK147 := n0_; have HB := n1_; have BK148 := n2_; have GW148 := n3_; have GE148 := n4_; have NB147_148 := n5_; have NB148_147 := n6_; clear n0_ n1_ n2_ n3_ n4_ n5_ n6_; clear hb hbox hg; have hnb18 := NB147_148.out; have hnc18 := NB148_147.out; have hcz19_0 : w17.cell? ⟨gb147, 0, none⟩ = some (.int .i64 a0_0) := (qi BK147.out 0).trans rfl; have hcz19_1 : w17.cell? ⟨gb147, 1, none⟩ = some (.int .i64 a0_1) := (qi BK147.out 1).trans rfl; have hcz19_2 : w17.cell? ⟨gb147, 2, none⟩ = some (.bool a0_2) := (qi BK147.out 2).trans rfl; have hfz19_0 := qj BK147.out 0; have hfz19_1 := qj BK147.out 1; have hfz19_2 := qj BK147.out 2; have hcz20_0 : w17.cell? ⟨gb148, 0, none⟩ = some (.int .i64 a1_0) := (qi BK148.out 0).trans rfl; have hcz20_1 : w17.cell? ⟨gb148, 1, none⟩ = some (.int .i64 a1_1) := (qi BK148.out 1).trans rfl; have hcz20_2 : w17.cell? ⟨gb148, 2, none⟩ = some (.bool a1_2) := (qi BK148.out 2).trans rfl; have hfz20_0 := qj BK148.out 0; have hfz20_1 := qj BK148.out 1; have hfz20_2 := qj BK148.out 2))
   go_ret
   exact ⟨by first | rfl | (simp [qq, qp] <;> rfl) | (simp [*, qq, qp] <;> rfl), be2_ HB GE147 GE148⟩
 ·rw [if_neg c3] at H
  have c3b0 : (a0_0 == a1_0) = false := beq_eq_false_iff_ne.mpr c3
  have c3b1 : (a0_0 != a1_0) = true := bne_iff_ne.mpr c3
  obtain rfl := Option.some.inj H
  go_enter Try.func106, Try.ntmps106
  go_wp2_with (first | ((with_reducible refine za (N := 2) rfl ?_); refine qy ?hg (N := 2) ?hd (cs := #[.int .i64 a0_0, .int .i64 a0_1, .bool a0_2]) (t := 38) ?hr ?_; (case hd => rfl); (case hg => rfl); (case hr => first | (go_simp; done) | (go_simp; rfl)); intro gb147 hg w21 hbox hb; have n0_ := qd.mk (qn (be0_ HB) hb); have n1_ := qd.mk (hbox); have n2_ := qd.mk ((by rw [hg]; exact (qm (be0_ HB)) : w.heap.size ≤ gb147)); have n3_ := qd.mk ((by rw [hg]; exact (qm (be0_ HB)) : w.heap.size ≤ gb147)); clear HB; have HB := n0_; have BK147 := n1_; have GW147 := n2_; have GE147 := n3_; clear n0_ n1_ n2_ n3_; clear hb hbox hg) | ((with_reducible refine za (N := 3) rfl ?_); refine qy ?hg (N := 3) ?hd (cs := #[.int .i64 a1_0, .int .i64 a1_1, .bool a1_2]) (t := 38) ?hr ?_; (case hd => rfl); (case hg => rfl); (case hr => first | (go_simp; done) | (go_simp; rfl)); intro gb148 hg w22 hbox hb; have n0_ := qd.mk (ql (g := gb147) (o := .cells #[.int .i64 a0_0, .int .i64 a0_1, .bool a0_2] 38 (0, 0)) (bk_ BK147) hb); have n1_ := qd.mk (qn (be1_ HB GE147) hb); have n2_ := qd.mk (hbox); have n3_ := qd.mk ((by rw [hg]; exact (qm (be1_ HB GE147)) : w.heap.size ≤ gb148)); have n4_ := qd.mk ((by rw [hg]; exact (qm (be1_ HB GE147)) : w.heap.size ≤ gb148)); have n5_ := qd.mk ((by rw [hg]; exact Nat.ne_of_lt (qr (g := gb147) (o := .cells #[.int .i64 a0_0, .int .i64 a0_1, .bool a0_2] 38 (0, 0)) (bk_ BK147)) : gb147 ≠ gb148)); have n6_ := qd.mk ((by rw [hg]; exact Nat.ne_of_gt (qr (g := gb147) (o := .cells #[.int .i64 a0_0, .int .i64 a0_1, .bool a0_2] 38 (0, 0)) (bk_ BK147)) : gb148 ≠ gb147)); clear BK147; clear HB; have BK147 := n0_; have HB := n1_; have BK148 := n2_; have GW148 := n3_; have GE148 := n4_; have NB147_148 := n5_; have NB148_147 := n6_; clear n0_ n1_ n2_ n3_ n4_ n5_ n6_; clear hb hbox hg; have hnb23 := NB147_148.out; have hnc23 := NB148_147.out; have hcz24_0 : w22.cell? ⟨gb147, 0, none⟩ = some (.int .i64 a0_0) := (qi BK147.out 0).trans rfl; have hcz24_1 : w22.cell? ⟨gb147, 1, none⟩ = some (.int .i64 a0_1) := (qi BK147.out 1).trans rfl; have hcz24_2 : w22.cell? ⟨gb147, 2, none⟩ = some (.bool a0_2) := (qi BK147.out 2).trans rfl; have hfz24_0 := qj BK147.out 0; have hfz24_1 := qj BK147.out 1; have hfz24_2 := qj BK147.out 2; have hcz25_0 : w22.cell? ⟨gb148, 0, none⟩ = some (.int .i64 a1_0) := (qi BK148.out 0).trans rfl; have hcz25_1 : w22.cell? ⟨gb148, 1, none⟩ = some (.int .i64 a1_1) := (qi BK148.out 1).trans rfl; have hcz25_2 : w22.cell? ⟨gb148, 2, none⟩ = some (.bool a1_2) := (qi BK148.out 2).trans rfl; have hfz25_0 := qj BK148.out 0; have hfz25_1 := qj BK148.out 1; have hfz25_2 := qj BK148.out 2))
  go_ret
  exact ⟨by first | rfl | (simp [qq, qp] <;> rfl) | (simp [*, qq, qp] <;> rfl), be2_ HB GE147 GE148⟩
end Go.Proofs.Ytohpaddcfcgmbaa.PFnExactBestToOpen
