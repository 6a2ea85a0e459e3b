/- Cut by wip/cut.py out of the texts of this claim (printed by the kit's printer, or this session's own): what the row's theorem does not reach is struck. Not trusted: Lean checks it. -/
import Derived.Test.YtpedofomfhmnfaaZFnExactNeededBlocksPx0
import Derived.Test.YtpedofomfhmnfaaZFnExactNeededBlocksPx12
namespace Go.Proofs.Ytpedofomfhmnfaa.PFnExactNeededBlocks
open Go.RowKit Go.Proofs.YtpedofomfhmnfaaW.PrintWords Go.Proofs.YtpedofomfhmnfaaW.PrintLast Go.Proofs.YtpedofomfhmnfaaW.PrintMore
attribute [local go_sem] max2_int min2_int max_two min_two max_three min_three max_four min_four
set_option linter.unusedVariables false
set_option linter.unusedSimpArgs false
def slices_Repeat_int_int.f (l0 : List Int) (a1 : Int) : Option (List Int) := if l0.length = 1 ∧ 1 ≤ a1 ∧ a1 ≤ 8 then some (List.replicate a1.toNat (rd l0 0)) else none
def slices_Repeat_int_int.row (x : Int) (c m : Nat) : List Value := List.replicate m (.int .i64 x) ++ List.replicate (c - m) (.int .i64 0)
theorem slices_Repeat_int_int.row_len (x : Int) {c m : Nat} (h : m ≤ c) : (slices_Repeat_int_int.row x c m).length = c := by simp [slices_Repeat_int_int.row]; omega
theorem slices_Repeat_int_int.row_splice (x : Int) {c m d : Nat} (h : m + d ≤ c) : splice (slices_Repeat_int_int.row x c m) m (List.replicate d (.int .i64 x)) = slices_Repeat_int_int.row x c (m + d) := by
 unfold splice slices_Repeat_int_int.row
 rw [List.take_left' (by simp), List.length_replicate, List.drop_append]
 simp only [List.length_replicate, List.drop_replicate]
 rw [show m - (m + d) = 0 by omega, show m + d - m = d by omega, show c - m - d = c - (m + d) by omega]
 rw [← List.append_assoc, List.replicate_append_replicate]
 simp
theorem slices_Repeat_int_int.mul : ∀ c : Nat, 1 ≤ c → c ≤ 8 → bits_Mul.f 1 (c : Int) = some (0, (c : Int)) := by
 intro c h1 h8
 rcases (show c = 1 ∨ c = 2 ∨ c = 3 ∨ c = 4 ∨ c = 5 ∨ c = 6 ∨ c = 7 ∨ c = 8 by omega) with rfl | rfl | rfl | rfl | rfl | rfl | rfl | rfl
 all_goals kernel_rfl
theorem slices_Repeat_int_int.info : (Try.prog.info? 3).map (fun i => (i.zero, i.size, i.bytes)) = some (some (.int .i64 0), 1, 8) := by kernel_rfl
theorem slices_Repeat_int_int.isz : (Try.prog.info? 3).map (·.size) = some 1 := by kernel_rfl
theorem slices_Repeat_int_int.src {W : World} {g : Nat} {x : Int} {c m d : Nat} (hg : W.heap[g]? = some (.cells (slices_Repeat_int_int.row x c m).toArray 3 (0, 0))) (h1 : 1 ≤ d) (hd : d = min m (c - m)) : ∀ (j : Nat) v, (List.replicate d (Value.int .i64 x))[j]? = some v → W.cell? ((⟨g, 0, none⟩ : Addr).add j) = some v := by
 intro j v hv
 have hj : j < d := by
  rcases Nat.lt_or_ge j d with h | h
  ·exact h
  ·rw [List.getElem?_eq_none (by simpa using h)] at hv; cases hv
 rw [List.getElem?_replicate, if_pos hj] at hv
 rw [add_plain, qc hg]
 simp only [List.getElem?_toArray]
 unfold slices_Repeat_int_int.row
 rw [List.getElem?_append_left (by simp; omega), List.getElem?_replicate, if_pos (by omega)]
 exact hv
set_option maxHeartbeats 4000000 in
set_option maxRecDepth 100000 in
theorem slices_Repeat_int_int.calls (A0 : Option Addr) (c0 : Nat) (l0 : List Int) (a1 : Int) (r : List Int) (w : World) (hr0 : Kd.C (Kd.int .i64) w A0 l0.length l0) (hc0 : l0.length ≤ c0) (h : slices_Repeat_int_int.f l0 a1 = some r) :
  Calls Try.prog 77 #[.slice A0 l0.length c0, .int .i64 a1] w fun e w' => ∃ v0_ : Value, e = .returned (v0_) ∧ Kd.R (Kd.int .i64) 3 w' w.heap.size (fun _ => True) v0_ r ∧ Below w.heap.size w w' := by
 unfold slices_Repeat_int_int.f at h
 by_cases hc : l0.length = 1 ∧ 1 ≤ a1 ∧ a1 ≤ 8
 ·rw [if_pos hc] at h
  obtain rfl := Option.some.inj h
  obtain ⟨hl, h1, h8⟩ := hc
  match l0, hl with
  | [x], _ =>
  obtain ⟨c, rfl⟩ : ∃ c : Nat, a1 = (c : Int) := ⟨a1.toNat, by omega⟩
  obtain ⟨ad, rfl, hx⟩ := Kd.jc hr0 0 (by decide) (by simp)
  have hx0 : w.cell? ad = some (.int .i64 x) := by
   have h0 : w.cell? (ad.add 0) = some (.int .i64 x) := hx
   rwa [show ad.add 0 = ad by simp [Addr.add]] at h0
  have hblk := World.block_lt_of_cell? w ad hx0
  have HM := Lib.hid (slices_Repeat_int_int.mul c (by omega) (by omega))
  have HX := Lib.hid (And.intro hx0 hblk)
  clear hx hr0 h hx0 hblk hc0
  show Calls Try.prog 77 #[.slice (some ad) 1 c0, .int .i64 (c : Int)] w _
  have hc1 : (1 : Int) ≤ (c : Int) := h1
  have hc8 : (c : Int) ≤ 8 := h8
  have hmk := print_make (P := Try.prog) 25 3 .i64 8 Try.underlying25 slices_Repeat_int_int.info (by omega) c (by omega)
  have d1 : decide ((c : Int) < 0) = false := by simp
  have d2 : decide ((9223372036854775807 : Int) < (c : Int)) = false := by simp; omega
  go_enter Try.func77, Try.ntmps77
  go_upto_region 7 with (go_at_call 84; refine (bits_Mul.calls 1 (c : Int) 0 (c : Int) _ HM.out).mono ?_; rintro e w1 ⟨rfl, hd⟩; obtain ⟨n1, rfl⟩ := hd.out)
  have hb0 : Below w.heap.size w ((w.drewN n1).alloc (.cells (madeCells #[.int .i64 0] c) 3)) := qd (qa (Below.refl _ _) n1) _
  have hg0 : ((w.drewN n1).alloc (.cells (madeCells #[.int .i64 0] c) 3)).heap[w.heap.size]? = some (.cells (slices_Repeat_int_int.row x c 0).toArray 3 (0, 0)) := by
   have h0 := blk_new (w.drewN n1) (.cells (madeCells #[.int .i64 0] c) 3)
   have e : madeCells #[.int .i64 0] c = (slices_Repeat_int_int.row x c 0).toArray := by
    apply Array.ext
    ·simp [madeCells, slices_Repeat_int_int.row]
    ·intro i h1 h2
     simp [madeCells, slices_Repeat_int_int.row, Nat.mod_one]
   rw [e] at h0 ⊢
   exact h0
  have HB0 := Lib.hid hb0
  have HG0 := Lib.hid hg0
  clear hb0 hg0
  generalize ((w.drewN n1).alloc (.cells (madeCells #[.int .i64 0] c) 3)) = W1 at HB0 HG0 ⊢
  go_wp2_with ((with_reducible refine gate_builtin (b := .copy) (xs := #[.tmp 31, .tmp 32]) rfl ?_); refine wpList_copy_splice rfl (.tmp 31) (.tmp 32) 25 25 rfl 3 Try.underlying25 slices_Repeat_int_int.isz (some ⟨w.heap.size, 0, none⟩) (some ad) c c 1 c0 rfl rfl w.heap.size 0 (slices_Repeat_int_int.row x c 0) 3 HG0.out [.int .i64 x] ?cn ?cp ?cf ?c1 w.heap.size w HB0.out (Nat.le_refl _) ?_; (case cn => show 1 = min 1 c; omega); (case cp => intro _; exact ⟨rfl, ad, rfl, fun j v hj => by cases j with | zero => cases hj; rw [show ad.add 0 = ad by simp [Addr.add]]; exact qy HB0.out HX.out.1 | succ j => simp at hj⟩); (case cf => rw [slices_Repeat_int_int.row_len x (by omega)]; show 0 + 1 ≤ c; omega); (case c1 => intro v hv; rw [List.mem_singleton.1 hv]; rfl); intro W2 hg2 hb2; have HG := Lib.hid (show W2.heap[w.heap.size]? = some (.cells (slices_Repeat_int_int.row x c 1).toArray 3 (0, 0)) by have h0 := hg2.out; rwa [show ([.int .i64 x] : List Value) = List.replicate 1 (.int .i64 x) from rfl, slices_Repeat_int_int.row_splice x (by omega)] at h0); have HB := Lib.hid hb2; clear HG0 HB0 hg2 hb2)
  go_loopg [8] (c - 1) (fun gn v wr => ∃ m : Nat, gn = c - m ∧ 1 ≤ m ∧ m ≤ c ∧ v = .int .i64 m ∧ Hid (wr.heap[w.heap.size]? = some (.cells (slices_Repeat_int_int.row x c m).toArray 3 (0, 0))) ∧ Hid (Below w.heap.size w wr))
  case atStart => exact ⟨1, rfl, by omega, by omega, rfl, HG, HB⟩
  case round =>
   clear HG HB
   obtain ⟨m, hgk, hm1, hm2, rfl, HG, HB⟩ := hrel
   by_cases hlt : m < c
   ·have q1 : (0 : Int) ≤ (m : Int) := by omega
    have q2 : (m : Int) ≤ (c : Int) := by omega
    have q3 : (m : Int) < (c : Int) := by omega
    obtain ⟨d, hd⟩ : ∃ d : Nat, d = min m (c - m) := ⟨_, rfl⟩
    have hd1 : 1 ≤ d := by omega
    have hd2 : m + d ≤ c := by omega
    have HD := Lib.hid hd
    clear hd
    have hne : ¬ c = m := by omega
    have ew : IntKind.i64.wrap ((m : Int) + (d : Int)) = (m : Int) + (d : Int) := IntWalk.i64_in _ (by omega)
    go_wp2
    go_region_law (refine step_copy_splice rfl (.tmp 41) (.tmp 44) 25 25 rfl 3 Try.underlying25 slices_Repeat_int_int.isz (some ⟨w.heap.size, m, none⟩) (some ⟨w.heap.size, 0, none⟩) (c - m) (c - m) m c ?hd ?hs w.heap.size m (slices_Repeat_int_int.row x c m) 3 HG.out (List.replicate d (.int .i64 x)) ?cn ?cp ?cf ?c1 w.heap.size w (zr HB.out) (Nat.le_refl _) ?_; (case hd => first | (go_simp; done) | (go_simp; rfl)); (case hs => first | (go_simp; done) | (go_simp; rfl)); (case cn => rw [List.length_replicate]; exact HD.out); (case cp => intro _; exact ⟨rfl, _, rfl, slices_Repeat_int_int.src HG.out hd1 HD.out⟩); (case cf => rw [slices_Repeat_int_int.row_len x hm2, List.length_replicate]; exact hd2); (case c1 => intro v hv; rw [List.eq_of_mem_replicate hv]; rfl); intro w4 hg4 hb4)
    all_goals
     have HG4 := Lib.hid (show w4.heap[w.heap.size]? = some (.cells (slices_Repeat_int_int.row x c (m + d)).toArray 3 (0, 0)) by have h0 := hg4.out; rwa [slices_Repeat_int_int.row_splice x hd2] at h0)
     have HB4 := Lib.hid hb4
     clear hg4 hb4 HG HB
     go_wp2
     go_roundg (c - (m + d))
     case measure => omega
     case rel => exact ⟨m + d, rfl, by omega, hd2, by go_num, HG4, HB4⟩
   ·obtain rfl : m = c := by omega
    go_wp2
    go_ret
    refine ⟨_, rfl, Kd.R_of_own (enc := Value.int .i64) (h1 := fun _ => rfl) ⟨by simp [encs], .inr ⟨w.heap.size, m, _, ?_, Nat.le_refl _, HG.out, ?_, by unfold maxLen; omega, ?_, ?_⟩⟩ (fun _ _ => trivial), HB.out⟩
    ·simp
    ·simp
    ·rw [List.size_toArray, slices_Repeat_int_int.row_len x (Nat.le_refl _)]; omega
    ·simp [encs, slices_Repeat_int_int.row, rd]
 ·rw [if_neg hc] at h
  cases h
def impl_grid.l0 : Nat → Int → Int → List (List Int) → Int → Int → Option ((List (List Int)))
 | 0, _, _, _, _, _ => none
 | k + 1, x1, x2, x7, x12, x13 => if x13 < x12 then ((slices_Repeat_int_int.f (([x2] : List Int)) x1).bind fun t298 => (if 0 ≤ x13 then (if x13 < (x7.length : Int) then (impl_grid.l0 k x1 x2 (x7.set (x13 : Int).toNat t298) x12 (wrap64 (x13 + 1))) else (none)) else (none))) else (some x7)
def impl_grid.f (k : Nat) (a0 : Int) (a1 : Int) (a2 : Int) : Option ((List (List Int))) := if 0 ≤ a0 then (if (a0 : Int).toNat ≤ 11728124029610 then ((some (List.replicate (a0 : Int).toNat [] : List (List Int))).bind fun y292 => (impl_grid.l0 k a1 a2 y292 (y292.length : Int) 0)) else (none)) else (none)
theorem impl_grid.zt : ∀ k, (∀ y0 y1 y2 y3 y4, LeO (impl_grid.l0 k y0 y1 y2 y3 y4) (impl_grid.l0 (k + 1) y0 y1 y2 y3 y4))
 | 0 => fun _ _ _ _ _ r h => by simp [impl_grid.l0] at h
 | k + 1 => by
  have ih0 := impl_grid.zt k
  ·intro y0 y1 y2 y3 y4
   unfold impl_grid.l0
   repeat' first
   | (with_reducible exact ih0 _ _ _ _ _)
   | (with_reducible exact LeO.refl _)
   | (with_reducible exact LeO.none _)
   | (with_reducible refine LeO.ite ?_ ?_)
   | (with_reducible refine LeO.bind ?_ (fun _ => ?_))
   | exact ih0 _ _ _ _ _
   | exact LeO.none _
   | refine LeO.ite ?_ ?_
   | refine LeO.bind ?_ (fun _ => ?_)
theorem impl_grid.mono : ∀ a0 a1 a2 k, LeO (impl_grid.f k a0 a1 a2) (impl_grid.f (k + 1) a0 a1 a2) := by
 intro a0 a1 a2 k
 have ih0 := impl_grid.zt k
 unfold impl_grid.f
 repeat' first
   | (with_reducible exact ih0 _ _ _ _ _)
   | (with_reducible exact LeO.refl _)
   | (with_reducible exact LeO.none _)
   | (with_reducible refine LeO.ite ?_ ?_)
   | (with_reducible refine LeO.bind ?_ (fun _ => ?_))
   | exact ih0 _ _ _ _ _
   | exact LeO.none _
   | refine LeO.ite ?_ ?_
   | refine LeO.bind ?_ (fun _ => ?_)
set_option maxHeartbeats 8000000 in
set_option maxRecDepth 100000 in
theorem impl_grid.calls (k : Nat) (a0 : Int) (a1 : Int) (a2 : Int) (r : List (List Int)) (w : World) (h : impl_grid.f k a0 a1 a2 = some r) :
  Calls Try.prog 62 #[.int .i64 a0, .int .i64 a1, .int .i64 a2] w fun e w' => ∃ v0_ : Value, e = .returned (v0_) ∧ Kd.S (Kd.slice 3 (Kd.int .i64)) 25 w' w.heap.size (fun _ => True) v0_ r ∧ Below w.heap.size w w' := by
 have HB := qb.mk (Below.refl w.heap.size w);have H : (if 0 ≤ a0 then (if (a0 : Int).toNat ≤ 11728124029610 then ((some (List.replicate (a0 : Int).toNat [] : List (List Int))).bind fun b2 => (impl_grid.l0 k a1 a2 b2 (b2.length : Int) 0)) else (none)) else (none)) = some r := h;clear h
 by_cases c4 : 0 ≤ a0
 ·rw [if_pos c4] at H
  have c4b0 := eq_true c4;have c4b1 : decide (0 ≤ a0) = true := decide_eq_true c4;clear c4
  by_cases c5 : (a0 : Int).toNat ≤ 11728124029610
  ·rw [if_pos c5] at H
   have c5b0 := eq_true c5;have c5b1 : decide ((a0 : Int).toNat ≤ 11728124029610) = true := decide_eq_true c5;clear c5;obtain ⟨b2, hy292⟩ : ∃ y_ : List (List Int), y_ = (List.replicate (a0 : Int).toNat []) := ⟨_, rfl⟩;replace H : (impl_grid.l0 k a1 a2 b2 (b2.length : Int) 0) = some r := by first | (rw [hy292]; with_reducible exact H) | (have H2_ := (Option.bind_some _ _).symm.trans H; rw [hy292]; with_reducible exact H2_) | (have H2_ := (Option.bind_some _ _).symm.trans H; with_reducible exact H2_) | with_reducible exact H | (rw [hy292]; exact H) | exact H
   have b6 := qb.mk hy292;clear hy292;have H' := qb.mk H;clear H
   go_enter Try.func62, Try.ntmps62
   go_wp2_with (first | ((with_reducible refine ze (N := 10) rfl ?_); refine Kd.S_make (Kd.slice 3 (Kd.int .i64)) _ 25 rfl (N := 10) rfl 45 _ _ rfl a0 rfl rfl Try.underlying45 (.slice none 0 0) 24 info25 rfl (by decide) (by omega) [] (ok := fun _ => True) (okp := fun _ => True) ⟨_, rfl, Kd.R_nil _ _ _ _ _⟩ (fun _ hk => hk) trivial (of_decide_eq_true (by first | (with_reducible assumption) | assumption)) (Nat.le_trans (Nat.mul_le_mul_right _ (of_decide_eq_true (by first | (with_reducible assumption) | assumption) : a0.toNat ≤ 11728124029610)) (by omega)) (Below.refl _ _) (Nat.le_refl _) ?_; intro v293 w6 ho7 hb hg_ hnew_; clear hg_ hnew_; (first | rw [← b6.out] at ho7 | (simp only [Int.reduceToNat] at ho7; rw [← b6.out] at ho7)); have n0_ := qb.mk (Kd.S_lower ho7 (ql (be0_ HB))); have n1_ := qb.mk (qp (be0_ HB) hb); clear HB; have b7 := n0_; have HB := n1_; clear n0_ n1_; clear hb ho7; obtain ⟨Ao8, co8, eo8⟩ := Kd.S_slice b7.out; subst eo8))
   go_loopg [13] k (fun kq v13 w' => ∃ (x7_1 : List (List Int)) (x13_1 : Int), v13 = .int .i64 x13_1 ∧ qb (impl_grid.l0 kq a1 a2 x7_1 (b2.length : Int) x13_1 = some r) ∧ qb (kq ≤ k) ∧ qb (Kd.S (Kd.slice 3 (Kd.int .i64)) 25 w' w.heap.size (fun _ => True) (.slice Ao8 b2.length co8) x7_1) ∧ qb (Below w.heap.size w w'))
   case atStart => exact ⟨(b2), (0), (by first | rfl | (simp; done) | (simp [*]; done)), H', ⟨Nat.le_refl _⟩, ⟨by (with_reducible repeat (first | apply Kd.S_alloc | apply Kd.S_drewN | apply Kd.S_drew)); exact b7.out⟩, ⟨be0_ HB⟩⟩
   case round =>
    clear H';(try clear c4);(try clear c4b0);(try clear c4b1);(try clear c5);(try clear c5b0);(try clear c5b1);obtain ⟨x7_1, x13_1, rfl, HA, HK1, b0, HB⟩ := hrel;have hl7_1 := (Kd.S_reads' b0.out).1;rw [hl7_1] at b0
    (try simp only [hl7_1])
    cases gk with
    | zero => exact absurd HA.out (by simp [impl_grid.l0])
    | succ k1 =>
     have H := HA.out;clear HA
     simp only [impl_grid.l0] at H
     by_cases c9 : x13_1 < (b2.length : Int)
     ·rw [if_pos c9] at H
      have c9b0 : decide (x13_1 < (b2.length : Int)) = true := decide_eq_true c9
      (try (have c9b0hl7_1 := c9b0; rw [hl7_1] at c9b0hl7_1))
      clear c9;obtain ⟨b3, hy295⟩ : ∃ y_ : List Int, y_ = (([a2] : List Int)) := ⟨_, rfl⟩;replace H : ((slices_Repeat_int_int.f b3 a1).bind fun b4 => (if 0 ≤ x13_1 then (if x13_1 < (x7_1.length : Int) then (impl_grid.l0 k1 a1 a2 (x7_1.set (x13_1 : Int).toNat b4) (b2.length : Int) (wrap64 (x13_1 + 1))) else (none)) else (none))) = some r := by first | (rw [hy295]; with_reducible exact H) | (have H2_ := (Option.bind_some _ _).symm.trans H; rw [hy295]; with_reducible exact H2_) | (have H2_ := (Option.bind_some _ _).symm.trans H; with_reducible exact H2_) | with_reducible exact H | (rw [hy295]; exact H) | exact H
      have b8 := qb.mk hy295;clear hy295;replace H := Option.bind_eq_some_iff.mp H;obtain ⟨b4, A100, H⟩ := H;replace H : (if 0 ≤ x13_1 then (if x13_1 < (x7_1.length : Int) then (impl_grid.l0 k1 a1 a2 (x7_1.set (x13_1 : Int).toNat b4) (b2.length : Int) (wrap64 (x13_1 + 1))) else (none)) else (none)) = some r := H;have A10 := qb.mk A100;clear A100
      by_cases c11 : 0 ≤ x13_1
      ·rw [if_pos c11] at H
       have c11b0 : decide (0 ≤ x13_1) = true := decide_eq_true c11;clear c11
       by_cases c12 : x13_1 < (x7_1.length : Int)
       ·rw [if_pos c12] at H
        have c12b0 : decide (x13_1 < (x7_1.length : Int)) = true := decide_eq_true c12
        (try (have c12b0hl7_1 := c12b0; rw [hl7_1] at c12b0hl7_1))
        clear c12;obtain ⟨b9, hy301⟩ : ∃ y_ : List (List Int), y_ = (x7_1.set (x13_1 : Int).toNat b4) := ⟨_, rfl⟩;replace H : (impl_grid.l0 k1 a1 a2 b9 (b2.length : Int) (wrap64 (x13_1 + 1))) = some r := by first | (rw [hy301]; with_reducible exact H) | (have H2_ := (Option.bind_some _ _).symm.trans H; rw [hy301]; with_reducible exact H2_) | (have H2_ := (Option.bind_some _ _).symm.trans H; with_reducible exact H2_) | with_reducible exact H | (rw [hy301]; exact H) | exact H
        have d0 := qb.mk hy301;clear hy301;have H' := qb.mk H;clear H
        go_wp2_with (first | ((with_reducible refine ze (N := 19) rfl ?_); refine Kd.R_lit (Kd.int .i64) _ 3 ?hg (N := 19) ?hd (xs := ([a2] : List Int)) (inner := [.int .i64 a2]) (ok := fun _ => True) (okp := fun _ => True) ?hr ?hp (fun _ hk => hk) trivial (Below.refl _ _) (Nat.le_refl _) (by simp) ?_; (case hd => rfl); (case hg => rfl); (case hr => first | (go_simp; done) | (go_simp; rfl)); (case hp => exact (Reps.one (show Kd.M (Kd.int .i64) _ _ _ a2 [.int .i64 a2] from rfl) (Reps.none _ _))); intro v296 w14 ho15 hb hg_ hnew_; clear hg_ hnew_; (first | rw [← b8.out] at ho15 | (simp only [Int.reduceToNat] at ho15; rw [← b8.out] at ho15)); have n0_ := qb.mk (Kd.S_elder' (by (with_reducible repeat (first | apply Kd.S_alloc | apply Kd.S_drewN | apply Kd.S_drew)); exact b0.out) (Kd.zu ho15) hb); have n1_ := qb.mk (Kd.zp ho15 (ql (be0_ HB))); have n2_ := qb.mk (qp (be0_ HB) hb); clear b0; clear HB; have b0 := n0_; have b1 := n1_; have HB := n2_; clear n0_ n1_ n2_; clear hb ho15; obtain ⟨Ao16, co16, eo16⟩ := Kd.zn b1.out; subst eo16) | ((with_reducible refine qx (f := 77) rfl ?_); refine zl (some 21) rfl rfl Try.func77 (by kernel_rfl) rfl #[.slice Ao16 b3.length co16, .int .i64 a1] rfl (by (try simp only [List.map_toArray, List.map_cons, List.map_nil]); first | done | rfl | (simp only [List.length_drop, List.length_take]; rfl)) ?_; (with_reducible refine (slices_Repeat_int_int.calls _ _ b3 a1 b4 _ ?side1 ?side2 A10.out).mono ?_); (case side1 => repeat (first | exact (Kd.qw b1.out).2.2 | (with_reducible refine Kd.za ?_ _) | (with_reducible refine Kd.zb ?_ _) | (with_reducible refine Kd.zf ?_))); (case side2 => exact (Kd.qw b1.out).2.1); rintro e w17 ⟨v299, rfl, ho0, hb⟩; (first | have HSL_v299 := qb.mk (Kd.zn ho0) | have HSL_v299 := qb.mk (Kd.S_slice ho0) | skip); refine ⟨_, rfl, ?_⟩; have n0_ := qb.mk (Kd.S_elder' (by (with_reducible repeat (first | apply Kd.S_alloc | apply Kd.S_drewN | apply Kd.S_drew)); exact b0.out) (Kd.zu ho0) hb); have n1_ := qb.mk (Kd.zm (kr_ b1) (Kd.zu ho0) hb); have n2_ := qb.mk (Kd.zp (Kd.zv ho0 (Kd.R_lt (kr_ b1))) (ql (be0_ HB))); have n3_ := qb.mk (qp (be0_ HB) hb); clear b0; clear b1; clear HB; have b0 := n0_; have b1 := n1_; have b5 := n2_; have HB := n3_; clear n0_ n1_ n2_ n3_; (try clear hb); (try clear hb2); (try clear hk); (try clear hi); (try clear ho0); have p13 : 0 ≤ (x13_1 : Int) := of_decide_eq_true (by first | (with_reducible assumption) | assumption); have q13 : (x13_1 : Int) < ((x7_1.length : Int) : Int) := of_decide_eq_true (by first | (with_reducible assumption) | assumption); obtain ⟨go13, co13, eo13, d1, gl13, cl13, HG13⟩ := Kd.S_form b0.out (by omega); (first | cases eo13 | (injection eo13 with ea_ en_ ec_; (first | subst ea_ | (injection ea_ with ea_; subst ea_)); subst ec_; clear en_)); have GB13 := qb.mk d1; have GG13 := qb.mk HG13; clear d1 gl13 HG13; obtain ⟨_, ce13, hcl13, hM13, hcc13, hfr13, _, _⟩ := Kd.S_elem b0.out [] (x13_1 : Int) p13 q13; obtain ⟨ve13_0, rfl, ge13_0⟩ := hM13; have hx13_0 := hcc13 0 _ rfl; have hf13_0 := hfr13 0; (try simp only [show ((Kd.slice 3 (Kd.int .i64))).sz = 1 from rfl, Nat.mul_one, Nat.add_zero] at hx13_0); (try simp only [show ((Kd.slice 3 (Kd.int .i64))).sz = 1 from rfl, Nat.mul_one, Nat.add_zero] at hf13_0); (try clear hM13); clear hcl13 hcc13 hfr13; replace p13 := eq_true p13; replace q13 := eq_true q13; have n_ := qb.mk (Kd.S_mono (ok' := (fun k_ => some k_ ≠ (.slice Ao16 b3.length co16 : Value).ownBlock ∧ some k_ ≠ (v299 : Value).ownBlock)) b0.out (fun k_ hk => ⟨hk.1.2, hk.2⟩)); clear b0; have b0 := n_; clear n_; have HX18 := qb.mk (show Kd.S (Kd.slice 3 (Kd.int .i64)) 25 w17 w.heap.size (fun k_ => ((fun k_ => some k_ ≠ (.slice Ao16 b3.length co16 : Value).ownBlock)) k_ ∧ ¬ ((fun k_ => some k_ = (v299 : Value).ownBlock)) k_) (.slice (some ⟨go13, 0, none⟩) x7_1.length co8) x7_1 from (by (with_reducible repeat (first | apply Kd.S_alloc | apply Kd.S_drewN | apply Kd.S_drew)); exact Kd.S_mono b0.out (fun k_ hk => ⟨hk.1, fun e_ => hk.2 e_⟩))); obtain ⟨oki18, ce18, hcl18, hM18, hcc18, hfr18, hoki18, hH18⟩ := Kd.S_elem HX18.out [] (x13_1 : Int) (of_decide_eq_true (by first | (with_reducible assumption) | assumption)) (by have h_ : (x13_1 : Int) < ((x7_1.length : Int) : Int) := of_decide_eq_true (by first | (with_reducible assumption) | assumption); first | exact h_ | (have e_ := (Kd.S_reads' b0.out).1; omega) | simpa using h_); obtain ⟨ve18_0, rfl, ge18_0⟩ := hM18; have HP18 := Kd.S_seg hH18 (of_decide_eq_true (by first | (with_reducible assumption) | assumption)) (by have h_ : (x13_1 : Int) < ((x7_1.length : Int) : Int) := of_decide_eq_true (by first | (with_reducible assumption) | assumption); first | exact h_ | (have e_ := (Kd.S_reads' b0.out).1; omega) | simpa using h_) (seg := [v299]) (j := 0) (show 1 ≤ 1 from by decide) (x' := b4) (Kd.M_row (Kd.zh (Kd.R_tight rfl (Kd.zh (ok' := fun k_ => ((fun k_ => some k_ ≠ (.slice Ao16 b3.length co16 : Value).ownBlock)) k_ ∧ k_ ≠ go13) (Kd.R_apart' (b5.out) (Kd.S_typed b0.out) (by decide)) (fun k_ hk => ⟨hk.1.2, fun e_ => (hk.2) (by rw [e_]; rfl)⟩))) (fun _ h_ => Or.inr (h_)))) (fun _ hk => hk) (fun k_ hk_ => ((Kd.zh (ok' := fun k_ => ((fun k_ => some k_ ≠ (.slice Ao16 b3.length co16 : Value).ownBlock)) k_ ∧ k_ ≠ go13) (Kd.R_apart' (b5.out) (Kd.S_typed b0.out) (by decide)) (fun k_ hk => ⟨hk.1.2, fun e_ => (hk.2) (by rw [e_]; rfl)⟩))).1 k_ hk_.symm); have hx18_0 := hcc18 0 _ rfl; (try simp only [show ((Kd.slice 3 (Kd.int .i64))).sz = 1 from rfl, Nat.mul_one, Nat.add_zero] at hx18_0); have hf18_0 := hfr18 0; (try simp only [show ((Kd.slice 3 (Kd.int .i64))).sz = 1 from rfl, Nat.mul_one, Nat.add_zero] at hf18_0); (try clear hM18); clear hcl18 hcc18 hfr18 hoki18 hH18; (try simp only [show ((Kd.slice 3 (Kd.int .i64))).sz = 1 from rfl, Nat.mul_one, Nat.add_zero] at HP18)) | ((with_reducible refine gate_store (t := 25) (p := 22) rfl ?_); refine store_event (t := 25) (p := 22) (v := ?vo_w19) (w1 := (w17.setCell ⟨go13, (x13_1 : Int).toNat, none⟩ (v299))) ?hg ?ho ?hn ?hr ?_; (case ho => rfl); (case hg => rfl); (case hn => rfl); (case hr => first | (go_simp; done) | (go_simp; rfl) | (obtain ⟨Az_, cz_, ez_⟩ := HSL_v299.out; subst ez_; first | (go_simp; done) | (go_simp; rfl))); intro w19 hw; have hg : w17.grownBy w19 (some go13) := (by rw [hw]; exact HP18.2); have hp_ : Kd.S (Kd.slice 3 (Kd.int .i64)) 25 w19 w.heap.size (fun k_ => some k_ ≠ (.slice Ao16 b3.length co16 : Value).ownBlock) (.slice (some ⟨go13, 0, none⟩) x7_1.length co8) b9 := (by rw [hw, d0.out]; exact HP18.1); clear HP18; have n0_ := qb.mk (hp_); have n1_ := qb.mk (Kd.R_over' (v := (.slice (some ⟨go13, 0, none⟩) x7_1.length co8)) (kr_ b1) (Kd.S_typed b0.out) (by decide) hg); have n2_ := qb.mk ((by rw [hw]; exact qf (HB.out) GB13.out : Below w.heap.size w w19)); clear b0; clear b1; clear HB; clear b5; have b0 := n0_; have b1 := n1_; have HB := n2_; clear n0_ n1_ n2_; clear hg hw hp_))
        (try simp only [← hl7_1])
        go_roundg k1
        case measure => have := HK1.out; omega
        case rel => exact ⟨(b9), (wrap64 (x13_1 + 1)), (by first | rfl | (simp; done) | (simp [*]; done)), H', ⟨by have := HK1.out; omega⟩, ⟨by (try simp only [hl7_1]); (with_reducible repeat (first | apply Kd.S_alloc | apply Kd.S_drewN | apply Kd.S_drew)); exact Kd.S_mono b0.out (fun _ hk => trivial)⟩, ⟨be0_ HB⟩⟩
       ·rw [if_neg c12] at H
        exact absurd H (by simp)
      ·rw [if_neg c11] at H
       exact absurd H (by simp)
     ·rw [if_neg c9] at H
      have c9b0 : decide (x13_1 < (b2.length : Int)) = false := decide_eq_false c9
      (try (have c9b0hl7_1 := c9b0; rw [hl7_1] at c9b0hl7_1))
      clear c9;obtain rfl := Option.some.inj H
      go_wp2
      go_ret
      exact ⟨_, by first | rfl | (simp [qt, qr] <;> rfl) | (simp [*, qt, qr] <;> rfl), by (with_reducible repeat (first | apply Kd.S_alloc | apply Kd.S_drewN | apply Kd.S_drew)); exact b0.out, be0_ HB⟩
  ·rw [if_neg c5] at H
   exact absurd H (by simp)
 ·rw [if_neg c4] at H
  exact absurd H (by simp)
def impl_distancesTo.rd2 (g : List (List Int)) (x y : Int) : Int := rd (g.getD x.toNat []) y
def impl_distancesTo.set2 (g : List (List Int)) (x y v : Int) : List (List Int) := g.set x.toNat ((g.getD x.toNat []).set y.toNat v)
def impl_distancesTo.step (k : Nat) (W H : Int) (l : List S58) (x y s : Int) (st : List (List Int) × List (List Int)) : Option (List (List Int) × List (List Int)) :=
 (impl_moved.f [x, y] s).bind fun b => if impl_stepIn.in_ W H (rd b 0) (rd b 1) = true then (if impl_distancesTo.rd2 st.1 (rd b 0) (rd b 1) < 0 then ((impl_stepIn.can k W H l [x, y] s).bind fun t => if t = true then (if st.2.length < 1000000 then some (impl_distancesTo.set2 st.1 (rd b 0) (rd b 1) (wrap64 (impl_distancesTo.rd2 st.1 x y + 1)), st.2 ++ [b]) else none) else some st) else some st) else some st
def impl_distancesTo.steps (k : Nat) (W H : Int) (l : List S58) (x y : Int) : Nat → List (List Int) × List (List Int) → Option (List (List Int) × List (List Int))
 | 0, st => some st
 | j + 1, st => (impl_distancesTo.steps k W H l x y j st).bind fun s => impl_distancesTo.step k W H l x y (j : Int) s
def impl_distancesTo.pair (W H : Int) (l : List Int) : Bool := decide (l.length = 2) && (decide (0 ≤ rd l 0 ∧ rd l 0 ≤ W - 1) && decide (0 ≤ rd l 1 ∧ rd l 1 ≤ H - 1))
def impl_distancesTo.l1 (W H : Int) (l : List S58) : Nat → Nat → List (List Int) × List (List Int) → Option (List (List Int))
 | 0, _, _ => none
 | k + 1, i, st => if i < st.2.length then (if impl_distancesTo.pair W H (st.2.getD i []) = true then (impl_distancesTo.steps k W H l (rd (st.2.getD i []) 0) (rd (st.2.getD i []) 1) 4 st).bind fun s => impl_distancesTo.l1 W H l k (i + 1) s else none) else some st.1
def impl_distancesTo.ok (W H : Int) (l1 : List Int) : Bool := decide (1 ≤ W ∧ W ≤ 8) && (decide (1 ≤ H ∧ H ≤ 8) && impl_distancesTo.pair W H l1)
def impl_distancesTo.shape (W H : Int) (g : List (List Int)) : Bool := decide ((g.length : Int) = W) && g.all fun r => decide ((r.length : Int) = H)
def impl_distancesTo.f (k : Nat) (a0_0 : Int) (a0_1 : Int) (l0_2 : List S58) (l1 : List Int) : Option (List (List Int)) := if impl_distancesTo.ok a0_0 a0_1 l1 = true then (impl_grid.f k a0_0 a0_1 (-1)).bind fun g => if impl_distancesTo.shape a0_0 a0_1 g = true then impl_distancesTo.l1 a0_0 a0_1 l0_2 k 0 (impl_distancesTo.set2 g (rd l1 0) (rd l1 1) 0, [l1]) else none else none
theorem impl_distancesTo.steps_mono (k : Nat) (W H : Int) (l : List S58) (x y : Int) : ∀ j st, LeO (impl_distancesTo.steps k W H l x y j st) (impl_distancesTo.steps (k + 1) W H l x y j st)
 | 0, _ => LeO.refl _
 | j + 1, st => LeO.bind (impl_distancesTo.steps_mono k W H l x y j st) (fun _ => LeO.bind (LeO.refl _) (fun _ => LeO.ite (LeO.ite (LeO.bind (impl_stepIn.can_mono _ _ _ _ _ _) (fun _ => LeO.refl _)) (LeO.refl _)) (LeO.refl _)))
theorem impl_distancesTo.l1_mono (W H : Int) (l : List S58) : ∀ k i st, LeO (impl_distancesTo.l1 W H l k i st) (impl_distancesTo.l1 W H l (k + 1) i st)
 | 0, _, _ => LeO.none _
 | k + 1, i, st => LeO.ite (LeO.ite (LeO.bind (impl_distancesTo.steps_mono k W H l _ _ _ _) (fun s => impl_distancesTo.l1_mono W H l k (i + 1) s)) (LeO.refl _)) (LeO.refl _)
theorem impl_distancesTo.mono : ∀ a0 a1 a2 a3 k, LeO (impl_distancesTo.f k a0 a1 a2 a3) (impl_distancesTo.f (k + 1) a0 a1 a2 a3) := fun a0 a1 a2 a3 k => LeO.ite (LeO.bind (impl_grid.mono _ _ _ _) (fun _ => LeO.ite (impl_distancesTo.l1_mono _ _ _ k _ _) (LeO.refl _))) (LeO.refl _)
theorem impl_distancesTo.steps_at {k : Nat} {W H : Int} {l : List S58} {x y : Int} {n : Nat} {st s : List (List Int) × List (List Int)} (h : impl_distancesTo.steps k W H l x y n st = some s) : ∀ d j : Nat, j + d = n → ∃ s1, impl_distancesTo.steps k W H l x y j st = some s1
 | 0, j, hj => ⟨s, by rw [show j = n by omega]; exact h⟩
 | d + 1, j, hj => by
  obtain ⟨s1, h1⟩ := impl_distancesTo.steps_at h d (j + 1) (by omega)
  obtain ⟨s2, h2, _⟩ := Option.bind_eq_some_iff.mp h1
  exact ⟨s2, h2⟩
theorem impl_distancesTo.shape_len {W H : Int} {g : List (List Int)} (h : impl_distancesTo.shape W H g = true) : (g.length : Int) = W ∧ ∀ i : Nat, (i : Int) < W → ((g.getD i []).length : Int) = H := by
 unfold impl_distancesTo.shape at h
 simp only [Bool.and_eq_true, decide_eq_true_eq, List.all_eq_true] at h
 refine ⟨h.1, fun i hi => ?_⟩
 have h3 : i < g.length := by omega
 have : g.getD i [] = g[i] := by simp [h3]
 rw [this]
 exact h.2 _ (List.getElem_mem h3)
theorem impl_distancesTo.shape_set {W H : Int} {g : List (List Int)} (h : impl_distancesTo.shape W H g = true) (x y v : Int) : impl_distancesTo.shape W H (impl_distancesTo.set2 g x y v) = true := by
 unfold impl_distancesTo.set2
 rcases Nat.lt_or_ge x.toNat g.length with h3 | h3
 ·unfold impl_distancesTo.shape at *
  simp only [Bool.and_eq_true, decide_eq_true_eq, List.all_eq_true] at *
  refine ⟨by simpa using h.1, fun r hr => ?_⟩
  rcases List.mem_or_eq_of_mem_set hr with hr | rfl
  ·exact h.2 r hr
  ·have : g.getD x.toNat [] = g[x.toNat] := by simp [h3]
   rw [List.length_set, this]
   exact h.2 _ (List.getElem_mem h3)
 ·rw [List.set_eq_of_length_le h3]; exact h
theorem impl_distancesTo.step_shape {k : Nat} {W H : Int} {l : List S58} {x y s : Int} {st s' : List (List Int) × List (List Int)} (h : impl_distancesTo.step k W H l x y s st = some s') (hs : impl_distancesTo.shape W H st.1 = true) : impl_distancesTo.shape W H s'.1 = true := by
 obtain ⟨b, _, h2⟩ := Option.bind_eq_some_iff.mp h
 split at h2
 ·split at h2
  ·obtain ⟨t, _, h3⟩ := Option.bind_eq_some_iff.mp h2
   split at h3
   ·split at h3
    ·cases h3; exact impl_distancesTo.shape_set hs _ _ _
    ·cases h3
   ·cases h3; exact hs
  ·cases h2; exact hs
 ·cases h2; exact hs
theorem impl_distancesTo.steps_shape {k : Nat} {W H : Int} {l : List S58} {x y : Int} : ∀ {j : Nat} {st s : List (List Int) × List (List Int)}, impl_distancesTo.steps k W H l x y j st = some s → impl_distancesTo.shape W H st.1 = true → impl_distancesTo.shape W H s.1 = true
 | 0, st, s, h, hs => by cases h; exact hs
 | j + 1, st, s, h, hs => by
  obtain ⟨s1, h1, h2⟩ := Option.bind_eq_some_iff.mp h
  exact impl_distancesTo.step_shape h2 (impl_distancesTo.steps_shape h1 hs)
def impl_distancesTo.setIter (W : World) (g : Nat) (o : Obj) : World := { W with heap := W.heap.setIfInBounds g o }
theorem impl_distancesTo.next_at {P : Program} (W : World) (g : Nat) (s : ByteArray) (pos : Nat) (ty : TypeId) (hi : W.heap[g]? = some (.stringIter s pos)) (h : pos < s.size) (ha : (s[pos]'h).toNat < 128) :
  (Instr.next (.pointer (some ⟨g, 0, none⟩)) true ty).run P W = .ok (.tuple #[.bool true, .int .i64 pos, .int .i32 (s[pos]'h).toNat]) (impl_distancesTo.setIter W g (.stringIter s (pos + 1))) := by
 simp only [Instr.next, getObj, setObj, Sem.run_bind, Sem.run, hi, Result.andThen, h, if_true, decode_ascii s pos h ha]
 simp [goInt, Sem.run, hi, impl_distancesTo.setIter]
theorem impl_distancesTo.next_end {P : Program} (W : World) (g : Nat) (s : ByteArray) (pos : Nat) (ty : TypeId) (hi : W.heap[g]? = some (.stringIter s pos)) (h : ¬ pos < s.size) :
  (Instr.next (.pointer (some ⟨g, 0, none⟩)) true ty).run P W = .ok (.tuple #[.bool false]) W := by
 simp [Instr.next, getObj, Sem.run, hi, h]
theorem impl_distancesTo.setIter_other {W : World} {g k : Nat} (o : Obj) (h : k ≠ g) : (impl_distancesTo.setIter W g o).heap[k]? = W.heap[k]? := by
 simp [impl_distancesTo.setIter, Array.getElem?_setIfInBounds, Ne.symm h]
theorem impl_distancesTo.setIter_same {W : World} {g : Nat} (o : Obj) (h : g < W.heap.size) : (impl_distancesTo.setIter W g o).heap[g]? = some o := by
 simp [impl_distancesTo.setIter, Array.getElem?_setIfInBounds, h]
theorem impl_distancesTo.setIter_size (W : World) (g : Nat) (o : Obj) : (impl_distancesTo.setIter W g o).heap.size = W.heap.size := by simp [impl_distancesTo.setIter]
theorem impl_distancesTo.setIter_below {w W : World} {b g : Nat} (h : Below b w W) (hg : b ≤ g) (o : Obj) : Below b w (impl_distancesTo.setIter W g o) :=
 ⟨h.os, h.tape, h.output, by rw [impl_distancesTo.setIter_size]; exact h.size, fun k hk => (impl_distancesTo.setIter_other o (by omega)).trans (h.block k hk)⟩
theorem impl_distancesTo.grid_row {W : World} {base g n cap : Nat} {ok : Nat → Prop} {xs : List (List Int)} (h : Kd.S (Kd.slice 3 (Kd.int .i64)) 25 W base ok (.slice (some ⟨g, 0, none⟩) n cap) xs) {i : Nat} (hi : i < n) (hp : 0 < (xs.getD i []).length) :
  ∃ rb cp, W.cell? ⟨g, i, none⟩ = some (.slice (some ⟨rb, 0, none⟩) (xs.getD i []).length cp) ∧ ok rb ∧
   (∀ j, j < (xs.getD i []).length → W.cell? ⟨rb, j, none⟩ = some (.int .i64 (rd (xs.getD i []) (j : Int))) ∧ W.frozen? ⟨rb, j, none⟩ = false) ∧
   (∀ (j : Nat) x, Kd.S (Kd.slice 3 (Kd.int .i64)) 25 (W.setCell ⟨rb, j, none⟩ (.int .i64 x)) base ok (.slice (some ⟨g, 0, none⟩) n cap) (xs.set i ((xs.getD i []).set j x))) := by
 obtain ⟨oki, c, hcl, hM, hcc, hfr, hoki, hH⟩ := Kd.S_elem h ([] : List Int) (i : Int) (by omega) (by omega)
 rw [Int.toNat_natCast] at hM hcc
 obtain ⟨v, rfl, hR⟩ := hM
 obtain ⟨rb, cp, rfl, hb, hlt, cells, hc⟩ := Kd.R_form hR hp
 have hok := hR.1 rb (by simp [Value.ownBlock])
 refine ⟨rb, cp, ?_, (hoki rb hok).1, fun j hj => ⟨?_, qj hc j⟩, fun j x => ?_⟩
 ·have h0 := hcc 0 _ rfl
  simpa [Kd.slice] using h0
 ·obtain ⟨ad, e, hx⟩ := Kd.jc (Kd.qw hR).2.2 (j : Int) (by omega) (by omega)
  cases e
  rw [Int.toNat_natCast, add_plain] at hx
  exact hx
 ·obtain ⟨h1, h2⟩ := Kd.R_putg (h1 := fun _ => rfl) (enc := Value.int .i64) hR (j : Int) x
  rw [Int.toNat_natCast] at h1 h2
  have h3 := Kd.H_back (Kd.H_grown hH h2 (fun k e => by cases e; exact hok)) (x' := (xs.getD i []).set j x) (okp := oki) ⟨_, rfl, h1⟩ (fun _ hk => hk)
  rw [Int.toNat_natCast] at h3
  exact h3
theorem impl_distancesTo.two {w : World} {A : Option Addr} {n : Nat} {x y : Int} (h : Kd.C (Kd.int .i64) w A n [x, y]) : ∃ ad, A = some ad ∧ n = 2 ∧ w.cell? ad = some (.int .i64 x) ∧ w.cell? ⟨ad.block, ad.off + 1, none⟩ = some (.int .i64 y) := by
 obtain rfl : n = 2 := h.1.symm
 obtain ⟨ad, rfl, hx⟩ := Kd.jc h 0 (by decide) (by decide)
 obtain ⟨ad', e', hy⟩ := Kd.jc h 1 (by decide) (by decide)
 obtain rfl := Option.some.inj e'
 refine ⟨ad, rfl, rfl, ?_, ?_⟩
 ·have h0 : w.cell? (ad.add 0) = some (.int .i64 x) := hx
  rwa [show ad.add 0 = ad by simp [Addr.add]] at h0
 ·have h0 : w.cell? (ad.add 1) = some (.int .i64 y) := hy
  rwa [show ad.add 1 = ⟨ad.block, ad.off + 1, none⟩ by simp [Addr.add]] at h0
abbrev impl_distancesTo.kq (w0 : World) : Kd (List Int) := Kd.mix 3 (Kd.int .i64) (Kd.int .i64) w0
structure impl_distancesTo.GV (w wr : World) (B : Nat) (C : Array Value) (a b : Nat) (gv : Value) (g : List (List Int)) (v : Value) (q : List (List Int)) : Prop where
  box : wr.heap[B]? = some (.cells C 31 (0, 0))
  grid : Kd.S (Kd.slice 3 (Kd.int .i64)) 25 wr a (fun k_ => a ≤ k_ ∧ k_ < b) gv g
  row : Kd.R (impl_distancesTo.kq w) 25 wr b (fun k_ => b ≤ k_) v q
  bel : Below w.heap.size w wr
  hB : B < a
  hw : w.heap.size ≤ a
  hab : a ≤ b
  hb : b ≤ wr.heap.size
section
variable {w wr w1 : World} {B a b : Nat} {C : Array Value} {gv v v1 : Value} {g : List (List Int)} {q ys : List (List Int)}
theorem impl_distancesTo.GV.below (h : impl_distancesTo.GV w wr B C a b gv g v q) (hb : Below wr.heap.size wr w1) : impl_distancesTo.GV w w1 B C a b gv g v q :=
 ⟨(hb.block _ (zd h.box)).trans h.box, Kd.S_below h.grid hb, Kd.qv h.row hb, zi h.bel h.bel.size hb, h.hB, h.hw, h.hab, Nat.le_trans h.hb hb.size⟩
theorem impl_distancesTo.GV.put (h : impl_distancesTo.GV w wr B C a b gv g v q) {rb : Nat} (hrb : a ≤ rb ∧ rb < b) (j : Nat) (x : Value) {g' : List (List Int)} (hg : Kd.S (Kd.slice 3 (Kd.int .i64)) 25 (wr.setCell ⟨rb, j, none⟩ x) a (fun k_ => a ≤ k_ ∧ k_ < b) gv g') : impl_distancesTo.GV w (wr.setCell ⟨rb, j, none⟩ x) B C a b gv g' v q := by
 have h1 := h.hB
 have h2 := h.hw
 refine ⟨zk h.box (by simp only; omega) _, hg, Kd.R_step h.row (fun k hk _ => Below.heap_setCell wr _ _ k (by simp only; omega)), h.bel.setCell (by simp only; omega) _, h.hB, h.hw, h.hab, by simpa using h.hb⟩
theorem impl_distancesTo.GV.app (h : impl_distancesTo.GV w wr B C a b gv g v q) (ho : Kd.R (impl_distancesTo.kq w) 25 w1 b (fun k_ => b ≤ k_) v1 ys) (hb : Below w.heap.size w w1) (hg : wr.grownBy w1 v.ownBlock) : impl_distancesTo.GV w w1 B C a b gv g v1 ys := by
 have hlo : ∀ k, v.ownBlock = some k → b ≤ k := fun k hk => (Kd.R_bound h.row).1 k hk |>.1
 have h1 := h.hB
 have h2 := h.hab
 exact ⟨zq h.box hg (fun e => by have := hlo _ e.symm; omega), Kd.S_grown h.grid hg (fun k hk e => by have := hlo _ e.symm; omega), ho, hb, h.hB, h.hw, h.hab, Nat.le_trans h.hb hg.size⟩
theorem impl_distancesTo.GV.next (h : impl_distancesTo.GV w wr B C a b gv g v q) {gi : Nat} {s : ByteArray} {p : Nat} (hi : wr.heap[gi]? = some (.stringIter s p)) (hgi : b ≤ gi) (o : Obj) : impl_distancesTo.GV w (impl_distancesTo.setIter wr gi o) B C a b gv g v q := by
 have h1 := h.hB
 have h2 := h.hab
 have h3 := h.hw
 refine ⟨(impl_distancesTo.setIter_other _ (by omega)).trans h.box, Kd.S_step h.grid (fun k hk _ => impl_distancesTo.setIter_other _ (by omega)), ?_, impl_distancesTo.setIter_below h.bel (by omega) _, h.hB, h.hw, h.hab, by rw [impl_distancesTo.setIter_size]; exact h.hb⟩
 refine Kd.zh (Kd.R_move (Kd.R_bound h.row) (fun k hk => impl_distancesTo.setIter_other _ ?_)) (fun _ hk => hk.1)
 rintro rfl
 obtain ⟨_, _, _, q', _, cells, hc⟩ := hk
 rw [hi] at hc
 cases hc
end
theorem impl_distancesTo.step_cases {k : Nat} {W H : Int} {l : List S58} {x y s : Int} {st s' : List (List Int) × List (List Int)} (h : impl_distancesTo.step k W H l x y s st = some s') : ∃ bx by_, impl_moved.f [x, y] s = some [bx, by_] ∧
  ((impl_stepIn.in_ W H bx by_ = false ∧ s' = st) ∨ (impl_stepIn.in_ W H bx by_ = true ∧ ¬ impl_distancesTo.rd2 st.1 bx by_ < 0 ∧ s' = st) ∨ (impl_stepIn.in_ W H bx by_ = true ∧ impl_distancesTo.rd2 st.1 bx by_ < 0 ∧ ∃ t, impl_stepIn.can k W H l [x, y] s = some t ∧
   (t = false ∧ s' = st ∨ t = true ∧ st.2.length < 1000000 ∧ s' = (impl_distancesTo.set2 st.1 bx by_ (wrap64 (impl_distancesTo.rd2 st.1 x y + 1)), st.2 ++ [[bx, by_]])))) := by
 obtain ⟨b, h1, h2⟩ := Option.bind_eq_some_iff.mp h
 obtain ⟨bx, by_, rfl⟩ : ∃ bx by_, b = [bx, by_] := by
  have h3 := h1
  unfold impl_moved.f at h3
  repeat' split at h3
  all_goals first | exact ⟨_, _, (Option.some.inj h3).symm⟩ | cases h3
 change (if impl_stepIn.in_ W H bx by_ = true then (if impl_distancesTo.rd2 st.1 bx by_ < 0 then ((impl_stepIn.can k W H l [x, y] s).bind fun t => if t = true then (if st.2.length < 1000000 then some (impl_distancesTo.set2 st.1 bx by_ (wrap64 (impl_distancesTo.rd2 st.1 x y + 1)), st.2 ++ [[bx, by_]]) else none) else some st) else some st) else some st) = some s' at h2
 refine ⟨bx, by_, h1, ?_⟩
 cases hi : impl_stepIn.in_ W H bx by_ with
 | false => left; rw [hi] at h2; exact ⟨rfl, by simpa using h2.symm⟩
 | true =>
  right
  rw [hi, if_pos rfl] at h2
  by_cases hn : impl_distancesTo.rd2 st.1 bx by_ < 0
  ·right
   rw [if_pos hn] at h2
   obtain ⟨t, ht, h3⟩ := Option.bind_eq_some_iff.mp h2
   refine ⟨rfl, hn, t, ht, ?_⟩
   cases t with
   | false => left; exact ⟨rfl, by simpa using h3.symm⟩
   | true =>
    right
    rw [if_pos rfl] at h3
    by_cases hl : st.2.length < 1000000
    ·rw [if_pos hl] at h3; exact ⟨rfl, hl, by simpa using h3.symm⟩
    ·rw [if_neg hl] at h3; cases h3
  ·left
   rw [if_neg hn] at h2
   exact ⟨rfl, hn, by simpa using h2.symm⟩
def impl_distancesTo.EL (w wr : World) (b : Nat) (v : Value) (e : List Int) (A : Option Addr) (c : Nat) : Prop := (impl_distancesTo.kq w).M wr b (fun k_ => b ≤ k_ ∧ some k_ ≠ v.ownBlock) e [.slice A e.length c]
section
variable {w wr w1 : World} {B a b c : Nat} {C : Array Value} {gv v v1 : Value} {g : List (List Int)} {q : List (List Int)} {e : List Int} {A : Option Addr}
theorem impl_distancesTo.EL.read (h : impl_distancesTo.EL w wr b v e A c) (hb : Below w.heap.size w wr) : e.length ≤ c ∧ Kd.C (Kd.int .i64) wr A e.length e := by
 obtain ⟨A0, c0, e0, hl, hC⟩ := Kd.mix_read rfl (fun _ _ h => h) hb ((impl_distancesTo.kq w).K_of_M h)
 simp only [List.cons.injEq, Value.slice.injEq, and_true] at e0
 obtain ⟨rfl, _, rfl⟩ := e0
 exact ⟨hl, hC⟩
theorem impl_distancesTo.EL.below (h : impl_distancesTo.EL w wr b v e A c) (hb : Below wr.heap.size wr w1) : impl_distancesTo.EL w w1 b v e A c := Kd.M_below h hb
theorem impl_distancesTo.EL.put (h : impl_distancesTo.EL w wr b v e A c) {rb : Nat} (hrb : rb < b) (j : Nat) (x : Value) : impl_distancesTo.EL w (wr.setCell ⟨rb, j, none⟩ x) b v e A c := Kd.M_step h (fun k hk _ => Below.heap_setCell wr _ _ k (by simp only; omega))
theorem impl_distancesTo.EL.next (h : impl_distancesTo.EL w wr b v e A c) {gi : Nat} {s : ByteArray} {p : Nat} (hi : wr.heap[gi]? = some (.stringIter s p)) (o : Obj) : impl_distancesTo.EL w (impl_distancesTo.setIter wr gi o) b v e A c := by
 refine (impl_distancesTo.kq w).M_mono (fun _ hk => hk.1) ((impl_distancesTo.kq w).M_move (fun k hk => impl_distancesTo.setIter_other _ ?_) ((impl_distancesTo.kq w).M_bound h))
 rintro rfl
 obtain ⟨_, _, _, q', _, cells, hc⟩ := hk
 rw [hi] at hc
 cases hc
theorem impl_distancesTo.EL.app (h : impl_distancesTo.EL w wr b v e A c) (hg : wr.grownBy w1 v.ownBlock) (hat : v1.ownBlock = v.ownBlock ∨ ∃ b, v1.ownBlock = some b ∧ wr.heap.size ≤ b) : impl_distancesTo.EL w w1 b v1 e A c := Kd.M_after h hg hat
theorem impl_distancesTo.EL.new {base n : Nat} (h : Kd.R (Kd.int .i64) 3 wr base (fun _ => True) (.slice A n c) e) (hb : b ≤ base) (hv : ∀ k, v.ownBlock = some k → k < base) : impl_distancesTo.EL w wr b v e A c := by
 obtain ⟨rfl, _⟩ := Kd.qw h
 exact Kd.mix_made (Kd.zh (Kd.zp (Kd.R_bound h) hb) (fun k hk => ⟨Nat.le_trans hb hk.2.1, fun ee => by have := hv k ee.symm; omega⟩))
theorem impl_distancesTo.GV.el {n cv : Nat} {Aq : Option Addr} (h : impl_distancesTo.GV w wr B C a b gv g (.slice Aq n cv) q) {i : Nat} (hi : i < q.length) : ∃ ad A0 c0, Aq = some ad ∧ wr.cell? (ad.add i) = some (.slice A0 (q.getD i []).length c0) ∧ impl_distancesTo.EL w wr b (.slice Aq n cv) (q.getD i []) A0 c0 := by
 obtain ⟨hn, _, hC⟩ := Kd.qw h.row
 obtain ⟨ad0, e0, _⟩ := hC.2.2 (by omega)
 subst e0
 obtain ⟨cs, _, hM, hc⟩ := Kd.R_getA h.row ([] : List Int) (i : Int) (by omega) (by omega)
 rw [Int.toNat_natCast] at hM hc
 obtain ⟨A0, c0, rfl, _, _⟩ := Kd.mix_read rfl (fun _ _ h => h) h.bel ((impl_distancesTo.kq w).K_of_M hM)
 refine ⟨ad0, A0, c0, rfl, ?_, hM⟩
 have h0 := hc 0 _ rfl
 simpa [impl_distancesTo.kq, Kd.mix, Kd.or_, Kd.fixed, Kd.slice] using h0
theorem impl_distancesTo.GV.start {W : World} {A : Option Addr} {c : Nat} {e : List Int} (hbox : W.heap[B]? = some (.cells C 31 (0, 0))) (hS : Kd.S (Kd.slice 3 (Kd.int .i64)) 25 W a (fun k_ => a ≤ k_ ∧ k_ < W.heap.size) gv g) (hbel : Below w.heap.size w W) (hB : B < a) (hw : w.heap.size ≤ a) (haW : a ≤ W.heap.size) (hC : Kd.C (Kd.int .i64) w A e.length e) (hl : e.length ≤ c) :
  impl_distancesTo.GV w (W.alloc (.cells #[.slice A e.length c] 25)) B C a W.heap.size gv g (.slice (some ⟨W.heap.size, 0, none⟩) 1 1) [e] := by
 refine ⟨qg hbox _, Kd.S_alloc hS _, ⟨?_, [.slice A e.length c], ?_, Reps.one (Kd.mix_came hl hC) (Reps.none _ _)⟩, qd hbel _, hB, hw, haW, by simp⟩
 ·intro k hk
  have : W.heap.size = k := by simpa [Value.ownBlock] using hk
  omega
 ·exact World.ownsRow_lit (base := W.heap.size) (e := 25) (size := 1) W #[.slice A e.length c] 1 (Nat.le_refl _) (by unfold maxLen; omega) (by simp)
end
theorem impl_distancesTo.asc : ∀ (m : Nat) (h : m < (⟨#[101, 110, 115, 119]⟩ : ByteArray).size), ((⟨#[101, 110, 115, 119]⟩ : ByteArray)[m]'h).toNat < 128
 | 0, _ => by show (101 : UInt8).toNat < 128; decide
 | 1, _ => by show (110 : UInt8).toNat < 128; decide
 | 2, _ => by show (115 : UInt8).toNat < 128; decide
 | 3, _ => by show (119 : UInt8).toNat < 128; decide
 | m + 4, h => absurd h (by show ¬ m + 4 < 4; omega)
theorem impl_distancesTo.in_t {W H : Nat} (hW : 1 ≤ W ∧ W ≤ 8) (hH : 1 ≤ H ∧ H ≤ 8) {x y : Int} (h : impl_stepIn.in_ W H x y = true) : (0 ≤ x ∧ x ≤ (W : Int) - 1) ∧ 0 ≤ y ∧ y ≤ (H : Int) - 1 := by
 unfold impl_stepIn.in_ at h
 rw [show wrap64 ((W : Int) - 1) = (W : Int) - 1 by unfold wrap64; omega, show wrap64 ((H : Int) - 1) = (H : Int) - 1 by unfold wrap64; omega] at h
 simpa using h
theorem impl_distancesTo.in_n {W H : Nat} (hW : 1 ≤ W ∧ W ≤ 8) (hH : 1 ≤ H ∧ H ≤ 8) {x y : Int} (h : impl_stepIn.in_ W H x y = false) : ¬ (0 ≤ x ∧ x ≤ (W : Int) - 1) ∨ ((0 ≤ x ∧ x ≤ (W : Int) - 1) ∧ ¬ (0 ≤ y ∧ y ≤ (H : Int) - 1)) := by
 unfold impl_stepIn.in_ at h
 rw [show wrap64 ((W : Int) - 1) = (W : Int) - 1 by unfold wrap64; omega, show wrap64 ((H : Int) - 1) = (H : Int) - 1 by unfold wrap64; omega] at h
 by_cases h1 : 0 ≤ x ∧ x ≤ (W : Int) - 1
 ·right
  refine ⟨h1, fun h2 => ?_⟩
  rw [decide_eq_true h1, decide_eq_true h2] at h
  cases h
 ·left; exact h1
theorem impl_distancesTo.GV.iter_app {w wr w1 : World} {B a b : Nat} {C : Array Value} {gv v : Value} {g : List (List Int)} {q : List (List Int)} (h : impl_distancesTo.GV w wr B C a b gv g v q) {gi : Nat} {s : ByteArray} {p : Nat} (hi : wr.heap[gi]? = some (.stringIter s p)) (hg : wr.grownBy w1 v.ownBlock) : w1.heap[gi]? = some (.stringIter s p) := by
 refine (hg.block gi (zd hi) ?_).trans hi
 intro e
 obtain ⟨cells, h1⟩ := Kd.R_typed h.row gi e.symm
 rw [hi] at h1
 cases h1
theorem impl_distancesTo.iter_put {wr : World} {gi rb b j : Nat} {s : ByteArray} {p : Nat} {x : Value} (hi : wr.heap[gi]? = some (.stringIter s p)) (h : rb < b) (hg : b ≤ gi) : (wr.setCell ⟨rb, j, none⟩ x).heap[gi]? = some (.stringIter s p) := (Below.heap_setCell wr _ x gi (by simp only; omega)).trans hi
theorem impl_distancesTo.info2 : (Try.prog.info? 25).map (fun i => (i.zero, i.size, i.bytes)) = some (some (.slice none 0 0), 1, 24) := by kernel_rfl
set_option maxHeartbeats 8000000 in
set_option maxRecDepth 100000 in
theorem impl_distancesTo.by_ (k : Nat) (W H : Nat) (AL : Option Addr) (cL : Nat) (l : List S58) (B : Nat) (A1 : Option Addr) (c1 : Nat) (x y : Nat) (g0 r : List (List Int)) (w : World) (hW : 1 ≤ W ∧ W ≤ 8) (hH : 1 ≤ H ∧ H ≤ 8) (hx : x < W) (hy : y < H)
  (hB : w.heap[B]? = some (.cells #[.int .i64 W, .int .i64 H, .slice AL l.length cL] 31 (0, 0))) (hL : Kd.C k58 w AL l.length l) (hcL : l.length ≤ cL) (hr : Kd.C (Kd.int .i64) w A1 2 [(x : Int), (y : Int)]) (hc : 2 ≤ c1)
  (hg : impl_grid.f k W H (-1) = some g0) (hsh : impl_distancesTo.shape W H g0 = true) (h : impl_distancesTo.l1 W H l k 0 (impl_distancesTo.set2 g0 x y 0, [[(x : Int), (y : Int)]]) = some r) :
  Calls Try.prog 73 #[.int .i64 W, .int .i64 H, .slice A1 2 c1, .func (.func 74) #[] #[.pointer (some ⟨B, 0, none⟩)], .bool false] w fun e w' => ∃ v0_ : Value, e = .returned (v0_) ∧ Kd.S (Kd.slice 3 (Kd.int .i64)) 25 w' w.heap.size (fun _ => True) v0_ r ∧ Below w.heap.size w w' := by
 obtain ⟨hW1, hW8⟩ := hW;obtain ⟨hH1, hH8⟩ := hH;have HBX := Lib.hid hB;have HL := Lib.hid hL;have HA := Lib.hid hr;have HG := Lib.hid (impl_grid.calls k W H (-1) g0 w hg);have HSH := Lib.hid hsh;have HH := Lib.hid h;clear hB hL hr hg hsh h
 go_enter Try.func73, Try.ntmps73
 go_upto_region 2 with (go_at_call 62; refine HG.out.mono ?_; rintro e w1 ⟨v1, rfl, hS, hb1⟩; have HS1 := Lib.hid hS; have HB1 := Lib.hid hb1; clear hS hb1)
 have hlen := impl_distancesTo.shape_len HSH.out;obtain ⟨gb, cap, ev, _, _, _⟩ := Kd.S_form HS1.out (by omega);subst ev;have hgW : g0.length = W := by omega
 have HS2 := Lib.hid (show Kd.S (Kd.slice 3 (Kd.int .i64)) 25 w1 w.heap.size (fun k_ => w.heap.size ≤ k_ ∧ k_ < w1.heap.size) (.slice (some ⟨gb, 0, none⟩) W cap) g0 by have h0 := Kd.S_mono (Kd.S_bound HS1.out) (fun k hk => (⟨hk.2.1, hk.2.2.1⟩ : w.heap.size ≤ k ∧ k < w1.heap.size)); rwa [hgW] at h0);rw [hgW];clear HS1;obtain ⟨rb, cp, hc1, hrb, hcell, hset⟩ := impl_distancesTo.grid_row (Kd.S_drew HS2.out) hx (by have := hlen.2 x (by omega); omega);have hrl : (g0.getD x []).length = H := by have := hlen.2 x (by omega); omega
 rw [hrl] at hc1 hcell;obtain ⟨hcy, hfz⟩ := hcell y hy;have hc1' : w1.cell? ⟨gb, x, none⟩ = some (.slice (some ⟨rb, 0, none⟩) H cp) := hc1;have hcy' : w1.cell? ⟨rb, y, none⟩ = some (.int .i64 (rd (g0.getD x []) (y : Int))) := hcy;have hfz' : w1.frozen? ⟨rb, y, none⟩ = false := hfz;clear hc1 hcy hfz;obtain ⟨ad, rfl, _, hax, hay⟩ := impl_distancesTo.two (Kd.qz HA.out HB1.out);have q1 : (0 : Int) ≤ (x : Int) := by omega
 have q2 : (x : Int) < (W : Int) := by omega
 have q3 : (0 : Int) ≤ (y : Int) := by omega
 have q4 : (y : Int) < (H : Int) := by omega
 have HSET := Lib.hid (hset y 0);have HRB := Lib.hid hrb;have HBA := Lib.hid (show B < w.heap.size from zd HBX.out);clear hset hcell hrb hlen hgW HS2 hrl
 go_still_tail 10, (by kernel_rfl)
 change wpList _ _ _ _ _ w1.drew
 have HX2 := Lib.hid (show w1.drew.heap[B]? = some (.cells #[.int .i64 W, .int .i64 H, .slice AL l.length cL] 31 (0, 0)) from (HB1.out.block _ (zd HBX.out)).trans HBX.out);have HB2 := Lib.hid (zr HB1.out);have HSZ := Lib.hid (show w1.heap.size = w1.drew.heap.size from rfl);have hc2 : w1.drew.cell? ⟨gb, x, none⟩ = some (.slice (some ⟨rb, 0, none⟩) H cp) := hc1';have hcy2 : w1.drew.cell? ⟨rb, y, none⟩ = some (.int .i64 (rd (g0.getD x []) (y : Int))) := hcy';have hfz2 : w1.drew.frozen? ⟨rb, y, none⟩ = false := hfz';clear hc1' hcy' hfz' hax hay HBX;rw [HSZ.out] at HSET HRB;clear HSZ HB1
 generalize w1.drew = W2 at HX2 HB2 HSET HRB hc2 hcy2 hfz2 ⊢
 go_upto_region 3 with (fail)
 have HGV := Lib.hid (impl_distancesTo.GV.start (w := w) (B := B) (a := w.heap.size) (c := c1) (e := [(x : Int), (y : Int)]) (A := some ad) (W := W2.setCell ⟨rb, y, none⟩ (.int .i64 0)) (zk HX2.out (by have := HRB.out; have := HBA.out; simp only; omega) _) (by rw [World.size_setCell]; exact HSET.out) (HB2.out.setCell (by have := HRB.out; simp only; omega) _) HBA.out (Nat.le_refl _) (by rw [World.size_setCell]; exact HB2.out.size) HA.out hc)
 generalize W2.setCell ⟨rb, y, none⟩ (.int .i64 0) = W3 at HGV ⊢
 clear hc2 hcy2 hfz2 HX2 HSET
 go_wp2
 have hshape : impl_distancesTo.shape W H (g0.set x ((g0.getD x []).set y 0)) = true := by have h0 := impl_distancesTo.shape_set HSH.out (x : Int) (y : Int) 0; simpa [impl_distancesTo.set2] using h0
 have hl1 : impl_distancesTo.l1 W H l k 0 (g0.set x ((g0.getD x []).set y 0), [[(x : Int), (y : Int)]]) = some r := by have h0 := HH.out; simpa [impl_distancesTo.set2] using h0
 have HS0 := Lib.hid hshape;have HL0 := Lib.hid hl1;clear hshape hl1 HH HSH;obtain ⟨b, hb⟩ : ∃ b, b = W3.heap.size := ⟨_, rfl⟩;rw [← hb] at HGV;have e12 : (Value.slice (some ⟨W3.heap.size, 0, none⟩) 1 1) = .slice (some ⟨b, 0, none⟩) 1 1 := by rw [hb]
 rw [← hb]
 generalize W3.alloc (.cells #[.slice (some ad) [(x : Int), (y : Int)].length c1] 25) = W4 at HGV ⊢
 clear hb e12
 go_loopg [12, 13] k (fun kq v12 v13 wr => ∃ (i : Nat) (st : List (List Int) × List (List Int)), v13 = .int .i64 i ∧ Hid (impl_distancesTo.l1 W H l kq i st = some r) ∧ Hid (impl_distancesTo.shape W H st.1 = true) ∧ Hid (impl_distancesTo.GV w wr B #[.int .i64 W, .int .i64 H, .slice AL l.length cL] w.heap.size b (.slice (some ⟨gb, 0, none⟩) W cap) st.1 v12 st.2))
 case atStart => exact ⟨0, _, rfl, HL0, HS0, HGV⟩
 case round =>
  clear HL0 HS0 HGV;obtain ⟨i, st, rfl, HLL, HSS, HV⟩ := hrel;cases gk with
  | zero => exact absurd HLL.out (by simp [impl_distancesTo.l1])
  | succ k1 =>
   have h := HLL.out;clear HLL
   simp only [impl_distancesTo.l1] at h
   obtain ⟨Aq, cq, eq⟩ := Kd.zn HV.out.row;subst eq
   have hql : st.2.length ≤ 9223372036854775807 := by
    have h1 := (Kd.qw HV.out.row).2.2.2.1
    unfold maxLen at h1
    omega
   by_cases hi : i < st.2.length
   ·rw [if_pos hi] at h
    by_cases hpr : impl_distancesTo.pair W H (st.2.getD i []) = true
    ·rw [if_pos hpr] at h
     obtain ⟨s4, hs4, hnx⟩ := Option.bind_eq_some_iff.mp h;obtain ⟨adq, A0, c0, e0, hcell, hel⟩ := HV.out.el hi;subst e0
     unfold impl_distancesTo.pair at hpr
     simp only [Bool.and_eq_true, decide_eq_true_eq] at hpr
     obtain ⟨hp2, ⟨hpx0, hpx1⟩, hpy0, hpy1⟩ := hpr
     obtain ⟨px', py', ep⟩ : ∃ px py, st.2.getD i [] = [px, py] := by
      match hh : st.2.getD i [], hp2 with
      | [px, py], _ => exact ⟨px, py, rfl⟩
     rw [ep] at hs4 hel hcell hpx0 hpx1 hpy0 hpy1
     change 0 ≤ px' at hpx0
     change px' ≤ (W : Int) - 1 at hpx1
     change 0 ≤ py' at hpy0
     change py' ≤ (H : Int) - 1 at hpy1
     obtain ⟨px, rfl⟩ : ∃ n : Nat, px' = (n : Int) := ⟨px'.toNat, by omega⟩;obtain ⟨py, rfl⟩ : ∃ n : Nat, py' = (n : Int) := ⟨py'.toNat, by omega⟩
     change impl_distancesTo.steps k1 W H l (px : Int) (py : Int) 4 st = some s4 at hs4
     change wr.cell? (adq.add i) = some (.slice A0 2 c0) at hcell
     have HS4 := Lib.hid hs4;have HNX := Lib.hid hnx;have HEL := Lib.hid hel;have hpx : px < W := by omega
     have hpy : py < H := by omega
     have hi0 : (0 : Int) ≤ (i : Int) := by omega
     have hi1 : (i : Int) < (st.2.length : Int) := by omega
     clear hs4 hnx hel h ep hp2 hpx0 hpx1 hpy0 hpy1
     go_wp2
     have HV1 := Lib.hid (HV.out.below (qd (Below.refl wr.heap.size wr) (.stringIter ⟨#[101, 110, 115, 119]⟩ 0)));have HE1 := Lib.hid (HEL.out.below (qd (Below.refl wr.heap.size wr) (.stringIter ⟨#[101, 110, 115, 119]⟩ 0)));have HI1 := Lib.hid (show (wr.iter ⟨#[101, 110, 115, 119]⟩ 0).heap[wr.heap.size]? = some (.stringIter ⟨#[101, 110, 115, 119]⟩ 0) from World.iter_heap wr _ 0);have hgi := HV.out.hb
     change Hid (impl_distancesTo.GV w (wr.iter ⟨#[101, 110, 115, 119]⟩ 0) B #[.int .i64 W, .int .i64 H, .slice AL l.length cL] w.heap.size b (.slice (some ⟨gb, 0, none⟩) W cap) st.1 (.slice (some adq) st.2.length cq) st.2) at HV1
     change Hid (impl_distancesTo.EL w (wr.iter ⟨#[101, 110, 115, 119]⟩ 0) b (.slice (some adq) st.2.length cq) [(px : Int), (py : Int)] A0 c0) at HE1
     generalize wr.iter ⟨#[101, 110, 115, 119]⟩ 0 = Wi at HV1 HE1 HI1 ⊢
     obtain ⟨gi, hgi2⟩ : ∃ gi, gi = wr.heap.size := ⟨_, rfl⟩;rw [← hgi2] at HI1 hgi ⊢;clear hgi2 hcell HV HEL
     go_loopg [12] 4 (fun gn v12 wr => ∃ (m : Nat) (s : List (List Int) × List (List Int)), gn = 4 - m ∧ m ≤ 4 ∧ Hid (impl_distancesTo.steps k1 W H l (px : Int) (py : Int) m st = some s) ∧ Hid (impl_distancesTo.GV w wr B #[.int .i64 W, .int .i64 H, .slice AL l.length cL] w.heap.size b (.slice (some ⟨gb, 0, none⟩) W cap) s.1 v12 s.2) ∧ Hid (impl_distancesTo.EL w wr b v12 [(px : Int), (py : Int)] A0 c0) ∧ Hid (wr.heap[gi]? = some (.stringIter ⟨#[101, 110, 115, 119]⟩ m)))
     case atStart => exact ⟨0, st, rfl, by omega, Lib.hid rfl, HV1, HE1, HI1⟩
     case round =>
      clear HV1 HE1 HI1;obtain ⟨m, s, hgn, hm, HS, HV, HE, HI⟩ := hrel
      by_cases hm4 : m < 4
      ·obtain ⟨s', hs'⟩ := impl_distancesTo.steps_at HS4.out (4 - (m + 1)) (m + 1) (by omega)
       have hstep := hs';rw [impl_distancesTo.steps, HS.out, Option.bind_some] at hstep;have HS' := Lib.hid hs';clear hs';have HSH := Lib.hid (impl_distancesTo.steps_shape HS.out HSS.out)
       obtain ⟨u8, hnx⟩ : ∃ u8 : Int, ∀ ty, (Instr.next (.pointer (some ⟨gi, 0, none⟩)) true ty).run Try.prog wr = .ok (.tuple #[.bool true, .int .i64 m, .int .i32 u8]) (impl_distancesTo.setIter wr gi (.stringIter ⟨#[101, 110, 115, 119]⟩ (m + 1))) :=
        ⟨_, fun ty => impl_distancesTo.next_at wr gi ⟨#[101, 110, 115, 119]⟩ m ty HI.out hm4 (impl_distancesTo.asc m hm4)⟩
       have HV2 := Lib.hid (HV.out.next HI.out hgi (.stringIter ⟨#[101, 110, 115, 119]⟩ (m + 1)));have HE2 := Lib.hid (HE.out.next HI.out (.stringIter ⟨#[101, 110, 115, 119]⟩ (m + 1)));have HI2 := Lib.hid (impl_distancesTo.setIter_same (W := wr) (g := gi) (.stringIter ⟨#[101, 110, 115, 119]⟩ (m + 1)) (zd HI.out));obtain ⟨bx, by_, hmv, hcs⟩ := impl_distancesTo.step_cases hstep;have HCS := Lib.hid hcs;have hm0 : (0 : Int) ≤ (m : Int) := by omega
       have hm1 : (m : Int) < 4 := by omega
       have HMV := Lib.hid hmv;clear hstep hcs hmv HV HE HI
       go_upto_region 11 with (fail)
       clear hnx
       generalize impl_distancesTo.setIter wr gi (.stringIter ⟨#[101, 110, 115, 119]⟩ (m + 1)) = W5 at HV2 HE2 HI2 ⊢
       have hread := HE2.out.read HV2.out.bel;have HMC := Lib.hid (impl_moved.calls A0 c0 [(px : Int), (py : Int)] (m : Int) [bx, by_] W5 hread.2 hread.1 HMV.out);clear hread
       go_upto_region 12 with (go_at_call 72; refine HMC.out.mono ?_; rintro e w6 ⟨v6, rfl, hR6, hb6⟩; have HR6 := Lib.hid hR6; have HB6 := Lib.hid hb6; clear hR6 hb6)
       obtain ⟨A6, c6, ev6⟩ := Kd.zn HR6.out;subst ev6;have HV6 := Lib.hid (HV2.out.below HB6.out);have HE6 := Lib.hid (HE2.out.below HB6.out);have HI6 := Lib.hid ((HB6.out.block _ (zd HI2.out)).trans HI2.out);have HN6 := Lib.hid (impl_distancesTo.EL.new (w := w) (v := u12) HR6.out HV2.out.hb (fun k hk => Kd.R_lt HV2.out.row k hk));clear HV2 HE2 HI2 HB6 HMC;obtain ⟨ad6, ea6, _, hx6, hy6⟩ := impl_distancesTo.two (Kd.qw HR6.out).2.2;subst ea6;have ew1 : IntKind.i64.wrap ((W : Int) - 1) = (W : Int) - 1 := IntWalk.i64_in _ (by omega);have ew2 : IntKind.i64.wrap ((H : Int) - 1) = (H : Int) - 1 := IntWalk.i64_in _ (by omega)
       show Code.wp _ _ _ _ _
       rcases HCS.out with ⟨hin, rfl⟩ | ⟨hin, hneg, rfl⟩ | ⟨hin, hneg, tt, htt, hend⟩
       ·rcases impl_distancesTo.in_n ⟨hW1, hW8⟩ ⟨hH1, hH8⟩ hin with h1 | ⟨h1, h2⟩
        ·have H1 := Lib.hid h1
         clear h1 hin HCS
         go_quiet ((go_at_call 61; (with_reducible exact impl_stepIn.within_n H1.out w6 _)))
         go_wp2
         go_roundg (4 - (m + 1))
         case measure => omega
         case rel => exact ⟨m + 1, _, rfl, by omega, HS', Lib.hid (HV6.out.below (qa (Below.refl _ _) _)), Lib.hid (HE6.out.below (qa (Below.refl _ _) _)), HI6⟩
        ·have H1 := Lib.hid h1
         have H2 := Lib.hid h2;clear h1 h2 hin HCS
         go_quiet ((first | (go_at_call 61; (with_reducible exact impl_stepIn.ja H1.out w6 _)) | (go_at_call 61; (with_reducible exact impl_stepIn.within_n H2.out w6 _))))
         go_wp2
         go_roundg (4 - (m + 1))
         case measure => omega
         case rel => exact ⟨m + 1, _, rfl, by omega, HS', Lib.hid (HV6.out.below (qa (Below.refl _ _) _)), Lib.hid (HE6.out.below (qa (Below.refl _ _) _)), HI6⟩
       ·have hin2 := impl_distancesTo.in_t ⟨hW1, hW8⟩ ⟨hH1, hH8⟩ hin
        obtain ⟨bn, rfl⟩ : ∃ n : Nat, bx = (n : Int) := ⟨bx.toNat, by omega⟩;obtain ⟨bm, rfl⟩ : ∃ n : Nat, by_ = (n : Int) := ⟨by_.toNat, by omega⟩;have H1 := Lib.hid hin2.1;have H2 := Lib.hid hin2.2;have hlen := (impl_distancesTo.shape_len HSH.out).2 bn (by omega);obtain ⟨rb6, cp6, hrow, _, hcells, _⟩ := impl_distancesTo.grid_row HV6.out.grid (i := bn) (by omega) (by omega);have hrl : (s'.1.getD bn []).length = H := by omega
        rw [hrl] at hrow hcells;have hcell6 := (hcells bm (by omega)).1;have hge : 0 ≤ rd (s'.1.getD bn []) (bm : Int) := by have h0 := hneg; unfold impl_distancesTo.rd2 at h0; rw [Int.toNat_natCast] at h0; omega
        have n1 : (bn : Int) < (W : Int) := by omega
        have n2 : (bm : Int) < (H : Int) := by omega
        have n3 : (0 : Int) ≤ (bn : Int) := by omega
        have n4 : (0 : Int) ≤ (bm : Int) := by omega
        obtain ⟨R0, hR0⟩ : ∃ R0, rd (s'.1.getD bn []) (bm : Int) = R0 := ⟨_, rfl⟩;rw [hR0] at hge hcell6;have hged : decide (0 ≤ R0) = true := decide_eq_true hge;clear hin2 hin hneg hlen hcells hrl HCS hR0
        go_quiet ((first | (go_at_call 61; (with_reducible exact impl_stepIn.ja H1.out w6 _)) | (go_at_call 61; (with_reducible exact impl_stepIn.ja H2.out w6 _))))
        go_wp2
        go_roundg (4 - (m + 1))
        case measure => omega
        case rel => exact ⟨m + 1, _, rfl, by omega, HS', Lib.hid (HV6.out.below (qa (Below.refl _ _) _)), Lib.hid (HE6.out.below (qa (Below.refl _ _) _)), HI6⟩
       ·have hin2 := impl_distancesTo.in_t ⟨hW1, hW8⟩ ⟨hH1, hH8⟩ hin
        obtain ⟨bn, rfl⟩ : ∃ n : Nat, bx = (n : Int) := ⟨bx.toNat, by omega⟩;obtain ⟨bm, rfl⟩ : ∃ n : Nat, by_ = (n : Int) := ⟨by_.toNat, by omega⟩;have H1 := Lib.hid hin2.1;have H2 := Lib.hid hin2.2;have hlen := (impl_distancesTo.shape_len HSH.out).2 bn (by omega);obtain ⟨rb6, cp6, hrow, _, hcells, _⟩ := impl_distancesTo.grid_row HV6.out.grid (i := bn) (by omega) (by omega);have hrl : (s.1.getD bn []).length = H := by omega
        rw [hrl] at hrow hcells;have hcell6 := (hcells bm (by omega)).1;have hge : rd (s.1.getD bn []) (bm : Int) < 0 := by have h0 := hneg; unfold impl_distancesTo.rd2 at h0; rw [Int.toNat_natCast] at h0; omega
        have n1 : (bn : Int) < (W : Int) := by omega
        have n2 : (bm : Int) < (H : Int) := by omega
        have n3 : (0 : Int) ≤ (bn : Int) := by omega
        have n4 : (0 : Int) ≤ (bm : Int) := by omega
        obtain ⟨R0, hR0⟩ : ∃ R0, rd (s.1.getD bn []) (bm : Int) = R0 := ⟨_, rfl⟩;rw [hR0] at hge hcell6;have hged : decide (0 ≤ R0) = false := decide_eq_false (by omega);have HTT := Lib.hid htt;have HEND := Lib.hid hend;clear hin2 hin hneg hlen hcells hrl HCS hR0 htt hend
        go_quiet ((first | (go_at_call 61; (with_reducible exact impl_stepIn.ja H1.out w6 _)) | (go_at_call 61; (with_reducible exact impl_stepIn.ja H2.out w6 _))))
        go_upto_region 13 with (fail)
        have HV7 := Lib.hid (HV6.out.below (qa (Below.refl _ _) nq));have HE7 := Lib.hid (HE6.out.below (qa (Below.refl _ _) nq));have HI7 := Lib.hid (show (w6.drewN nq).heap[gi]? = _ from HI6.out);have HN7 := Lib.hid (HN6.out.below (qa (Below.refl _ _) nq))
        generalize w6.drewN nq = W7 at HV7 HE7 HI7 HN7 ⊢
        clear hx6 hy6 hrow hcell6 hge hged HV6 HE6 HI6 HN6 HR6 ew1 ew2;have hread := HE7.out.read HV7.out.bel;have HCLO := Lib.hid (impl_stepIn.clo k1 W H AL cL l B A0 c0 px py m tt W7 HV7.out.box (Kd.qz HL.out HV7.out.bel) hcL hread.2 hread.1 HTT.out);clear hread
        rcases HEND.out with ⟨rfl, rfl⟩ | ⟨rfl, hql7, rfl⟩
        ·clear HEND
         go_wp2_with (go_at_call 74; refine HCLO.out.mono ?_; rintro e w8 ⟨rfl, hb8⟩; have HB8 := Lib.hid hb8; clear hb8)
         go_roundg (4 - (m + 1))
         case measure => omega
         case rel => exact ⟨m + 1, _, rfl, by omega, HS', Lib.hid (HV7.out.below HB8.out), Lib.hid (HE7.out.below HB8.out), Lib.hid ((HB8.out.block _ (zd HI7.out)).trans HI7.out)⟩
        ·have HQL := Lib.hid hql7
         clear HEND hql7
         go_upto_region 14 with (go_at_call 74; refine HCLO.out.mono ?_; rintro e w8 ⟨rfl, hb8⟩; have HB8 := Lib.hid hb8; clear hb8)
         have HV8 := Lib.hid (HV7.out.below HB8.out);have HE8 := Lib.hid (HE7.out.below HB8.out);have HI8 := Lib.hid ((HB8.out.block _ (zd HI7.out)).trans HI7.out);have HN8 := Lib.hid (HN7.out.below HB8.out);clear HV7 HE7 HI7 HN7 HB8 HCLO;have hlen := (impl_distancesTo.shape_len HSH.out).2;obtain ⟨rb7, cp7, hrow7, hrb7, hcells7, hset7⟩ := impl_distancesTo.grid_row (Kd.S_drew HV8.out.grid) (i := bn) (by omega) (by have := hlen bn (by omega); omega);have hrl7 : (s.1.getD bn []).length = H := by have := hlen bn (by omega); omega
         obtain ⟨rb8, cp8, hrow8, _, hcells8, _⟩ := impl_distancesTo.grid_row (Kd.S_drew HV8.out.grid) (i := px) (by omega) (by have := hlen px (by omega); omega);have hrl8 : (s.1.getD px []).length = H := by have := hlen px (by omega); omega
         rw [hrl7] at hrow7 hcells7;rw [hrl8] at hrow8 hcells8;obtain ⟨hc7, hf7⟩ := hcells7 bm (by omega);have hc8 := (hcells8 py (by omega)).1;have hrow7' : w8.cell? ⟨gb, bn, none⟩ = some (.slice (some ⟨rb7, 0, none⟩) H cp7) := hrow7;have hrow8' : w8.cell? ⟨gb, px, none⟩ = some (.slice (some ⟨rb8, 0, none⟩) H cp8) := hrow8;have hc7' : w8.cell? ⟨rb7, bm, none⟩ = some (.int .i64 (rd (s.1.getD bn []) (bm : Int))) := hc7;have hc8' : w8.cell? ⟨rb8, py, none⟩ = some (.int .i64 (rd (s.1.getD px []) (py : Int))) := hc8;obtain ⟨ad7, ea7, _, hx7, hy7⟩ := impl_distancesTo.two (HN8.out.read HV8.out.bel).2;obtain rfl := Option.some.inj ea7;obtain ⟨ad8, ea8, _, hx8, hy8⟩ := impl_distancesTo.two (HE8.out.read HV8.out.bel).2;subst ea8;obtain ⟨R8, hR8⟩ : ∃ R8, rd (s.1.getD px []) (py : Int) = R8 := ⟨_, rfl⟩;obtain ⟨R7, hR7⟩ : ∃ R7, rd (s.1.getD bn []) (bm : Int) = R7 := ⟨_, rfl⟩;rw [hR8] at hc8';rw [hR7] at hc7 hc7';obtain ⟨V0, hV0⟩ : ∃ V0, IntKind.i64.wrap (R8 + 1) = V0 := ⟨_, rfl⟩;have hV1 : wrap64 (impl_distancesTo.rd2 s.1 px py + 1) = V0 := by unfold impl_distancesTo.rd2; rw [Int.toNat_natCast, hR8]; exact (IntWalk.i64_left _).symm.trans hV0
         have HSET := Lib.hid (show Kd.S (Kd.slice 3 (Kd.int .i64)) 25 (w8.drew.setCell ⟨rb7, bm, none⟩ (.int .i64 V0)) w.heap.size (fun k_ => w.heap.size ≤ k_ ∧ k_ < b) (.slice (some ⟨gb, 0, none⟩) W cap) (impl_distancesTo.set2 s.1 bn bm (wrap64 (impl_distancesTo.rd2 s.1 px py + 1))) by rw [hV1]; unfold impl_distancesTo.set2; rw [Int.toNat_natCast, Int.toNat_natCast]; exact hset7 bm V0);have HRB := Lib.hid hrb7;have p1 : (px : Int) < (W : Int) := by omega
         have p2 : (py : Int) < (H : Int) := by omega
         have p3 : (0 : Int) ≤ (px : Int) := by omega
         have p4 : (0 : Int) ≤ (py : Int) := by omega
         clear hset7 hcells7 hcells8 hrow7 hrow8 hc8 hrb7 hlen hrl7 hrl8 hV1 ea7 hR8 hR7
         go_still_tail 22, (by kernel_rfl)
         change wpList _ _ _ _ _ w8.drew
         have hf9 : w8.drew.frozen? ⟨rb7, bm, none⟩ = false := hf7;have HV9 := Lib.hid ((HV8.out.below (zr (Below.refl _ _))).put HRB.out bm (.int .i64 V0) HSET.out);have HE9 := Lib.hid ((HE8.out.below (zr (Below.refl _ _))).put HRB.out.2 bm (.int .i64 V0));have HN9 := Lib.hid ((HN8.out.below (zr (Below.refl _ _))).put HRB.out.2 bm (.int .i64 V0));have HI9 := Lib.hid (impl_distancesTo.iter_put (j := bm) (x := .int .i64 V0) (show w8.drew.heap[gi]? = _ from HI8.out) HRB.out.2 hgi);clear hrow7' hrow8' hc7' hc8' hx7 hy7 hx8 hy8 HV8 HE8 HN8 HI8 HSET hV0 hf7
         generalize w8.drew = W8 at HV9 HE9 HN9 HI9 hc7 hf9 ⊢
         go_upto_region 15 with (fail)
         generalize W8.setCell ⟨rb7, bm, none⟩ (.int .i64 V0) = W9 at HV9 HE9 HN9 HI9 ⊢
         clear hc7 hf9
         go_wp2_with ((with_reducible refine gate_builtin (b := .append) (xs := #[.tmp 119, .tmp 121]) rfl ?_); at_builtin; refine Kd.R_append (impl_distancesTo.kq w) (w0 := W9) b rfl (.tmp 119) (.tmp 121) 45 25 (.slice none 0 0) 24 rfl Try.underlying45 impl_distancesTo.info2 rfl Nat.one_pos (by omega) _ s.2 [(bn : Int), (bm : Int)] [.slice (some ad6) 2 c6] (fun k_ => b ≤ k_) (fun k_ => b ≤ k_ ∧ some k_ ≠ (u12 : Value).ownBlock) rfl rfl ?aP (fun _ hk => hk) ?aF ?aO ?aB ?aS ?aL ?_; (case aP => exact HN9.out); (case aB => exact Below.refl _ _); (case aF => exact (fun k hk => Nat.le_trans HV9.out.hb hk)); (case aO => exact HV9.out.row); (case aS => exact HV9.out.hb); (case aL => have := HQL.out; omega); intro v1 w10 ho hb10 hg10 hat10; have HV10 := Lib.hid (HV9.out.app ho (HV9.out.bel.trans (hb10.mono (Nat.le_trans HV9.out.hw HV9.out.hab))) hg10); have HE10 := Lib.hid (HE9.out.app hg10 hat10); have HI10 := Lib.hid (HV9.out.iter_app HI9.out hg10); clear HV9 HE9 HN9 HI9 ho hb10 hg10 hat10)
         go_roundg (4 - (m + 1))
         case measure => omega
         case rel => exact ⟨m + 1, _, rfl, by omega, HS', HV10, HE10, HI10⟩
      ·obtain rfl : m = 4 := by omega
       obtain rfl := Option.some.inj (HS.out.symm.trans HS4.out);have hnx : ∀ ty, (Instr.next (.pointer (some ⟨gi, 0, none⟩)) true ty).run Try.prog wr = _ := fun ty => impl_distancesTo.next_end wr gi ⟨#[101, 110, 115, 119]⟩ 4 ty HI.out (by show ¬ 4 < 4; omega)
       go_wp2
       go_roundg k1
       case measure => omega
       case rel => exact ⟨i + 1, s, by go_num, HNX, Lib.hid (impl_distancesTo.steps_shape HS.out HSS.out), HV⟩
    ·rw [if_neg hpr] at h
     cases h
   ·rw [if_neg hi] at h
    obtain rfl := Option.some.inj h;clear h
    go_wp2
    go_ret
    exact ⟨_, rfl, Kd.S_mono HV.out.grid (fun _ _ => trivial), HV.out.bel⟩
set_option maxHeartbeats 2000000 in
theorem impl_distancesTo.stepMade (W H : Int) (A : Option Addr) (n c : Nat) (w : World) :
  Calls Try.prog 48 #[.agg #[.int .i64 W, .int .i64 H, .slice A n c]] w fun e w' => ∃ B, e = .returned (.func (.func 74) #[] #[.pointer (some ⟨B, 0, none⟩)]) ∧ w'.heap[B]? = some (.cells #[.int .i64 W, .int .i64 H, .slice A n c] 31 (0, 0)) ∧ Below w.heap.size w w' := by
 have hu := Try.underlying31
 have hmf : ∀ (fn : Fn) (first cap : Array Value) (w : World), (Instr.makeFunc fn first cap).run Try.prog w = .ok (.func fn first cap) w := fun _ _ _ _ => rfl
 go_enter Try.func48, Try.ntmps48
 go_wp2
 go_ret
 exact ⟨_, rfl, blk_new w _, qd (Below.refl _ _) _⟩
set_option maxHeartbeats 2000000 in
set_option maxRecDepth 100000 in
theorem impl_distancesTo.calls (k : Nat) (a0_0 : Int) (a0_1 : Int) (A0_2 : Option Addr) (c0_2 : Nat) (l0_2 : List S58) (A1 : Option Addr) (c1 : Nat) (l1 : List Int) (r : List (List Int)) (w : World) (hr0_2 : Kd.C k58 w A0_2 l0_2.length l0_2) (hc0_2 : l0_2.length ≤ c0_2) (hr1 : Kd.C (Kd.int .i64) w A1 l1.length l1) (hc1 : l1.length ≤ c1) (h : impl_distancesTo.f k a0_0 a0_1 l0_2 l1 = some r) :
  Calls Try.prog 47 #[.agg #[.int .i64 a0_0, .int .i64 a0_1, .slice A0_2 l0_2.length c0_2], .slice A1 l1.length c1] w fun e w' => ∃ v0_ : Value, e = .returned (v0_) ∧ Kd.S (Kd.slice 3 (Kd.int .i64)) 25 w' w.heap.size (fun _ => True) v0_ r ∧ Below w.heap.size w w' := by
 have hu := Try.underlying31
 have hmf : ∀ (fn : Fn) (first cap : Array Value) (w : World), (Instr.makeFunc fn first cap).run Try.prog w = .ok (.func fn first cap) w := fun _ _ _ _ => rfl
 unfold impl_distancesTo.f at h
 by_cases hk : impl_distancesTo.ok a0_0 a0_1 l1 = true
 ·rw [if_pos hk] at h
  obtain ⟨g0, hg, h⟩ := Option.bind_eq_some_iff.mp h
  by_cases hs : impl_distancesTo.shape a0_0 a0_1 g0 = true
  ·rw [if_pos hs] at h
   unfold impl_distancesTo.ok impl_distancesTo.pair at hk
   simp only [Bool.and_eq_true, decide_eq_true_eq] at hk
   obtain ⟨⟨hW1, hW8⟩, ⟨hH1, hH8⟩, hl2, ⟨hx0, hx1⟩, hy0, hy1⟩ := hk
   match l1, hl2 with
   | [x', y'], _ =>
   change 0 ≤ x' at hx0
   change x' ≤ a0_0 - 1 at hx1
   change 0 ≤ y' at hy0
   change y' ≤ a0_1 - 1 at hy1
   obtain ⟨W, rfl⟩ : ∃ n : Nat, a0_0 = (n : Int) := ⟨a0_0.toNat, by omega⟩
   obtain ⟨H, rfl⟩ : ∃ n : Nat, a0_1 = (n : Int) := ⟨a0_1.toNat, by omega⟩
   obtain ⟨x, rfl⟩ : ∃ n : Nat, x' = (n : Int) := ⟨x'.toNat, by omega⟩
   obtain ⟨y, rfl⟩ : ∃ n : Nat, y' = (n : Int) := ⟨y'.toNat, by omega⟩
   have HH := Lib.hid h
   have HG := Lib.hid hg
   have HS := Lib.hid hs
   have HL := Lib.hid hr0_2
   have HA := Lib.hid hr1
   show Calls Try.prog 47 #[.agg #[.int .i64 W, .int .i64 H, .slice A0_2 l0_2.length c0_2], .slice A1 2 c1] w _
   clear h hg hs hr0_2 hr1
   go_enter Try.func47, Try.ntmps47
   go_wp2_with fail
   have HV := Lib.hid (show (w.alloc (.cells #[.int .i64 W, .int .i64 H, .slice A0_2 l0_2.length c0_2] 31)).heap[w.heap.size]? = some (.cells #[.int .i64 W, .int .i64 H, .slice A0_2 l0_2.length c0_2] 31 (0, 0)) from blk_new w _)
   have HB := Lib.hid (qd (Below.refl w.heap.size w) (.cells #[.int .i64 W, .int .i64 H, .slice A0_2 l0_2.length c0_2] 31))
   generalize (w.alloc (.cells #[.int .i64 W, .int .i64 H, .slice A0_2 l0_2.length c0_2] 31)) = W1 at HV HB ⊢
   obtain ⟨B0, hB0⟩ : ∃ B0, B0 = w.heap.size := ⟨_, rfl⟩
   rw [← hB0] at HV ⊢
   clear hB0
   have hcz0 : W1.cell? ⟨B0, 0, none⟩ = some (.int .i64 W) := (qc HV.out 0).trans rfl
   have hcz1 : W1.cell? ⟨B0, 1, none⟩ = some (.int .i64 H) := (qc HV.out 1).trans rfl
   have hcz2 : W1.cell? ⟨B0, 2, none⟩ = some (.slice A0_2 l0_2.length c0_2) := (qc HV.out 2).trans rfl
   go_region_held3 (fun w' => w'.cell? ⟨B0, 0, none⟩ = some (.int .i64 W) ∧ w'.cell? ⟨B0, 1, none⟩ = some (.int .i64 H) ∧ w'.cell? ⟨B0, 2, none⟩ = some (.slice A0_2 l0_2.length c0_2)) (first | exact ⟨hcz0, hcz1, hcz2⟩ | exact ⟨qy hb2 hcz0, qy hb2 hcz1, qy hb2 hcz2⟩ | exact ⟨qy hb3 (qy hb2 hcz0), qy hb3 (qy hb2 hcz1), qy hb3 (qy hb2 hcz2)⟩) (first | (go_at_call 48; refine (impl_distancesTo.stepMade W H A0_2 l0_2.length c0_2 _).mono ?_; rintro e w2 ⟨B2, rfl, hX2, hb2⟩) | (go_at_call 73; refine (impl_distancesTo.by_ k W H A0_2 c0_2 l0_2 B2 A1 c1 x y g0 r _ ⟨by omega, by omega⟩ ⟨by omega, by omega⟩ (by omega) (by omega) hX2 (Kd.qz HL.out (zi (zr HB.out) HB.out.size hb2)) hc0_2 (Kd.qz HA.out (zi (zr HB.out) HB.out.size hb2)) hc1 HG.out HS.out HH.out).mono ?_; rintro e w3 ⟨v3, rfl, hS3, hb3⟩))
   have HB3 := zi (zi (zr HB.out) HB.out.size hb2) (zi (zr HB.out) HB.out.size hb2).size hb3
   have hS4 := Kd.S_lower hS3 (zi (zr HB.out) HB.out.size hb2).size
   have HF := Lib.hid (And.intro hS4 HB3)
   clear hS3 hS4 HB3 hb2 hb3 hX2
   go_wp2
   go_ret
   exact ⟨_, rfl, HF.out.1, HF.out.2⟩
  ·rw [if_neg hs] at h
   cases h
 ·rw [if_neg hk] at h
  cases h
end Go.Proofs.Ytpedofomfhmnfaa.PFnExactNeededBlocks
