/- Cut by wip/cut.py out of the texts of this claim (printed by the kit's printer, or this session's own): what the row's theorem does not reach is struck. Not trusted: Lean checks it. -/
import Derived.Test.YtpedofomfhmnfaaZFnExactNeededBlocksPx0
import Derived.Test.YtpedofomfhmnfaaZFnExactNeededBlocksPx3
namespace Go.Proofs.Ytpedofomfhmnfaa.PFnExactNeededBlocks
open Go.RowKit Go.Proofs.YtpedofomfhmnfaaW.PrintWords Go.Proofs.YtpedofomfhmnfaaW.PrintLast Go.Proofs.YtpedofomfhmnfaaW.PrintMore
attribute [local go_sem] max2_int min2_int max_two min_two max_three min_three max_four min_four
set_option linter.unusedVariables false
set_option linter.unusedSimpArgs false
def spec_avClose.l0 : Nat → Int → Int → Int → List (S58) → Int → Int → Bool → Option (Int × Int × (List (S58)))
 | 0, _, _, _, _, _, _, _ => none
 | k + 1, x5, x161000, x161001, x161002, x162000, x162001, x162002 => if x5 < (x161002.length : Int) then (if 0 ≤ x5 then ((spec_avLess.f ((qk x161002 x5).f0) ((qk x161002 x5).f1) ((qk x161002 x5).f2) x162000 x162001 x162002).bind fun t164 => (if t164 = true then (spec_avClose.l0 k (wrap64 (x5 + 1)) x161000 x161001 x161002 x162000 x162001 x162002) else ((some (([] : List (S58)) : List (S58))).bind fun y165 => (if x5 ≤ (x161002.length : Int) then ((some (x161002.take (x5 : Int).toNat : List (S58))).bind fun y168 => (if y165.length + y168.length < 5864062014805 then ((some (y165 ++ y168 : List (S58))).bind fun y172 => ((some (([(⟨x162000, x162001, x162002⟩ : S58)] : List (S58)) : List (S58))).bind fun y175 => (if y172.length + y175.length < 5864062014805 then ((some (y172 ++ y175 : List (S58))).bind fun y178 => ((some (x161002.drop (x5 : Int).toNat : List (S58))).bind fun y181 => (if y178.length + y181.length < 5864062014805 then (some (x161000, x161001, (y178 ++ y181))) else (none)))) else (none)))) else (none))) else (none))))) else (none)) else ((some (([] : List (S58)) : List (S58))).bind fun y188 => (if 0 ≤ x5 then (if x5 ≤ (x161002.length : Int) then ((some (x161002.take (x5 : Int).toNat : List (S58))).bind fun y191 => (if y188.length + y191.length < 5864062014805 then ((some (y188 ++ y191 : List (S58))).bind fun y195 => ((some (([(⟨x162000, x162001, x162002⟩ : S58)] : List (S58)) : List (S58))).bind fun y198 => (if y195.length + y198.length < 5864062014805 then ((some (y195 ++ y198 : List (S58))).bind fun y201 => ((some (x161002.drop (x5 : Int).toNat : List (S58))).bind fun y204 => (if y201.length + y204.length < 5864062014805 then (some (x161000, x161001, (y201 ++ y204))) else (none)))) else (none)))) else (none))) else (none)) else (none)))
def spec_avClose.f (k : Nat) (a0_0 : Int) (a0_1 : Int) (l0_2 : List (S58)) (a1_0 : Int) (a1_1 : Int) (a1_2 : Bool) : Option (Int × Int × (List (S58))) := spec_avClose.l0 k 0 a0_0 a0_1 l0_2 a1_0 a1_1 a1_2
theorem spec_avClose.zt : ∀ k, (∀ y0 y1 y2 y3 y4 y5 y6, LeO (spec_avClose.l0 k y0 y1 y2 y3 y4 y5 y6) (spec_avClose.l0 (k + 1) y0 y1 y2 y3 y4 y5 y6))
 | 0 => fun _ _ _ _ _ _ _ r h => by simp [spec_avClose.l0] at h
 | k + 1 => by
  have ih0 := spec_avClose.zt k
  ·intro y0 y1 y2 y3 y4 y5 y6
   unfold spec_avClose.l0
   repeat' first
   | (with_reducible exact ih0 _ _ _ _ _ _ _)
   | (with_reducible exact LeO.refl _)
   | (with_reducible exact LeO.none _)
   | (with_reducible refine LeO.ite ?_ ?_)
   | (with_reducible refine LeO.bind ?_ (fun _ => ?_))
   | exact ih0 _ _ _ _ _ _ _
   | exact LeO.none _
   | refine LeO.ite ?_ ?_
   | refine LeO.bind ?_ (fun _ => ?_)
theorem spec_avClose.mono : ∀ a0 a1 a2 a3 a4 a5 k, LeO (spec_avClose.f k a0 a1 a2 a3 a4 a5) (spec_avClose.f (k + 1) a0 a1 a2 a3 a4 a5) := by
 intro a0 a1 a2 a3 a4 a5 k
 have ih0 := spec_avClose.zt k
 unfold spec_avClose.f
 repeat' first
   | (with_reducible exact ih0 _ _ _ _ _ _ _)
   | (with_reducible exact LeO.refl _)
   | (with_reducible exact LeO.none _)
   | (with_reducible refine LeO.ite ?_ ?_)
   | (with_reducible refine LeO.bind ?_ (fun _ => ?_))
   | exact ih0 _ _ _ _ _ _ _
   | exact LeO.none _
   | refine LeO.ite ?_ ?_
   | refine LeO.bind ?_ (fun _ => ?_)
def spec_avClose.T2 : Bool × List (List Nat × List Nat) := (true, [([], []), ([], []), ([1], [1]), ([2], [2]), ([0, 3], [0, 3]), ([4], [4]), ([5], [5]), ([6, 5], [5, 6]), ([5], [5]), ([7, 8, 5], [5, 7, 8]), ([9, 5], [5, 9]), ([5], [5]), ([10, 11, 5, 5], [5, 10, 11]), ([5, 12], [5, 12])])
def spec_avClose.B2 : List Nat := [0, 0, 2, 6, 15, 31, 63, 127, 63, 511, 1023, 63, 4095, 8191]
theorem spec_avClose.tab2 : rtab .any (opsOf Try.f52 2) = spec_avClose.T2 := by kernel_rfl
theorem spec_avClose.bits2 : waitsOk spec_avClose.T2.2 spec_avClose.B2 = true := by kernel_rfl
def spec_avClose.T4 : Bool × List (List Nat × List Nat) := (true, [([], []), ([], []), ([1], [1]), ([], []), ([2, 3], [2, 3]), ([0, 4], [0, 4]), ([], []), ([6], [6]), ([5, 7, 5], [5, 7]), ([8, 8, 0, 1, 2, 3, 4, 5, 6, 7, 8], [8])])
def spec_avClose.B4 : List Nat := [0, 0, 2, 0, 14, 31, 0, 64, 255, 511]
theorem spec_avClose.tab4 : rtab .any (opsOf Try.f52 4) = spec_avClose.T4 := by kernel_rfl
theorem spec_avClose.bits4 : waitsOk spec_avClose.T4.2 spec_avClose.B4 = true := by kernel_rfl
def spec_avClose.T5 : Bool × List (List Nat × List Nat) := (true, [([], []), ([0], [0]), ([], []), ([2], [2]), ([], []), ([], []), ([5], [5]), ([], []), ([6, 7], [6, 7]), ([4, 8], [4, 8]), ([1, 3, 9], [1, 3, 9]), ([10, 9, 0, 1, 2, 3, 4, 5, 6, 7, 8, 9, 10], [10])])
def spec_avClose.B5 : List Nat := [0, 1, 0, 4, 0, 0, 32, 0, 224, 496, 1023, 2047]
theorem spec_avClose.tab5 : rtab .any (opsOf Try.f52 5) = spec_avClose.T5 := by kernel_rfl
theorem spec_avClose.bits5 : waitsOk spec_avClose.T5.2 spec_avClose.B5 = true := by kernel_rfl
set_option maxHeartbeats 8000000 in
set_option maxRecDepth 100000 in
theorem spec_avClose.calls (k : Nat) (a0_0 : Int) (a0_1 : Int) (A0_2 : Option Addr) (c0_2 : Nat) (l0_2 : List (S58)) (a1_0 : Int) (a1_1 : Int) (a1_2 : Bool) (r1 : Int) (r2 : Int) (r3 : List (S58)) (w : World) (hr0_2 : Kd.C k58 w A0_2 l0_2.length l0_2) (hc0_2 : l0_2.length ≤ c0_2) (h : spec_avClose.f k a0_0 a0_1 l0_2 a1_0 a1_1 a1_2 = some (r1, r2, r3)) :
  Calls Try.prog 52 #[.agg #[.int .i64 a0_0, .int .i64 a0_1, .slice A0_2 l0_2.length c0_2], .agg #[.int .i64 a1_0, .int .i64 a1_1, .bool a1_2]] w fun e w' => ∃ v2_ : Value, e = .returned (.agg #[.int .i64 r1, .int .i64 r2, v2_]) ∧ Kd.R k58 58 w' w.heap.size (fun _ => True) v2_ r3 ∧ Below w.heap.size w w' := by
 have hu31 := Try.underlying31;have hu58 := Try.underlying58;have HR0_2 := qb.mk hr0_2;have HC0_2 := qb.mk hc0_2;clear hr0_2 hc0_2;have HB := qb.mk (Below.refl w.heap.size w);have H : (spec_avClose.l0 k 0 a0_0 a0_1 l0_2 a1_0 a1_1 a1_2) = some (r1, r2, r3) := h;clear h;have H' := qb.mk H;clear H
 go_enter Try.func52, Try.ntmps52
 go_wp2_with (first | ((with_reducible refine ze (N := 2) rfl ?_); refine zc ?hg (N := 2) ?hd (cs := #[.int .i64 a0_0, .int .i64 a0_1, .slice A0_2 l0_2.length c0_2]) (t := 31) ?hr ?_; (case hd => rfl); (case hg => rfl); (case hr => first | (go_simp; done) | (go_simp; rfl)); intro b4 hg w3 hbox hb; have n0_ := qb.mk (qp (be0_ HB) hb); have n1_ := qb.mk (hbox); have n2_ := qb.mk ((by rw [hg]; exact (ql (be0_ HB)) : w.heap.size ≤ b4)); have n3_ := qb.mk ((by rw [hg]; exact (ql (be0_ HB)) : w.heap.size ≤ b4)); clear HB; have HB := n0_; have b0 := n1_; have n7 := n2_; have b6 := n3_; clear n0_ n1_ n2_ n3_; clear hb hbox hg) | ((with_reducible refine ze (N := 3) rfl ?_); refine zc ?hg (N := 3) ?hd (cs := #[.int .i64 a1_0, .int .i64 a1_1, .bool a1_2]) (t := 58) ?hr ?_; (case hd => rfl); (case hg => rfl); (case hr => first | (go_simp; done) | (go_simp; rfl)); intro b3 hg w4 hbox hb; have n0_ := qb.mk (qo (g := b4) (o := .cells #[.int .i64 a0_0, .int .i64 a0_1, .slice A0_2 l0_2.length c0_2] 31 (0, 0)) (bk_ b0) hb); have n1_ := qb.mk (qp (be1_ HB b6) hb); have n2_ := qb.mk (hbox); have n3_ := qb.mk ((by rw [hg]; exact (ql (be1_ HB b6)) : w.heap.size ≤ b3)); have n4_ := qb.mk ((by rw [hg]; exact (ql (be1_ HB b6)) : w.heap.size ≤ b3)); have n5_ := qb.mk ((by rw [hg]; exact Nat.ne_of_lt (zd (g := b4) (o := .cells #[.int .i64 a0_0, .int .i64 a0_1, .slice A0_2 l0_2.length c0_2] 31 (0, 0)) (bk_ b0)) : b4 ≠ b3)); have n6_ := qb.mk ((by rw [hg]; exact Nat.ne_of_gt (zd (g := b4) (o := .cells #[.int .i64 a0_0, .int .i64 a0_1, .slice A0_2 l0_2.length c0_2] 31 (0, 0)) (bk_ b0)) : b3 ≠ b4)); clear b0; clear HB; have b0 := n0_; have HB := n1_; have b1 := n2_; have n8 := n3_; have b8 := n4_; have n0 := n5_; have n1 := n6_; clear n0_ n1_ n2_ n3_ n4_ n5_ n6_; clear hb hbox hg) | ((with_reducible refine ze (N := 4) rfl ?_); refine zc ?hg (N := 4) ?hd (cs := #[.int .i64 0, .int .i64 0, .slice none 0 0]) (t := 31) ?hr ?_; (case hd => rfl); (case hg => rfl); (case hr => first | (go_simp; done) | (go_simp; rfl)); intro b5 hg w5 hbox hb; have n0_ := qb.mk (qo (g := b4) (o := .cells #[.int .i64 a0_0, .int .i64 a0_1, .slice A0_2 l0_2.length c0_2] 31 (0, 0)) (bk_ b0) hb); have n1_ := qb.mk (qo (g := b3) (o := .cells #[.int .i64 a1_0, .int .i64 a1_1, .bool a1_2] 58 (0, 0)) (bk_ b1) hb); have n2_ := qb.mk (qp (be2_ HB b6 b8) hb); have n3_ := qb.mk (hbox); have n4_ := qb.mk ((by rw [hg]; exact (ql (be2_ HB b6 b8)) : w.heap.size ≤ b5)); have n5_ := qb.mk ((by rw [hg]; exact (ql (be2_ HB b6 b8)) : w.heap.size ≤ b5)); have n6_ := qb.mk ((by rw [hg]; exact Nat.ne_of_lt (zd (g := b4) (o := .cells #[.int .i64 a0_0, .int .i64 a0_1, .slice A0_2 l0_2.length c0_2] 31 (0, 0)) (bk_ b0)) : b4 ≠ b5)); have n7_ := qb.mk ((by rw [hg]; exact Nat.ne_of_gt (zd (g := b4) (o := .cells #[.int .i64 a0_0, .int .i64 a0_1, .slice A0_2 l0_2.length c0_2] 31 (0, 0)) (bk_ b0)) : b5 ≠ b4)); have n8_ := qb.mk ((by rw [hg]; exact Nat.ne_of_lt (zd (g := b3) (o := .cells #[.int .i64 a1_0, .int .i64 a1_1, .bool a1_2] 58 (0, 0)) (bk_ b1)) : b3 ≠ b5)); have n9_ := qb.mk ((by rw [hg]; exact Nat.ne_of_gt (zd (g := b3) (o := .cells #[.int .i64 a1_0, .int .i64 a1_1, .bool a1_2] 58 (0, 0)) (bk_ b1)) : b5 ≠ b3)); clear b0; clear b1; clear HB; have b0 := n0_; have b1 := n1_; have HB := n2_; have b2 := n3_; have n9 := n4_; have b9 := n5_; have b7 := n6_; have d8 := n7_; have d9 := n8_; have f3 := n9_; clear n0_ n1_ n2_ n3_ n4_ n5_ n6_ n7_ n8_ n9_; clear hb hbox hg))
 go_loopg [5] k (fun kq v5 w' => ∃ (x5_1 : Int), v5 = .int .i64 x5_1 ∧ qb (spec_avClose.l0 kq x5_1 a0_0 a0_1 l0_2 a1_0 a1_1 a1_2 = some (r1, r2, r3)) ∧ qb (kq ≤ k) ∧ qb (w'.heap[b4]? = some (.cells #[.int .i64 a0_0, .int .i64 a0_1, (.slice A0_2 l0_2.length c0_2)] 31 (0, 0))) ∧ qb (w'.heap[b3]? = some (.cells #[.int .i64 a1_0, .int .i64 a1_1, .bool a1_2] 58 (0, 0))) ∧ qb (w'.heap[b5]? = some (.cells #[.int .i64 0, .int .i64 0, (.slice none 0 0)] 31 (0, 0))) ∧ qb (Below w.heap.size w w'))
 case atStart => exact ⟨(0), (by first | rfl | (simp; done) | (simp [*]; done)), H', ⟨Nat.le_refl _⟩, ⟨bk_ b0⟩, ⟨bk_ b1⟩, ⟨bk_ b2⟩, ⟨be3_ HB b6 b8 b9⟩⟩
 case round =>
  clear H';obtain ⟨x5_1, rfl, HA, HK1, b0, b1, b2, HB⟩ := hrel;cases gk with
  | zero => exact absurd HA.out (by simp [spec_avClose.l0])
  | succ k1 =>
   have H := HA.out;clear HA
   simp only [spec_avClose.l0] at H
   by_cases c6 : x5_1 < (l0_2.length : Int)
   ·rw [if_pos c6] at H
    have c6b0 : decide (x5_1 < (l0_2.length : Int)) = true := decide_eq_true c6;clear c6
    by_cases c7 : 0 ≤ x5_1
    ·rw [if_pos c7] at H
     have c7b0 : decide (0 ≤ x5_1) = true := decide_eq_true c7;clear c7;replace H := Option.bind_eq_some_iff.mp H;obtain ⟨n2, A80, H⟩ := H;replace H : (if n2 = true then (spec_avClose.l0 k1 (wrap64 (x5_1 + 1)) a0_0 a0_1 l0_2 a1_0 a1_1 a1_2) else ((some (([] : List (S58)) : List (S58))).bind fun g0 => (if x5_1 ≤ (l0_2.length : Int) then ((some (l0_2.take (x5_1 : Int).toNat : List (S58))).bind fun f8 => (if g0.length + f8.length < 5864062014805 then ((some (g0 ++ f8 : List (S58))).bind fun f6 => ((some (([(⟨a1_0, a1_1, a1_2⟩ : S58)] : List (S58)) : List (S58))).bind fun d7 => (if f6.length + d7.length < 5864062014805 then ((some (f6 ++ d7 : List (S58))).bind fun d5 => ((some (l0_2.drop (x5_1 : Int).toNat : List (S58))).bind fun d2 => (if d5.length + d2.length < 5864062014805 then (some (a0_0, a0_1, (d5 ++ d2))) else (none)))) else (none)))) else (none))) else (none)))) = some (r1, r2, r3) := H;have A8 := qb.mk A80;clear A80
     by_cases c9 : n2 = true
     ·subst c9
      have H1 : (spec_avClose.l0 k1 (wrap64 (x5_1 + 1)) a0_0 a0_1 l0_2 a1_0 a1_1 a1_2) = some (r1, r2, r3) := by rw [if_pos rfl] at H; exact H
      clear H;have H := H1;clear H1;have H' := qb.mk H;clear H
      try go_wp2
      have n0_ := qb.mk (qi b0.out);have n1_ := qb.mk (qi b1.out);have n2_ := qb.mk (qi b2.out);have n3_ := qb.mk (qe HB.out);clear b0;clear b1;clear b2;clear HB;have b0 := n0_;have b1 := n1_;have b2 := n2_;have HB := n3_;clear n0_ n1_ n2_ n3_;have p163 : 0 ≤ (x5_1 : Int) := of_decide_eq_true (by first | (with_reducible assumption) | assumption);have q163 : x5_1 < (l0_2.length : Int) := of_decide_eq_true (by first | (with_reducible assumption) | assumption);obtain ⟨ad163, e163, hx163_0, hx163_1, hx163_2⟩ := jd HR0_2.out x5_1 p163 q163;have hw163_2 := hx163_2;have hw163_1 := hx163_1;have hw163_0 := hx163_0;cases e163;replace hx163_0 := (HB.out.cell (World.block_lt_of_cell? w _ hx163_0)).trans hx163_0;replace hx163_1 := (HB.out.cell (World.block_lt_of_cell? w _ hx163_1)).trans hx163_1;replace hx163_2 := (HB.out.cell (World.block_lt_of_cell? w _ hx163_2)).trans hx163_2;replace p163 := eq_true p163;replace q163 := eq_true q163
      refine jf (n := 14) (S := fun w' => w'.cell? ⟨b4, 0, none⟩ = some (.int .i64 a0_0) ∧ w'.cell? ⟨b4, 1, none⟩ = some (.int .i64 a0_1) ∧ w'.cell? ⟨b4, 2, none⟩ = some (.slice (some ad163) l0_2.length c0_2) ∧ w'.cell? ⟨b3, 0, none⟩ = some (.int .i64 a1_0) ∧ w'.cell? ⟨b3, 1, none⟩ = some (.int .i64 a1_1) ∧ w'.cell? ⟨b3, 2, none⟩ = some (.bool a1_2) ∧ w'.cell? (ad163.add ((x5_1).toNat * 3)) = some (.int .i64 ((qk l0_2 x5_1).f0)) ∧ w'.cell? ⟨(ad163.add ((x5_1).toNat * 3)).block, (ad163.add ((x5_1).toNat * 3)).off + 1, none⟩ = some (.int .i64 ((qk l0_2 x5_1).f1)) ∧ w'.cell? ⟨(ad163.add ((x5_1).toNat * 3)).block, (ad163.add ((x5_1).toNat * 3)).off + 2, none⟩ = some (.bool ((qk l0_2 x5_1).f2))) (ds := []) #[false, false, false, false, false, false, false, false, false, false, false, false, false, false] (by kernel_rfl) rfl rfl ⟨(qc b0.out 0).trans rfl, (qc b0.out 1).trans rfl, (qc b0.out 2).trans rfl, (qc b1.out 0).trans rfl, (qc b1.out 1).trans rfl, (qc b1.out 2).trans rfl, ((HB.out.cell (World.block_lt_of_cell? w _ hw163_0)).trans hw163_0), ((HB.out.cell (World.block_lt_of_cell? w _ hw163_1)).trans hw163_1), ((HB.out.cell (World.block_lt_of_cell? w _ hw163_2)).trans hw163_2)⟩ (fun hHeld => ?_); refine zy spec_avClose.tab2 spec_avClose.bits2 (fun HT_ HW_ => ?_)
      generalize wr.drew = w10 at b0 b1 b2 HB hx163_0 hx163_1 hx163_2 hHeld ⊢
      refine pure_ (i := 0) (N := some 7) (v := ?_) (a' := ?_) #[true, false, false, false, false, false, false, false, false, false, false, false, false, false] rfl rfl (qu HT_.out (by kernel_rfl)) (fun _ _ _ h => h) (Or.inl ⟨by rfl, ?_⟩) ?_ ?_
      rotate_left
      ·intro w'
       go_simp
       with_reducible rfl
      rotate_left
      ·simp only [Act.put, sA_, sB_, sC_, i64_w, i32_w]
       rfl
      refine pure_ (i := 1) (N := some 8) (v := ?_) (a' := ?_) #[true, true, false, false, false, false, false, false, false, false, false, false, false, false] rfl rfl (qu HT_.out (by kernel_rfl)) (fun _ _ _ h => h) (Or.inl ⟨by rfl, ?_⟩) ?_ ?_
      rotate_left
      ·intro w'
       go_simp
       with_reducible rfl
      rotate_left
      ·simp only [Act.put, sA_, sB_, sC_, i64_w, i32_w]
       rfl
      refine take_ (i := 2) (N := some 9) (v := ?_) (a' := ?_) #[true, true, true, false, false, false, false, false, false, false, false, false, false, false] rfl rfl (zg HT_.out HW_.out (by kernel_rfl)) (fun _ _ _ h => h) (Or.inl ⟨by rfl, ?_⟩) hHeld ?_ ?_
      rotate_left
      ·rintro w' ⟨s0, s1, s2, s3, s4, s5, s6, s7, s8⟩
       go_simp
       with_reducible rfl
      rotate_left
      ·simp only [Act.put, sA_, sB_, sC_, i64_w, i32_w]
       rfl
      refine pure_ (i := 3) (N := some 10) (v := ?_) (a' := ?_) #[true, true, true, true, false, false, false, false, false, false, false, false, false, false] rfl rfl (qu HT_.out (by kernel_rfl)) (fun _ _ _ h => h) (Or.inl ⟨by rfl, ?_⟩) ?_ ?_
      rotate_left
      ·intro w'
       go_simp
       with_reducible rfl
      rotate_left
      ·simp only [Act.put, sA_, sB_, sC_, i64_w, i32_w]
       rfl
      refine pure_ (i := 4) (N := some 11) (v := ?_) (a' := ?_) #[true, true, true, true, true, false, false, false, false, false, false, false, false, false] rfl rfl (qu HT_.out (by kernel_rfl)) (fun _ _ _ h => h) (Or.inl ⟨by rfl, ?_⟩) ?_ ?_
      rotate_left
      ·intro w'
       go_simp
       with_reducible rfl
      rotate_left
      ·simp only [Act.put, sA_, sB_, sC_, i64_w, i32_w]
       rfl
      refine pure_ (i := 5) (N := some 12) (v := ?_) (a' := ?_) #[true, true, true, true, true, true, false, false, false, false, false, false, false, false] rfl rfl (qu HT_.out (by kernel_rfl)) (fun _ _ _ h => h) (Or.inl ⟨by rfl, ?_⟩) ?_ ?_
      rotate_left
      ·intro w'
       go_simp
       with_reducible rfl
      rotate_left
      ·simp only [Act.put, sA_, sB_, sC_, i64_w, i32_w]
       rfl
      refine pure_ (i := 6) (N := some 13) (v := ?_) (a' := ?_) #[true, true, true, true, true, true, true, false, false, false, false, false, false, false] rfl rfl (qu HT_.out (by kernel_rfl)) (fun _ _ _ h => h) (Or.inl ⟨by rfl, ?_⟩) ?_ ?_
      rotate_left
      ·intro w'
       go_simp
       with_reducible rfl
      rotate_left
      ·simp only [Act.put, sA_, sB_, sC_, i64_w, i32_w]
       rfl
      refine pure_ (i := 8) (N := some 15) (v := ?_) (a' := ?_) #[true, true, true, true, true, true, true, false, true, false, false, false, false, false] rfl rfl (qu HT_.out (by kernel_rfl)) (fun _ _ _ h => h) (Or.inl ⟨by rfl, ?_⟩) ?_ ?_
      rotate_left
      ·intro w'
       go_simp
       with_reducible rfl
      rotate_left
      ·simp only [Act.put, sA_, sB_, sC_, i64_w, i32_w]
       rfl
      refine take_ (i := 7) (N := some 14) (v := ?_) (a' := ?_) #[true, true, true, true, true, true, true, true, true, false, false, false, false, false] rfl rfl (zg HT_.out HW_.out (by kernel_rfl)) (fun _ _ _ h => h) (Or.inl ⟨by rfl, ?_⟩) hHeld ?_ ?_
      rotate_left
      ·rintro w' ⟨s0, s1, s2, s3, s4, s5, s6, s7, s8⟩
       go_simp
       with_reducible rfl
      rotate_left
      ·simp only [Act.put, sA_, sB_, sC_, i64_w, i32_w]
       rfl
      refine pure_ (i := 9) (N := some 16) (v := ?_) (a' := ?_) #[true, true, true, true, true, true, true, true, true, true, false, false, false, false] rfl rfl (qu HT_.out (by kernel_rfl)) (fun _ _ _ h => h) (Or.inl ⟨by rfl, ?_⟩) ?_ ?_
      rotate_left
      ·intro w'
       go_simp
       with_reducible rfl
      rotate_left
      ·simp only [Act.put, sA_, sB_, sC_, i64_w, i32_w]
       rfl
      refine take_ (i := 10) (N := some 17) (v := ?_) (a' := ?_) #[true, true, true, true, true, true, true, true, true, true, true, false, false, false] rfl rfl (zg HT_.out HW_.out (by kernel_rfl)) (fun _ _ _ h => h) (Or.inl ⟨by rfl, ?_⟩) hHeld ?_ ?_
      rotate_left
      ·rintro w' ⟨s0, s1, s2, s3, s4, s5, s6, s7, s8⟩
       go_simp
       with_reducible rfl
      rotate_left
      ·simp only [Act.put, sA_, sB_, sC_, i64_w, i32_w]
       rfl
      refine take_ (i := 11) (N := some 18) (v := ?_) (a' := ?_) #[true, true, true, true, true, true, true, true, true, true, true, true, false, false] rfl rfl (zg HT_.out HW_.out (by kernel_rfl)) (fun _ _ _ h => h) (Or.inl ⟨by rfl, ?_⟩) hHeld ?_ ?_
      rotate_left
      ·rintro w' ⟨s0, s1, s2, s3, s4, s5, s6, s7, s8⟩
       go_simp
       with_reducible rfl
      rotate_left
      ·simp only [Act.put, sA_, sB_, sC_, i64_w, i32_w]
       rfl
      refine one_ (i := 12) (N := some 19) #[true, true, true, true, true, true, true, true, true, true, true, true, true, false] rfl rfl (zw HT_.out (by kernel_rfl)) (by decide) (fun K hK => ?_)
      refine goes_ Try.func75 (by kernel_rfl) rfl #[.agg #[.int .i64 ((qk l0_2 x5_1).f0), .int .i64 ((qk l0_2 x5_1).f1), .bool ((qk l0_2 x5_1).f2)], .agg #[.int .i64 a1_0, .int .i64 a1_1, .bool a1_2]] (by rfl) rfl rfl (by (try simp only [List.map_toArray, List.map_cons, List.map_nil]); first | done | rfl | (simp only [List.length_drop, List.length_take]; rfl)) ?_
      with_reducible refine (spec_avLess.calls ((qk l0_2 x5_1).f0) ((qk l0_2 x5_1).f1) ((qk l0_2 x5_1).f2) a1_0 a1_1 a1_2 true _ A8.out).mono ?_
      rintro e w11 ⟨rfl, hb⟩
      refine ⟨_, rfl, ?_⟩
      have n0_ := qb.mk (qo (g := b4) (o := .cells #[.int .i64 a0_0, .int .i64 a0_1, .slice (some ad163) l0_2.length c0_2] 31 (0, 0)) (bk_ b0) hb);have n1_ := qb.mk (qo (g := b3) (o := .cells #[.int .i64 a1_0, .int .i64 a1_1, .bool a1_2] 58 (0, 0)) (bk_ b1) hb);have n2_ := qb.mk (qo (g := b5) (o := .cells #[.int .i64 0, .int .i64 0, .slice none 0 0] 31 (0, 0)) (bk_ b2) hb);have n3_ := qb.mk (qp (be3_ HB b6 b8 b9) hb);clear b0;clear b1;clear b2;clear HB;have b0 := n0_;have b1 := n1_;have b2 := n2_;have HB := n3_;clear n0_ n1_ n2_ n3_;(try clear hb);(try clear hb2);(try clear hk);(try clear hi)
      refine hK.out _ _ ⟨(qc b0.out 0).trans rfl, (qc b0.out 1).trans rfl, (qc b0.out 2).trans rfl, (qc b1.out 0).trans rfl, (qc b1.out 1).trans rfl, (qc b1.out 2).trans rfl, ((HB.out.cell (World.block_lt_of_cell? w _ hw163_0)).trans hw163_0), ((HB.out.cell (World.block_lt_of_cell? w _ hw163_1)).trans hw163_1), ((HB.out.cell (World.block_lt_of_cell? w _ hw163_2)).trans hw163_2)⟩ (fun hHeld => ?_)
      clear hK K
      refine norm_ (a' := ?_) ?_ ?_
      rotate_left
      ·show Act.put _ (some 19) _ = _
       simp only [Act.put, sA_, sB_, sC_, i64_w, i32_w]
       rfl
      refine pure_ (i := 13) (N := some 20) (v := ?_) (a' := ?_) #[true, true, true, true, true, true, true, true, true, true, true, true, true, true] rfl rfl (qu HT_.out (by kernel_rfl)) (fun _ _ _ h => h) (Or.inl ⟨by rfl, ?_⟩) ?_ ?_
      rotate_left
      ·intro w'
       go_simp
       with_reducible rfl
      rotate_left
      ·simp only [Act.put, sA_, sB_, sC_, i64_w, i32_w]
       rfl
      refine done_ (je HT_.out (by kernel_rfl)) ?_
      try go_wp2
      go_roundg k1
      case measure => have := HK1.out; omega
      case rel => exact ⟨(wrap64 (x5_1 + 1)), (by first | rfl | (simp; done) | (simp [*]; done)), H', ⟨by have := HK1.out; omega⟩, ⟨bk_ b0⟩, ⟨bk_ b1⟩, ⟨bk_ b2⟩, ⟨be3_ HB b6 b8 b9⟩⟩
     ·replace c9 := Bool.eq_false_iff.mpr c9
      subst c9;have H1 : ((some (([] : List (S58)) : List (S58))).bind fun g0 => (if x5_1 ≤ (l0_2.length : Int) then ((some (l0_2.take (x5_1 : Int).toNat : List (S58))).bind fun f8 => (if g0.length + f8.length < 5864062014805 then ((some (g0 ++ f8 : List (S58))).bind fun f6 => ((some (([(⟨a1_0, a1_1, a1_2⟩ : S58)] : List (S58)) : List (S58))).bind fun d7 => (if f6.length + d7.length < 5864062014805 then ((some (f6 ++ d7 : List (S58))).bind fun d5 => ((some (l0_2.drop (x5_1 : Int).toNat : List (S58))).bind fun d2 => (if d5.length + d2.length < 5864062014805 then (some (a0_0, a0_1, (d5 ++ d2))) else (none)))) else (none)))) else (none))) else (none))) = some (r1, r2, r3) := by rw [if_neg (show ¬ (false = true) by decide)] at H; exact H
      clear H;have H := H1;clear H1;obtain ⟨g0, hy165⟩ : ∃ y_ : List (S58), y_ = (([] : List (S58))) := ⟨_, rfl⟩;replace H : (if x5_1 ≤ (l0_2.length : Int) then ((some (l0_2.take (x5_1 : Int).toNat : List (S58))).bind fun f8 => (if g0.length + f8.length < 5864062014805 then ((some (g0 ++ f8 : List (S58))).bind fun f6 => ((some (([(⟨a1_0, a1_1, a1_2⟩ : S58)] : List (S58)) : List (S58))).bind fun d7 => (if f6.length + d7.length < 5864062014805 then ((some (f6 ++ d7 : List (S58))).bind fun d5 => ((some (l0_2.drop (x5_1 : Int).toNat : List (S58))).bind fun d2 => (if d5.length + d2.length < 5864062014805 then (some (a0_0, a0_1, (d5 ++ d2))) else (none)))) else (none)))) else (none))) else (none)) = some (r1, r2, r3) := by first | (rw [hy165]; with_reducible exact H) | (have H2_ := (Option.bind_some _ _).symm.trans H; rw [hy165]; with_reducible exact H2_) | (have H2_ := (Option.bind_some _ _).symm.trans H; with_reducible exact H2_) | with_reducible exact H | (rw [hy165]; exact H) | exact H
      have g8 := qb.mk hy165;clear hy165;have c12b0 := eq_true (of_decide_eq_true (by first | (with_reducible assumption) | assumption) : 0 ≤ x5_1)
      by_cases c13 : x5_1 ≤ (l0_2.length : Int)
      ·rw [if_pos c13] at H
       have c13b0 := eq_true c13;have c13b1 : decide (x5_1 ≤ (l0_2.length : Int)) = true := decide_eq_true c13;clear c13;obtain ⟨f8, hy168⟩ : ∃ y_ : List (S58), y_ = (l0_2.take (x5_1 : Int).toNat) := ⟨_, rfl⟩;replace H : (if g0.length + f8.length < 5864062014805 then ((some (g0 ++ f8 : List (S58))).bind fun f6 => ((some (([(⟨a1_0, a1_1, a1_2⟩ : S58)] : List (S58)) : List (S58))).bind fun d7 => (if f6.length + d7.length < 5864062014805 then ((some (f6 ++ d7 : List (S58))).bind fun d5 => ((some (l0_2.drop (x5_1 : Int).toNat : List (S58))).bind fun d2 => (if d5.length + d2.length < 5864062014805 then (some (a0_0, a0_1, (d5 ++ d2))) else (none)))) else (none)))) else (none)) = some (r1, r2, r3) := by first | (rw [hy168]; with_reducible exact H) | (have H2_ := (Option.bind_some _ _).symm.trans H; rw [hy168]; with_reducible exact H2_) | (have H2_ := (Option.bind_some _ _).symm.trans H; with_reducible exact H2_) | with_reducible exact H | (rw [hy168]; exact H) | exact H
       have m2 := qb.mk hy168;clear hy168
       by_cases c14 : g0.length + f8.length < 5864062014805
       ·rw [if_pos c14] at H
        have LMc14 := qb.mk c14;clear c14;obtain ⟨f6, hy172⟩ : ∃ y_ : List (S58), y_ = (g0 ++ f8) := ⟨_, rfl⟩;replace H : ((some (([(⟨a1_0, a1_1, a1_2⟩ : S58)] : List (S58)) : List (S58))).bind fun d7 => (if f6.length + d7.length < 5864062014805 then ((some (f6 ++ d7 : List (S58))).bind fun d5 => ((some (l0_2.drop (x5_1 : Int).toNat : List (S58))).bind fun d2 => (if d5.length + d2.length < 5864062014805 then (some (a0_0, a0_1, (d5 ++ d2))) else (none)))) else (none))) = some (r1, r2, r3) := by first | (rw [hy172]; with_reducible exact H) | (have H2_ := (Option.bind_some _ _).symm.trans H; rw [hy172]; with_reducible exact H2_) | (have H2_ := (Option.bind_some _ _).symm.trans H; with_reducible exact H2_) | with_reducible exact H | (rw [hy172]; exact H) | exact H
        have m0 := qb.mk hy172;clear hy172;obtain ⟨d7, hy175⟩ : ∃ y_ : List (S58), y_ = (([(⟨a1_0, a1_1, a1_2⟩ : S58)] : List (S58))) := ⟨_, rfl⟩;replace H : (if f6.length + d7.length < 5864062014805 then ((some (f6 ++ d7 : List (S58))).bind fun d5 => ((some (l0_2.drop (x5_1 : Int).toNat : List (S58))).bind fun d2 => (if d5.length + d2.length < 5864062014805 then (some (a0_0, a0_1, (d5 ++ d2))) else (none)))) else (none)) = some (r1, r2, r3) := by first | (rw [hy175]; with_reducible exact H) | (have H2_ := (Option.bind_some _ _).symm.trans H; rw [hy175]; with_reducible exact H2_) | (have H2_ := (Option.bind_some _ _).symm.trans H; with_reducible exact H2_) | with_reducible exact H | (rw [hy175]; exact H) | exact H
        have g5 := qb.mk hy175;clear hy175
        by_cases c15 : f6.length + d7.length < 5864062014805
        ·rw [if_pos c15] at H
         have LMc15 := qb.mk c15;clear c15;obtain ⟨d5, hy178⟩ : ∃ y_ : List (S58), y_ = (f6 ++ d7) := ⟨_, rfl⟩;replace H : ((some (l0_2.drop (x5_1 : Int).toNat : List (S58))).bind fun d2 => (if d5.length + d2.length < 5864062014805 then (some (a0_0, a0_1, (d5 ++ d2))) else (none))) = some (r1, r2, r3) := by first | (rw [hy178]; with_reducible exact H) | (have H2_ := (Option.bind_some _ _).symm.trans H; rw [hy178]; with_reducible exact H2_) | (have H2_ := (Option.bind_some _ _).symm.trans H; with_reducible exact H2_) | with_reducible exact H | (rw [hy178]; exact H) | exact H
         have n3 := qb.mk hy178;clear hy178;have c16b0 := eq_true (of_decide_eq_true (by first | (with_reducible assumption) | assumption) : 0 ≤ x5_1);have c17b0 := eq_true (of_decide_eq_true (by first | (with_reducible assumption) | assumption) : x5_1 ≤ (l0_2.length : Int));obtain ⟨d2, hy181⟩ : ∃ y_ : List (S58), y_ = (l0_2.drop (x5_1 : Int).toNat) := ⟨_, rfl⟩;replace H : (if d5.length + d2.length < 5864062014805 then (some (a0_0, a0_1, (d5 ++ d2))) else (none)) = some (r1, r2, r3) := by first | (rw [hy181]; with_reducible exact H) | (have H2_ := (Option.bind_some _ _).symm.trans H; rw [hy181]; with_reducible exact H2_) | (have H2_ := (Option.bind_some _ _).symm.trans H; with_reducible exact H2_) | with_reducible exact H | (rw [hy181]; exact H) | exact H
         have m3 := qb.mk hy181;clear hy181
         by_cases c18 : d5.length + d2.length < 5864062014805
         ·rw [if_pos c18] at H
          have LMc18 := qb.mk c18;clear c18;obtain ⟨m8, hy185⟩ : ∃ y_ : List (S58), y_ = (d5 ++ d2) := ⟨_, rfl⟩;replace H : (some (a0_0, a0_1, m8)) = some (r1, r2, r3) := by first | (rw [hy185]; with_reducible exact H) | (have H2_ := (Option.bind_some _ _).symm.trans H; rw [hy185]; with_reducible exact H2_) | (have H2_ := (Option.bind_some _ _).symm.trans H; with_reducible exact H2_) | with_reducible exact H | (rw [hy185]; exact H) | exact H
          have n4 := qb.mk hy185;clear hy185
          simp only [Option.some.injEq, Prod.mk.injEq] at H
          obtain ⟨rfl, rfl, rfl⟩ := H
          try go_wp2
          have n0_ := qb.mk (qi b0.out);have n1_ := qb.mk (qi b1.out);have n2_ := qb.mk (qi b2.out);have n3_ := qb.mk (qe HB.out);clear b0;clear b1;clear b2;clear HB;have b0 := n0_;have b1 := n1_;have b2 := n2_;have HB := n3_;clear n0_ n1_ n2_ n3_;have p163 : 0 ≤ (x5_1 : Int) := of_decide_eq_true (by first | (with_reducible assumption) | assumption);have q163 : x5_1 < (l0_2.length : Int) := of_decide_eq_true (by first | (with_reducible assumption) | assumption);obtain ⟨ad163, e163, hx163_0, hx163_1, hx163_2⟩ := jd HR0_2.out x5_1 p163 q163;have hw163_2 := hx163_2;have hw163_1 := hx163_1;have hw163_0 := hx163_0;cases e163;replace hx163_0 := (HB.out.cell (World.block_lt_of_cell? w _ hx163_0)).trans hx163_0;replace hx163_1 := (HB.out.cell (World.block_lt_of_cell? w _ hx163_1)).trans hx163_1;replace hx163_2 := (HB.out.cell (World.block_lt_of_cell? w _ hx163_2)).trans hx163_2;replace p163 := eq_true p163;replace q163 := eq_true q163
          refine jf (n := 14) (S := fun w' => w'.cell? ⟨b4, 0, none⟩ = some (.int .i64 a0_0) ∧ w'.cell? ⟨b4, 1, none⟩ = some (.int .i64 a0_1) ∧ w'.cell? ⟨b4, 2, none⟩ = some (.slice (some ad163) l0_2.length c0_2) ∧ w'.cell? ⟨b3, 0, none⟩ = some (.int .i64 a1_0) ∧ w'.cell? ⟨b3, 1, none⟩ = some (.int .i64 a1_1) ∧ w'.cell? ⟨b3, 2, none⟩ = some (.bool a1_2) ∧ w'.cell? (ad163.add ((x5_1).toNat * 3)) = some (.int .i64 ((qk l0_2 x5_1).f0)) ∧ w'.cell? ⟨(ad163.add ((x5_1).toNat * 3)).block, (ad163.add ((x5_1).toNat * 3)).off + 1, none⟩ = some (.int .i64 ((qk l0_2 x5_1).f1)) ∧ w'.cell? ⟨(ad163.add ((x5_1).toNat * 3)).block, (ad163.add ((x5_1).toNat * 3)).off + 2, none⟩ = some (.bool ((qk l0_2 x5_1).f2))) (ds := []) #[false, false, false, false, false, false, false, false, false, false, false, false, false, false] (by kernel_rfl) rfl rfl ⟨(qc b0.out 0).trans rfl, (qc b0.out 1).trans rfl, (qc b0.out 2).trans rfl, (qc b1.out 0).trans rfl, (qc b1.out 1).trans rfl, (qc b1.out 2).trans rfl, ((HB.out.cell (World.block_lt_of_cell? w _ hw163_0)).trans hw163_0), ((HB.out.cell (World.block_lt_of_cell? w _ hw163_1)).trans hw163_1), ((HB.out.cell (World.block_lt_of_cell? w _ hw163_2)).trans hw163_2)⟩ (fun hHeld => ?_); refine zy spec_avClose.tab2 spec_avClose.bits2 (fun HT_ HW_ => ?_)
          generalize wr.drew = w19 at b0 b1 b2 HB hx163_0 hx163_1 hx163_2 hHeld ⊢
          refine pure_ (i := 0) (N := some 7) (v := ?_) (a' := ?_) #[true, false, false, false, false, false, false, false, false, false, false, false, false, false] rfl rfl (qu HT_.out (by kernel_rfl)) (fun _ _ _ h => h) (Or.inl ⟨by rfl, ?_⟩) ?_ ?_
          rotate_left
          ·intro w'
           go_simp
           with_reducible rfl
          rotate_left
          ·simp only [Act.put, sA_, sB_, sC_, i64_w, i32_w]
           rfl
          refine pure_ (i := 1) (N := some 8) (v := ?_) (a' := ?_) #[true, true, false, false, false, false, false, false, false, false, false, false, false, false] rfl rfl (qu HT_.out (by kernel_rfl)) (fun _ _ _ h => h) (Or.inl ⟨by rfl, ?_⟩) ?_ ?_
          rotate_left
          ·intro w'
           go_simp
           with_reducible rfl
          rotate_left
          ·simp only [Act.put, sA_, sB_, sC_, i64_w, i32_w]
           rfl
          refine take_ (i := 2) (N := some 9) (v := ?_) (a' := ?_) #[true, true, true, false, false, false, false, false, false, false, false, false, false, false] rfl rfl (zg HT_.out HW_.out (by kernel_rfl)) (fun _ _ _ h => h) (Or.inl ⟨by rfl, ?_⟩) hHeld ?_ ?_
          rotate_left
          ·rintro w' ⟨s0, s1, s2, s3, s4, s5, s6, s7, s8⟩
           go_simp
           with_reducible rfl
          rotate_left
          ·simp only [Act.put, sA_, sB_, sC_, i64_w, i32_w]
           rfl
          refine pure_ (i := 3) (N := some 10) (v := ?_) (a' := ?_) #[true, true, true, true, false, false, false, false, false, false, false, false, false, false] rfl rfl (qu HT_.out (by kernel_rfl)) (fun _ _ _ h => h) (Or.inl ⟨by rfl, ?_⟩) ?_ ?_
          rotate_left
          ·intro w'
           go_simp
           with_reducible rfl
          rotate_left
          ·simp only [Act.put, sA_, sB_, sC_, i64_w, i32_w]
           rfl
          refine pure_ (i := 4) (N := some 11) (v := ?_) (a' := ?_) #[true, true, true, true, true, false, false, false, false, false, false, false, false, false] rfl rfl (qu HT_.out (by kernel_rfl)) (fun _ _ _ h => h) (Or.inl ⟨by rfl, ?_⟩) ?_ ?_
          rotate_left
          ·intro w'
           go_simp
           with_reducible rfl
          rotate_left
          ·simp only [Act.put, sA_, sB_, sC_, i64_w, i32_w]
           rfl
          refine pure_ (i := 5) (N := some 12) (v := ?_) (a' := ?_) #[true, true, true, true, true, true, false, false, false, false, false, false, false, false] rfl rfl (qu HT_.out (by kernel_rfl)) (fun _ _ _ h => h) (Or.inl ⟨by rfl, ?_⟩) ?_ ?_
          rotate_left
          ·intro w'
           go_simp
           with_reducible rfl
          rotate_left
          ·simp only [Act.put, sA_, sB_, sC_, i64_w, i32_w]
           rfl
          refine pure_ (i := 6) (N := some 13) (v := ?_) (a' := ?_) #[true, true, true, true, true, true, true, false, false, false, false, false, false, false] rfl rfl (qu HT_.out (by kernel_rfl)) (fun _ _ _ h => h) (Or.inl ⟨by rfl, ?_⟩) ?_ ?_
          rotate_left
          ·intro w'
           go_simp
           with_reducible rfl
          rotate_left
          ·simp only [Act.put, sA_, sB_, sC_, i64_w, i32_w]
           rfl
          refine pure_ (i := 8) (N := some 15) (v := ?_) (a' := ?_) #[true, true, true, true, true, true, true, false, true, false, false, false, false, false] rfl rfl (qu HT_.out (by kernel_rfl)) (fun _ _ _ h => h) (Or.inl ⟨by rfl, ?_⟩) ?_ ?_
          rotate_left
          ·intro w'
           go_simp
           with_reducible rfl
          rotate_left
          ·simp only [Act.put, sA_, sB_, sC_, i64_w, i32_w]
           rfl
          refine take_ (i := 7) (N := some 14) (v := ?_) (a' := ?_) #[true, true, true, true, true, true, true, true, true, false, false, false, false, false] rfl rfl (zg HT_.out HW_.out (by kernel_rfl)) (fun _ _ _ h => h) (Or.inl ⟨by rfl, ?_⟩) hHeld ?_ ?_
          rotate_left
          ·rintro w' ⟨s0, s1, s2, s3, s4, s5, s6, s7, s8⟩
           go_simp
           with_reducible rfl
          rotate_left
          ·simp only [Act.put, sA_, sB_, sC_, i64_w, i32_w]
           rfl
          refine pure_ (i := 9) (N := some 16) (v := ?_) (a' := ?_) #[true, true, true, true, true, true, true, true, true, true, false, false, false, false] rfl rfl (qu HT_.out (by kernel_rfl)) (fun _ _ _ h => h) (Or.inl ⟨by rfl, ?_⟩) ?_ ?_
          rotate_left
          ·intro w'
           go_simp
           with_reducible rfl
          rotate_left
          ·simp only [Act.put, sA_, sB_, sC_, i64_w, i32_w]
           rfl
          refine take_ (i := 10) (N := some 17) (v := ?_) (a' := ?_) #[true, true, true, true, true, true, true, true, true, true, true, false, false, false] rfl rfl (zg HT_.out HW_.out (by kernel_rfl)) (fun _ _ _ h => h) (Or.inl ⟨by rfl, ?_⟩) hHeld ?_ ?_
          rotate_left
          ·rintro w' ⟨s0, s1, s2, s3, s4, s5, s6, s7, s8⟩
           go_simp
           with_reducible rfl
          rotate_left
          ·simp only [Act.put, sA_, sB_, sC_, i64_w, i32_w]
           rfl
          refine take_ (i := 11) (N := some 18) (v := ?_) (a' := ?_) #[true, true, true, true, true, true, true, true, true, true, true, true, false, false] rfl rfl (zg HT_.out HW_.out (by kernel_rfl)) (fun _ _ _ h => h) (Or.inl ⟨by rfl, ?_⟩) hHeld ?_ ?_
          rotate_left
          ·rintro w' ⟨s0, s1, s2, s3, s4, s5, s6, s7, s8⟩
           go_simp
           with_reducible rfl
          rotate_left
          ·simp only [Act.put, sA_, sB_, sC_, i64_w, i32_w]
           rfl
          refine one_ (i := 12) (N := some 19) #[true, true, true, true, true, true, true, true, true, true, true, true, true, false] rfl rfl (zw HT_.out (by kernel_rfl)) (by decide) (fun K hK => ?_)
          refine goes_ Try.func75 (by kernel_rfl) rfl #[.agg #[.int .i64 ((qk l0_2 x5_1).f0), .int .i64 ((qk l0_2 x5_1).f1), .bool ((qk l0_2 x5_1).f2)], .agg #[.int .i64 a1_0, .int .i64 a1_1, .bool a1_2]] (by rfl) rfl rfl (by (try simp only [List.map_toArray, List.map_cons, List.map_nil]); first | done | rfl | (simp only [List.length_drop, List.length_take]; rfl)) ?_
          with_reducible refine (spec_avLess.calls ((qk l0_2 x5_1).f0) ((qk l0_2 x5_1).f1) ((qk l0_2 x5_1).f2) a1_0 a1_1 a1_2 false _ A8.out).mono ?_
          rintro e w20 ⟨rfl, hb⟩
          refine ⟨_, rfl, ?_⟩
          have n0_ := qb.mk (qo (g := b4) (o := .cells #[.int .i64 a0_0, .int .i64 a0_1, .slice (some ad163) l0_2.length c0_2] 31 (0, 0)) (bk_ b0) hb);have n1_ := qb.mk (qo (g := b3) (o := .cells #[.int .i64 a1_0, .int .i64 a1_1, .bool a1_2] 58 (0, 0)) (bk_ b1) hb);have n2_ := qb.mk (qo (g := b5) (o := .cells #[.int .i64 0, .int .i64 0, .slice none 0 0] 31 (0, 0)) (bk_ b2) hb);have n3_ := qb.mk (qp (be3_ HB b6 b8 b9) hb);clear b0;clear b1;clear b2;clear HB;have b0 := n0_;have b1 := n1_;have b2 := n2_;have HB := n3_;clear n0_ n1_ n2_ n3_;(try clear hb);(try clear hb2);(try clear hk);(try clear hi)
          refine hK.out _ _ ⟨(qc b0.out 0).trans rfl, (qc b0.out 1).trans rfl, (qc b0.out 2).trans rfl, (qc b1.out 0).trans rfl, (qc b1.out 1).trans rfl, (qc b1.out 2).trans rfl, ((HB.out.cell (World.block_lt_of_cell? w _ hw163_0)).trans hw163_0), ((HB.out.cell (World.block_lt_of_cell? w _ hw163_1)).trans hw163_1), ((HB.out.cell (World.block_lt_of_cell? w _ hw163_2)).trans hw163_2)⟩ (fun hHeld => ?_)
          clear hK K
          refine norm_ (a' := ?_) ?_ ?_
          rotate_left
          ·show Act.put _ (some 19) _ = _
           simp only [Act.put, sA_, sB_, sC_, i64_w, i32_w]
           rfl
          refine pure_ (i := 13) (N := some 20) (v := ?_) (a' := ?_) #[true, true, true, true, true, true, true, true, true, true, true, true, true, true] rfl rfl (qu HT_.out (by kernel_rfl)) (fun _ _ _ h => h) (Or.inl ⟨by rfl, ?_⟩) ?_ ?_
          rotate_left
          ·intro w'
           go_simp
           with_reducible rfl
          rotate_left
          ·simp only [Act.put, sA_, sB_, sC_, i64_w, i32_w]
           rfl
          refine done_ (je HT_.out (by kernel_rfl)) ?_
          try go_wp2
          have n0_ := qb.mk (qi b0.out);have n1_ := qb.mk (qi b1.out);have n2_ := qb.mk (qi b2.out);have n3_ := qb.mk (qe HB.out);clear b0;clear b1;clear b2;clear HB;have b0 := n0_;have b1 := n1_;have b2 := n2_;have HB := n3_;clear n0_ n1_ n2_ n3_;have q22 : (x5_1 : Int) ≤ ((l0_2.length : Int) : Int) := of_decide_eq_true (by first | (with_reducible assumption) | assumption);obtain ⟨i022, hi022, _, hsz22, _⟩ := info_parts jg;have hroom22 : l0_2.length ≤ c0_2 := HC0_2.out;have hC22 : Kd.C k58 _ (some ad163) l0_2.length l0_2 := HR0_2.out;have hcut22 := cut_to (P := Try.prog) 29 58 .i64 Try.underlying29 hi022 (some ad163) l0_2.length c0_2 x5_1 (of_decide_eq_true (by first | (with_reducible assumption) | assumption)) q22 hroom22;have hr22 := Kd.C_take (m := (x5_1 : Int).toNat) hC22 (by omega);have hy22 : f8.length = (x5_1 : Int).toNat := (by rw [m2.out, List.length_take]; omega);rw [← m2.out] at hr22;rw [← hy22] at hcut22;have HR171 := qb.mk hr22;have HC171 := qb.mk (show f8.length ≤ c0_2 from by omega);clear hr22 hC22 hroom22 hi022 hsz22;have KY22 := qb.mk hy22;clear hy22;replace q22 := eq_true q22
          refine jf (n := 10) (S := fun w' => w'.cell? ⟨b4, 0, none⟩ = some (.int .i64 a0_0) ∧ w'.cell? ⟨b4, 1, none⟩ = some (.int .i64 a0_1) ∧ w'.cell? ⟨b4, 2, none⟩ = some (.slice (some ad163) l0_2.length c0_2) ∧ w'.cell? ⟨b3, 0, none⟩ = some (.int .i64 a1_0) ∧ w'.cell? ⟨b3, 1, none⟩ = some (.int .i64 a1_1) ∧ w'.cell? ⟨b3, 2, none⟩ = some (.bool a1_2)) (ds := []) #[false, false, false, false, false, false, false, false, false, false] (by kernel_rfl) rfl rfl ⟨(qc b0.out 0).trans rfl, (qc b0.out 1).trans rfl, (qc b0.out 2).trans rfl, (qc b1.out 0).trans rfl, (qc b1.out 1).trans rfl, (qc b1.out 2).trans rfl⟩ (fun hHeld => ?_); refine zy spec_avClose.tab4 spec_avClose.bits4 (fun HT_ HW_ => ?_)
          generalize w20.drew = w21 at b0 b1 b2 HB HR171 hHeld ⊢
          refine pure_ (i := 1) (N := some 24) (v := ?_) (a' := ?_) #[false, true, false, false, false, false, false, false, false, false] rfl rfl (qu HT_.out (by kernel_rfl)) (fun _ _ _ h => h) (Or.inl ⟨by rfl, ?_⟩) ?_ ?_
          rotate_left
          ·intro w'
           go_simp
           with_reducible rfl
          rotate_left
          ·simp only [Act.put, sA_, sB_, sC_, i64_w, i32_w]
           rfl
          refine pure_ (i := 3) (N := some 26) (v := ?_) (a' := ?_) #[false, true, false, true, false, false, false, false, false, false] rfl rfl (qu HT_.out (by kernel_rfl)) (fun _ _ _ h => h) (Or.inl ⟨by rfl, ?_⟩) ?_ ?_
          rotate_left
          ·intro w'
           go_simp
           with_reducible rfl
          rotate_left
          ·simp only [Act.put, sA_, sB_, sC_, i64_w, i32_w]
           rfl
          refine take_ (i := 2) (N := some 25) (v := ?_) (a' := ?_) #[false, true, true, true, false, false, false, false, false, false] rfl rfl (zg HT_.out HW_.out (by kernel_rfl)) (fun _ _ _ h => h) (Or.inl ⟨by rfl, ?_⟩) hHeld ?_ ?_
          rotate_left
          ·rintro w' ⟨s0, s1, s2, s3, s4, s5⟩
           go_simp
           with_reducible rfl
          rotate_left
          ·simp only [Act.put, sA_, sB_, sC_, i64_w, i32_w]
           rfl
          refine pure_ (i := 4) (N := some 27) (v := ?_) (a' := ?_) #[false, true, true, true, true, false, false, false, false, false] rfl rfl (qu HT_.out (by kernel_rfl)) (fun _ _ _ h => h) (Or.inl ⟨by rfl, ?_⟩) ?_ ?_
          rotate_left
          ·intro w'
           go_simp
           with_reducible rfl
          rotate_left
          ·simp only [Act.put, sA_, sB_, sC_, i64_w, i32_w]
           rfl
          refine take_ (i := 6) (N := some 29) (v := ?_) (a' := ?_) #[false, true, true, true, true, false, true, false, false, false] rfl rfl (zg HT_.out HW_.out (by kernel_rfl)) (fun _ _ _ h => h) (Or.inl ⟨by rfl, ?_⟩) hHeld ?_ ?_
          rotate_left
          ·rintro w' ⟨s0, s1, s2, s3, s4, s5⟩
           go_simp
           with_reducible rfl
          rotate_left
          ·simp only [Act.put, sA_, sB_, sC_, i64_w, i32_w]
           rfl
          refine join_ (σ := Value × Value × Value) 2 #[true, true, true, true, true, true, true, true, false, false] (fun s_ => [(23, s_.1), (28, s_.2.1), (30, s_.2.2)]) (fun s_ w' => (w'.cell? ⟨b4, 0, none⟩ = some (.int .i64 a0_0) ∧ w'.cell? ⟨b4, 1, none⟩ = some (.int .i64 a0_1) ∧ w'.cell? ⟨b4, 2, none⟩ = some (.slice (some ad163) l0_2.length c0_2) ∧ w'.cell? ⟨b3, 0, none⟩ = some (.int .i64 a1_0) ∧ w'.cell? ⟨b3, 1, none⟩ = some (.int .i64 a1_1) ∧ w'.cell? ⟨b3, 2, none⟩ = some (.bool a1_2)) ∧ (Kd.R k58 58 w' w.heap.size (fun k_ => some k_ ≠ (s_.2.2 : Value).ownBlock ∧ k_ ≠ b3) s_.2.1 f6) ∧ (Kd.R k58 58 w' w.heap.size (fun k_ => some k_ ≠ (s_.2.1 : Value).ownBlock ∧ k_ ≠ b3) s_.2.2 d7) ∧ (w'.heap[b4]? = some (.cells #[.int .i64 a0_0, .int .i64 a0_1, .slice (some ad163) l0_2.length c0_2] 31 (0, 0))) ∧ (w'.heap[b3]? = some (.cells #[.int .i64 a1_0, .int .i64 a1_1, .bool a1_2] 58 (0, 0))) ∧ (w'.heap[b5]? = some (.cells #[.int .i64 0, .int .i64 0, .slice none 0 0] 31 (0, 0))) ∧ (Below w.heap.size w w')) ?_ ?_
          rotate_left
          ·intro hCont
           refine two_ (i := 0) (j := 7) (Ni := some 23) (Nj := some 30) #[true, true, true, true, true, false, true, false, false, false] #[false, true, true, true, true, false, true, true, false, false] rfl rfl rfl rfl (two_of HT_.out (by kernel_rfl)) (by decide) (by decide) (fun K hK => ?_) (fun K hK => ?_)
           ·skip
            refine Kd.zz k58 _ 58 ?hg (N := 23) ?hd (xs := ([] : List (S58))) (inner := []) (ok := fun _ => True) (okp := fun _ => True) ?hr ?hp (fun _ hk => hk) trivial (Below.refl _ _) (Nat.le_refl _) (by simp) ?_; (case hd => rfl); (case hg => rfl); (case hr => first | (go_simp; done) | (go_simp; rfl)); (case hp => exact (Reps.none _ _))
            intro v166 w23 ho24 hb hg_ hnew_
            clear hg_ hnew_
            (first | rw [← g8.out] at ho24 | (simp only [Int.reduceToNat] at ho24; rw [← g8.out] at ho24))
            have n0_ := qb.mk (Kd.zp (Kd.R_newB ho24 (g := b3) (o := .cells #[.int .i64 a1_0, .int .i64 a1_1, .bool a1_2] 58 (0, 0)) (bk_ b1)) (ql (be3_ HB b6 b8 b9)));have n1_ := qb.mk (qo (g := b4) (o := .cells #[.int .i64 a0_0, .int .i64 a0_1, .slice (some ad163) l0_2.length c0_2] 31 (0, 0)) (bk_ b0) hb);have n2_ := qb.mk (qo (g := b3) (o := .cells #[.int .i64 a1_0, .int .i64 a1_1, .bool a1_2] 58 (0, 0)) (bk_ b1) hb);have n3_ := qb.mk (qo (g := b5) (o := .cells #[.int .i64 0, .int .i64 0, .slice none 0 0] 31 (0, 0)) (bk_ b2) hb);have n4_ := qb.mk (qp (be3_ HB b6 b8 b9) hb);clear b0;clear b1;clear b2;clear HB;have d3 := n0_;have b0 := n1_;have b1 := n2_;have b2 := n3_;have HB := n4_;clear n0_ n1_ n2_ n3_ n4_;clear hb ho24
            refine hK.out _ _ ⟨(qc b0.out 0).trans rfl, (qc b0.out 1).trans rfl, (qc b0.out 2).trans rfl, (qc b1.out 0).trans rfl, (qc b1.out 1).trans rfl, (qc b1.out 2).trans rfl⟩ (fun hHeld => ?_)
            clear hK K
            refine norm_ (a' := ?_) ?_ ?_
            rotate_left
            ·show Act.put _ (some 23) _ = _
             simp only [Act.put, sA_, sB_, sC_, i64_w, i32_w]
             rfl
            refine two_ (i := 5) (j := 7) (Ni := some 28) (Nj := some 30) #[true, true, true, true, true, true, true, false, false, false] #[true, true, true, true, true, false, true, true, false, false] rfl rfl rfl rfl (two_of HT_.out (by kernel_rfl)) (by decide) (by decide) (fun K hK => ?_) (fun K hK => ?_)
            ·skip
             refine Kd.R_append_rows_step k58 (w0 := w) w.heap.size (by rfl) (.tmp 23) (.tmp 27) 29 58 (.agg #[(.int .i64 0), (.int .i64 0), (.bool false)]) 24 rfl Try.underlying29 jg rfl (by decide) (by omega) v166 g0 f8 _ _ _ (fun k_ => k_ ≠ b3) (fun _ => False) rfl rfl ?aO ?aR (fun _ _ h => h) (fun _ h => h.elim) ?aF ?aB ?aS ?aL ?_
             (case aR => repeat (first | exact (Kd.qz HR171.out HB.out) | (with_reducible refine Kd.za ?_ _) | (with_reducible refine Kd.zb ?_ _) | (with_reducible refine Kd.zf ?_)))
             (case aB => exact (be3_ HB b6 b8 b9))
             (case aF => exact (fun k_ hk => Kd.freshB (g := b3) (o := .cells #[.int .i64 a1_0, .int .i64 a1_1, .bool a1_2] 58 (0, 0)) (bk_ b1) k_ hk))
             (case aO => exact (by (with_reducible repeat (first | apply Kd.qm | apply Kd.qn | apply Kd.qq)); exact Kd.zh d3.out (fun _ hk => hk.2)))
             (case aS => exact (ql (be3_ HB b6 b8 b9)))
             (case aL => have := LMc14.out; omega)
             intro v173 w25 ho hb hg hat
             rw [← m0.out] at ho;have n0_ := qb.mk (zq (g := b4) (o := .cells #[.int .i64 a0_0, .int .i64 a0_1, .slice (some ad163) l0_2.length c0_2] 31 (0, 0)) (bk_ b0) hg (Kd.R_ne d3.out b0.out (by decide)));have n1_ := qb.mk (zq (g := b3) (o := .cells #[.int .i64 a1_0, .int .i64 a1_1, .bool a1_2] 58 (0, 0)) (bk_ b1) hg (Kd.R_away d3.out (fun _ hk => hk.2)));have n2_ := qb.mk (zq (g := b5) (o := .cells #[.int .i64 0, .int .i64 0, .slice none 0 0] 31 (0, 0)) (bk_ b2) hg (Kd.R_ne d3.out b2.out (by decide)));have n3_ := qb.mk (hb);have n4_ := qb.mk (ho);clear b0;clear b1;clear b2;clear HB;clear d3;have b0 := n0_;have b1 := n1_;have b2 := n2_;have HB := n3_;have f4 := n4_;clear n0_ n1_ n2_ n3_ n4_;clear ho hb hg hat
             refine hK.out _ _ ⟨(qc b0.out 0).trans rfl, (qc b0.out 1).trans rfl, (qc b0.out 2).trans rfl, (qc b1.out 0).trans rfl, (qc b1.out 1).trans rfl, (qc b1.out 2).trans rfl⟩ (fun hHeld => ?_)
             clear hK K
             refine norm_ (a' := ?_) ?_ ?_
             rotate_left
             ·show Act.put _ (some 28) _ = _
              simp only [Act.put, sA_, sB_, sC_, i64_w, i32_w]
              rfl
             refine one_ (i := 7) (N := some 30) #[true, true, true, true, true, true, true, true, false, false] rfl rfl (zw HT_.out (by kernel_rfl)) (by decide) (fun K hK => ?_)
             refine Kd.zz k58 _ 58 ?hg (N := 30) ?hd (xs := ([(⟨a1_0, a1_1, a1_2⟩ : S58)] : List (S58))) (inner := [.int .i64 a1_0, .int .i64 a1_1, .bool a1_2]) (ok := fun _ => True) (okp := fun _ => True) ?hr ?hp (fun _ hk => hk) trivial (Below.refl _ _) (Nat.le_refl _) (by simp) ?_; (case hd => rfl); (case hg => rfl); (case hr => first | (go_simp; done) | (go_simp; rfl)); (case hp => exact (Reps.c3 (show Kd.M k58 _ _ _ (⟨a1_0, a1_1, a1_2⟩ : S58) [.int .i64 a1_0, .int .i64 a1_1, .bool a1_2] from (k58_mkM _ _ _ (⟨a1_0, a1_1, a1_2⟩ : S58) )) (Reps.none _ _)))
             intro v176 w26 ho27 hb hg_ hnew_
             clear hg_ hnew_
             (first | rw [← g5.out] at ho27 | (simp only [Int.reduceToNat] at ho27; rw [← g5.out] at ho27))
             have n0_ := qb.mk (Kd.zm (kr_ f4) (Kd.zu ho27) hb);have n1_ := qb.mk (Kd.zp (Kd.R_newB (Kd.zv ho27 (Kd.R_lt (kr_ f4))) (g := b3) (o := .cells #[.int .i64 a1_0, .int .i64 a1_1, .bool a1_2] 58 (0, 0)) (bk_ b1)) (ql (be3_ HB b6 b8 b9)));have n2_ := qb.mk (qo (g := b4) (o := .cells #[.int .i64 a0_0, .int .i64 a0_1, .slice (some ad163) l0_2.length c0_2] 31 (0, 0)) (bk_ b0) hb);have n3_ := qb.mk (qo (g := b3) (o := .cells #[.int .i64 a1_0, .int .i64 a1_1, .bool a1_2] 58 (0, 0)) (bk_ b1) hb);have n4_ := qb.mk (qo (g := b5) (o := .cells #[.int .i64 0, .int .i64 0, .slice none 0 0] 31 (0, 0)) (bk_ b2) hb);have n5_ := qb.mk (qp (be3_ HB b6 b8 b9) hb);clear f4;clear b0;clear b1;clear b2;clear HB;have f4 := n0_;have d0 := n1_;have b0 := n2_;have b1 := n3_;have b2 := n4_;have HB := n5_;clear n0_ n1_ n2_ n3_ n4_ n5_;clear hb ho27
             refine hK.out _ _ ⟨(qc b0.out 0).trans rfl, (qc b0.out 1).trans rfl, (qc b0.out 2).trans rfl, (qc b1.out 0).trans rfl, (qc b1.out 1).trans rfl, (qc b1.out 2).trans rfl⟩ (fun hHeld => ?_)
             clear hK K
             refine norm_ (a' := ?_) ?_ ?_
             rotate_left
             ·show Act.put _ (some 30) _ = _
              simp only [Act.put, sA_, sB_, sC_, i64_w, i32_w]
              rfl
             exact norm_ (by simp only [zx, Act.put, sA_, sB_, sC_]) (hCont (v166, v173, v176) _ ⟨hHeld, (by (with_reducible repeat (first | apply Kd.qm | apply Kd.qn | apply Kd.qq)); exact Kd.zh f4.out (fun _ hk => ⟨hk.2, hk.1⟩)), (by (with_reducible repeat (first | apply Kd.qm | apply Kd.qn | apply Kd.qq)); exact Kd.zh d0.out (fun _ hk => ⟨hk.1.2, hk.2⟩)), (bk_ b0), (bk_ b1), (bk_ b2), (be3_ HB b6 b8 b9)⟩)
            ·skip
             refine Kd.zz k58 _ 58 ?hg (N := 30) ?hd (xs := ([(⟨a1_0, a1_1, a1_2⟩ : S58)] : List (S58))) (inner := [.int .i64 a1_0, .int .i64 a1_1, .bool a1_2]) (ok := fun _ => True) (okp := fun _ => True) ?hr ?hp (fun _ hk => hk) trivial (Below.refl _ _) (Nat.le_refl _) (by simp) ?_; (case hd => rfl); (case hg => rfl); (case hr => first | (go_simp; done) | (go_simp; rfl)); (case hp => exact (Reps.c3 (show Kd.M k58 _ _ _ (⟨a1_0, a1_1, a1_2⟩ : S58) [.int .i64 a1_0, .int .i64 a1_1, .bool a1_2] from (k58_mkM _ _ _ (⟨a1_0, a1_1, a1_2⟩ : S58) )) (Reps.none _ _)))
             intro v176 w25 ho26 hb hg_ hnew_
             clear hg_ hnew_
             (first | rw [← g5.out] at ho26 | (simp only [Int.reduceToNat] at ho26; rw [← g5.out] at ho26))
             have n0_ := qb.mk (Kd.zm (kr_ d3) (Kd.zu ho26) hb);have n1_ := qb.mk (Kd.zp (Kd.R_newB (Kd.zv ho26 (Kd.R_lt (kr_ d3))) (g := b3) (o := .cells #[.int .i64 a1_0, .int .i64 a1_1, .bool a1_2] 58 (0, 0)) (bk_ b1)) (ql (be3_ HB b6 b8 b9)));have n2_ := qb.mk (qo (g := b4) (o := .cells #[.int .i64 a0_0, .int .i64 a0_1, .slice (some ad163) l0_2.length c0_2] 31 (0, 0)) (bk_ b0) hb);have n3_ := qb.mk (qo (g := b3) (o := .cells #[.int .i64 a1_0, .int .i64 a1_1, .bool a1_2] 58 (0, 0)) (bk_ b1) hb);have n4_ := qb.mk (qo (g := b5) (o := .cells #[.int .i64 0, .int .i64 0, .slice none 0 0] 31 (0, 0)) (bk_ b2) hb);have n5_ := qb.mk (qp (be3_ HB b6 b8 b9) hb);clear d3;clear b0;clear b1;clear b2;clear HB;have d3 := n0_;have d0 := n1_;have b0 := n2_;have b1 := n3_;have b2 := n4_;have HB := n5_;clear n0_ n1_ n2_ n3_ n4_ n5_;clear hb ho26
             refine hK.out _ _ ⟨(qc b0.out 0).trans rfl, (qc b0.out 1).trans rfl, (qc b0.out 2).trans rfl, (qc b1.out 0).trans rfl, (qc b1.out 1).trans rfl, (qc b1.out 2).trans rfl⟩ (fun hHeld => ?_)
             clear hK K
             refine norm_ (a' := ?_) ?_ ?_
             rotate_left
             ·show Act.put _ (some 30) _ = _
              simp only [Act.put, sA_, sB_, sC_, i64_w, i32_w]
              rfl
             refine one_ (i := 5) (N := some 28) #[true, true, true, true, true, true, true, true, false, false] rfl rfl (zw HT_.out (by kernel_rfl)) (by decide) (fun K hK => ?_)
             refine Kd.R_append_rows_step k58 (w0 := w) w.heap.size (by rfl) (.tmp 23) (.tmp 27) 29 58 (.agg #[(.int .i64 0), (.int .i64 0), (.bool false)]) 24 rfl Try.underlying29 jg rfl (by decide) (by omega) v166 g0 f8 _ _ _ (fun k_ => some k_ ≠ (v176 : Value).ownBlock ∧ k_ ≠ b3) (fun _ => False) rfl rfl ?aO ?aR (fun _ _ h => h) (fun _ h => h.elim) ?aF ?aB ?aS ?aL ?_
             (case aR => repeat (first | exact (Kd.qz HR171.out HB.out) | (with_reducible refine Kd.za ?_ _) | (with_reducible refine Kd.zb ?_ _) | (with_reducible refine Kd.zf ?_)))
             (case aB => exact (be3_ HB b6 b8 b9))
             (case aF => exact (fun k_ hk => ⟨Kd.fresh' (Kd.R_lt (kr_ d0)) k_ hk, Kd.freshB (g := b3) (o := .cells #[.int .i64 a1_0, .int .i64 a1_1, .bool a1_2] 58 (0, 0)) (bk_ b1) k_ hk⟩))
             (case aO => exact (by (with_reducible repeat (first | apply Kd.qm | apply Kd.qn | apply Kd.qq)); exact Kd.zh d3.out (fun _ hk => ⟨hk.2, hk.1.2⟩)))
             (case aS => exact (ql (be3_ HB b6 b8 b9)))
             (case aL => have := LMc14.out; omega)
             intro v173 w27 ho hb hg hat
             rw [← m0.out] at ho;have n0_ := qb.mk (zq (g := b4) (o := .cells #[.int .i64 a0_0, .int .i64 a0_1, .slice (some ad163) l0_2.length c0_2] 31 (0, 0)) (bk_ b0) hg (Kd.R_ne d3.out b0.out (by decide)));have n1_ := qb.mk (zq (g := b3) (o := .cells #[.int .i64 a1_0, .int .i64 a1_1, .bool a1_2] 58 (0, 0)) (bk_ b1) hg (Kd.R_away d3.out (fun _ hk => hk.1.2)));have n2_ := qb.mk (zq (g := b5) (o := .cells #[.int .i64 0, .int .i64 0, .slice none 0 0] 31 (0, 0)) (bk_ b2) hg (Kd.R_ne d3.out b2.out (by decide)));have n3_ := qb.mk (Kd.R_after (ok := (fun k_ => k_ ≠ b3)) (by (with_reducible repeat (first | apply Kd.qm | apply Kd.qn | apply Kd.qq)); exact Kd.zh d0.out (fun _ hk => ⟨hk.2, hk.1.2⟩)) hg hat);have n4_ := qb.mk (hb);have n5_ := qb.mk (ho);clear b0;clear b1;clear b2;clear d0;clear HB;clear d3;have b0 := n0_;have b1 := n1_;have b2 := n2_;have d0 := n3_;have HB := n4_;have f4 := n5_;clear n0_ n1_ n2_ n3_ n4_ n5_;clear ho hb hg hat
             refine hK.out _ _ ⟨(qc b0.out 0).trans rfl, (qc b0.out 1).trans rfl, (qc b0.out 2).trans rfl, (qc b1.out 0).trans rfl, (qc b1.out 1).trans rfl, (qc b1.out 2).trans rfl⟩ (fun hHeld => ?_)
             clear hK K
             refine norm_ (a' := ?_) ?_ ?_
             rotate_left
             ·show Act.put _ (some 28) _ = _
              simp only [Act.put, sA_, sB_, sC_, i64_w, i32_w]
              rfl
             exact norm_ (by simp only [zx, Act.put, sA_, sB_, sC_]) (hCont (v166, v173, v176) _ ⟨hHeld, (kr_ f4), (by (with_reducible repeat (first | apply Kd.qm | apply Kd.qn | apply Kd.qq)); exact Kd.zh d0.out (fun _ hk => ⟨hk.2, hk.1⟩)), (bk_ b0), (bk_ b1), (bk_ b2), (be3_ HB b6 b8 b9)⟩)
           ·skip
            refine Kd.zz k58 _ 58 ?hg (N := 30) ?hd (xs := ([(⟨a1_0, a1_1, a1_2⟩ : S58)] : List (S58))) (inner := [.int .i64 a1_0, .int .i64 a1_1, .bool a1_2]) (ok := fun _ => True) (okp := fun _ => True) ?hr ?hp (fun _ hk => hk) trivial (Below.refl _ _) (Nat.le_refl _) (by simp) ?_; (case hd => rfl); (case hg => rfl); (case hr => first | (go_simp; done) | (go_simp; rfl)); (case hp => exact (Reps.c3 (show Kd.M k58 _ _ _ (⟨a1_0, a1_1, a1_2⟩ : S58) [.int .i64 a1_0, .int .i64 a1_1, .bool a1_2] from (k58_mkM _ _ _ (⟨a1_0, a1_1, a1_2⟩ : S58) )) (Reps.none _ _)))
            intro v176 w23 ho24 hb hg_ hnew_
            clear hg_ hnew_
            (first | rw [← g5.out] at ho24 | (simp only [Int.reduceToNat] at ho24; rw [← g5.out] at ho24))
            have n0_ := qb.mk (Kd.zp (Kd.R_newB ho24 (g := b3) (o := .cells #[.int .i64 a1_0, .int .i64 a1_1, .bool a1_2] 58 (0, 0)) (bk_ b1)) (ql (be3_ HB b6 b8 b9)));have n1_ := qb.mk (qo (g := b4) (o := .cells #[.int .i64 a0_0, .int .i64 a0_1, .slice (some ad163) l0_2.length c0_2] 31 (0, 0)) (bk_ b0) hb);have n2_ := qb.mk (qo (g := b3) (o := .cells #[.int .i64 a1_0, .int .i64 a1_1, .bool a1_2] 58 (0, 0)) (bk_ b1) hb);have n3_ := qb.mk (qo (g := b5) (o := .cells #[.int .i64 0, .int .i64 0, .slice none 0 0] 31 (0, 0)) (bk_ b2) hb);have n4_ := qb.mk (qp (be3_ HB b6 b8 b9) hb);clear b0;clear b1;clear b2;clear HB;have d0 := n0_;have b0 := n1_;have b1 := n2_;have b2 := n3_;have HB := n4_;clear n0_ n1_ n2_ n3_ n4_;clear hb ho24
            refine hK.out _ _ ⟨(qc b0.out 0).trans rfl, (qc b0.out 1).trans rfl, (qc b0.out 2).trans rfl, (qc b1.out 0).trans rfl, (qc b1.out 1).trans rfl, (qc b1.out 2).trans rfl⟩ (fun hHeld => ?_)
            clear hK K
            refine norm_ (a' := ?_) ?_ ?_
            rotate_left
            ·show Act.put _ (some 30) _ = _
             simp only [Act.put, sA_, sB_, sC_, i64_w, i32_w]
             rfl
            refine one_ (i := 0) (N := some 23) #[true, true, true, true, true, false, true, true, false, false] rfl rfl (zw HT_.out (by kernel_rfl)) (by decide) (fun K hK => ?_)
            refine Kd.zz k58 _ 58 ?hg (N := 23) ?hd (xs := ([] : List (S58))) (inner := []) (ok := fun _ => True) (okp := fun _ => True) ?hr ?hp (fun _ hk => hk) trivial (Below.refl _ _) (Nat.le_refl _) (by simp) ?_; (case hd => rfl); (case hg => rfl); (case hr => first | (go_simp; done) | (go_simp; rfl)); (case hp => exact (Reps.none _ _))
            intro v166 w25 ho26 hb hg_ hnew_
            clear hg_ hnew_
            (first | rw [← g8.out] at ho26 | (simp only [Int.reduceToNat] at ho26; rw [← g8.out] at ho26))
            have n0_ := qb.mk (Kd.zm (kr_ d0) (Kd.zu ho26) hb);have n1_ := qb.mk (Kd.zp (Kd.R_newB (Kd.zv ho26 (Kd.R_lt (kr_ d0))) (g := b3) (o := .cells #[.int .i64 a1_0, .int .i64 a1_1, .bool a1_2] 58 (0, 0)) (bk_ b1)) (ql (be3_ HB b6 b8 b9)));have n2_ := qb.mk (qo (g := b4) (o := .cells #[.int .i64 a0_0, .int .i64 a0_1, .slice (some ad163) l0_2.length c0_2] 31 (0, 0)) (bk_ b0) hb);have n3_ := qb.mk (qo (g := b3) (o := .cells #[.int .i64 a1_0, .int .i64 a1_1, .bool a1_2] 58 (0, 0)) (bk_ b1) hb);have n4_ := qb.mk (qo (g := b5) (o := .cells #[.int .i64 0, .int .i64 0, .slice none 0 0] 31 (0, 0)) (bk_ b2) hb);have n5_ := qb.mk (qp (be3_ HB b6 b8 b9) hb);clear d0;clear b0;clear b1;clear b2;clear HB;have d0 := n0_;have d3 := n1_;have b0 := n2_;have b1 := n3_;have b2 := n4_;have HB := n5_;clear n0_ n1_ n2_ n3_ n4_ n5_;clear hb ho26
            refine hK.out _ _ ⟨(qc b0.out 0).trans rfl, (qc b0.out 1).trans rfl, (qc b0.out 2).trans rfl, (qc b1.out 0).trans rfl, (qc b1.out 1).trans rfl, (qc b1.out 2).trans rfl⟩ (fun hHeld => ?_)
            clear hK K
            refine norm_ (a' := ?_) ?_ ?_
            rotate_left
            ·show Act.put _ (some 23) _ = _
             simp only [Act.put, sA_, sB_, sC_, i64_w, i32_w]
             rfl
            refine one_ (i := 5) (N := some 28) #[true, true, true, true, true, true, true, true, false, false] rfl rfl (zw HT_.out (by kernel_rfl)) (by decide) (fun K hK => ?_)
            refine Kd.R_append_rows_step k58 (w0 := w) w.heap.size (by rfl) (.tmp 23) (.tmp 27) 29 58 (.agg #[(.int .i64 0), (.int .i64 0), (.bool false)]) 24 rfl Try.underlying29 jg rfl (by decide) (by omega) v166 g0 f8 _ _ _ (fun k_ => some k_ ≠ (v176 : Value).ownBlock ∧ k_ ≠ b3) (fun _ => False) rfl rfl ?aO ?aR (fun _ _ h => h) (fun _ h => h.elim) ?aF ?aB ?aS ?aL ?_
            (case aR => repeat (first | exact (Kd.qz HR171.out HB.out) | (with_reducible refine Kd.za ?_ _) | (with_reducible refine Kd.zb ?_ _) | (with_reducible refine Kd.zf ?_)))
            (case aB => exact (be3_ HB b6 b8 b9))
            (case aF => exact (fun k_ hk => ⟨Kd.fresh' (Kd.R_lt (kr_ d0)) k_ hk, Kd.freshB (g := b3) (o := .cells #[.int .i64 a1_0, .int .i64 a1_1, .bool a1_2] 58 (0, 0)) (bk_ b1) k_ hk⟩))
            (case aO => exact (by (with_reducible repeat (first | apply Kd.qm | apply Kd.qn | apply Kd.qq)); exact Kd.zh d3.out (fun _ hk => ⟨hk.1.2, hk.2⟩)))
            (case aS => exact (ql (be3_ HB b6 b8 b9)))
            (case aL => have := LMc14.out; omega)
            intro v173 w27 ho hb hg hat
            rw [← m0.out] at ho;have n0_ := qb.mk (zq (g := b4) (o := .cells #[.int .i64 a0_0, .int .i64 a0_1, .slice (some ad163) l0_2.length c0_2] 31 (0, 0)) (bk_ b0) hg (Kd.R_ne d3.out b0.out (by decide)));have n1_ := qb.mk (zq (g := b3) (o := .cells #[.int .i64 a1_0, .int .i64 a1_1, .bool a1_2] 58 (0, 0)) (bk_ b1) hg (Kd.R_away d3.out (fun _ hk => hk.2)));have n2_ := qb.mk (zq (g := b5) (o := .cells #[.int .i64 0, .int .i64 0, .slice none 0 0] 31 (0, 0)) (bk_ b2) hg (Kd.R_ne d3.out b2.out (by decide)));have n3_ := qb.mk (Kd.R_after (ok := (fun k_ => k_ ≠ b3)) (by (with_reducible repeat (first | apply Kd.qm | apply Kd.qn | apply Kd.qq)); exact Kd.zh d0.out (fun _ hk => ⟨hk.1.2, hk.2⟩)) hg hat);have n4_ := qb.mk (hb);have n5_ := qb.mk (ho);clear b0;clear b1;clear b2;clear d0;clear HB;clear d3;have b0 := n0_;have b1 := n1_;have b2 := n2_;have d0 := n3_;have HB := n4_;have f4 := n5_;clear n0_ n1_ n2_ n3_ n4_ n5_;clear ho hb hg hat
            refine hK.out _ _ ⟨(qc b0.out 0).trans rfl, (qc b0.out 1).trans rfl, (qc b0.out 2).trans rfl, (qc b1.out 0).trans rfl, (qc b1.out 1).trans rfl, (qc b1.out 2).trans rfl⟩ (fun hHeld => ?_)
            clear hK K
            refine norm_ (a' := ?_) ?_ ?_
            rotate_left
            ·show Act.put _ (some 28) _ = _
             simp only [Act.put, sA_, sB_, sC_, i64_w, i32_w]
             rfl
            exact norm_ (by simp only [zx, Act.put, sA_, sB_, sC_]) (hCont (v166, v173, v176) _ ⟨hHeld, (kr_ f4), (by (with_reducible repeat (first | apply Kd.qm | apply Kd.qn | apply Kd.qq)); exact Kd.zh d0.out (fun _ hk => ⟨hk.2, hk.1⟩)), (bk_ b0), (bk_ b1), (bk_ b2), (be3_ HB b6 b8 b9)⟩)
          rintro ⟨v166, v173, v176⟩ w28 ⟨hS_, h0_, h1_, h2_, h3_, h4_, h5_⟩
          have n0_ : qb (Kd.R k58 58 w28 w.heap.size (fun k_ => some k_ ≠ (v176 : Value).ownBlock ∧ k_ ≠ b3) v173 f6) := ⟨h0_⟩;have n1_ : qb (Kd.R k58 58 w28 w.heap.size (fun k_ => some k_ ≠ (v173 : Value).ownBlock ∧ k_ ≠ b3) v176 d7) := ⟨h1_⟩;have n2_ : qb (w28.heap[b4]? = some (.cells #[.int .i64 a0_0, .int .i64 a0_1, .slice (some ad163) l0_2.length c0_2] 31 (0, 0))) := ⟨h2_⟩;have n3_ : qb (w28.heap[b3]? = some (.cells #[.int .i64 a1_0, .int .i64 a1_1, .bool a1_2] 58 (0, 0))) := ⟨h3_⟩;have n4_ : qb (w28.heap[b5]? = some (.cells #[.int .i64 0, .int .i64 0, .slice none 0 0] 31 (0, 0))) := ⟨h4_⟩;have n5_ : qb (Below w.heap.size w w28) := ⟨h5_⟩;clear b0;clear b1;clear b2;clear HB;clear h0_ h1_ h2_ h3_ h4_ h5_;have f4 := n0_;have d0 := n1_;have b0 := n2_;have b1 := n3_;have b2 := n4_;have HB := n5_;clear n0_ n1_ n2_ n3_ n4_ n5_;have hHeld : w28.cell? ⟨b4, 0, none⟩ = some (.int .i64 a0_0) ∧ w28.cell? ⟨b4, 1, none⟩ = some (.int .i64 a0_1) ∧ w28.cell? ⟨b4, 2, none⟩ = some (.slice (some ad163) l0_2.length c0_2) ∧ w28.cell? ⟨b3, 0, none⟩ = some (.int .i64 a1_0) ∧ w28.cell? ⟨b3, 1, none⟩ = some (.int .i64 a1_1) ∧ w28.cell? ⟨b3, 2, none⟩ = some (.bool a1_2) := hS_;obtain ⟨Ao30, co30, eo30⟩ := Kd.zn d0.out
          (first | subst eo30 | (injection eo30 with f1_ f2_ f3_; have f4_ := f1_.symm; have f5_ := f3_.symm; clear f1_ f2_ f3_; subst f4_; subst f5_))
          refine norm_ (a' := ?_) ?_ ?_
          rotate_left
          ·simp only [zx, Act.put, sA_, sB_, sC_]
           rfl
          refine one_ (i := 8) (N := some 31) #[true, true, true, true, true, true, true, true, true, false] rfl rfl (zw HT_.out (by kernel_rfl)) (by decide) (fun K hK => ?_)
          refine Kd.R_append_rows_step k58 (w0 := w) w.heap.size (by rfl) (.tmp 28) (.tmp 30) 29 58 (.agg #[(.int .i64 0), (.int .i64 0), (.bool false)]) 24 rfl Try.underlying29 jg rfl (by decide) (by omega) v173 f6 d7 _ _ _ (fun k_ => some k_ ≠ (.slice Ao30 d7.length co30 : Value).ownBlock ∧ k_ ≠ b3) (fun _ => False) rfl rfl ?aO ?aR (fun _ _ h => h) (fun _ h => h.elim) ?aF ?aB ?aS ?aL ?_
          (case aR => repeat (first | exact (Kd.qw d0.out).2.2 | (with_reducible refine Kd.za ?_ _) | (with_reducible refine Kd.zb ?_ _) | (with_reducible refine Kd.zf ?_)))
          (case aB => exact (be3_ HB b6 b8 b9))
          (case aF => exact (fun k_ hk => ⟨Kd.fresh' (Kd.R_lt (kr_ d0)) k_ hk, Kd.freshB (g := b3) (o := .cells #[.int .i64 a1_0, .int .i64 a1_1, .bool a1_2] 58 (0, 0)) (bk_ b1) k_ hk⟩))
          (case aO => exact (kr_ f4))
          (case aS => exact (ql (be3_ HB b6 b8 b9)))
          (case aL => have := LMc15.out; omega)
          intro v179 w29 ho hb hg hat
          rw [← n3.out] at ho;have n0_ := qb.mk (zq (g := b4) (o := .cells #[.int .i64 a0_0, .int .i64 a0_1, .slice (some ad163) l0_2.length c0_2] 31 (0, 0)) (bk_ b0) hg (Kd.R_ne f4.out b0.out (by decide)));have n1_ := qb.mk (zq (g := b3) (o := .cells #[.int .i64 a1_0, .int .i64 a1_1, .bool a1_2] 58 (0, 0)) (bk_ b1) hg (Kd.R_away f4.out (fun _ hk => hk.2)));have n2_ := qb.mk (zq (g := b5) (o := .cells #[.int .i64 0, .int .i64 0, .slice none 0 0] 31 (0, 0)) (bk_ b2) hg (Kd.R_ne f4.out b2.out (by decide)));have n3_ := qb.mk (Kd.R_after (ok := (fun k_ => k_ ≠ b3)) (by (with_reducible repeat (first | apply Kd.qm | apply Kd.qn | apply Kd.qq)); exact Kd.zh d0.out (fun _ hk => ⟨hk.2, hk.1⟩)) hg hat);have n4_ := qb.mk (hb);have n5_ := qb.mk (ho);clear b0;clear b1;clear b2;clear d0;clear HB;clear f4;have b0 := n0_;have b1 := n1_;have b2 := n2_;have d0 := n3_;have HB := n4_;have g2 := n5_;clear n0_ n1_ n2_ n3_ n4_ n5_;clear ho hb hg hat
          refine hK.out _ _ ⟨(qc b0.out 0).trans rfl, (qc b0.out 1).trans rfl, (qc b0.out 2).trans rfl, (qc b1.out 0).trans rfl, (qc b1.out 1).trans rfl, (qc b1.out 2).trans rfl⟩ (fun hHeld => ?_)
          clear hK K
          refine norm_ (a' := ?_) ?_ ?_
          rotate_left
          ·show Act.put _ (some 31) _ = _
           simp only [Act.put, sA_, sB_, sC_, i64_w, i32_w]
           rfl
          refine pure_ (i := 9) (N := some 6) (v := ?_) (a' := ?_) #[true, true, true, true, true, true, true, true, true, true] rfl rfl (qu HT_.out (by kernel_rfl)) (fun _ _ _ h => h) (Or.inl ⟨by rfl, ?_⟩) ?_ ?_
          rotate_left
          ·intro w'
           go_simp
           with_reducible rfl
          rotate_left
          ·simp only [Act.put, sA_, sB_, sC_, i64_w, i32_w]
           rfl
          refine done_ (je HT_.out (by kernel_rfl)) ?_
          try go_wp2
          have n0_ := qb.mk (Kd.qq d0.out);have n1_ := qb.mk (Kd.qq g2.out);have n2_ := qb.mk (qi b0.out);have n3_ := qb.mk (qi b1.out);have n4_ := qb.mk (qi b2.out);have n5_ := qb.mk (qe HB.out);clear d0;clear g2;clear b0;clear b1;clear b2;clear HB;have d0 := n0_;have g2 := n1_;have b0 := n2_;have b1 := n3_;have b2 := n4_;have HB := n5_;clear n0_ n1_ n2_ n3_ n4_ n5_;have q32 : (x5_1 : Int) ≤ ((l0_2.length : Int) : Int) := of_decide_eq_true (by first | (with_reducible assumption) | assumption);obtain ⟨i032, hi032, _, hsz32, _⟩ := info_parts jg;have hroom32 : l0_2.length ≤ c0_2 := HC0_2.out;have hC32 : Kd.C k58 _ (some ad163) l0_2.length l0_2 := HR0_2.out;have q032 : (0 : Int) ≤ (x5_1 : Int) := of_decide_eq_true (by first | (with_reducible assumption) | assumption);have hcut32 := cut_from (P := Try.prog) 29 58 .i64 Try.underlying29 hi032 3 hsz32 (some ad163) l0_2.length c0_2 x5_1 q032 q32;have hr32 := Kd.C_drop (m := (x5_1 : Int).toNat) (c := c0_2) hC32 (by omega) hroom32;obtain ⟨A32, hA32⟩ : ∃ A1, A1 = (if c0_2 = (x5_1 : Int).toNat then (some ad163) else ((some ad163) : Option Addr).map (·.add ((x5_1 : Int).toNat * 3))) := ⟨_, rfl⟩;obtain ⟨c32, hc32⟩ : ∃ c1, c1 = c0_2 - (x5_1 : Int).toNat := ⟨_, rfl⟩;have hy32 : d2.length = l0_2.length - (x5_1 : Int).toNat := (by rw [m3.out, List.length_drop] <;> omega);rw [show (l0_2).drop (x5_1 : Int).toNat = d2 from m3.out.symm] at hr32;replace hr32 : Kd.C k58 _ A32 d2.length d2 := (by rw [hA32]; exact hr32);rw [← hy32, ← hA32, ← hc32] at hcut32;have HR184 := qb.mk hr32;have HC184 := qb.mk (show d2.length ≤ c32 from by rw [hy32, hc32]; exact Nat.sub_le_sub_right hroom32 _);clear hr32 hC32 hroom32 hi032 hsz32 hc32;have KY32 := qb.mk hy32;have KA32 := qb.mk hA32;clear hy32 hA32;replace q32 := eq_true q32
          refine jf (n := 12) (S := fun w' => w'.cell? ⟨b4, 0, none⟩ = some (.int .i64 a0_0) ∧ w'.cell? ⟨b4, 1, none⟩ = some (.int .i64 a0_1) ∧ w'.cell? ⟨b4, 2, none⟩ = some (.slice (some ad163) l0_2.length c0_2)) (ds := []) #[false, false, false, false, false, false, false, false, false, false, false, false] (by kernel_rfl) rfl rfl ⟨(qc b0.out 0).trans rfl, (qc b0.out 1).trans rfl, (qc b0.out 2).trans rfl⟩ (fun hHeld => ?_); refine zy spec_avClose.tab5 spec_avClose.bits5 (fun HT_ HW_ => ?_)
          generalize w29.drew = w31 at d0 g2 b0 b1 b2 HB HR184 hHeld ⊢
          refine pure_ (i := 0) (N := some 32) (v := ?_) (a' := ?_) #[true, false, false, false, false, false, false, false, false, false, false, false] rfl rfl (qu HT_.out (by kernel_rfl)) (fun _ _ _ h => h) (Or.inl ⟨by rfl, ?_⟩) ?_ ?_
          rotate_left
          ·intro w'
           go_simp
           with_reducible rfl
          rotate_left
          ·simp only [Act.put, sA_, sB_, sC_, i64_w, i32_w]
           rfl
          refine pure_ (i := 2) (N := some 34) (v := ?_) (a' := ?_) #[true, false, true, false, false, false, false, false, false, false, false, false] rfl rfl (qu HT_.out (by kernel_rfl)) (fun _ _ _ h => h) (Or.inl ⟨by rfl, ?_⟩) ?_ ?_
          rotate_left
          ·intro w'
           go_simp
           with_reducible rfl
          rotate_left
          ·simp only [Act.put, sA_, sB_, sC_, i64_w, i32_w]
           rfl
          refine pure_ (i := 4) (N := some 36) (v := ?_) (a' := ?_) #[true, false, true, false, true, false, false, false, false, false, false, false] rfl rfl (qu HT_.out (by kernel_rfl)) (fun _ _ _ h => h) (Or.inl ⟨by rfl, ?_⟩) ?_ ?_
          rotate_left
          ·intro w'
           go_simp
           with_reducible rfl
          rotate_left
          ·simp only [Act.put, sA_, sB_, sC_, i64_w, i32_w]
           rfl
          refine pure_ (i := 5) (N := some 37) (v := ?_) (a' := ?_) #[true, false, true, false, true, true, false, false, false, false, false, false] rfl rfl (qu HT_.out (by kernel_rfl)) (fun _ _ _ h => h) (Or.inl ⟨by rfl, ?_⟩) ?_ ?_
          rotate_left
          ·intro w'
           go_simp
           with_reducible rfl
          rotate_left
          ·simp only [Act.put, sA_, sB_, sC_, i64_w, i32_w]
           rfl
          refine pure_ (i := 7) (N := some 39) (v := ?_) (a' := ?_) #[true, false, true, false, true, true, false, true, false, false, false, false] rfl rfl (qu HT_.out (by kernel_rfl)) (fun _ _ _ h => h) (Or.inl ⟨by rfl, ?_⟩) ?_ ?_
          rotate_left
          ·intro w'
           go_simp
           with_reducible rfl
          rotate_left
          ·simp only [Act.put, sA_, sB_, sC_, i64_w, i32_w]
           rfl
          refine take_ (i := 1) (N := some 33) (v := ?_) (a' := ?_) #[true, true, true, false, true, true, false, true, false, false, false, false] rfl rfl (zg HT_.out HW_.out (by kernel_rfl)) (fun _ _ _ h => h) (Or.inl ⟨by rfl, ?_⟩) hHeld ?_ ?_
          rotate_left
          ·rintro w' ⟨s0, s1, s2⟩
           go_simp
           with_reducible rfl
          rotate_left
          ·simp only [Act.put, sA_, sB_, sC_, i64_w, i32_w]
           rfl
          refine take_ (i := 3) (N := some 35) (v := ?_) (a' := ?_) #[true, true, true, true, true, true, false, true, false, false, false, false] rfl rfl (zg HT_.out HW_.out (by kernel_rfl)) (fun _ _ _ h => h) (Or.inl ⟨by rfl, ?_⟩) hHeld ?_ ?_
          rotate_left
          ·rintro w' ⟨s0, s1, s2⟩
           go_simp
           with_reducible rfl
          rotate_left
          ·simp only [Act.put, sA_, sB_, sC_, i64_w, i32_w]
           rfl
          refine take_ (i := 6) (N := some 38) (v := ?_) (a' := ?_) #[true, true, true, true, true, true, true, true, false, false, false, false] rfl rfl (zg HT_.out HW_.out (by kernel_rfl)) (fun _ _ _ h => h) (Or.inl ⟨by rfl, ?_⟩) hHeld ?_ ?_
          rotate_left
          ·rintro w' ⟨s0, s1, s2⟩
           go_simp
           with_reducible rfl
          rotate_left
          ·simp only [Act.put, sA_, sB_, sC_, i64_w, i32_w]
           rfl
          refine pure_ (i := 8) (N := some 40) (v := ?_) (a' := ?_) #[true, true, true, true, true, true, true, true, true, false, false, false] rfl rfl (qu HT_.out (by kernel_rfl)) (fun _ _ _ h => h) (Or.inl ⟨by rfl, ?_⟩) ?_ ?_
          rotate_left
          ·intro w'
           go_simp
           with_reducible rfl
          rotate_left
          ·simp only [Act.put, sA_, sB_, sC_, i64_w, i32_w]
           rfl
          refine one_ (i := 9) (N := some 41) #[true, true, true, true, true, true, true, true, true, true, false, false] rfl rfl (zw HT_.out (by kernel_rfl)) (by decide) (fun K hK => ?_)
          refine Kd.R_append_rows_step k58 (w0 := w) w.heap.size (by rfl) (.tmp 36) (.tmp 40) 29 58 (.agg #[(.int .i64 0), (.int .i64 0), (.bool false)]) 24 rfl Try.underlying29 jg rfl (by decide) (by omega) v179 d5 d2 _ _ _ (fun k_ => some k_ ≠ (.slice Ao30 d7.length co30 : Value).ownBlock ∧ k_ ≠ b3) (fun _ => False) rfl rfl ?aO ?aR (fun _ _ h => h) (fun _ h => h.elim) ?aF ?aB ?aS ?aL ?_
          (case aR => repeat (first | exact (Kd.qz HR184.out HB.out) | (with_reducible refine Kd.za ?_ _) | (with_reducible refine Kd.zb ?_ _) | (with_reducible refine Kd.zf ?_)))
          (case aB => exact (be3_ HB b6 b8 b9))
          (case aF => exact (fun k_ hk => ⟨Kd.fresh' (Kd.R_lt (kr_ d0)) k_ hk, Kd.freshB (g := b3) (o := .cells #[.int .i64 a1_0, .int .i64 a1_1, .bool a1_2] 58 (0, 0)) (bk_ b1) k_ hk⟩))
          (case aO => exact (kr_ g2))
          (case aS => exact (ql (be3_ HB b6 b8 b9)))
          (case aL => have := LMc18.out; omega)
          intro v186 w33 ho hb hg hat
          rw [← n4.out] at ho;have n0_ := qb.mk (zq (g := b4) (o := .cells #[.int .i64 a0_0, .int .i64 a0_1, .slice (some ad163) l0_2.length c0_2] 31 (0, 0)) (bk_ b0) hg (Kd.R_ne g2.out b0.out (by decide)));have n1_ := qb.mk (zq (g := b3) (o := .cells #[.int .i64 a1_0, .int .i64 a1_1, .bool a1_2] 58 (0, 0)) (bk_ b1) hg (Kd.R_away g2.out (fun _ hk => hk.2)));have n2_ := qb.mk (zq (g := b5) (o := .cells #[.int .i64 0, .int .i64 0, .slice none 0 0] 31 (0, 0)) (bk_ b2) hg (Kd.R_ne g2.out b2.out (by decide)));have n3_ := qb.mk (Kd.R_after (ok := (fun k_ => k_ ≠ b3)) (kr_ d0) hg hat);have n4_ := qb.mk (hb);have n5_ := qb.mk (ho);clear b0;clear b1;clear b2;clear d0;clear HB;clear g2;have b0 := n0_;have b1 := n1_;have b2 := n2_;have d0 := n3_;have HB := n4_;have m4 := n5_;clear n0_ n1_ n2_ n3_ n4_ n5_;clear ho hb hg hat;obtain ⟨Ao34, co34, eo34⟩ := Kd.zn m4.out
          (first | subst eo34 | (injection eo34 with f1_ f2_ f3_; have f4_ := f1_.symm; have f5_ := f3_.symm; clear f1_ f2_ f3_; subst f4_; subst f5_))
          refine hK.out _ _ ⟨(qc b0.out 0).trans rfl, (qc b0.out 1).trans rfl, (qc b0.out 2).trans rfl⟩ (fun hHeld => ?_)
          clear hK K
          refine norm_ (a' := ?_) ?_ ?_
          rotate_left
          ·show Act.put _ (some 41) _ = _
           simp only [Act.put, sA_, sB_, sC_, i64_w, i32_w]
           rfl
          refine pure_ (i := 10) (N := some 42) (v := ?_) (a' := ?_) #[true, true, true, true, true, true, true, true, true, true, true, false] rfl rfl (qu HT_.out (by kernel_rfl)) (fun _ _ _ h => h) (Or.inl ⟨by rfl, ?_⟩) ?_ ?_
          rotate_left
          ·intro w'
           go_simp
           with_reducible rfl
          rotate_left
          ·simp only [Act.put, sA_, sB_, sC_, i64_w, i32_w]
           rfl
          refine one_ (i := 11) (N := none) #[true, true, true, true, true, true, true, true, true, true, true, true] rfl rfl (zw HT_.out (by kernel_rfl)) (by decide) (fun K hK => ?_)
          have hs35 : w33.cell? ⟨b5, 0, none⟩ = some (.int .i64 0) := (qc b2.out 0).trans rfl;have hfs35 := qj b2.out 0;have hns35_0 := b7.out;have hns35_1 := d9.out;have hms35_0 := d8.out;have hms35_1 := f3.out;have hs36 : w33.cell? ⟨b5, 1, none⟩ = some (.int .i64 0) := (qc b2.out 1).trans rfl;have hfs36 := qj b2.out 1;have hns36_0 := b7.out;have hns36_1 := d9.out;have hms36_0 := d8.out;have hms36_1 := f3.out;have hs37 : w33.cell? ⟨b5, 2, none⟩ = some (.slice none 0 0) := (qc b2.out 2).trans rfl;have hfs37 := qj b2.out 2;have hns37_0 := b7.out;have hns37_1 := d9.out;have hms37_0 := d8.out;have hms37_1 := f3.out
          refine skip_ (w1 := ?_) (by rfl) rfl ?_ ?_
          rotate_left
          ·go_simp
           rfl
          refine hK.out _ _ ⟨((cell_far (p := ⟨b5, _, none⟩) b7.out _).trans (((cell_far (p := ⟨b5, _, none⟩) b7.out _).trans (((cell_far (p := ⟨b5, _, none⟩) b7.out _).trans (hHeld.1)))))), ((cell_far (p := ⟨b5, _, none⟩) b7.out _).trans (((cell_far (p := ⟨b5, _, none⟩) b7.out _).trans (((cell_far (p := ⟨b5, _, none⟩) b7.out _).trans (hHeld.2.1)))))), ((cell_far (p := ⟨b5, _, none⟩) b7.out _).trans (((cell_far (p := ⟨b5, _, none⟩) b7.out _).trans (((cell_far (p := ⟨b5, _, none⟩) b7.out _).trans (hHeld.2.2))))))⟩ (fun hHeld => ?_)
          clear hK K
          refine done_ (je HT_.out (by kernel_rfl)) ?_
          try go_wp2
          refine bodyPost_ret (results_cell_row rfl _ _ b5 31 #[.int .i64 a0_0, .int .i64 a0_1, .slice Ao34 m8.length co34] (0, 0) _ rfl (by (with_reducible repeat (first | refine qh ?_ _ | refine qi ?_ | refine qg ?_ _)); refine zj (cs := #[.int .i64 a0_0, .int .i64 a0_1, .slice none 0 0]) ?_ 2 _ rfl; (with_reducible repeat (first | refine qh ?_ _ | refine qi ?_ | refine qg ?_ _)); refine zj (cs := #[.int .i64 a0_0, .int .i64 0, .slice none 0 0]) ?_ 1 _ rfl; (with_reducible repeat (first | refine qh ?_ _ | refine qi ?_ | refine qg ?_ _)); refine zj (cs := #[.int .i64 0, .int .i64 0, .slice none 0 0]) ?_ 0 _ rfl; (with_reducible repeat (first | refine qh ?_ _ | refine qi ?_ | refine qg ?_ _)); exact b2.out) Try.underlying31 rfl (by kernel_rfl)) rfl ?_
          exact ⟨_, by first | rfl | (simp [qt, qr] <;> rfl) | (simp [*, qt, qr] <;> rfl), by (with_reducible repeat (first | apply Kd.qm | apply Kd.qn | apply Kd.qq)); exact Kd.zh (Kd.R_far (p := ⟨b5, 2, none⟩) (Kd.R_far (p := ⟨b5, 1, none⟩) (Kd.R_far (p := ⟨b5, 0, none⟩) (Kd.R_types m4.out b2.out (by decide)) (fun _ hk => hk.2) (.int .i64 a0_0)) (fun _ hk => hk.2) (.int .i64 a0_1)) (fun _ hk => hk.2) (.slice Ao34 m8.length co34)) (fun _ hk => trivial), be3_ HB b6 b8 b9⟩
         ·rw [if_neg c18] at H
          exact absurd H (by simp)
        ·rw [if_neg c15] at H
         exact absurd H (by simp)
       ·rw [if_neg c14] at H
        exact absurd H (by simp)
      ·rw [if_neg c13] at H
       exact absurd H (by simp)
    ·rw [if_neg c7] at H
     exact absurd H (by simp)
   ·rw [if_neg c6] at H
    have c6b0 : decide (x5_1 < (l0_2.length : Int)) = false := decide_eq_false c6;clear c6;obtain ⟨g7, hy188⟩ : ∃ y_ : List (S58), y_ = (([] : List (S58))) := ⟨_, rfl⟩;replace H : (if 0 ≤ x5_1 then (if x5_1 ≤ (l0_2.length : Int) then ((some (l0_2.take (x5_1 : Int).toNat : List (S58))).bind fun g4 => (if g7.length + g4.length < 5864062014805 then ((some (g7 ++ g4 : List (S58))).bind fun g1 => ((some (([(⟨a1_0, a1_1, a1_2⟩ : S58)] : List (S58)) : List (S58))).bind fun f9 => (if g1.length + f9.length < 5864062014805 then ((some (g1 ++ f9 : List (S58))).bind fun f7 => ((some (l0_2.drop (x5_1 : Int).toNat : List (S58))).bind fun d6 => (if f7.length + d6.length < 5864062014805 then (some (a0_0, a0_1, (f7 ++ d6))) else (none)))) else (none)))) else (none))) else (none)) else (none)) = some (r1, r2, r3) := by first | (rw [hy188]; with_reducible exact H) | (have H2_ := (Option.bind_some _ _).symm.trans H; rw [hy188]; with_reducible exact H2_) | (have H2_ := (Option.bind_some _ _).symm.trans H; with_reducible exact H2_) | with_reducible exact H | (rw [hy188]; exact H) | exact H
    have g9 := qb.mk hy188;clear hy188
    by_cases c38 : 0 ≤ x5_1
    ·rw [if_pos c38] at H
     have c38b0 := eq_true c38;have c38b1 : decide (0 ≤ x5_1) = true := decide_eq_true c38;clear c38
     by_cases c39 : x5_1 ≤ (l0_2.length : Int)
     ·rw [if_pos c39] at H
      have c39b0 := eq_true c39;have c39b1 : decide (x5_1 ≤ (l0_2.length : Int)) = true := decide_eq_true c39;clear c39;obtain ⟨g4, hy191⟩ : ∃ y_ : List (S58), y_ = (l0_2.take (x5_1 : Int).toNat) := ⟨_, rfl⟩;replace H : (if g7.length + g4.length < 5864062014805 then ((some (g7 ++ g4 : List (S58))).bind fun g1 => ((some (([(⟨a1_0, a1_1, a1_2⟩ : S58)] : List (S58)) : List (S58))).bind fun f9 => (if g1.length + f9.length < 5864062014805 then ((some (g1 ++ f9 : List (S58))).bind fun f7 => ((some (l0_2.drop (x5_1 : Int).toNat : List (S58))).bind fun d6 => (if f7.length + d6.length < 5864062014805 then (some (a0_0, a0_1, (f7 ++ d6))) else (none)))) else (none)))) else (none)) = some (r1, r2, r3) := by first | (rw [hy191]; with_reducible exact H) | (have H2_ := (Option.bind_some _ _).symm.trans H; rw [hy191]; with_reducible exact H2_) | (have H2_ := (Option.bind_some _ _).symm.trans H; with_reducible exact H2_) | with_reducible exact H | (rw [hy191]; exact H) | exact H
      have m5 := qb.mk hy191;clear hy191
      by_cases c40 : g7.length + g4.length < 5864062014805
      ·rw [if_pos c40] at H
       have LMc40 := qb.mk c40;clear c40;obtain ⟨g1, hy195⟩ : ∃ y_ : List (S58), y_ = (g7 ++ g4) := ⟨_, rfl⟩;replace H : ((some (([(⟨a1_0, a1_1, a1_2⟩ : S58)] : List (S58)) : List (S58))).bind fun f9 => (if g1.length + f9.length < 5864062014805 then ((some (g1 ++ f9 : List (S58))).bind fun f7 => ((some (l0_2.drop (x5_1 : Int).toNat : List (S58))).bind fun d6 => (if f7.length + d6.length < 5864062014805 then (some (a0_0, a0_1, (f7 ++ d6))) else (none)))) else (none))) = some (r1, r2, r3) := by first | (rw [hy195]; with_reducible exact H) | (have H2_ := (Option.bind_some _ _).symm.trans H; rw [hy195]; with_reducible exact H2_) | (have H2_ := (Option.bind_some _ _).symm.trans H; with_reducible exact H2_) | with_reducible exact H | (rw [hy195]; exact H) | exact H
       have m1 := qb.mk hy195;clear hy195;obtain ⟨f9, hy198⟩ : ∃ y_ : List (S58), y_ = (([(⟨a1_0, a1_1, a1_2⟩ : S58)] : List (S58))) := ⟨_, rfl⟩;replace H : (if g1.length + f9.length < 5864062014805 then ((some (g1 ++ f9 : List (S58))).bind fun f7 => ((some (l0_2.drop (x5_1 : Int).toNat : List (S58))).bind fun d6 => (if f7.length + d6.length < 5864062014805 then (some (a0_0, a0_1, (f7 ++ d6))) else (none)))) else (none)) = some (r1, r2, r3) := by first | (rw [hy198]; with_reducible exact H) | (have H2_ := (Option.bind_some _ _).symm.trans H; rw [hy198]; with_reducible exact H2_) | (have H2_ := (Option.bind_some _ _).symm.trans H; with_reducible exact H2_) | with_reducible exact H | (rw [hy198]; exact H) | exact H
       have g6 := qb.mk hy198;clear hy198
       by_cases c41 : g1.length + f9.length < 5864062014805
       ·rw [if_pos c41] at H
        have LMc41 := qb.mk c41;clear c41;obtain ⟨f7, hy201⟩ : ∃ y_ : List (S58), y_ = (g1 ++ f9) := ⟨_, rfl⟩;replace H : ((some (l0_2.drop (x5_1 : Int).toNat : List (S58))).bind fun d6 => (if f7.length + d6.length < 5864062014805 then (some (a0_0, a0_1, (f7 ++ d6))) else (none))) = some (r1, r2, r3) := by first | (rw [hy201]; with_reducible exact H) | (have H2_ := (Option.bind_some _ _).symm.trans H; rw [hy201]; with_reducible exact H2_) | (have H2_ := (Option.bind_some _ _).symm.trans H; with_reducible exact H2_) | with_reducible exact H | (rw [hy201]; exact H) | exact H
        have n5 := qb.mk hy201;clear hy201;have c42b0 := eq_true (of_decide_eq_true (by first | (with_reducible assumption) | assumption) : 0 ≤ x5_1);have c43b0 := eq_true (of_decide_eq_true (by first | (with_reducible assumption) | assumption) : x5_1 ≤ (l0_2.length : Int));obtain ⟨d6, hy204⟩ : ∃ y_ : List (S58), y_ = (l0_2.drop (x5_1 : Int).toNat) := ⟨_, rfl⟩;replace H : (if f7.length + d6.length < 5864062014805 then (some (a0_0, a0_1, (f7 ++ d6))) else (none)) = some (r1, r2, r3) := by first | (rw [hy204]; with_reducible exact H) | (have H2_ := (Option.bind_some _ _).symm.trans H; rw [hy204]; with_reducible exact H2_) | (have H2_ := (Option.bind_some _ _).symm.trans H; with_reducible exact H2_) | with_reducible exact H | (rw [hy204]; exact H) | exact H
        have m6 := qb.mk hy204;clear hy204
        by_cases c44 : f7.length + d6.length < 5864062014805
        ·rw [if_pos c44] at H
         have LMc44 := qb.mk c44;clear c44;obtain ⟨m9, hy208⟩ : ∃ y_ : List (S58), y_ = (f7 ++ d6) := ⟨_, rfl⟩;replace H : (some (a0_0, a0_1, m9)) = some (r1, r2, r3) := by first | (rw [hy208]; with_reducible exact H) | (have H2_ := (Option.bind_some _ _).symm.trans H; rw [hy208]; with_reducible exact H2_) | (have H2_ := (Option.bind_some _ _).symm.trans H; with_reducible exact H2_) | with_reducible exact H | (rw [hy208]; exact H) | exact H
         have n6 := qb.mk hy208;clear hy208
         simp only [Option.some.injEq, Prod.mk.injEq] at H
         obtain ⟨rfl, rfl, rfl⟩ := H
         try go_wp2
         have n0_ := qb.mk (qi b0.out);have n1_ := qb.mk (qi b1.out);have n2_ := qb.mk (qi b2.out);have n3_ := qb.mk (qe HB.out);clear b0;clear b1;clear b2;clear HB;have b0 := n0_;have b1 := n1_;have b2 := n2_;have HB := n3_;clear n0_ n1_ n2_ n3_
         refine jf (n := 14) (S := fun w' => w'.cell? ⟨b4, 0, none⟩ = some (.int .i64 a0_0) ∧ w'.cell? ⟨b4, 1, none⟩ = some (.int .i64 a0_1) ∧ w'.cell? ⟨b4, 2, none⟩ = some (.slice A0_2 l0_2.length c0_2)) (ds := []) #[false, false, false, false, false, false, false, false, false, false, false, false, false, false] (by kernel_rfl) rfl rfl ⟨(qc b0.out 0).trans rfl, (qc b0.out 1).trans rfl, (qc b0.out 2).trans rfl⟩ (fun hHeld => ?_); refine zy spec_avClose.tab2 spec_avClose.bits2 (fun HT_ HW_ => ?_)
         generalize wr.drew = w45 at b0 b1 b2 HB hHeld ⊢
         refine pure_ (i := 0) (N := some 7) (v := ?_) (a' := ?_) #[true, false, false, false, false, false, false, false, false, false, false, false, false, false] rfl rfl (qu HT_.out (by kernel_rfl)) (fun _ _ _ h => h) (Or.inl ⟨by rfl, ?_⟩) ?_ ?_
         rotate_left
         ·intro w'
          go_simp
          with_reducible rfl
         rotate_left
         ·simp only [Act.put, sA_, sB_, sC_, i64_w, i32_w]
          rfl
         refine pure_ (i := 1) (N := some 8) (v := ?_) (a' := ?_) #[true, true, false, false, false, false, false, false, false, false, false, false, false, false] rfl rfl (qu HT_.out (by kernel_rfl)) (fun _ _ _ h => h) (Or.inl ⟨by rfl, ?_⟩) ?_ ?_
         rotate_left
         ·intro w'
          go_simp
          with_reducible rfl
         rotate_left
         ·simp only [Act.put, sA_, sB_, sC_, i64_w, i32_w]
          rfl
         refine take_ (i := 2) (N := some 9) (v := ?_) (a' := ?_) #[true, true, true, false, false, false, false, false, false, false, false, false, false, false] rfl rfl (zg HT_.out HW_.out (by kernel_rfl)) (fun _ _ _ h => h) (Or.inl ⟨by rfl, ?_⟩) hHeld ?_ ?_
         rotate_left
         ·rintro w' ⟨s0, s1, s2⟩
          go_simp
          with_reducible rfl
         rotate_left
         ·simp only [Act.put, sA_, sB_, sC_, i64_w, i32_w]
          rfl
         refine pure_ (i := 3) (N := some 10) (v := ?_) (a' := ?_) #[true, true, true, true, false, false, false, false, false, false, false, false, false, false] rfl rfl (qu HT_.out (by kernel_rfl)) (fun _ _ _ h => h) (Or.inl ⟨by rfl, ?_⟩) ?_ ?_
         rotate_left
         ·intro w'
          go_simp
          with_reducible rfl
         rotate_left
         ·simp only [Act.put, sA_, sB_, sC_, i64_w, i32_w]
          rfl
         refine pure_ (i := 4) (N := some 11) (v := ?_) (a' := ?_) #[true, true, true, true, true, false, false, false, false, false, false, false, false, false] rfl rfl (qu HT_.out (by kernel_rfl)) (fun _ _ _ h => h) (Or.inl ⟨by rfl, ?_⟩) ?_ ?_
         rotate_left
         ·intro w'
          go_simp
          with_reducible rfl
         rotate_left
         ·simp only [Act.put, sA_, sB_, sC_, i64_w, i32_w]
          rfl
         refine pure_ (i := 5) (N := some 12) (v := ?_) (a' := ?_) #[true, true, true, true, true, true, false, false, false, false, false, false, false, false] rfl rfl (qu HT_.out (by kernel_rfl)) (fun _ _ _ h => h) (Or.inl ⟨by rfl, ?_⟩) ?_ ?_
         rotate_left
         ·intro w'
          go_simp
          with_reducible rfl
         rotate_left
         ·simp only [Act.put, sA_, sB_, sC_, i64_w, i32_w]
          rfl
         refine pure_ (i := 6) (N := some 13) (v := undef) (a' := ?_) #[true, true, true, true, true, true, true, false, false, false, false, false, false, false] rfl rfl (qu HT_.out (by kernel_rfl)) (fun _ _ _ h => h) (Or.inr ⟨by rfl, rfl⟩) ?_ ?_
         rotate_left
         ·simp only [Act.put, sA_, sB_, sC_, i64_w, i32_w]
          rfl
         refine pure_ (i := 7) (N := some 14) (v := undef) (a' := ?_) #[true, true, true, true, true, true, true, true, false, false, false, false, false, false] rfl rfl (qu HT_.out (by kernel_rfl)) (fun _ _ _ h => h) (Or.inr ⟨by rfl, rfl⟩) ?_ ?_
         rotate_left
         ·simp only [Act.put, sA_, sB_, sC_, i64_w, i32_w]
          rfl
         refine pure_ (i := 8) (N := some 15) (v := undef) (a' := ?_) #[true, true, true, true, true, true, true, true, true, false, false, false, false, false] rfl rfl (qu HT_.out (by kernel_rfl)) (fun _ _ _ h => h) (Or.inr ⟨by rfl, rfl⟩) ?_ ?_
         rotate_left
         ·simp only [Act.put, sA_, sB_, sC_, i64_w, i32_w]
          rfl
         refine pure_ (i := 9) (N := some 16) (v := undef) (a' := ?_) #[true, true, true, true, true, true, true, true, true, true, false, false, false, false] rfl rfl (qu HT_.out (by kernel_rfl)) (fun _ _ _ h => h) (Or.inr ⟨by rfl, rfl⟩) ?_ ?_
         rotate_left
         ·simp only [Act.put, sA_, sB_, sC_, i64_w, i32_w]
          rfl
         refine pure_ (i := 10) (N := some 17) (v := undef) (a' := ?_) #[true, true, true, true, true, true, true, true, true, true, true, false, false, false] rfl rfl (qu HT_.out (by kernel_rfl)) (fun _ _ _ h => h) (Or.inr ⟨by rfl, rfl⟩) ?_ ?_
         rotate_left
         ·simp only [Act.put, sA_, sB_, sC_, i64_w, i32_w]
          rfl
         refine pure_ (i := 11) (N := some 18) (v := undef) (a' := ?_) #[true, true, true, true, true, true, true, true, true, true, true, true, false, false] rfl rfl (qu HT_.out (by kernel_rfl)) (fun _ _ _ h => h) (Or.inr ⟨by rfl, rfl⟩) ?_ ?_
         rotate_left
         ·simp only [Act.put, sA_, sB_, sC_, i64_w, i32_w]
          rfl
         refine pure_ (i := 12) (N := some 19) (v := undef) (a' := ?_) #[true, true, true, true, true, true, true, true, true, true, true, true, true, false] rfl rfl (qu HT_.out (by kernel_rfl)) (fun _ _ _ h => h) (Or.inr ⟨by rfl, rfl⟩) ?_ ?_
         rotate_left
         ·simp only [Act.put, sA_, sB_, sC_, i64_w, i32_w]
          rfl
         refine pure_ (i := 13) (N := some 20) (v := ?_) (a' := ?_) #[true, true, true, true, true, true, true, true, true, true, true, true, true, true] rfl rfl (qu HT_.out (by kernel_rfl)) (fun _ _ _ h => h) (Or.inl ⟨by rfl, ?_⟩) ?_ ?_
         rotate_left
         ·intro w'
          go_simp
          with_reducible rfl
         rotate_left
         ·simp only [Act.put, sA_, sB_, sC_, i64_w, i32_w]
          rfl
         refine done_ (je HT_.out (by kernel_rfl)) ?_
         try go_wp2
         have n0_ := qb.mk (qi b0.out);have n1_ := qb.mk (qi b1.out);have n2_ := qb.mk (qi b2.out);have n3_ := qb.mk (qe HB.out);clear b0;clear b1;clear b2;clear HB;have b0 := n0_;have b1 := n1_;have b2 := n2_;have HB := n3_;clear n0_ n1_ n2_ n3_;have q47 : (x5_1 : Int) ≤ ((l0_2.length : Int) : Int) := of_decide_eq_true (by first | (with_reducible assumption) | assumption);obtain ⟨i047, hi047, _, hsz47, _⟩ := info_parts jg;have hroom47 : l0_2.length ≤ c0_2 := HC0_2.out;have hC47 : Kd.C k58 _ A0_2 l0_2.length l0_2 := HR0_2.out;have hcut47 := cut_to (P := Try.prog) 29 58 .i64 Try.underlying29 hi047 A0_2 l0_2.length c0_2 x5_1 (of_decide_eq_true (by first | (with_reducible assumption) | assumption)) q47 hroom47;have hr47 := Kd.C_take (m := (x5_1 : Int).toNat) hC47 (by omega);have hy47 : g4.length = (x5_1 : Int).toNat := (by rw [m5.out, List.length_take]; omega);rw [← m5.out] at hr47;rw [← hy47] at hcut47;have HR194 := qb.mk hr47;have HC194 := qb.mk (show g4.length ≤ c0_2 from by omega);clear hr47 hC47 hroom47 hi047 hsz47;have KY47 := qb.mk hy47;clear hy47;replace q47 := eq_true q47
         refine jf (n := 10) (S := fun w' => w'.cell? ⟨b4, 0, none⟩ = some (.int .i64 a0_0) ∧ w'.cell? ⟨b4, 1, none⟩ = some (.int .i64 a0_1) ∧ w'.cell? ⟨b4, 2, none⟩ = some (.slice A0_2 l0_2.length c0_2) ∧ w'.cell? ⟨b3, 0, none⟩ = some (.int .i64 a1_0) ∧ w'.cell? ⟨b3, 1, none⟩ = some (.int .i64 a1_1) ∧ w'.cell? ⟨b3, 2, none⟩ = some (.bool a1_2)) (ds := []) #[false, false, false, false, false, false, false, false, false, false] (by kernel_rfl) rfl rfl ⟨(qc b0.out 0).trans rfl, (qc b0.out 1).trans rfl, (qc b0.out 2).trans rfl, (qc b1.out 0).trans rfl, (qc b1.out 1).trans rfl, (qc b1.out 2).trans rfl⟩ (fun hHeld => ?_); refine zy spec_avClose.tab4 spec_avClose.bits4 (fun HT_ HW_ => ?_)
         generalize w45.drew = w46 at b0 b1 b2 HB HR194 hHeld ⊢
         refine pure_ (i := 1) (N := some 24) (v := ?_) (a' := ?_) #[false, true, false, false, false, false, false, false, false, false] rfl rfl (qu HT_.out (by kernel_rfl)) (fun _ _ _ h => h) (Or.inl ⟨by rfl, ?_⟩) ?_ ?_
         rotate_left
         ·intro w'
          go_simp
          with_reducible rfl
         rotate_left
         ·simp only [Act.put, sA_, sB_, sC_, i64_w, i32_w]
          rfl
         refine pure_ (i := 3) (N := some 26) (v := ?_) (a' := ?_) #[false, true, false, true, false, false, false, false, false, false] rfl rfl (qu HT_.out (by kernel_rfl)) (fun _ _ _ h => h) (Or.inl ⟨by rfl, ?_⟩) ?_ ?_
         rotate_left
         ·intro w'
          go_simp
          with_reducible rfl
         rotate_left
         ·simp only [Act.put, sA_, sB_, sC_, i64_w, i32_w]
          rfl
         refine take_ (i := 2) (N := some 25) (v := ?_) (a' := ?_) #[false, true, true, true, false, false, false, false, false, false] rfl rfl (zg HT_.out HW_.out (by kernel_rfl)) (fun _ _ _ h => h) (Or.inl ⟨by rfl, ?_⟩) hHeld ?_ ?_
         rotate_left
         ·rintro w' ⟨s0, s1, s2, s3, s4, s5⟩
          go_simp
          with_reducible rfl
         rotate_left
         ·simp only [Act.put, sA_, sB_, sC_, i64_w, i32_w]
          rfl
         refine pure_ (i := 4) (N := some 27) (v := ?_) (a' := ?_) #[false, true, true, true, true, false, false, false, false, false] rfl rfl (qu HT_.out (by kernel_rfl)) (fun _ _ _ h => h) (Or.inl ⟨by rfl, ?_⟩) ?_ ?_
         rotate_left
         ·intro w'
          go_simp
          with_reducible rfl
         rotate_left
         ·simp only [Act.put, sA_, sB_, sC_, i64_w, i32_w]
          rfl
         refine take_ (i := 6) (N := some 29) (v := ?_) (a' := ?_) #[false, true, true, true, true, false, true, false, false, false] rfl rfl (zg HT_.out HW_.out (by kernel_rfl)) (fun _ _ _ h => h) (Or.inl ⟨by rfl, ?_⟩) hHeld ?_ ?_
         rotate_left
         ·rintro w' ⟨s0, s1, s2, s3, s4, s5⟩
          go_simp
          with_reducible rfl
         rotate_left
         ·simp only [Act.put, sA_, sB_, sC_, i64_w, i32_w]
          rfl
         refine join_ (σ := Value × Value × Value) 2 #[true, true, true, true, true, true, true, true, false, false] (fun s_ => [(23, s_.1), (28, s_.2.1), (30, s_.2.2)]) (fun s_ w' => (w'.cell? ⟨b4, 0, none⟩ = some (.int .i64 a0_0) ∧ w'.cell? ⟨b4, 1, none⟩ = some (.int .i64 a0_1) ∧ w'.cell? ⟨b4, 2, none⟩ = some (.slice A0_2 l0_2.length c0_2) ∧ w'.cell? ⟨b3, 0, none⟩ = some (.int .i64 a1_0) ∧ w'.cell? ⟨b3, 1, none⟩ = some (.int .i64 a1_1) ∧ w'.cell? ⟨b3, 2, none⟩ = some (.bool a1_2)) ∧ (Kd.R k58 58 w' w.heap.size (fun k_ => some k_ ≠ (s_.2.2 : Value).ownBlock ∧ k_ ≠ b3) s_.2.1 g1) ∧ (Kd.R k58 58 w' w.heap.size (fun k_ => some k_ ≠ (s_.2.1 : Value).ownBlock ∧ k_ ≠ b3) s_.2.2 f9) ∧ (w'.heap[b4]? = some (.cells #[.int .i64 a0_0, .int .i64 a0_1, .slice A0_2 l0_2.length c0_2] 31 (0, 0))) ∧ (w'.heap[b3]? = some (.cells #[.int .i64 a1_0, .int .i64 a1_1, .bool a1_2] 58 (0, 0))) ∧ (w'.heap[b5]? = some (.cells #[.int .i64 0, .int .i64 0, .slice none 0 0] 31 (0, 0))) ∧ (Below w.heap.size w w')) ?_ ?_
         rotate_left
         ·intro hCont
          refine two_ (i := 0) (j := 7) (Ni := some 23) (Nj := some 30) #[true, true, true, true, true, false, true, false, false, false] #[false, true, true, true, true, false, true, true, false, false] rfl rfl rfl rfl (two_of HT_.out (by kernel_rfl)) (by decide) (by decide) (fun K hK => ?_) (fun K hK => ?_)
          ·skip
           refine Kd.zz k58 _ 58 ?hg (N := 23) ?hd (xs := ([] : List (S58))) (inner := []) (ok := fun _ => True) (okp := fun _ => True) ?hr ?hp (fun _ hk => hk) trivial (Below.refl _ _) (Nat.le_refl _) (by simp) ?_; (case hd => rfl); (case hg => rfl); (case hr => first | (go_simp; done) | (go_simp; rfl)); (case hp => exact (Reps.none _ _))
           intro v189 w48 ho49 hb hg_ hnew_
           clear hg_ hnew_
           (first | rw [← g9.out] at ho49 | (simp only [Int.reduceToNat] at ho49; rw [← g9.out] at ho49))
           have n0_ := qb.mk (Kd.zp (Kd.R_newB ho49 (g := b3) (o := .cells #[.int .i64 a1_0, .int .i64 a1_1, .bool a1_2] 58 (0, 0)) (bk_ b1)) (ql (be3_ HB b6 b8 b9)));have n1_ := qb.mk (qo (g := b4) (o := .cells #[.int .i64 a0_0, .int .i64 a0_1, .slice A0_2 l0_2.length c0_2] 31 (0, 0)) (bk_ b0) hb);have n2_ := qb.mk (qo (g := b3) (o := .cells #[.int .i64 a1_0, .int .i64 a1_1, .bool a1_2] 58 (0, 0)) (bk_ b1) hb);have n3_ := qb.mk (qo (g := b5) (o := .cells #[.int .i64 0, .int .i64 0, .slice none 0 0] 31 (0, 0)) (bk_ b2) hb);have n4_ := qb.mk (qp (be3_ HB b6 b8 b9) hb);clear b0;clear b1;clear b2;clear HB;have d4 := n0_;have b0 := n1_;have b1 := n2_;have b2 := n3_;have HB := n4_;clear n0_ n1_ n2_ n3_ n4_;clear hb ho49
           refine hK.out _ _ ⟨(qc b0.out 0).trans rfl, (qc b0.out 1).trans rfl, (qc b0.out 2).trans rfl, (qc b1.out 0).trans rfl, (qc b1.out 1).trans rfl, (qc b1.out 2).trans rfl⟩ (fun hHeld => ?_)
           clear hK K
           refine norm_ (a' := ?_) ?_ ?_
           rotate_left
           ·show Act.put _ (some 23) _ = _
            simp only [Act.put, sA_, sB_, sC_, i64_w, i32_w]
            rfl
           refine two_ (i := 5) (j := 7) (Ni := some 28) (Nj := some 30) #[true, true, true, true, true, true, true, false, false, false] #[true, true, true, true, true, false, true, true, false, false] rfl rfl rfl rfl (two_of HT_.out (by kernel_rfl)) (by decide) (by decide) (fun K hK => ?_) (fun K hK => ?_)
           ·skip
            refine Kd.R_append_rows_step k58 (w0 := w) w.heap.size (by rfl) (.tmp 23) (.tmp 27) 29 58 (.agg #[(.int .i64 0), (.int .i64 0), (.bool false)]) 24 rfl Try.underlying29 jg rfl (by decide) (by omega) v189 g7 g4 _ _ _ (fun k_ => k_ ≠ b3) (fun _ => False) rfl rfl ?aO ?aR (fun _ _ h => h) (fun _ h => h.elim) ?aF ?aB ?aS ?aL ?_
            (case aR => repeat (first | exact (Kd.qz HR194.out HB.out) | (with_reducible refine Kd.za ?_ _) | (with_reducible refine Kd.zb ?_ _) | (with_reducible refine Kd.zf ?_)))
            (case aB => exact (be3_ HB b6 b8 b9))
            (case aF => exact (fun k_ hk => Kd.freshB (g := b3) (o := .cells #[.int .i64 a1_0, .int .i64 a1_1, .bool a1_2] 58 (0, 0)) (bk_ b1) k_ hk))
            (case aO => exact (by (with_reducible repeat (first | apply Kd.qm | apply Kd.qn | apply Kd.qq)); exact Kd.zh d4.out (fun _ hk => hk.2)))
            (case aS => exact (ql (be3_ HB b6 b8 b9)))
            (case aL => have := LMc40.out; omega)
            intro v196 w50 ho hb hg hat
            rw [← m1.out] at ho;have n0_ := qb.mk (zq (g := b4) (o := .cells #[.int .i64 a0_0, .int .i64 a0_1, .slice A0_2 l0_2.length c0_2] 31 (0, 0)) (bk_ b0) hg (Kd.R_ne d4.out b0.out (by decide)));have n1_ := qb.mk (zq (g := b3) (o := .cells #[.int .i64 a1_0, .int .i64 a1_1, .bool a1_2] 58 (0, 0)) (bk_ b1) hg (Kd.R_away d4.out (fun _ hk => hk.2)));have n2_ := qb.mk (zq (g := b5) (o := .cells #[.int .i64 0, .int .i64 0, .slice none 0 0] 31 (0, 0)) (bk_ b2) hg (Kd.R_ne d4.out b2.out (by decide)));have n3_ := qb.mk (hb);have n4_ := qb.mk (ho);clear b0;clear b1;clear b2;clear HB;clear d4;have b0 := n0_;have b1 := n1_;have b2 := n2_;have HB := n3_;have f5 := n4_;clear n0_ n1_ n2_ n3_ n4_;clear ho hb hg hat
            refine hK.out _ _ ⟨(qc b0.out 0).trans rfl, (qc b0.out 1).trans rfl, (qc b0.out 2).trans rfl, (qc b1.out 0).trans rfl, (qc b1.out 1).trans rfl, (qc b1.out 2).trans rfl⟩ (fun hHeld => ?_)
            clear hK K
            refine norm_ (a' := ?_) ?_ ?_
            rotate_left
            ·show Act.put _ (some 28) _ = _
             simp only [Act.put, sA_, sB_, sC_, i64_w, i32_w]
             rfl
            refine one_ (i := 7) (N := some 30) #[true, true, true, true, true, true, true, true, false, false] rfl rfl (zw HT_.out (by kernel_rfl)) (by decide) (fun K hK => ?_)
            refine Kd.zz k58 _ 58 ?hg (N := 30) ?hd (xs := ([(⟨a1_0, a1_1, a1_2⟩ : S58)] : List (S58))) (inner := [.int .i64 a1_0, .int .i64 a1_1, .bool a1_2]) (ok := fun _ => True) (okp := fun _ => True) ?hr ?hp (fun _ hk => hk) trivial (Below.refl _ _) (Nat.le_refl _) (by simp) ?_; (case hd => rfl); (case hg => rfl); (case hr => first | (go_simp; done) | (go_simp; rfl)); (case hp => exact (Reps.c3 (show Kd.M k58 _ _ _ (⟨a1_0, a1_1, a1_2⟩ : S58) [.int .i64 a1_0, .int .i64 a1_1, .bool a1_2] from (k58_mkM _ _ _ (⟨a1_0, a1_1, a1_2⟩ : S58) )) (Reps.none _ _)))
            intro v199 w51 ho52 hb hg_ hnew_
            clear hg_ hnew_
            (first | rw [← g6.out] at ho52 | (simp only [Int.reduceToNat] at ho52; rw [← g6.out] at ho52))
            have n0_ := qb.mk (Kd.zm (kr_ f5) (Kd.zu ho52) hb);have n1_ := qb.mk (Kd.zp (Kd.R_newB (Kd.zv ho52 (Kd.R_lt (kr_ f5))) (g := b3) (o := .cells #[.int .i64 a1_0, .int .i64 a1_1, .bool a1_2] 58 (0, 0)) (bk_ b1)) (ql (be3_ HB b6 b8 b9)));have n2_ := qb.mk (qo (g := b4) (o := .cells #[.int .i64 a0_0, .int .i64 a0_1, .slice A0_2 l0_2.length c0_2] 31 (0, 0)) (bk_ b0) hb);have n3_ := qb.mk (qo (g := b3) (o := .cells #[.int .i64 a1_0, .int .i64 a1_1, .bool a1_2] 58 (0, 0)) (bk_ b1) hb);have n4_ := qb.mk (qo (g := b5) (o := .cells #[.int .i64 0, .int .i64 0, .slice none 0 0] 31 (0, 0)) (bk_ b2) hb);have n5_ := qb.mk (qp (be3_ HB b6 b8 b9) hb);clear f5;clear b0;clear b1;clear b2;clear HB;have f5 := n0_;have d1 := n1_;have b0 := n2_;have b1 := n3_;have b2 := n4_;have HB := n5_;clear n0_ n1_ n2_ n3_ n4_ n5_;clear hb ho52
            refine hK.out _ _ ⟨(qc b0.out 0).trans rfl, (qc b0.out 1).trans rfl, (qc b0.out 2).trans rfl, (qc b1.out 0).trans rfl, (qc b1.out 1).trans rfl, (qc b1.out 2).trans rfl⟩ (fun hHeld => ?_)
            clear hK K
            refine norm_ (a' := ?_) ?_ ?_
            rotate_left
            ·show Act.put _ (some 30) _ = _
             simp only [Act.put, sA_, sB_, sC_, i64_w, i32_w]
             rfl
            exact norm_ (by simp only [zx, Act.put, sA_, sB_, sC_]) (hCont (v189, v196, v199) _ ⟨hHeld, (by (with_reducible repeat (first | apply Kd.qm | apply Kd.qn | apply Kd.qq)); exact Kd.zh f5.out (fun _ hk => ⟨hk.2, hk.1⟩)), (by (with_reducible repeat (first | apply Kd.qm | apply Kd.qn | apply Kd.qq)); exact Kd.zh d1.out (fun _ hk => ⟨hk.1.2, hk.2⟩)), (bk_ b0), (bk_ b1), (bk_ b2), (be3_ HB b6 b8 b9)⟩)
           ·skip
            refine Kd.zz k58 _ 58 ?hg (N := 30) ?hd (xs := ([(⟨a1_0, a1_1, a1_2⟩ : S58)] : List (S58))) (inner := [.int .i64 a1_0, .int .i64 a1_1, .bool a1_2]) (ok := fun _ => True) (okp := fun _ => True) ?hr ?hp (fun _ hk => hk) trivial (Below.refl _ _) (Nat.le_refl _) (by simp) ?_; (case hd => rfl); (case hg => rfl); (case hr => first | (go_simp; done) | (go_simp; rfl)); (case hp => exact (Reps.c3 (show Kd.M k58 _ _ _ (⟨a1_0, a1_1, a1_2⟩ : S58) [.int .i64 a1_0, .int .i64 a1_1, .bool a1_2] from (k58_mkM _ _ _ (⟨a1_0, a1_1, a1_2⟩ : S58) )) (Reps.none _ _)))
            intro v199 w50 ho51 hb hg_ hnew_
            clear hg_ hnew_
            (first | rw [← g6.out] at ho51 | (simp only [Int.reduceToNat] at ho51; rw [← g6.out] at ho51))
            have n0_ := qb.mk (Kd.zm (kr_ d4) (Kd.zu ho51) hb);have n1_ := qb.mk (Kd.zp (Kd.R_newB (Kd.zv ho51 (Kd.R_lt (kr_ d4))) (g := b3) (o := .cells #[.int .i64 a1_0, .int .i64 a1_1, .bool a1_2] 58 (0, 0)) (bk_ b1)) (ql (be3_ HB b6 b8 b9)));have n2_ := qb.mk (qo (g := b4) (o := .cells #[.int .i64 a0_0, .int .i64 a0_1, .slice A0_2 l0_2.length c0_2] 31 (0, 0)) (bk_ b0) hb);have n3_ := qb.mk (qo (g := b3) (o := .cells #[.int .i64 a1_0, .int .i64 a1_1, .bool a1_2] 58 (0, 0)) (bk_ b1) hb);have n4_ := qb.mk (qo (g := b5) (o := .cells #[.int .i64 0, .int .i64 0, .slice none 0 0] 31 (0, 0)) (bk_ b2) hb);have n5_ := qb.mk (qp (be3_ HB b6 b8 b9) hb);clear d4;clear b0;clear b1;clear b2;clear HB;have d4 := n0_;have d1 := n1_;have b0 := n2_;have b1 := n3_;have b2 := n4_;have HB := n5_;clear n0_ n1_ n2_ n3_ n4_ n5_;clear hb ho51
            refine hK.out _ _ ⟨(qc b0.out 0).trans rfl, (qc b0.out 1).trans rfl, (qc b0.out 2).trans rfl, (qc b1.out 0).trans rfl, (qc b1.out 1).trans rfl, (qc b1.out 2).trans rfl⟩ (fun hHeld => ?_)
            clear hK K
            refine norm_ (a' := ?_) ?_ ?_
            rotate_left
            ·show Act.put _ (some 30) _ = _
             simp only [Act.put, sA_, sB_, sC_, i64_w, i32_w]
             rfl
            refine one_ (i := 5) (N := some 28) #[true, true, true, true, true, true, true, true, false, false] rfl rfl (zw HT_.out (by kernel_rfl)) (by decide) (fun K hK => ?_)
            refine Kd.R_append_rows_step k58 (w0 := w) w.heap.size (by rfl) (.tmp 23) (.tmp 27) 29 58 (.agg #[(.int .i64 0), (.int .i64 0), (.bool false)]) 24 rfl Try.underlying29 jg rfl (by decide) (by omega) v189 g7 g4 _ _ _ (fun k_ => some k_ ≠ (v199 : Value).ownBlock ∧ k_ ≠ b3) (fun _ => False) rfl rfl ?aO ?aR (fun _ _ h => h) (fun _ h => h.elim) ?aF ?aB ?aS ?aL ?_
            (case aR => repeat (first | exact (Kd.qz HR194.out HB.out) | (with_reducible refine Kd.za ?_ _) | (with_reducible refine Kd.zb ?_ _) | (with_reducible refine Kd.zf ?_)))
            (case aB => exact (be3_ HB b6 b8 b9))
            (case aF => exact (fun k_ hk => ⟨Kd.fresh' (Kd.R_lt (kr_ d1)) k_ hk, Kd.freshB (g := b3) (o := .cells #[.int .i64 a1_0, .int .i64 a1_1, .bool a1_2] 58 (0, 0)) (bk_ b1) k_ hk⟩))
            (case aO => exact (by (with_reducible repeat (first | apply Kd.qm | apply Kd.qn | apply Kd.qq)); exact Kd.zh d4.out (fun _ hk => ⟨hk.2, hk.1.2⟩)))
            (case aS => exact (ql (be3_ HB b6 b8 b9)))
            (case aL => have := LMc40.out; omega)
            intro v196 w52 ho hb hg hat
            rw [← m1.out] at ho;have n0_ := qb.mk (zq (g := b4) (o := .cells #[.int .i64 a0_0, .int .i64 a0_1, .slice A0_2 l0_2.length c0_2] 31 (0, 0)) (bk_ b0) hg (Kd.R_ne d4.out b0.out (by decide)));have n1_ := qb.mk (zq (g := b3) (o := .cells #[.int .i64 a1_0, .int .i64 a1_1, .bool a1_2] 58 (0, 0)) (bk_ b1) hg (Kd.R_away d4.out (fun _ hk => hk.1.2)));have n2_ := qb.mk (zq (g := b5) (o := .cells #[.int .i64 0, .int .i64 0, .slice none 0 0] 31 (0, 0)) (bk_ b2) hg (Kd.R_ne d4.out b2.out (by decide)));have n3_ := qb.mk (Kd.R_after (ok := (fun k_ => k_ ≠ b3)) (by (with_reducible repeat (first | apply Kd.qm | apply Kd.qn | apply Kd.qq)); exact Kd.zh d1.out (fun _ hk => ⟨hk.2, hk.1.2⟩)) hg hat);have n4_ := qb.mk (hb);have n5_ := qb.mk (ho);clear b0;clear b1;clear b2;clear d1;clear HB;clear d4;have b0 := n0_;have b1 := n1_;have b2 := n2_;have d1 := n3_;have HB := n4_;have f5 := n5_;clear n0_ n1_ n2_ n3_ n4_ n5_;clear ho hb hg hat
            refine hK.out _ _ ⟨(qc b0.out 0).trans rfl, (qc b0.out 1).trans rfl, (qc b0.out 2).trans rfl, (qc b1.out 0).trans rfl, (qc b1.out 1).trans rfl, (qc b1.out 2).trans rfl⟩ (fun hHeld => ?_)
            clear hK K
            refine norm_ (a' := ?_) ?_ ?_
            rotate_left
            ·show Act.put _ (some 28) _ = _
             simp only [Act.put, sA_, sB_, sC_, i64_w, i32_w]
             rfl
            exact norm_ (by simp only [zx, Act.put, sA_, sB_, sC_]) (hCont (v189, v196, v199) _ ⟨hHeld, (kr_ f5), (by (with_reducible repeat (first | apply Kd.qm | apply Kd.qn | apply Kd.qq)); exact Kd.zh d1.out (fun _ hk => ⟨hk.2, hk.1⟩)), (bk_ b0), (bk_ b1), (bk_ b2), (be3_ HB b6 b8 b9)⟩)
          ·skip
           refine Kd.zz k58 _ 58 ?hg (N := 30) ?hd (xs := ([(⟨a1_0, a1_1, a1_2⟩ : S58)] : List (S58))) (inner := [.int .i64 a1_0, .int .i64 a1_1, .bool a1_2]) (ok := fun _ => True) (okp := fun _ => True) ?hr ?hp (fun _ hk => hk) trivial (Below.refl _ _) (Nat.le_refl _) (by simp) ?_; (case hd => rfl); (case hg => rfl); (case hr => first | (go_simp; done) | (go_simp; rfl)); (case hp => exact (Reps.c3 (show Kd.M k58 _ _ _ (⟨a1_0, a1_1, a1_2⟩ : S58) [.int .i64 a1_0, .int .i64 a1_1, .bool a1_2] from (k58_mkM _ _ _ (⟨a1_0, a1_1, a1_2⟩ : S58) )) (Reps.none _ _)))
           intro v199 w48 ho49 hb hg_ hnew_
           clear hg_ hnew_
           (first | rw [← g6.out] at ho49 | (simp only [Int.reduceToNat] at ho49; rw [← g6.out] at ho49))
           have n0_ := qb.mk (Kd.zp (Kd.R_newB ho49 (g := b3) (o := .cells #[.int .i64 a1_0, .int .i64 a1_1, .bool a1_2] 58 (0, 0)) (bk_ b1)) (ql (be3_ HB b6 b8 b9)));have n1_ := qb.mk (qo (g := b4) (o := .cells #[.int .i64 a0_0, .int .i64 a0_1, .slice A0_2 l0_2.length c0_2] 31 (0, 0)) (bk_ b0) hb);have n2_ := qb.mk (qo (g := b3) (o := .cells #[.int .i64 a1_0, .int .i64 a1_1, .bool a1_2] 58 (0, 0)) (bk_ b1) hb);have n3_ := qb.mk (qo (g := b5) (o := .cells #[.int .i64 0, .int .i64 0, .slice none 0 0] 31 (0, 0)) (bk_ b2) hb);have n4_ := qb.mk (qp (be3_ HB b6 b8 b9) hb);clear b0;clear b1;clear b2;clear HB;have d1 := n0_;have b0 := n1_;have b1 := n2_;have b2 := n3_;have HB := n4_;clear n0_ n1_ n2_ n3_ n4_;clear hb ho49
           refine hK.out _ _ ⟨(qc b0.out 0).trans rfl, (qc b0.out 1).trans rfl, (qc b0.out 2).trans rfl, (qc b1.out 0).trans rfl, (qc b1.out 1).trans rfl, (qc b1.out 2).trans rfl⟩ (fun hHeld => ?_)
           clear hK K
           refine norm_ (a' := ?_) ?_ ?_
           rotate_left
           ·show Act.put _ (some 30) _ = _
            simp only [Act.put, sA_, sB_, sC_, i64_w, i32_w]
            rfl
           refine one_ (i := 0) (N := some 23) #[true, true, true, true, true, false, true, true, false, false] rfl rfl (zw HT_.out (by kernel_rfl)) (by decide) (fun K hK => ?_)
           refine Kd.zz k58 _ 58 ?hg (N := 23) ?hd (xs := ([] : List (S58))) (inner := []) (ok := fun _ => True) (okp := fun _ => True) ?hr ?hp (fun _ hk => hk) trivial (Below.refl _ _) (Nat.le_refl _) (by simp) ?_; (case hd => rfl); (case hg => rfl); (case hr => first | (go_simp; done) | (go_simp; rfl)); (case hp => exact (Reps.none _ _))
           intro v189 w50 ho51 hb hg_ hnew_
           clear hg_ hnew_
           (first | rw [← g9.out] at ho51 | (simp only [Int.reduceToNat] at ho51; rw [← g9.out] at ho51))
           have n0_ := qb.mk (Kd.zm (kr_ d1) (Kd.zu ho51) hb);have n1_ := qb.mk (Kd.zp (Kd.R_newB (Kd.zv ho51 (Kd.R_lt (kr_ d1))) (g := b3) (o := .cells #[.int .i64 a1_0, .int .i64 a1_1, .bool a1_2] 58 (0, 0)) (bk_ b1)) (ql (be3_ HB b6 b8 b9)));have n2_ := qb.mk (qo (g := b4) (o := .cells #[.int .i64 a0_0, .int .i64 a0_1, .slice A0_2 l0_2.length c0_2] 31 (0, 0)) (bk_ b0) hb);have n3_ := qb.mk (qo (g := b3) (o := .cells #[.int .i64 a1_0, .int .i64 a1_1, .bool a1_2] 58 (0, 0)) (bk_ b1) hb);have n4_ := qb.mk (qo (g := b5) (o := .cells #[.int .i64 0, .int .i64 0, .slice none 0 0] 31 (0, 0)) (bk_ b2) hb);have n5_ := qb.mk (qp (be3_ HB b6 b8 b9) hb);clear d1;clear b0;clear b1;clear b2;clear HB;have d1 := n0_;have d4 := n1_;have b0 := n2_;have b1 := n3_;have b2 := n4_;have HB := n5_;clear n0_ n1_ n2_ n3_ n4_ n5_;clear hb ho51
           refine hK.out _ _ ⟨(qc b0.out 0).trans rfl, (qc b0.out 1).trans rfl, (qc b0.out 2).trans rfl, (qc b1.out 0).trans rfl, (qc b1.out 1).trans rfl, (qc b1.out 2).trans rfl⟩ (fun hHeld => ?_)
           clear hK K
           refine norm_ (a' := ?_) ?_ ?_
           rotate_left
           ·show Act.put _ (some 23) _ = _
            simp only [Act.put, sA_, sB_, sC_, i64_w, i32_w]
            rfl
           refine one_ (i := 5) (N := some 28) #[true, true, true, true, true, true, true, true, false, false] rfl rfl (zw HT_.out (by kernel_rfl)) (by decide) (fun K hK => ?_)
           refine Kd.R_append_rows_step k58 (w0 := w) w.heap.size (by rfl) (.tmp 23) (.tmp 27) 29 58 (.agg #[(.int .i64 0), (.int .i64 0), (.bool false)]) 24 rfl Try.underlying29 jg rfl (by decide) (by omega) v189 g7 g4 _ _ _ (fun k_ => some k_ ≠ (v199 : Value).ownBlock ∧ k_ ≠ b3) (fun _ => False) rfl rfl ?aO ?aR (fun _ _ h => h) (fun _ h => h.elim) ?aF ?aB ?aS ?aL ?_
           (case aR => repeat (first | exact (Kd.qz HR194.out HB.out) | (with_reducible refine Kd.za ?_ _) | (with_reducible refine Kd.zb ?_ _) | (with_reducible refine Kd.zf ?_)))
           (case aB => exact (be3_ HB b6 b8 b9))
           (case aF => exact (fun k_ hk => ⟨Kd.fresh' (Kd.R_lt (kr_ d1)) k_ hk, Kd.freshB (g := b3) (o := .cells #[.int .i64 a1_0, .int .i64 a1_1, .bool a1_2] 58 (0, 0)) (bk_ b1) k_ hk⟩))
           (case aO => exact (by (with_reducible repeat (first | apply Kd.qm | apply Kd.qn | apply Kd.qq)); exact Kd.zh d4.out (fun _ hk => ⟨hk.1.2, hk.2⟩)))
           (case aS => exact (ql (be3_ HB b6 b8 b9)))
           (case aL => have := LMc40.out; omega)
           intro v196 w52 ho hb hg hat
           rw [← m1.out] at ho;have n0_ := qb.mk (zq (g := b4) (o := .cells #[.int .i64 a0_0, .int .i64 a0_1, .slice A0_2 l0_2.length c0_2] 31 (0, 0)) (bk_ b0) hg (Kd.R_ne d4.out b0.out (by decide)));have n1_ := qb.mk (zq (g := b3) (o := .cells #[.int .i64 a1_0, .int .i64 a1_1, .bool a1_2] 58 (0, 0)) (bk_ b1) hg (Kd.R_away d4.out (fun _ hk => hk.2)));have n2_ := qb.mk (zq (g := b5) (o := .cells #[.int .i64 0, .int .i64 0, .slice none 0 0] 31 (0, 0)) (bk_ b2) hg (Kd.R_ne d4.out b2.out (by decide)));have n3_ := qb.mk (Kd.R_after (ok := (fun k_ => k_ ≠ b3)) (by (with_reducible repeat (first | apply Kd.qm | apply Kd.qn | apply Kd.qq)); exact Kd.zh d1.out (fun _ hk => ⟨hk.1.2, hk.2⟩)) hg hat);have n4_ := qb.mk (hb);have n5_ := qb.mk (ho);clear b0;clear b1;clear b2;clear d1;clear HB;clear d4;have b0 := n0_;have b1 := n1_;have b2 := n2_;have d1 := n3_;have HB := n4_;have f5 := n5_;clear n0_ n1_ n2_ n3_ n4_ n5_;clear ho hb hg hat
           refine hK.out _ _ ⟨(qc b0.out 0).trans rfl, (qc b0.out 1).trans rfl, (qc b0.out 2).trans rfl, (qc b1.out 0).trans rfl, (qc b1.out 1).trans rfl, (qc b1.out 2).trans rfl⟩ (fun hHeld => ?_)
           clear hK K
           refine norm_ (a' := ?_) ?_ ?_
           rotate_left
           ·show Act.put _ (some 28) _ = _
            simp only [Act.put, sA_, sB_, sC_, i64_w, i32_w]
            rfl
           exact norm_ (by simp only [zx, Act.put, sA_, sB_, sC_]) (hCont (v189, v196, v199) _ ⟨hHeld, (kr_ f5), (by (with_reducible repeat (first | apply Kd.qm | apply Kd.qn | apply Kd.qq)); exact Kd.zh d1.out (fun _ hk => ⟨hk.2, hk.1⟩)), (bk_ b0), (bk_ b1), (bk_ b2), (be3_ HB b6 b8 b9)⟩)
         rintro ⟨v189, v196, v199⟩ w53 ⟨hS_, h0_, h1_, h2_, h3_, h4_, h5_⟩
         have n0_ : qb (Kd.R k58 58 w53 w.heap.size (fun k_ => some k_ ≠ (v199 : Value).ownBlock ∧ k_ ≠ b3) v196 g1) := ⟨h0_⟩;have n1_ : qb (Kd.R k58 58 w53 w.heap.size (fun k_ => some k_ ≠ (v196 : Value).ownBlock ∧ k_ ≠ b3) v199 f9) := ⟨h1_⟩;have n2_ : qb (w53.heap[b4]? = some (.cells #[.int .i64 a0_0, .int .i64 a0_1, .slice A0_2 l0_2.length c0_2] 31 (0, 0))) := ⟨h2_⟩;have n3_ : qb (w53.heap[b3]? = some (.cells #[.int .i64 a1_0, .int .i64 a1_1, .bool a1_2] 58 (0, 0))) := ⟨h3_⟩;have n4_ : qb (w53.heap[b5]? = some (.cells #[.int .i64 0, .int .i64 0, .slice none 0 0] 31 (0, 0))) := ⟨h4_⟩;have n5_ : qb (Below w.heap.size w w53) := ⟨h5_⟩;clear b0;clear b1;clear b2;clear HB;clear h0_ h1_ h2_ h3_ h4_ h5_;have f5 := n0_;have d1 := n1_;have b0 := n2_;have b1 := n3_;have b2 := n4_;have HB := n5_;clear n0_ n1_ n2_ n3_ n4_ n5_;have hHeld : w53.cell? ⟨b4, 0, none⟩ = some (.int .i64 a0_0) ∧ w53.cell? ⟨b4, 1, none⟩ = some (.int .i64 a0_1) ∧ w53.cell? ⟨b4, 2, none⟩ = some (.slice A0_2 l0_2.length c0_2) ∧ w53.cell? ⟨b3, 0, none⟩ = some (.int .i64 a1_0) ∧ w53.cell? ⟨b3, 1, none⟩ = some (.int .i64 a1_1) ∧ w53.cell? ⟨b3, 2, none⟩ = some (.bool a1_2) := hS_;obtain ⟨Ao55, co55, eo55⟩ := Kd.zn d1.out
         (first | subst eo55 | (injection eo55 with f1_ f2_ f3_; have f4_ := f1_.symm; have f5_ := f3_.symm; clear f1_ f2_ f3_; subst f4_; subst f5_))
         refine norm_ (a' := ?_) ?_ ?_
         rotate_left
         ·simp only [zx, Act.put, sA_, sB_, sC_]
          rfl
         refine one_ (i := 8) (N := some 31) #[true, true, true, true, true, true, true, true, true, false] rfl rfl (zw HT_.out (by kernel_rfl)) (by decide) (fun K hK => ?_)
         refine Kd.R_append_rows_step k58 (w0 := w) w.heap.size (by rfl) (.tmp 28) (.tmp 30) 29 58 (.agg #[(.int .i64 0), (.int .i64 0), (.bool false)]) 24 rfl Try.underlying29 jg rfl (by decide) (by omega) v196 g1 f9 _ _ _ (fun k_ => some k_ ≠ (.slice Ao55 f9.length co55 : Value).ownBlock ∧ k_ ≠ b3) (fun _ => False) rfl rfl ?aO ?aR (fun _ _ h => h) (fun _ h => h.elim) ?aF ?aB ?aS ?aL ?_
         (case aR => repeat (first | exact (Kd.qw d1.out).2.2 | (with_reducible refine Kd.za ?_ _) | (with_reducible refine Kd.zb ?_ _) | (with_reducible refine Kd.zf ?_)))
         (case aB => exact (be3_ HB b6 b8 b9))
         (case aF => exact (fun k_ hk => ⟨Kd.fresh' (Kd.R_lt (kr_ d1)) k_ hk, Kd.freshB (g := b3) (o := .cells #[.int .i64 a1_0, .int .i64 a1_1, .bool a1_2] 58 (0, 0)) (bk_ b1) k_ hk⟩))
         (case aO => exact (kr_ f5))
         (case aS => exact (ql (be3_ HB b6 b8 b9)))
         (case aL => have := LMc41.out; omega)
         intro v202 w54 ho hb hg hat
         rw [← n5.out] at ho;have n0_ := qb.mk (zq (g := b4) (o := .cells #[.int .i64 a0_0, .int .i64 a0_1, .slice A0_2 l0_2.length c0_2] 31 (0, 0)) (bk_ b0) hg (Kd.R_ne f5.out b0.out (by decide)));have n1_ := qb.mk (zq (g := b3) (o := .cells #[.int .i64 a1_0, .int .i64 a1_1, .bool a1_2] 58 (0, 0)) (bk_ b1) hg (Kd.R_away f5.out (fun _ hk => hk.2)));have n2_ := qb.mk (zq (g := b5) (o := .cells #[.int .i64 0, .int .i64 0, .slice none 0 0] 31 (0, 0)) (bk_ b2) hg (Kd.R_ne f5.out b2.out (by decide)));have n3_ := qb.mk (Kd.R_after (ok := (fun k_ => k_ ≠ b3)) (by (with_reducible repeat (first | apply Kd.qm | apply Kd.qn | apply Kd.qq)); exact Kd.zh d1.out (fun _ hk => ⟨hk.2, hk.1⟩)) hg hat);have n4_ := qb.mk (hb);have n5_ := qb.mk (ho);clear b0;clear b1;clear b2;clear d1;clear HB;clear f5;have b0 := n0_;have b1 := n1_;have b2 := n2_;have d1 := n3_;have HB := n4_;have g3 := n5_;clear n0_ n1_ n2_ n3_ n4_ n5_;clear ho hb hg hat
         refine hK.out _ _ ⟨(qc b0.out 0).trans rfl, (qc b0.out 1).trans rfl, (qc b0.out 2).trans rfl, (qc b1.out 0).trans rfl, (qc b1.out 1).trans rfl, (qc b1.out 2).trans rfl⟩ (fun hHeld => ?_)
         clear hK K
         refine norm_ (a' := ?_) ?_ ?_
         rotate_left
         ·show Act.put _ (some 31) _ = _
          simp only [Act.put, sA_, sB_, sC_, i64_w, i32_w]
          rfl
         refine pure_ (i := 9) (N := some 6) (v := ?_) (a' := ?_) #[true, true, true, true, true, true, true, true, true, true] rfl rfl (qu HT_.out (by kernel_rfl)) (fun _ _ _ h => h) (Or.inl ⟨by rfl, ?_⟩) ?_ ?_
         rotate_left
         ·intro w'
          go_simp
          with_reducible rfl
         rotate_left
         ·simp only [Act.put, sA_, sB_, sC_, i64_w, i32_w]
          rfl
         refine done_ (je HT_.out (by kernel_rfl)) ?_
         try go_wp2
         have n0_ := qb.mk (Kd.qq d1.out);have n1_ := qb.mk (Kd.qq g3.out);have n2_ := qb.mk (qi b0.out);have n3_ := qb.mk (qi b1.out);have n4_ := qb.mk (qi b2.out);have n5_ := qb.mk (qe HB.out);clear d1;clear g3;clear b0;clear b1;clear b2;clear HB;have d1 := n0_;have g3 := n1_;have b0 := n2_;have b1 := n3_;have b2 := n4_;have HB := n5_;clear n0_ n1_ n2_ n3_ n4_ n5_;have q57 : (x5_1 : Int) ≤ ((l0_2.length : Int) : Int) := of_decide_eq_true (by first | (with_reducible assumption) | assumption);obtain ⟨i057, hi057, _, hsz57, _⟩ := info_parts jg;have hroom57 : l0_2.length ≤ c0_2 := HC0_2.out;have hC57 : Kd.C k58 _ A0_2 l0_2.length l0_2 := HR0_2.out;have q057 : (0 : Int) ≤ (x5_1 : Int) := of_decide_eq_true (by first | (with_reducible assumption) | assumption);have hcut57 := cut_from (P := Try.prog) 29 58 .i64 Try.underlying29 hi057 3 hsz57 A0_2 l0_2.length c0_2 x5_1 q057 q57;have hr57 := Kd.C_drop (m := (x5_1 : Int).toNat) (c := c0_2) hC57 (by omega) hroom57;obtain ⟨A57, hA57⟩ : ∃ A1, A1 = (if c0_2 = (x5_1 : Int).toNat then A0_2 else (A0_2 : Option Addr).map (·.add ((x5_1 : Int).toNat * 3))) := ⟨_, rfl⟩;obtain ⟨c57, hc57⟩ : ∃ c1, c1 = c0_2 - (x5_1 : Int).toNat := ⟨_, rfl⟩;have hy57 : d6.length = l0_2.length - (x5_1 : Int).toNat := (by rw [m6.out, List.length_drop] <;> omega);rw [show (l0_2).drop (x5_1 : Int).toNat = d6 from m6.out.symm] at hr57;replace hr57 : Kd.C k58 _ A57 d6.length d6 := (by rw [hA57]; exact hr57);rw [← hy57, ← hA57, ← hc57] at hcut57;have HR207 := qb.mk hr57;have HC207 := qb.mk (show d6.length ≤ c57 from by rw [hy57, hc57]; exact Nat.sub_le_sub_right hroom57 _);clear hr57 hC57 hroom57 hi057 hsz57 hc57;have KY57 := qb.mk hy57;have KA57 := qb.mk hA57;clear hy57 hA57;replace q57 := eq_true q57
         refine jf (n := 12) (S := fun w' => w'.cell? ⟨b4, 0, none⟩ = some (.int .i64 a0_0) ∧ w'.cell? ⟨b4, 1, none⟩ = some (.int .i64 a0_1) ∧ w'.cell? ⟨b4, 2, none⟩ = some (.slice A0_2 l0_2.length c0_2)) (ds := []) #[false, false, false, false, false, false, false, false, false, false, false, false] (by kernel_rfl) rfl rfl ⟨(qc b0.out 0).trans rfl, (qc b0.out 1).trans rfl, (qc b0.out 2).trans rfl⟩ (fun hHeld => ?_); refine zy spec_avClose.tab5 spec_avClose.bits5 (fun HT_ HW_ => ?_)
         generalize w54.drew = w56 at d1 g3 b0 b1 b2 HB HR207 hHeld ⊢
         refine pure_ (i := 0) (N := some 32) (v := ?_) (a' := ?_) #[true, false, false, false, false, false, false, false, false, false, false, false] rfl rfl (qu HT_.out (by kernel_rfl)) (fun _ _ _ h => h) (Or.inl ⟨by rfl, ?_⟩) ?_ ?_
         rotate_left
         ·intro w'
          go_simp
          with_reducible rfl
         rotate_left
         ·simp only [Act.put, sA_, sB_, sC_, i64_w, i32_w]
          rfl
         refine pure_ (i := 2) (N := some 34) (v := ?_) (a' := ?_) #[true, false, true, false, false, false, false, false, false, false, false, false] rfl rfl (qu HT_.out (by kernel_rfl)) (fun _ _ _ h => h) (Or.inl ⟨by rfl, ?_⟩) ?_ ?_
         rotate_left
         ·intro w'
          go_simp
          with_reducible rfl
         rotate_left
         ·simp only [Act.put, sA_, sB_, sC_, i64_w, i32_w]
          rfl
         refine pure_ (i := 4) (N := some 36) (v := ?_) (a' := ?_) #[true, false, true, false, true, false, false, false, false, false, false, false] rfl rfl (qu HT_.out (by kernel_rfl)) (fun _ _ _ h => h) (Or.inl ⟨by rfl, ?_⟩) ?_ ?_
         rotate_left
         ·intro w'
          go_simp
          with_reducible rfl
         rotate_left
         ·simp only [Act.put, sA_, sB_, sC_, i64_w, i32_w]
          rfl
         refine pure_ (i := 5) (N := some 37) (v := ?_) (a' := ?_) #[true, false, true, false, true, true, false, false, false, false, false, false] rfl rfl (qu HT_.out (by kernel_rfl)) (fun _ _ _ h => h) (Or.inl ⟨by rfl, ?_⟩) ?_ ?_
         rotate_left
         ·intro w'
          go_simp
          with_reducible rfl
         rotate_left
         ·simp only [Act.put, sA_, sB_, sC_, i64_w, i32_w]
          rfl
         refine pure_ (i := 7) (N := some 39) (v := ?_) (a' := ?_) #[true, false, true, false, true, true, false, true, false, false, false, false] rfl rfl (qu HT_.out (by kernel_rfl)) (fun _ _ _ h => h) (Or.inl ⟨by rfl, ?_⟩) ?_ ?_
         rotate_left
         ·intro w'
          go_simp
          with_reducible rfl
         rotate_left
         ·simp only [Act.put, sA_, sB_, sC_, i64_w, i32_w]
          rfl
         refine take_ (i := 1) (N := some 33) (v := ?_) (a' := ?_) #[true, true, true, false, true, true, false, true, false, false, false, false] rfl rfl (zg HT_.out HW_.out (by kernel_rfl)) (fun _ _ _ h => h) (Or.inl ⟨by rfl, ?_⟩) hHeld ?_ ?_
         rotate_left
         ·rintro w' ⟨s0, s1, s2⟩
          go_simp
          with_reducible rfl
         rotate_left
         ·simp only [Act.put, sA_, sB_, sC_, i64_w, i32_w]
          rfl
         refine take_ (i := 3) (N := some 35) (v := ?_) (a' := ?_) #[true, true, true, true, true, true, false, true, false, false, false, false] rfl rfl (zg HT_.out HW_.out (by kernel_rfl)) (fun _ _ _ h => h) (Or.inl ⟨by rfl, ?_⟩) hHeld ?_ ?_
         rotate_left
         ·rintro w' ⟨s0, s1, s2⟩
          go_simp
          with_reducible rfl
         rotate_left
         ·simp only [Act.put, sA_, sB_, sC_, i64_w, i32_w]
          rfl
         refine take_ (i := 6) (N := some 38) (v := ?_) (a' := ?_) #[true, true, true, true, true, true, true, true, false, false, false, false] rfl rfl (zg HT_.out HW_.out (by kernel_rfl)) (fun _ _ _ h => h) (Or.inl ⟨by rfl, ?_⟩) hHeld ?_ ?_
         rotate_left
         ·rintro w' ⟨s0, s1, s2⟩
          go_simp
          with_reducible rfl
         rotate_left
         ·simp only [Act.put, sA_, sB_, sC_, i64_w, i32_w]
          rfl
         refine pure_ (i := 8) (N := some 40) (v := ?_) (a' := ?_) #[true, true, true, true, true, true, true, true, true, false, false, false] rfl rfl (qu HT_.out (by kernel_rfl)) (fun _ _ _ h => h) (Or.inl ⟨by rfl, ?_⟩) ?_ ?_
         rotate_left
         ·intro w'
          go_simp
          with_reducible rfl
         rotate_left
         ·simp only [Act.put, sA_, sB_, sC_, i64_w, i32_w]
          rfl
         refine one_ (i := 9) (N := some 41) #[true, true, true, true, true, true, true, true, true, true, false, false] rfl rfl (zw HT_.out (by kernel_rfl)) (by decide) (fun K hK => ?_)
         refine Kd.R_append_rows_step k58 (w0 := w) w.heap.size (by rfl) (.tmp 36) (.tmp 40) 29 58 (.agg #[(.int .i64 0), (.int .i64 0), (.bool false)]) 24 rfl Try.underlying29 jg rfl (by decide) (by omega) v202 f7 d6 _ _ _ (fun k_ => some k_ ≠ (.slice Ao55 f9.length co55 : Value).ownBlock ∧ k_ ≠ b3) (fun _ => False) rfl rfl ?aO ?aR (fun _ _ h => h) (fun _ h => h.elim) ?aF ?aB ?aS ?aL ?_
         (case aR => repeat (first | exact (Kd.qz HR207.out HB.out) | (with_reducible refine Kd.za ?_ _) | (with_reducible refine Kd.zb ?_ _) | (with_reducible refine Kd.zf ?_)))
         (case aB => exact (be3_ HB b6 b8 b9))
         (case aF => exact (fun k_ hk => ⟨Kd.fresh' (Kd.R_lt (kr_ d1)) k_ hk, Kd.freshB (g := b3) (o := .cells #[.int .i64 a1_0, .int .i64 a1_1, .bool a1_2] 58 (0, 0)) (bk_ b1) k_ hk⟩))
         (case aO => exact (kr_ g3))
         (case aS => exact (ql (be3_ HB b6 b8 b9)))
         (case aL => have := LMc44.out; omega)
         intro v209 w58 ho hb hg hat
         rw [← n6.out] at ho;have n0_ := qb.mk (zq (g := b4) (o := .cells #[.int .i64 a0_0, .int .i64 a0_1, .slice A0_2 l0_2.length c0_2] 31 (0, 0)) (bk_ b0) hg (Kd.R_ne g3.out b0.out (by decide)));have n1_ := qb.mk (zq (g := b3) (o := .cells #[.int .i64 a1_0, .int .i64 a1_1, .bool a1_2] 58 (0, 0)) (bk_ b1) hg (Kd.R_away g3.out (fun _ hk => hk.2)));have n2_ := qb.mk (zq (g := b5) (o := .cells #[.int .i64 0, .int .i64 0, .slice none 0 0] 31 (0, 0)) (bk_ b2) hg (Kd.R_ne g3.out b2.out (by decide)));have n3_ := qb.mk (Kd.R_after (ok := (fun k_ => k_ ≠ b3)) (kr_ d1) hg hat);have n4_ := qb.mk (hb);have n5_ := qb.mk (ho);clear b0;clear b1;clear b2;clear d1;clear HB;clear g3;have b0 := n0_;have b1 := n1_;have b2 := n2_;have d1 := n3_;have HB := n4_;have m7 := n5_;clear n0_ n1_ n2_ n3_ n4_ n5_;clear ho hb hg hat;obtain ⟨Ao59, co59, eo59⟩ := Kd.zn m7.out
         (first | subst eo59 | (injection eo59 with f1_ f2_ f3_; have f4_ := f1_.symm; have f5_ := f3_.symm; clear f1_ f2_ f3_; subst f4_; subst f5_))
         refine hK.out _ _ ⟨(qc b0.out 0).trans rfl, (qc b0.out 1).trans rfl, (qc b0.out 2).trans rfl⟩ (fun hHeld => ?_)
         clear hK K
         refine norm_ (a' := ?_) ?_ ?_
         rotate_left
         ·show Act.put _ (some 41) _ = _
          simp only [Act.put, sA_, sB_, sC_, i64_w, i32_w]
          rfl
         refine pure_ (i := 10) (N := some 42) (v := ?_) (a' := ?_) #[true, true, true, true, true, true, true, true, true, true, true, false] rfl rfl (qu HT_.out (by kernel_rfl)) (fun _ _ _ h => h) (Or.inl ⟨by rfl, ?_⟩) ?_ ?_
         rotate_left
         ·intro w'
          go_simp
          with_reducible rfl
         rotate_left
         ·simp only [Act.put, sA_, sB_, sC_, i64_w, i32_w]
          rfl
         refine one_ (i := 11) (N := none) #[true, true, true, true, true, true, true, true, true, true, true, true] rfl rfl (zw HT_.out (by kernel_rfl)) (by decide) (fun K hK => ?_)
         have hs60 : w58.cell? ⟨b5, 0, none⟩ = some (.int .i64 0) := (qc b2.out 0).trans rfl;have hfs60 := qj b2.out 0;have hns60_0 := b7.out;have hns60_1 := d9.out;have hms60_0 := d8.out;have hms60_1 := f3.out;have hs61 : w58.cell? ⟨b5, 1, none⟩ = some (.int .i64 0) := (qc b2.out 1).trans rfl;have hfs61 := qj b2.out 1;have hns61_0 := b7.out;have hns61_1 := d9.out;have hms61_0 := d8.out;have hms61_1 := f3.out;have hs62 : w58.cell? ⟨b5, 2, none⟩ = some (.slice none 0 0) := (qc b2.out 2).trans rfl;have hfs62 := qj b2.out 2;have hns62_0 := b7.out;have hns62_1 := d9.out;have hms62_0 := d8.out;have hms62_1 := f3.out
         refine skip_ (w1 := ?_) (by rfl) rfl ?_ ?_
         rotate_left
         ·go_simp
          rfl
         refine hK.out _ _ ⟨((cell_far (p := ⟨b5, _, none⟩) b7.out _).trans (((cell_far (p := ⟨b5, _, none⟩) b7.out _).trans (((cell_far (p := ⟨b5, _, none⟩) b7.out _).trans (hHeld.1)))))), ((cell_far (p := ⟨b5, _, none⟩) b7.out _).trans (((cell_far (p := ⟨b5, _, none⟩) b7.out _).trans (((cell_far (p := ⟨b5, _, none⟩) b7.out _).trans (hHeld.2.1)))))), ((cell_far (p := ⟨b5, _, none⟩) b7.out _).trans (((cell_far (p := ⟨b5, _, none⟩) b7.out _).trans (((cell_far (p := ⟨b5, _, none⟩) b7.out _).trans (hHeld.2.2))))))⟩ (fun hHeld => ?_)
         clear hK K
         refine done_ (je HT_.out (by kernel_rfl)) ?_
         try go_wp2
         refine bodyPost_ret (results_cell_row rfl _ _ b5 31 #[.int .i64 a0_0, .int .i64 a0_1, .slice Ao59 m9.length co59] (0, 0) _ rfl (by (with_reducible repeat (first | refine qh ?_ _ | refine qi ?_ | refine qg ?_ _)); refine zj (cs := #[.int .i64 a0_0, .int .i64 a0_1, .slice none 0 0]) ?_ 2 _ rfl; (with_reducible repeat (first | refine qh ?_ _ | refine qi ?_ | refine qg ?_ _)); refine zj (cs := #[.int .i64 a0_0, .int .i64 0, .slice none 0 0]) ?_ 1 _ rfl; (with_reducible repeat (first | refine qh ?_ _ | refine qi ?_ | refine qg ?_ _)); refine zj (cs := #[.int .i64 0, .int .i64 0, .slice none 0 0]) ?_ 0 _ rfl; (with_reducible repeat (first | refine qh ?_ _ | refine qi ?_ | refine qg ?_ _)); exact b2.out) Try.underlying31 rfl (by kernel_rfl)) rfl ?_
         exact ⟨_, by first | rfl | (simp [qt, qr] <;> rfl) | (simp [*, qt, qr] <;> rfl), by (with_reducible repeat (first | apply Kd.qm | apply Kd.qn | apply Kd.qq)); exact Kd.zh (Kd.R_far (p := ⟨b5, 2, none⟩) (Kd.R_far (p := ⟨b5, 1, none⟩) (Kd.R_far (p := ⟨b5, 0, none⟩) (Kd.R_types m7.out b2.out (by decide)) (fun _ hk => hk.2) (.int .i64 a0_0)) (fun _ hk => hk.2) (.int .i64 a0_1)) (fun _ hk => hk.2) (.slice Ao59 m9.length co59)) (fun _ hk => trivial), be3_ HB b6 b8 b9⟩
        ·rw [if_neg c44] at H
         exact absurd H (by simp)
       ·rw [if_neg c41] at H
        exact absurd H (by simp)
      ·rw [if_neg c40] at H
       exact absurd H (by simp)
     ·rw [if_neg c39] at H
      exact absurd H (by simp)
    ·rw [if_neg c38] at H
     exact absurd H (by simp)
end Go.Proofs.Ytpedofomfhmnfaa.PFnExactNeededBlocks
