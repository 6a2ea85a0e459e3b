/- Cut by wip/cut.py out of the texts of this claim (printed by the kit's printer, or this session's own): what the row's theorem does not reach is struck. Not trusted: Lean checks it. -/
import Derived.Test.YtpedofomfhmnfaaZFnExactNeededBlocksPx0
import Derived.Test.YtpedofomfhmnfaaZFnExactNeededBlocksPx2
namespace Go.Proofs.Ytpedofomfhmnfaa.PFnExactNeededBlocks
open Go.RowKit Go.Proofs.YtpedofomfhmnfaaW.PrintWords Go.Proofs.YtpedofomfhmnfaaW.PrintLast Go.Proofs.YtpedofomfhmnfaaW.PrintMore
attribute [local go_sem] max2_int min2_int max_two min_two max_three min_three max_four min_four
set_option linter.unusedVariables false
set_option linter.unusedSimpArgs false
def laws_eqCity.f (k : Nat) (a0_0 : Int) (a0_1 : Int) (l0_2 : List (S58)) (a1_0 : Int) (a1_1 : Int) (l1_2 : List (S58)) : Option (Bool) := if a0_0 = a1_0 then (if a0_1 = a1_1 then ((laws_eqBlockS.f k l0_2 l1_2).bind fun t132 => (if t132 = true then (some true) else (some false))) else (some false)) else (some false)
theorem laws_eqCity.mono : ∀ a0 a1 a2 a3 a4 a5 k, LeO (laws_eqCity.f k a0 a1 a2 a3 a4 a5) (laws_eqCity.f (k + 1) a0 a1 a2 a3 a4 a5) := by
 intro a0 a1 a2 a3 a4 a5 k
 unfold laws_eqCity.f
 repeat' first
   | (with_reducible exact laws_eqBlockS.mono _ _ _)
   | (with_reducible exact LeO.refl _)
   | (with_reducible exact LeO.none _)
   | (with_reducible refine LeO.ite ?_ ?_)
   | (with_reducible refine LeO.bind ?_ (fun _ => ?_))
   | exact laws_eqBlockS.mono _ _ _
   | exact LeO.none _
   | refine LeO.ite ?_ ?_
   | refine LeO.bind ?_ (fun _ => ?_)
set_option maxHeartbeats 8000000 in
set_option maxRecDepth 100000 in
theorem laws_eqCity.calls (k : Nat) (a0_0 : Int) (a0_1 : Int) (A0_2 : Option Addr) (c0_2 : Nat) (l0_2 : List (S58)) (a1_0 : Int) (a1_1 : Int) (A1_2 : Option Addr) (c1_2 : Nat) (l1_2 : List (S58)) (r : Bool) (w : World) (hr0_2 : Kd.C k58 w A0_2 l0_2.length l0_2) (hc0_2 : l0_2.length ≤ c0_2) (hr1_2 : Kd.C k58 w A1_2 l1_2.length l1_2) (hc1_2 : l1_2.length ≤ c1_2) (h : laws_eqCity.f k a0_0 a0_1 l0_2 a1_0 a1_1 l1_2 = some r) :
  Calls Try.prog 14 #[.agg #[.int .i64 a0_0, .int .i64 a0_1, .slice A0_2 l0_2.length c0_2], .agg #[.int .i64 a1_0, .int .i64 a1_1, .slice A1_2 l1_2.length c1_2]] w fun e w' => e = .returned (.bool r) ∧ Below w.heap.size w w' := by
 have hu31 := Try.underlying31;have HR0_2 := qb.mk hr0_2;have HC0_2 := qb.mk hc0_2;clear hr0_2 hc0_2;have HR1_2 := qb.mk hr1_2;have HC1_2 := qb.mk hc1_2;clear hr1_2 hc1_2;have HB := qb.mk (Below.refl w.heap.size w);have H : (if a0_0 = a1_0 then (if a0_1 = a1_1 then ((laws_eqBlockS.f k l0_2 l1_2).bind fun d0 => (if d0 = true then (some true) else (some false))) else (some false)) else (some false)) = some r := h;clear h
 by_cases c3 : a0_0 = a1_0
 ·rw [if_pos c3] at H
  have c3b0 : (a0_0 == a1_0) = true := beq_iff_eq.mpr c3;have c3b1 : (a0_0 != a1_0) = false := bne_eq_false_iff_eq.mpr c3;clear c3
  by_cases c4 : a0_1 = a1_1
  ·rw [if_pos c4] at H
   have c4b0 : (a0_1 == a1_1) = true := beq_iff_eq.mpr c4;have c4b1 : (a0_1 != a1_1) = false := bne_eq_false_iff_eq.mpr c4;clear c4;replace H := Option.bind_eq_some_iff.mp H;obtain ⟨d0, A50, H⟩ := H;replace H : (if d0 = true then (some true) else (some false)) = some r := H;have A5 := qb.mk A50;clear A50
   by_cases c6 : d0 = true
   ·subst c6
    have H1 : (some true) = some r := by rw [if_pos rfl] at H; exact H
    clear H;have H := H1;clear H1;obtain rfl := Option.some.inj H
    go_enter Try.func14, Try.ntmps14
    go_wp2_with (first | ((with_reducible refine ze (N := 2) rfl ?_); refine zc ?hg (N := 2) ?hd (cs := #[.int .i64 a0_0, .int .i64 a0_1, .slice A0_2 l0_2.length c0_2]) (t := 31) ?hr ?_; (case hd => rfl); (case hg => rfl); (case hr => first | (go_simp; done) | (go_simp; rfl)); intro b1 hg w7 hbox hb; have n0_ := qb.mk (qp (be0_ HB) hb); have n1_ := qb.mk (hbox); have n2_ := qb.mk ((by rw [hg]; exact (ql (be0_ HB)) : w.heap.size ≤ b1)); have n3_ := qb.mk ((by rw [hg]; exact (ql (be0_ HB)) : w.heap.size ≤ b1)); clear HB; have HB := n0_; have b0 := n1_; have b8 := n2_; have b4 := n3_; clear n0_ n1_ n2_ n3_; clear hb hbox hg) | ((with_reducible refine ze (N := 3) rfl ?_); refine zc ?hg (N := 3) ?hd (cs := #[.int .i64 a1_0, .int .i64 a1_1, .slice A1_2 l1_2.length c1_2]) (t := 31) ?hr ?_; (case hd => rfl); (case hg => rfl); (case hr => first | (go_simp; done) | (go_simp; rfl)); intro b2 hg w8 hbox hb; have n0_ := qb.mk (qo (g := b1) (o := .cells #[.int .i64 a0_0, .int .i64 a0_1, .slice A0_2 l0_2.length c0_2] 31 (0, 0)) (bk_ b0) hb); have n1_ := qb.mk (qp (be1_ HB b4) hb); have n2_ := qb.mk (hbox); have n3_ := qb.mk ((by rw [hg]; exact (ql (be1_ HB b4)) : w.heap.size ≤ b2)); have n4_ := qb.mk ((by rw [hg]; exact (ql (be1_ HB b4)) : w.heap.size ≤ b2)); have n5_ := qb.mk ((by rw [hg]; exact Nat.ne_of_lt (zd (g := b1) (o := .cells #[.int .i64 a0_0, .int .i64 a0_1, .slice A0_2 l0_2.length c0_2] 31 (0, 0)) (bk_ b0)) : b1 ≠ b2)); have n6_ := qb.mk ((by rw [hg]; exact Nat.ne_of_gt (zd (g := b1) (o := .cells #[.int .i64 a0_0, .int .i64 a0_1, .slice A0_2 l0_2.length c0_2] 31 (0, 0)) (bk_ b0)) : b2 ≠ b1)); clear b0; clear HB; have b0 := n0_; have HB := n1_; have b3 := n2_; have b9 := n3_; have b7 := n4_; have b5 := n5_; have b6 := n6_; clear n0_ n1_ n2_ n3_ n4_ n5_ n6_; clear hb hbox hg; have hnb9 := b5.out; have hnc9 := b6.out; have hcz10_0 : w8.cell? ⟨b1, 0, none⟩ = some (.int .i64 a0_0) := (qc b0.out 0).trans rfl; have hcz10_1 : w8.cell? ⟨b1, 1, none⟩ = some (.int .i64 a0_1) := (qc b0.out 1).trans rfl; have hcz10_2 : w8.cell? ⟨b1, 2, none⟩ = some (.slice A0_2 l0_2.length c0_2) := (qc b0.out 2).trans rfl; have hfz10_0 := qj b0.out 0; have hfz10_1 := qj b0.out 1; have hfz10_2 := qj b0.out 2; have hcz11_0 : w8.cell? ⟨b2, 0, none⟩ = some (.int .i64 a1_0) := (qc b3.out 0).trans rfl; have hcz11_1 : w8.cell? ⟨b2, 1, none⟩ = some (.int .i64 a1_1) := (qc b3.out 1).trans rfl; have hcz11_2 : w8.cell? ⟨b2, 2, none⟩ = some (.slice A1_2 l1_2.length c1_2) := (qc b3.out 2).trans rfl; have hfz11_0 := qj b3.out 0; have hfz11_1 := qj b3.out 1; have hfz11_2 := qj b3.out 2) | ((with_reducible refine qx (f := 20) rfl ?_); refine zl (some 19) rfl rfl Try.func20 (by kernel_rfl) rfl #[.slice A0_2 l0_2.length c0_2, .slice A1_2 l1_2.length c1_2] rfl (by (try simp only [List.map_toArray, List.map_cons, List.map_nil]); first | done | rfl | (simp only [List.length_drop, List.length_take]; rfl)) ?_; (with_reducible refine (laws_eqBlockS.calls k _ _ l0_2 _ _ l1_2 true _ ?side1 ?side2 ?side3 ?side4 A5.out).mono ?_); (case side1 => repeat (first | exact (Kd.qz HR0_2.out HB.out) | (with_reducible refine Kd.za ?_ _) | (with_reducible refine Kd.zb ?_ _) | (with_reducible refine Kd.zf ?_))); (case side2 => exact HC0_2.out); (case side3 => repeat (first | exact (Kd.qz HR1_2.out HB.out) | (with_reducible refine Kd.za ?_ _) | (with_reducible refine Kd.zb ?_ _) | (with_reducible refine Kd.zf ?_))); (case side4 => exact HC1_2.out); rintro e w12 ⟨rfl, hb⟩; refine ⟨_, rfl, ?_⟩; have n0_ := qb.mk (qo (g := b1) (o := .cells #[.int .i64 a0_0, .int .i64 a0_1, .slice A0_2 l0_2.length c0_2] 31 (0, 0)) (bk_ b0) hb); have n1_ := qb.mk (qo (g := b2) (o := .cells #[.int .i64 a1_0, .int .i64 a1_1, .slice A1_2 l1_2.length c1_2] 31 (0, 0)) (bk_ b3) hb); have n2_ := qb.mk (qp (be2_ HB b4 b7) hb); clear b0; clear b3; clear HB; have b0 := n0_; have b3 := n1_; have HB := n2_; clear n0_ n1_ n2_; (try clear hb); (try clear hb2); (try clear hk); (try clear hi)))
    go_ret
    exact ⟨by first | rfl | (simp [qt, qr] <;> rfl) | (simp [*, qt, qr] <;> rfl), be2_ HB b4 b7⟩
   ·replace c6 := Bool.eq_false_iff.mpr c6
    subst c6;have H1 : (some false) = some r := by rw [if_neg (show ¬ (false = true) by decide)] at H; exact H
    clear H;have H := H1;clear H1;obtain rfl := Option.some.inj H
    go_enter Try.func14, Try.ntmps14
    go_wp2_with (first | ((with_reducible refine ze (N := 2) rfl ?_); refine zc ?hg (N := 2) ?hd (cs := #[.int .i64 a0_0, .int .i64 a0_1, .slice A0_2 l0_2.length c0_2]) (t := 31) ?hr ?_; (case hd => rfl); (case hg => rfl); (case hr => first | (go_simp; done) | (go_simp; rfl)); intro b1 hg w13 hbox hb; have n0_ := qb.mk (qp (be0_ HB) hb); have n1_ := qb.mk (hbox); have n2_ := qb.mk ((by rw [hg]; exact (ql (be0_ HB)) : w.heap.size ≤ b1)); have n3_ := qb.mk ((by rw [hg]; exact (ql (be0_ HB)) : w.heap.size ≤ b1)); clear HB; have HB := n0_; have b0 := n1_; have b8 := n2_; have b4 := n3_; clear n0_ n1_ n2_ n3_; clear hb hbox hg) | ((with_reducible refine ze (N := 3) rfl ?_); refine zc ?hg (N := 3) ?hd (cs := #[.int .i64 a1_0, .int .i64 a1_1, .slice A1_2 l1_2.length c1_2]) (t := 31) ?hr ?_; (case hd => rfl); (case hg => rfl); (case hr => first | (go_simp; done) | (go_simp; rfl)); intro b2 hg w14 hbox hb; have n0_ := qb.mk (qo (g := b1) (o := .cells #[.int .i64 a0_0, .int .i64 a0_1, .slice A0_2 l0_2.length c0_2] 31 (0, 0)) (bk_ b0) hb); have n1_ := qb.mk (qp (be1_ HB b4) hb); have n2_ := qb.mk (hbox); have n3_ := qb.mk ((by rw [hg]; exact (ql (be1_ HB b4)) : w.heap.size ≤ b2)); have n4_ := qb.mk ((by rw [hg]; exact (ql (be1_ HB b4)) : w.heap.size ≤ b2)); have n5_ := qb.mk ((by rw [hg]; exact Nat.ne_of_lt (zd (g := b1) (o := .cells #[.int .i64 a0_0, .int .i64 a0_1, .slice A0_2 l0_2.length c0_2] 31 (0, 0)) (bk_ b0)) : b1 ≠ b2)); have n6_ := qb.mk ((by rw [hg]; exact Nat.ne_of_gt (zd (g := b1) (o := .cells #[.int .i64 a0_0, .int .i64 a0_1, .slice A0_2 l0_2.length c0_2] 31 (0, 0)) (bk_ b0)) : b2 ≠ b1)); clear b0; clear HB; have b0 := n0_; have HB := n1_; have b3 := n2_; have b9 := n3_; have b7 := n4_; have b5 := n5_; have b6 := n6_; clear n0_ n1_ n2_ n3_ n4_ n5_ n6_; clear hb hbox hg; have hnb15 := b5.out; have hnc15 := b6.out; have hcz16_0 : w14.cell? ⟨b1, 0, none⟩ = some (.int .i64 a0_0) := (qc b0.out 0).trans rfl; have hcz16_1 : w14.cell? ⟨b1, 1, none⟩ = some (.int .i64 a0_1) := (qc b0.out 1).trans rfl; have hcz16_2 : w14.cell? ⟨b1, 2, none⟩ = some (.slice A0_2 l0_2.length c0_2) := (qc b0.out 2).trans rfl; have hfz16_0 := qj b0.out 0; have hfz16_1 := qj b0.out 1; have hfz16_2 := qj b0.out 2; have hcz17_0 : w14.cell? ⟨b2, 0, none⟩ = some (.int .i64 a1_0) := (qc b3.out 0).trans rfl; have hcz17_1 : w14.cell? ⟨b2, 1, none⟩ = some (.int .i64 a1_1) := (qc b3.out 1).trans rfl; have hcz17_2 : w14.cell? ⟨b2, 2, none⟩ = some (.slice A1_2 l1_2.length c1_2) := (qc b3.out 2).trans rfl; have hfz17_0 := qj b3.out 0; have hfz17_1 := qj b3.out 1; have hfz17_2 := qj b3.out 2) | ((with_reducible refine qx (f := 20) rfl ?_); refine zl (some 19) rfl rfl Try.func20 (by kernel_rfl) rfl #[.slice A0_2 l0_2.length c0_2, .slice A1_2 l1_2.length c1_2] rfl (by (try simp only [List.map_toArray, List.map_cons, List.map_nil]); first | done | rfl | (simp only [List.length_drop, List.length_take]; rfl)) ?_; (with_reducible refine (laws_eqBlockS.calls k _ _ l0_2 _ _ l1_2 false _ ?side1 ?side2 ?side3 ?side4 A5.out).mono ?_); (case side1 => repeat (first | exact (Kd.qz HR0_2.out HB.out) | (with_reducible refine Kd.za ?_ _) | (with_reducible refine Kd.zb ?_ _) | (with_reducible refine Kd.zf ?_))); (case side2 => exact HC0_2.out); (case side3 => repeat (first | exact (Kd.qz HR1_2.out HB.out) | (with_reducible refine Kd.za ?_ _) | (with_reducible refine Kd.zb ?_ _) | (with_reducible refine Kd.zf ?_))); (case side4 => exact HC1_2.out); rintro e w18 ⟨rfl, hb⟩; refine ⟨_, rfl, ?_⟩; have n0_ := qb.mk (qo (g := b1) (o := .cells #[.int .i64 a0_0, .int .i64 a0_1, .slice A0_2 l0_2.length c0_2] 31 (0, 0)) (bk_ b0) hb); have n1_ := qb.mk (qo (g := b2) (o := .cells #[.int .i64 a1_0, .int .i64 a1_1, .slice A1_2 l1_2.length c1_2] 31 (0, 0)) (bk_ b3) hb); have n2_ := qb.mk (qp (be2_ HB b4 b7) hb); clear b0; clear b3; clear HB; have b0 := n0_; have b3 := n1_; have HB := n2_; clear n0_ n1_ n2_; (try clear hb); (try clear hb2); (try clear hk); (try clear hi)))
    go_ret
    exact ⟨by first | rfl | (simp [qt, qr] <;> rfl) | (simp [*, qt, qr] <;> rfl), be2_ HB b4 b7⟩
  ·rw [if_neg c4] at H
   have c4b0 : (a0_1 == a1_1) = false := beq_eq_false_iff_ne.mpr c4;have c4b1 : (a0_1 != a1_1) = true := bne_iff_ne.mpr c4;obtain rfl := Option.some.inj H
   go_enter Try.func14, Try.ntmps14
   go_wp2_with (first | ((with_reducible refine ze (N := 2) rfl ?_); refine zc ?hg (N := 2) ?hd (cs := #[.int .i64 a0_0, .int .i64 a0_1, .slice A0_2 l0_2.length c0_2]) (t := 31) ?hr ?_; (case hd => rfl); (case hg => rfl); (case hr => first | (go_simp; done) | (go_simp; rfl)); intro b1 hg w19 hbox hb; have n0_ := qb.mk (qp (be0_ HB) hb); have n1_ := qb.mk (hbox); have n2_ := qb.mk ((by rw [hg]; exact (ql (be0_ HB)) : w.heap.size ≤ b1)); have n3_ := qb.mk ((by rw [hg]; exact (ql (be0_ HB)) : w.heap.size ≤ b1)); clear HB; have HB := n0_; have b0 := n1_; have b8 := n2_; have b4 := n3_; clear n0_ n1_ n2_ n3_; clear hb hbox hg) | ((with_reducible refine ze (N := 3) rfl ?_); refine zc ?hg (N := 3) ?hd (cs := #[.int .i64 a1_0, .int .i64 a1_1, .slice A1_2 l1_2.length c1_2]) (t := 31) ?hr ?_; (case hd => rfl); (case hg => rfl); (case hr => first | (go_simp; done) | (go_simp; rfl)); intro b2 hg w20 hbox hb; have n0_ := qb.mk (qo (g := b1) (o := .cells #[.int .i64 a0_0, .int .i64 a0_1, .slice A0_2 l0_2.length c0_2] 31 (0, 0)) (bk_ b0) hb); have n1_ := qb.mk (qp (be1_ HB b4) hb); have n2_ := qb.mk (hbox); have n3_ := qb.mk ((by rw [hg]; exact (ql (be1_ HB b4)) : w.heap.size ≤ b2)); have n4_ := qb.mk ((by rw [hg]; exact (ql (be1_ HB b4)) : w.heap.size ≤ b2)); have n5_ := qb.mk ((by rw [hg]; exact Nat.ne_of_lt (zd (g := b1) (o := .cells #[.int .i64 a0_0, .int .i64 a0_1, .slice A0_2 l0_2.length c0_2] 31 (0, 0)) (bk_ b0)) : b1 ≠ b2)); have n6_ := qb.mk ((by rw [hg]; exact Nat.ne_of_gt (zd (g := b1) (o := .cells #[.int .i64 a0_0, .int .i64 a0_1, .slice A0_2 l0_2.length c0_2] 31 (0, 0)) (bk_ b0)) : b2 ≠ b1)); clear b0; clear HB; have b0 := n0_; have HB := n1_; have b3 := n2_; have b9 := n3_; have b7 := n4_; have b5 := n5_; have b6 := n6_; clear n0_ n1_ n2_ n3_ n4_ n5_ n6_; clear hb hbox hg; have hnb21 := b5.out; have hnc21 := b6.out; have hcz22_0 : w20.cell? ⟨b1, 0, none⟩ = some (.int .i64 a0_0) := (qc b0.out 0).trans rfl; have hcz22_1 : w20.cell? ⟨b1, 1, none⟩ = some (.int .i64 a0_1) := (qc b0.out 1).trans rfl; have hcz22_2 : w20.cell? ⟨b1, 2, none⟩ = some (.slice A0_2 l0_2.length c0_2) := (qc b0.out 2).trans rfl; have hfz22_0 := qj b0.out 0; have hfz22_1 := qj b0.out 1; have hfz22_2 := qj b0.out 2; have hcz23_0 : w20.cell? ⟨b2, 0, none⟩ = some (.int .i64 a1_0) := (qc b3.out 0).trans rfl; have hcz23_1 : w20.cell? ⟨b2, 1, none⟩ = some (.int .i64 a1_1) := (qc b3.out 1).trans rfl; have hcz23_2 : w20.cell? ⟨b2, 2, none⟩ = some (.slice A1_2 l1_2.length c1_2) := (qc b3.out 2).trans rfl; have hfz23_0 := qj b3.out 0; have hfz23_1 := qj b3.out 1; have hfz23_2 := qj b3.out 2))
   go_ret
   exact ⟨by first | rfl | (simp [qt, qr] <;> rfl) | (simp [*, qt, qr] <;> rfl), be2_ HB b4 b7⟩
 ·rw [if_neg c3] at H
  have c3b0 : (a0_0 == a1_0) = false := beq_eq_false_iff_ne.mpr c3;have c3b1 : (a0_0 != a1_0) = true := bne_iff_ne.mpr c3;obtain rfl := Option.some.inj H
  go_enter Try.func14, Try.ntmps14
  go_wp2_with (first | ((with_reducible refine ze (N := 2) rfl ?_); refine zc ?hg (N := 2) ?hd (cs := #[.int .i64 a0_0, .int .i64 a0_1, .slice A0_2 l0_2.length c0_2]) (t := 31) ?hr ?_; (case hd => rfl); (case hg => rfl); (case hr => first | (go_simp; done) | (go_simp; rfl)); intro b1 hg w24 hbox hb; have n0_ := qb.mk (qp (be0_ HB) hb); have n1_ := qb.mk (hbox); have n2_ := qb.mk ((by rw [hg]; exact (ql (be0_ HB)) : w.heap.size ≤ b1)); have n3_ := qb.mk ((by rw [hg]; exact (ql (be0_ HB)) : w.heap.size ≤ b1)); clear HB; have HB := n0_; have b0 := n1_; have b8 := n2_; have b4 := n3_; clear n0_ n1_ n2_ n3_; clear hb hbox hg) | ((with_reducible refine ze (N := 3) rfl ?_); refine zc ?hg (N := 3) ?hd (cs := #[.int .i64 a1_0, .int .i64 a1_1, .slice A1_2 l1_2.length c1_2]) (t := 31) ?hr ?_; (case hd => rfl); (case hg => rfl); (case hr => first | (go_simp; done) | (go_simp; rfl)); intro b2 hg w25 hbox hb; have n0_ := qb.mk (qo (g := b1) (o := .cells #[.int .i64 a0_0, .int .i64 a0_1, .slice A0_2 l0_2.length c0_2] 31 (0, 0)) (bk_ b0) hb); have n1_ := qb.mk (qp (be1_ HB b4) hb); have n2_ := qb.mk (hbox); have n3_ := qb.mk ((by rw [hg]; exact (ql (be1_ HB b4)) : w.heap.size ≤ b2)); have n4_ := qb.mk ((by rw [hg]; exact (ql (be1_ HB b4)) : w.heap.size ≤ b2)); have n5_ := qb.mk ((by rw [hg]; exact Nat.ne_of_lt (zd (g := b1) (o := .cells #[.int .i64 a0_0, .int .i64 a0_1, .slice A0_2 l0_2.length c0_2] 31 (0, 0)) (bk_ b0)) : b1 ≠ b2)); have n6_ := qb.mk ((by rw [hg]; exact Nat.ne_of_gt (zd (g := b1) (o := .cells #[.int .i64 a0_0, .int .i64 a0_1, .slice A0_2 l0_2.length c0_2] 31 (0, 0)) (bk_ b0)) : b2 ≠ b1)); clear b0; clear HB; have b0 := n0_; have HB := n1_; have b3 := n2_; have b9 := n3_; have b7 := n4_; have b5 := n5_; have b6 := n6_; clear n0_ n1_ n2_ n3_ n4_ n5_ n6_; clear hb hbox hg; have hnb26 := b5.out; have hnc26 := b6.out; have hcz27_0 : w25.cell? ⟨b1, 0, none⟩ = some (.int .i64 a0_0) := (qc b0.out 0).trans rfl; have hcz27_1 : w25.cell? ⟨b1, 1, none⟩ = some (.int .i64 a0_1) := (qc b0.out 1).trans rfl; have hcz27_2 : w25.cell? ⟨b1, 2, none⟩ = some (.slice A0_2 l0_2.length c0_2) := (qc b0.out 2).trans rfl; have hfz27_0 := qj b0.out 0; have hfz27_1 := qj b0.out 1; have hfz27_2 := qj b0.out 2; have hcz28_0 : w25.cell? ⟨b2, 0, none⟩ = some (.int .i64 a1_0) := (qc b3.out 0).trans rfl; have hcz28_1 : w25.cell? ⟨b2, 1, none⟩ = some (.int .i64 a1_1) := (qc b3.out 1).trans rfl; have hcz28_2 : w25.cell? ⟨b2, 2, none⟩ = some (.slice A1_2 l1_2.length c1_2) := (qc b3.out 2).trans rfl; have hfz28_0 := qj b3.out 0; have hfz28_1 := qj b3.out 1; have hfz28_2 := qj b3.out 2))
  go_ret
  exact ⟨by first | rfl | (simp [qt, qr] <;> rfl) | (simp [*, qt, qr] <;> rfl), be2_ HB b4 b7⟩
def laws_eqIntS.l0 : Nat → List Int → List Int → Int → Option (Bool)
 | 0, _, _, _ => none
 | k + 1, x0, x1, x5 => if x5 < (x0.length : Int) then (if 0 ≤ x5 then (if x5 < (x1.length : Int) then (if (rd x0 x5) = (rd x1 x5) then (laws_eqIntS.l0 k x0 x1 (wrap64 (x5 + 1))) else (some false)) else (none)) else (none)) else (some true)
def laws_eqIntS.f (k : Nat) (l0 : List Int) (l1 : List Int) : Option (Bool) := if (l0.length : Int) = (l1.length : Int) then (laws_eqIntS.l0 k l0 l1 0) else (some false)
theorem laws_eqIntS.zt : ∀ k, (∀ y0 y1 y2, LeO (laws_eqIntS.l0 k y0 y1 y2) (laws_eqIntS.l0 (k + 1) y0 y1 y2))
 | 0 => fun _ _ _ r h => by simp [laws_eqIntS.l0] at h
 | k + 1 => by
  have ih0 := laws_eqIntS.zt k
  ·intro y0 y1 y2
   unfold laws_eqIntS.l0
   repeat' first
   | (with_reducible exact ih0 _ _ _)
   | (with_reducible exact LeO.refl _)
   | (with_reducible exact LeO.none _)
   | (with_reducible refine LeO.ite ?_ ?_)
   | (with_reducible refine LeO.bind ?_ (fun _ => ?_))
   | exact ih0 _ _ _
   | exact LeO.none _
   | refine LeO.ite ?_ ?_
   | refine LeO.bind ?_ (fun _ => ?_)
theorem laws_eqIntS.mono : ∀ a0 a1 k, LeO (laws_eqIntS.f k a0 a1) (laws_eqIntS.f (k + 1) a0 a1) := by
 intro a0 a1 k
 have ih0 := laws_eqIntS.zt k
 unfold laws_eqIntS.f
 repeat' first
   | (with_reducible exact ih0 _ _ _)
   | (with_reducible exact LeO.refl _)
   | (with_reducible exact LeO.none _)
   | (with_reducible refine LeO.ite ?_ ?_)
   | (with_reducible refine LeO.bind ?_ (fun _ => ?_))
   | exact ih0 _ _ _
   | exact LeO.none _
   | refine LeO.ite ?_ ?_
   | refine LeO.bind ?_ (fun _ => ?_)
set_option maxHeartbeats 8000000 in
set_option maxRecDepth 100000 in
theorem laws_eqIntS.calls (k : Nat) (A0 : Option Addr) (c0 : Nat) (l0 : List Int) (A1 : Option Addr) (c1 : Nat) (l1 : List Int) (r : Bool) (w : World) (hr0 : Kd.C (Kd.int .i64) w A0 l0.length l0) (hc0 : l0.length ≤ c0) (hr1 : Kd.C (Kd.int .i64) w A1 l1.length l1) (hc1 : l1.length ≤ c1) (h : laws_eqIntS.f k l0 l1 = some r) :
  Calls Try.prog 15 #[.slice A0 l0.length c0, .slice A1 l1.length c1] w fun e w' => e = .returned (.bool r) ∧ zo w w' := by
 have HR0 := qb.mk hr0
 have HC0 := qb.mk hc0
 clear hr0 hc0
 have HR1 := qb.mk hr1
 have HC1 := qb.mk hc1
 clear hr1 hc1
 have H : (if (l0.length : Int) = (l1.length : Int) then (laws_eqIntS.l0 k l0 l1 0) else (some false)) = some r := h
 clear h
 by_cases c3 : (l0.length : Int) = (l1.length : Int)
 ·rw [if_pos c3] at H
  have c3b0 : ((l0.length : Int) == (l1.length : Int)) = true := beq_iff_eq.mpr c3
  have c3b1 : ((l0.length : Int) != (l1.length : Int)) = false := bne_eq_false_iff_eq.mpr c3
  have c3b2 : (l0.length == l1.length) = true := by first | simpa using c3 | (simp at c3 ⊢; omega)
  clear c3
  have H' := qb.mk H
  clear H
  go_enter Try.func15, Try.ntmps15
  go_wp2
  repeat (go_quiet (fail); try go_wp2)
  go_loopg [5] k (fun kq v5 w' => ∃ (x5_1 : Int), v5 = .int .i64 x5_1 ∧ qb (laws_eqIntS.l0 kq l0 l1 x5_1 = some r) ∧ qb (kq ≤ k) ∧ zo w w')
  case atStart => exact ⟨(0), (by first | rfl | (simp; done) | (simp [*]; done)), H', ⟨Nat.le_refl _⟩, by repeat (first | exact zo.refl _ | apply zo.step)⟩
  case round =>
   clear H'
   try clear c1
   try clear c3
   try clear c3b0
   try clear c3b1
   try clear c3b2
   obtain ⟨x5_1, rfl, HA, HK1, ⟨m1, rfl⟩⟩ := hrel
   cases gk with
   | zero => exact absurd HA.out (by simp [laws_eqIntS.l0])
   | succ k1 =>
    have H := HA.out
    clear HA
    simp only [laws_eqIntS.l0] at H
    by_cases c4 : x5_1 < (l0.length : Int)
    ·rw [if_pos c4] at H
     have c4b0 : decide (x5_1 < (l0.length : Int)) = true := decide_eq_true c4
     clear c4
     by_cases c5 : 0 ≤ x5_1
     ·rw [if_pos c5] at H
      have c5b0 : decide (0 ≤ x5_1) = true := decide_eq_true c5
      clear c5
      by_cases c6 : x5_1 < (l1.length : Int)
      ·rw [if_pos c6] at H
       have c6b0 : decide (x5_1 < (l1.length : Int)) = true := decide_eq_true c6
       clear c6
       by_cases c7 : (rd l0 x5_1) = (rd l1 x5_1)
       ·rw [if_pos c7] at H
        have c7b0 : ((rd l0 x5_1) == (rd l1 x5_1)) = true := beq_iff_eq.mpr c7
        have c7b1 : ((rd l0 x5_1) != (rd l1 x5_1)) = false := bne_eq_false_iff_eq.mpr c7
        clear c7
        have H' := qb.mk H
        clear H
        have p133 : 0 ≤ (x5_1 : Int) := of_decide_eq_true (by first | (with_reducible assumption) | assumption)
        have q133 : x5_1 < (l0.length : Int) := of_decide_eq_true (by first | (with_reducible assumption) | assumption)
        obtain ⟨ad133, e133, hx133_0⟩ := Kd.jc HR0.out x5_1 p133 q133
        cases e133
        replace p133 := eq_true p133
        replace q133 := eq_true q133
        have p134 : 0 ≤ (x5_1 : Int) := of_decide_eq_true (by first | (with_reducible assumption) | assumption)
        have q134 : x5_1 < (l1.length : Int) := of_decide_eq_true (by first | (with_reducible assumption) | assumption)
        obtain ⟨ad134, e134, hx134_0⟩ := Kd.jc HR1.out x5_1 p134 q134
        cases e134
        replace p134 := eq_true p134
        replace q134 := eq_true q134
        go_wp2
        repeat (go_quiet (fail); try go_wp2)
        go_roundg k1
        case measure => have := HK1.out; omega
        case rel => exact ⟨(wrap64 (x5_1 + 1)), (by first | rfl | (simp; done) | (simp [*]; done)), H', ⟨by have := HK1.out; omega⟩, by repeat (first | exact zo.refl _ | apply zo.step)⟩
       ·rw [if_neg c7] at H
        have c7b0 : ((rd l0 x5_1) == (rd l1 x5_1)) = false := beq_eq_false_iff_ne.mpr c7
        have c7b1 : ((rd l0 x5_1) != (rd l1 x5_1)) = true := bne_iff_ne.mpr c7
        obtain rfl := Option.some.inj H
        have p133 : 0 ≤ (x5_1 : Int) := of_decide_eq_true (by first | (with_reducible assumption) | assumption)
        have q133 : x5_1 < (l0.length : Int) := of_decide_eq_true (by first | (with_reducible assumption) | assumption)
        obtain ⟨ad133, e133, hx133_0⟩ := Kd.jc HR0.out x5_1 p133 q133
        cases e133
        replace p133 := eq_true p133
        replace q133 := eq_true q133
        have p134 : 0 ≤ (x5_1 : Int) := of_decide_eq_true (by first | (with_reducible assumption) | assumption)
        have q134 : x5_1 < (l1.length : Int) := of_decide_eq_true (by first | (with_reducible assumption) | assumption)
        obtain ⟨ad134, e134, hx134_0⟩ := Kd.jc HR1.out x5_1 p134 q134
        cases e134
        replace p134 := eq_true p134
        replace q134 := eq_true q134
        go_wp2
        repeat (go_quiet (fail); try go_wp2)
        go_ret
        exact ⟨by first | rfl | (simp; done) | (simp [*]; done), by repeat (first | exact zo.refl _ | apply zo.step)⟩
      ·rw [if_neg c6] at H
       exact absurd H (by simp)
     ·rw [if_neg c5] at H
      exact absurd H (by simp)
    ·rw [if_neg c4] at H
     have c4b0 : decide (x5_1 < (l0.length : Int)) = false := decide_eq_false c4
     clear c4
     obtain rfl := Option.some.inj H
     go_wp2
     repeat (go_quiet (fail); try go_wp2)
     go_ret
     exact ⟨by first | rfl | (simp; done) | (simp [*]; done), by repeat (first | exact zo.refl _ | apply zo.step)⟩
 ·rw [if_neg c3] at H
  have c3b0 : ((l0.length : Int) == (l1.length : Int)) = false := beq_eq_false_iff_ne.mpr c3
  have c3b1 : ((l0.length : Int) != (l1.length : Int)) = true := bne_iff_ne.mpr c3
  have c3b2 : (l0.length == l1.length) = false := by first | simpa using c3 | (simp at c3 ⊢; omega)
  obtain rfl := Option.some.inj H
  go_enter Try.func15, Try.ntmps15
  go_wp2
  repeat (go_quiet (fail); try go_wp2)
  go_ret
  exact ⟨by first | rfl | (simp; done) | (simp [*]; done), by repeat (first | exact zo.refl _ | apply zo.step)⟩
def spec_l1In.f (a0 : Int) (a1 : Int) (a2 : Int) : Option (Bool) := if a0 ≥ a1 then (some (decide (a0 ≤ a2))) else (some false)
set_option maxHeartbeats 8000000 in
set_option maxRecDepth 100000 in
theorem spec_l1In.calls (a0 : Int) (a1 : Int) (a2 : Int) (r : Bool) (w : World) (h : spec_l1In.f a0 a1 a2 = some r) :
  Calls Try.prog 59 #[.int .i64 a0, .int .i64 a1, .int .i64 a2] w fun e w' => e = .returned (.bool r) ∧ zo w w' := by
 have H : (if a0 ≥ a1 then (some (decide (a0 ≤ a2))) else (some false)) = some r := h
 clear h
 by_cases c4 : a0 ≥ a1
 ·rw [if_pos c4] at H
  have c4b0 : decide (a1 ≤ a0) = true := decide_eq_true c4
  clear c4
  obtain rfl := Option.some.inj H
  go_enter Try.func59, Try.ntmps59
  go_wp2
  go_ret
  exact ⟨by first | rfl | (simp; done) | (simp [*]; done), by repeat (first | exact zo.refl _ | apply zo.step)⟩
 ·rw [if_neg c4] at H
  have c4b0 : decide (a1 ≤ a0) = false := decide_eq_false c4
  clear c4
  obtain rfl := Option.some.inj H
  go_enter Try.func59, Try.ntmps59
  go_wp2
  go_ret
  exact ⟨by first | rfl | (simp; done) | (simp [*]; done), by repeat (first | exact zo.refl _ | apply zo.step)⟩
def spec_avIs.j0 : Nat → Int → Int → Bool → Int → Int → Bool → Option (Bool)
 | 0, _, _, _, _, _, _ => none
 | k + 1, x0, x1, x20, x136000, x136001, x136002 => if x20 = true then (some false) else (if x136002 = true then (some (decide (x136001 < (wrap64 (x1 - 1))))) else (some (decide (x136000 < (wrap64 (x0 - 1))))))
def spec_avIs.f (k : Nat) (a0 : Int) (a1 : Int) (a2_0 : Int) (a2_1 : Int) (a2_2 : Bool) : Option (Bool) := (spec_l1In.f a2_0 0 (wrap64 (a0 - 1))).bind fun t136 => (if t136 = true then ((spec_l1In.f a2_1 0 (wrap64 (a1 - 1))).bind fun t137 => (spec_avIs.j0 k a0 a1 (!t137) a2_0 a2_1 a2_2)) else (spec_avIs.j0 k a0 a1 true a2_0 a2_1 a2_2))
theorem spec_avIs.zt : ∀ k, (∀ y0 y1 y2 y3 y4 y5, LeO (spec_avIs.j0 k y0 y1 y2 y3 y4 y5) (spec_avIs.j0 (k + 1) y0 y1 y2 y3 y4 y5))
 | 0 => fun _ _ _ _ _ _ r h => by simp [spec_avIs.j0] at h
 | k + 1 => by
  have ih0 := spec_avIs.zt k
  ·intro y0 y1 y2 y3 y4 y5
   unfold spec_avIs.j0
   repeat' first
   | (with_reducible exact ih0 _ _ _ _ _ _)
   | (with_reducible exact LeO.refl _)
   | (with_reducible exact LeO.none _)
   | (with_reducible refine LeO.ite ?_ ?_)
   | (with_reducible refine LeO.bind ?_ (fun _ => ?_))
   | exact ih0 _ _ _ _ _ _
   | exact LeO.none _
   | refine LeO.ite ?_ ?_
   | refine LeO.bind ?_ (fun _ => ?_)
theorem spec_avIs.mono : ∀ a0 a1 a2 a3 a4 k, LeO (spec_avIs.f k a0 a1 a2 a3 a4) (spec_avIs.f (k + 1) a0 a1 a2 a3 a4) := by
 intro a0 a1 a2 a3 a4 k
 have ih0 := spec_avIs.zt k
 unfold spec_avIs.f
 repeat' first
   | (with_reducible exact ih0 _ _ _ _ _ _)
   | (with_reducible exact LeO.refl _)
   | (with_reducible exact LeO.none _)
   | (with_reducible refine LeO.ite ?_ ?_)
   | (with_reducible refine LeO.bind ?_ (fun _ => ?_))
   | exact ih0 _ _ _ _ _ _
   | exact LeO.none _
   | refine LeO.ite ?_ ?_
   | refine LeO.bind ?_ (fun _ => ?_)
set_option maxHeartbeats 8000000 in
set_option maxRecDepth 100000 in
theorem spec_avIs.calls (k : Nat) (a0 : Int) (a1 : Int) (a2_0 : Int) (a2_1 : Int) (a2_2 : Bool) (r : Bool) (w : World) (h : spec_avIs.f k a0 a1 a2_0 a2_1 a2_2 = some r) :
  Calls Try.prog 50 #[.int .i64 a0, .int .i64 a1, .agg #[.int .i64 a2_0, .int .i64 a2_1, .bool a2_2]] w fun e w' => e = .returned (.bool r) ∧ Below w.heap.size w w' := by
 have hu58 := Try.underlying58
 have HB := qb.mk (Below.refl w.heap.size w)
 have H : ((spec_l1In.f a2_0 0 (wrap64 (a0 - 1))).bind fun t136 => (if t136 = true then ((spec_l1In.f a2_1 0 (wrap64 (a1 - 1))).bind fun t137 => (spec_avIs.j0 k a0 a1 (!t137) a2_0 a2_1 a2_2)) else (spec_avIs.j0 k a0 a1 true a2_0 a2_1 a2_2))) = some r := h
 clear h
 have HC4 := qb.mk H
 clear H
 go_enter Try.func50, Try.ntmps50
 go_upto_region 1 with (first | ((with_reducible refine ze (N := 5) rfl ?_); refine zc ?hg (N := 5) ?hd (cs := #[.int .i64 a2_0, .int .i64 a2_1, .bool a2_2]) (t := 58) ?hr ?_; (case hd => rfl); (case hg => rfl); (case hr => first | (go_simp; done) | (go_simp; rfl)); intro gb135 hg w5 hbox hb; have n0_ := qb.mk (qp (be0_ HB) hb); have n1_ := qb.mk (hbox); have n2_ := qb.mk ((by rw [hg]; exact (ql (be0_ HB)) : w.heap.size ≤ gb135)); have n3_ := qb.mk ((by rw [hg]; exact (ql (be0_ HB)) : w.heap.size ≤ gb135)); clear HB; have HB := n0_; have BK135 := n1_; have GW135 := n2_; have GE135 := n3_; clear n0_ n1_ n2_ n3_; clear hb hbox hg))
 (try simp only [Act.put, sA_, sB_, sC_])
 go_cut [20] (fun v20 wc => ∃ (kq : Nat) (x20_3 : Bool), v20 = .bool x20_3 ∧ qb (spec_avIs.j0 kq a0 a1 x20_3 a2_0 a2_1 a2_2 = some r) ∧ qb (kq ≤ k) ∧ qb (wc.heap[gb135]? = some (.cells #[.int .i64 a2_0, .int .i64 a2_1, .bool a2_2] 58 (0, 0))) ∧ qb (Below w.heap.size w wc))
 case first =>
  have H := HC4.out
  clear HC4
  replace H := Option.bind_eq_some_iff.mp H
  obtain ⟨t136, A60, H⟩ := H
  replace H : (if t136 = true then ((spec_l1In.f a2_1 0 (wrap64 (a1 - 1))).bind fun t137 => (spec_avIs.j0 k a0 a1 (!t137) a2_0 a2_1 a2_2)) else (spec_avIs.j0 k a0 a1 true a2_0 a2_1 a2_2)) = some r := H
  have A6 := qb.mk A60
  clear A60
  by_cases c7 : t136 = true
  ·subst c7
   have H1 : ((spec_l1In.f a2_1 0 (wrap64 (a1 - 1))).bind fun t137 => (spec_avIs.j0 k a0 a1 (!t137) a2_0 a2_1 a2_2)) = some r := by rw [if_pos rfl] at H; exact H
   clear H
   have H := H1
   clear H1
   replace H := Option.bind_eq_some_iff.mp H
   obtain ⟨t137, A80, H⟩ := H
   replace H : (spec_avIs.j0 k a0 a1 (!t137) a2_0 a2_1 a2_2) = some r := H
   have A8 := qb.mk A80
   clear A80
   have H' := qb.mk H
   clear H
   have hcz9_0 : w5.cell? ⟨gb135, 0, none⟩ = some (.int .i64 a2_0) := (qc BK135.out 0).trans rfl
   have hcz9_1 : w5.cell? ⟨gb135, 1, none⟩ = some (.int .i64 a2_1) := (qc BK135.out 1).trans rfl
   have hcz9_2 : w5.cell? ⟨gb135, 2, none⟩ = some (.bool a2_2) := (qc BK135.out 2).trans rfl
   have hfz9_0 := qj BK135.out 0
   have hfz9_1 := qj BK135.out 1
   have hfz9_2 := qj BK135.out 2
   go_wp2_with (first | ((with_reducible refine qx (f := 59) rfl ?_); refine zl (some 11) rfl rfl Try.func59 (by kernel_rfl) rfl #[.int .i64 a2_0, .int .i64 0, .int .i64 (wrap64 (a0 - 1))] rfl (by (try simp only [List.map_toArray, List.map_cons, List.map_nil]); first | done | rfl | (simp only [List.length_drop, List.length_take]; rfl)) ?_; (with_reducible refine (spec_l1In.calls a2_0 0 (wrap64 (a0 - 1)) true _ A6.out).mono ?_); rintro e w' ⟨rfl, ⟨nd, rfl⟩⟩; refine ⟨_, rfl, ?_⟩) | (go_at_call 59; (with_reducible refine (spec_l1In.calls a2_1 0 (wrap64 (a1 - 1)) t137 _ A8.out).mono ?_); rintro e w' ⟨rfl, ⟨nd, rfl⟩⟩))
   go_meet
   case rel => exact ⟨_, (!t137), (by first | rfl | (simp; done) | (simp [*]; done)), H', ⟨by first | omega | exact Nat.le_refl _⟩, ⟨bk_ BK135⟩, ⟨be1_ HB GE135⟩⟩
  ·replace c7 := Bool.eq_false_iff.mpr c7
   subst c7
   have H1 : (spec_avIs.j0 k a0 a1 true a2_0 a2_1 a2_2) = some r := by rw [if_neg (show ¬ (false = true) by decide)] at H; exact H
   clear H
   have H := H1
   clear H1
   have H' := qb.mk H
   clear H
   have hcz10_0 : w5.cell? ⟨gb135, 0, none⟩ = some (.int .i64 a2_0) := (qc BK135.out 0).trans rfl
   have hcz10_1 : w5.cell? ⟨gb135, 1, none⟩ = some (.int .i64 a2_1) := (qc BK135.out 1).trans rfl
   have hcz10_2 : w5.cell? ⟨gb135, 2, none⟩ = some (.bool a2_2) := (qc BK135.out 2).trans rfl
   have hfz10_0 := qj BK135.out 0
   have hfz10_1 := qj BK135.out 1
   have hfz10_2 := qj BK135.out 2
   go_wp2_with (first | ((with_reducible refine qx (f := 59) rfl ?_); refine zl (some 11) rfl rfl Try.func59 (by kernel_rfl) rfl #[.int .i64 a2_0, .int .i64 0, .int .i64 (wrap64 (a0 - 1))] rfl (by (try simp only [List.map_toArray, List.map_cons, List.map_nil]); first | done | rfl | (simp only [List.length_drop, List.length_take]; rfl)) ?_; (with_reducible refine (spec_l1In.calls a2_0 0 (wrap64 (a0 - 1)) false _ A6.out).mono ?_); rintro e w' ⟨rfl, ⟨nd, rfl⟩⟩; refine ⟨_, rfl, ?_⟩))
   go_meet
   case rel => exact ⟨_, (true), (by first | rfl | (simp; done) | (simp [*]; done)), H', ⟨by first | omega | exact Nat.le_refl _⟩, ⟨bk_ BK135⟩, ⟨be1_ HB GE135⟩⟩
 case rest =>
  clear HC4
  try clear c7
  try clear hcz10_0
  try clear hcz10_1
  try clear hcz10_2
  try clear hcz9_0
  try clear hcz9_1
  try clear hcz9_2
  try clear hfz10_0
  try clear hfz10_1
  try clear hfz10_2
  try clear hfz9_0
  try clear hfz9_1
  try clear hfz9_2
  obtain ⟨kq, x20_3, rfl, HA, HJ3, BK135, HB⟩ := hcut
  cases kq with
  | zero => exact absurd HA.out (by simp [spec_avIs.j0])
  | succ kj3 =>
   have H := HA.out
   clear HA
   simp only [spec_avIs.j0] at H
   by_cases c11 : x20_3 = true
   ·subst c11
    have H1 : (some false) = some r := by rw [if_pos rfl] at H; exact H
    clear H
    have H := H1
    clear H1
    obtain rfl := Option.some.inj H
    go_wp2
    go_ret
    exact ⟨by first | rfl | (simp [qt, qr] <;> rfl) | (simp [*, qt, qr] <;> rfl), be1_ HB GE135⟩
   ·replace c11 := Bool.eq_false_iff.mpr c11
    subst c11
    have H1 : (if a2_2 = true then (some (decide (a2_1 < (wrap64 (a1 - 1))))) else (some (decide (a2_0 < (wrap64 (a0 - 1)))))) = some r := by rw [if_neg (show ¬ (false = true) by decide)] at H; exact H
    clear H
    have H := H1
    clear H1
    by_cases c12 : a2_2 = true
    ·subst c12
     have H1 : (some (decide (a2_1 < (wrap64 (a1 - 1))))) = some r := by rw [if_pos rfl] at H; exact H
     clear H
     have H := H1
     clear H1
     obtain rfl := Option.some.inj H
     have hcz13_0 : wc.cell? ⟨gb135, 0, none⟩ = some (.int .i64 a2_0) := (qc BK135.out 0).trans rfl
     have hcz13_1 : wc.cell? ⟨gb135, 1, none⟩ = some (.int .i64 a2_1) := (qc BK135.out 1).trans rfl
     have hcz13_2 : wc.cell? ⟨gb135, 2, none⟩ = some (.bool true) := (qc BK135.out 2).trans rfl
     have hfz13_0 := qj BK135.out 0
     have hfz13_1 := qj BK135.out 1
     have hfz13_2 := qj BK135.out 2
     go_wp2
     go_ret
     exact ⟨by first | rfl | (simp [qt, qr] <;> rfl) | (simp [*, qt, qr] <;> rfl), be1_ HB GE135⟩
    ·replace c12 := Bool.eq_false_iff.mpr c12
     subst c12
     have H1 : (some (decide (a2_0 < (wrap64 (a0 - 1))))) = some r := by rw [if_neg (show ¬ (false = true) by decide)] at H; exact H
     clear H
     have H := H1
     clear H1
     obtain rfl := Option.some.inj H
     have hcz14_0 : wc.cell? ⟨gb135, 0, none⟩ = some (.int .i64 a2_0) := (qc BK135.out 0).trans rfl
     have hcz14_1 : wc.cell? ⟨gb135, 1, none⟩ = some (.int .i64 a2_1) := (qc BK135.out 1).trans rfl
     have hcz14_2 : wc.cell? ⟨gb135, 2, none⟩ = some (.bool false) := (qc BK135.out 2).trans rfl
     have hfz14_0 := qj BK135.out 0
     have hfz14_1 := qj BK135.out 1
     have hfz14_2 := qj BK135.out 2
     go_wp2
     go_ret
     exact ⟨by first | rfl | (simp [qt, qr] <;> rfl) | (simp [*, qt, qr] <;> rfl), be1_ HB GE135⟩
def spec_avLess.f (a0_0 : Int) (a0_1 : Int) (a0_2 : Bool) (a1_0 : Int) (a1_1 : Int) (a1_2 : Bool) : Option (Bool) := if a0_0 = a1_0 then (if a0_1 = a1_1 then (if a0_2 = true then (some false) else (some a1_2)) else (some (decide (a0_1 < a1_1)))) else (some (decide (a0_0 < a1_0)))
set_option maxHeartbeats 8000000 in
set_option maxRecDepth 100000 in
theorem spec_avLess.calls (a0_0 : Int) (a0_1 : Int) (a0_2 : Bool) (a1_0 : Int) (a1_1 : Int) (a1_2 : Bool) (r : Bool) (w : World) (h : spec_avLess.f a0_0 a0_1 a0_2 a1_0 a1_1 a1_2 = some r) :
  Calls Try.prog 75 #[.agg #[.int .i64 a0_0, .int .i64 a0_1, .bool a0_2], .agg #[.int .i64 a1_0, .int .i64 a1_1, .bool a1_2]] w fun e w' => e = .returned (.bool r) ∧ Below w.heap.size w w' := by
 have hu58 := Try.underlying58;have HB := qb.mk (Below.refl w.heap.size w);have H : (if a0_0 = a1_0 then (if a0_1 = a1_1 then (if a0_2 = true then (some false) else (some a1_2)) else (some (decide (a0_1 < a1_1)))) else (some (decide (a0_0 < a1_0)))) = some r := h;clear h
 by_cases c3 : a0_0 = a1_0
 ·rw [if_pos c3] at H
  have c3b0 : (a0_0 == a1_0) = true := beq_iff_eq.mpr c3;have c3b1 : (a0_0 != a1_0) = false := bne_eq_false_iff_eq.mpr c3;clear c3
  by_cases c4 : a0_1 = a1_1
  ·rw [if_pos c4] at H
   have c4b0 : (a0_1 == a1_1) = true := beq_iff_eq.mpr c4;have c4b1 : (a0_1 != a1_1) = false := bne_eq_false_iff_eq.mpr c4;clear c4
   by_cases c5 : a0_2 = true
   ·subst c5
    have H1 : (some false) = some r := by rw [if_pos rfl] at H; exact H
    clear H;have H := H1;clear H1;obtain rfl := Option.some.inj H
    go_enter Try.func75, Try.ntmps75
    go_wp2_with (first | ((with_reducible refine ze (N := 2) rfl ?_); refine zc ?hg (N := 2) ?hd (cs := #[.int .i64 a0_0, .int .i64 a0_1, .bool true]) (t := 58) ?hr ?_; (case hd => rfl); (case hg => rfl); (case hr => first | (go_simp; done) | (go_simp; rfl)); intro b1 hg w6 hbox hb; have n0_ := qb.mk (qp (be0_ HB) hb); have n1_ := qb.mk (hbox); have n2_ := qb.mk ((by rw [hg]; exact (ql (be0_ HB)) : w.heap.size ≤ b1)); have n3_ := qb.mk ((by rw [hg]; exact (ql (be0_ HB)) : w.heap.size ≤ b1)); clear HB; have HB := n0_; have b0 := n1_; have b8 := n2_; have b4 := n3_; clear n0_ n1_ n2_ n3_; clear hb hbox hg) | ((with_reducible refine ze (N := 3) rfl ?_); refine zc ?hg (N := 3) ?hd (cs := #[.int .i64 a1_0, .int .i64 a1_1, .bool a1_2]) (t := 58) ?hr ?_; (case hd => rfl); (case hg => rfl); (case hr => first | (go_simp; done) | (go_simp; rfl)); intro b2 hg w7 hbox hb; have n0_ := qb.mk (qo (g := b1) (o := .cells #[.int .i64 a0_0, .int .i64 a0_1, .bool true] 58 (0, 0)) (bk_ b0) hb); have n1_ := qb.mk (qp (be1_ HB b4) hb); have n2_ := qb.mk (hbox); have n3_ := qb.mk ((by rw [hg]; exact (ql (be1_ HB b4)) : w.heap.size ≤ b2)); have n4_ := qb.mk ((by rw [hg]; exact (ql (be1_ HB b4)) : w.heap.size ≤ b2)); have n5_ := qb.mk ((by rw [hg]; exact Nat.ne_of_lt (zd (g := b1) (o := .cells #[.int .i64 a0_0, .int .i64 a0_1, .bool true] 58 (0, 0)) (bk_ b0)) : b1 ≠ b2)); have n6_ := qb.mk ((by rw [hg]; exact Nat.ne_of_gt (zd (g := b1) (o := .cells #[.int .i64 a0_0, .int .i64 a0_1, .bool true] 58 (0, 0)) (bk_ b0)) : b2 ≠ b1)); clear b0; clear HB; have b0 := n0_; have HB := n1_; have b3 := n2_; have b9 := n3_; have b7 := n4_; have b5 := n5_; have b6 := n6_; clear n0_ n1_ n2_ n3_ n4_ n5_ n6_; clear hb hbox hg; have hnb8 := b5.out; have hnc8 := b6.out; have hcz9_0 : w7.cell? ⟨b1, 0, none⟩ = some (.int .i64 a0_0) := (qc b0.out 0).trans rfl; have hcz9_1 : w7.cell? ⟨b1, 1, none⟩ = some (.int .i64 a0_1) := (qc b0.out 1).trans rfl; have hcz9_2 : w7.cell? ⟨b1, 2, none⟩ = some (.bool true) := (qc b0.out 2).trans rfl; have hfz9_0 := qj b0.out 0; have hfz9_1 := qj b0.out 1; have hfz9_2 := qj b0.out 2; have hcz10_0 : w7.cell? ⟨b2, 0, none⟩ = some (.int .i64 a1_0) := (qc b3.out 0).trans rfl; have hcz10_1 : w7.cell? ⟨b2, 1, none⟩ = some (.int .i64 a1_1) := (qc b3.out 1).trans rfl; have hcz10_2 : w7.cell? ⟨b2, 2, none⟩ = some (.bool a1_2) := (qc b3.out 2).trans rfl; have hfz10_0 := qj b3.out 0; have hfz10_1 := qj b3.out 1; have hfz10_2 := qj b3.out 2))
    go_ret
    exact ⟨by first | rfl | (simp [qt, qr] <;> rfl) | (simp [*, qt, qr] <;> rfl), be2_ HB b4 b7⟩
   ·replace c5 := Bool.eq_false_iff.mpr c5
    subst c5;have H1 : (some a1_2) = some r := by rw [if_neg (show ¬ (false = true) by decide)] at H; exact H
    clear H;have H := H1;clear H1;obtain rfl := Option.some.inj H
    go_enter Try.func75, Try.ntmps75
    go_wp2_with (first | ((with_reducible refine ze (N := 2) rfl ?_); refine zc ?hg (N := 2) ?hd (cs := #[.int .i64 a0_0, .int .i64 a0_1, .bool false]) (t := 58) ?hr ?_; (case hd => rfl); (case hg => rfl); (case hr => first | (go_simp; done) | (go_simp; rfl)); intro b1 hg w11 hbox hb; have n0_ := qb.mk (qp (be0_ HB) hb); have n1_ := qb.mk (hbox); have n2_ := qb.mk ((by rw [hg]; exact (ql (be0_ HB)) : w.heap.size ≤ b1)); have n3_ := qb.mk ((by rw [hg]; exact (ql (be0_ HB)) : w.heap.size ≤ b1)); clear HB; have HB := n0_; have b0 := n1_; have b8 := n2_; have b4 := n3_; clear n0_ n1_ n2_ n3_; clear hb hbox hg) | ((with_reducible refine ze (N := 3) rfl ?_); refine zc ?hg (N := 3) ?hd (cs := #[.int .i64 a1_0, .int .i64 a1_1, .bool a1_2]) (t := 58) ?hr ?_; (case hd => rfl); (case hg => rfl); (case hr => first | (go_simp; done) | (go_simp; rfl)); intro b2 hg w12 hbox hb; have n0_ := qb.mk (qo (g := b1) (o := .cells #[.int .i64 a0_0, .int .i64 a0_1, .bool false] 58 (0, 0)) (bk_ b0) hb); have n1_ := qb.mk (qp (be1_ HB b4) hb); have n2_ := qb.mk (hbox); have n3_ := qb.mk ((by rw [hg]; exact (ql (be1_ HB b4)) : w.heap.size ≤ b2)); have n4_ := qb.mk ((by rw [hg]; exact (ql (be1_ HB b4)) : w.heap.size ≤ b2)); have n5_ := qb.mk ((by rw [hg]; exact Nat.ne_of_lt (zd (g := b1) (o := .cells #[.int .i64 a0_0, .int .i64 a0_1, .bool false] 58 (0, 0)) (bk_ b0)) : b1 ≠ b2)); have n6_ := qb.mk ((by rw [hg]; exact Nat.ne_of_gt (zd (g := b1) (o := .cells #[.int .i64 a0_0, .int .i64 a0_1, .bool false] 58 (0, 0)) (bk_ b0)) : b2 ≠ b1)); clear b0; clear HB; have b0 := n0_; have HB := n1_; have b3 := n2_; have b9 := n3_; have b7 := n4_; have b5 := n5_; have b6 := n6_; clear n0_ n1_ n2_ n3_ n4_ n5_ n6_; clear hb hbox hg; have hnb13 := b5.out; have hnc13 := b6.out; have hcz14_0 : w12.cell? ⟨b1, 0, none⟩ = some (.int .i64 a0_0) := (qc b0.out 0).trans rfl; have hcz14_1 : w12.cell? ⟨b1, 1, none⟩ = some (.int .i64 a0_1) := (qc b0.out 1).trans rfl; have hcz14_2 : w12.cell? ⟨b1, 2, none⟩ = some (.bool false) := (qc b0.out 2).trans rfl; have hfz14_0 := qj b0.out 0; have hfz14_1 := qj b0.out 1; have hfz14_2 := qj b0.out 2; have hcz15_0 : w12.cell? ⟨b2, 0, none⟩ = some (.int .i64 a1_0) := (qc b3.out 0).trans rfl; have hcz15_1 : w12.cell? ⟨b2, 1, none⟩ = some (.int .i64 a1_1) := (qc b3.out 1).trans rfl; have hcz15_2 : w12.cell? ⟨b2, 2, none⟩ = some (.bool a1_2) := (qc b3.out 2).trans rfl; have hfz15_0 := qj b3.out 0; have hfz15_1 := qj b3.out 1; have hfz15_2 := qj b3.out 2))
    go_ret
    exact ⟨by first | rfl | (simp [qt, qr] <;> rfl) | (simp [*, qt, qr] <;> rfl), be2_ HB b4 b7⟩
  ·rw [if_neg c4] at H
   have c4b0 : (a0_1 == a1_1) = false := beq_eq_false_iff_ne.mpr c4;have c4b1 : (a0_1 != a1_1) = true := bne_iff_ne.mpr c4;obtain rfl := Option.some.inj H
   go_enter Try.func75, Try.ntmps75
   go_wp2_with (first | ((with_reducible refine ze (N := 2) rfl ?_); refine zc ?hg (N := 2) ?hd (cs := #[.int .i64 a0_0, .int .i64 a0_1, .bool a0_2]) (t := 58) ?hr ?_; (case hd => rfl); (case hg => rfl); (case hr => first | (go_simp; done) | (go_simp; rfl)); intro b1 hg w16 hbox hb; have n0_ := qb.mk (qp (be0_ HB) hb); have n1_ := qb.mk (hbox); have n2_ := qb.mk ((by rw [hg]; exact (ql (be0_ HB)) : w.heap.size ≤ b1)); have n3_ := qb.mk ((by rw [hg]; exact (ql (be0_ HB)) : w.heap.size ≤ b1)); clear HB; have HB := n0_; have b0 := n1_; have b8 := n2_; have b4 := n3_; clear n0_ n1_ n2_ n3_; clear hb hbox hg) | ((with_reducible refine ze (N := 3) rfl ?_); refine zc ?hg (N := 3) ?hd (cs := #[.int .i64 a1_0, .int .i64 a1_1, .bool a1_2]) (t := 58) ?hr ?_; (case hd => rfl); (case hg => rfl); (case hr => first | (go_simp; done) | (go_simp; rfl)); intro b2 hg w17 hbox hb; have n0_ := qb.mk (qo (g := b1) (o := .cells #[.int .i64 a0_0, .int .i64 a0_1, .bool a0_2] 58 (0, 0)) (bk_ b0) hb); have n1_ := qb.mk (qp (be1_ HB b4) hb); have n2_ := qb.mk (hbox); have n3_ := qb.mk ((by rw [hg]; exact (ql (be1_ HB b4)) : w.heap.size ≤ b2)); have n4_ := qb.mk ((by rw [hg]; exact (ql (be1_ HB b4)) : w.heap.size ≤ b2)); have n5_ := qb.mk ((by rw [hg]; exact Nat.ne_of_lt (zd (g := b1) (o := .cells #[.int .i64 a0_0, .int .i64 a0_1, .bool a0_2] 58 (0, 0)) (bk_ b0)) : b1 ≠ b2)); have n6_ := qb.mk ((by rw [hg]; exact Nat.ne_of_gt (zd (g := b1) (o := .cells #[.int .i64 a0_0, .int .i64 a0_1, .bool a0_2] 58 (0, 0)) (bk_ b0)) : b2 ≠ b1)); clear b0; clear HB; have b0 := n0_; have HB := n1_; have b3 := n2_; have b9 := n3_; have b7 := n4_; have b5 := n5_; have b6 := n6_; clear n0_ n1_ n2_ n3_ n4_ n5_ n6_; clear hb hbox hg; have hnb18 := b5.out; have hnc18 := b6.out; have hcz19_0 : w17.cell? ⟨b1, 0, none⟩ = some (.int .i64 a0_0) := (qc b0.out 0).trans rfl; have hcz19_1 : w17.cell? ⟨b1, 1, none⟩ = some (.int .i64 a0_1) := (qc b0.out 1).trans rfl; have hcz19_2 : w17.cell? ⟨b1, 2, none⟩ = some (.bool a0_2) := (qc b0.out 2).trans rfl; have hfz19_0 := qj b0.out 0; have hfz19_1 := qj b0.out 1; have hfz19_2 := qj b0.out 2; have hcz20_0 : w17.cell? ⟨b2, 0, none⟩ = some (.int .i64 a1_0) := (qc b3.out 0).trans rfl; have hcz20_1 : w17.cell? ⟨b2, 1, none⟩ = some (.int .i64 a1_1) := (qc b3.out 1).trans rfl; have hcz20_2 : w17.cell? ⟨b2, 2, none⟩ = some (.bool a1_2) := (qc b3.out 2).trans rfl; have hfz20_0 := qj b3.out 0; have hfz20_1 := qj b3.out 1; have hfz20_2 := qj b3.out 2))
   go_ret
   exact ⟨by first | rfl | (simp [qt, qr] <;> rfl) | (simp [*, qt, qr] <;> rfl), be2_ HB b4 b7⟩
 ·rw [if_neg c3] at H
  have c3b0 : (a0_0 == a1_0) = false := beq_eq_false_iff_ne.mpr c3;have c3b1 : (a0_0 != a1_0) = true := bne_iff_ne.mpr c3;obtain rfl := Option.some.inj H
  go_enter Try.func75, Try.ntmps75
  go_wp2_with (first | ((with_reducible refine ze (N := 2) rfl ?_); refine zc ?hg (N := 2) ?hd (cs := #[.int .i64 a0_0, .int .i64 a0_1, .bool a0_2]) (t := 58) ?hr ?_; (case hd => rfl); (case hg => rfl); (case hr => first | (go_simp; done) | (go_simp; rfl)); intro b1 hg w21 hbox hb; have n0_ := qb.mk (qp (be0_ HB) hb); have n1_ := qb.mk (hbox); have n2_ := qb.mk ((by rw [hg]; exact (ql (be0_ HB)) : w.heap.size ≤ b1)); have n3_ := qb.mk ((by rw [hg]; exact (ql (be0_ HB)) : w.heap.size ≤ b1)); clear HB; have HB := n0_; have b0 := n1_; have b8 := n2_; have b4 := n3_; clear n0_ n1_ n2_ n3_; clear hb hbox hg) | ((with_reducible refine ze (N := 3) rfl ?_); refine zc ?hg (N := 3) ?hd (cs := #[.int .i64 a1_0, .int .i64 a1_1, .bool a1_2]) (t := 58) ?hr ?_; (case hd => rfl); (case hg => rfl); (case hr => first | (go_simp; done) | (go_simp; rfl)); intro b2 hg w22 hbox hb; have n0_ := qb.mk (qo (g := b1) (o := .cells #[.int .i64 a0_0, .int .i64 a0_1, .bool a0_2] 58 (0, 0)) (bk_ b0) hb); have n1_ := qb.mk (qp (be1_ HB b4) hb); have n2_ := qb.mk (hbox); have n3_ := qb.mk ((by rw [hg]; exact (ql (be1_ HB b4)) : w.heap.size ≤ b2)); have n4_ := qb.mk ((by rw [hg]; exact (ql (be1_ HB b4)) : w.heap.size ≤ b2)); have n5_ := qb.mk ((by rw [hg]; exact Nat.ne_of_lt (zd (g := b1) (o := .cells #[.int .i64 a0_0, .int .i64 a0_1, .bool a0_2] 58 (0, 0)) (bk_ b0)) : b1 ≠ b2)); have n6_ := qb.mk ((by rw [hg]; exact Nat.ne_of_gt (zd (g := b1) (o := .cells #[.int .i64 a0_0, .int .i64 a0_1, .bool a0_2] 58 (0, 0)) (bk_ b0)) : b2 ≠ b1)); clear b0; clear HB; have b0 := n0_; have HB := n1_; have b3 := n2_; have b9 := n3_; have b7 := n4_; have b5 := n5_; have b6 := n6_; clear n0_ n1_ n2_ n3_ n4_ n5_ n6_; clear hb hbox hg; have hnb23 := b5.out; have hnc23 := b6.out; have hcz24_0 : w22.cell? ⟨b1, 0, none⟩ = some (.int .i64 a0_0) := (qc b0.out 0).trans rfl; have hcz24_1 : w22.cell? ⟨b1, 1, none⟩ = some (.int .i64 a0_1) := (qc b0.out 1).trans rfl; have hcz24_2 : w22.cell? ⟨b1, 2, none⟩ = some (.bool a0_2) := (qc b0.out 2).trans rfl; have hfz24_0 := qj b0.out 0; have hfz24_1 := qj b0.out 1; have hfz24_2 := qj b0.out 2; have hcz25_0 : w22.cell? ⟨b2, 0, none⟩ = some (.int .i64 a1_0) := (qc b3.out 0).trans rfl; have hcz25_1 : w22.cell? ⟨b2, 1, none⟩ = some (.int .i64 a1_1) := (qc b3.out 1).trans rfl; have hcz25_2 : w22.cell? ⟨b2, 2, none⟩ = some (.bool a1_2) := (qc b3.out 2).trans rfl; have hfz25_0 := qj b3.out 0; have hfz25_1 := qj b3.out 1; have hfz25_2 := qj b3.out 2))
  go_ret
  exact ⟨by first | rfl | (simp [qt, qr] <;> rfl) | (simp [*, qt, qr] <;> rfl), be2_ HB b4 b7⟩
end Go.Proofs.Ytpedofomfhmnfaa.PFnExactNeededBlocks
