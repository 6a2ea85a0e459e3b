/- Cut by wip/cut.py out of the texts of this claim (printed by the kit's printer, or this session's own): what the row's theorem does not reach is struck. Not trusted: Lean checks it. -/
import Derived.Test.YtpedofomfhmnfaaZFnExactNeededBlocksPx0
import Derived.Test.YtpedofomfhmnfaaZFnExactNeededBlocksPx1
import Derived.Test.YtpedofomfhmnfaaZFnExactNeededBlocksPx3
import Derived.Test.YtpedofomfhmnfaaZFnExactNeededBlocksPx4
namespace Go.Proofs.Ytpedofomfhmnfaa.PFnExactNeededBlocks
open Go.RowKit Go.Proofs.YtpedofomfhmnfaaW.PrintWords Go.Proofs.YtpedofomfhmnfaaW.PrintLast Go.Proofs.YtpedofomfhmnfaaW.PrintMore
attribute [local go_sem] max2_int min2_int max_two min_two max_three min_three max_four min_four
set_option linter.unusedVariables false
set_option linter.unusedSimpArgs false
attribute [local go_sem high] eqA58
def spec_avCorner.good (a0_0 a0_1 : Int) (l : List Int) : Bool := decide (l.length = 2) && (decide (0 ≤ rd l 0 ∧ rd l 0 ≤ wrap64 (a0_0 - 1)) && decide (0 ≤ rd l 1 ∧ rd l 1 ≤ wrap64 (a0_1 - 1)))
def spec_avCorner.f (a0_0 a0_1 : Int) (l0_2 : List S58) (l1 : List Int) : Option Bool := some (spec_avCorner.good a0_0 a0_1 l1)
theorem spec_avCorner.within_f (a b c : Int) : spec_l1In.f a b c = some (decide (b ≤ a ∧ a ≤ c)) := by
 unfold spec_l1In.f
 by_cases h : a ≥ b
 ·rw [if_pos h]
  have : b ≤ a := h
  simp [this]
 ·rw [if_neg h]
  have : ¬ b ≤ a := h
  simp [this]
theorem spec_avCorner.ja {a b c : Int} (h : b ≤ a ∧ a ≤ c) (w : World) (n : Nat) : Calls Try.prog 59 #[.int .i64 a, .int .i64 b, .int .i64 c] (w.drewN n) fun e w' => e = .returned (.bool true) ∧ ∃ m, w' = w.drewN m := by
 refine Calls.quiet_of ((spec_l1In.calls a b c true _ (by rw [spec_avCorner.within_f, decide_eq_true h])).mono ?_)
 rintro e w' ⟨he, hd⟩
 exact ⟨he, hd.out⟩
theorem spec_avCorner.within_n {a b c : Int} (h : ¬ (b ≤ a ∧ a ≤ c)) (w : World) (n : Nat) : Calls Try.prog 59 #[.int .i64 a, .int .i64 b, .int .i64 c] (w.drewN n) fun e w' => e = .returned (.bool false) ∧ ∃ m, w' = w.drewN m := by
 refine Calls.quiet_of ((spec_l1In.calls a b c false _ (by rw [spec_avCorner.within_f, decide_eq_false h])).mono ?_)
 rintro e w' ⟨he, hd⟩
 exact ⟨he, hd.out⟩
set_option maxHeartbeats 2000000 in
set_option maxRecDepth 100000 in
theorem spec_avCorner.in_ (a0_0 a0_1 : Int) (V : Value) (A : Option Addr) (c1 : Nat) (l : List Int) (w : World) (hr : Kd.C (Kd.int .i64) w A l.length l) :
  Calls Try.prog 60 #[.agg #[.int .i64 a0_0, .int .i64 a0_1, V], .slice A l.length c1] w fun e w' => e = .returned (.bool (spec_avCorner.good a0_0 a0_1 l)) ∧ Below w.heap.size w w' := by
 have hu := Try.underlying31
 obtain ⟨W, hW⟩ : ∃ W, W = w.alloc (.cells #[.int .i64 a0_0, .int .i64 a0_1, V] 31) := ⟨_, rfl⟩
 have HB := Lib.hid (show Below w.heap.size w W by rw [hW]; exact qd (Below.refl _ _) _)
 have hB : W.heap[w.heap.size]? = some (.cells #[.int .i64 a0_0, .int .i64 a0_1, V] 31 (0, 0)) := by rw [hW]; exact blk_new w _
 have hcz0 : W.cell? ⟨w.heap.size, 0, none⟩ = some (.int .i64 a0_0) := (qc hB 0).trans rfl
 have hcz1 : W.cell? ⟨w.heap.size, 1, none⟩ = some (.int .i64 a0_1) := (qc hB 1).trans rfl
 replace hr := Kd.qz hr (show Below w.heap.size w W by rw [hW]; exact qd (Below.refl _ _) _)
 clear hB
 obtain ⟨m0, hm0⟩ : ∃ m0, IntKind.i64.wrap (a0_0 - 1) = m0 := ⟨_, rfl⟩
 obtain ⟨m1, hm1⟩ : ∃ m1, IntKind.i64.wrap (a0_1 - 1) = m1 := ⟨_, rfl⟩
 have HM0 : wrap64 (a0_0 - 1) = m0 := (IntWalk.i64_left _).symm.trans hm0
 have HM1 : wrap64 (a0_1 - 1) = m1 := (IntWalk.i64_left _).symm.trans hm1
 unfold spec_avCorner.good
 rw [HM0, HM1]
 clear HM0 HM1
 by_cases h2 : l.length = 2
 ·match l, h2 with
  | [x, y], _ =>
  obtain ⟨ad, rfl, hx⟩ := Kd.jc hr 0 (by simp) (by simp)
  obtain ⟨ad', e', hy⟩ := Kd.jc hr 1 (by simp) (by simp)
  obtain rfl := Option.some.inj e'
  have hx0 : W.cell? ad = some (.int .i64 x) := by have h0 : W.cell? (ad.add 0) = some (.int .i64 x) := hx; rwa [show ad.add 0 = ad by simp [Addr.add]] at h0
  clear hx
  have hy1 : W.cell? ⟨ad.block, ad.off + 1, none⟩ = some (.int .i64 y) := by have h0 : W.cell? (ad.add 1) = some (.int .i64 y) := hy; rwa [show ad.add 1 = ⟨ad.block, ad.off + 1, none⟩ by simp [Addr.add]] at h0
  clear hy
  show Calls Try.prog 60 #[.agg #[.int .i64 a0_0, .int .i64 a0_1, V], .slice (some ad) 2 c1] w fun e w' => e = .returned (.bool (true && (decide (0 ≤ x ∧ x ≤ m0) && decide (0 ≤ y ∧ y ≤ m1)))) ∧ Below w.heap.size w w'
  clear e' hr
  by_cases h1 : 0 ≤ x ∧ x ≤ m0
  ·rw [decide_eq_true h1]
   have H1 := Lib.hid h1
   clear h1
   by_cases h3 : 0 ≤ y ∧ y ≤ m1
   ·rw [decide_eq_true h3]
    have H3 := Lib.hid h3
    clear h3
    go_enter Try.func60, Try.ntmps60
    go_wp2
    rw [← hW]
    clear hW
    go_quiet (((first | (go_at_call 59; (with_reducible exact spec_avCorner.ja H1.out W _)) | (go_at_call 59; (with_reducible exact spec_avCorner.ja H3.out W _)))))
    go_wp2
    go_ret
    exact ⟨rfl, qa HB.out _⟩
   ·rw [decide_eq_false h3]
    have H3 := Lib.hid h3
    clear h3
    go_enter Try.func60, Try.ntmps60
    go_wp2
    rw [← hW]
    clear hW
    go_quiet (((first | (go_at_call 59; (with_reducible exact spec_avCorner.ja H1.out W _)) | (go_at_call 59; (with_reducible exact spec_avCorner.within_n H3.out W _)))))
    go_wp2
    go_ret
    exact ⟨rfl, qa HB.out _⟩
  ·rw [decide_eq_false h1]
   have H1 := Lib.hid h1
   clear h1
   go_enter Try.func60, Try.ntmps60
   go_wp2
   rw [← hW]
   clear hW
   go_quiet (((go_at_call 59; (with_reducible exact spec_avCorner.within_n H1.out W _))))
   go_wp2
   go_ret
   exact ⟨rfl, qa HB.out _⟩
 ·rw [decide_eq_false h2]
  have h2' : ¬ (l.length : Int) = 2 := by omega
  have h3 : ((l.length : Int) == 2) = false := by rw [beq_eq_false_iff_ne]; exact h2'
  clear h2 h2' hr
  go_enter Try.func60, Try.ntmps60
  go_wp2
  rw [← hW]
  clear hW
  go_quiet ((fail))
  go_wp2
  go_ret
  exact ⟨rfl, qa HB.out _⟩
theorem spec_avCorner.calls (a0_0 : Int) (a0_1 : Int) (A0_2 : Option Addr) (c0_2 : Nat) (l0_2 : List S58) (A1 : Option Addr) (c1 : Nat) (l1 : List Int) (r : Bool) (w : World) (hr0_2 : Kd.C k58 w A0_2 l0_2.length l0_2) (hc0_2 : l0_2.length ≤ c0_2) (hr1 : Kd.C (Kd.int .i64) w A1 l1.length l1) (hc1 : l1.length ≤ c1) (h : spec_avCorner.f a0_0 a0_1 l0_2 l1 = some r) :
  Calls Try.prog 60 #[.agg #[.int .i64 a0_0, .int .i64 a0_1, .slice A0_2 l0_2.length c0_2], .slice A1 l1.length c1] w fun e w' => e = .returned (.bool r) ∧ Below w.heap.size w w' := by
 obtain rfl := Option.some.inj h
 exact spec_avCorner.in_ a0_0 a0_1 _ A1 c1 l1 w hr1
def spec_avAsked.f (k : Nat) (a0_0 : Int) (a0_1 : Int) (l0_2 : List (S58)) (l1 : List Int) (l2 : List Int) : Option (Bool) := (spec_avGood.f k a0_0 a0_1 l0_2).bind fun t149 => (if t149 = true then ((spec_avCorner.f a0_0 a0_1 l0_2 l1).bind fun t150 => (if t150 = true then ((spec_avCorner.f a0_0 a0_1 l0_2 l2).bind fun t151 => (some t151)) else (some false))) else (some false))
theorem spec_avAsked.mono : ∀ a0 a1 a2 a3 a4 k, LeO (spec_avAsked.f k a0 a1 a2 a3 a4) (spec_avAsked.f (k + 1) a0 a1 a2 a3 a4) := by
 intro a0 a1 a2 a3 a4 k
 unfold spec_avAsked.f
 repeat' first
   | (with_reducible exact spec_avGood.mono _ _ _ _)
   | (with_reducible exact LeO.refl _)
   | (with_reducible exact LeO.none _)
   | (with_reducible refine LeO.ite ?_ ?_)
   | (with_reducible refine LeO.bind ?_ (fun _ => ?_))
   | exact spec_avGood.mono _ _ _ _
   | exact LeO.none _
   | refine LeO.ite ?_ ?_
   | refine LeO.bind ?_ (fun _ => ?_)
set_option maxHeartbeats 8000000 in
set_option maxRecDepth 100000 in
theorem spec_avAsked.calls (k : Nat) (a0_0 : Int) (a0_1 : Int) (A0_2 : Option Addr) (c0_2 : Nat) (l0_2 : List (S58)) (A1 : Option Addr) (c1 : Nat) (l1 : List Int) (A2 : Option Addr) (c2 : Nat) (l2 : List Int) (r : Bool) (w : World) (hr0_2 : Kd.C k58 w A0_2 l0_2.length l0_2) (hc0_2 : l0_2.length ≤ c0_2) (hr1 : Kd.C (Kd.int .i64) w A1 l1.length l1) (hc1 : l1.length ≤ c1) (hr2 : Kd.C (Kd.int .i64) w A2 l2.length l2) (hc2 : l2.length ≤ c2) (h : spec_avAsked.f k a0_0 a0_1 l0_2 l1 l2 = some r) :
  Calls Try.prog 39 #[.agg #[.int .i64 a0_0, .int .i64 a0_1, .slice A0_2 l0_2.length c0_2], .slice A1 l1.length c1, .slice A2 l2.length c2] w fun e w' => e = .returned (.bool r) ∧ Below w.heap.size w w' := by
 have hu31 := Try.underlying31;have HR0_2 := qb.mk hr0_2;have HC0_2 := qb.mk hc0_2;clear hr0_2 hc0_2;have HR1 := qb.mk hr1;have HC1 := qb.mk hc1;clear hr1 hc1;have HR2 := qb.mk hr2;have HC2 := qb.mk hc2;clear hr2 hc2;have HB := qb.mk (Below.refl w.heap.size w);have H : ((spec_avGood.f k a0_0 a0_1 l0_2).bind fun b5 => (if b5 = true then ((spec_avCorner.f a0_0 a0_1 l0_2 l1).bind fun b4 => (if b4 = true then ((spec_avCorner.f a0_0 a0_1 l0_2 l2).bind fun b3 => (some b3)) else (some false))) else (some false))) = some r := h;clear h;replace H := Option.bind_eq_some_iff.mp H;obtain ⟨b5, A40, H⟩ := H;replace H : (if b5 = true then ((spec_avCorner.f a0_0 a0_1 l0_2 l1).bind fun b4 => (if b4 = true then ((spec_avCorner.f a0_0 a0_1 l0_2 l2).bind fun b3 => (some b3)) else (some false))) else (some false)) = some r := H;have A4 := qb.mk A40;clear A40
 by_cases c5 : b5 = true
 ·subst c5
  have H1 : ((spec_avCorner.f a0_0 a0_1 l0_2 l1).bind fun b4 => (if b4 = true then ((spec_avCorner.f a0_0 a0_1 l0_2 l2).bind fun b3 => (some b3)) else (some false))) = some r := by rw [if_pos rfl] at H; exact H
  clear H;have H := H1;clear H1;replace H := Option.bind_eq_some_iff.mp H;obtain ⟨b4, A60, H⟩ := H;replace H : (if b4 = true then ((spec_avCorner.f a0_0 a0_1 l0_2 l2).bind fun b3 => (some b3)) else (some false)) = some r := H;have A6 := qb.mk A60;clear A60
  by_cases c7 : b4 = true
  ·subst c7
   have H1 : ((spec_avCorner.f a0_0 a0_1 l0_2 l2).bind fun b3 => (some b3)) = some r := by rw [if_pos rfl] at H; exact H
   clear H;have H := H1;clear H1;replace H := Option.bind_eq_some_iff.mp H;obtain ⟨b3, A80, H⟩ := H;replace H : (some b3) = some r := H;have A8 := qb.mk A80;clear A80;obtain rfl := Option.some.inj H
   go_enter Try.func39, Try.ntmps39
   go_wp2_with (first | ((with_reducible refine ze (N := 3) rfl ?_); refine zc ?hg (N := 3) ?hd (cs := #[.int .i64 a0_0, .int .i64 a0_1, .slice A0_2 l0_2.length c0_2]) (t := 31) ?hr ?_; (case hd => rfl); (case hg => rfl); (case hr => first | (go_simp; done) | (go_simp; rfl)); intro b1 hg w9 hbox hb; have n0_ := qb.mk (qp (be0_ HB) hb); have n1_ := qb.mk (hbox); have n2_ := qb.mk ((by rw [hg]; exact (ql (be0_ HB)) : w.heap.size ≤ b1)); have n3_ := qb.mk ((by rw [hg]; exact (ql (be0_ HB)) : w.heap.size ≤ b1)); clear HB; have HB := n0_; have b0 := n1_; have b6 := n2_; have b2 := n3_; clear n0_ n1_ n2_ n3_; clear hb hbox hg; have hcz10_0 : w9.cell? ⟨b1, 0, none⟩ = some (.int .i64 a0_0) := (qc b0.out 0).trans rfl; have hcz10_1 : w9.cell? ⟨b1, 1, none⟩ = some (.int .i64 a0_1) := (qc b0.out 1).trans rfl; have hcz10_2 : w9.cell? ⟨b1, 2, none⟩ = some (.slice A0_2 l0_2.length c0_2) := (qc b0.out 2).trans rfl; have hfz10_0 := qj b0.out 0; have hfz10_1 := qj b0.out 1; have hfz10_2 := qj b0.out 2) | ((with_reducible refine qx (f := 58) rfl ?_); refine zl (some 8) rfl rfl Try.func58 (by kernel_rfl) rfl #[.agg #[.int .i64 a0_0, .int .i64 a0_1, .slice A0_2 l0_2.length c0_2]] rfl (by (try simp only [List.map_toArray, List.map_cons, List.map_nil]); first | done | rfl | (simp only [List.length_drop, List.length_take]; rfl)) ?_; (with_reducible refine (spec_avGood.calls k a0_0 a0_1 _ _ l0_2 true _ ?side1 ?side2 A4.out).mono ?_); (case side1 => repeat (first | exact (Kd.qz HR0_2.out HB.out) | (with_reducible refine Kd.za ?_ _) | (with_reducible refine Kd.zb ?_ _) | (with_reducible refine Kd.zf ?_))); (case side2 => exact HC0_2.out); rintro e w11 ⟨rfl, hb⟩; refine ⟨_, rfl, ?_⟩; have n0_ := qb.mk (qo (g := b1) (o := .cells #[.int .i64 a0_0, .int .i64 a0_1, .slice A0_2 l0_2.length c0_2] 31 (0, 0)) (bk_ b0) hb); have n1_ := qb.mk (qp (be1_ HB b2) hb); clear b0; clear HB; have b0 := n0_; have HB := n1_; clear n0_ n1_; (try clear hb); (try clear hb2); (try clear hk); (try clear hi); have hcz12_0 : w11.cell? ⟨b1, 0, none⟩ = some (.int .i64 a0_0) := (qc b0.out 0).trans rfl; have hcz12_1 : w11.cell? ⟨b1, 1, none⟩ = some (.int .i64 a0_1) := (qc b0.out 1).trans rfl; have hcz12_2 : w11.cell? ⟨b1, 2, none⟩ = some (.slice A0_2 l0_2.length c0_2) := (qc b0.out 2).trans rfl; have hfz12_0 := qj b0.out 0; have hfz12_1 := qj b0.out 1; have hfz12_2 := qj b0.out 2) | (go_at_call 60; (with_reducible refine (spec_avCorner.calls a0_0 a0_1 _ _ l0_2 _ _ l1 true _ ?side1 ?side2 ?side3 ?side4 A6.out).mono ?_); (case side1 => repeat (first | exact (Kd.qz HR0_2.out HB.out) | (with_reducible refine Kd.za ?_ _) | (with_reducible refine Kd.zb ?_ _) | (with_reducible refine Kd.zf ?_))); (case side2 => exact HC0_2.out); (case side3 => repeat (first | exact (Kd.qz HR1.out HB.out) | (with_reducible refine Kd.za ?_ _) | (with_reducible refine Kd.zb ?_ _) | (with_reducible refine Kd.zf ?_))); (case side4 => exact HC1.out); rintro e w13 ⟨rfl, hb⟩; have n0_ := qb.mk (qo (g := b1) (o := .cells #[.int .i64 a0_0, .int .i64 a0_1, .slice A0_2 l0_2.length c0_2] 31 (0, 0)) (bk_ b0) hb); have n1_ := qb.mk (qp (be1_ HB b2) hb); clear b0; clear HB; have b0 := n0_; have HB := n1_; clear n0_ n1_; (try clear hb); (try clear hb2); (try clear hk); (try clear hi); have hcz14_0 : w13.cell? ⟨b1, 0, none⟩ = some (.int .i64 a0_0) := (qc b0.out 0).trans rfl; have hcz14_1 : w13.cell? ⟨b1, 1, none⟩ = some (.int .i64 a0_1) := (qc b0.out 1).trans rfl; have hcz14_2 : w13.cell? ⟨b1, 2, none⟩ = some (.slice A0_2 l0_2.length c0_2) := (qc b0.out 2).trans rfl; have hfz14_0 := qj b0.out 0; have hfz14_1 := qj b0.out 1; have hfz14_2 := qj b0.out 2) | (go_at_call 60; (with_reducible refine (spec_avCorner.calls a0_0 a0_1 _ _ l0_2 _ _ l2 b3 _ ?side1 ?side2 ?side3 ?side4 A8.out).mono ?_); (case side1 => repeat (first | exact (Kd.qz HR0_2.out HB.out) | (with_reducible refine Kd.za ?_ _) | (with_reducible refine Kd.zb ?_ _) | (with_reducible refine Kd.zf ?_))); (case side2 => exact HC0_2.out); (case side3 => repeat (first | exact (Kd.qz HR2.out HB.out) | (with_reducible refine Kd.za ?_ _) | (with_reducible refine Kd.zb ?_ _) | (with_reducible refine Kd.zf ?_))); (case side4 => exact HC2.out); rintro e w15 ⟨rfl, hb⟩; have n0_ := qb.mk (qo (g := b1) (o := .cells #[.int .i64 a0_0, .int .i64 a0_1, .slice A0_2 l0_2.length c0_2] 31 (0, 0)) (bk_ b0) hb); have n1_ := qb.mk (qp (be1_ HB b2) hb); clear b0; clear HB; have b0 := n0_; have HB := n1_; clear n0_ n1_; (try clear hb); (try clear hb2); (try clear hk); (try clear hi)))
   go_ret
   exact ⟨by first | rfl | (simp [qt, qr] <;> rfl) | (simp [*, qt, qr] <;> rfl), be1_ HB b2⟩
  ·replace c7 := Bool.eq_false_iff.mpr c7
   subst c7;have H1 : (some false) = some r := by rw [if_neg (show ¬ (false = true) by decide)] at H; exact H
   clear H;have H := H1;clear H1;obtain rfl := Option.some.inj H
   go_enter Try.func39, Try.ntmps39
   go_wp2_with (first | ((with_reducible refine ze (N := 3) rfl ?_); refine zc ?hg (N := 3) ?hd (cs := #[.int .i64 a0_0, .int .i64 a0_1, .slice A0_2 l0_2.length c0_2]) (t := 31) ?hr ?_; (case hd => rfl); (case hg => rfl); (case hr => first | (go_simp; done) | (go_simp; rfl)); intro b1 hg w16 hbox hb; have n0_ := qb.mk (qp (be0_ HB) hb); have n1_ := qb.mk (hbox); have n2_ := qb.mk ((by rw [hg]; exact (ql (be0_ HB)) : w.heap.size ≤ b1)); have n3_ := qb.mk ((by rw [hg]; exact (ql (be0_ HB)) : w.heap.size ≤ b1)); clear HB; have HB := n0_; have b0 := n1_; have b6 := n2_; have b2 := n3_; clear n0_ n1_ n2_ n3_; clear hb hbox hg; have hcz17_0 : w16.cell? ⟨b1, 0, none⟩ = some (.int .i64 a0_0) := (qc b0.out 0).trans rfl; have hcz17_1 : w16.cell? ⟨b1, 1, none⟩ = some (.int .i64 a0_1) := (qc b0.out 1).trans rfl; have hcz17_2 : w16.cell? ⟨b1, 2, none⟩ = some (.slice A0_2 l0_2.length c0_2) := (qc b0.out 2).trans rfl; have hfz17_0 := qj b0.out 0; have hfz17_1 := qj b0.out 1; have hfz17_2 := qj b0.out 2) | ((with_reducible refine qx (f := 58) rfl ?_); refine zl (some 8) rfl rfl Try.func58 (by kernel_rfl) rfl #[.agg #[.int .i64 a0_0, .int .i64 a0_1, .slice A0_2 l0_2.length c0_2]] rfl (by (try simp only [List.map_toArray, List.map_cons, List.map_nil]); first | done | rfl | (simp only [List.length_drop, List.length_take]; rfl)) ?_; (with_reducible refine (spec_avGood.calls k a0_0 a0_1 _ _ l0_2 true _ ?side1 ?side2 A4.out).mono ?_); (case side1 => repeat (first | exact (Kd.qz HR0_2.out HB.out) | (with_reducible refine Kd.za ?_ _) | (with_reducible refine Kd.zb ?_ _) | (with_reducible refine Kd.zf ?_))); (case side2 => exact HC0_2.out); rintro e w18 ⟨rfl, hb⟩; refine ⟨_, rfl, ?_⟩; have n0_ := qb.mk (qo (g := b1) (o := .cells #[.int .i64 a0_0, .int .i64 a0_1, .slice A0_2 l0_2.length c0_2] 31 (0, 0)) (bk_ b0) hb); have n1_ := qb.mk (qp (be1_ HB b2) hb); clear b0; clear HB; have b0 := n0_; have HB := n1_; clear n0_ n1_; (try clear hb); (try clear hb2); (try clear hk); (try clear hi); have hcz19_0 : w18.cell? ⟨b1, 0, none⟩ = some (.int .i64 a0_0) := (qc b0.out 0).trans rfl; have hcz19_1 : w18.cell? ⟨b1, 1, none⟩ = some (.int .i64 a0_1) := (qc b0.out 1).trans rfl; have hcz19_2 : w18.cell? ⟨b1, 2, none⟩ = some (.slice A0_2 l0_2.length c0_2) := (qc b0.out 2).trans rfl; have hfz19_0 := qj b0.out 0; have hfz19_1 := qj b0.out 1; have hfz19_2 := qj b0.out 2) | (go_at_call 60; (with_reducible refine (spec_avCorner.calls a0_0 a0_1 _ _ l0_2 _ _ l1 false _ ?side1 ?side2 ?side3 ?side4 A6.out).mono ?_); (case side1 => repeat (first | exact (Kd.qz HR0_2.out HB.out) | (with_reducible refine Kd.za ?_ _) | (with_reducible refine Kd.zb ?_ _) | (with_reducible refine Kd.zf ?_))); (case side2 => exact HC0_2.out); (case side3 => repeat (first | exact (Kd.qz HR1.out HB.out) | (with_reducible refine Kd.za ?_ _) | (with_reducible refine Kd.zb ?_ _) | (with_reducible refine Kd.zf ?_))); (case side4 => exact HC1.out); rintro e w20 ⟨rfl, hb⟩; have n0_ := qb.mk (qo (g := b1) (o := .cells #[.int .i64 a0_0, .int .i64 a0_1, .slice A0_2 l0_2.length c0_2] 31 (0, 0)) (bk_ b0) hb); have n1_ := qb.mk (qp (be1_ HB b2) hb); clear b0; clear HB; have b0 := n0_; have HB := n1_; clear n0_ n1_; (try clear hb); (try clear hb2); (try clear hk); (try clear hi)))
   go_ret
   exact ⟨by first | rfl | (simp [qt, qr] <;> rfl) | (simp [*, qt, qr] <;> rfl), be1_ HB b2⟩
 ·replace c5 := Bool.eq_false_iff.mpr c5
  subst c5;have H1 : (some false) = some r := by rw [if_neg (show ¬ (false = true) by decide)] at H; exact H
  clear H;have H := H1;clear H1;obtain rfl := Option.some.inj H
  go_enter Try.func39, Try.ntmps39
  go_wp2_with (first | ((with_reducible refine ze (N := 3) rfl ?_); refine zc ?hg (N := 3) ?hd (cs := #[.int .i64 a0_0, .int .i64 a0_1, .slice A0_2 l0_2.length c0_2]) (t := 31) ?hr ?_; (case hd => rfl); (case hg => rfl); (case hr => first | (go_simp; done) | (go_simp; rfl)); intro b1 hg w21 hbox hb; have n0_ := qb.mk (qp (be0_ HB) hb); have n1_ := qb.mk (hbox); have n2_ := qb.mk ((by rw [hg]; exact (ql (be0_ HB)) : w.heap.size ≤ b1)); have n3_ := qb.mk ((by rw [hg]; exact (ql (be0_ HB)) : w.heap.size ≤ b1)); clear HB; have HB := n0_; have b0 := n1_; have b6 := n2_; have b2 := n3_; clear n0_ n1_ n2_ n3_; clear hb hbox hg; have hcz22_0 : w21.cell? ⟨b1, 0, none⟩ = some (.int .i64 a0_0) := (qc b0.out 0).trans rfl; have hcz22_1 : w21.cell? ⟨b1, 1, none⟩ = some (.int .i64 a0_1) := (qc b0.out 1).trans rfl; have hcz22_2 : w21.cell? ⟨b1, 2, none⟩ = some (.slice A0_2 l0_2.length c0_2) := (qc b0.out 2).trans rfl; have hfz22_0 := qj b0.out 0; have hfz22_1 := qj b0.out 1; have hfz22_2 := qj b0.out 2) | ((with_reducible refine qx (f := 58) rfl ?_); refine zl (some 8) rfl rfl Try.func58 (by kernel_rfl) rfl #[.agg #[.int .i64 a0_0, .int .i64 a0_1, .slice A0_2 l0_2.length c0_2]] rfl (by (try simp only [List.map_toArray, List.map_cons, List.map_nil]); first | done | rfl | (simp only [List.length_drop, List.length_take]; rfl)) ?_; (with_reducible refine (spec_avGood.calls k a0_0 a0_1 _ _ l0_2 false _ ?side1 ?side2 A4.out).mono ?_); (case side1 => repeat (first | exact (Kd.qz HR0_2.out HB.out) | (with_reducible refine Kd.za ?_ _) | (with_reducible refine Kd.zb ?_ _) | (with_reducible refine Kd.zf ?_))); (case side2 => exact HC0_2.out); rintro e w23 ⟨rfl, hb⟩; refine ⟨_, rfl, ?_⟩; have n0_ := qb.mk (qo (g := b1) (o := .cells #[.int .i64 a0_0, .int .i64 a0_1, .slice A0_2 l0_2.length c0_2] 31 (0, 0)) (bk_ b0) hb); have n1_ := qb.mk (qp (be1_ HB b2) hb); clear b0; clear HB; have b0 := n0_; have HB := n1_; clear n0_ n1_; (try clear hb); (try clear hb2); (try clear hk); (try clear hi)))
  go_ret
  exact ⟨by first | rfl | (simp [qt, qr] <;> rfl) | (simp [*, qt, qr] <;> rfl), be1_ HB b2⟩
def spec_avShut.l0 : Nat → List (S58) → Int → Int → Int → Int → Bool → Option (Bool)
 | 0, _, _, _, _, _, _ => none
 | k + 1, x8, x9, x10, x154000, x154001, x154002 => if x10 < x9 then (if 0 ≤ x10 then (if x10 < (x8.length : Int) then (if (x154000 == ((qk x8 x10).f0) && (x154001 == ((qk x8 x10).f1) && (x154002 == ((qk x8 x10).f2)))) = true then (some true) else (spec_avShut.l0 k x8 x9 (wrap64 (x10 + 1)) x154000 x154001 x154002)) else (none)) else (none)) else (some false)
def spec_avShut.f (k : Nat) (a0_0 : Int) (a0_1 : Int) (l0_2 : List (S58)) (a1_0 : Int) (a1_1 : Int) (a1_2 : Bool) : Option (Bool) := spec_avShut.l0 k l0_2 (l0_2.length : Int) 0 a1_0 a1_1 a1_2
theorem spec_avShut.zt : ∀ k, (∀ y0 y1 y2 y3 y4 y5, LeO (spec_avShut.l0 k y0 y1 y2 y3 y4 y5) (spec_avShut.l0 (k + 1) y0 y1 y2 y3 y4 y5))
 | 0 => fun _ _ _ _ _ _ r h => by simp [spec_avShut.l0] at h
 | k + 1 => by
  have ih0 := spec_avShut.zt k
  ·intro y0 y1 y2 y3 y4 y5
   unfold spec_avShut.l0
   repeat' first
   | (with_reducible exact ih0 _ _ _ _ _ _)
   | (with_reducible exact LeO.refl _)
   | (with_reducible exact LeO.none _)
   | (with_reducible refine LeO.ite ?_ ?_)
   | (with_reducible refine LeO.bind ?_ (fun _ => ?_))
   | exact ih0 _ _ _ _ _ _
   | exact LeO.none _
   | refine LeO.ite ?_ ?_
   | refine LeO.bind ?_ (fun _ => ?_)
theorem spec_avShut.mono : ∀ a0 a1 a2 a3 a4 a5 k, LeO (spec_avShut.f k a0 a1 a2 a3 a4 a5) (spec_avShut.f (k + 1) a0 a1 a2 a3 a4 a5) := by
 intro a0 a1 a2 a3 a4 a5 k
 have ih0 := spec_avShut.zt k
 unfold spec_avShut.f
 repeat' first
   | (with_reducible exact ih0 _ _ _ _ _ _)
   | (with_reducible exact LeO.refl _)
   | (with_reducible exact LeO.none _)
   | (with_reducible refine LeO.ite ?_ ?_)
   | (with_reducible refine LeO.bind ?_ (fun _ => ?_))
   | exact ih0 _ _ _ _ _ _
   | exact LeO.none _
   | refine LeO.ite ?_ ?_
   | refine LeO.bind ?_ (fun _ => ?_)
set_option maxHeartbeats 8000000 in
set_option maxRecDepth 100000 in
theorem spec_avShut.calls (k : Nat) (a0_0 : Int) (a0_1 : Int) (A0_2 : Option Addr) (c0_2 : Nat) (l0_2 : List (S58)) (a1_0 : Int) (a1_1 : Int) (a1_2 : Bool) (r : Bool) (w : World) (hr0_2 : Kd.C k58 w A0_2 l0_2.length l0_2) (hc0_2 : l0_2.length ≤ c0_2) (h : spec_avShut.f k a0_0 a0_1 l0_2 a1_0 a1_1 a1_2 = some r) :
  Calls Try.prog 51 #[.agg #[.int .i64 a0_0, .int .i64 a0_1, .slice A0_2 l0_2.length c0_2], .agg #[.int .i64 a1_0, .int .i64 a1_1, .bool a1_2]] w fun e w' => e = .returned (.bool r) ∧ Below w.heap.size w w' := by
 have hu31 := Try.underlying31;have hu58 := Try.underlying58;have HR0_2 := qb.mk hr0_2;have HC0_2 := qb.mk hc0_2;clear hr0_2 hc0_2;have HB := qb.mk (Below.refl w.heap.size w);have H : (spec_avShut.l0 k l0_2 (l0_2.length : Int) 0 a1_0 a1_1 a1_2) = some r := h;clear h;have H' := qb.mk H;clear H
 go_enter Try.func51, Try.ntmps51
 go_wp2_with (first | ((with_reducible refine ze (N := 2) rfl ?_); refine zc ?hg (N := 2) ?hd (cs := #[.int .i64 a0_0, .int .i64 a0_1, .slice A0_2 l0_2.length c0_2]) (t := 31) ?hr ?_; (case hd => rfl); (case hg => rfl); (case hr => first | (go_simp; done) | (go_simp; rfl)); intro b2 hg w3 hbox hb; have n0_ := qb.mk (qp (be0_ HB) hb); have n1_ := qb.mk (hbox); have n2_ := qb.mk ((by rw [hg]; exact (ql (be0_ HB)) : w.heap.size ≤ b2)); have n3_ := qb.mk ((by rw [hg]; exact (ql (be0_ HB)) : w.heap.size ≤ b2)); clear HB; have HB := n0_; have b1 := n1_; have d6 := n2_; have b7 := n3_; clear n0_ n1_ n2_ n3_; clear hb hbox hg) | ((with_reducible refine ze (N := 3) rfl ?_); refine zc ?hg (N := 3) ?hd (cs := #[.int .i64 a1_0, .int .i64 a1_1, .bool a1_2]) (t := 58) ?hr ?_; (case hd => rfl); (case hg => rfl); (case hr => first | (go_simp; done) | (go_simp; rfl)); intro b3 hg w4 hbox hb; have n0_ := qb.mk (qo (g := b2) (o := .cells #[.int .i64 a0_0, .int .i64 a0_1, .slice A0_2 l0_2.length c0_2] 31 (0, 0)) (bk_ b1) hb); have n1_ := qb.mk (qp (be1_ HB b7) hb); have n2_ := qb.mk (hbox); have n3_ := qb.mk ((by rw [hg]; exact (ql (be1_ HB b7)) : w.heap.size ≤ b3)); have n4_ := qb.mk ((by rw [hg]; exact (ql (be1_ HB b7)) : w.heap.size ≤ b3)); have n5_ := qb.mk ((by rw [hg]; exact Nat.ne_of_lt (zd (g := b2) (o := .cells #[.int .i64 a0_0, .int .i64 a0_1, .slice A0_2 l0_2.length c0_2] 31 (0, 0)) (bk_ b1)) : b2 ≠ b3)); have n6_ := qb.mk ((by rw [hg]; exact Nat.ne_of_gt (zd (g := b2) (o := .cells #[.int .i64 a0_0, .int .i64 a0_1, .slice A0_2 l0_2.length c0_2] 31 (0, 0)) (bk_ b1)) : b3 ≠ b2)); clear b1; clear HB; have b1 := n0_; have HB := n1_; have b0 := n2_; have d7 := n3_; have b9 := n4_; have d0 := n5_; have d1 := n6_; clear n0_ n1_ n2_ n3_ n4_ n5_ n6_; clear hb hbox hg; have hnb5 := d0.out; have hnc5 := d1.out; have hcz6_0 : w4.cell? ⟨b2, 0, none⟩ = some (.int .i64 a0_0) := (qc b1.out 0).trans rfl; have hcz6_1 : w4.cell? ⟨b2, 1, none⟩ = some (.int .i64 a0_1) := (qc b1.out 1).trans rfl; have hcz6_2 : w4.cell? ⟨b2, 2, none⟩ = some (.slice A0_2 l0_2.length c0_2) := (qc b1.out 2).trans rfl; have hfz6_0 := qj b1.out 0; have hfz6_1 := qj b1.out 1; have hfz6_2 := qj b1.out 2))
 go_loopg [10] k (fun kq v10 w' => ∃ (x10_1 : Int), v10 = .int .i64 x10_1 ∧ qb (spec_avShut.l0 kq l0_2 (l0_2.length : Int) x10_1 a1_0 a1_1 a1_2 = some r) ∧ qb (kq ≤ k) ∧ qb (w'.heap[b2]? = some (.cells #[.int .i64 a0_0, .int .i64 a0_1, (.slice A0_2 l0_2.length c0_2)] 31 (0, 0))) ∧ qb (w'.heap[b3]? = some (.cells #[.int .i64 a1_0, .int .i64 a1_1, .bool a1_2] 58 (0, 0))) ∧ qb (Below w.heap.size w w'))
 case atStart => exact ⟨(0), (by first | rfl | (simp; done) | (simp [*]; done)), H', ⟨Nat.le_refl _⟩, ⟨bk_ b1⟩, ⟨bk_ b0⟩, ⟨be2_ HB b7 b9⟩⟩
 case round =>
  clear H';(try clear hcz6_0);(try clear hcz6_1);(try clear hcz6_2);(try clear hfz6_0);(try clear hfz6_1);(try clear hfz6_2);obtain ⟨x10_1, rfl, HA, HK1, b1, b0, HB⟩ := hrel;cases gk with
  | zero => exact absurd HA.out (by simp [spec_avShut.l0])
  | succ k1 =>
   have H := HA.out;clear HA
   simp only [spec_avShut.l0] at H
   by_cases c7 : x10_1 < (l0_2.length : Int)
   ·rw [if_pos c7] at H
    have c7b0 : decide (x10_1 < (l0_2.length : Int)) = true := decide_eq_true c7;clear c7
    by_cases c8 : 0 ≤ x10_1
    ·rw [if_pos c8] at H
     have c8b0 : decide (0 ≤ x10_1) = true := decide_eq_true c8;clear c8
     by_cases c9 : x10_1 < (l0_2.length : Int)
     ·rw [if_pos c9] at H
      have c9b0 : decide (x10_1 < (l0_2.length : Int)) = true := decide_eq_true c9;clear c9
      by_cases c10 : (a1_0 == ((qk l0_2 x10_1).f0) && (a1_1 == ((qk l0_2 x10_1).f1) && (a1_2 == ((qk l0_2 x10_1).f2)))) = true
      ·rw [if_pos c10] at H
       have c10b0 : (a1_0 == ((qk l0_2 x10_1).f0) && (a1_1 == ((qk l0_2 x10_1).f1) && (a1_2 == ((qk l0_2 x10_1).f2)))) = true := c10
       (try (have c10b1 : decide (a1_0 = ((qk l0_2 x10_1).f0) && (a1_1 == ((qk l0_2 x10_1).f1) && (a1_2 == ((qk l0_2 x10_1).f2)))) = true := by simpa using c10))
       (try (have c10b2 : (a1_0 == ((qk l0_2 x10_1).f0) && (a1_1 == ((qk l0_2 x10_1).f1) && (a1_2 == ((qk l0_2 x10_1).f2)))) = true := by simpa using c10))
       clear c10;obtain rfl := Option.some.inj H;have p154 : 0 ≤ (x10_1 : Int) := of_decide_eq_true (by first | (with_reducible assumption) | assumption);have q154 : x10_1 < (l0_2.length : Int) := of_decide_eq_true (by first | (with_reducible assumption) | assumption);obtain ⟨ad154, e154, hx154_0, hx154_1, hx154_2⟩ := jd HR0_2.out x10_1 p154 q154;cases e154;replace hx154_0 := (HB.out.cell (World.block_lt_of_cell? w _ hx154_0)).trans hx154_0;replace hx154_1 := (HB.out.cell (World.block_lt_of_cell? w _ hx154_1)).trans hx154_1;replace hx154_2 := (HB.out.cell (World.block_lt_of_cell? w _ hx154_2)).trans hx154_2;replace p154 := eq_true p154;replace q154 := eq_true q154
       go_wp2_with (first | ((with_reducible refine ze (N := 6) rfl ?_); refine zc ?hg (N := 6) ?hd (cs := #[.int .i64 0, .int .i64 0, .bool false]) (t := 58) ?hr ?_; (case hd => rfl); (case hg => rfl); (case hr => first | (go_simp; done) | (go_simp; rfl)); intro b4 hg w11 hbox hb; have n0_ := qb.mk (qo (g := b2) (o := .cells #[.int .i64 a0_0, .int .i64 a0_1, .slice (some ad154) l0_2.length c0_2] 31 (0, 0)) (bk_ b1) hb); have n1_ := qb.mk (qo (g := b3) (o := .cells #[.int .i64 a1_0, .int .i64 a1_1, .bool a1_2] 58 (0, 0)) (bk_ b0) hb); have n2_ := qb.mk (qp (be2_ HB b7 b9) hb); have n3_ := qb.mk (hbox); have n4_ := qb.mk ((by rw [hg]; exact (ql (be2_ HB b7 b9)) : w.heap.size ≤ b4)); have n5_ := qb.mk ((by rw [hg]; exact (ql (be2_ HB b7 b9)) : w.heap.size ≤ b4)); have n6_ := qb.mk ((by rw [hg]; exact Nat.ne_of_lt (zd (g := b2) (o := .cells #[.int .i64 a0_0, .int .i64 a0_1, .slice (some ad154) l0_2.length c0_2] 31 (0, 0)) (bk_ b1)) : b2 ≠ b4)); have n7_ := qb.mk ((by rw [hg]; exact Nat.ne_of_gt (zd (g := b2) (o := .cells #[.int .i64 a0_0, .int .i64 a0_1, .slice (some ad154) l0_2.length c0_2] 31 (0, 0)) (bk_ b1)) : b4 ≠ b2)); have n8_ := qb.mk ((by rw [hg]; exact Nat.ne_of_lt (zd (g := b3) (o := .cells #[.int .i64 a1_0, .int .i64 a1_1, .bool a1_2] 58 (0, 0)) (bk_ b0)) : b3 ≠ b4)); have n9_ := qb.mk ((by rw [hg]; exact Nat.ne_of_gt (zd (g := b3) (o := .cells #[.int .i64 a1_0, .int .i64 a1_1, .bool a1_2] 58 (0, 0)) (bk_ b0)) : b4 ≠ b3)); clear b1; clear b0; clear HB; have b1 := n0_; have b0 := n1_; have HB := n2_; have b8 := n3_; have d5 := n4_; have d4 := n5_; have b5 := n6_; have d2 := n7_; have b6 := n8_; have d3 := n9_; clear n0_ n1_ n2_ n3_ n4_ n5_ n6_ n7_ n8_ n9_; clear hb hbox hg; have hnb12 := d2.out; have hnc12 := b5.out; have hnb13 := d3.out; have hnc13 := b6.out; have hcz14_0 : w11.cell? ⟨b4, 0, none⟩ = some (.int .i64 0) := (qc b8.out 0).trans rfl; have hcz14_1 : w11.cell? ⟨b4, 1, none⟩ = some (.int .i64 0) := (qc b8.out 1).trans rfl; have hcz14_2 : w11.cell? ⟨b4, 2, none⟩ = some (.bool false) := (qc b8.out 2).trans rfl; have hfz14_0 := qj b8.out 0; have hfz14_1 := qj b8.out 1; have hfz14_2 := qj b8.out 2; have hnb15 := d1.out; have hnc15 := d0.out; have hcz16_0 : w11.cell? ⟨b3, 0, none⟩ = some (.int .i64 a1_0) := (qc b0.out 0).trans rfl; have hcz16_1 : w11.cell? ⟨b3, 1, none⟩ = some (.int .i64 a1_1) := (qc b0.out 1).trans rfl; have hcz16_2 : w11.cell? ⟨b3, 2, none⟩ = some (.bool a1_2) := (qc b0.out 2).trans rfl; have hfz16_0 := qj b0.out 0; have hfz16_1 := qj b0.out 1; have hfz16_2 := qj b0.out 2))
       go_ret
       exact ⟨by first | rfl | (simp [qt, qr] <;> rfl) | (simp [*, qt, qr] <;> rfl), be3_ HB b7 b9 d4⟩
      ·rw [if_neg c10] at H
       have c10b0 : (a1_0 == ((qk l0_2 x10_1).f0) && (a1_1 == ((qk l0_2 x10_1).f1) && (a1_2 == ((qk l0_2 x10_1).f2)))) = false := by simpa using c10
       (try (have c10b1 : decide (a1_0 = ((qk l0_2 x10_1).f0) && (a1_1 == ((qk l0_2 x10_1).f1) && (a1_2 == ((qk l0_2 x10_1).f2)))) = false := by simpa using c10))
       (try (have c10b2 : (a1_0 == ((qk l0_2 x10_1).f0) && (a1_1 == ((qk l0_2 x10_1).f1) && (a1_2 == ((qk l0_2 x10_1).f2)))) = false := by simpa using c10))
       (try (have c10b3 : ¬ (a1_0 = ((qk l0_2 x10_1).f0) && (a1_1 == ((qk l0_2 x10_1).f1) && (a1_2 == ((qk l0_2 x10_1).f2)))) := by simpa using c10))
       clear c10;have H' := qb.mk H;clear H;have p154 : 0 ≤ (x10_1 : Int) := of_decide_eq_true (by first | (with_reducible assumption) | assumption);have q154 : x10_1 < (l0_2.length : Int) := of_decide_eq_true (by first | (with_reducible assumption) | assumption);obtain ⟨ad154, e154, hx154_0, hx154_1, hx154_2⟩ := jd HR0_2.out x10_1 p154 q154;cases e154;replace hx154_0 := (HB.out.cell (World.block_lt_of_cell? w _ hx154_0)).trans hx154_0;replace hx154_1 := (HB.out.cell (World.block_lt_of_cell? w _ hx154_1)).trans hx154_1;replace hx154_2 := (HB.out.cell (World.block_lt_of_cell? w _ hx154_2)).trans hx154_2;replace p154 := eq_true p154;replace q154 := eq_true q154
       go_wp2_with (first | ((with_reducible refine ze (N := 6) rfl ?_); refine zc ?hg (N := 6) ?hd (cs := #[.int .i64 0, .int .i64 0, .bool false]) (t := 58) ?hr ?_; (case hd => rfl); (case hg => rfl); (case hr => first | (go_simp; done) | (go_simp; rfl)); intro b4 hg w17 hbox hb; have n0_ := qb.mk (qo (g := b2) (o := .cells #[.int .i64 a0_0, .int .i64 a0_1, .slice (some ad154) l0_2.length c0_2] 31 (0, 0)) (bk_ b1) hb); have n1_ := qb.mk (qo (g := b3) (o := .cells #[.int .i64 a1_0, .int .i64 a1_1, .bool a1_2] 58 (0, 0)) (bk_ b0) hb); have n2_ := qb.mk (qp (be2_ HB b7 b9) hb); have n3_ := qb.mk (hbox); have n4_ := qb.mk ((by rw [hg]; exact (ql (be2_ HB b7 b9)) : w.heap.size ≤ b4)); have n5_ := qb.mk ((by rw [hg]; exact (ql (be2_ HB b7 b9)) : w.heap.size ≤ b4)); have n6_ := qb.mk ((by rw [hg]; exact Nat.ne_of_lt (zd (g := b2) (o := .cells #[.int .i64 a0_0, .int .i64 a0_1, .slice (some ad154) l0_2.length c0_2] 31 (0, 0)) (bk_ b1)) : b2 ≠ b4)); have n7_ := qb.mk ((by rw [hg]; exact Nat.ne_of_gt (zd (g := b2) (o := .cells #[.int .i64 a0_0, .int .i64 a0_1, .slice (some ad154) l0_2.length c0_2] 31 (0, 0)) (bk_ b1)) : b4 ≠ b2)); have n8_ := qb.mk ((by rw [hg]; exact Nat.ne_of_lt (zd (g := b3) (o := .cells #[.int .i64 a1_0, .int .i64 a1_1, .bool a1_2] 58 (0, 0)) (bk_ b0)) : b3 ≠ b4)); have n9_ := qb.mk ((by rw [hg]; exact Nat.ne_of_gt (zd (g := b3) (o := .cells #[.int .i64 a1_0, .int .i64 a1_1, .bool a1_2] 58 (0, 0)) (bk_ b0)) : b4 ≠ b3)); clear b1; clear b0; clear HB; have b1 := n0_; have b0 := n1_; have HB := n2_; have b8 := n3_; have d5 := n4_; have d4 := n5_; have b5 := n6_; have d2 := n7_; have b6 := n8_; have d3 := n9_; clear n0_ n1_ n2_ n3_ n4_ n5_ n6_ n7_ n8_ n9_; clear hb hbox hg; have hnb18 := d2.out; have hnc18 := b5.out; have hnb19 := d3.out; have hnc19 := b6.out; have hcz20_0 : w17.cell? ⟨b4, 0, none⟩ = some (.int .i64 0) := (qc b8.out 0).trans rfl; have hcz20_1 : w17.cell? ⟨b4, 1, none⟩ = some (.int .i64 0) := (qc b8.out 1).trans rfl; have hcz20_2 : w17.cell? ⟨b4, 2, none⟩ = some (.bool false) := (qc b8.out 2).trans rfl; have hfz20_0 := qj b8.out 0; have hfz20_1 := qj b8.out 1; have hfz20_2 := qj b8.out 2; have hnb21 := d1.out; have hnc21 := d0.out; have hcz22_0 : w17.cell? ⟨b3, 0, none⟩ = some (.int .i64 a1_0) := (qc b0.out 0).trans rfl; have hcz22_1 : w17.cell? ⟨b3, 1, none⟩ = some (.int .i64 a1_1) := (qc b0.out 1).trans rfl; have hcz22_2 : w17.cell? ⟨b3, 2, none⟩ = some (.bool a1_2) := (qc b0.out 2).trans rfl; have hfz22_0 := qj b0.out 0; have hfz22_1 := qj b0.out 1; have hfz22_2 := qj b0.out 2))
       go_roundg k1
       case measure => have := HK1.out; omega
       case rel => exact ⟨(wrap64 (x10_1 + 1)), (by first | rfl | (simp; done) | (simp [*]; done)), H', ⟨by have := HK1.out; omega⟩, ⟨by (with_reducible repeat (first | refine qh ?_ _ | refine qi ?_ | refine qg ?_ _)); refine zk ?_ b5.out _; (with_reducible repeat (first | refine qh ?_ _ | refine qi ?_ | refine qg ?_ _)); refine zk ?_ b5.out _; (with_reducible repeat (first | refine qh ?_ _ | refine qi ?_ | refine qg ?_ _)); refine zk ?_ b5.out _; (with_reducible repeat (first | refine qh ?_ _ | refine qi ?_ | refine qg ?_ _)); exact b1.out⟩, ⟨by (with_reducible repeat (first | refine qh ?_ _ | refine qi ?_ | refine qg ?_ _)); refine zk ?_ b6.out _; (with_reducible repeat (first | refine qh ?_ _ | refine qi ?_ | refine qg ?_ _)); refine zk ?_ b6.out _; (with_reducible repeat (first | refine qh ?_ _ | refine qi ?_ | refine qg ?_ _)); refine zk ?_ b6.out _; (with_reducible repeat (first | refine qh ?_ _ | refine qi ?_ | refine qg ?_ _)); exact b0.out⟩, ⟨be3_ HB b7 b9 d4⟩⟩
     ·rw [if_neg c9] at H
      exact absurd H (by simp)
    ·rw [if_neg c8] at H
     exact absurd H (by simp)
   ·rw [if_neg c7] at H
    have c7b0 : decide (x10_1 < (l0_2.length : Int)) = false := decide_eq_false c7;clear c7;obtain rfl := Option.some.inj H
    go_wp2
    go_ret
    exact ⟨by first | rfl | (simp [qt, qr] <;> rfl) | (simp [*, qt, qr] <;> rfl), be2_ HB b7 b9⟩
def spec_avStep.j0 : Nat → Int → Int → Int → Int → List (S58) → Int → Int → Bool → Option (Int × Int × Bool)
 | 0, _, _, _, _, _, _, _, _ => none
 | k + 1, x12, x13, x157000, x157001, x157002, x158000, x158001, x158002 => (spec_avIs.f k x157000 x157001 x158000 x158001 x158002).bind fun t158 => (if t158 = true then ((spec_avShut.f k x157000 x157001 x157002 x158000 x158001 x158002).bind fun t159 => (if t159 = true then (some (0, 0, false)) else (some (x12, x13, true)))) else (some (0, 0, false)))
def spec_avStep.f (k : Nat) (a0_0 : Int) (a0_1 : Int) (l0_2 : List (S58)) (a1 : Int) (a2 : Int) (a3 : Int) : Option (Int × Int × Bool) := if a3 = 101 then (spec_avStep.j0 k (wrap64 (a1 + 1)) a2 a0_0 a0_1 l0_2 a1 a2 false) else (if a3 = 119 then (spec_avStep.j0 k (wrap64 (a1 - 1)) a2 a0_0 a0_1 l0_2 (wrap64 (a1 - 1)) a2 false) else (if a3 = 110 then (spec_avStep.j0 k a1 (wrap64 (a2 + 1)) a0_0 a0_1 l0_2 a1 a2 true) else (if a3 = 115 then (spec_avStep.j0 k a1 (wrap64 (a2 - 1)) a0_0 a0_1 l0_2 a1 (wrap64 (a2 - 1)) true) else (some (0, 0, false)))))
theorem spec_avStep.zt : ∀ k, (∀ y0 y1 y2 y3 y4 y5 y6 y7, LeO (spec_avStep.j0 k y0 y1 y2 y3 y4 y5 y6 y7) (spec_avStep.j0 (k + 1) y0 y1 y2 y3 y4 y5 y6 y7))
 | 0 => fun _ _ _ _ _ _ _ _ r h => by simp [spec_avStep.j0] at h
 | k + 1 => by
  have ih0 := spec_avStep.zt k
  ·intro y0 y1 y2 y3 y4 y5 y6 y7
   unfold spec_avStep.j0
   repeat' first
   | (with_reducible exact ih0 _ _ _ _ _ _ _ _)
   | (with_reducible exact spec_avIs.mono _ _ _ _ _ _)
   | (with_reducible exact spec_avShut.mono _ _ _ _ _ _ _)
   | (with_reducible exact LeO.refl _)
   | (with_reducible exact LeO.none _)
   | (with_reducible refine LeO.ite ?_ ?_)
   | (with_reducible refine LeO.bind ?_ (fun _ => ?_))
   | exact ih0 _ _ _ _ _ _ _ _
   | exact spec_avIs.mono _ _ _ _ _ _
   | exact spec_avShut.mono _ _ _ _ _ _ _
   | exact LeO.none _
   | refine LeO.ite ?_ ?_
   | refine LeO.bind ?_ (fun _ => ?_)
theorem spec_avStep.mono : ∀ a0 a1 a2 a3 a4 a5 k, LeO (spec_avStep.f k a0 a1 a2 a3 a4 a5) (spec_avStep.f (k + 1) a0 a1 a2 a3 a4 a5) := by
 intro a0 a1 a2 a3 a4 a5 k
 have ih0 := spec_avStep.zt k
 unfold spec_avStep.f
 repeat' first
   | (with_reducible exact ih0 _ _ _ _ _ _ _ _)
   | (with_reducible exact spec_avIs.mono _ _ _ _ _ _)
   | (with_reducible exact spec_avShut.mono _ _ _ _ _ _ _)
   | (with_reducible exact LeO.refl _)
   | (with_reducible exact LeO.none _)
   | (with_reducible refine LeO.ite ?_ ?_)
   | (with_reducible refine LeO.bind ?_ (fun _ => ?_))
   | exact ih0 _ _ _ _ _ _ _ _
   | exact spec_avIs.mono _ _ _ _ _ _
   | exact spec_avShut.mono _ _ _ _ _ _ _
   | exact LeO.none _
   | refine LeO.ite ?_ ?_
   | refine LeO.bind ?_ (fun _ => ?_)
set_option maxHeartbeats 8000000 in
set_option maxRecDepth 100000 in
theorem spec_avStep.calls (k : Nat) (a0_0 : Int) (a0_1 : Int) (A0_2 : Option Addr) (c0_2 : Nat) (l0_2 : List (S58)) (a1 : Int) (a2 : Int) (a3 : Int) (r1 : Int) (r2 : Int) (r3 : Bool) (w : World) (hr0_2 : Kd.C k58 w A0_2 l0_2.length l0_2) (hc0_2 : l0_2.length ≤ c0_2) (h : spec_avStep.f k a0_0 a0_1 l0_2 a1 a2 a3 = some (r1, r2, r3)) :
  Calls Try.prog 42 #[.agg #[.int .i64 a0_0, .int .i64 a0_1, .slice A0_2 l0_2.length c0_2], .int .i64 a1, .int .i64 a2, .int .u8 a3] w fun e w' => e = .returned (.tuple #[.int .i64 r1, .int .i64 r2, .bool r3]) ∧ Below w.heap.size w w' := by
 have hu31 := Try.underlying31;have hu58 := Try.underlying58;have HR0_2 := qb.mk hr0_2;have HC0_2 := qb.mk hc0_2;clear hr0_2 hc0_2;have HB := qb.mk (Below.refl w.heap.size w);have H : (if a3 = 101 then (spec_avStep.j0 k (wrap64 (a1 + 1)) a2 a0_0 a0_1 l0_2 a1 a2 false) else (if a3 = 119 then (spec_avStep.j0 k (wrap64 (a1 - 1)) a2 a0_0 a0_1 l0_2 (wrap64 (a1 - 1)) a2 false) else (if a3 = 110 then (spec_avStep.j0 k a1 (wrap64 (a2 + 1)) a0_0 a0_1 l0_2 a1 a2 true) else (if a3 = 115 then (spec_avStep.j0 k a1 (wrap64 (a2 - 1)) a0_0 a0_1 l0_2 a1 (wrap64 (a2 - 1)) true) else (some (0, 0, false)))))) = some (r1, r2, r3) := h;clear h;have HC5 := qb.mk H;clear H
 go_enter Try.func42, Try.ntmps42
 go_upto_block 0 with (first | ((with_reducible refine ze (N := 4) rfl ?_); refine zc ?hg (N := 4) ?hd (cs := #[.int .i64 a0_0, .int .i64 a0_1, .slice A0_2 l0_2.length c0_2]) (t := 31) ?hr ?_; (case hd => rfl); (case hg => rfl); (case hr => first | (go_simp; done) | (go_simp; rfl)); intro b4 hg w6 hbox hb; have n0_ := qb.mk (qp (be0_ HB) hb); have n1_ := qb.mk (hbox); have n2_ := qb.mk ((by rw [hg]; exact (ql (be0_ HB)) : w.heap.size ≤ b4)); have n3_ := qb.mk ((by rw [hg]; exact (ql (be0_ HB)) : w.heap.size ≤ b4)); clear HB; have HB := n0_; have b1 := n1_; have d0 := n2_; have b6 := n3_; clear n0_ n1_ n2_ n3_; clear hb hbox hg) | ((with_reducible refine ze (N := 11) rfl ?_); refine zc ?hg (N := 11) ?hd (cs := #[.int .i64 0, .int .i64 0, .bool false]) (t := 58) ?hr ?_; (case hd => rfl); (case hg => rfl); (case hr => first | (go_simp; done) | (go_simp; rfl)); intro b3 hg w7 hbox hb; have n0_ := qb.mk (qo (g := b4) (o := .cells #[.int .i64 a0_0, .int .i64 a0_1, .slice A0_2 l0_2.length c0_2] 31 (0, 0)) (bk_ b1) hb); have n1_ := qb.mk (qp (be1_ HB b6) hb); have n2_ := qb.mk (hbox); have n3_ := qb.mk ((by rw [hg]; exact (ql (be1_ HB b6)) : w.heap.size ≤ b3)); have n4_ := qb.mk ((by rw [hg]; exact (ql (be1_ HB b6)) : w.heap.size ≤ b3)); have n5_ := qb.mk ((by rw [hg]; exact Nat.ne_of_lt (zd (g := b4) (o := .cells #[.int .i64 a0_0, .int .i64 a0_1, .slice A0_2 l0_2.length c0_2] 31 (0, 0)) (bk_ b1)) : b4 ≠ b3)); have n6_ := qb.mk ((by rw [hg]; exact Nat.ne_of_gt (zd (g := b4) (o := .cells #[.int .i64 a0_0, .int .i64 a0_1, .slice A0_2 l0_2.length c0_2] 31 (0, 0)) (bk_ b1)) : b3 ≠ b4)); clear b1; clear HB; have b1 := n0_; have HB := n1_; have b0 := n2_; have d1 := n3_; have b7 := n4_; have b2 := n5_; have b5 := n6_; clear n0_ n1_ n2_ n3_ n4_ n5_ n6_; clear hb hbox hg; have hnb8 := b5.out; have hnc8 := b2.out; have hcz9_0 : w7.cell? ⟨b3, 0, none⟩ = some (.int .i64 0) := (qc b0.out 0).trans rfl; have hcz9_1 : w7.cell? ⟨b3, 1, none⟩ = some (.int .i64 0) := (qc b0.out 1).trans rfl; have hcz9_2 : w7.cell? ⟨b3, 2, none⟩ = some (.bool false) := (qc b0.out 2).trans rfl; have hfz9_0 := qj b0.out 0; have hfz9_1 := qj b0.out 1; have hfz9_2 := qj b0.out 2))
 (try simp only [Act.put, sA_, sB_, sC_])
 go_cut [12, 13] (fun v12 v13 wc => ∃ (kq : Nat) (x12_4 : Int) (x13_4 : Int) (x158000_4 : Int) (x158001_4 : Int) (x158002_4 : Bool), v12 = .int .i64 x12_4 ∧ v13 = .int .i64 x13_4 ∧ qb (spec_avStep.j0 kq x12_4 x13_4 a0_0 a0_1 l0_2 x158000_4 x158001_4 x158002_4 = some (r1, r2, r3)) ∧ qb (kq ≤ k) ∧ qb (wc.heap[b4]? = some (.cells #[.int .i64 a0_0, .int .i64 a0_1, (.slice A0_2 l0_2.length c0_2)] 31 (0, 0))) ∧ qb (wc.heap[b3]? = some (.cells #[.int .i64 x158000_4, .int .i64 x158001_4, .bool x158002_4] 58 (0, 0))) ∧ qb (Below w.heap.size w wc))
 case first =>
  have H := HC5.out;clear HC5
  by_cases c10 : a3 = 101
  ·rw [if_pos c10] at H
   have c10b0 : (a3 == 101) = true := beq_iff_eq.mpr c10;have c10b1 : (a3 != 101) = false := bne_eq_false_iff_eq.mpr c10;clear c10
   (first | rw [c10b0] | (simp only [i64_w, i32_w]; rw [c10b0]) | skip)
   have H' := qb.mk H;clear H
   go_wp2
   go_meet
   case rel => exact ⟨_, (wrap64 (a1 + 1)), (a2), (a1), (a2), (false), (by first | rfl | (simp; done) | (simp [*]; done)), (by first | rfl | (simp; done) | (simp [*]; done)), H', ⟨by first | omega | exact Nat.le_refl _⟩, ⟨by (with_reducible repeat (first | refine qh ?_ _ | refine qi ?_ | refine qg ?_ _)); refine zk ?_ b2.out _; (with_reducible repeat (first | refine qh ?_ _ | refine qi ?_ | refine qg ?_ _)); refine zk ?_ b2.out _; (with_reducible repeat (first | refine qh ?_ _ | refine qi ?_ | refine qg ?_ _)); refine zk ?_ b2.out _; (with_reducible repeat (first | refine qh ?_ _ | refine qi ?_ | refine qg ?_ _)); exact b1.out⟩, ⟨by (with_reducible repeat (first | refine qh ?_ _ | refine qi ?_ | refine qg ?_ _)); refine zj (cs := #[.int .i64 a1, .int .i64 a2, .bool false]) ?_ 2 _ rfl; (with_reducible repeat (first | refine qh ?_ _ | refine qi ?_ | refine qg ?_ _)); refine zj (cs := #[.int .i64 a1, .int .i64 0, .bool false]) ?_ 1 _ rfl; (with_reducible repeat (first | refine qh ?_ _ | refine qi ?_ | refine qg ?_ _)); refine zj (cs := #[.int .i64 0, .int .i64 0, .bool false]) ?_ 0 _ rfl; (with_reducible repeat (first | refine qh ?_ _ | refine qi ?_ | refine qg ?_ _)); exact b0.out⟩, ⟨be2_ HB b6 b7⟩⟩
  ·rw [if_neg c10] at H
   have c10b0 : (a3 == 101) = false := beq_eq_false_iff_ne.mpr c10;have c10b1 : (a3 != 101) = true := bne_iff_ne.mpr c10
   (first | rw [c10b0] | (simp only [i64_w, i32_w]; rw [c10b0]) | skip)
   by_cases c11 : a3 = 119
   ·rw [if_pos c11] at H
    have c11b0 : (a3 == 119) = true := beq_iff_eq.mpr c11;have c11b1 : (a3 != 119) = false := bne_eq_false_iff_eq.mpr c11;clear c11;have H' := qb.mk H;clear H;have hnb12 := b5.out;have hnc12 := b2.out;have hcz13_0 : w7.cell? ⟨b3, 0, none⟩ = some (.int .i64 0) := (qc b0.out 0).trans rfl;have hcz13_1 : w7.cell? ⟨b3, 1, none⟩ = some (.int .i64 0) := (qc b0.out 1).trans rfl;have hcz13_2 : w7.cell? ⟨b3, 2, none⟩ = some (.bool false) := (qc b0.out 2).trans rfl;have hfz13_0 := qj b0.out 0;have hfz13_1 := qj b0.out 1;have hfz13_2 := qj b0.out 2
    go_wp2
    go_meet
    case rel => exact ⟨_, (wrap64 (a1 - 1)), (a2), (wrap64 (a1 - 1)), (a2), (false), (by first | rfl | (simp; done) | (simp [*]; done)), (by first | rfl | (simp; done) | (simp [*]; done)), H', ⟨by first | omega | exact Nat.le_refl _⟩, ⟨by (with_reducible repeat (first | refine qh ?_ _ | refine qi ?_ | refine qg ?_ _)); refine zk ?_ b2.out _; (with_reducible repeat (first | refine qh ?_ _ | refine qi ?_ | refine qg ?_ _)); refine zk ?_ b2.out _; (with_reducible repeat (first | refine qh ?_ _ | refine qi ?_ | refine qg ?_ _)); refine zk ?_ b2.out _; (with_reducible repeat (first | refine qh ?_ _ | refine qi ?_ | refine qg ?_ _)); refine zk ?_ b2.out _; (with_reducible repeat (first | refine qh ?_ _ | refine qi ?_ | refine qg ?_ _)); exact b1.out⟩, ⟨by (with_reducible repeat (first | refine qh ?_ _ | refine qi ?_ | refine qg ?_ _)); refine zj (cs := #[.int .i64 a1, .int .i64 a2, .bool false]) ?_ 0 _ rfl; (with_reducible repeat (first | refine qh ?_ _ | refine qi ?_ | refine qg ?_ _)); refine zj (cs := #[.int .i64 a1, .int .i64 a2, .bool false]) ?_ 2 _ rfl; (with_reducible repeat (first | refine qh ?_ _ | refine qi ?_ | refine qg ?_ _)); refine zj (cs := #[.int .i64 a1, .int .i64 0, .bool false]) ?_ 1 _ rfl; (with_reducible repeat (first | refine qh ?_ _ | refine qi ?_ | refine qg ?_ _)); refine zj (cs := #[.int .i64 0, .int .i64 0, .bool false]) ?_ 0 _ rfl; (with_reducible repeat (first | refine qh ?_ _ | refine qi ?_ | refine qg ?_ _)); exact b0.out⟩, ⟨be2_ HB b6 b7⟩⟩
   ·rw [if_neg c11] at H
    have c11b0 : (a3 == 119) = false := beq_eq_false_iff_ne.mpr c11;have c11b1 : (a3 != 119) = true := bne_iff_ne.mpr c11
    by_cases c14 : a3 = 110
    ·rw [if_pos c14] at H
     have c14b0 : (a3 == 110) = true := beq_iff_eq.mpr c14;have c14b1 : (a3 != 110) = false := bne_eq_false_iff_eq.mpr c14;clear c14;have H' := qb.mk H;clear H;have hnb15 := b5.out;have hnc15 := b2.out;have hcz16_0 : w7.cell? ⟨b3, 0, none⟩ = some (.int .i64 0) := (qc b0.out 0).trans rfl;have hcz16_1 : w7.cell? ⟨b3, 1, none⟩ = some (.int .i64 0) := (qc b0.out 1).trans rfl;have hcz16_2 : w7.cell? ⟨b3, 2, none⟩ = some (.bool false) := (qc b0.out 2).trans rfl;have hfz16_0 := qj b0.out 0;have hfz16_1 := qj b0.out 1;have hfz16_2 := qj b0.out 2
     go_wp2
     go_meet
     case rel => exact ⟨_, (a1), (wrap64 (a2 + 1)), (a1), (a2), (true), (by first | rfl | (simp; done) | (simp [*]; done)), (by first | rfl | (simp; done) | (simp [*]; done)), H', ⟨by first | omega | exact Nat.le_refl _⟩, ⟨by (with_reducible repeat (first | refine qh ?_ _ | refine qi ?_ | refine qg ?_ _)); refine zk ?_ b2.out _; (with_reducible repeat (first | refine qh ?_ _ | refine qi ?_ | refine qg ?_ _)); refine zk ?_ b2.out _; (with_reducible repeat (first | refine qh ?_ _ | refine qi ?_ | refine qg ?_ _)); refine zk ?_ b2.out _; (with_reducible repeat (first | refine qh ?_ _ | refine qi ?_ | refine qg ?_ _)); refine zk ?_ b2.out _; (with_reducible repeat (first | refine qh ?_ _ | refine qi ?_ | refine qg ?_ _)); exact b1.out⟩, ⟨by (with_reducible repeat (first | refine qh ?_ _ | refine qi ?_ | refine qg ?_ _)); refine zj (cs := #[.int .i64 a1, .int .i64 a2, .bool false]) ?_ 2 _ rfl; (with_reducible repeat (first | refine qh ?_ _ | refine qi ?_ | refine qg ?_ _)); refine zj (cs := #[.int .i64 a1, .int .i64 a2, .bool false]) ?_ 2 _ rfl; (with_reducible repeat (first | refine qh ?_ _ | refine qi ?_ | refine qg ?_ _)); refine zj (cs := #[.int .i64 a1, .int .i64 0, .bool false]) ?_ 1 _ rfl; (with_reducible repeat (first | refine qh ?_ _ | refine qi ?_ | refine qg ?_ _)); refine zj (cs := #[.int .i64 0, .int .i64 0, .bool false]) ?_ 0 _ rfl; (with_reducible repeat (first | refine qh ?_ _ | refine qi ?_ | refine qg ?_ _)); exact b0.out⟩, ⟨be2_ HB b6 b7⟩⟩
    ·rw [if_neg c14] at H
     have c14b0 : (a3 == 110) = false := beq_eq_false_iff_ne.mpr c14;have c14b1 : (a3 != 110) = true := bne_iff_ne.mpr c14
     by_cases c17 : a3 = 115
     ·rw [if_pos c17] at H
      have c17b0 : (a3 == 115) = true := beq_iff_eq.mpr c17;have c17b1 : (a3 != 115) = false := bne_eq_false_iff_eq.mpr c17;clear c17;have H' := qb.mk H;clear H;have hnb18 := b5.out;have hnc18 := b2.out;have hcz19_0 : w7.cell? ⟨b3, 0, none⟩ = some (.int .i64 0) := (qc b0.out 0).trans rfl;have hcz19_1 : w7.cell? ⟨b3, 1, none⟩ = some (.int .i64 0) := (qc b0.out 1).trans rfl;have hcz19_2 : w7.cell? ⟨b3, 2, none⟩ = some (.bool false) := (qc b0.out 2).trans rfl;have hfz19_0 := qj b0.out 0;have hfz19_1 := qj b0.out 1;have hfz19_2 := qj b0.out 2
      go_wp2
      go_meet
      case rel => exact ⟨_, (a1), (wrap64 (a2 - 1)), (a1), (wrap64 (a2 - 1)), (true), (by first | rfl | (simp; done) | (simp [*]; done)), (by first | rfl | (simp; done) | (simp [*]; done)), H', ⟨by first | omega | exact Nat.le_refl _⟩, ⟨by (with_reducible repeat (first | refine qh ?_ _ | refine qi ?_ | refine qg ?_ _)); refine zk ?_ b2.out _; (with_reducible repeat (first | refine qh ?_ _ | refine qi ?_ | refine qg ?_ _)); refine zk ?_ b2.out _; (with_reducible repeat (first | refine qh ?_ _ | refine qi ?_ | refine qg ?_ _)); refine zk ?_ b2.out _; (with_reducible repeat (first | refine qh ?_ _ | refine qi ?_ | refine qg ?_ _)); refine zk ?_ b2.out _; (with_reducible repeat (first | refine qh ?_ _ | refine qi ?_ | refine qg ?_ _)); refine zk ?_ b2.out _; (with_reducible repeat (first | refine qh ?_ _ | refine qi ?_ | refine qg ?_ _)); exact b1.out⟩, ⟨by (with_reducible repeat (first | refine qh ?_ _ | refine qi ?_ | refine qg ?_ _)); refine zj (cs := #[.int .i64 a1, .int .i64 (wrap64 (a2 - 1)), .bool false]) ?_ 2 _ rfl; (with_reducible repeat (first | refine qh ?_ _ | refine qi ?_ | refine qg ?_ _)); refine zj (cs := #[.int .i64 a1, .int .i64 a2, .bool false]) ?_ 1 _ rfl; (with_reducible repeat (first | refine qh ?_ _ | refine qi ?_ | refine qg ?_ _)); refine zj (cs := #[.int .i64 a1, .int .i64 a2, .bool false]) ?_ 2 _ rfl; (with_reducible repeat (first | refine qh ?_ _ | refine qi ?_ | refine qg ?_ _)); refine zj (cs := #[.int .i64 a1, .int .i64 0, .bool false]) ?_ 1 _ rfl; (with_reducible repeat (first | refine qh ?_ _ | refine qi ?_ | refine qg ?_ _)); refine zj (cs := #[.int .i64 0, .int .i64 0, .bool false]) ?_ 0 _ rfl; (with_reducible repeat (first | refine qh ?_ _ | refine qi ?_ | refine qg ?_ _)); exact b0.out⟩, ⟨be2_ HB b6 b7⟩⟩
     ·rw [if_neg c17] at H
      have c17b0 : (a3 == 115) = false := beq_eq_false_iff_ne.mpr c17;have c17b1 : (a3 != 115) = true := bne_iff_ne.mpr c17
      simp only [Option.some.injEq, Prod.mk.injEq] at H
      obtain ⟨rfl, rfl, rfl⟩ := H
      go_wp2
      go_ret3
      exact ⟨by first | rfl | (simp [qt, qr] <;> rfl) | (simp [*, qt, qr] <;> rfl), be2_ HB b6 b7⟩
 case rest =>
  clear HC5;(try clear c10);(try clear c10b0);(try clear c10b1);(try clear c11);(try clear c11b0);(try clear c11b1);(try clear c14);(try clear c14b0);(try clear c14b1);(try clear c17);(try clear c17b0);(try clear c17b1);(try clear hcz13_0);(try clear hcz13_1);(try clear hcz13_2);(try clear hcz16_0);(try clear hcz16_1);(try clear hcz16_2);(try clear hcz19_0);(try clear hcz19_1);(try clear hcz19_2);(try clear hcz9_0);(try clear hcz9_1);(try clear hcz9_2);(try clear hfz13_0);(try clear hfz13_1);(try clear hfz13_2);(try clear hfz16_0);(try clear hfz16_1);(try clear hfz16_2);(try clear hfz19_0);(try clear hfz19_1);(try clear hfz19_2);(try clear hfz9_0);(try clear hfz9_1);(try clear hfz9_2);obtain ⟨kq, x12_4, x13_4, x158000_4, x158001_4, x158002_4, rfl, rfl, HA, HJ4, b1, b0, HB⟩ := hcut;cases kq with
  | zero => exact absurd HA.out (by simp [spec_avStep.j0])
  | succ kj4 =>
   have H := HA.out;clear HA
   simp only [spec_avStep.j0] at H
   replace H := Option.bind_eq_some_iff.mp H;obtain ⟨b9, A200, H⟩ := H;replace H : (if b9 = true then ((spec_avShut.f kj4 a0_0 a0_1 l0_2 x158000_4 x158001_4 x158002_4).bind fun b8 => (if b8 = true then (some (0, 0, false)) else (some (x12_4, x13_4, true)))) else (some (0, 0, false))) = some (r1, r2, r3) := H;have A20 := qb.mk A200;clear A200
   by_cases c21 : b9 = true
   ·subst c21
    have H1 : ((spec_avShut.f kj4 a0_0 a0_1 l0_2 x158000_4 x158001_4 x158002_4).bind fun b8 => (if b8 = true then (some (0, 0, false)) else (some (x12_4, x13_4, true)))) = some (r1, r2, r3) := by rw [if_pos rfl] at H; exact H
    clear H;have H := H1;clear H1;replace H := Option.bind_eq_some_iff.mp H;obtain ⟨b8, A220, H⟩ := H;replace H : (if b8 = true then (some (0, 0, false)) else (some (x12_4, x13_4, true))) = some (r1, r2, r3) := H;have A22 := qb.mk A220;clear A220
    by_cases c23 : b8 = true
    ·subst c23
     have H1 : (some (0, 0, false)) = some (r1, r2, r3) := by rw [if_pos rfl] at H; exact H
     clear H;have H := H1;clear H1
     simp only [Option.some.injEq, Prod.mk.injEq] at H
     obtain ⟨rfl, rfl, rfl⟩ := H;have hnb24 := b2.out;have hnc24 := b5.out;have hcz25_0 : wc.cell? ⟨b4, 0, none⟩ = some (.int .i64 a0_0) := (qc b1.out 0).trans rfl;have hcz25_1 : wc.cell? ⟨b4, 1, none⟩ = some (.int .i64 a0_1) := (qc b1.out 1).trans rfl;have hcz25_2 : wc.cell? ⟨b4, 2, none⟩ = some (.slice A0_2 l0_2.length c0_2) := (qc b1.out 2).trans rfl;have hfz25_0 := qj b1.out 0;have hfz25_1 := qj b1.out 1;have hfz25_2 := qj b1.out 2;have hcz26_0 : wc.cell? ⟨b3, 0, none⟩ = some (.int .i64 x158000_4) := (qc b0.out 0).trans rfl;have hcz26_1 : wc.cell? ⟨b3, 1, none⟩ = some (.int .i64 x158001_4) := (qc b0.out 1).trans rfl;have hcz26_2 : wc.cell? ⟨b3, 2, none⟩ = some (.bool x158002_4) := (qc b0.out 2).trans rfl;have hfz26_0 := qj b0.out 0;have hfz26_1 := qj b0.out 1;have hfz26_2 := qj b0.out 2
     go_wp2_with (first | ((with_reducible refine qx (f := 50) rfl ?_); refine zl (some 47) rfl rfl Try.func50 (by kernel_rfl) rfl #[.int .i64 a0_0, .int .i64 a0_1, .agg #[.int .i64 x158000_4, .int .i64 x158001_4, .bool x158002_4]] rfl (by (try simp only [List.map_toArray, List.map_cons, List.map_nil]); first | done | rfl | (simp only [List.length_drop, List.length_take]; rfl)) ?_; (with_reducible refine (spec_avIs.calls kj4 a0_0 a0_1 x158000_4 x158001_4 x158002_4 true _ A20.out).mono ?_); rintro e w27 ⟨rfl, hb⟩; refine ⟨_, rfl, ?_⟩; have n0_ := qb.mk (qo (g := b4) (o := .cells #[.int .i64 a0_0, .int .i64 a0_1, .slice A0_2 l0_2.length c0_2] 31 (0, 0)) (bk_ b1) hb); have n1_ := qb.mk (qo (g := b3) (o := .cells #[.int .i64 x158000_4, .int .i64 x158001_4, .bool x158002_4] 58 (0, 0)) (bk_ b0) hb); have n2_ := qb.mk (qp (be2_ HB b6 b7) hb); clear b1; clear b0; clear HB; have b1 := n0_; have b0 := n1_; have HB := n2_; clear n0_ n1_ n2_; (try clear hb); (try clear hb2); (try clear hk); (try clear hi); have hcz28_0 : w27.cell? ⟨b4, 0, none⟩ = some (.int .i64 a0_0) := (qc b1.out 0).trans rfl; have hcz28_1 : w27.cell? ⟨b4, 1, none⟩ = some (.int .i64 a0_1) := (qc b1.out 1).trans rfl; have hcz28_2 : w27.cell? ⟨b4, 2, none⟩ = some (.slice A0_2 l0_2.length c0_2) := (qc b1.out 2).trans rfl; have hfz28_0 := qj b1.out 0; have hfz28_1 := qj b1.out 1; have hfz28_2 := qj b1.out 2; have hcz29_0 : w27.cell? ⟨b3, 0, none⟩ = some (.int .i64 x158000_4) := (qc b0.out 0).trans rfl; have hcz29_1 : w27.cell? ⟨b3, 1, none⟩ = some (.int .i64 x158001_4) := (qc b0.out 1).trans rfl; have hcz29_2 : w27.cell? ⟨b3, 2, none⟩ = some (.bool x158002_4) := (qc b0.out 2).trans rfl; have hfz29_0 := qj b0.out 0; have hfz29_1 := qj b0.out 1; have hfz29_2 := qj b0.out 2) | (go_at_call 51; (with_reducible refine (spec_avShut.calls kj4 a0_0 a0_1 _ _ l0_2 x158000_4 x158001_4 x158002_4 true _ ?side1 ?side2 A22.out).mono ?_); (case side1 => repeat (first | exact (Kd.qz HR0_2.out HB.out) | (with_reducible refine Kd.za ?_ _) | (with_reducible refine Kd.zb ?_ _) | (with_reducible refine Kd.zf ?_))); (case side2 => exact HC0_2.out); rintro e w30 ⟨rfl, hb⟩; have n0_ := qb.mk (qo (g := b4) (o := .cells #[.int .i64 a0_0, .int .i64 a0_1, .slice A0_2 l0_2.length c0_2] 31 (0, 0)) (bk_ b1) hb); have n1_ := qb.mk (qo (g := b3) (o := .cells #[.int .i64 x158000_4, .int .i64 x158001_4, .bool x158002_4] 58 (0, 0)) (bk_ b0) hb); have n2_ := qb.mk (qp (be2_ HB b6 b7) hb); clear b1; clear b0; clear HB; have b1 := n0_; have b0 := n1_; have HB := n2_; clear n0_ n1_ n2_; (try clear hb); (try clear hb2); (try clear hk); (try clear hi)))
     go_ret3
     exact ⟨by first | rfl | (simp [qt, qr] <;> rfl) | (simp [*, qt, qr] <;> rfl), be2_ HB b6 b7⟩
    ·replace c23 := Bool.eq_false_iff.mpr c23
     subst c23;have H1 : (some (x12_4, x13_4, true)) = some (r1, r2, r3) := by rw [if_neg (show ¬ (false = true) by decide)] at H; exact H
     clear H;have H := H1;clear H1
     simp only [Option.some.injEq, Prod.mk.injEq] at H
     obtain ⟨rfl, rfl, rfl⟩ := H;have hnb31 := b2.out;have hnc31 := b5.out;have hcz32_0 : wc.cell? ⟨b4, 0, none⟩ = some (.int .i64 a0_0) := (qc b1.out 0).trans rfl;have hcz32_1 : wc.cell? ⟨b4, 1, none⟩ = some (.int .i64 a0_1) := (qc b1.out 1).trans rfl;have hcz32_2 : wc.cell? ⟨b4, 2, none⟩ = some (.slice A0_2 l0_2.length c0_2) := (qc b1.out 2).trans rfl;have hfz32_0 := qj b1.out 0;have hfz32_1 := qj b1.out 1;have hfz32_2 := qj b1.out 2;have hcz33_0 : wc.cell? ⟨b3, 0, none⟩ = some (.int .i64 x158000_4) := (qc b0.out 0).trans rfl;have hcz33_1 : wc.cell? ⟨b3, 1, none⟩ = some (.int .i64 x158001_4) := (qc b0.out 1).trans rfl;have hcz33_2 : wc.cell? ⟨b3, 2, none⟩ = some (.bool x158002_4) := (qc b0.out 2).trans rfl;have hfz33_0 := qj b0.out 0;have hfz33_1 := qj b0.out 1;have hfz33_2 := qj b0.out 2
     go_wp2_with (first | ((with_reducible refine qx (f := 50) rfl ?_); refine zl (some 47) rfl rfl Try.func50 (by kernel_rfl) rfl #[.int .i64 a0_0, .int .i64 a0_1, .agg #[.int .i64 x158000_4, .int .i64 x158001_4, .bool x158002_4]] rfl (by (try simp only [List.map_toArray, List.map_cons, List.map_nil]); first | done | rfl | (simp only [List.length_drop, List.length_take]; rfl)) ?_; (with_reducible refine (spec_avIs.calls kj4 a0_0 a0_1 x158000_4 x158001_4 x158002_4 true _ A20.out).mono ?_); rintro e w34 ⟨rfl, hb⟩; refine ⟨_, rfl, ?_⟩; have n0_ := qb.mk (qo (g := b4) (o := .cells #[.int .i64 a0_0, .int .i64 a0_1, .slice A0_2 l0_2.length c0_2] 31 (0, 0)) (bk_ b1) hb); have n1_ := qb.mk (qo (g := b3) (o := .cells #[.int .i64 x158000_4, .int .i64 x158001_4, .bool x158002_4] 58 (0, 0)) (bk_ b0) hb); have n2_ := qb.mk (qp (be2_ HB b6 b7) hb); clear b1; clear b0; clear HB; have b1 := n0_; have b0 := n1_; have HB := n2_; clear n0_ n1_ n2_; (try clear hb); (try clear hb2); (try clear hk); (try clear hi); have hcz35_0 : w34.cell? ⟨b4, 0, none⟩ = some (.int .i64 a0_0) := (qc b1.out 0).trans rfl; have hcz35_1 : w34.cell? ⟨b4, 1, none⟩ = some (.int .i64 a0_1) := (qc b1.out 1).trans rfl; have hcz35_2 : w34.cell? ⟨b4, 2, none⟩ = some (.slice A0_2 l0_2.length c0_2) := (qc b1.out 2).trans rfl; have hfz35_0 := qj b1.out 0; have hfz35_1 := qj b1.out 1; have hfz35_2 := qj b1.out 2; have hcz36_0 : w34.cell? ⟨b3, 0, none⟩ = some (.int .i64 x158000_4) := (qc b0.out 0).trans rfl; have hcz36_1 : w34.cell? ⟨b3, 1, none⟩ = some (.int .i64 x158001_4) := (qc b0.out 1).trans rfl; have hcz36_2 : w34.cell? ⟨b3, 2, none⟩ = some (.bool x158002_4) := (qc b0.out 2).trans rfl; have hfz36_0 := qj b0.out 0; have hfz36_1 := qj b0.out 1; have hfz36_2 := qj b0.out 2) | (go_at_call 51; (with_reducible refine (spec_avShut.calls kj4 a0_0 a0_1 _ _ l0_2 x158000_4 x158001_4 x158002_4 false _ ?side1 ?side2 A22.out).mono ?_); (case side1 => repeat (first | exact (Kd.qz HR0_2.out HB.out) | (with_reducible refine Kd.za ?_ _) | (with_reducible refine Kd.zb ?_ _) | (with_reducible refine Kd.zf ?_))); (case side2 => exact HC0_2.out); rintro e w37 ⟨rfl, hb⟩; have n0_ := qb.mk (qo (g := b4) (o := .cells #[.int .i64 a0_0, .int .i64 a0_1, .slice A0_2 l0_2.length c0_2] 31 (0, 0)) (bk_ b1) hb); have n1_ := qb.mk (qo (g := b3) (o := .cells #[.int .i64 x158000_4, .int .i64 x158001_4, .bool x158002_4] 58 (0, 0)) (bk_ b0) hb); have n2_ := qb.mk (qp (be2_ HB b6 b7) hb); clear b1; clear b0; clear HB; have b1 := n0_; have b0 := n1_; have HB := n2_; clear n0_ n1_ n2_; (try clear hb); (try clear hb2); (try clear hk); (try clear hi)))
     go_ret3
     exact ⟨by first | rfl | (simp [qt, qr] <;> rfl) | (simp [*, qt, qr] <;> rfl), be2_ HB b6 b7⟩
   ·replace c21 := Bool.eq_false_iff.mpr c21
    subst c21;have H1 : (some (0, 0, false)) = some (r1, r2, r3) := by rw [if_neg (show ¬ (false = true) by decide)] at H; exact H
    clear H;have H := H1;clear H1
    simp only [Option.some.injEq, Prod.mk.injEq] at H
    obtain ⟨rfl, rfl, rfl⟩ := H;have hnb38 := b2.out;have hnc38 := b5.out;have hcz39_0 : wc.cell? ⟨b4, 0, none⟩ = some (.int .i64 a0_0) := (qc b1.out 0).trans rfl;have hcz39_1 : wc.cell? ⟨b4, 1, none⟩ = some (.int .i64 a0_1) := (qc b1.out 1).trans rfl;have hcz39_2 : wc.cell? ⟨b4, 2, none⟩ = some (.slice A0_2 l0_2.length c0_2) := (qc b1.out 2).trans rfl;have hfz39_0 := qj b1.out 0;have hfz39_1 := qj b1.out 1;have hfz39_2 := qj b1.out 2;have hcz40_0 : wc.cell? ⟨b3, 0, none⟩ = some (.int .i64 x158000_4) := (qc b0.out 0).trans rfl;have hcz40_1 : wc.cell? ⟨b3, 1, none⟩ = some (.int .i64 x158001_4) := (qc b0.out 1).trans rfl;have hcz40_2 : wc.cell? ⟨b3, 2, none⟩ = some (.bool x158002_4) := (qc b0.out 2).trans rfl;have hfz40_0 := qj b0.out 0;have hfz40_1 := qj b0.out 1;have hfz40_2 := qj b0.out 2
    go_wp2_with (first | ((with_reducible refine qx (f := 50) rfl ?_); refine zl (some 47) rfl rfl Try.func50 (by kernel_rfl) rfl #[.int .i64 a0_0, .int .i64 a0_1, .agg #[.int .i64 x158000_4, .int .i64 x158001_4, .bool x158002_4]] rfl (by (try simp only [List.map_toArray, List.map_cons, List.map_nil]); first | done | rfl | (simp only [List.length_drop, List.length_take]; rfl)) ?_; (with_reducible refine (spec_avIs.calls kj4 a0_0 a0_1 x158000_4 x158001_4 x158002_4 false _ A20.out).mono ?_); rintro e w41 ⟨rfl, hb⟩; refine ⟨_, rfl, ?_⟩; have n0_ := qb.mk (qo (g := b4) (o := .cells #[.int .i64 a0_0, .int .i64 a0_1, .slice A0_2 l0_2.length c0_2] 31 (0, 0)) (bk_ b1) hb); have n1_ := qb.mk (qo (g := b3) (o := .cells #[.int .i64 x158000_4, .int .i64 x158001_4, .bool x158002_4] 58 (0, 0)) (bk_ b0) hb); have n2_ := qb.mk (qp (be2_ HB b6 b7) hb); clear b1; clear b0; clear HB; have b1 := n0_; have b0 := n1_; have HB := n2_; clear n0_ n1_ n2_; (try clear hb); (try clear hb2); (try clear hk); (try clear hi)))
    go_ret3
    exact ⟨by first | rfl | (simp [qt, qr] <;> rfl) | (simp [*, qt, qr] <;> rfl), be2_ HB b6 b7⟩
end Go.Proofs.Ytpedofomfhmnfaa.PFnExactNeededBlocks
