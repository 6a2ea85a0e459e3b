/- Cut by wip/cut.py out of the texts of this claim (printed by the kit's printer, or this session's own): what the row's theorem does not reach is struck. Not trusted: Lean checks it. -/
import Derived.Test.YtpedofomfhmnfaaZFnExactNeededBlocksPx0
import Derived.Test.YtpedofomfhmnfaaZFnExactNeededBlocksPx3
import Derived.Test.YtpedofomfhmnfaaZFnExactNeededBlocksPx5
import Derived.Test.YtpedofomfhmnfaaZFnExactNeededBlocksPx6
import Derived.Test.YtpedofomfhmnfaaZFnExactNeededBlocksPx7
namespace Go.Proofs.Ytpedofomfhmnfaa.PFnExactNeededBlocks
open Go.RowKit Go.Proofs.YtpedofomfhmnfaaW.PrintWords Go.Proofs.YtpedofomfhmnfaaW.PrintLast Go.Proofs.YtpedofomfhmnfaaW.PrintMore
attribute [local go_sem] max2_int min2_int max_two min_two max_three min_three max_four min_four
set_option linter.unusedVariables false
set_option linter.unusedSimpArgs false
mutual
def spec_NeededBlocks.j0 : Nat → List Int → List Int → Bool → Int → Int → List (S58) → Option ((List (S58)) × Bool)
 | 0, _, _, _, _, _, _ => none
 | k + 1, x1, x2, x24, x212000, x212001, x212002 => if x24 = true then (some (([] : List (S58)), false)) else (spec_NeededBlocks.l0 k x1 x2 ([] : List (S58)) 0 x212000 x212001 x212002)
def spec_NeededBlocks.l0 : Nat → List Int → List Int → List (S58) → Int → Int → Int → List (S58) → Option ((List (S58)) × Bool)
 | 0, _, _, _, _, _, _, _ => none
 | k + 1, x1, x2, x8, x9, x212000, x212001, x212002 => if x9 < x212000 then (spec_NeededBlocks.l1 k x1 x2 x8 x9 0 x212000 x212001 x212002) else (some (x8, true))
def spec_NeededBlocks.l1 : Nat → List Int → List Int → List (S58) → Int → Int → Int → Int → List (S58) → Option ((List (S58)) × Bool)
 | 0, _, _, _, _, _, _, _, _ => none
 | k + 1, x1, x2, x8, x9, x10, x212000, x212001, x212002 => if x10 < x212001 then (spec_NeededBlocks.l2 k x1 x2 x8 x9 x10 0 x212000 x212001 x212002) else (spec_NeededBlocks.l0 k x1 x2 x8 (wrap64 (x9 + 1)) x212000 x212001 x212002)
def spec_NeededBlocks.l2 : Nat → List Int → List Int → List (S58) → Int → Int → Int → Int → Int → List (S58) → Option ((List (S58)) × Bool)
 | 0, _, _, _, _, _, _, _, _, _ => none
 | k + 1, x1, x2, x8, x9, x10, x11, x212000, x212001, x212002 => if x11 < 2 then ((spec_avIs.f k x212000 x212001 x9 x10 (x11 == 1)).bind fun t215 => (if t215 = true then ((spec_avShut.f k x212000 x212001 x212002 x9 x10 (x11 == 1)).bind fun t216 => (if t216 = true then (spec_NeededBlocks.l2 k x1 x2 x8 x9 x10 (wrap64 (x11 + 1)) x212000 x212001 x212002) else ((spec_avClose.f k x212000 x212001 x212002 x9 x10 (x11 == 1)).bind fun bt217 => ((spec_avDistance.f k bt217.1 bt217.2.1 bt217.2.2 x1 x2).bind fun t222 => (if t222 < 0 then (if x8.length < 5864062014805 then (spec_NeededBlocks.l2 k x1 x2 (x8 ++ [(⟨x9, x10, (x11 == 1)⟩ : S58)]) x9 x10 (wrap64 (x11 + 1)) x212000 x212001 x212002) else (none)) else (spec_NeededBlocks.l2 k x1 x2 x8 x9 x10 (wrap64 (x11 + 1)) x212000 x212001 x212002)))))) else (spec_NeededBlocks.l2 k x1 x2 x8 x9 x10 (wrap64 (x11 + 1)) x212000 x212001 x212002))) else (spec_NeededBlocks.l1 k x1 x2 x8 x9 (wrap64 (x10 + 1)) x212000 x212001 x212002)
end
def spec_NeededBlocks.f (k : Nat) (a0_0 : Int) (a0_1 : Int) (l0_2 : List (S58)) (l1 : List Int) (l2 : List Int) : Option ((List (S58)) × Bool) := (spec_avAsked.f k a0_0 a0_1 l0_2 l1 l2).bind fun t212 => (if t212 = true then ((spec_avDistance.f k a0_0 a0_1 l0_2 l1 l2).bind fun t213 => (spec_NeededBlocks.j0 k l1 l2 (decide (t213 < 0)) a0_0 a0_1 l0_2)) else (spec_NeededBlocks.j0 k l1 l2 true a0_0 a0_1 l0_2))
theorem spec_NeededBlocks.zt : ∀ k, (∀ y0 y1 y2 y3 y4 y5, LeO (spec_NeededBlocks.j0 k y0 y1 y2 y3 y4 y5) (spec_NeededBlocks.j0 (k + 1) y0 y1 y2 y3 y4 y5)) ∧ (∀ y0 y1 y2 y3 y4 y5 y6, LeO (spec_NeededBlocks.l0 k y0 y1 y2 y3 y4 y5 y6) (spec_NeededBlocks.l0 (k + 1) y0 y1 y2 y3 y4 y5 y6)) ∧ (∀ y0 y1 y2 y3 y4 y5 y6 y7, LeO (spec_NeededBlocks.l1 k y0 y1 y2 y3 y4 y5 y6 y7) (spec_NeededBlocks.l1 (k + 1) y0 y1 y2 y3 y4 y5 y6 y7)) ∧ (∀ y0 y1 y2 y3 y4 y5 y6 y7 y8, LeO (spec_NeededBlocks.l2 k y0 y1 y2 y3 y4 y5 y6 y7 y8) (spec_NeededBlocks.l2 (k + 1) y0 y1 y2 y3 y4 y5 y6 y7 y8))
 | 0 => ⟨fun _ _ _ _ _ _ r h => by simp [spec_NeededBlocks.j0] at h, fun _ _ _ _ _ _ _ r h => by simp [spec_NeededBlocks.l0] at h, fun _ _ _ _ _ _ _ _ r h => by simp [spec_NeededBlocks.l1] at h, fun _ _ _ _ _ _ _ _ _ r h => by simp [spec_NeededBlocks.l2] at h⟩
 | k + 1 => by
  obtain ⟨ih0, ih1, ih2, ih3⟩ := spec_NeededBlocks.zt k
  refine ⟨?_, ?_, ?_, ?_⟩
  ·intro y0 y1 y2 y3 y4 y5
   unfold spec_NeededBlocks.j0
   repeat' first
   | (with_reducible exact ih0 _ _ _ _ _ _)
   | (with_reducible exact ih1 _ _ _ _ _ _ _)
   | (with_reducible exact ih2 _ _ _ _ _ _ _ _)
   | (with_reducible exact ih3 _ _ _ _ _ _ _ _ _)
   | (with_reducible exact spec_avAsked.mono _ _ _ _ _ _)
   | (with_reducible exact spec_avClose.mono _ _ _ _ _ _ _)
   | (with_reducible exact spec_avDistance.mono _ _ _ _ _ _)
   | (with_reducible exact spec_avIs.mono _ _ _ _ _ _)
   | (with_reducible exact spec_avShut.mono _ _ _ _ _ _ _)
   | (with_reducible exact LeO.refl _)
   | (with_reducible exact LeO.none _)
   | (with_reducible refine LeO.ite ?_ ?_)
   | (with_reducible refine LeO.bind ?_ (fun _ => ?_))
   | exact ih0 _ _ _ _ _ _
   | exact ih1 _ _ _ _ _ _ _
   | exact ih2 _ _ _ _ _ _ _ _
   | exact ih3 _ _ _ _ _ _ _ _ _
   | exact spec_avAsked.mono _ _ _ _ _ _
   | exact spec_avClose.mono _ _ _ _ _ _ _
   | exact spec_avDistance.mono _ _ _ _ _ _
   | exact spec_avIs.mono _ _ _ _ _ _
   | exact spec_avShut.mono _ _ _ _ _ _ _
   | exact LeO.none _
   | refine LeO.ite ?_ ?_
   | refine LeO.bind ?_ (fun _ => ?_)
  ·intro y0 y1 y2 y3 y4 y5 y6
   unfold spec_NeededBlocks.l0
   repeat' first
   | (with_reducible exact ih0 _ _ _ _ _ _)
   | (with_reducible exact ih1 _ _ _ _ _ _ _)
   | (with_reducible exact ih2 _ _ _ _ _ _ _ _)
   | (with_reducible exact ih3 _ _ _ _ _ _ _ _ _)
   | (with_reducible exact spec_avAsked.mono _ _ _ _ _ _)
   | (with_reducible exact spec_avClose.mono _ _ _ _ _ _ _)
   | (with_reducible exact spec_avDistance.mono _ _ _ _ _ _)
   | (with_reducible exact spec_avIs.mono _ _ _ _ _ _)
   | (with_reducible exact spec_avShut.mono _ _ _ _ _ _ _)
   | (with_reducible exact LeO.refl _)
   | (with_reducible exact LeO.none _)
   | (with_reducible refine LeO.ite ?_ ?_)
   | (with_reducible refine LeO.bind ?_ (fun _ => ?_))
   | exact ih0 _ _ _ _ _ _
   | exact ih1 _ _ _ _ _ _ _
   | exact ih2 _ _ _ _ _ _ _ _
   | exact ih3 _ _ _ _ _ _ _ _ _
   | exact spec_avAsked.mono _ _ _ _ _ _
   | exact spec_avClose.mono _ _ _ _ _ _ _
   | exact spec_avDistance.mono _ _ _ _ _ _
   | exact spec_avIs.mono _ _ _ _ _ _
   | exact spec_avShut.mono _ _ _ _ _ _ _
   | exact LeO.none _
   | refine LeO.ite ?_ ?_
   | refine LeO.bind ?_ (fun _ => ?_)
  ·intro y0 y1 y2 y3 y4 y5 y6 y7
   unfold spec_NeededBlocks.l1
   repeat' first
   | (with_reducible exact ih0 _ _ _ _ _ _)
   | (with_reducible exact ih1 _ _ _ _ _ _ _)
   | (with_reducible exact ih2 _ _ _ _ _ _ _ _)
   | (with_reducible exact ih3 _ _ _ _ _ _ _ _ _)
   | (with_reducible exact spec_avAsked.mono _ _ _ _ _ _)
   | (with_reducible exact spec_avClose.mono _ _ _ _ _ _ _)
   | (with_reducible exact spec_avDistance.mono _ _ _ _ _ _)
   | (with_reducible exact spec_avIs.mono _ _ _ _ _ _)
   | (with_reducible exact spec_avShut.mono _ _ _ _ _ _ _)
   | (with_reducible exact LeO.refl _)
   | (with_reducible exact LeO.none _)
   | (with_reducible refine LeO.ite ?_ ?_)
   | (with_reducible refine LeO.bind ?_ (fun _ => ?_))
   | exact ih0 _ _ _ _ _ _
   | exact ih1 _ _ _ _ _ _ _
   | exact ih2 _ _ _ _ _ _ _ _
   | exact ih3 _ _ _ _ _ _ _ _ _
   | exact spec_avAsked.mono _ _ _ _ _ _
   | exact spec_avClose.mono _ _ _ _ _ _ _
   | exact spec_avDistance.mono _ _ _ _ _ _
   | exact spec_avIs.mono _ _ _ _ _ _
   | exact spec_avShut.mono _ _ _ _ _ _ _
   | exact LeO.none _
   | refine LeO.ite ?_ ?_
   | refine LeO.bind ?_ (fun _ => ?_)
  ·intro y0 y1 y2 y3 y4 y5 y6 y7 y8
   unfold spec_NeededBlocks.l2
   repeat' first
   | (with_reducible exact ih0 _ _ _ _ _ _)
   | (with_reducible exact ih1 _ _ _ _ _ _ _)
   | (with_reducible exact ih2 _ _ _ _ _ _ _ _)
   | (with_reducible exact ih3 _ _ _ _ _ _ _ _ _)
   | (with_reducible exact spec_avAsked.mono _ _ _ _ _ _)
   | (with_reducible exact spec_avClose.mono _ _ _ _ _ _ _)
   | (with_reducible exact spec_avDistance.mono _ _ _ _ _ _)
   | (with_reducible exact spec_avIs.mono _ _ _ _ _ _)
   | (with_reducible exact spec_avShut.mono _ _ _ _ _ _ _)
   | (with_reducible exact LeO.refl _)
   | (with_reducible exact LeO.none _)
   | (with_reducible refine LeO.ite ?_ ?_)
   | (with_reducible refine LeO.bind ?_ (fun _ => ?_))
   | exact ih0 _ _ _ _ _ _
   | exact ih1 _ _ _ _ _ _ _
   | exact ih2 _ _ _ _ _ _ _ _
   | exact ih3 _ _ _ _ _ _ _ _ _
   | exact spec_avAsked.mono _ _ _ _ _ _
   | exact spec_avClose.mono _ _ _ _ _ _ _
   | exact spec_avDistance.mono _ _ _ _ _ _
   | exact spec_avIs.mono _ _ _ _ _ _
   | exact spec_avShut.mono _ _ _ _ _ _ _
   | exact LeO.none _
   | refine LeO.ite ?_ ?_
   | refine LeO.bind ?_ (fun _ => ?_)
theorem spec_NeededBlocks.mono : ∀ a0 a1 a2 a3 a4 k, LeO (spec_NeededBlocks.f k a0 a1 a2 a3 a4) (spec_NeededBlocks.f (k + 1) a0 a1 a2 a3 a4) := by
 intro a0 a1 a2 a3 a4 k
 obtain ⟨ih0, ih1, ih2, ih3⟩ := spec_NeededBlocks.zt k
 unfold spec_NeededBlocks.f
 repeat' first
   | (with_reducible exact ih0 _ _ _ _ _ _)
   | (with_reducible exact ih1 _ _ _ _ _ _ _)
   | (with_reducible exact ih2 _ _ _ _ _ _ _ _)
   | (with_reducible exact ih3 _ _ _ _ _ _ _ _ _)
   | (with_reducible exact spec_avAsked.mono _ _ _ _ _ _)
   | (with_reducible exact spec_avClose.mono _ _ _ _ _ _ _)
   | (with_reducible exact spec_avDistance.mono _ _ _ _ _ _)
   | (with_reducible exact spec_avIs.mono _ _ _ _ _ _)
   | (with_reducible exact spec_avShut.mono _ _ _ _ _ _ _)
   | (with_reducible exact LeO.refl _)
   | (with_reducible exact LeO.none _)
   | (with_reducible refine LeO.ite ?_ ?_)
   | (with_reducible refine LeO.bind ?_ (fun _ => ?_))
   | exact ih0 _ _ _ _ _ _
   | exact ih1 _ _ _ _ _ _ _
   | exact ih2 _ _ _ _ _ _ _ _
   | exact ih3 _ _ _ _ _ _ _ _ _
   | exact spec_avAsked.mono _ _ _ _ _ _
   | exact spec_avClose.mono _ _ _ _ _ _ _
   | exact spec_avDistance.mono _ _ _ _ _ _
   | exact spec_avIs.mono _ _ _ _ _ _
   | exact spec_avShut.mono _ _ _ _ _ _ _
   | exact LeO.none _
   | refine LeO.ite ?_ ?_
   | refine LeO.bind ?_ (fun _ => ?_)
set_option maxHeartbeats 8000000 in
set_option maxRecDepth 100000 in
theorem spec_NeededBlocks.calls (k : Nat) (a0_0 : Int) (a0_1 : Int) (A0_2 : Option Addr) (c0_2 : Nat) (l0_2 : List (S58)) (A1 : Option Addr) (c1 : Nat) (l1 : List Int) (A2 : Option Addr) (c2 : Nat) (l2 : List Int) (r1 : List (S58)) (r2 : Bool) (w : World) (hr0_2 : Kd.C k58 w A0_2 l0_2.length l0_2) (hc0_2 : l0_2.length ≤ c0_2) (hr1 : Kd.C (Kd.int .i64) w A1 l1.length l1) (hc1 : l1.length ≤ c1) (hr2 : Kd.C (Kd.int .i64) w A2 l2.length l2) (hc2 : l2.length ≤ c2) (h : spec_NeededBlocks.f k a0_0 a0_1 l0_2 l1 l2 = some (r1, r2)) :
  Calls Try.prog 18 #[.agg #[.int .i64 a0_0, .int .i64 a0_1, .slice A0_2 l0_2.length c0_2], .slice A1 l1.length c1, .slice A2 l2.length c2] w fun e w' => ∃ v0_ : Value, e = .returned (.tuple #[v0_, .bool r2]) ∧ Kd.R k58 58 w' w.heap.size (fun _ => True) v0_ r1 ∧ Below w.heap.size w w' := by
 have hu31 := Try.underlying31;have hu58 := Try.underlying58;have HR0_2 := qb.mk hr0_2;have HC0_2 := qb.mk hc0_2;clear hr0_2 hc0_2;have HR1 := qb.mk hr1;have HC1 := qb.mk hc1;clear hr1 hc1;have HR2 := qb.mk hr2;have HC2 := qb.mk hc2;clear hr2 hc2;have HB := qb.mk (Below.refl w.heap.size w);have H : ((spec_avAsked.f k a0_0 a0_1 l0_2 l1 l2).bind fun d7 => (if d7 = true then ((spec_avDistance.f k a0_0 a0_1 l0_2 l1 l2).bind fun d1 => (spec_NeededBlocks.j0 k l1 l2 (decide (d1 < 0)) a0_0 a0_1 l0_2)) else (spec_NeededBlocks.j0 k l1 l2 true a0_0 a0_1 l0_2))) = some (r1, r2) := h;clear h;have HC4 := qb.mk H;clear H
 go_enter Try.func18, Try.ntmps18
 go_upto_region 1 with (first | ((with_reducible refine ze (N := 3) rfl ?_); refine zc ?hg (N := 3) ?hd (cs := #[.int .i64 a0_0, .int .i64 a0_1, .slice A0_2 l0_2.length c0_2]) (t := 31) ?hr ?_; (case hd => rfl); (case hg => rfl); (case hr => first | (go_simp; done) | (go_simp; rfl)); intro b2 hg w5 hbox hb; have n0_ := qb.mk (qp (be0_ HB) hb); have n1_ := qb.mk (hbox); have n2_ := qb.mk ((by rw [hg]; exact (ql (be0_ HB)) : w.heap.size ≤ b2)); have n3_ := qb.mk ((by rw [hg]; exact (ql (be0_ HB)) : w.heap.size ≤ b2)); clear HB; have HB := n0_; have b0 := n1_; have f2 := n2_; have b5 := n3_; clear n0_ n1_ n2_ n3_; clear hb hbox hg))
 (try simp only [Act.put, sA_, sB_, sC_])
 go_cut [24] (fun v24 wc => ∃ (kq : Nat) (x24_3 : Bool), v24 = .bool x24_3 ∧ qb (spec_NeededBlocks.j0 kq l1 l2 x24_3 a0_0 a0_1 l0_2 = some (r1, r2)) ∧ qb (kq ≤ k) ∧ qb (wc.heap[b2]? = some (.cells #[.int .i64 a0_0, .int .i64 a0_1, (.slice A0_2 l0_2.length c0_2)] 31 (0, 0))) ∧ qb (Below w.heap.size w wc))
 case first =>
  have H := HC4.out;clear HC4;replace H := Option.bind_eq_some_iff.mp H;obtain ⟨d7, A60, H⟩ := H;replace H : (if d7 = true then ((spec_avDistance.f k a0_0 a0_1 l0_2 l1 l2).bind fun d1 => (spec_NeededBlocks.j0 k l1 l2 (decide (d1 < 0)) a0_0 a0_1 l0_2)) else (spec_NeededBlocks.j0 k l1 l2 true a0_0 a0_1 l0_2)) = some (r1, r2) := H;have A6 := qb.mk A60;clear A60
  by_cases c7 : d7 = true
  ·subst c7
   have H1 : ((spec_avDistance.f k a0_0 a0_1 l0_2 l1 l2).bind fun d1 => (spec_NeededBlocks.j0 k l1 l2 (decide (d1 < 0)) a0_0 a0_1 l0_2)) = some (r1, r2) := by rw [if_pos rfl] at H; exact H
   clear H;have H := H1;clear H1;replace H := Option.bind_eq_some_iff.mp H;obtain ⟨d1, A80, H⟩ := H;replace H : (spec_NeededBlocks.j0 k l1 l2 (decide (d1 < 0)) a0_0 a0_1 l0_2) = some (r1, r2) := H;have A8 := qb.mk A80;clear A80;have H' := qb.mk H;clear H;have hcz9_0 : w5.cell? ⟨b2, 0, none⟩ = some (.int .i64 a0_0) := (qc b0.out 0).trans rfl;have hcz9_1 : w5.cell? ⟨b2, 1, none⟩ = some (.int .i64 a0_1) := (qc b0.out 1).trans rfl;have hcz9_2 : w5.cell? ⟨b2, 2, none⟩ = some (.slice A0_2 l0_2.length c0_2) := (qc b0.out 2).trans rfl;have hfz9_0 := qj b0.out 0;have hfz9_1 := qj b0.out 1;have hfz9_2 := qj b0.out 2
   go_wp2_with (first | ((with_reducible refine qx (f := 39) rfl ?_); refine zl (some 16) rfl rfl Try.func39 (by kernel_rfl) rfl #[.agg #[.int .i64 a0_0, .int .i64 a0_1, .slice A0_2 l0_2.length c0_2], .slice A1 l1.length c1, .slice A2 l2.length c2] rfl (by (try simp only [List.map_toArray, List.map_cons, List.map_nil]); first | done | rfl | (simp only [List.length_drop, List.length_take]; rfl)) ?_; (with_reducible refine (spec_avAsked.calls k a0_0 a0_1 _ _ l0_2 _ _ l1 _ _ l2 true _ ?side1 ?side2 ?side3 ?side4 ?side5 ?side6 A6.out).mono ?_); (case side1 => repeat (first | exact (Kd.qz HR0_2.out HB.out) | (with_reducible refine Kd.za ?_ _) | (with_reducible refine Kd.zb ?_ _) | (with_reducible refine Kd.zf ?_))); (case side2 => exact HC0_2.out); (case side3 => repeat (first | exact (Kd.qz HR1.out HB.out) | (with_reducible refine Kd.za ?_ _) | (with_reducible refine Kd.zb ?_ _) | (with_reducible refine Kd.zf ?_))); (case side4 => exact HC1.out); (case side5 => repeat (first | exact (Kd.qz HR2.out HB.out) | (with_reducible refine Kd.za ?_ _) | (with_reducible refine Kd.zb ?_ _) | (with_reducible refine Kd.zf ?_))); (case side6 => exact HC2.out); rintro e w10 ⟨rfl, hb⟩; refine ⟨_, rfl, ?_⟩; have n0_ := qb.mk (qo (g := b2) (o := .cells #[.int .i64 a0_0, .int .i64 a0_1, .slice A0_2 l0_2.length c0_2] 31 (0, 0)) (bk_ b0) hb); have n1_ := qb.mk (qp (be1_ HB b5) hb); clear b0; clear HB; have b0 := n0_; have HB := n1_; clear n0_ n1_; (try clear hb); (try clear hb2); (try clear hk); (try clear hi); have hcz11_0 : w10.cell? ⟨b2, 0, none⟩ = some (.int .i64 a0_0) := (qc b0.out 0).trans rfl; have hcz11_1 : w10.cell? ⟨b2, 1, none⟩ = some (.int .i64 a0_1) := (qc b0.out 1).trans rfl; have hcz11_2 : w10.cell? ⟨b2, 2, none⟩ = some (.slice A0_2 l0_2.length c0_2) := (qc b0.out 2).trans rfl; have hfz11_0 := qj b0.out 0; have hfz11_1 := qj b0.out 1; have hfz11_2 := qj b0.out 2) | (go_at_call 40; (with_reducible refine (spec_avDistance.calls k a0_0 a0_1 _ _ l0_2 _ _ l1 _ _ l2 d1 _ ?side1 ?side2 ?side3 ?side4 ?side5 ?side6 A8.out).mono ?_); (case side1 => repeat (first | exact (Kd.qz HR0_2.out HB.out) | (with_reducible refine Kd.za ?_ _) | (with_reducible refine Kd.zb ?_ _) | (with_reducible refine Kd.zf ?_))); (case side2 => exact HC0_2.out); (case side3 => repeat (first | exact (Kd.qz HR1.out HB.out) | (with_reducible refine Kd.za ?_ _) | (with_reducible refine Kd.zb ?_ _) | (with_reducible refine Kd.zf ?_))); (case side4 => exact HC1.out); (case side5 => repeat (first | exact (Kd.qz HR2.out HB.out) | (with_reducible refine Kd.za ?_ _) | (with_reducible refine Kd.zb ?_ _) | (with_reducible refine Kd.zf ?_))); (case side6 => exact HC2.out); rintro e w12 ⟨rfl, hb⟩; have n0_ := qb.mk (qo (g := b2) (o := .cells #[.int .i64 a0_0, .int .i64 a0_1, .slice A0_2 l0_2.length c0_2] 31 (0, 0)) (bk_ b0) hb); have n1_ := qb.mk (qp (be1_ HB b5) hb); clear b0; clear HB; have b0 := n0_; have HB := n1_; clear n0_ n1_; (try clear hb); (try clear hb2); (try clear hk); (try clear hi)))
   go_meet
   case rel => exact ⟨_, (decide (d1 < 0)), (by first | rfl | (simp; done) | (simp [*]; done)), H', ⟨by first | omega | exact Nat.le_refl _⟩, ⟨bk_ b0⟩, ⟨be1_ HB b5⟩⟩
  ·replace c7 := Bool.eq_false_iff.mpr c7
   subst c7;have H1 : (spec_NeededBlocks.j0 k l1 l2 true a0_0 a0_1 l0_2) = some (r1, r2) := by rw [if_neg (show ¬ (false = true) by decide)] at H; exact H
   clear H;have H := H1;clear H1;have H' := qb.mk H;clear H;have hcz13_0 : w5.cell? ⟨b2, 0, none⟩ = some (.int .i64 a0_0) := (qc b0.out 0).trans rfl;have hcz13_1 : w5.cell? ⟨b2, 1, none⟩ = some (.int .i64 a0_1) := (qc b0.out 1).trans rfl;have hcz13_2 : w5.cell? ⟨b2, 2, none⟩ = some (.slice A0_2 l0_2.length c0_2) := (qc b0.out 2).trans rfl;have hfz13_0 := qj b0.out 0;have hfz13_1 := qj b0.out 1;have hfz13_2 := qj b0.out 2
   go_wp2_with (first | ((with_reducible refine qx (f := 39) rfl ?_); refine zl (some 16) rfl rfl Try.func39 (by kernel_rfl) rfl #[.agg #[.int .i64 a0_0, .int .i64 a0_1, .slice A0_2 l0_2.length c0_2], .slice A1 l1.length c1, .slice A2 l2.length c2] rfl (by (try simp only [List.map_toArray, List.map_cons, List.map_nil]); first | done | rfl | (simp only [List.length_drop, List.length_take]; rfl)) ?_; (with_reducible refine (spec_avAsked.calls k a0_0 a0_1 _ _ l0_2 _ _ l1 _ _ l2 false _ ?side1 ?side2 ?side3 ?side4 ?side5 ?side6 A6.out).mono ?_); (case side1 => repeat (first | exact (Kd.qz HR0_2.out HB.out) | (with_reducible refine Kd.za ?_ _) | (with_reducible refine Kd.zb ?_ _) | (with_reducible refine Kd.zf ?_))); (case side2 => exact HC0_2.out); (case side3 => repeat (first | exact (Kd.qz HR1.out HB.out) | (with_reducible refine Kd.za ?_ _) | (with_reducible refine Kd.zb ?_ _) | (with_reducible refine Kd.zf ?_))); (case side4 => exact HC1.out); (case side5 => repeat (first | exact (Kd.qz HR2.out HB.out) | (with_reducible refine Kd.za ?_ _) | (with_reducible refine Kd.zb ?_ _) | (with_reducible refine Kd.zf ?_))); (case side6 => exact HC2.out); rintro e w14 ⟨rfl, hb⟩; refine ⟨_, rfl, ?_⟩; have n0_ := qb.mk (qo (g := b2) (o := .cells #[.int .i64 a0_0, .int .i64 a0_1, .slice A0_2 l0_2.length c0_2] 31 (0, 0)) (bk_ b0) hb); have n1_ := qb.mk (qp (be1_ HB b5) hb); clear b0; clear HB; have b0 := n0_; have HB := n1_; clear n0_ n1_; (try clear hb); (try clear hb2); (try clear hk); (try clear hi)))
   go_meet
   case rel => exact ⟨_, (true), (by first | rfl | (simp; done) | (simp [*]; done)), H', ⟨by first | omega | exact Nat.le_refl _⟩, ⟨bk_ b0⟩, ⟨be1_ HB b5⟩⟩
 case rest =>
  clear HC4;(try clear c1);(try clear c2);(try clear c7);(try clear hcz11_0);(try clear hcz11_1);(try clear hcz11_2);(try clear hcz13_0);(try clear hcz13_1);(try clear hcz13_2);(try clear hcz9_0);(try clear hcz9_1);(try clear hcz9_2);(try clear hfz11_0);(try clear hfz11_1);(try clear hfz11_2);(try clear hfz13_0);(try clear hfz13_1);(try clear hfz13_2);(try clear hfz9_0);(try clear hfz9_1);(try clear hfz9_2);obtain ⟨kq, x24_3, rfl, HA, HJ3, b0, HB⟩ := hcut;cases kq with
  | zero => exact absurd HA.out (by simp [spec_NeededBlocks.j0])
  | succ kj3 =>
   have H := HA.out;clear HA
   simp only [spec_NeededBlocks.j0] at H
   by_cases c15 : x24_3 = true
   ·subst c15
    have H1 : (some (([] : List (S58)), false)) = some (r1, r2) := by rw [if_pos rfl] at H; exact H
    clear H;have H := H1;clear H1
    simp only [Option.some.injEq, Prod.mk.injEq] at H
    obtain ⟨rfl, rfl⟩ := H
    go_wp2
    go_ret2
    exact ⟨_, by first | rfl | (simp [qt, qr] <;> rfl) | (simp [*, qt, qr] <;> rfl), by first | exact Kd.R_nil _ _ _ _ _ | exact Kd.N_nil _ _ _ _ _ | exact Kd.V_nil _ _ _ _ _ | exact Kd.Q_nil _ _ _ _ _ | exact Kd.S_nil _ _ _ _ _, be1_ HB b5⟩
   ·replace c15 := Bool.eq_false_iff.mpr c15
    subst c15;have H1 : (spec_NeededBlocks.l0 kj3 l1 l2 ([] : List (S58)) 0 a0_0 a0_1 l0_2) = some (r1, r2) := by rw [if_neg (show ¬ (false = true) by decide)] at H; exact H
    clear H;have H := H1;clear H1;have H' := qb.mk H;clear H
    go_wp2
    go_loopg [8, 9] kj3 (fun kq v8 v9 w' => ∃ (x8_2 : List (S58)) (x9_2 : Int), v9 = .int .i64 x9_2 ∧ qb (spec_NeededBlocks.l0 kq l1 l2 x8_2 x9_2 a0_0 a0_1 l0_2 = some (r1, r2)) ∧ qb (kq ≤ kj3) ∧ qb (Kd.R k58 58 w' w.heap.size (fun _ => True) v8 x8_2) ∧ qb (w'.heap[b2]? = some (.cells #[.int .i64 a0_0, .int .i64 a0_1, (.slice A0_2 l0_2.length c0_2)] 31 (0, 0))) ∧ qb (Below w.heap.size w w'))
    case atStart => exact ⟨(([] : List (S58))), (0), (by first | rfl | (simp; done) | (simp [*]; done)), H', ⟨Nat.le_refl _⟩, ⟨by first | exact Kd.R_nil _ _ _ _ _ | exact Kd.N_nil _ _ _ _ _ | exact Kd.V_nil _ _ _ _ _ | exact Kd.Q_nil _ _ _ _ _ | exact Kd.S_nil _ _ _ _ _⟩, ⟨bk_ b0⟩, ⟨be1_ HB b5⟩⟩
    case round =>
     clear H';(try clear c1);(try clear c2);(try clear c7);(try clear c15);(try clear hcz11_0);(try clear hcz11_1);(try clear hcz11_2);(try clear hcz13_0);(try clear hcz13_1);(try clear hcz13_2);(try clear hcz9_0);(try clear hcz9_1);(try clear hcz9_2);(try clear hfz11_0);(try clear hfz11_1);(try clear hfz11_2);(try clear hfz13_0);(try clear hfz13_1);(try clear hfz13_2);(try clear hfz9_0);(try clear hfz9_1);(try clear hfz9_2);obtain ⟨x8_2, x9_2, rfl, HA, HK2, b6, b0, HB⟩ := hrel;cases gk with
     | zero => exact absurd HA.out (by simp [spec_NeededBlocks.l0])
     | succ k2 =>
      have H := HA.out;clear HA
      simp only [spec_NeededBlocks.l0] at H
      by_cases c16 : x9_2 < a0_0
      ·rw [if_pos c16] at H
       have c16b0 : decide (x9_2 < a0_0) = true := decide_eq_true c16;clear c16;have H' := qb.mk H;clear H;have hcz17_0 : wr.cell? ⟨b2, 0, none⟩ = some (.int .i64 a0_0) := (qc b0.out 0).trans rfl;have hcz17_1 : wr.cell? ⟨b2, 1, none⟩ = some (.int .i64 a0_1) := (qc b0.out 1).trans rfl;have hcz17_2 : wr.cell? ⟨b2, 2, none⟩ = some (.slice A0_2 l0_2.length c0_2) := (qc b0.out 2).trans rfl;have hfz17_0 := qj b0.out 0;have hfz17_1 := qj b0.out 1;have hfz17_2 := qj b0.out 2
       go_wp2
       go_loopg [8, 10] k2 (fun kq v8 v10 w' => ∃ (x8_3 : List (S58)) (x10_3 : Int), v10 = .int .i64 x10_3 ∧ qb (spec_NeededBlocks.l1 kq l1 l2 x8_3 x9_2 x10_3 a0_0 a0_1 l0_2 = some (r1, r2)) ∧ qb (kq ≤ k2) ∧ qb (Kd.R k58 58 w' w.heap.size (fun _ => True) v8 x8_3) ∧ qb (w'.heap[b2]? = some (.cells #[.int .i64 a0_0, .int .i64 a0_1, (.slice A0_2 l0_2.length c0_2)] 31 (0, 0))) ∧ qb (Below w.heap.size w w'))
       case atStart => exact ⟨(x8_2), (0), (by first | rfl | (simp; done) | (simp [*]; done)), H', ⟨Nat.le_refl _⟩, ⟨kr_ b6⟩, ⟨bk_ b0⟩, ⟨be1_ HB b5⟩⟩
       case round =>
        clear H';(try clear c1);(try clear c2);(try clear c7);(try clear c15);(try clear c16);(try clear c16b0);(try clear hcz11_0);(try clear hcz11_1);(try clear hcz11_2);(try clear hcz13_0);(try clear hcz13_1);(try clear hcz13_2);(try clear hcz17_0);(try clear hcz17_1);(try clear hcz17_2);(try clear hcz9_0);(try clear hcz9_1);(try clear hcz9_2);(try clear hfz11_0);(try clear hfz11_1);(try clear hfz11_2);(try clear hfz13_0);(try clear hfz13_1);(try clear hfz13_2);(try clear hfz17_0);(try clear hfz17_1);(try clear hfz17_2);(try clear hfz9_0);(try clear hfz9_1);(try clear hfz9_2);obtain ⟨x8_3, x10_3, rfl, HA, HK3, b6, b0, HB⟩ := hrel;cases gk with
        | zero => exact absurd HA.out (by simp [spec_NeededBlocks.l1])
        | succ k3 =>
         have H := HA.out;clear HA
         simp only [spec_NeededBlocks.l1] at H
         by_cases c18 : x10_3 < a0_1
         ·rw [if_pos c18] at H
          have c18b0 : decide (x10_3 < a0_1) = true := decide_eq_true c18;clear c18;have H' := qb.mk H;clear H;have hcz19_0 : wr.cell? ⟨b2, 0, none⟩ = some (.int .i64 a0_0) := (qc b0.out 0).trans rfl;have hcz19_1 : wr.cell? ⟨b2, 1, none⟩ = some (.int .i64 a0_1) := (qc b0.out 1).trans rfl;have hcz19_2 : wr.cell? ⟨b2, 2, none⟩ = some (.slice A0_2 l0_2.length c0_2) := (qc b0.out 2).trans rfl;have hfz19_0 := qj b0.out 0;have hfz19_1 := qj b0.out 1;have hfz19_2 := qj b0.out 2
          go_wp2
          go_loopg [8, 11] k3 (fun kq v8 v11 w' => ∃ (x8_4 : List (S58)) (x11_4 : Int), v11 = .int .i64 x11_4 ∧ qb (spec_NeededBlocks.l2 kq l1 l2 x8_4 x9_2 x10_3 x11_4 a0_0 a0_1 l0_2 = some (r1, r2)) ∧ qb (kq ≤ k3) ∧ qb (Kd.R k58 58 w' w.heap.size (fun _ => True) v8 x8_4) ∧ qb (w'.heap[b2]? = some (.cells #[.int .i64 a0_0, .int .i64 a0_1, (.slice A0_2 l0_2.length c0_2)] 31 (0, 0))) ∧ qb (Below w.heap.size w w'))
          case atStart => exact ⟨(x8_3), (0), (by first | rfl | (simp; done) | (simp [*]; done)), H', ⟨Nat.le_refl _⟩, ⟨kr_ b6⟩, ⟨bk_ b0⟩, ⟨be1_ HB b5⟩⟩
          case round =>
           clear H';(try clear c1);(try clear c2);(try clear c7);(try clear c15);(try clear c16);(try clear c16b0);(try clear c18);(try clear c18b0);(try clear hcz11_0);(try clear hcz11_1);(try clear hcz11_2);(try clear hcz13_0);(try clear hcz13_1);(try clear hcz13_2);(try clear hcz17_0);(try clear hcz17_1);(try clear hcz17_2);(try clear hcz19_0);(try clear hcz19_1);(try clear hcz19_2);(try clear hcz9_0);(try clear hcz9_1);(try clear hcz9_2);(try clear hfz11_0);(try clear hfz11_1);(try clear hfz11_2);(try clear hfz13_0);(try clear hfz13_1);(try clear hfz13_2);(try clear hfz17_0);(try clear hfz17_1);(try clear hfz17_2);(try clear hfz19_0);(try clear hfz19_1);(try clear hfz19_2);(try clear hfz9_0);(try clear hfz9_1);(try clear hfz9_2);obtain ⟨x8_4, x11_4, rfl, HA, HK4, b6, b0, HB⟩ := hrel;cases gk with
           | zero => exact absurd HA.out (by simp [spec_NeededBlocks.l2])
           | succ k4 =>
            have H := HA.out;clear HA
            simp only [spec_NeededBlocks.l2] at H
            by_cases c20 : x11_4 < 2
            ·rw [if_pos c20] at H
             have c20b0 : decide (x11_4 < 2) = true := decide_eq_true c20;clear c20;replace H := Option.bind_eq_some_iff.mp H;obtain ⟨d8, A210, H⟩ := H;replace H : (if d8 = true then ((spec_avShut.f k4 a0_0 a0_1 l0_2 x9_2 x10_3 (x11_4 == 1)).bind fun d2 => (if d2 = true then (spec_NeededBlocks.l2 k4 l1 l2 x8_4 x9_2 x10_3 (wrap64 (x11_4 + 1)) a0_0 a0_1 l0_2) else ((spec_avClose.f k4 a0_0 a0_1 l0_2 x9_2 x10_3 (x11_4 == 1)).bind fun bt217 => ((spec_avDistance.f k4 bt217.1 bt217.2.1 bt217.2.2 l1 l2).bind fun d0 => (if d0 < 0 then (if x8_4.length < 5864062014805 then (spec_NeededBlocks.l2 k4 l1 l2 (x8_4 ++ [(⟨x9_2, x10_3, (x11_4 == 1)⟩ : S58)]) x9_2 x10_3 (wrap64 (x11_4 + 1)) a0_0 a0_1 l0_2) else (none)) else (spec_NeededBlocks.l2 k4 l1 l2 x8_4 x9_2 x10_3 (wrap64 (x11_4 + 1)) a0_0 a0_1 l0_2)))))) else (spec_NeededBlocks.l2 k4 l1 l2 x8_4 x9_2 x10_3 (wrap64 (x11_4 + 1)) a0_0 a0_1 l0_2)) = some (r1, r2) := H;have A21 := qb.mk A210;clear A210
             by_cases c22 : d8 = true
             ·subst c22
              have H1 : ((spec_avShut.f k4 a0_0 a0_1 l0_2 x9_2 x10_3 (x11_4 == 1)).bind fun d2 => (if d2 = true then (spec_NeededBlocks.l2 k4 l1 l2 x8_4 x9_2 x10_3 (wrap64 (x11_4 + 1)) a0_0 a0_1 l0_2) else ((spec_avClose.f k4 a0_0 a0_1 l0_2 x9_2 x10_3 (x11_4 == 1)).bind fun bt217 => ((spec_avDistance.f k4 bt217.1 bt217.2.1 bt217.2.2 l1 l2).bind fun d0 => (if d0 < 0 then (if x8_4.length < 5864062014805 then (spec_NeededBlocks.l2 k4 l1 l2 (x8_4 ++ [(⟨x9_2, x10_3, (x11_4 == 1)⟩ : S58)]) x9_2 x10_3 (wrap64 (x11_4 + 1)) a0_0 a0_1 l0_2) else (none)) else (spec_NeededBlocks.l2 k4 l1 l2 x8_4 x9_2 x10_3 (wrap64 (x11_4 + 1)) a0_0 a0_1 l0_2)))))) = some (r1, r2) := by rw [if_pos rfl] at H; exact H
              clear H;have H := H1;clear H1;replace H := Option.bind_eq_some_iff.mp H;obtain ⟨d2, A230, H⟩ := H;replace H : (if d2 = true then (spec_NeededBlocks.l2 k4 l1 l2 x8_4 x9_2 x10_3 (wrap64 (x11_4 + 1)) a0_0 a0_1 l0_2) else ((spec_avClose.f k4 a0_0 a0_1 l0_2 x9_2 x10_3 (x11_4 == 1)).bind fun bt217 => ((spec_avDistance.f k4 bt217.1 bt217.2.1 bt217.2.2 l1 l2).bind fun d0 => (if d0 < 0 then (if x8_4.length < 5864062014805 then (spec_NeededBlocks.l2 k4 l1 l2 (x8_4 ++ [(⟨x9_2, x10_3, (x11_4 == 1)⟩ : S58)]) x9_2 x10_3 (wrap64 (x11_4 + 1)) a0_0 a0_1 l0_2) else (none)) else (spec_NeededBlocks.l2 k4 l1 l2 x8_4 x9_2 x10_3 (wrap64 (x11_4 + 1)) a0_0 a0_1 l0_2))))) = some (r1, r2) := H;have A23 := qb.mk A230;clear A230
              by_cases c24 : d2 = true
              ·subst c24
               have H1 : (spec_NeededBlocks.l2 k4 l1 l2 x8_4 x9_2 x10_3 (wrap64 (x11_4 + 1)) a0_0 a0_1 l0_2) = some (r1, r2) := by rw [if_pos rfl] at H; exact H
               clear H;have H := H1;clear H1;have H' := qb.mk H;clear H
               go_wp2_with (first | ((with_reducible refine ze (N := 12) rfl ?_); refine zc ?hg (N := 12) ?hd (cs := #[.int .i64 0, .int .i64 0, .bool false]) (t := 58) ?hr ?_; (case hd => rfl); (case hg => rfl); (case hr => first | (go_simp; done) | (go_simp; rfl)); intro b3 hg w25 hbox hb; have n0_ := qb.mk (Kd.qv (Kd.R_elderB (kr_ b6) b3 (Nat.le_of_eq hg.symm)) hb); have n1_ := qb.mk (qo (g := b2) (o := .cells #[.int .i64 a0_0, .int .i64 a0_1, .slice A0_2 l0_2.length c0_2] 31 (0, 0)) (bk_ b0) hb); have n2_ := qb.mk (qp (be1_ HB b5) hb); have n3_ := qb.mk (hbox); have n4_ := qb.mk ((by rw [hg]; exact (ql (be1_ HB b5)) : w.heap.size ≤ b3)); have n5_ := qb.mk ((by rw [hg]; exact (ql (be1_ HB b5)) : w.heap.size ≤ b3)); have n6_ := qb.mk ((by rw [hg]; exact Nat.ne_of_lt (zd (g := b2) (o := .cells #[.int .i64 a0_0, .int .i64 a0_1, .slice A0_2 l0_2.length c0_2] 31 (0, 0)) (bk_ b0)) : b2 ≠ b3)); have n7_ := qb.mk ((by rw [hg]; exact Nat.ne_of_gt (zd (g := b2) (o := .cells #[.int .i64 a0_0, .int .i64 a0_1, .slice A0_2 l0_2.length c0_2] 31 (0, 0)) (bk_ b0)) : b3 ≠ b2)); clear b6; clear b0; clear HB; have b6 := n0_; have b0 := n1_; have HB := n2_; have b1 := n3_; have d4 := n4_; have b7 := n5_; have b4 := n6_; have b8 := n7_; clear n0_ n1_ n2_ n3_ n4_ n5_ n6_ n7_; clear hb hbox hg; have hnb26 := b8.out; have hnc26 := b4.out; have hcz27_0 : w25.cell? ⟨b3, 0, none⟩ = some (.int .i64 0) := (qc b1.out 0).trans rfl; have hcz27_1 : w25.cell? ⟨b3, 1, none⟩ = some (.int .i64 0) := (qc b1.out 1).trans rfl; have hcz27_2 : w25.cell? ⟨b3, 2, none⟩ = some (.bool false) := (qc b1.out 2).trans rfl; have hfz27_0 := qj b1.out 0; have hfz27_1 := qj b1.out 1; have hfz27_2 := qj b1.out 2; have hcz28_0 : w25.cell? ⟨b2, 0, none⟩ = some (.int .i64 a0_0) := (qc b0.out 0).trans rfl; have hcz28_1 : w25.cell? ⟨b2, 1, none⟩ = some (.int .i64 a0_1) := (qc b0.out 1).trans rfl; have hcz28_2 : w25.cell? ⟨b2, 2, none⟩ = some (.slice A0_2 l0_2.length c0_2) := (qc b0.out 2).trans rfl; have hfz28_0 := qj b0.out 0; have hfz28_1 := qj b0.out 1; have hfz28_2 := qj b0.out 2) | ((with_reducible refine qx (f := 50) rfl ?_); refine zl (some 51) rfl rfl Try.func50 (by kernel_rfl) rfl #[.int .i64 a0_0, .int .i64 a0_1, .agg #[.int .i64 x9_2, .int .i64 x10_3, .bool (x11_4 == 1)]] rfl (by (try simp only [List.map_toArray, List.map_cons, List.map_nil]); first | done | rfl | (simp only [List.length_drop, List.length_take]; rfl)) ?_; (with_reducible refine (spec_avIs.calls k4 a0_0 a0_1 x9_2 x10_3 (x11_4 == 1) true _ A21.out).mono ?_); rintro e w29 ⟨rfl, hb⟩; refine ⟨_, rfl, ?_⟩; have n0_ := qb.mk (Kd.qv (by (with_reducible repeat (first | apply Kd.qm | apply Kd.qn | apply Kd.qq)); exact (Kd.zh (Kd.R_far (p := ⟨b3, 2, none⟩) (Kd.R_far (p := ⟨b3, 1, none⟩) (Kd.R_far (p := ⟨b3, 0, none⟩) (Kd.zh b6.out (fun k_ hk => (⟨hk, hk.2⟩ : _ ∧ k_ ≠ b3))) (fun _ hk => hk.2) (.int .i64 x9_2)) (fun _ hk => hk.2) (.int .i64 x10_3)) (fun _ hk => hk.2) (.bool (x11_4 == 1))) (fun _ h_ => h_.1))) hb); have n1_ := qb.mk (qo (g := b2) (o := .cells #[.int .i64 a0_0, .int .i64 a0_1, .slice A0_2 l0_2.length c0_2] 31 (0, 0)) (by (with_reducible repeat (first | refine qh ?_ _ | refine qi ?_ | refine qg ?_ _)); refine zk ?_ b4.out _; (with_reducible repeat (first | refine qh ?_ _ | refine qi ?_ | refine qg ?_ _)); refine zk ?_ b4.out _; (with_reducible repeat (first | refine qh ?_ _ | refine qi ?_ | refine qg ?_ _)); refine zk ?_ b4.out _; (with_reducible repeat (first | refine qh ?_ _ | refine qi ?_ | refine qg ?_ _)); exact b0.out) hb); have n2_ := qb.mk (qo (g := b3) (o := .cells #[.int .i64 x9_2, .int .i64 x10_3, .bool (x11_4 == 1)] 58 (0, 0)) (by (with_reducible repeat (first | refine qh ?_ _ | refine qi ?_ | refine qg ?_ _)); refine zj (cs := #[.int .i64 x9_2, .int .i64 x10_3, .bool false]) ?_ 2 _ rfl; (with_reducible repeat (first | refine qh ?_ _ | refine qi ?_ | refine qg ?_ _)); refine zj (cs := #[.int .i64 x9_2, .int .i64 0, .bool false]) ?_ 1 _ rfl; (with_reducible repeat (first | refine qh ?_ _ | refine qi ?_ | refine qg ?_ _)); refine zj (cs := #[.int .i64 0, .int .i64 0, .bool false]) ?_ 0 _ rfl; (with_reducible repeat (first | refine qh ?_ _ | refine qi ?_ | refine qg ?_ _)); exact b1.out) hb); have n3_ := qb.mk (qp (be2_ HB b5 b7) hb); clear b6; clear b0; clear b1; clear HB; have b6 := n0_; have b0 := n1_; have b1 := n2_; have HB := n3_; clear n0_ n1_ n2_ n3_; (try clear hb); (try clear hb2); (try clear hk); (try clear hi); have hcz30_0 : w29.cell? ⟨b2, 0, none⟩ = some (.int .i64 a0_0) := (qc b0.out 0).trans rfl; have hcz30_1 : w29.cell? ⟨b2, 1, none⟩ = some (.int .i64 a0_1) := (qc b0.out 1).trans rfl; have hcz30_2 : w29.cell? ⟨b2, 2, none⟩ = some (.slice A0_2 l0_2.length c0_2) := (qc b0.out 2).trans rfl; have hfz30_0 := qj b0.out 0; have hfz30_1 := qj b0.out 1; have hfz30_2 := qj b0.out 2; have hcz31_0 : w29.cell? ⟨b3, 0, none⟩ = some (.int .i64 x9_2) := (qc b1.out 0).trans rfl; have hcz31_1 : w29.cell? ⟨b3, 1, none⟩ = some (.int .i64 x10_3) := (qc b1.out 1).trans rfl; have hcz31_2 : w29.cell? ⟨b3, 2, none⟩ = some (.bool (x11_4 == 1)) := (qc b1.out 2).trans rfl; have hfz31_0 := qj b1.out 0; have hfz31_1 := qj b1.out 1; have hfz31_2 := qj b1.out 2) | (go_at_call 51; (with_reducible refine (spec_avShut.calls k4 a0_0 a0_1 _ _ l0_2 x9_2 x10_3 (x11_4 == 1) true _ ?side1 ?side2 A23.out).mono ?_); (case side1 => repeat (first | exact (Kd.qz HR0_2.out HB.out) | (with_reducible refine Kd.za ?_ _) | (with_reducible refine Kd.zb ?_ _) | (with_reducible refine Kd.zf ?_))); (case side2 => exact HC0_2.out); rintro e w32 ⟨rfl, hb⟩; have n0_ := qb.mk (Kd.qv (kr_ b6) hb); have n1_ := qb.mk (qo (g := b2) (o := .cells #[.int .i64 a0_0, .int .i64 a0_1, .slice A0_2 l0_2.length c0_2] 31 (0, 0)) (bk_ b0) hb); have n2_ := qb.mk (qo (g := b3) (o := .cells #[.int .i64 x9_2, .int .i64 x10_3, .bool (x11_4 == 1)] 58 (0, 0)) (bk_ b1) hb); have n3_ := qb.mk (qp (be2_ HB b5 b7) hb); clear b6; clear b0; clear b1; clear HB; have b6 := n0_; have b0 := n1_; have b1 := n2_; have HB := n3_; clear n0_ n1_ n2_ n3_; (try clear hb); (try clear hb2); (try clear hk); (try clear hi)))
               go_roundg k4
               case measure => have := HJ3.out; have := HK2.out; have := HK3.out; have := HK4.out; omega
               case rel => exact ⟨(x8_4), (wrap64 (x11_4 + 1)), (by first | rfl | (simp; done) | (simp [*]; done)), H', ⟨by have := HJ3.out; have := HK2.out; have := HK3.out; have := HK4.out; omega⟩, ⟨by (with_reducible repeat (first | apply Kd.qm | apply Kd.qn | apply Kd.qq)); exact Kd.zh b6.out (fun _ hk => trivial)⟩, ⟨bk_ b0⟩, ⟨be2_ HB b5 b7⟩⟩
              ·replace c24 := Bool.eq_false_iff.mpr c24
               subst c24;have H1 : ((spec_avClose.f k4 a0_0 a0_1 l0_2 x9_2 x10_3 (x11_4 == 1)).bind fun bt217 => ((spec_avDistance.f k4 bt217.1 bt217.2.1 bt217.2.2 l1 l2).bind fun d0 => (if d0 < 0 then (if x8_4.length < 5864062014805 then (spec_NeededBlocks.l2 k4 l1 l2 (x8_4 ++ [(⟨x9_2, x10_3, (x11_4 == 1)⟩ : S58)]) x9_2 x10_3 (wrap64 (x11_4 + 1)) a0_0 a0_1 l0_2) else (none)) else (spec_NeededBlocks.l2 k4 l1 l2 x8_4 x9_2 x10_3 (wrap64 (x11_4 + 1)) a0_0 a0_1 l0_2)))) = some (r1, r2) := by rw [if_neg (show ¬ (false = true) by decide)] at H; exact H
               clear H;have H := H1;clear H1;replace H := Option.bind_eq_some_iff.mp H;obtain ⟨⟨d5, d6, d3⟩, A330, H⟩ := H;replace H : ((spec_avDistance.f k4 d5 d6 d3 l1 l2).bind fun d0 => (if d0 < 0 then (if x8_4.length < 5864062014805 then (spec_NeededBlocks.l2 k4 l1 l2 (x8_4 ++ [(⟨x9_2, x10_3, (x11_4 == 1)⟩ : S58)]) x9_2 x10_3 (wrap64 (x11_4 + 1)) a0_0 a0_1 l0_2) else (none)) else (spec_NeededBlocks.l2 k4 l1 l2 x8_4 x9_2 x10_3 (wrap64 (x11_4 + 1)) a0_0 a0_1 l0_2))) = some (r1, r2) := H;have A33 := qb.mk A330;clear A330;replace H := Option.bind_eq_some_iff.mp H;obtain ⟨d0, A340, H⟩ := H;replace H : (if d0 < 0 then (if x8_4.length < 5864062014805 then (spec_NeededBlocks.l2 k4 l1 l2 (x8_4 ++ [(⟨x9_2, x10_3, (x11_4 == 1)⟩ : S58)]) x9_2 x10_3 (wrap64 (x11_4 + 1)) a0_0 a0_1 l0_2) else (none)) else (spec_NeededBlocks.l2 k4 l1 l2 x8_4 x9_2 x10_3 (wrap64 (x11_4 + 1)) a0_0 a0_1 l0_2)) = some (r1, r2) := H;have A34 := qb.mk A340;clear A340
               by_cases c35 : d0 < 0
               ·rw [if_pos c35] at H
                have c35b0 : decide (d0 < 0) = true := decide_eq_true c35;clear c35
                by_cases c36 : x8_4.length < 5864062014805
                ·rw [if_pos c36] at H
                 have LMc36 := qb.mk c36;clear c36;obtain ⟨d9, hy223⟩ : ∃ y_ : List (S58), y_ = (x8_4 ++ [(⟨x9_2, x10_3, (x11_4 == 1)⟩ : S58)]) := ⟨_, rfl⟩;replace H : (spec_NeededBlocks.l2 k4 l1 l2 d9 x9_2 x10_3 (wrap64 (x11_4 + 1)) a0_0 a0_1 l0_2) = some (r1, r2) := by first | (rw [hy223]; with_reducible exact H) | (have H2_ := (Option.bind_some _ _).symm.trans H; rw [hy223]; with_reducible exact H2_) | (have H2_ := (Option.bind_some _ _).symm.trans H; with_reducible exact H2_) | with_reducible exact H | (rw [hy223]; exact H) | exact H
                 have f0 := qb.mk hy223;clear hy223;have H' := qb.mk H;clear H
                 go_wp2_with (first | ((with_reducible refine ze (N := 12) rfl ?_); refine zc ?hg (N := 12) ?hd (cs := #[.int .i64 0, .int .i64 0, .bool false]) (t := 58) ?hr ?_; (case hd => rfl); (case hg => rfl); (case hr => first | (go_simp; done) | (go_simp; rfl)); intro b3 hg w37 hbox hb; have n0_ := qb.mk (Kd.qv (Kd.R_elderB (kr_ b6) b3 (Nat.le_of_eq hg.symm)) hb); have n1_ := qb.mk (qo (g := b2) (o := .cells #[.int .i64 a0_0, .int .i64 a0_1, .slice A0_2 l0_2.length c0_2] 31 (0, 0)) (bk_ b0) hb); have n2_ := qb.mk (qp (be1_ HB b5) hb); have n3_ := qb.mk (hbox); have n4_ := qb.mk ((by rw [hg]; exact (ql (be1_ HB b5)) : w.heap.size ≤ b3)); have n5_ := qb.mk ((by rw [hg]; exact (ql (be1_ HB b5)) : w.heap.size ≤ b3)); have n6_ := qb.mk ((by rw [hg]; exact Nat.ne_of_lt (zd (g := b2) (o := .cells #[.int .i64 a0_0, .int .i64 a0_1, .slice A0_2 l0_2.length c0_2] 31 (0, 0)) (bk_ b0)) : b2 ≠ b3)); have n7_ := qb.mk ((by rw [hg]; exact Nat.ne_of_gt (zd (g := b2) (o := .cells #[.int .i64 a0_0, .int .i64 a0_1, .slice A0_2 l0_2.length c0_2] 31 (0, 0)) (bk_ b0)) : b3 ≠ b2)); clear b6; clear b0; clear HB; have b6 := n0_; have b0 := n1_; have HB := n2_; have b1 := n3_; have d4 := n4_; have b7 := n5_; have b4 := n6_; have b8 := n7_; clear n0_ n1_ n2_ n3_ n4_ n5_ n6_ n7_; clear hb hbox hg; have hnb38 := b8.out; have hnc38 := b4.out; have hcz39_0 : w37.cell? ⟨b3, 0, none⟩ = some (.int .i64 0) := (qc b1.out 0).trans rfl; have hcz39_1 : w37.cell? ⟨b3, 1, none⟩ = some (.int .i64 0) := (qc b1.out 1).trans rfl; have hcz39_2 : w37.cell? ⟨b3, 2, none⟩ = some (.bool false) := (qc b1.out 2).trans rfl; have hfz39_0 := qj b1.out 0; have hfz39_1 := qj b1.out 1; have hfz39_2 := qj b1.out 2; have hcz40_0 : w37.cell? ⟨b2, 0, none⟩ = some (.int .i64 a0_0) := (qc b0.out 0).trans rfl; have hcz40_1 : w37.cell? ⟨b2, 1, none⟩ = some (.int .i64 a0_1) := (qc b0.out 1).trans rfl; have hcz40_2 : w37.cell? ⟨b2, 2, none⟩ = some (.slice A0_2 l0_2.length c0_2) := (qc b0.out 2).trans rfl; have hfz40_0 := qj b0.out 0; have hfz40_1 := qj b0.out 1; have hfz40_2 := qj b0.out 2) | ((with_reducible refine qx (f := 50) rfl ?_); refine zl (some 51) rfl rfl Try.func50 (by kernel_rfl) rfl #[.int .i64 a0_0, .int .i64 a0_1, .agg #[.int .i64 x9_2, .int .i64 x10_3, .bool (x11_4 == 1)]] rfl (by (try simp only [List.map_toArray, List.map_cons, List.map_nil]); first | done | rfl | (simp only [List.length_drop, List.length_take]; rfl)) ?_; (with_reducible refine (spec_avIs.calls k4 a0_0 a0_1 x9_2 x10_3 (x11_4 == 1) true _ A21.out).mono ?_); rintro e w41 ⟨rfl, hb⟩; refine ⟨_, rfl, ?_⟩; have n0_ := qb.mk (Kd.qv (by (with_reducible repeat (first | apply Kd.qm | apply Kd.qn | apply Kd.qq)); exact (Kd.zh (Kd.R_far (p := ⟨b3, 2, none⟩) (Kd.R_far (p := ⟨b3, 1, none⟩) (Kd.R_far (p := ⟨b3, 0, none⟩) (Kd.zh b6.out (fun k_ hk => (⟨hk, hk.2⟩ : _ ∧ k_ ≠ b3))) (fun _ hk => hk.2) (.int .i64 x9_2)) (fun _ hk => hk.2) (.int .i64 x10_3)) (fun _ hk => hk.2) (.bool (x11_4 == 1))) (fun _ h_ => h_.1))) hb); have n1_ := qb.mk (qo (g := b2) (o := .cells #[.int .i64 a0_0, .int .i64 a0_1, .slice A0_2 l0_2.length c0_2] 31 (0, 0)) (by (with_reducible repeat (first | refine qh ?_ _ | refine qi ?_ | refine qg ?_ _)); refine zk ?_ b4.out _; (with_reducible repeat (first | refine qh ?_ _ | refine qi ?_ | refine qg ?_ _)); refine zk ?_ b4.out _; (with_reducible repeat (first | refine qh ?_ _ | refine qi ?_ | refine qg ?_ _)); refine zk ?_ b4.out _; (with_reducible repeat (first | refine qh ?_ _ | refine qi ?_ | refine qg ?_ _)); exact b0.out) hb); have n2_ := qb.mk (qo (g := b3) (o := .cells #[.int .i64 x9_2, .int .i64 x10_3, .bool (x11_4 == 1)] 58 (0, 0)) (by (with_reducible repeat (first | refine qh ?_ _ | refine qi ?_ | refine qg ?_ _)); refine zj (cs := #[.int .i64 x9_2, .int .i64 x10_3, .bool false]) ?_ 2 _ rfl; (with_reducible repeat (first | refine qh ?_ _ | refine qi ?_ | refine qg ?_ _)); refine zj (cs := #[.int .i64 x9_2, .int .i64 0, .bool false]) ?_ 1 _ rfl; (with_reducible repeat (first | refine qh ?_ _ | refine qi ?_ | refine qg ?_ _)); refine zj (cs := #[.int .i64 0, .int .i64 0, .bool false]) ?_ 0 _ rfl; (with_reducible repeat (first | refine qh ?_ _ | refine qi ?_ | refine qg ?_ _)); exact b1.out) hb); have n3_ := qb.mk (qp (be2_ HB b5 b7) hb); clear b6; clear b0; clear b1; clear HB; have b6 := n0_; have b0 := n1_; have b1 := n2_; have HB := n3_; clear n0_ n1_ n2_ n3_; (try clear hb); (try clear hb2); (try clear hk); (try clear hi); have hcz42_0 : w41.cell? ⟨b2, 0, none⟩ = some (.int .i64 a0_0) := (qc b0.out 0).trans rfl; have hcz42_1 : w41.cell? ⟨b2, 1, none⟩ = some (.int .i64 a0_1) := (qc b0.out 1).trans rfl; have hcz42_2 : w41.cell? ⟨b2, 2, none⟩ = some (.slice A0_2 l0_2.length c0_2) := (qc b0.out 2).trans rfl; have hfz42_0 := qj b0.out 0; have hfz42_1 := qj b0.out 1; have hfz42_2 := qj b0.out 2; have hcz43_0 : w41.cell? ⟨b3, 0, none⟩ = some (.int .i64 x9_2) := (qc b1.out 0).trans rfl; have hcz43_1 : w41.cell? ⟨b3, 1, none⟩ = some (.int .i64 x10_3) := (qc b1.out 1).trans rfl; have hcz43_2 : w41.cell? ⟨b3, 2, none⟩ = some (.bool (x11_4 == 1)) := (qc b1.out 2).trans rfl; have hfz43_0 := qj b1.out 0; have hfz43_1 := qj b1.out 1; have hfz43_2 := qj b1.out 2) | (go_at_call 51; (with_reducible refine (spec_avShut.calls k4 a0_0 a0_1 _ _ l0_2 x9_2 x10_3 (x11_4 == 1) false _ ?side1 ?side2 A23.out).mono ?_); (case side1 => repeat (first | exact (Kd.qz HR0_2.out HB.out) | (with_reducible refine Kd.za ?_ _) | (with_reducible refine Kd.zb ?_ _) | (with_reducible refine Kd.zf ?_))); (case side2 => exact HC0_2.out); rintro e w44 ⟨rfl, hb⟩; have n0_ := qb.mk (Kd.qv (kr_ b6) hb); have n1_ := qb.mk (qo (g := b2) (o := .cells #[.int .i64 a0_0, .int .i64 a0_1, .slice A0_2 l0_2.length c0_2] 31 (0, 0)) (bk_ b0) hb); have n2_ := qb.mk (qo (g := b3) (o := .cells #[.int .i64 x9_2, .int .i64 x10_3, .bool (x11_4 == 1)] 58 (0, 0)) (bk_ b1) hb); have n3_ := qb.mk (qp (be2_ HB b5 b7) hb); clear b6; clear b0; clear b1; clear HB; have b6 := n0_; have b0 := n1_; have b1 := n2_; have HB := n3_; clear n0_ n1_ n2_ n3_; (try clear hb); (try clear hb2); (try clear hk); (try clear hi); have hcz45_0 : w44.cell? ⟨b2, 0, none⟩ = some (.int .i64 a0_0) := (qc b0.out 0).trans rfl; have hcz45_1 : w44.cell? ⟨b2, 1, none⟩ = some (.int .i64 a0_1) := (qc b0.out 1).trans rfl; have hcz45_2 : w44.cell? ⟨b2, 2, none⟩ = some (.slice A0_2 l0_2.length c0_2) := (qc b0.out 2).trans rfl; have hfz45_0 := qj b0.out 0; have hfz45_1 := qj b0.out 1; have hfz45_2 := qj b0.out 2; have hcz46_0 : w44.cell? ⟨b3, 0, none⟩ = some (.int .i64 x9_2) := (qc b1.out 0).trans rfl; have hcz46_1 : w44.cell? ⟨b3, 1, none⟩ = some (.int .i64 x10_3) := (qc b1.out 1).trans rfl; have hcz46_2 : w44.cell? ⟨b3, 2, none⟩ = some (.bool (x11_4 == 1)) := (qc b1.out 2).trans rfl; have hfz46_0 := qj b1.out 0; have hfz46_1 := qj b1.out 1; have hfz46_2 := qj b1.out 2) | (go_at_call 52; (with_reducible refine (spec_avClose.calls k4 a0_0 a0_1 _ _ l0_2 x9_2 x10_3 (x11_4 == 1) d5 d6 d3 _ ?side1 ?side2 A33.out).mono ?_); (case side1 => repeat (first | exact (Kd.qz HR0_2.out HB.out) | (with_reducible refine Kd.za ?_ _) | (with_reducible refine Kd.zb ?_ _) | (with_reducible refine Kd.zf ?_))); (case side2 => exact HC0_2.out); rintro e w47 ⟨v220, rfl, ho0, hb⟩; have n0_ := qb.mk (Kd.zm (kr_ b6) (Kd.zu ho0) hb); have n1_ := qb.mk (Kd.zp (Kd.R_newB (Kd.zv ho0 (Kd.R_lt (kr_ b6))) (g := b3) (o := .cells #[.int .i64 x9_2, .int .i64 x10_3, .bool (x11_4 == 1)] 58 (0, 0)) (bk_ b1)) (ql (be2_ HB b5 b7))); have n2_ := qb.mk (qo (g := b2) (o := .cells #[.int .i64 a0_0, .int .i64 a0_1, .slice A0_2 l0_2.length c0_2] 31 (0, 0)) (bk_ b0) hb); have n3_ := qb.mk (qo (g := b3) (o := .cells #[.int .i64 x9_2, .int .i64 x10_3, .bool (x11_4 == 1)] 58 (0, 0)) (bk_ b1) hb); have n4_ := qb.mk (qp (be2_ HB b5 b7) hb); clear b6; clear b0; clear b1; clear HB; have b6 := n0_; have b9 := n1_; have b0 := n2_; have b1 := n3_; have HB := n4_; clear n0_ n1_ n2_ n3_ n4_; (try clear hb); (try clear hb2); (try clear hk); (try clear hi); (try clear ho0); obtain ⟨Ao48, co48, eo48⟩ := Kd.zn b9.out; subst eo48) | (go_at_call 40; (with_reducible refine (spec_avDistance.calls k4 d5 d6 _ _ d3 _ _ l1 _ _ l2 d0 _ ?side1 ?side2 ?side3 ?side4 ?side5 ?side6 A34.out).mono ?_); (case side1 => repeat (first | exact (Kd.qw b9.out).2.2 | (with_reducible refine Kd.za ?_ _) | (with_reducible refine Kd.zb ?_ _) | (with_reducible refine Kd.zf ?_))); (case side2 => exact (Kd.qw b9.out).2.1); (case side3 => repeat (first | exact (Kd.qz HR1.out HB.out) | (with_reducible refine Kd.za ?_ _) | (with_reducible refine Kd.zb ?_ _) | (with_reducible refine Kd.zf ?_))); (case side4 => exact HC1.out); (case side5 => repeat (first | exact (Kd.qz HR2.out HB.out) | (with_reducible refine Kd.za ?_ _) | (with_reducible refine Kd.zb ?_ _) | (with_reducible refine Kd.zf ?_))); (case side6 => exact HC2.out); rintro e w49 ⟨rfl, hb⟩; have n0_ := qb.mk (Kd.qv (kr_ b6) hb); have n1_ := qb.mk (Kd.qv (kr_ b9) hb); have n2_ := qb.mk (qo (g := b2) (o := .cells #[.int .i64 a0_0, .int .i64 a0_1, .slice A0_2 l0_2.length c0_2] 31 (0, 0)) (bk_ b0) hb); have n3_ := qb.mk (qo (g := b3) (o := .cells #[.int .i64 x9_2, .int .i64 x10_3, .bool (x11_4 == 1)] 58 (0, 0)) (bk_ b1) hb); have n4_ := qb.mk (qp (be2_ HB b5 b7) hb); clear b6; clear b9; clear b0; clear b1; clear HB; have b6 := n0_; have b9 := n1_; have b0 := n2_; have b1 := n3_; have HB := n4_; clear n0_ n1_ n2_ n3_ n4_; (try clear hb); (try clear hb2); (try clear hk); (try clear hi); have hcz50_0 : w49.cell? ⟨b3, 0, none⟩ = some (.int .i64 x9_2) := (qc b1.out 0).trans rfl; have hcz50_1 : w49.cell? ⟨b3, 1, none⟩ = some (.int .i64 x10_3) := (qc b1.out 1).trans rfl; have hcz50_2 : w49.cell? ⟨b3, 2, none⟩ = some (.bool (x11_4 == 1)) := (qc b1.out 2).trans rfl; have hfz50_0 := qj b1.out 0; have hfz50_1 := qj b1.out 1; have hfz50_2 := qj b1.out 2) | ((with_reducible refine gate_builtin (b := .append) (xs := #[.tmp 67, .tmp 69]) rfl ?_); at_builtin; refine Kd.R_append k58 (w0 := w) w.heap.size rfl (.tmp 67) (.tmp 69) 29 58 (.agg #[(.int .i64 0), (.int .i64 0), (.bool false)]) 24 rfl Try.underlying29 jg rfl (by decide) (by omega) u8 x8_4 (⟨x9_2, x10_3, (x11_4 == 1)⟩ : S58) [.int .i64 x9_2, .int .i64 x10_3, .bool (x11_4 == 1)] (fun k_ => some k_ ≠ (.slice Ao48 d3.length co48 : Value).ownBlock ∧ k_ ≠ b3) (fun _ => False) rfl rfl ?aP (fun _ hk => hk.elim) ?aF ?aO ?aB ?aS ?aL ?_; (case aP => exact k58_mkM _ _ _ (⟨x9_2, x10_3, (x11_4 == 1)⟩ : S58)); (case aB => exact (be2_ HB b5 b7)); (case aF => exact (fun k_ hk => ⟨Kd.fresh' (Kd.R_lt (kr_ b9)) k_ hk, Kd.freshB (g := b3) (o := .cells #[.int .i64 x9_2, .int .i64 x10_3, .bool (x11_4 == 1)] 58 (0, 0)) (bk_ b1) k_ hk⟩)); (case aO => exact (by (with_reducible repeat (first | apply Kd.qm | apply Kd.qn | apply Kd.qq)); exact Kd.zh b6.out (fun _ hk => ⟨hk.2, hk.1.2⟩))); (case aS => exact (ql (be2_ HB b5 b7))); (case aL => have := LMc36.out; omega); intro v224 w51 ho hb hg hat; rw [← f0.out] at ho; have n0_ := qb.mk (zq (g := b2) (o := .cells #[.int .i64 a0_0, .int .i64 a0_1, .slice A0_2 l0_2.length c0_2] 31 (0, 0)) (bk_ b0) hg (Kd.R_ne b6.out b0.out (by decide))); have n1_ := qb.mk (zq (g := b3) (o := .cells #[.int .i64 x9_2, .int .i64 x10_3, .bool (x11_4 == 1)] 58 (0, 0)) (bk_ b1) hg (Kd.R_away b6.out (fun _ hk => hk.1.2))); have n2_ := qb.mk (Kd.R_after (ok := (fun k_ => k_ ≠ b3)) (by (with_reducible repeat (first | apply Kd.qm | apply Kd.qn | apply Kd.qq)); exact Kd.zh b9.out (fun _ hk => ⟨hk.2, hk.1.2⟩)) hg hat); have n3_ := qb.mk (hb); have n4_ := qb.mk (ho); clear b0; clear b1; clear b9; clear HB; clear b6; have b0 := n0_; have b1 := n1_; have b9 := n2_; have HB := n3_; have f1 := n4_; clear n0_ n1_ n2_ n3_ n4_; clear ho hb hg hat))
                 go_roundg k4
                 case measure => have := HJ3.out; have := HK2.out; have := HK3.out; have := HK4.out; omega
                 case rel => exact ⟨(d9), (wrap64 (x11_4 + 1)), (by first | rfl | (simp; done) | (simp [*]; done)), H', ⟨by have := HJ3.out; have := HK2.out; have := HK3.out; have := HK4.out; omega⟩, ⟨by (with_reducible repeat (first | apply Kd.qm | apply Kd.qn | apply Kd.qq)); exact Kd.zh f1.out (fun _ hk => trivial)⟩, ⟨bk_ b0⟩, ⟨be2_ HB b5 b7⟩⟩
                ·rw [if_neg c36] at H
                 exact absurd H (by simp)
               ·rw [if_neg c35] at H
                have c35b0 : decide (d0 < 0) = false := decide_eq_false c35;clear c35;have H' := qb.mk H;clear H
                go_wp2_with (first | ((with_reducible refine ze (N := 12) rfl ?_); refine zc ?hg (N := 12) ?hd (cs := #[.int .i64 0, .int .i64 0, .bool false]) (t := 58) ?hr ?_; (case hd => rfl); (case hg => rfl); (case hr => first | (go_simp; done) | (go_simp; rfl)); intro b3 hg w52 hbox hb; have n0_ := qb.mk (Kd.qv (Kd.R_elderB (kr_ b6) b3 (Nat.le_of_eq hg.symm)) hb); have n1_ := qb.mk (qo (g := b2) (o := .cells #[.int .i64 a0_0, .int .i64 a0_1, .slice A0_2 l0_2.length c0_2] 31 (0, 0)) (bk_ b0) hb); have n2_ := qb.mk (qp (be1_ HB b5) hb); have n3_ := qb.mk (hbox); have n4_ := qb.mk ((by rw [hg]; exact (ql (be1_ HB b5)) : w.heap.size ≤ b3)); have n5_ := qb.mk ((by rw [hg]; exact (ql (be1_ HB b5)) : w.heap.size ≤ b3)); have n6_ := qb.mk ((by rw [hg]; exact Nat.ne_of_lt (zd (g := b2) (o := .cells #[.int .i64 a0_0, .int .i64 a0_1, .slice A0_2 l0_2.length c0_2] 31 (0, 0)) (bk_ b0)) : b2 ≠ b3)); have n7_ := qb.mk ((by rw [hg]; exact Nat.ne_of_gt (zd (g := b2) (o := .cells #[.int .i64 a0_0, .int .i64 a0_1, .slice A0_2 l0_2.length c0_2] 31 (0, 0)) (bk_ b0)) : b3 ≠ b2)); clear b6; clear b0; clear HB; have b6 := n0_; have b0 := n1_; have HB := n2_; have b1 := n3_; have d4 := n4_; have b7 := n5_; have b4 := n6_; have b8 := n7_; clear n0_ n1_ n2_ n3_ n4_ n5_ n6_ n7_; clear hb hbox hg; have hnb53 := b8.out; have hnc53 := b4.out; have hcz54_0 : w52.cell? ⟨b3, 0, none⟩ = some (.int .i64 0) := (qc b1.out 0).trans rfl; have hcz54_1 : w52.cell? ⟨b3, 1, none⟩ = some (.int .i64 0) := (qc b1.out 1).trans rfl; have hcz54_2 : w52.cell? ⟨b3, 2, none⟩ = some (.bool false) := (qc b1.out 2).trans rfl; have hfz54_0 := qj b1.out 0; have hfz54_1 := qj b1.out 1; have hfz54_2 := qj b1.out 2; have hcz55_0 : w52.cell? ⟨b2, 0, none⟩ = some (.int .i64 a0_0) := (qc b0.out 0).trans rfl; have hcz55_1 : w52.cell? ⟨b2, 1, none⟩ = some (.int .i64 a0_1) := (qc b0.out 1).trans rfl; have hcz55_2 : w52.cell? ⟨b2, 2, none⟩ = some (.slice A0_2 l0_2.length c0_2) := (qc b0.out 2).trans rfl; have hfz55_0 := qj b0.out 0; have hfz55_1 := qj b0.out 1; have hfz55_2 := qj b0.out 2) | ((with_reducible refine qx (f := 50) rfl ?_); refine zl (some 51) rfl rfl Try.func50 (by kernel_rfl) rfl #[.int .i64 a0_0, .int .i64 a0_1, .agg #[.int .i64 x9_2, .int .i64 x10_3, .bool (x11_4 == 1)]] rfl (by (try simp only [List.map_toArray, List.map_cons, List.map_nil]); first | done | rfl | (simp only [List.length_drop, List.length_take]; rfl)) ?_; (with_reducible refine (spec_avIs.calls k4 a0_0 a0_1 x9_2 x10_3 (x11_4 == 1) true _ A21.out).mono ?_); rintro e w56 ⟨rfl, hb⟩; refine ⟨_, rfl, ?_⟩; have n0_ := qb.mk (Kd.qv (by (with_reducible repeat (first | apply Kd.qm | apply Kd.qn | apply Kd.qq)); exact (Kd.zh (Kd.R_far (p := ⟨b3, 2, none⟩) (Kd.R_far (p := ⟨b3, 1, none⟩) (Kd.R_far (p := ⟨b3, 0, none⟩) (Kd.zh b6.out (fun k_ hk => (⟨hk, hk.2⟩ : _ ∧ k_ ≠ b3))) (fun _ hk => hk.2) (.int .i64 x9_2)) (fun _ hk => hk.2) (.int .i64 x10_3)) (fun _ hk => hk.2) (.bool (x11_4 == 1))) (fun _ h_ => h_.1))) hb); have n1_ := qb.mk (qo (g := b2) (o := .cells #[.int .i64 a0_0, .int .i64 a0_1, .slice A0_2 l0_2.length c0_2] 31 (0, 0)) (by (with_reducible repeat (first | refine qh ?_ _ | refine qi ?_ | refine qg ?_ _)); refine zk ?_ b4.out _; (with_reducible repeat (first | refine qh ?_ _ | refine qi ?_ | refine qg ?_ _)); refine zk ?_ b4.out _; (with_reducible repeat (first | refine qh ?_ _ | refine qi ?_ | refine qg ?_ _)); refine zk ?_ b4.out _; (with_reducible repeat (first | refine qh ?_ _ | refine qi ?_ | refine qg ?_ _)); exact b0.out) hb); have n2_ := qb.mk (qo (g := b3) (o := .cells #[.int .i64 x9_2, .int .i64 x10_3, .bool (x11_4 == 1)] 58 (0, 0)) (by (with_reducible repeat (first | refine qh ?_ _ | refine qi ?_ | refine qg ?_ _)); refine zj (cs := #[.int .i64 x9_2, .int .i64 x10_3, .bool false]) ?_ 2 _ rfl; (with_reducible repeat (first | refine qh ?_ _ | refine qi ?_ | refine qg ?_ _)); refine zj (cs := #[.int .i64 x9_2, .int .i64 0, .bool false]) ?_ 1 _ rfl; (with_reducible repeat (first | refine qh ?_ _ | refine qi ?_ | refine qg ?_ _)); refine zj (cs := #[.int .i64 0, .int .i64 0, .bool false]) ?_ 0 _ rfl; (with_reducible repeat (first | refine qh ?_ _ | refine qi ?_ | refine qg ?_ _)); exact b1.out) hb); have n3_ := qb.mk (qp (be2_ HB b5 b7) hb); clear b6; clear b0; clear b1; clear HB; have b6 := n0_; have b0 := n1_; have b1 := n2_; have HB := n3_; clear n0_ n1_ n2_ n3_; (try clear hb); (try clear hb2); (try clear hk); (try clear hi); have hcz57_0 : w56.cell? ⟨b2, 0, none⟩ = some (.int .i64 a0_0) := (qc b0.out 0).trans rfl; have hcz57_1 : w56.cell? ⟨b2, 1, none⟩ = some (.int .i64 a0_1) := (qc b0.out 1).trans rfl; have hcz57_2 : w56.cell? ⟨b2, 2, none⟩ = some (.slice A0_2 l0_2.length c0_2) := (qc b0.out 2).trans rfl; have hfz57_0 := qj b0.out 0; have hfz57_1 := qj b0.out 1; have hfz57_2 := qj b0.out 2; have hcz58_0 : w56.cell? ⟨b3, 0, none⟩ = some (.int .i64 x9_2) := (qc b1.out 0).trans rfl; have hcz58_1 : w56.cell? ⟨b3, 1, none⟩ = some (.int .i64 x10_3) := (qc b1.out 1).trans rfl; have hcz58_2 : w56.cell? ⟨b3, 2, none⟩ = some (.bool (x11_4 == 1)) := (qc b1.out 2).trans rfl; have hfz58_0 := qj b1.out 0; have hfz58_1 := qj b1.out 1; have hfz58_2 := qj b1.out 2) | (go_at_call 51; (with_reducible refine (spec_avShut.calls k4 a0_0 a0_1 _ _ l0_2 x9_2 x10_3 (x11_4 == 1) false _ ?side1 ?side2 A23.out).mono ?_); (case side1 => repeat (first | exact (Kd.qz HR0_2.out HB.out) | (with_reducible refine Kd.za ?_ _) | (with_reducible refine Kd.zb ?_ _) | (with_reducible refine Kd.zf ?_))); (case side2 => exact HC0_2.out); rintro e w59 ⟨rfl, hb⟩; have n0_ := qb.mk (Kd.qv (kr_ b6) hb); have n1_ := qb.mk (qo (g := b2) (o := .cells #[.int .i64 a0_0, .int .i64 a0_1, .slice A0_2 l0_2.length c0_2] 31 (0, 0)) (bk_ b0) hb); have n2_ := qb.mk (qo (g := b3) (o := .cells #[.int .i64 x9_2, .int .i64 x10_3, .bool (x11_4 == 1)] 58 (0, 0)) (bk_ b1) hb); have n3_ := qb.mk (qp (be2_ HB b5 b7) hb); clear b6; clear b0; clear b1; clear HB; have b6 := n0_; have b0 := n1_; have b1 := n2_; have HB := n3_; clear n0_ n1_ n2_ n3_; (try clear hb); (try clear hb2); (try clear hk); (try clear hi); have hcz60_0 : w59.cell? ⟨b2, 0, none⟩ = some (.int .i64 a0_0) := (qc b0.out 0).trans rfl; have hcz60_1 : w59.cell? ⟨b2, 1, none⟩ = some (.int .i64 a0_1) := (qc b0.out 1).trans rfl; have hcz60_2 : w59.cell? ⟨b2, 2, none⟩ = some (.slice A0_2 l0_2.length c0_2) := (qc b0.out 2).trans rfl; have hfz60_0 := qj b0.out 0; have hfz60_1 := qj b0.out 1; have hfz60_2 := qj b0.out 2; have hcz61_0 : w59.cell? ⟨b3, 0, none⟩ = some (.int .i64 x9_2) := (qc b1.out 0).trans rfl; have hcz61_1 : w59.cell? ⟨b3, 1, none⟩ = some (.int .i64 x10_3) := (qc b1.out 1).trans rfl; have hcz61_2 : w59.cell? ⟨b3, 2, none⟩ = some (.bool (x11_4 == 1)) := (qc b1.out 2).trans rfl; have hfz61_0 := qj b1.out 0; have hfz61_1 := qj b1.out 1; have hfz61_2 := qj b1.out 2) | (go_at_call 52; (with_reducible refine (spec_avClose.calls k4 a0_0 a0_1 _ _ l0_2 x9_2 x10_3 (x11_4 == 1) d5 d6 d3 _ ?side1 ?side2 A33.out).mono ?_); (case side1 => repeat (first | exact (Kd.qz HR0_2.out HB.out) | (with_reducible refine Kd.za ?_ _) | (with_reducible refine Kd.zb ?_ _) | (with_reducible refine Kd.zf ?_))); (case side2 => exact HC0_2.out); rintro e w62 ⟨v220, rfl, ho0, hb⟩; have n0_ := qb.mk (Kd.zm (kr_ b6) (Kd.zu ho0) hb); have n1_ := qb.mk (Kd.zp (Kd.R_newB (Kd.zv ho0 (Kd.R_lt (kr_ b6))) (g := b3) (o := .cells #[.int .i64 x9_2, .int .i64 x10_3, .bool (x11_4 == 1)] 58 (0, 0)) (bk_ b1)) (ql (be2_ HB b5 b7))); have n2_ := qb.mk (qo (g := b2) (o := .cells #[.int .i64 a0_0, .int .i64 a0_1, .slice A0_2 l0_2.length c0_2] 31 (0, 0)) (bk_ b0) hb); have n3_ := qb.mk (qo (g := b3) (o := .cells #[.int .i64 x9_2, .int .i64 x10_3, .bool (x11_4 == 1)] 58 (0, 0)) (bk_ b1) hb); have n4_ := qb.mk (qp (be2_ HB b5 b7) hb); clear b6; clear b0; clear b1; clear HB; have b6 := n0_; have b9 := n1_; have b0 := n2_; have b1 := n3_; have HB := n4_; clear n0_ n1_ n2_ n3_ n4_; (try clear hb); (try clear hb2); (try clear hk); (try clear hi); (try clear ho0); obtain ⟨Ao63, co63, eo63⟩ := Kd.zn b9.out; subst eo63) | (go_at_call 40; (with_reducible refine (spec_avDistance.calls k4 d5 d6 _ _ d3 _ _ l1 _ _ l2 d0 _ ?side1 ?side2 ?side3 ?side4 ?side5 ?side6 A34.out).mono ?_); (case side1 => repeat (first | exact (Kd.qw b9.out).2.2 | (with_reducible refine Kd.za ?_ _) | (with_reducible refine Kd.zb ?_ _) | (with_reducible refine Kd.zf ?_))); (case side2 => exact (Kd.qw b9.out).2.1); (case side3 => repeat (first | exact (Kd.qz HR1.out HB.out) | (with_reducible refine Kd.za ?_ _) | (with_reducible refine Kd.zb ?_ _) | (with_reducible refine Kd.zf ?_))); (case side4 => exact HC1.out); (case side5 => repeat (first | exact (Kd.qz HR2.out HB.out) | (with_reducible refine Kd.za ?_ _) | (with_reducible refine Kd.zb ?_ _) | (with_reducible refine Kd.zf ?_))); (case side6 => exact HC2.out); rintro e w64 ⟨rfl, hb⟩; have n0_ := qb.mk (Kd.qv (kr_ b6) hb); have n1_ := qb.mk (Kd.qv (kr_ b9) hb); have n2_ := qb.mk (qo (g := b2) (o := .cells #[.int .i64 a0_0, .int .i64 a0_1, .slice A0_2 l0_2.length c0_2] 31 (0, 0)) (bk_ b0) hb); have n3_ := qb.mk (qo (g := b3) (o := .cells #[.int .i64 x9_2, .int .i64 x10_3, .bool (x11_4 == 1)] 58 (0, 0)) (bk_ b1) hb); have n4_ := qb.mk (qp (be2_ HB b5 b7) hb); clear b6; clear b9; clear b0; clear b1; clear HB; have b6 := n0_; have b9 := n1_; have b0 := n2_; have b1 := n3_; have HB := n4_; clear n0_ n1_ n2_ n3_ n4_; (try clear hb); (try clear hb2); (try clear hk); (try clear hi)))
                go_roundg k4
                case measure => have := HJ3.out; have := HK2.out; have := HK3.out; have := HK4.out; omega
                case rel => exact ⟨(x8_4), (wrap64 (x11_4 + 1)), (by first | rfl | (simp; done) | (simp [*]; done)), H', ⟨by have := HJ3.out; have := HK2.out; have := HK3.out; have := HK4.out; omega⟩, ⟨by (with_reducible repeat (first | apply Kd.qm | apply Kd.qn | apply Kd.qq)); exact Kd.zh b6.out (fun _ hk => trivial)⟩, ⟨bk_ b0⟩, ⟨be2_ HB b5 b7⟩⟩
             ·replace c22 := Bool.eq_false_iff.mpr c22
              subst c22;have H1 : (spec_NeededBlocks.l2 k4 l1 l2 x8_4 x9_2 x10_3 (wrap64 (x11_4 + 1)) a0_0 a0_1 l0_2) = some (r1, r2) := by rw [if_neg (show ¬ (false = true) by decide)] at H; exact H
              clear H;have H := H1;clear H1;have H' := qb.mk H;clear H
              go_wp2_with (first | ((with_reducible refine ze (N := 12) rfl ?_); refine zc ?hg (N := 12) ?hd (cs := #[.int .i64 0, .int .i64 0, .bool false]) (t := 58) ?hr ?_; (case hd => rfl); (case hg => rfl); (case hr => first | (go_simp; done) | (go_simp; rfl)); intro b3 hg w65 hbox hb; have n0_ := qb.mk (Kd.qv (Kd.R_elderB (kr_ b6) b3 (Nat.le_of_eq hg.symm)) hb); have n1_ := qb.mk (qo (g := b2) (o := .cells #[.int .i64 a0_0, .int .i64 a0_1, .slice A0_2 l0_2.length c0_2] 31 (0, 0)) (bk_ b0) hb); have n2_ := qb.mk (qp (be1_ HB b5) hb); have n3_ := qb.mk (hbox); have n4_ := qb.mk ((by rw [hg]; exact (ql (be1_ HB b5)) : w.heap.size ≤ b3)); have n5_ := qb.mk ((by rw [hg]; exact (ql (be1_ HB b5)) : w.heap.size ≤ b3)); have n6_ := qb.mk ((by rw [hg]; exact Nat.ne_of_lt (zd (g := b2) (o := .cells #[.int .i64 a0_0, .int .i64 a0_1, .slice A0_2 l0_2.length c0_2] 31 (0, 0)) (bk_ b0)) : b2 ≠ b3)); have n7_ := qb.mk ((by rw [hg]; exact Nat.ne_of_gt (zd (g := b2) (o := .cells #[.int .i64 a0_0, .int .i64 a0_1, .slice A0_2 l0_2.length c0_2] 31 (0, 0)) (bk_ b0)) : b3 ≠ b2)); clear b6; clear b0; clear HB; have b6 := n0_; have b0 := n1_; have HB := n2_; have b1 := n3_; have d4 := n4_; have b7 := n5_; have b4 := n6_; have b8 := n7_; clear n0_ n1_ n2_ n3_ n4_ n5_ n6_ n7_; clear hb hbox hg; have hnb66 := b8.out; have hnc66 := b4.out; have hcz67_0 : w65.cell? ⟨b3, 0, none⟩ = some (.int .i64 0) := (qc b1.out 0).trans rfl; have hcz67_1 : w65.cell? ⟨b3, 1, none⟩ = some (.int .i64 0) := (qc b1.out 1).trans rfl; have hcz67_2 : w65.cell? ⟨b3, 2, none⟩ = some (.bool false) := (qc b1.out 2).trans rfl; have hfz67_0 := qj b1.out 0; have hfz67_1 := qj b1.out 1; have hfz67_2 := qj b1.out 2; have hcz68_0 : w65.cell? ⟨b2, 0, none⟩ = some (.int .i64 a0_0) := (qc b0.out 0).trans rfl; have hcz68_1 : w65.cell? ⟨b2, 1, none⟩ = some (.int .i64 a0_1) := (qc b0.out 1).trans rfl; have hcz68_2 : w65.cell? ⟨b2, 2, none⟩ = some (.slice A0_2 l0_2.length c0_2) := (qc b0.out 2).trans rfl; have hfz68_0 := qj b0.out 0; have hfz68_1 := qj b0.out 1; have hfz68_2 := qj b0.out 2) | ((with_reducible refine qx (f := 50) rfl ?_); refine zl (some 51) rfl rfl Try.func50 (by kernel_rfl) rfl #[.int .i64 a0_0, .int .i64 a0_1, .agg #[.int .i64 x9_2, .int .i64 x10_3, .bool (x11_4 == 1)]] rfl (by (try simp only [List.map_toArray, List.map_cons, List.map_nil]); first | done | rfl | (simp only [List.length_drop, List.length_take]; rfl)) ?_; (with_reducible refine (spec_avIs.calls k4 a0_0 a0_1 x9_2 x10_3 (x11_4 == 1) false _ A21.out).mono ?_); rintro e w69 ⟨rfl, hb⟩; refine ⟨_, rfl, ?_⟩; have n0_ := qb.mk (Kd.qv (by (with_reducible repeat (first | apply Kd.qm | apply Kd.qn | apply Kd.qq)); exact (Kd.zh (Kd.R_far (p := ⟨b3, 2, none⟩) (Kd.R_far (p := ⟨b3, 1, none⟩) (Kd.R_far (p := ⟨b3, 0, none⟩) (Kd.zh b6.out (fun k_ hk => (⟨hk, hk.2⟩ : _ ∧ k_ ≠ b3))) (fun _ hk => hk.2) (.int .i64 x9_2)) (fun _ hk => hk.2) (.int .i64 x10_3)) (fun _ hk => hk.2) (.bool (x11_4 == 1))) (fun _ h_ => h_.1))) hb); have n1_ := qb.mk (qo (g := b2) (o := .cells #[.int .i64 a0_0, .int .i64 a0_1, .slice A0_2 l0_2.length c0_2] 31 (0, 0)) (by (with_reducible repeat (first | refine qh ?_ _ | refine qi ?_ | refine qg ?_ _)); refine zk ?_ b4.out _; (with_reducible repeat (first | refine qh ?_ _ | refine qi ?_ | refine qg ?_ _)); refine zk ?_ b4.out _; (with_reducible repeat (first | refine qh ?_ _ | refine qi ?_ | refine qg ?_ _)); refine zk ?_ b4.out _; (with_reducible repeat (first | refine qh ?_ _ | refine qi ?_ | refine qg ?_ _)); exact b0.out) hb); have n2_ := qb.mk (qo (g := b3) (o := .cells #[.int .i64 x9_2, .int .i64 x10_3, .bool (x11_4 == 1)] 58 (0, 0)) (by (with_reducible repeat (first | refine qh ?_ _ | refine qi ?_ | refine qg ?_ _)); refine zj (cs := #[.int .i64 x9_2, .int .i64 x10_3, .bool false]) ?_ 2 _ rfl; (with_reducible repeat (first | refine qh ?_ _ | refine qi ?_ | refine qg ?_ _)); refine zj (cs := #[.int .i64 x9_2, .int .i64 0, .bool false]) ?_ 1 _ rfl; (with_reducible repeat (first | refine qh ?_ _ | refine qi ?_ | refine qg ?_ _)); refine zj (cs := #[.int .i64 0, .int .i64 0, .bool false]) ?_ 0 _ rfl; (with_reducible repeat (first | refine qh ?_ _ | refine qi ?_ | refine qg ?_ _)); exact b1.out) hb); have n3_ := qb.mk (qp (be2_ HB b5 b7) hb); clear b6; clear b0; clear b1; clear HB; have b6 := n0_; have b0 := n1_; have b1 := n2_; have HB := n3_; clear n0_ n1_ n2_ n3_; (try clear hb); (try clear hb2); (try clear hk); (try clear hi)))
              go_roundg k4
              case measure => have := HJ3.out; have := HK2.out; have := HK3.out; have := HK4.out; omega
              case rel => exact ⟨(x8_4), (wrap64 (x11_4 + 1)), (by first | rfl | (simp; done) | (simp [*]; done)), H', ⟨by have := HJ3.out; have := HK2.out; have := HK3.out; have := HK4.out; omega⟩, ⟨by (with_reducible repeat (first | apply Kd.qm | apply Kd.qn | apply Kd.qq)); exact Kd.zh b6.out (fun _ hk => trivial)⟩, ⟨bk_ b0⟩, ⟨be2_ HB b5 b7⟩⟩
            ·rw [if_neg c20] at H
             have c20b0 : decide (x11_4 < 2) = false := decide_eq_false c20;clear c20;have H' := qb.mk H;clear H
             go_wp2
             go_roundg k4
             case measure => have := HJ3.out; have := HK2.out; have := HK3.out; have := HK4.out; omega
             case rel => exact ⟨(x8_4), (wrap64 (x10_3 + 1)), (by first | rfl | (simp; done) | (simp [*]; done)), H', ⟨by have := HJ3.out; have := HK2.out; have := HK3.out; have := HK4.out; omega⟩, ⟨kr_ b6⟩, ⟨bk_ b0⟩, ⟨be1_ HB b5⟩⟩
         ·rw [if_neg c18] at H
          have c18b0 : decide (x10_3 < a0_1) = false := decide_eq_false c18;clear c18;have H' := qb.mk H;clear H;have hcz70_0 : wr.cell? ⟨b2, 0, none⟩ = some (.int .i64 a0_0) := (qc b0.out 0).trans rfl;have hcz70_1 : wr.cell? ⟨b2, 1, none⟩ = some (.int .i64 a0_1) := (qc b0.out 1).trans rfl;have hcz70_2 : wr.cell? ⟨b2, 2, none⟩ = some (.slice A0_2 l0_2.length c0_2) := (qc b0.out 2).trans rfl;have hfz70_0 := qj b0.out 0;have hfz70_1 := qj b0.out 1;have hfz70_2 := qj b0.out 2
          go_wp2
          go_roundg k3
          case measure => have := HJ3.out; have := HK2.out; have := HK3.out; omega
          case rel => exact ⟨(x8_3), (wrap64 (x9_2 + 1)), (by first | rfl | (simp; done) | (simp [*]; done)), H', ⟨by have := HJ3.out; have := HK2.out; have := HK3.out; omega⟩, ⟨kr_ b6⟩, ⟨bk_ b0⟩, ⟨be1_ HB b5⟩⟩
      ·rw [if_neg c16] at H
       have c16b0 : decide (x9_2 < a0_0) = false := decide_eq_false c16;clear c16
       simp only [Option.some.injEq, Prod.mk.injEq] at H
       obtain ⟨rfl, rfl⟩ := H;have hcz71_0 : wr.cell? ⟨b2, 0, none⟩ = some (.int .i64 a0_0) := (qc b0.out 0).trans rfl;have hcz71_1 : wr.cell? ⟨b2, 1, none⟩ = some (.int .i64 a0_1) := (qc b0.out 1).trans rfl;have hcz71_2 : wr.cell? ⟨b2, 2, none⟩ = some (.slice A0_2 l0_2.length c0_2) := (qc b0.out 2).trans rfl;have hfz71_0 := qj b0.out 0;have hfz71_1 := qj b0.out 1;have hfz71_2 := qj b0.out 2
       go_wp2
       go_ret2
       exact ⟨_, by first | rfl | (simp [qt, qr] <;> rfl) | (simp [*, qt, qr] <;> rfl), kr_ b6, be1_ HB b5⟩
def impl_within.f (a0 : Int) (a1 : Int) (a2 : Int) : Option (Bool) := if a0 ≥ a1 then (some (decide (a0 ≤ a2))) else (some false)
set_option maxHeartbeats 8000000 in
set_option maxRecDepth 100000 in
theorem impl_within.calls (a0 : Int) (a1 : Int) (a2 : Int) (r : Bool) (w : World) (h : impl_within.f a0 a1 a2 = some r) :
  Calls Try.prog 61 #[.int .i64 a0, .int .i64 a1, .int .i64 a2] w fun e w' => e = .returned (.bool r) ∧ zo w w' := by
 have H : (if a0 ≥ a1 then (some (decide (a0 ≤ a2))) else (some false)) = some r := h
 clear h
 by_cases c4 : a0 ≥ a1
 ·rw [if_pos c4] at H
  have c4b0 : decide (a1 ≤ a0) = true := decide_eq_true c4
  clear c4
  obtain rfl := Option.some.inj H
  go_enter Try.func61, Try.ntmps61
  go_wp2
  go_ret
  exact ⟨by first | rfl | (simp; done) | (simp [*]; done), by repeat (first | exact zo.refl _ | apply zo.step)⟩
 ·rw [if_neg c4] at H
  have c4b0 : decide (a1 ≤ a0) = false := decide_eq_false c4
  clear c4
  obtain rfl := Option.some.inj H
  go_enter Try.func61, Try.ntmps61
  go_wp2
  go_ret
  exact ⟨by first | rfl | (simp; done) | (simp [*]; done), by repeat (first | exact zo.refl _ | apply zo.step)⟩
def cmp_Or_int.l0 : Nat → Int → List Int → Int → Int → Option (Int)
 | 0, _, _, _, _ => none
 | k + 1, x3, x6, x7, x8 => if x8 < x7 then (if 0 ≤ x8 then (if x8 < (x6.length : Int) then (if (rd x6 x8) = x3 then (cmp_Or_int.l0 k x3 x6 x7 (wrap64 (x8 + 1))) else (some (rd x6 x8))) else (none)) else (none)) else (some x3)
def cmp_Or_int.f (k : Nat) (l0 : List Int) : Option (Int) := cmp_Or_int.l0 k 0 l0 (l0.length : Int) 0
theorem cmp_Or_int.zt : ∀ k, (∀ y0 y1 y2 y3, LeO (cmp_Or_int.l0 k y0 y1 y2 y3) (cmp_Or_int.l0 (k + 1) y0 y1 y2 y3))
 | 0 => fun _ _ _ _ r h => by simp [cmp_Or_int.l0] at h
 | k + 1 => by
  have ih0 := cmp_Or_int.zt k
  ·intro y0 y1 y2 y3
   unfold cmp_Or_int.l0
   repeat' first
   | (with_reducible exact ih0 _ _ _ _)
   | (with_reducible exact LeO.refl _)
   | (with_reducible exact LeO.none _)
   | (with_reducible refine LeO.ite ?_ ?_)
   | (with_reducible refine LeO.bind ?_ (fun _ => ?_))
   | exact ih0 _ _ _ _
   | exact LeO.none _
   | refine LeO.ite ?_ ?_
   | refine LeO.bind ?_ (fun _ => ?_)
theorem cmp_Or_int.mono : ∀ a0 k, LeO (cmp_Or_int.f k a0) (cmp_Or_int.f (k + 1) a0) := by
 intro a0 k
 have ih0 := cmp_Or_int.zt k
 unfold cmp_Or_int.f
 repeat' first
   | (with_reducible exact ih0 _ _ _ _)
   | (with_reducible exact LeO.refl _)
   | (with_reducible exact LeO.none _)
   | (with_reducible refine LeO.ite ?_ ?_)
   | (with_reducible refine LeO.bind ?_ (fun _ => ?_))
   | exact ih0 _ _ _ _
   | exact LeO.none _
   | refine LeO.ite ?_ ?_
   | refine LeO.bind ?_ (fun _ => ?_)
set_option maxHeartbeats 8000000 in
set_option maxRecDepth 100000 in
theorem cmp_Or_int.calls (k : Nat) (A0 : Option Addr) (c0 : Nat) (l0 : List Int) (r : Int) (w : World) (hr0 : Kd.C (Kd.int .i64) w A0 l0.length l0) (hc0 : l0.length ≤ c0) (h : cmp_Or_int.f k l0 = some r) :
  Calls Try.prog 80 #[.slice A0 l0.length c0] w fun e w' => e = .returned (.int .i64 r) ∧ zo w w' := by
 have HR0 := qb.mk hr0
 have HC0 := qb.mk hc0
 clear hr0 hc0
 have H : (cmp_Or_int.l0 k 0 l0 (l0.length : Int) 0) = some r := h
 clear h
 have H' := qb.mk H
 clear H
 go_enter Try.func80, Try.ntmps80
 go_wp2
 go_loopg [8] k (fun kq v8 w' => ∃ (x8_1 : Int), v8 = .int .i64 x8_1 ∧ qb (cmp_Or_int.l0 kq 0 l0 (l0.length : Int) x8_1 = some r) ∧ qb (kq ≤ k) ∧ zo w w')
 case atStart => exact ⟨(0), (by first | rfl | (simp; done) | (simp [*]; done)), H', ⟨Nat.le_refl _⟩, by repeat (first | exact zo.refl _ | apply zo.step)⟩
 case round =>
  clear H'
  obtain ⟨x8_1, rfl, HA, HK1, ⟨m1, rfl⟩⟩ := hrel
  cases gk with
  | zero => exact absurd HA.out (by simp [cmp_Or_int.l0])
  | succ k1 =>
   have H := HA.out
   clear HA
   simp only [cmp_Or_int.l0] at H
   by_cases c2 : x8_1 < (l0.length : Int)
   ·rw [if_pos c2] at H
    have c2b0 : decide (x8_1 < (l0.length : Int)) = true := decide_eq_true c2
    clear c2
    by_cases c3 : 0 ≤ x8_1
    ·rw [if_pos c3] at H
     have c3b0 : decide (0 ≤ x8_1) = true := decide_eq_true c3
     clear c3
     by_cases c4 : x8_1 < (l0.length : Int)
     ·rw [if_pos c4] at H
      have c4b0 : decide (x8_1 < (l0.length : Int)) = true := decide_eq_true c4
      clear c4
      by_cases c5 : (rd l0 x8_1) = 0
      ·rw [if_pos c5] at H
       have c5b0 : ((rd l0 x8_1) == 0) = true := beq_iff_eq.mpr c5
       have c5b1 : ((rd l0 x8_1) != 0) = false := bne_eq_false_iff_eq.mpr c5
       clear c5
       have H' := qb.mk H
       clear H
       have p226 : 0 ≤ (x8_1 : Int) := of_decide_eq_true (by first | (with_reducible assumption) | assumption)
       have q226 : x8_1 < (l0.length : Int) := of_decide_eq_true (by first | (with_reducible assumption) | assumption)
       obtain ⟨ad226, e226, hx226_0⟩ := Kd.jc HR0.out x8_1 p226 q226
       cases e226
       replace p226 := eq_true p226
       replace q226 := eq_true q226
       go_wp2
       go_roundg k1
       case measure => have := HK1.out; omega
       case rel => exact ⟨(wrap64 (x8_1 + 1)), (by first | rfl | (simp; done) | (simp [*]; done)), H', ⟨by have := HK1.out; omega⟩, by repeat (first | exact zo.refl _ | apply zo.step)⟩
      ·rw [if_neg c5] at H
       have c5b0 : ((rd l0 x8_1) == 0) = false := beq_eq_false_iff_ne.mpr c5
       have c5b1 : ((rd l0 x8_1) != 0) = true := bne_iff_ne.mpr c5
       obtain rfl := Option.some.inj H
       have p226 : 0 ≤ (x8_1 : Int) := of_decide_eq_true (by first | (with_reducible assumption) | assumption)
       have q226 : x8_1 < (l0.length : Int) := of_decide_eq_true (by first | (with_reducible assumption) | assumption)
       obtain ⟨ad226, e226, hx226_0⟩ := Kd.jc HR0.out x8_1 p226 q226
       cases e226
       replace p226 := eq_true p226
       replace q226 := eq_true q226
       go_wp2
       go_ret
       exact ⟨by first | rfl | (simp; done) | (simp [*]; done), by repeat (first | exact zo.refl _ | apply zo.step)⟩
     ·rw [if_neg c4] at H
      exact absurd H (by simp)
    ·rw [if_neg c3] at H
     exact absurd H (by simp)
   ·rw [if_neg c2] at H
    have c2b0 : decide (x8_1 < (l0.length : Int)) = false := decide_eq_false c2
    clear c2
    obtain rfl := Option.some.inj H
    go_wp2
    go_ret
    exact ⟨by first | rfl | (simp; done) | (simp [*]; done), by repeat (first | exact zo.refl _ | apply zo.step)⟩
def cmp_isNaN_int.f (a0 : Int) : Option (Bool) := some (a0 != a0)
set_option maxHeartbeats 8000000 in
set_option maxRecDepth 100000 in
theorem cmp_isNaN_int.calls (a0 : Int) (r : Bool) (w : World) (h : cmp_isNaN_int.f a0 = some r) :
  Calls Try.prog 95 #[.int .i64 a0] w fun e w' => e = .returned (.bool r) ∧ zo w w' := by
 have H : (some (a0 != a0)) = some r := h
 clear h
 obtain rfl := Option.some.inj H
 go_enter Try.func95, Try.ntmps95
 go_wp2
 go_ret
 exact ⟨by first | rfl | (simp; done) | (simp [*]; done), by repeat (first | exact zo.refl _ | apply zo.step)⟩
def cmp_Compare_int.f (a0 : Int) (a1 : Int) : Option (Int) := (cmp_isNaN_int.f a0).bind fun t227 => ((cmp_isNaN_int.f a1).bind fun t228 => (if t227 = true then (if t228 = true then (some 0) else (some (-1))) else (if t228 = true then (some 1) else (if a0 < a1 then (some (-1)) else (if a0 > a1 then (some 1) else (some 0))))))
set_option maxHeartbeats 8000000 in
set_option maxRecDepth 100000 in
theorem cmp_Compare_int.calls (a0 : Int) (a1 : Int) (r : Int) (w : World) (h : cmp_Compare_int.f a0 a1 = some r) :
  Calls Try.prog 81 #[.int .i64 a0, .int .i64 a1] w fun e w' => e = .returned (.int .i64 r) ∧ zo w w' := by
 have H : ((cmp_isNaN_int.f a0).bind fun t227 => ((cmp_isNaN_int.f a1).bind fun t228 => (if t227 = true then (if t228 = true then (some 0) else (some (-1))) else (if t228 = true then (some 1) else (if a0 < a1 then (some (-1)) else (if a0 > a1 then (some 1) else (some 0))))))) = some r := h
 clear h
 replace H := Option.bind_eq_some_iff.mp H
 obtain ⟨t227, A30, H⟩ := H
 replace H : ((cmp_isNaN_int.f a1).bind fun t228 => (if t227 = true then (if t228 = true then (some 0) else (some (-1))) else (if t228 = true then (some 1) else (if a0 < a1 then (some (-1)) else (if a0 > a1 then (some 1) else (some 0)))))) = some r := H
 have A3 := qb.mk A30
 clear A30
 replace H := Option.bind_eq_some_iff.mp H
 obtain ⟨t228, A40, H⟩ := H
 replace H : (if t227 = true then (if t228 = true then (some 0) else (some (-1))) else (if t228 = true then (some 1) else (if a0 < a1 then (some (-1)) else (if a0 > a1 then (some 1) else (some 0))))) = some r := H
 have A4 := qb.mk A40
 clear A40
 by_cases c5 : t227 = true
 ·subst c5
  have H1 : (if t228 = true then (some 0) else (some (-1))) = some r := by rw [if_pos rfl] at H; exact H
  clear H
  have H := H1
  clear H1
  by_cases c6 : t228 = true
  ·subst c6
   have H1 : (some 0) = some r := by rw [if_pos rfl] at H; exact H
   clear H
   have H := H1
   clear H1
   obtain rfl := Option.some.inj H
   go_enter Try.func81, Try.ntmps81
   go_wp2_with (first | ((with_reducible refine qx (f := 95) rfl ?_); refine zl (some 8) rfl rfl Try.func95 (by kernel_rfl) rfl #[.int .i64 a0] rfl (by (try simp only [List.map_toArray, List.map_cons, List.map_nil]); first | done | rfl | (simp only [List.length_drop, List.length_take]; rfl)) ?_; (with_reducible refine (cmp_isNaN_int.calls a0 true _ A3.out).mono ?_); rintro e w' ⟨rfl, ⟨nd, rfl⟩⟩; refine ⟨_, rfl, ?_⟩) | ((with_reducible refine qx (f := 95) rfl ?_); refine zl (some 10) rfl rfl Try.func95 (by kernel_rfl) rfl #[.int .i64 a1] rfl (by (try simp only [List.map_toArray, List.map_cons, List.map_nil]); first | done | rfl | (simp only [List.length_drop, List.length_take]; rfl)) ?_; (with_reducible refine (cmp_isNaN_int.calls a1 true _ A4.out).mono ?_); rintro e w' ⟨rfl, ⟨nd, rfl⟩⟩; refine ⟨_, rfl, ?_⟩))
   go_ret
   exact ⟨by first | rfl | (simp; done) | (simp [*]; done), by repeat (first | exact zo.refl _ | apply zo.step)⟩
  ·replace c6 := Bool.eq_false_iff.mpr c6
   subst c6
   have H1 : (some (-1)) = some r := by rw [if_neg (show ¬ (false = true) by decide)] at H; exact H
   clear H
   have H := H1
   clear H1
   obtain rfl := Option.some.inj H
   go_enter Try.func81, Try.ntmps81
   go_wp2_with (first | ((with_reducible refine qx (f := 95) rfl ?_); refine zl (some 8) rfl rfl Try.func95 (by kernel_rfl) rfl #[.int .i64 a0] rfl (by (try simp only [List.map_toArray, List.map_cons, List.map_nil]); first | done | rfl | (simp only [List.length_drop, List.length_take]; rfl)) ?_; (with_reducible refine (cmp_isNaN_int.calls a0 true _ A3.out).mono ?_); rintro e w' ⟨rfl, ⟨nd, rfl⟩⟩; refine ⟨_, rfl, ?_⟩) | ((with_reducible refine qx (f := 95) rfl ?_); refine zl (some 10) rfl rfl Try.func95 (by kernel_rfl) rfl #[.int .i64 a1] rfl (by (try simp only [List.map_toArray, List.map_cons, List.map_nil]); first | done | rfl | (simp only [List.length_drop, List.length_take]; rfl)) ?_; (with_reducible refine (cmp_isNaN_int.calls a1 false _ A4.out).mono ?_); rintro e w' ⟨rfl, ⟨nd, rfl⟩⟩; refine ⟨_, rfl, ?_⟩))
   go_ret
   exact ⟨by first | rfl | (simp; done) | (simp [*]; done), by repeat (first | exact zo.refl _ | apply zo.step)⟩
 ·replace c5 := Bool.eq_false_iff.mpr c5
  subst c5
  have H1 : (if t228 = true then (some 1) else (if a0 < a1 then (some (-1)) else (if a0 > a1 then (some 1) else (some 0)))) = some r := by rw [if_neg (show ¬ (false = true) by decide)] at H; exact H
  clear H
  have H := H1
  clear H1
  by_cases c7 : t228 = true
  ·subst c7
   have H1 : (some 1) = some r := by rw [if_pos rfl] at H; exact H
   clear H
   have H := H1
   clear H1
   obtain rfl := Option.some.inj H
   go_enter Try.func81, Try.ntmps81
   go_wp2_with (first | ((with_reducible refine qx (f := 95) rfl ?_); refine zl (some 8) rfl rfl Try.func95 (by kernel_rfl) rfl #[.int .i64 a0] rfl (by (try simp only [List.map_toArray, List.map_cons, List.map_nil]); first | done | rfl | (simp only [List.length_drop, List.length_take]; rfl)) ?_; (with_reducible refine (cmp_isNaN_int.calls a0 false _ A3.out).mono ?_); rintro e w' ⟨rfl, ⟨nd, rfl⟩⟩; refine ⟨_, rfl, ?_⟩) | ((with_reducible refine qx (f := 95) rfl ?_); refine zl (some 10) rfl rfl Try.func95 (by kernel_rfl) rfl #[.int .i64 a1] rfl (by (try simp only [List.map_toArray, List.map_cons, List.map_nil]); first | done | rfl | (simp only [List.length_drop, List.length_take]; rfl)) ?_; (with_reducible refine (cmp_isNaN_int.calls a1 true _ A4.out).mono ?_); rintro e w' ⟨rfl, ⟨nd, rfl⟩⟩; refine ⟨_, rfl, ?_⟩))
   go_ret
   exact ⟨by first | rfl | (simp; done) | (simp [*]; done), by repeat (first | exact zo.refl _ | apply zo.step)⟩
  ·replace c7 := Bool.eq_false_iff.mpr c7
   subst c7
   have H1 : (if a0 < a1 then (some (-1)) else (if a0 > a1 then (some 1) else (some 0))) = some r := by rw [if_neg (show ¬ (false = true) by decide)] at H; exact H
   clear H
   have H := H1
   clear H1
   by_cases c8 : a0 < a1
   ·rw [if_pos c8] at H
    have c8b0 : decide (a0 < a1) = true := decide_eq_true c8
    clear c8
    obtain rfl := Option.some.inj H
    go_enter Try.func81, Try.ntmps81
    go_wp2_with (first | ((with_reducible refine qx (f := 95) rfl ?_); refine zl (some 8) rfl rfl Try.func95 (by kernel_rfl) rfl #[.int .i64 a0] rfl (by (try simp only [List.map_toArray, List.map_cons, List.map_nil]); first | done | rfl | (simp only [List.length_drop, List.length_take]; rfl)) ?_; (with_reducible refine (cmp_isNaN_int.calls a0 false _ A3.out).mono ?_); rintro e w' ⟨rfl, ⟨nd, rfl⟩⟩; refine ⟨_, rfl, ?_⟩) | ((with_reducible refine qx (f := 95) rfl ?_); refine zl (some 10) rfl rfl Try.func95 (by kernel_rfl) rfl #[.int .i64 a1] rfl (by (try simp only [List.map_toArray, List.map_cons, List.map_nil]); first | done | rfl | (simp only [List.length_drop, List.length_take]; rfl)) ?_; (with_reducible refine (cmp_isNaN_int.calls a1 false _ A4.out).mono ?_); rintro e w' ⟨rfl, ⟨nd, rfl⟩⟩; refine ⟨_, rfl, ?_⟩))
    go_ret
    exact ⟨by first | rfl | (simp; done) | (simp [*]; done), by repeat (first | exact zo.refl _ | apply zo.step)⟩
   ·rw [if_neg c8] at H
    have c8b0 : decide (a0 < a1) = false := decide_eq_false c8
    clear c8
    by_cases c9 : a0 > a1
    ·rw [if_pos c9] at H
     have c9b0 : decide (a1 < a0) = true := decide_eq_true c9
     clear c9
     obtain rfl := Option.some.inj H
     go_enter Try.func81, Try.ntmps81
     go_wp2_with (first | ((with_reducible refine qx (f := 95) rfl ?_); refine zl (some 8) rfl rfl Try.func95 (by kernel_rfl) rfl #[.int .i64 a0] rfl (by (try simp only [List.map_toArray, List.map_cons, List.map_nil]); first | done | rfl | (simp only [List.length_drop, List.length_take]; rfl)) ?_; (with_reducible refine (cmp_isNaN_int.calls a0 false _ A3.out).mono ?_); rintro e w' ⟨rfl, ⟨nd, rfl⟩⟩; refine ⟨_, rfl, ?_⟩) | ((with_reducible refine qx (f := 95) rfl ?_); refine zl (some 10) rfl rfl Try.func95 (by kernel_rfl) rfl #[.int .i64 a1] rfl (by (try simp only [List.map_toArray, List.map_cons, List.map_nil]); first | done | rfl | (simp only [List.length_drop, List.length_take]; rfl)) ?_; (with_reducible refine (cmp_isNaN_int.calls a1 false _ A4.out).mono ?_); rintro e w' ⟨rfl, ⟨nd, rfl⟩⟩; refine ⟨_, rfl, ?_⟩))
     go_ret
     exact ⟨by first | rfl | (simp; done) | (simp [*]; done), by repeat (first | exact zo.refl _ | apply zo.step)⟩
    ·rw [if_neg c9] at H
     have c9b0 : decide (a1 < a0) = false := decide_eq_false c9
     clear c9
     obtain rfl := Option.some.inj H
     go_enter Try.func81, Try.ntmps81
     go_wp2_with (first | ((with_reducible refine qx (f := 95) rfl ?_); refine zl (some 8) rfl rfl Try.func95 (by kernel_rfl) rfl #[.int .i64 a0] rfl (by (try simp only [List.map_toArray, List.map_cons, List.map_nil]); first | done | rfl | (simp only [List.length_drop, List.length_take]; rfl)) ?_; (with_reducible refine (cmp_isNaN_int.calls a0 false _ A3.out).mono ?_); rintro e w' ⟨rfl, ⟨nd, rfl⟩⟩; refine ⟨_, rfl, ?_⟩) | ((with_reducible refine qx (f := 95) rfl ?_); refine zl (some 10) rfl rfl Try.func95 (by kernel_rfl) rfl #[.int .i64 a1] rfl (by (try simp only [List.map_toArray, List.map_cons, List.map_nil]); first | done | rfl | (simp only [List.length_drop, List.length_take]; rfl)) ?_; (with_reducible refine (cmp_isNaN_int.calls a1 false _ A4.out).mono ?_); rintro e w' ⟨rfl, ⟨nd, rfl⟩⟩; refine ⟨_, rfl, ?_⟩))
     go_ret
     exact ⟨by first | rfl | (simp; done) | (simp [*]; done), by repeat (first | exact zo.refl _ | apply zo.step)⟩
end Go.Proofs.Ytpedofomfhmnfaa.PFnExactNeededBlocks
