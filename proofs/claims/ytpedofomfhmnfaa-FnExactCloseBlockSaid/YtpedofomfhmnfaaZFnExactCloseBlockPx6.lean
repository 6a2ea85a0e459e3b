/- Cut by wip/cut.py out of the texts of this claim (printed by the kit's printer, or this session's own): what the row's theorem does not reach is struck. Not trusted: Lean checks it. -/
import Derived.Test.YtpedofomfhmnfaaZFnExactCloseBlockPx0
import Derived.Test.YtpedofomfhmnfaaZFnExactCloseBlockPx1
import Derived.Test.YtpedofomfhmnfaaZFnExactCloseBlockPx3
import Derived.Test.YtpedofomfhmnfaaZFnExactCloseBlockPx4
import Derived.Test.YtpedofomfhmnfaaZFnExactCloseBlockPx5
namespace Go.Proofs.Ytpedofomfhmnfaa.PFnExactCloseBlock
open Go.RowKit Go.Proofs.YtpedofomfhmnfaaW.PrintWords Go.Proofs.YtpedofomfhmnfaaW.PrintLast Go.Proofs.YtpedofomfhmnfaaW.PrintMore
attribute [local go_sem] max2_int min2_int max_two min_two max_three min_three max_four min_four
set_option linter.unusedVariables false
set_option linter.unusedSimpArgs false
attribute [local go_sem high] eqA58
def spec_CloseBlock.f (k : Nat) (a0_0 : Int) (a0_1 : Int) (l0_2 : List (S58)) (a1_0 : Int) (a1_1 : Int) (a1_2 : Bool) : Option (Int × Int × (List (S58)) × Bool) := (spec_avGood.f k a0_0 a0_1 l0_2).bind fun t210 => (if t210 = true then ((spec_avIs.f k a0_0 a0_1 a1_0 a1_1 a1_2).bind fun t211 => (if t211 = true then ((spec_avShut.f k a0_0 a0_1 l0_2 a1_0 a1_1 a1_2).bind fun t212 => (if t212 = true then (some (0, 0, ([] : List (S58)), false)) else (if (l0_2.length : Int) = 30 then (some (0, 0, ([] : List (S58)), false)) else ((spec_avClose.f k a0_0 a0_1 l0_2 a1_0 a1_1 a1_2).bind fun bt213 => (some (bt213.1, bt213.2.1, bt213.2.2, true)))))) else (some (0, 0, ([] : List (S58)), false)))) else (some (0, 0, ([] : List (S58)), false)))
theorem spec_CloseBlock.mono : ∀ a0 a1 a2 a3 a4 a5 k, LeO (spec_CloseBlock.f k a0 a1 a2 a3 a4 a5) (spec_CloseBlock.f (k + 1) a0 a1 a2 a3 a4 a5) := by
 intro a0 a1 a2 a3 a4 a5 k
 unfold spec_CloseBlock.f
 repeat' first
   | (with_reducible exact spec_avClose.mono _ _ _ _ _ _ _)
   | (with_reducible exact spec_avGood.mono _ _ _ _)
   | (with_reducible exact spec_avIs.mono _ _ _ _ _ _)
   | (with_reducible exact spec_avShut.mono _ _ _ _ _ _ _)
   | (with_reducible exact LeO.refl _)
   | (with_reducible exact LeO.none _)
   | (with_reducible refine LeO.ite ?_ ?_)
   | (with_reducible refine LeO.bind ?_ (fun _ => ?_))
   | exact spec_avClose.mono _ _ _ _ _ _ _
   | exact spec_avGood.mono _ _ _ _
   | exact spec_avIs.mono _ _ _ _ _ _
   | exact spec_avShut.mono _ _ _ _ _ _ _
   | exact LeO.none _
   | refine LeO.ite ?_ ?_
   | refine LeO.bind ?_ (fun _ => ?_)
set_option maxHeartbeats 8000000 in
set_option maxRecDepth 100000 in
theorem spec_CloseBlock.calls (k : Nat) (a0_0 : Int) (a0_1 : Int) (A0_2 : Option Addr) (c0_2 : Nat) (l0_2 : List (S58)) (a1_0 : Int) (a1_1 : Int) (a1_2 : Bool) (r1 : Int) (r2 : Int) (r3 : List (S58)) (r4 : Bool) (w : World) (hr0_2 : Kd.C k58 w A0_2 l0_2.length l0_2) (hc0_2 : l0_2.length ≤ c0_2) (h : spec_CloseBlock.f k a0_0 a0_1 l0_2 a1_0 a1_1 a1_2 = some (r1, r2, r3, r4)) :
  Calls Try.prog 35 #[.agg #[.int .i64 a0_0, .int .i64 a0_1, .slice A0_2 l0_2.length c0_2], .agg #[.int .i64 a1_0, .int .i64 a1_1, .bool a1_2]] w fun e w' => ∃ v2_ : Value, e = .returned (.tuple #[.agg #[.int .i64 r1, .int .i64 r2, v2_], .bool r4]) ∧ Kd.R k58 58 w' w.heap.size (fun _ => True) v2_ r3 ∧ Below w.heap.size w w' := by
 have hu31 := Try.underlying31
 have hu58 := Try.underlying58
 have HR0_2 := qb.mk hr0_2
 have HC0_2 := qb.mk hc0_2
 clear hr0_2 hc0_2
 have HB := qb.mk (Below.refl w.heap.size w)
 have H : ((spec_avGood.f k a0_0 a0_1 l0_2).bind fun t210 => (if t210 = true then ((spec_avIs.f k a0_0 a0_1 a1_0 a1_1 a1_2).bind fun t211 => (if t211 = true then ((spec_avShut.f k a0_0 a0_1 l0_2 a1_0 a1_1 a1_2).bind fun t212 => (if t212 = true then (some (0, 0, ([] : List (S58)), false)) else (if (l0_2.length : Int) = 30 then (some (0, 0, ([] : List (S58)), false)) else ((spec_avClose.f k a0_0 a0_1 l0_2 a1_0 a1_1 a1_2).bind fun bt213 => (some (bt213.1, bt213.2.1, bt213.2.2, true)))))) else (some (0, 0, ([] : List (S58)), false)))) else (some (0, 0, ([] : List (S58)), false)))) = some (r1, r2, r3, r4) := h
 clear h
 replace H := Option.bind_eq_some_iff.mp H
 obtain ⟨t210, A30, H⟩ := H
 replace H : (if t210 = true then ((spec_avIs.f k a0_0 a0_1 a1_0 a1_1 a1_2).bind fun t211 => (if t211 = true then ((spec_avShut.f k a0_0 a0_1 l0_2 a1_0 a1_1 a1_2).bind fun t212 => (if t212 = true then (some (0, 0, ([] : List (S58)), false)) else (if (l0_2.length : Int) = 30 then (some (0, 0, ([] : List (S58)), false)) else ((spec_avClose.f k a0_0 a0_1 l0_2 a1_0 a1_1 a1_2).bind fun bt213 => (some (bt213.1, bt213.2.1, bt213.2.2, true)))))) else (some (0, 0, ([] : List (S58)), false)))) else (some (0, 0, ([] : List (S58)), false))) = some (r1, r2, r3, r4) := H
 have A3 := qb.mk A30
 clear A30
 by_cases c4 : t210 = true
 ·subst c4
  have H1 : ((spec_avIs.f k a0_0 a0_1 a1_0 a1_1 a1_2).bind fun t211 => (if t211 = true then ((spec_avShut.f k a0_0 a0_1 l0_2 a1_0 a1_1 a1_2).bind fun t212 => (if t212 = true then (some (0, 0, ([] : List (S58)), false)) else (if (l0_2.length : Int) = 30 then (some (0, 0, ([] : List (S58)), false)) else ((spec_avClose.f k a0_0 a0_1 l0_2 a1_0 a1_1 a1_2).bind fun bt213 => (some (bt213.1, bt213.2.1, bt213.2.2, true)))))) else (some (0, 0, ([] : List (S58)), false)))) = some (r1, r2, r3, r4) := by rw [if_pos rfl] at H; exact H
  clear H
  have H := H1
  clear H1
  replace H := Option.bind_eq_some_iff.mp H
  obtain ⟨t211, A50, H⟩ := H
  replace H : (if t211 = true then ((spec_avShut.f k a0_0 a0_1 l0_2 a1_0 a1_1 a1_2).bind fun t212 => (if t212 = true then (some (0, 0, ([] : List (S58)), false)) else (if (l0_2.length : Int) = 30 then (some (0, 0, ([] : List (S58)), false)) else ((spec_avClose.f k a0_0 a0_1 l0_2 a1_0 a1_1 a1_2).bind fun bt213 => (some (bt213.1, bt213.2.1, bt213.2.2, true)))))) else (some (0, 0, ([] : List (S58)), false))) = some (r1, r2, r3, r4) := H
  have A5 := qb.mk A50
  clear A50
  by_cases c6 : t211 = true
  ·subst c6
   have H1 : ((spec_avShut.f k a0_0 a0_1 l0_2 a1_0 a1_1 a1_2).bind fun t212 => (if t212 = true then (some (0, 0, ([] : List (S58)), false)) else (if (l0_2.length : Int) = 30 then (some (0, 0, ([] : List (S58)), false)) else ((spec_avClose.f k a0_0 a0_1 l0_2 a1_0 a1_1 a1_2).bind fun bt213 => (some (bt213.1, bt213.2.1, bt213.2.2, true)))))) = some (r1, r2, r3, r4) := by rw [if_pos rfl] at H; exact H
   clear H
   have H := H1
   clear H1
   replace H := Option.bind_eq_some_iff.mp H
   obtain ⟨t212, A70, H⟩ := H
   replace H : (if t212 = true then (some (0, 0, ([] : List (S58)), false)) else (if (l0_2.length : Int) = 30 then (some (0, 0, ([] : List (S58)), false)) else ((spec_avClose.f k a0_0 a0_1 l0_2 a1_0 a1_1 a1_2).bind fun bt213 => (some (bt213.1, bt213.2.1, bt213.2.2, true))))) = some (r1, r2, r3, r4) := H
   have A7 := qb.mk A70
   clear A70
   by_cases c8 : t212 = true
   ·subst c8
    have H1 : (some (0, 0, ([] : List (S58)), false)) = some (r1, r2, r3, r4) := by rw [if_pos rfl] at H; exact H
    clear H
    have H := H1
    clear H1
    simp only [Option.some.injEq, Prod.mk.injEq] at H
    obtain ⟨rfl, rfl, rfl, rfl⟩ := H
    go_enter Try.func35, Try.ntmps35
    go_wp2_with (first | ((with_reducible refine qz (N := 2) rfl ?_); (try (refine zt (by rfl) ?_; dsimp only)); refine qx ?hg (N := 2) ?hd (cs := #[.int .i64 a0_0, .int .i64 a0_1, .slice A0_2 l0_2.length c0_2]) (t := 31) ?hr ?_; (case hd => rfl); (case hg => rfl); (case hr => first | (go_simp; done) | (go_simp; rfl)); intro gb207 hg w9 hbox hb; have n0_ := qb.mk (qp (be0_ HB) hb); have n1_ := qb.mk (hbox); have n2_ := qb.mk ((by rw [hg]; exact (qm (be0_ HB)) : w.heap.size ≤ gb207)); have n3_ := qb.mk ((by rw [hg]; exact (qm (be0_ HB)) : w.heap.size ≤ gb207)); clear HB; have HB := n0_; have BK207 := n1_; have GW207 := n2_; have GE207 := n3_; clear n0_ n1_ n2_ n3_; clear hb hbox hg) | ((with_reducible refine qz (N := 3) rfl ?_); (try (refine zt (by rfl) ?_; dsimp only)); refine qx ?hg (N := 3) ?hd (cs := #[.int .i64 a1_0, .int .i64 a1_1, .bool a1_2]) (t := 58) ?hr ?_; (case hd => rfl); (case hg => rfl); (case hr => first | (go_simp; done) | (go_simp; rfl)); intro gb208 hg w10 hbox hb; have n0_ := qb.mk (qk (g := gb207) (o := .cells #[.int .i64 a0_0, .int .i64 a0_1, .slice A0_2 l0_2.length c0_2] 31 (0, 0)) (bk_ BK207) hb); have n1_ := qb.mk (qp (be1_ HB GE207) hb); have n2_ := qb.mk (hbox); have n3_ := qb.mk ((by rw [hg]; exact (qm (be1_ HB GE207)) : w.heap.size ≤ gb208)); have n4_ := qb.mk ((by rw [hg]; exact (qm (be1_ HB GE207)) : w.heap.size ≤ gb208)); have n5_ := qb.mk ((by rw [hg]; exact Nat.ne_of_lt (qw (g := gb207) (o := .cells #[.int .i64 a0_0, .int .i64 a0_1, .slice A0_2 l0_2.length c0_2] 31 (0, 0)) (bk_ BK207)) : gb207 ≠ gb208)); have n6_ := qb.mk ((by rw [hg]; exact Nat.ne_of_gt (qw (g := gb207) (o := .cells #[.int .i64 a0_0, .int .i64 a0_1, .slice A0_2 l0_2.length c0_2] 31 (0, 0)) (bk_ BK207)) : gb208 ≠ gb207)); clear BK207; clear HB; have BK207 := n0_; have HB := n1_; have BK208 := n2_; have GW208 := n3_; have GE208 := n4_; have NB207_208 := n5_; have NB208_207 := n6_; clear n0_ n1_ n2_ n3_ n4_ n5_ n6_; clear hb hbox hg) | ((with_reducible refine qz (N := 4) rfl ?_); (try (refine zt (by rfl) ?_; dsimp only)); refine qx ?hg (N := 4) ?hd (cs := #[.int .i64 0, .int .i64 0, .slice none 0 0]) (t := 31) ?hr ?_; (case hd => rfl); (case hg => rfl); (case hr => first | (go_simp; done) | (go_simp; rfl)); intro gb209 hg w11 hbox hb; have n0_ := qb.mk (qk (g := gb207) (o := .cells #[.int .i64 a0_0, .int .i64 a0_1, .slice A0_2 l0_2.length c0_2] 31 (0, 0)) (bk_ BK207) hb); have n1_ := qb.mk (qk (g := gb208) (o := .cells #[.int .i64 a1_0, .int .i64 a1_1, .bool a1_2] 58 (0, 0)) (bk_ BK208) hb); have n2_ := qb.mk (qp (be2_ HB GE207 GE208) hb); have n3_ := qb.mk (hbox); have n4_ := qb.mk ((by rw [hg]; exact (qm (be2_ HB GE207 GE208)) : w.heap.size ≤ gb209)); have n5_ := qb.mk ((by rw [hg]; exact (qm (be2_ HB GE207 GE208)) : w.heap.size ≤ gb209)); have n6_ := qb.mk ((by rw [hg]; exact Nat.ne_of_lt (qw (g := gb207) (o := .cells #[.int .i64 a0_0, .int .i64 a0_1, .slice A0_2 l0_2.length c0_2] 31 (0, 0)) (bk_ BK207)) : gb207 ≠ gb209)); have n7_ := qb.mk ((by rw [hg]; exact Nat.ne_of_gt (qw (g := gb207) (o := .cells #[.int .i64 a0_0, .int .i64 a0_1, .slice A0_2 l0_2.length c0_2] 31 (0, 0)) (bk_ BK207)) : gb209 ≠ gb207)); have n8_ := qb.mk ((by rw [hg]; exact Nat.ne_of_lt (qw (g := gb208) (o := .cells #[.int .i64 a1_0, .int .i64 a1_1, .bool a1_2] 58 (0, 0)) (bk_ BK208)) : gb208 ≠ gb209)); have n9_ := qb.mk ((by rw [hg]; exact Nat.ne_of_gt (qw (g := gb208) (o := .cells #[.int .i64 a1_0, .int .i64 a1_1, .bool a1_2] 58 (0, 0)) (bk_ BK208)) : gb209 ≠ gb208)); clear BK207; clear BK208; clear HB; have BK207 := n0_; have BK208 := n1_; have HB := n2_; have BK209 := n3_; have GW209 := n4_; have GE209 := n5_; have NB207_209 := n6_; have NB209_207 := n7_; have NB208_209 := n8_; have NB209_208 := n9_; clear n0_ n1_ n2_ n3_ n4_ n5_ n6_ n7_ n8_ n9_; clear hb hbox hg; have hnb12 := NB207_208.out; have hnc12 := NB208_207.out; have hnb13 := NB207_209.out; have hnc13 := NB209_207.out; have hcz14_0 : w11.cell? ⟨gb207, 0, none⟩ = some (.int .i64 a0_0) := (qf BK207.out 0).trans rfl; have hcz14_1 : w11.cell? ⟨gb207, 1, none⟩ = some (.int .i64 a0_1) := (qf BK207.out 1).trans rfl; have hcz14_2 : w11.cell? ⟨gb207, 2, none⟩ = some (.slice A0_2 l0_2.length c0_2) := (qf BK207.out 2).trans rfl; have hfz14_0 := qj BK207.out 0; have hfz14_1 := qj BK207.out 1; have hfz14_2 := qj BK207.out 2) | ((with_reducible refine zd (f := 58) rfl ?_); refine zn (some 7) rfl rfl Try.func58 (by kernel_rfl) rfl #[.agg #[.int .i64 a0_0, .int .i64 a0_1, .slice A0_2 l0_2.length c0_2]] rfl (by (try simp only [List.map_toArray, List.map_cons, List.map_nil]); first | done | rfl | (simp only [List.length_drop, List.length_take]; rfl)) ?_; (with_reducible refine (spec_avGood.calls k a0_0 a0_1 _ _ l0_2 true _ ?side1 ?side2 A3.out).mono ?_); (case side1 => repeat (first | exact (Kd.zi HR0_2.out HB.out) | (with_reducible refine Kd.zg ?_ _) | (with_reducible refine Kd.zh ?_ _) | (with_reducible refine Kd.zk ?_))); (case side2 => exact HC0_2.out); rintro e w15 ⟨rfl, hb⟩; refine ⟨_, rfl, ?_⟩; have n0_ := qb.mk (qk (g := gb207) (o := .cells #[.int .i64 a0_0, .int .i64 a0_1, .slice A0_2 l0_2.length c0_2] 31 (0, 0)) (bk_ BK207) hb); have n1_ := qb.mk (qk (g := gb208) (o := .cells #[.int .i64 a1_0, .int .i64 a1_1, .bool a1_2] 58 (0, 0)) (bk_ BK208) hb); have n2_ := qb.mk (qk (g := gb209) (o := .cells #[.int .i64 0, .int .i64 0, .slice none 0 0] 31 (0, 0)) (bk_ BK209) hb); have n3_ := qb.mk (qp (be3_ HB GE207 GE208 GE209) hb); clear BK207; clear BK208; clear BK209; clear HB; have BK207 := n0_; have BK208 := n1_; have BK209 := n2_; have HB := n3_; clear n0_ n1_ n2_ n3_; (try clear hb); (try clear hb2); (try clear hk); (try clear hi); have hcz16_0 : w15.cell? ⟨gb207, 0, none⟩ = some (.int .i64 a0_0) := (qf BK207.out 0).trans rfl; have hcz16_1 : w15.cell? ⟨gb207, 1, none⟩ = some (.int .i64 a0_1) := (qf BK207.out 1).trans rfl; have hcz16_2 : w15.cell? ⟨gb207, 2, none⟩ = some (.slice A0_2 l0_2.length c0_2) := (qf BK207.out 2).trans rfl; have hfz16_0 := qj BK207.out 0; have hfz16_1 := qj BK207.out 1; have hfz16_2 := qj BK207.out 2; have hnb17 := NB208_209.out; have hnc17 := NB209_208.out; have hcz18_0 : w15.cell? ⟨gb208, 0, none⟩ = some (.int .i64 a1_0) := (qf BK208.out 0).trans rfl; have hcz18_1 : w15.cell? ⟨gb208, 1, none⟩ = some (.int .i64 a1_1) := (qf BK208.out 1).trans rfl; have hcz18_2 : w15.cell? ⟨gb208, 2, none⟩ = some (.bool a1_2) := (qf BK208.out 2).trans rfl; have hfz18_0 := qj BK208.out 0; have hfz18_1 := qj BK208.out 1; have hfz18_2 := qj BK208.out 2) | (go_at_call 50; (with_reducible refine (spec_avIs.calls k a0_0 a0_1 a1_0 a1_1 a1_2 true _ A5.out).mono ?_); rintro e w19 ⟨rfl, hb⟩; have n0_ := qb.mk (qk (g := gb207) (o := .cells #[.int .i64 a0_0, .int .i64 a0_1, .slice A0_2 l0_2.length c0_2] 31 (0, 0)) (bk_ BK207) hb); have n1_ := qb.mk (qk (g := gb208) (o := .cells #[.int .i64 a1_0, .int .i64 a1_1, .bool a1_2] 58 (0, 0)) (bk_ BK208) hb); have n2_ := qb.mk (qk (g := gb209) (o := .cells #[.int .i64 0, .int .i64 0, .slice none 0 0] 31 (0, 0)) (bk_ BK209) hb); have n3_ := qb.mk (qp (be3_ HB GE207 GE208 GE209) hb); clear BK207; clear BK208; clear BK209; clear HB; have BK207 := n0_; have BK208 := n1_; have BK209 := n2_; have HB := n3_; clear n0_ n1_ n2_ n3_; (try clear hb); (try clear hb2); (try clear hk); (try clear hi); have hcz20_0 : w19.cell? ⟨gb207, 0, none⟩ = some (.int .i64 a0_0) := (qf BK207.out 0).trans rfl; have hcz20_1 : w19.cell? ⟨gb207, 1, none⟩ = some (.int .i64 a0_1) := (qf BK207.out 1).trans rfl; have hcz20_2 : w19.cell? ⟨gb207, 2, none⟩ = some (.slice A0_2 l0_2.length c0_2) := (qf BK207.out 2).trans rfl; have hfz20_0 := qj BK207.out 0; have hfz20_1 := qj BK207.out 1; have hfz20_2 := qj BK207.out 2; have hcz21_0 : w19.cell? ⟨gb208, 0, none⟩ = some (.int .i64 a1_0) := (qf BK208.out 0).trans rfl; have hcz21_1 : w19.cell? ⟨gb208, 1, none⟩ = some (.int .i64 a1_1) := (qf BK208.out 1).trans rfl; have hcz21_2 : w19.cell? ⟨gb208, 2, none⟩ = some (.bool a1_2) := (qf BK208.out 2).trans rfl; have hfz21_0 := qj BK208.out 0; have hfz21_1 := qj BK208.out 1; have hfz21_2 := qj BK208.out 2) | (go_at_call 51; (with_reducible refine (spec_avShut.calls k a0_0 a0_1 _ _ l0_2 a1_0 a1_1 a1_2 true _ ?side1 ?side2 A7.out).mono ?_); (case side1 => repeat (first | exact (Kd.zi HR0_2.out HB.out) | (with_reducible refine Kd.zg ?_ _) | (with_reducible refine Kd.zh ?_ _) | (with_reducible refine Kd.zk ?_))); (case side2 => exact HC0_2.out); rintro e w22 ⟨rfl, hb⟩; have n0_ := qb.mk (qk (g := gb207) (o := .cells #[.int .i64 a0_0, .int .i64 a0_1, .slice A0_2 l0_2.length c0_2] 31 (0, 0)) (bk_ BK207) hb); have n1_ := qb.mk (qk (g := gb208) (o := .cells #[.int .i64 a1_0, .int .i64 a1_1, .bool a1_2] 58 (0, 0)) (bk_ BK208) hb); have n2_ := qb.mk (qk (g := gb209) (o := .cells #[.int .i64 0, .int .i64 0, .slice none 0 0] 31 (0, 0)) (bk_ BK209) hb); have n3_ := qb.mk (qp (be3_ HB GE207 GE208 GE209) hb); clear BK207; clear BK208; clear BK209; clear HB; have BK207 := n0_; have BK208 := n1_; have BK209 := n2_; have HB := n3_; clear n0_ n1_ n2_ n3_; (try clear hb); (try clear hb2); (try clear hk); (try clear hi); have hcz23_0 : w22.cell? ⟨gb209, 0, none⟩ = some (.int .i64 0) := (qf BK209.out 0).trans rfl; have hcz23_1 : w22.cell? ⟨gb209, 1, none⟩ = some (.int .i64 0) := (qf BK209.out 1).trans rfl; have hcz23_2 : w22.cell? ⟨gb209, 2, none⟩ = some (.slice none 0 0) := (qf BK209.out 2).trans rfl; have hfz23_0 := qj BK209.out 0; have hfz23_1 := qj BK209.out 1; have hfz23_2 := qj BK209.out 2))
    refine bodyPost_ret (results_ct rfl _ _ gb209 31 #[.int .i64 0, .int .i64 0, .slice none 0 0] (0, 0) _ rfl (by (with_reducible repeat (first | refine qd ?_ _ | refine qg ?_ | refine qc ?_ _)); refine zf (cs := #[.int .i64 0, .int .i64 0, .slice none 0 0]) ?_ 2 _ rfl; (with_reducible repeat (first | refine qd ?_ _ | refine qg ?_ | refine qc ?_ _)); refine zf (cs := #[.int .i64 0, .int .i64 0, .slice none 0 0]) ?_ 1 _ rfl; (with_reducible repeat (first | refine qd ?_ _ | refine qg ?_ | refine qc ?_ _)); refine zf (cs := #[.int .i64 0, .int .i64 0, .slice none 0 0]) ?_ 0 _ rfl; (with_reducible repeat (first | refine qd ?_ _ | refine qg ?_ | refine qc ?_ _)); exact BK209.out) Try.underlying31 rfl (by kernel_rfl)) rfl ?_
    exact ⟨_, by first | rfl | (simp [qv, qu] <;> rfl) | (simp [*, qv, qu] <;> rfl), by first | exact Kd.R_nil _ _ _ _ _ | exact Kd.N_nil _ _ _ _ _ | exact Kd.V_nil _ _ _ _ _ | exact Kd.Q_nil _ _ _ _ _ | exact Kd.S_nil _ _ _ _ _, be3_ HB GE207 GE208 GE209⟩
   ·replace c8 := Bool.eq_false_iff.mpr c8
    subst c8
    have H1 : (if (l0_2.length : Int) = 30 then (some (0, 0, ([] : List (S58)), false)) else ((spec_avClose.f k a0_0 a0_1 l0_2 a1_0 a1_1 a1_2).bind fun bt213 => (some (bt213.1, bt213.2.1, bt213.2.2, true)))) = some (r1, r2, r3, r4) := by rw [if_neg (show ¬ (false = true) by decide)] at H; exact H
    clear H
    have H := H1
    clear H1
    by_cases c24 : (l0_2.length : Int) = 30
    ·rw [if_pos c24] at H
     have c24b0 : ((l0_2.length : Int) == 30) = true := beq_iff_eq.mpr c24
     have c24b1 : ((l0_2.length : Int) != 30) = false := bne_eq_false_iff_eq.mpr c24
     clear c24
     simp only [Option.some.injEq, Prod.mk.injEq] at H
     obtain ⟨rfl, rfl, rfl, rfl⟩ := H
     go_enter Try.func35, Try.ntmps35
     go_wp2_with (first | ((with_reducible refine qz (N := 2) rfl ?_); (try (refine zt (by rfl) ?_; dsimp only)); refine qx ?hg (N := 2) ?hd (cs := #[.int .i64 a0_0, .int .i64 a0_1, .slice A0_2 l0_2.length c0_2]) (t := 31) ?hr ?_; (case hd => rfl); (case hg => rfl); (case hr => first | (go_simp; done) | (go_simp; rfl)); intro gb207 hg w25 hbox hb; have n0_ := qb.mk (qp (be0_ HB) hb); have n1_ := qb.mk (hbox); have n2_ := qb.mk ((by rw [hg]; exact (qm (be0_ HB)) : w.heap.size ≤ gb207)); have n3_ := qb.mk ((by rw [hg]; exact (qm (be0_ HB)) : w.heap.size ≤ gb207)); clear HB; have HB := n0_; have BK207 := n1_; have GW207 := n2_; have GE207 := n3_; clear n0_ n1_ n2_ n3_; clear hb hbox hg) | ((with_reducible refine qz (N := 3) rfl ?_); (try (refine zt (by rfl) ?_; dsimp only)); refine qx ?hg (N := 3) ?hd (cs := #[.int .i64 a1_0, .int .i64 a1_1, .bool a1_2]) (t := 58) ?hr ?_; (case hd => rfl); (case hg => rfl); (case hr => first | (go_simp; done) | (go_simp; rfl)); intro gb208 hg w26 hbox hb; have n0_ := qb.mk (qk (g := gb207) (o := .cells #[.int .i64 a0_0, .int .i64 a0_1, .slice A0_2 l0_2.length c0_2] 31 (0, 0)) (bk_ BK207) hb); have n1_ := qb.mk (qp (be1_ HB GE207) hb); have n2_ := qb.mk (hbox); have n3_ := qb.mk ((by rw [hg]; exact (qm (be1_ HB GE207)) : w.heap.size ≤ gb208)); have n4_ := qb.mk ((by rw [hg]; exact (qm (be1_ HB GE207)) : w.heap.size ≤ gb208)); have n5_ := qb.mk ((by rw [hg]; exact Nat.ne_of_lt (qw (g := gb207) (o := .cells #[.int .i64 a0_0, .int .i64 a0_1, .slice A0_2 l0_2.length c0_2] 31 (0, 0)) (bk_ BK207)) : gb207 ≠ gb208)); have n6_ := qb.mk ((by rw [hg]; exact Nat.ne_of_gt (qw (g := gb207) (o := .cells #[.int .i64 a0_0, .int .i64 a0_1, .slice A0_2 l0_2.length c0_2] 31 (0, 0)) (bk_ BK207)) : gb208 ≠ gb207)); clear BK207; clear HB; have BK207 := n0_; have HB := n1_; have BK208 := n2_; have GW208 := n3_; have GE208 := n4_; have NB207_208 := n5_; have NB208_207 := n6_; clear n0_ n1_ n2_ n3_ n4_ n5_ n6_; clear hb hbox hg) | ((with_reducible refine qz (N := 4) rfl ?_); (try (refine zt (by rfl) ?_; dsimp only)); refine qx ?hg (N := 4) ?hd (cs := #[.int .i64 0, .int .i64 0, .slice none 0 0]) (t := 31) ?hr ?_; (case hd => rfl); (case hg => rfl); (case hr => first | (go_simp; done) | (go_simp; rfl)); intro gb209 hg w27 hbox hb; have n0_ := qb.mk (qk (g := gb207) (o := .cells #[.int .i64 a0_0, .int .i64 a0_1, .slice A0_2 l0_2.length c0_2] 31 (0, 0)) (bk_ BK207) hb); have n1_ := qb.mk (qk (g := gb208) (o := .cells #[.int .i64 a1_0, .int .i64 a1_1, .bool a1_2] 58 (0, 0)) (bk_ BK208) hb); have n2_ := qb.mk (qp (be2_ HB GE207 GE208) hb); have n3_ := qb.mk (hbox); have n4_ := qb.mk ((by rw [hg]; exact (qm (be2_ HB GE207 GE208)) : w.heap.size ≤ gb209)); have n5_ := qb.mk ((by rw [hg]; exact (qm (be2_ HB GE207 GE208)) : w.heap.size ≤ gb209)); have n6_ := qb.mk ((by rw [hg]; exact Nat.ne_of_lt (qw (g := gb207) (o := .cells #[.int .i64 a0_0, .int .i64 a0_1, .slice A0_2 l0_2.length c0_2] 31 (0, 0)) (bk_ BK207)) : gb207 ≠ gb209)); have n7_ := qb.mk ((by rw [hg]; exact Nat.ne_of_gt (qw (g := gb207) (o := .cells #[.int .i64 a0_0, .int .i64 a0_1, .slice A0_2 l0_2.length c0_2] 31 (0, 0)) (bk_ BK207)) : gb209 ≠ gb207)); have n8_ := qb.mk ((by rw [hg]; exact Nat.ne_of_lt (qw (g := gb208) (o := .cells #[.int .i64 a1_0, .int .i64 a1_1, .bool a1_2] 58 (0, 0)) (bk_ BK208)) : gb208 ≠ gb209)); have n9_ := qb.mk ((by rw [hg]; exact Nat.ne_of_gt (qw (g := gb208) (o := .cells #[.int .i64 a1_0, .int .i64 a1_1, .bool a1_2] 58 (0, 0)) (bk_ BK208)) : gb209 ≠ gb208)); clear BK207; clear BK208; clear HB; have BK207 := n0_; have BK208 := n1_; have HB := n2_; have BK209 := n3_; have GW209 := n4_; have GE209 := n5_; have NB207_209 := n6_; have NB209_207 := n7_; have NB208_209 := n8_; have NB209_208 := n9_; clear n0_ n1_ n2_ n3_ n4_ n5_ n6_ n7_ n8_ n9_; clear hb hbox hg; have hnb28 := NB207_208.out; have hnc28 := NB208_207.out; have hnb29 := NB207_209.out; have hnc29 := NB209_207.out; have hcz30_0 : w27.cell? ⟨gb207, 0, none⟩ = some (.int .i64 a0_0) := (qf BK207.out 0).trans rfl; have hcz30_1 : w27.cell? ⟨gb207, 1, none⟩ = some (.int .i64 a0_1) := (qf BK207.out 1).trans rfl; have hcz30_2 : w27.cell? ⟨gb207, 2, none⟩ = some (.slice A0_2 l0_2.length c0_2) := (qf BK207.out 2).trans rfl; have hfz30_0 := qj BK207.out 0; have hfz30_1 := qj BK207.out 1; have hfz30_2 := qj BK207.out 2) | ((with_reducible refine zd (f := 58) rfl ?_); refine zn (some 7) rfl rfl Try.func58 (by kernel_rfl) rfl #[.agg #[.int .i64 a0_0, .int .i64 a0_1, .slice A0_2 l0_2.length c0_2]] rfl (by (try simp only [List.map_toArray, List.map_cons, List.map_nil]); first | done | rfl | (simp only [List.length_drop, List.length_take]; rfl)) ?_; (with_reducible refine (spec_avGood.calls k a0_0 a0_1 _ _ l0_2 true _ ?side1 ?side2 A3.out).mono ?_); (case side1 => repeat (first | exact (Kd.zi HR0_2.out HB.out) | (with_reducible refine Kd.zg ?_ _) | (with_reducible refine Kd.zh ?_ _) | (with_reducible refine Kd.zk ?_))); (case side2 => exact HC0_2.out); rintro e w31 ⟨rfl, hb⟩; refine ⟨_, rfl, ?_⟩; have n0_ := qb.mk (qk (g := gb207) (o := .cells #[.int .i64 a0_0, .int .i64 a0_1, .slice A0_2 l0_2.length c0_2] 31 (0, 0)) (bk_ BK207) hb); have n1_ := qb.mk (qk (g := gb208) (o := .cells #[.int .i64 a1_0, .int .i64 a1_1, .bool a1_2] 58 (0, 0)) (bk_ BK208) hb); have n2_ := qb.mk (qk (g := gb209) (o := .cells #[.int .i64 0, .int .i64 0, .slice none 0 0] 31 (0, 0)) (bk_ BK209) hb); have n3_ := qb.mk (qp (be3_ HB GE207 GE208 GE209) hb); clear BK207; clear BK208; clear BK209; clear HB; have BK207 := n0_; have BK208 := n1_; have BK209 := n2_; have HB := n3_; clear n0_ n1_ n2_ n3_; (try clear hb); (try clear hb2); (try clear hk); (try clear hi); have hcz32_0 : w31.cell? ⟨gb207, 0, none⟩ = some (.int .i64 a0_0) := (qf BK207.out 0).trans rfl; have hcz32_1 : w31.cell? ⟨gb207, 1, none⟩ = some (.int .i64 a0_1) := (qf BK207.out 1).trans rfl; have hcz32_2 : w31.cell? ⟨gb207, 2, none⟩ = some (.slice A0_2 l0_2.length c0_2) := (qf BK207.out 2).trans rfl; have hfz32_0 := qj BK207.out 0; have hfz32_1 := qj BK207.out 1; have hfz32_2 := qj BK207.out 2; have hnb33 := NB208_209.out; have hnc33 := NB209_208.out; have hcz34_0 : w31.cell? ⟨gb208, 0, none⟩ = some (.int .i64 a1_0) := (qf BK208.out 0).trans rfl; have hcz34_1 : w31.cell? ⟨gb208, 1, none⟩ = some (.int .i64 a1_1) := (qf BK208.out 1).trans rfl; have hcz34_2 : w31.cell? ⟨gb208, 2, none⟩ = some (.bool a1_2) := (qf BK208.out 2).trans rfl; have hfz34_0 := qj BK208.out 0; have hfz34_1 := qj BK208.out 1; have hfz34_2 := qj BK208.out 2) | (go_at_call 50; (with_reducible refine (spec_avIs.calls k a0_0 a0_1 a1_0 a1_1 a1_2 true _ A5.out).mono ?_); rintro e w35 ⟨rfl, hb⟩; have n0_ := qb.mk (qk (g := gb207) (o := .cells #[.int .i64 a0_0, .int .i64 a0_1, .slice A0_2 l0_2.length c0_2] 31 (0, 0)) (bk_ BK207) hb); have n1_ := qb.mk (qk (g := gb208) (o := .cells #[.int .i64 a1_0, .int .i64 a1_1, .bool a1_2] 58 (0, 0)) (bk_ BK208) hb); have n2_ := qb.mk (qk (g := gb209) (o := .cells #[.int .i64 0, .int .i64 0, .slice none 0 0] 31 (0, 0)) (bk_ BK209) hb); have n3_ := qb.mk (qp (be3_ HB GE207 GE208 GE209) hb); clear BK207; clear BK208; clear BK209; clear HB; have BK207 := n0_; have BK208 := n1_; have BK209 := n2_; have HB := n3_; clear n0_ n1_ n2_ n3_; (try clear hb); (try clear hb2); (try clear hk); (try clear hi); have hcz36_0 : w35.cell? ⟨gb207, 0, none⟩ = some (.int .i64 a0_0) := (qf BK207.out 0).trans rfl; have hcz36_1 : w35.cell? ⟨gb207, 1, none⟩ = some (.int .i64 a0_1) := (qf BK207.out 1).trans rfl; have hcz36_2 : w35.cell? ⟨gb207, 2, none⟩ = some (.slice A0_2 l0_2.length c0_2) := (qf BK207.out 2).trans rfl; have hfz36_0 := qj BK207.out 0; have hfz36_1 := qj BK207.out 1; have hfz36_2 := qj BK207.out 2; have hcz37_0 : w35.cell? ⟨gb208, 0, none⟩ = some (.int .i64 a1_0) := (qf BK208.out 0).trans rfl; have hcz37_1 : w35.cell? ⟨gb208, 1, none⟩ = some (.int .i64 a1_1) := (qf BK208.out 1).trans rfl; have hcz37_2 : w35.cell? ⟨gb208, 2, none⟩ = some (.bool a1_2) := (qf BK208.out 2).trans rfl; have hfz37_0 := qj BK208.out 0; have hfz37_1 := qj BK208.out 1; have hfz37_2 := qj BK208.out 2) | (go_at_call 51; (with_reducible refine (spec_avShut.calls k a0_0 a0_1 _ _ l0_2 a1_0 a1_1 a1_2 false _ ?side1 ?side2 A7.out).mono ?_); (case side1 => repeat (first | exact (Kd.zi HR0_2.out HB.out) | (with_reducible refine Kd.zg ?_ _) | (with_reducible refine Kd.zh ?_ _) | (with_reducible refine Kd.zk ?_))); (case side2 => exact HC0_2.out); rintro e w38 ⟨rfl, hb⟩; have n0_ := qb.mk (qk (g := gb207) (o := .cells #[.int .i64 a0_0, .int .i64 a0_1, .slice A0_2 l0_2.length c0_2] 31 (0, 0)) (bk_ BK207) hb); have n1_ := qb.mk (qk (g := gb208) (o := .cells #[.int .i64 a1_0, .int .i64 a1_1, .bool a1_2] 58 (0, 0)) (bk_ BK208) hb); have n2_ := qb.mk (qk (g := gb209) (o := .cells #[.int .i64 0, .int .i64 0, .slice none 0 0] 31 (0, 0)) (bk_ BK209) hb); have n3_ := qb.mk (qp (be3_ HB GE207 GE208 GE209) hb); clear BK207; clear BK208; clear BK209; clear HB; have BK207 := n0_; have BK208 := n1_; have BK209 := n2_; have HB := n3_; clear n0_ n1_ n2_ n3_; (try clear hb); (try clear hb2); (try clear hk); (try clear hi); have hcz39_0 : w38.cell? ⟨gb207, 0, none⟩ = some (.int .i64 a0_0) := (qf BK207.out 0).trans rfl; have hcz39_1 : w38.cell? ⟨gb207, 1, none⟩ = some (.int .i64 a0_1) := (qf BK207.out 1).trans rfl; have hcz39_2 : w38.cell? ⟨gb207, 2, none⟩ = some (.slice A0_2 l0_2.length c0_2) := (qf BK207.out 2).trans rfl; have hfz39_0 := qj BK207.out 0; have hfz39_1 := qj BK207.out 1; have hfz39_2 := qj BK207.out 2; have hcz40_0 : w38.cell? ⟨gb209, 0, none⟩ = some (.int .i64 0) := (qf BK209.out 0).trans rfl; have hcz40_1 : w38.cell? ⟨gb209, 1, none⟩ = some (.int .i64 0) := (qf BK209.out 1).trans rfl; have hcz40_2 : w38.cell? ⟨gb209, 2, none⟩ = some (.slice none 0 0) := (qf BK209.out 2).trans rfl; have hfz40_0 := qj BK209.out 0; have hfz40_1 := qj BK209.out 1; have hfz40_2 := qj BK209.out 2))
     refine bodyPost_ret (results_ct rfl _ _ gb209 31 #[.int .i64 0, .int .i64 0, .slice none 0 0] (0, 0) _ rfl (by (with_reducible repeat (first | refine qd ?_ _ | refine qg ?_ | refine qc ?_ _)); refine zf (cs := #[.int .i64 0, .int .i64 0, .slice none 0 0]) ?_ 2 _ rfl; (with_reducible repeat (first | refine qd ?_ _ | refine qg ?_ | refine qc ?_ _)); refine zf (cs := #[.int .i64 0, .int .i64 0, .slice none 0 0]) ?_ 1 _ rfl; (with_reducible repeat (first | refine qd ?_ _ | refine qg ?_ | refine qc ?_ _)); refine zf (cs := #[.int .i64 0, .int .i64 0, .slice none 0 0]) ?_ 0 _ rfl; (with_reducible repeat (first | refine qd ?_ _ | refine qg ?_ | refine qc ?_ _)); exact BK209.out) Try.underlying31 rfl (by kernel_rfl)) rfl ?_
     exact ⟨_, by first | rfl | (simp [qv, qu] <;> rfl) | (simp [*, qv, qu] <;> rfl), by first | exact Kd.R_nil _ _ _ _ _ | exact Kd.N_nil _ _ _ _ _ | exact Kd.V_nil _ _ _ _ _ | exact Kd.Q_nil _ _ _ _ _ | exact Kd.S_nil _ _ _ _ _, be3_ HB GE207 GE208 GE209⟩
    ·rw [if_neg c24] at H
     have c24b0 : ((l0_2.length : Int) == 30) = false := beq_eq_false_iff_ne.mpr c24
     have c24b1 : ((l0_2.length : Int) != 30) = true := bne_iff_ne.mpr c24
     replace H := Option.bind_eq_some_iff.mp H
     obtain ⟨⟨t213, t214, t215⟩, A410, H⟩ := H
     replace H : (some (t213, t214, t215, true)) = some (r1, r2, r3, r4) := H
     have A41 := qb.mk A410
     clear A410
     simp only [Option.some.injEq, Prod.mk.injEq] at H
     obtain ⟨rfl, rfl, rfl, rfl⟩ := H
     go_enter Try.func35, Try.ntmps35
     go_wp2_with (first | ((with_reducible refine qz (N := 2) rfl ?_); (try (refine zt (by rfl) ?_; dsimp only)); refine qx ?hg (N := 2) ?hd (cs := #[.int .i64 a0_0, .int .i64 a0_1, .slice A0_2 l0_2.length c0_2]) (t := 31) ?hr ?_; (case hd => rfl); (case hg => rfl); (case hr => first | (go_simp; done) | (go_simp; rfl)); intro gb207 hg w42 hbox hb; have n0_ := qb.mk (qp (be0_ HB) hb); have n1_ := qb.mk (hbox); have n2_ := qb.mk ((by rw [hg]; exact (qm (be0_ HB)) : w.heap.size ≤ gb207)); have n3_ := qb.mk ((by rw [hg]; exact (qm (be0_ HB)) : w.heap.size ≤ gb207)); clear HB; have HB := n0_; have BK207 := n1_; have GW207 := n2_; have GE207 := n3_; clear n0_ n1_ n2_ n3_; clear hb hbox hg) | ((with_reducible refine qz (N := 3) rfl ?_); (try (refine zt (by rfl) ?_; dsimp only)); refine qx ?hg (N := 3) ?hd (cs := #[.int .i64 a1_0, .int .i64 a1_1, .bool a1_2]) (t := 58) ?hr ?_; (case hd => rfl); (case hg => rfl); (case hr => first | (go_simp; done) | (go_simp; rfl)); intro gb208 hg w43 hbox hb; have n0_ := qb.mk (qk (g := gb207) (o := .cells #[.int .i64 a0_0, .int .i64 a0_1, .slice A0_2 l0_2.length c0_2] 31 (0, 0)) (bk_ BK207) hb); have n1_ := qb.mk (qp (be1_ HB GE207) hb); have n2_ := qb.mk (hbox); have n3_ := qb.mk ((by rw [hg]; exact (qm (be1_ HB GE207)) : w.heap.size ≤ gb208)); have n4_ := qb.mk ((by rw [hg]; exact (qm (be1_ HB GE207)) : w.heap.size ≤ gb208)); have n5_ := qb.mk ((by rw [hg]; exact Nat.ne_of_lt (qw (g := gb207) (o := .cells #[.int .i64 a0_0, .int .i64 a0_1, .slice A0_2 l0_2.length c0_2] 31 (0, 0)) (bk_ BK207)) : gb207 ≠ gb208)); have n6_ := qb.mk ((by rw [hg]; exact Nat.ne_of_gt (qw (g := gb207) (o := .cells #[.int .i64 a0_0, .int .i64 a0_1, .slice A0_2 l0_2.length c0_2] 31 (0, 0)) (bk_ BK207)) : gb208 ≠ gb207)); clear BK207; clear HB; have BK207 := n0_; have HB := n1_; have BK208 := n2_; have GW208 := n3_; have GE208 := n4_; have NB207_208 := n5_; have NB208_207 := n6_; clear n0_ n1_ n2_ n3_ n4_ n5_ n6_; clear hb hbox hg) | ((with_reducible refine qz (N := 4) rfl ?_); (try (refine zt (by rfl) ?_; dsimp only)); refine qx ?hg (N := 4) ?hd (cs := #[.int .i64 0, .int .i64 0, .slice none 0 0]) (t := 31) ?hr ?_; (case hd => rfl); (case hg => rfl); (case hr => first | (go_simp; done) | (go_simp; rfl)); intro gb209 hg w44 hbox hb; have n0_ := qb.mk (qk (g := gb207) (o := .cells #[.int .i64 a0_0, .int .i64 a0_1, .slice A0_2 l0_2.length c0_2] 31 (0, 0)) (bk_ BK207) hb); have n1_ := qb.mk (qk (g := gb208) (o := .cells #[.int .i64 a1_0, .int .i64 a1_1, .bool a1_2] 58 (0, 0)) (bk_ BK208) hb); have n2_ := qb.mk (qp (be2_ HB GE207 GE208) hb); have n3_ := qb.mk (hbox); have n4_ := qb.mk ((by rw [hg]; exact (qm (be2_ HB GE207 GE208)) : w.heap.size ≤ gb209)); have n5_ := qb.mk ((by rw [hg]; exact (qm (be2_ HB GE207 GE208)) : w.heap.size ≤ gb209)); have n6_ := qb.mk ((by rw [hg]; exact Nat.ne_of_lt (qw (g := gb207) (o := .cells #[.int .i64 a0_0, .int .i64 a0_1, .slice A0_2 l0_2.length c0_2] 31 (0, 0)) (bk_ BK207)) : gb207 ≠ gb209)); have n7_ := qb.mk ((by rw [hg]; exact Nat.ne_of_gt (qw (g := gb207) (o := .cells #[.int .i64 a0_0, .int .i64 a0_1, .slice A0_2 l0_2.length c0_2] 31 (0, 0)) (bk_ BK207)) : gb209 ≠ gb207)); have n8_ := qb.mk ((by rw [hg]; exact Nat.ne_of_lt (qw (g := gb208) (o := .cells #[.int .i64 a1_0, .int .i64 a1_1, .bool a1_2] 58 (0, 0)) (bk_ BK208)) : gb208 ≠ gb209)); have n9_ := qb.mk ((by rw [hg]; exact Nat.ne_of_gt (qw (g := gb208) (o := .cells #[.int .i64 a1_0, .int .i64 a1_1, .bool a1_2] 58 (0, 0)) (bk_ BK208)) : gb209 ≠ gb208)); clear BK207; clear BK208; clear HB; have BK207 := n0_; have BK208 := n1_; have HB := n2_; have BK209 := n3_; have GW209 := n4_; have GE209 := n5_; have NB207_209 := n6_; have NB209_207 := n7_; have NB208_209 := n8_; have NB209_208 := n9_; clear n0_ n1_ n2_ n3_ n4_ n5_ n6_ n7_ n8_ n9_; clear hb hbox hg; have hnb45 := NB207_208.out; have hnc45 := NB208_207.out; have hnb46 := NB207_209.out; have hnc46 := NB209_207.out; have hcz47_0 : w44.cell? ⟨gb207, 0, none⟩ = some (.int .i64 a0_0) := (qf BK207.out 0).trans rfl; have hcz47_1 : w44.cell? ⟨gb207, 1, none⟩ = some (.int .i64 a0_1) := (qf BK207.out 1).trans rfl; have hcz47_2 : w44.cell? ⟨gb207, 2, none⟩ = some (.slice A0_2 l0_2.length c0_2) := (qf BK207.out 2).trans rfl; have hfz47_0 := qj BK207.out 0; have hfz47_1 := qj BK207.out 1; have hfz47_2 := qj BK207.out 2) | ((with_reducible refine zd (f := 58) rfl ?_); refine zn (some 7) rfl rfl Try.func58 (by kernel_rfl) rfl #[.agg #[.int .i64 a0_0, .int .i64 a0_1, .slice A0_2 l0_2.length c0_2]] rfl (by (try simp only [List.map_toArray, List.map_cons, List.map_nil]); first | done | rfl | (simp only [List.length_drop, List.length_take]; rfl)) ?_; (with_reducible refine (spec_avGood.calls k a0_0 a0_1 _ _ l0_2 true _ ?side1 ?side2 A3.out).mono ?_); (case side1 => repeat (first | exact (Kd.zi HR0_2.out HB.out) | (with_reducible refine Kd.zg ?_ _) | (with_reducible refine Kd.zh ?_ _) | (with_reducible refine Kd.zk ?_))); (case side2 => exact HC0_2.out); rintro e w48 ⟨rfl, hb⟩; refine ⟨_, rfl, ?_⟩; have n0_ := qb.mk (qk (g := gb207) (o := .cells #[.int .i64 a0_0, .int .i64 a0_1, .slice A0_2 l0_2.length c0_2] 31 (0, 0)) (bk_ BK207) hb); have n1_ := qb.mk (qk (g := gb208) (o := .cells #[.int .i64 a1_0, .int .i64 a1_1, .bool a1_2] 58 (0, 0)) (bk_ BK208) hb); have n2_ := qb.mk (qk (g := gb209) (o := .cells #[.int .i64 0, .int .i64 0, .slice none 0 0] 31 (0, 0)) (bk_ BK209) hb); have n3_ := qb.mk (qp (be3_ HB GE207 GE208 GE209) hb); clear BK207; clear BK208; clear BK209; clear HB; have BK207 := n0_; have BK208 := n1_; have BK209 := n2_; have HB := n3_; clear n0_ n1_ n2_ n3_; (try clear hb); (try clear hb2); (try clear hk); (try clear hi); have hcz49_0 : w48.cell? ⟨gb207, 0, none⟩ = some (.int .i64 a0_0) := (qf BK207.out 0).trans rfl; have hcz49_1 : w48.cell? ⟨gb207, 1, none⟩ = some (.int .i64 a0_1) := (qf BK207.out 1).trans rfl; have hcz49_2 : w48.cell? ⟨gb207, 2, none⟩ = some (.slice A0_2 l0_2.length c0_2) := (qf BK207.out 2).trans rfl; have hfz49_0 := qj BK207.out 0; have hfz49_1 := qj BK207.out 1; have hfz49_2 := qj BK207.out 2; have hnb50 := NB208_209.out; have hnc50 := NB209_208.out; have hcz51_0 : w48.cell? ⟨gb208, 0, none⟩ = some (.int .i64 a1_0) := (qf BK208.out 0).trans rfl; have hcz51_1 : w48.cell? ⟨gb208, 1, none⟩ = some (.int .i64 a1_1) := (qf BK208.out 1).trans rfl; have hcz51_2 : w48.cell? ⟨gb208, 2, none⟩ = some (.bool a1_2) := (qf BK208.out 2).trans rfl; have hfz51_0 := qj BK208.out 0; have hfz51_1 := qj BK208.out 1; have hfz51_2 := qj BK208.out 2) | (go_at_call 50; (with_reducible refine (spec_avIs.calls k a0_0 a0_1 a1_0 a1_1 a1_2 true _ A5.out).mono ?_); rintro e w52 ⟨rfl, hb⟩; have n0_ := qb.mk (qk (g := gb207) (o := .cells #[.int .i64 a0_0, .int .i64 a0_1, .slice A0_2 l0_2.length c0_2] 31 (0, 0)) (bk_ BK207) hb); have n1_ := qb.mk (qk (g := gb208) (o := .cells #[.int .i64 a1_0, .int .i64 a1_1, .bool a1_2] 58 (0, 0)) (bk_ BK208) hb); have n2_ := qb.mk (qk (g := gb209) (o := .cells #[.int .i64 0, .int .i64 0, .slice none 0 0] 31 (0, 0)) (bk_ BK209) hb); have n3_ := qb.mk (qp (be3_ HB GE207 GE208 GE209) hb); clear BK207; clear BK208; clear BK209; clear HB; have BK207 := n0_; have BK208 := n1_; have BK209 := n2_; have HB := n3_; clear n0_ n1_ n2_ n3_; (try clear hb); (try clear hb2); (try clear hk); (try clear hi); have hcz53_0 : w52.cell? ⟨gb207, 0, none⟩ = some (.int .i64 a0_0) := (qf BK207.out 0).trans rfl; have hcz53_1 : w52.cell? ⟨gb207, 1, none⟩ = some (.int .i64 a0_1) := (qf BK207.out 1).trans rfl; have hcz53_2 : w52.cell? ⟨gb207, 2, none⟩ = some (.slice A0_2 l0_2.length c0_2) := (qf BK207.out 2).trans rfl; have hfz53_0 := qj BK207.out 0; have hfz53_1 := qj BK207.out 1; have hfz53_2 := qj BK207.out 2; have hcz54_0 : w52.cell? ⟨gb208, 0, none⟩ = some (.int .i64 a1_0) := (qf BK208.out 0).trans rfl; have hcz54_1 : w52.cell? ⟨gb208, 1, none⟩ = some (.int .i64 a1_1) := (qf BK208.out 1).trans rfl; have hcz54_2 : w52.cell? ⟨gb208, 2, none⟩ = some (.bool a1_2) := (qf BK208.out 2).trans rfl; have hfz54_0 := qj BK208.out 0; have hfz54_1 := qj BK208.out 1; have hfz54_2 := qj BK208.out 2) | (go_at_call 51; (with_reducible refine (spec_avShut.calls k a0_0 a0_1 _ _ l0_2 a1_0 a1_1 a1_2 false _ ?side1 ?side2 A7.out).mono ?_); (case side1 => repeat (first | exact (Kd.zi HR0_2.out HB.out) | (with_reducible refine Kd.zg ?_ _) | (with_reducible refine Kd.zh ?_ _) | (with_reducible refine Kd.zk ?_))); (case side2 => exact HC0_2.out); rintro e w55 ⟨rfl, hb⟩; have n0_ := qb.mk (qk (g := gb207) (o := .cells #[.int .i64 a0_0, .int .i64 a0_1, .slice A0_2 l0_2.length c0_2] 31 (0, 0)) (bk_ BK207) hb); have n1_ := qb.mk (qk (g := gb208) (o := .cells #[.int .i64 a1_0, .int .i64 a1_1, .bool a1_2] 58 (0, 0)) (bk_ BK208) hb); have n2_ := qb.mk (qk (g := gb209) (o := .cells #[.int .i64 0, .int .i64 0, .slice none 0 0] 31 (0, 0)) (bk_ BK209) hb); have n3_ := qb.mk (qp (be3_ HB GE207 GE208 GE209) hb); clear BK207; clear BK208; clear BK209; clear HB; have BK207 := n0_; have BK208 := n1_; have BK209 := n2_; have HB := n3_; clear n0_ n1_ n2_ n3_; (try clear hb); (try clear hb2); (try clear hk); (try clear hi); have hcz56_0 : w55.cell? ⟨gb207, 0, none⟩ = some (.int .i64 a0_0) := (qf BK207.out 0).trans rfl; have hcz56_1 : w55.cell? ⟨gb207, 1, none⟩ = some (.int .i64 a0_1) := (qf BK207.out 1).trans rfl; have hcz56_2 : w55.cell? ⟨gb207, 2, none⟩ = some (.slice A0_2 l0_2.length c0_2) := (qf BK207.out 2).trans rfl; have hfz56_0 := qj BK207.out 0; have hfz56_1 := qj BK207.out 1; have hfz56_2 := qj BK207.out 2; have hcz57_0 : w55.cell? ⟨gb208, 0, none⟩ = some (.int .i64 a1_0) := (qf BK208.out 0).trans rfl; have hcz57_1 : w55.cell? ⟨gb208, 1, none⟩ = some (.int .i64 a1_1) := (qf BK208.out 1).trans rfl; have hcz57_2 : w55.cell? ⟨gb208, 2, none⟩ = some (.bool a1_2) := (qf BK208.out 2).trans rfl; have hfz57_0 := qj BK208.out 0; have hfz57_1 := qj BK208.out 1; have hfz57_2 := qj BK208.out 2) | ((with_reducible refine zd (f := 52) rfl ?_); refine zn (some 32) rfl rfl Try.func52 (by kernel_rfl) rfl #[.agg #[.int .i64 a0_0, .int .i64 a0_1, .slice A0_2 l0_2.length c0_2], .agg #[.int .i64 a1_0, .int .i64 a1_1, .bool a1_2]] rfl (by (try simp only [List.map_toArray, List.map_cons, List.map_nil]); first | done | rfl | (simp only [List.length_drop, List.length_take]; rfl)) ?_; (with_reducible refine (spec_avClose.calls k a0_0 a0_1 _ _ l0_2 a1_0 a1_1 a1_2 t213 t214 t215 _ ?side1 ?side2 A41.out).mono ?_); (case side1 => repeat (first | exact (Kd.zi HR0_2.out HB.out) | (with_reducible refine Kd.zg ?_ _) | (with_reducible refine Kd.zh ?_ _) | (with_reducible refine Kd.zk ?_))); (case side2 => exact HC0_2.out); rintro e w58 ⟨v216, rfl, ho0, hb⟩; refine ⟨_, rfl, ?_⟩; have n0_ := qb.mk (Kd.zq (Kd.R_newB ho0 (g := gb208) (o := .cells #[.int .i64 a1_0, .int .i64 a1_1, .bool a1_2] 58 (0, 0)) (bk_ BK208)) (qm (be3_ HB GE207 GE208 GE209))); have n1_ := qb.mk (qk (g := gb207) (o := .cells #[.int .i64 a0_0, .int .i64 a0_1, .slice A0_2 l0_2.length c0_2] 31 (0, 0)) (bk_ BK207) hb); have n2_ := qb.mk (qk (g := gb208) (o := .cells #[.int .i64 a1_0, .int .i64 a1_1, .bool a1_2] 58 (0, 0)) (bk_ BK208) hb); have n3_ := qb.mk (qk (g := gb209) (o := .cells #[.int .i64 0, .int .i64 0, .slice none 0 0] 31 (0, 0)) (bk_ BK209) hb); have n4_ := qb.mk (qp (be3_ HB GE207 GE208 GE209) hb); clear BK207; clear BK208; clear BK209; clear HB; have HO217 := n0_; have BK207 := n1_; have BK208 := n2_; have BK209 := n3_; have HB := n4_; clear n0_ n1_ n2_ n3_ n4_; (try clear hb); (try clear hb2); (try clear hk); (try clear hi); (try clear ho0); have hcz59_0 : w58.cell? ⟨gb209, 0, none⟩ = some (.int .i64 0) := (qf BK209.out 0).trans rfl; have hcz59_1 : w58.cell? ⟨gb209, 1, none⟩ = some (.int .i64 0) := (qf BK209.out 1).trans rfl; have hcz59_2 : w58.cell? ⟨gb209, 2, none⟩ = some (.slice none 0 0) := (qf BK209.out 2).trans rfl; have hfz59_0 := qj BK209.out 0; have hfz59_1 := qj BK209.out 1; have hfz59_2 := qj BK209.out 2; obtain ⟨Ao60, co60, eo60⟩ := Kd.zy HO217.out; subst eo60))
     refine bodyPost_ret (results_ct rfl _ _ gb209 31 #[.int .i64 t213, .int .i64 t214, .slice Ao60 t215.length co60] (0, 0) _ rfl (by (with_reducible repeat (first | refine qd ?_ _ | refine qg ?_ | refine qc ?_ _)); refine zf (cs := #[.int .i64 t213, .int .i64 t214, .slice none 0 0]) ?_ 2 _ rfl; (with_reducible repeat (first | refine qd ?_ _ | refine qg ?_ | refine qc ?_ _)); refine zf (cs := #[.int .i64 t213, .int .i64 0, .slice none 0 0]) ?_ 1 _ rfl; (with_reducible repeat (first | refine qd ?_ _ | refine qg ?_ | refine qc ?_ _)); refine zf (cs := #[.int .i64 0, .int .i64 0, .slice none 0 0]) ?_ 0 _ rfl; (with_reducible repeat (first | refine qd ?_ _ | refine qg ?_ | refine qc ?_ _)); exact BK209.out) Try.underlying31 rfl (by kernel_rfl)) rfl ?_
     exact ⟨_, by first | rfl | (simp [qv, qu] <;> rfl) | (simp [*, qv, qu] <;> rfl), by (with_reducible repeat (first | apply Kd.qo | apply Kd.qn | apply Kd.qq)); exact Kd.zb (Kd.R_far (p := ⟨gb209, 2, none⟩) (Kd.R_far (p := ⟨gb209, 1, none⟩) (Kd.R_far (p := ⟨gb209, 0, none⟩) (Kd.zw HO217.out BK209.out (by decide)) (fun _ hk => hk.2) (.int .i64 t213)) (fun _ hk => hk.2) (.int .i64 t214)) (fun _ hk => hk.2) (.slice Ao60 t215.length co60)) (fun _ hk => trivial), be3_ HB GE207 GE208 GE209⟩
  ·replace c6 := Bool.eq_false_iff.mpr c6
   subst c6
   have H1 : (some (0, 0, ([] : List (S58)), false)) = some (r1, r2, r3, r4) := by rw [if_neg (show ¬ (false = true) by decide)] at H; exact H
   clear H
   have H := H1
   clear H1
   simp only [Option.some.injEq, Prod.mk.injEq] at H
   obtain ⟨rfl, rfl, rfl, rfl⟩ := H
   go_enter Try.func35, Try.ntmps35
   go_wp2_with (first | ((with_reducible refine qz (N := 2) rfl ?_); (try (refine zt (by rfl) ?_; dsimp only)); refine qx ?hg (N := 2) ?hd (cs := #[.int .i64 a0_0, .int .i64 a0_1, .slice A0_2 l0_2.length c0_2]) (t := 31) ?hr ?_; (case hd => rfl); (case hg => rfl); (case hr => first | (go_simp; done) | (go_simp; rfl)); intro gb207 hg w61 hbox hb; have n0_ := qb.mk (qp (be0_ HB) hb); have n1_ := qb.mk (hbox); have n2_ := qb.mk ((by rw [hg]; exact (qm (be0_ HB)) : w.heap.size ≤ gb207)); have n3_ := qb.mk ((by rw [hg]; exact (qm (be0_ HB)) : w.heap.size ≤ gb207)); clear HB; have HB := n0_; have BK207 := n1_; have GW207 := n2_; have GE207 := n3_; clear n0_ n1_ n2_ n3_; clear hb hbox hg) | ((with_reducible refine qz (N := 3) rfl ?_); (try (refine zt (by rfl) ?_; dsimp only)); refine qx ?hg (N := 3) ?hd (cs := #[.int .i64 a1_0, .int .i64 a1_1, .bool a1_2]) (t := 58) ?hr ?_; (case hd => rfl); (case hg => rfl); (case hr => first | (go_simp; done) | (go_simp; rfl)); intro gb208 hg w62 hbox hb; have n0_ := qb.mk (qk (g := gb207) (o := .cells #[.int .i64 a0_0, .int .i64 a0_1, .slice A0_2 l0_2.length c0_2] 31 (0, 0)) (bk_ BK207) hb); have n1_ := qb.mk (qp (be1_ HB GE207) hb); have n2_ := qb.mk (hbox); have n3_ := qb.mk ((by rw [hg]; exact (qm (be1_ HB GE207)) : w.heap.size ≤ gb208)); have n4_ := qb.mk ((by rw [hg]; exact (qm (be1_ HB GE207)) : w.heap.size ≤ gb208)); have n5_ := qb.mk ((by rw [hg]; exact Nat.ne_of_lt (qw (g := gb207) (o := .cells #[.int .i64 a0_0, .int .i64 a0_1, .slice A0_2 l0_2.length c0_2] 31 (0, 0)) (bk_ BK207)) : gb207 ≠ gb208)); have n6_ := qb.mk ((by rw [hg]; exact Nat.ne_of_gt (qw (g := gb207) (o := .cells #[.int .i64 a0_0, .int .i64 a0_1, .slice A0_2 l0_2.length c0_2] 31 (0, 0)) (bk_ BK207)) : gb208 ≠ gb207)); clear BK207; clear HB; have BK207 := n0_; have HB := n1_; have BK208 := n2_; have GW208 := n3_; have GE208 := n4_; have NB207_208 := n5_; have NB208_207 := n6_; clear n0_ n1_ n2_ n3_ n4_ n5_ n6_; clear hb hbox hg) | ((with_reducible refine qz (N := 4) rfl ?_); (try (refine zt (by rfl) ?_; dsimp only)); refine qx ?hg (N := 4) ?hd (cs := #[.int .i64 0, .int .i64 0, .slice none 0 0]) (t := 31) ?hr ?_; (case hd => rfl); (case hg => rfl); (case hr => first | (go_simp; done) | (go_simp; rfl)); intro gb209 hg w63 hbox hb; have n0_ := qb.mk (qk (g := gb207) (o := .cells #[.int .i64 a0_0, .int .i64 a0_1, .slice A0_2 l0_2.length c0_2] 31 (0, 0)) (bk_ BK207) hb); have n1_ := qb.mk (qk (g := gb208) (o := .cells #[.int .i64 a1_0, .int .i64 a1_1, .bool a1_2] 58 (0, 0)) (bk_ BK208) hb); have n2_ := qb.mk (qp (be2_ HB GE207 GE208) hb); have n3_ := qb.mk (hbox); have n4_ := qb.mk ((by rw [hg]; exact (qm (be2_ HB GE207 GE208)) : w.heap.size ≤ gb209)); have n5_ := qb.mk ((by rw [hg]; exact (qm (be2_ HB GE207 GE208)) : w.heap.size ≤ gb209)); have n6_ := qb.mk ((by rw [hg]; exact Nat.ne_of_lt (qw (g := gb207) (o := .cells #[.int .i64 a0_0, .int .i64 a0_1, .slice A0_2 l0_2.length c0_2] 31 (0, 0)) (bk_ BK207)) : gb207 ≠ gb209)); have n7_ := qb.mk ((by rw [hg]; exact Nat.ne_of_gt (qw (g := gb207) (o := .cells #[.int .i64 a0_0, .int .i64 a0_1, .slice A0_2 l0_2.length c0_2] 31 (0, 0)) (bk_ BK207)) : gb209 ≠ gb207)); have n8_ := qb.mk ((by rw [hg]; exact Nat.ne_of_lt (qw (g := gb208) (o := .cells #[.int .i64 a1_0, .int .i64 a1_1, .bool a1_2] 58 (0, 0)) (bk_ BK208)) : gb208 ≠ gb209)); have n9_ := qb.mk ((by rw [hg]; exact Nat.ne_of_gt (qw (g := gb208) (o := .cells #[.int .i64 a1_0, .int .i64 a1_1, .bool a1_2] 58 (0, 0)) (bk_ BK208)) : gb209 ≠ gb208)); clear BK207; clear BK208; clear HB; have BK207 := n0_; have BK208 := n1_; have HB := n2_; have BK209 := n3_; have GW209 := n4_; have GE209 := n5_; have NB207_209 := n6_; have NB209_207 := n7_; have NB208_209 := n8_; have NB209_208 := n9_; clear n0_ n1_ n2_ n3_ n4_ n5_ n6_ n7_ n8_ n9_; clear hb hbox hg; have hnb64 := NB207_208.out; have hnc64 := NB208_207.out; have hnb65 := NB207_209.out; have hnc65 := NB209_207.out; have hcz66_0 : w63.cell? ⟨gb207, 0, none⟩ = some (.int .i64 a0_0) := (qf BK207.out 0).trans rfl; have hcz66_1 : w63.cell? ⟨gb207, 1, none⟩ = some (.int .i64 a0_1) := (qf BK207.out 1).trans rfl; have hcz66_2 : w63.cell? ⟨gb207, 2, none⟩ = some (.slice A0_2 l0_2.length c0_2) := (qf BK207.out 2).trans rfl; have hfz66_0 := qj BK207.out 0; have hfz66_1 := qj BK207.out 1; have hfz66_2 := qj BK207.out 2) | ((with_reducible refine zd (f := 58) rfl ?_); refine zn (some 7) rfl rfl Try.func58 (by kernel_rfl) rfl #[.agg #[.int .i64 a0_0, .int .i64 a0_1, .slice A0_2 l0_2.length c0_2]] rfl (by (try simp only [List.map_toArray, List.map_cons, List.map_nil]); first | done | rfl | (simp only [List.length_drop, List.length_take]; rfl)) ?_; (with_reducible refine (spec_avGood.calls k a0_0 a0_1 _ _ l0_2 true _ ?side1 ?side2 A3.out).mono ?_); (case side1 => repeat (first | exact (Kd.zi HR0_2.out HB.out) | (with_reducible refine Kd.zg ?_ _) | (with_reducible refine Kd.zh ?_ _) | (with_reducible refine Kd.zk ?_))); (case side2 => exact HC0_2.out); rintro e w67 ⟨rfl, hb⟩; refine ⟨_, rfl, ?_⟩; have n0_ := qb.mk (qk (g := gb207) (o := .cells #[.int .i64 a0_0, .int .i64 a0_1, .slice A0_2 l0_2.length c0_2] 31 (0, 0)) (bk_ BK207) hb); have n1_ := qb.mk (qk (g := gb208) (o := .cells #[.int .i64 a1_0, .int .i64 a1_1, .bool a1_2] 58 (0, 0)) (bk_ BK208) hb); have n2_ := qb.mk (qk (g := gb209) (o := .cells #[.int .i64 0, .int .i64 0, .slice none 0 0] 31 (0, 0)) (bk_ BK209) hb); have n3_ := qb.mk (qp (be3_ HB GE207 GE208 GE209) hb); clear BK207; clear BK208; clear BK209; clear HB; have BK207 := n0_; have BK208 := n1_; have BK209 := n2_; have HB := n3_; clear n0_ n1_ n2_ n3_; (try clear hb); (try clear hb2); (try clear hk); (try clear hi); have hcz68_0 : w67.cell? ⟨gb207, 0, none⟩ = some (.int .i64 a0_0) := (qf BK207.out 0).trans rfl; have hcz68_1 : w67.cell? ⟨gb207, 1, none⟩ = some (.int .i64 a0_1) := (qf BK207.out 1).trans rfl; have hcz68_2 : w67.cell? ⟨gb207, 2, none⟩ = some (.slice A0_2 l0_2.length c0_2) := (qf BK207.out 2).trans rfl; have hfz68_0 := qj BK207.out 0; have hfz68_1 := qj BK207.out 1; have hfz68_2 := qj BK207.out 2; have hnb69 := NB208_209.out; have hnc69 := NB209_208.out; have hcz70_0 : w67.cell? ⟨gb208, 0, none⟩ = some (.int .i64 a1_0) := (qf BK208.out 0).trans rfl; have hcz70_1 : w67.cell? ⟨gb208, 1, none⟩ = some (.int .i64 a1_1) := (qf BK208.out 1).trans rfl; have hcz70_2 : w67.cell? ⟨gb208, 2, none⟩ = some (.bool a1_2) := (qf BK208.out 2).trans rfl; have hfz70_0 := qj BK208.out 0; have hfz70_1 := qj BK208.out 1; have hfz70_2 := qj BK208.out 2) | (go_at_call 50; (with_reducible refine (spec_avIs.calls k a0_0 a0_1 a1_0 a1_1 a1_2 false _ A5.out).mono ?_); rintro e w71 ⟨rfl, hb⟩; have n0_ := qb.mk (qk (g := gb207) (o := .cells #[.int .i64 a0_0, .int .i64 a0_1, .slice A0_2 l0_2.length c0_2] 31 (0, 0)) (bk_ BK207) hb); have n1_ := qb.mk (qk (g := gb208) (o := .cells #[.int .i64 a1_0, .int .i64 a1_1, .bool a1_2] 58 (0, 0)) (bk_ BK208) hb); have n2_ := qb.mk (qk (g := gb209) (o := .cells #[.int .i64 0, .int .i64 0, .slice none 0 0] 31 (0, 0)) (bk_ BK209) hb); have n3_ := qb.mk (qp (be3_ HB GE207 GE208 GE209) hb); clear BK207; clear BK208; clear BK209; clear HB; have BK207 := n0_; have BK208 := n1_; have BK209 := n2_; have HB := n3_; clear n0_ n1_ n2_ n3_; (try clear hb); (try clear hb2); (try clear hk); (try clear hi); have hcz72_0 : w71.cell? ⟨gb209, 0, none⟩ = some (.int .i64 0) := (qf BK209.out 0).trans rfl; have hcz72_1 : w71.cell? ⟨gb209, 1, none⟩ = some (.int .i64 0) := (qf BK209.out 1).trans rfl; have hcz72_2 : w71.cell? ⟨gb209, 2, none⟩ = some (.slice none 0 0) := (qf BK209.out 2).trans rfl; have hfz72_0 := qj BK209.out 0; have hfz72_1 := qj BK209.out 1; have hfz72_2 := qj BK209.out 2))
   refine bodyPost_ret (results_ct rfl _ _ gb209 31 #[.int .i64 0, .int .i64 0, .slice none 0 0] (0, 0) _ rfl (by (with_reducible repeat (first | refine qd ?_ _ | refine qg ?_ | refine qc ?_ _)); refine zf (cs := #[.int .i64 0, .int .i64 0, .slice none 0 0]) ?_ 2 _ rfl; (with_reducible repeat (first | refine qd ?_ _ | refine qg ?_ | refine qc ?_ _)); refine zf (cs := #[.int .i64 0, .int .i64 0, .slice none 0 0]) ?_ 1 _ rfl; (with_reducible repeat (first | refine qd ?_ _ | refine qg ?_ | refine qc ?_ _)); refine zf (cs := #[.int .i64 0, .int .i64 0, .slice none 0 0]) ?_ 0 _ rfl; (with_reducible repeat (first | refine qd ?_ _ | refine qg ?_ | refine qc ?_ _)); exact BK209.out) Try.underlying31 rfl (by kernel_rfl)) rfl ?_
   exact ⟨_, by first | rfl | (simp [qv, qu] <;> rfl) | (simp [*, qv, qu] <;> rfl), by first | exact Kd.R_nil _ _ _ _ _ | exact Kd.N_nil _ _ _ _ _ | exact Kd.V_nil _ _ _ _ _ | exact Kd.Q_nil _ _ _ _ _ | exact Kd.S_nil _ _ _ _ _, be3_ HB GE207 GE208 GE209⟩
 ·replace c4 := Bool.eq_false_iff.mpr c4
  subst c4
  have H1 : (some (0, 0, ([] : List (S58)), false)) = some (r1, r2, r3, r4) := by rw [if_neg (show ¬ (false = true) by decide)] at H; exact H
  clear H
  have H := H1
  clear H1
  simp only [Option.some.injEq, Prod.mk.injEq] at H
  obtain ⟨rfl, rfl, rfl, rfl⟩ := H
  go_enter Try.func35, Try.ntmps35
  go_wp2_with (first | ((with_reducible refine qz (N := 2) rfl ?_); (try (refine zt (by rfl) ?_; dsimp only)); refine qx ?hg (N := 2) ?hd (cs := #[.int .i64 a0_0, .int .i64 a0_1, .slice A0_2 l0_2.length c0_2]) (t := 31) ?hr ?_; (case hd => rfl); (case hg => rfl); (case hr => first | (go_simp; done) | (go_simp; rfl)); intro gb207 hg w73 hbox hb; have n0_ := qb.mk (qp (be0_ HB) hb); have n1_ := qb.mk (hbox); have n2_ := qb.mk ((by rw [hg]; exact (qm (be0_ HB)) : w.heap.size ≤ gb207)); have n3_ := qb.mk ((by rw [hg]; exact (qm (be0_ HB)) : w.heap.size ≤ gb207)); clear HB; have HB := n0_; have BK207 := n1_; have GW207 := n2_; have GE207 := n3_; clear n0_ n1_ n2_ n3_; clear hb hbox hg) | ((with_reducible refine qz (N := 3) rfl ?_); (try (refine zt (by rfl) ?_; dsimp only)); refine qx ?hg (N := 3) ?hd (cs := #[.int .i64 a1_0, .int .i64 a1_1, .bool a1_2]) (t := 58) ?hr ?_; (case hd => rfl); (case hg => rfl); (case hr => first | (go_simp; done) | (go_simp; rfl)); intro gb208 hg w74 hbox hb; have n0_ := qb.mk (qk (g := gb207) (o := .cells #[.int .i64 a0_0, .int .i64 a0_1, .slice A0_2 l0_2.length c0_2] 31 (0, 0)) (bk_ BK207) hb); have n1_ := qb.mk (qp (be1_ HB GE207) hb); have n2_ := qb.mk (hbox); have n3_ := qb.mk ((by rw [hg]; exact (qm (be1_ HB GE207)) : w.heap.size ≤ gb208)); have n4_ := qb.mk ((by rw [hg]; exact (qm (be1_ HB GE207)) : w.heap.size ≤ gb208)); have n5_ := qb.mk ((by rw [hg]; exact Nat.ne_of_lt (qw (g := gb207) (o := .cells #[.int .i64 a0_0, .int .i64 a0_1, .slice A0_2 l0_2.length c0_2] 31 (0, 0)) (bk_ BK207)) : gb207 ≠ gb208)); have n6_ := qb.mk ((by rw [hg]; exact Nat.ne_of_gt (qw (g := gb207) (o := .cells #[.int .i64 a0_0, .int .i64 a0_1, .slice A0_2 l0_2.length c0_2] 31 (0, 0)) (bk_ BK207)) : gb208 ≠ gb207)); clear BK207; clear HB; have BK207 := n0_; have HB := n1_; have BK208 := n2_; have GW208 := n3_; have GE208 := n4_; have NB207_208 := n5_; have NB208_207 := n6_; clear n0_ n1_ n2_ n3_ n4_ n5_ n6_; clear hb hbox hg) | ((with_reducible refine qz (N := 4) rfl ?_); (try (refine zt (by rfl) ?_; dsimp only)); refine qx ?hg (N := 4) ?hd (cs := #[.int .i64 0, .int .i64 0, .slice none 0 0]) (t := 31) ?hr ?_; (case hd => rfl); (case hg => rfl); (case hr => first | (go_simp; done) | (go_simp; rfl)); intro gb209 hg w75 hbox hb; have n0_ := qb.mk (qk (g := gb207) (o := .cells #[.int .i64 a0_0, .int .i64 a0_1, .slice A0_2 l0_2.length c0_2] 31 (0, 0)) (bk_ BK207) hb); have n1_ := qb.mk (qk (g := gb208) (o := .cells #[.int .i64 a1_0, .int .i64 a1_1, .bool a1_2] 58 (0, 0)) (bk_ BK208) hb); have n2_ := qb.mk (qp (be2_ HB GE207 GE208) hb); have n3_ := qb.mk (hbox); have n4_ := qb.mk ((by rw [hg]; exact (qm (be2_ HB GE207 GE208)) : w.heap.size ≤ gb209)); have n5_ := qb.mk ((by rw [hg]; exact (qm (be2_ HB GE207 GE208)) : w.heap.size ≤ gb209)); have n6_ := qb.mk ((by rw [hg]; exact Nat.ne_of_lt (qw (g := gb207) (o := .cells #[.int .i64 a0_0, .int .i64 a0_1, .slice A0_2 l0_2.length c0_2] 31 (0, 0)) (bk_ BK207)) : gb207 ≠ gb209)); have n7_ := qb.mk ((by rw [hg]; exact Nat.ne_of_gt (qw (g := gb207) (o := .cells #[.int .i64 a0_0, .int .i64 a0_1, .slice A0_2 l0_2.length c0_2] 31 (0, 0)) (bk_ BK207)) : gb209 ≠ gb207)); have n8_ := qb.mk ((by rw [hg]; exact Nat.ne_of_lt (qw (g := gb208) (o := .cells #[.int .i64 a1_0, .int .i64 a1_1, .bool a1_2] 58 (0, 0)) (bk_ BK208)) : gb208 ≠ gb209)); have n9_ := qb.mk ((by rw [hg]; exact Nat.ne_of_gt (qw (g := gb208) (o := .cells #[.int .i64 a1_0, .int .i64 a1_1, .bool a1_2] 58 (0, 0)) (bk_ BK208)) : gb209 ≠ gb208)); clear BK207; clear BK208; clear HB; have BK207 := n0_; have BK208 := n1_; have HB := n2_; have BK209 := n3_; have GW209 := n4_; have GE209 := n5_; have NB207_209 := n6_; have NB209_207 := n7_; have NB208_209 := n8_; have NB209_208 := n9_; clear n0_ n1_ n2_ n3_ n4_ n5_ n6_ n7_ n8_ n9_; clear hb hbox hg; have hnb76 := NB207_208.out; have hnc76 := NB208_207.out; have hnb77 := NB207_209.out; have hnc77 := NB209_207.out; have hcz78_0 : w75.cell? ⟨gb207, 0, none⟩ = some (.int .i64 a0_0) := (qf BK207.out 0).trans rfl; have hcz78_1 : w75.cell? ⟨gb207, 1, none⟩ = some (.int .i64 a0_1) := (qf BK207.out 1).trans rfl; have hcz78_2 : w75.cell? ⟨gb207, 2, none⟩ = some (.slice A0_2 l0_2.length c0_2) := (qf BK207.out 2).trans rfl; have hfz78_0 := qj BK207.out 0; have hfz78_1 := qj BK207.out 1; have hfz78_2 := qj BK207.out 2) | ((with_reducible refine zd (f := 58) rfl ?_); refine zn (some 7) rfl rfl Try.func58 (by kernel_rfl) rfl #[.agg #[.int .i64 a0_0, .int .i64 a0_1, .slice A0_2 l0_2.length c0_2]] rfl (by (try simp only [List.map_toArray, List.map_cons, List.map_nil]); first | done | rfl | (simp only [List.length_drop, List.length_take]; rfl)) ?_; (with_reducible refine (spec_avGood.calls k a0_0 a0_1 _ _ l0_2 false _ ?side1 ?side2 A3.out).mono ?_); (case side1 => repeat (first | exact (Kd.zi HR0_2.out HB.out) | (with_reducible refine Kd.zg ?_ _) | (with_reducible refine Kd.zh ?_ _) | (with_reducible refine Kd.zk ?_))); (case side2 => exact HC0_2.out); rintro e w79 ⟨rfl, hb⟩; refine ⟨_, rfl, ?_⟩; have n0_ := qb.mk (qk (g := gb207) (o := .cells #[.int .i64 a0_0, .int .i64 a0_1, .slice A0_2 l0_2.length c0_2] 31 (0, 0)) (bk_ BK207) hb); have n1_ := qb.mk (qk (g := gb208) (o := .cells #[.int .i64 a1_0, .int .i64 a1_1, .bool a1_2] 58 (0, 0)) (bk_ BK208) hb); have n2_ := qb.mk (qk (g := gb209) (o := .cells #[.int .i64 0, .int .i64 0, .slice none 0 0] 31 (0, 0)) (bk_ BK209) hb); have n3_ := qb.mk (qp (be3_ HB GE207 GE208 GE209) hb); clear BK207; clear BK208; clear BK209; clear HB; have BK207 := n0_; have BK208 := n1_; have BK209 := n2_; have HB := n3_; clear n0_ n1_ n2_ n3_; (try clear hb); (try clear hb2); (try clear hk); (try clear hi); have hnb80 := NB209_208.out; have hnc80 := NB208_209.out; have hcz81_0 : w79.cell? ⟨gb209, 0, none⟩ = some (.int .i64 0) := (qf BK209.out 0).trans rfl; have hcz81_1 : w79.cell? ⟨gb209, 1, none⟩ = some (.int .i64 0) := (qf BK209.out 1).trans rfl; have hcz81_2 : w79.cell? ⟨gb209, 2, none⟩ = some (.slice none 0 0) := (qf BK209.out 2).trans rfl; have hfz81_0 := qj BK209.out 0; have hfz81_1 := qj BK209.out 1; have hfz81_2 := qj BK209.out 2))
  refine bodyPost_ret (results_ct rfl _ _ gb209 31 #[.int .i64 0, .int .i64 0, .slice none 0 0] (0, 0) _ rfl (by (with_reducible repeat (first | refine qd ?_ _ | refine qg ?_ | refine qc ?_ _)); refine zf (cs := #[.int .i64 0, .int .i64 0, .slice none 0 0]) ?_ 2 _ rfl; (with_reducible repeat (first | refine qd ?_ _ | refine qg ?_ | refine qc ?_ _)); refine zf (cs := #[.int .i64 0, .int .i64 0, .slice none 0 0]) ?_ 1 _ rfl; (with_reducible repeat (first | refine qd ?_ _ | refine qg ?_ | refine qc ?_ _)); refine zf (cs := #[.int .i64 0, .int .i64 0, .slice none 0 0]) ?_ 0 _ rfl; (with_reducible repeat (first | refine qd ?_ _ | refine qg ?_ | refine qc ?_ _)); exact BK209.out) Try.underlying31 rfl (by kernel_rfl)) rfl ?_
  exact ⟨_, by first | rfl | (simp [qv, qu] <;> rfl) | (simp [*, qv, qu] <;> rfl), by first | exact Kd.R_nil _ _ _ _ _ | exact Kd.N_nil _ _ _ _ _ | exact Kd.V_nil _ _ _ _ _ | exact Kd.Q_nil _ _ _ _ _ | exact Kd.S_nil _ _ _ _ _, be3_ HB GE207 GE208 GE209⟩
def impl_Block_83.l0 : Nat → List (S58) → Int → Int → Int → Int → Bool → Option (Int)
 | 0, _, _, _, _, _, _ => none
 | k + 1, x0, x7, x8, x219000, x219001, x219002 => if x8 < x7 then (if 0 ≤ x8 then (if x8 < (x0.length : Int) then (if (x219000 == ((ql x0 x8).f0) && (x219001 == ((ql x0 x8).f1) && (x219002 == ((ql x0 x8).f2)))) = true then (some x8) else (impl_Block_83.l0 k x0 x7 (wrap64 (x8 + 1)) x219000 x219001 x219002)) else (none)) else (none)) else (some (-1))
def impl_Block_83.f (k : Nat) (l0 : List (S58)) (a1_0 : Int) (a1_1 : Int) (a1_2 : Bool) : Option (Int) := impl_Block_83.l0 k l0 (l0.length : Int) 0 a1_0 a1_1 a1_2
theorem impl_Block_83.zz : ∀ k, (∀ y0 y1 y2 y3 y4 y5, LeO (impl_Block_83.l0 k y0 y1 y2 y3 y4 y5) (impl_Block_83.l0 (k + 1) y0 y1 y2 y3 y4 y5))
 | 0 => fun _ _ _ _ _ _ r h => by simp [impl_Block_83.l0] at h
 | k + 1 => by
  have ih0 := impl_Block_83.zz k
  ·intro y0 y1 y2 y3 y4 y5
   unfold impl_Block_83.l0
   repeat' first
   | (with_reducible exact ih0 _ _ _ _ _ _)
   | (with_reducible exact LeO.refl _)
   | (with_reducible exact LeO.none _)
   | (with_reducible refine LeO.ite ?_ ?_)
   | (with_reducible refine LeO.bind ?_ (fun _ => ?_))
   | exact ih0 _ _ _ _ _ _
   | exact LeO.none _
   | refine LeO.ite ?_ ?_
   | refine LeO.bind ?_ (fun _ => ?_)
theorem impl_Block_83.mono : ∀ a0 a1 a2 a3 k, LeO (impl_Block_83.f k a0 a1 a2 a3) (impl_Block_83.f (k + 1) a0 a1 a2 a3) := by
 intro a0 a1 a2 a3 k
 have ih0 := impl_Block_83.zz k
 unfold impl_Block_83.f
 repeat' first
   | (with_reducible exact ih0 _ _ _ _ _ _)
   | (with_reducible exact LeO.refl _)
   | (with_reducible exact LeO.none _)
   | (with_reducible refine LeO.ite ?_ ?_)
   | (with_reducible refine LeO.bind ?_ (fun _ => ?_))
   | exact ih0 _ _ _ _ _ _
   | exact LeO.none _
   | refine LeO.ite ?_ ?_
   | refine LeO.bind ?_ (fun _ => ?_)
set_option maxHeartbeats 8000000 in
set_option maxRecDepth 100000 in
theorem impl_Block_83.calls (k : Nat) (A0 : Option Addr) (c0 : Nat) (l0 : List (S58)) (a1_0 : Int) (a1_1 : Int) (a1_2 : Bool) (r : Int) (w : World) (hr0 : Kd.C k58 w A0 l0.length l0) (hc0 : l0.length ≤ c0) (h : impl_Block_83.f k l0 a1_0 a1_1 a1_2 = some r) :
  Calls Try.prog 83 #[.slice A0 l0.length c0, .agg #[.int .i64 a1_0, .int .i64 a1_1, .bool a1_2]] w fun e w' => e = .returned (.int .i64 r) ∧ Below w.heap.size w w' := by
 have hu58 := Try.underlying58
 have HR0 := qb.mk hr0
 have HC0 := qb.mk hc0
 clear hr0 hc0
 have HB := qb.mk (Below.refl w.heap.size w)
 have H : (impl_Block_83.l0 k l0 (l0.length : Int) 0 a1_0 a1_1 a1_2) = some r := h
 clear h
 have H' := qb.mk H
 clear H
 go_enter Try.func83, Try.ntmps83
 go_wp2_with (first | ((with_reducible refine qz (N := 3) rfl ?_); refine qx ?hg (N := 3) ?hd (cs := #[.int .i64 a1_0, .int .i64 a1_1, .bool a1_2]) (t := 58) ?hr ?_; (case hd => rfl); (case hg => rfl); (case hr => first | (go_simp; done) | (go_simp; rfl)); intro gb218 hg w3 hbox hb; have n0_ := qb.mk (qp (be0_ HB) hb); have n1_ := qb.mk (hbox); have n2_ := qb.mk ((by rw [hg]; exact (qm (be0_ HB)) : w.heap.size ≤ gb218)); have n3_ := qb.mk ((by rw [hg]; exact (qm (be0_ HB)) : w.heap.size ≤ gb218)); clear HB; have HB := n0_; have BK218 := n1_; have GW218 := n2_; have GE218 := n3_; clear n0_ n1_ n2_ n3_; clear hb hbox hg))
 repeat (go_quiet (first | ((with_reducible refine qz (N := 3) rfl ?_); refine qx ?hg (N := 3) ?hd (cs := #[.int .i64 a1_0, .int .i64 a1_1, .bool a1_2]) (t := 58) ?hr ?_; (case hd => rfl); (case hg => rfl); (case hr => first | (go_simp; done) | (go_simp; rfl)); intro gb218 hg w3 hbox hb; have n0_ := qb.mk (qp (be0_ HB) hb); have n1_ := qb.mk (hbox); have n2_ := qb.mk ((by rw [hg]; exact (qm (be0_ HB)) : w.heap.size ≤ gb218)); have n3_ := qb.mk ((by rw [hg]; exact (qm (be0_ HB)) : w.heap.size ≤ gb218)); clear HB; have HB := n0_; have BK218 := n1_; have GW218 := n2_; have GE218 := n3_; clear n0_ n1_ n2_ n3_; clear hb hbox hg)); try go_wp2_with (first | ((with_reducible refine qz (N := 3) rfl ?_); refine qx ?hg (N := 3) ?hd (cs := #[.int .i64 a1_0, .int .i64 a1_1, .bool a1_2]) (t := 58) ?hr ?_; (case hd => rfl); (case hg => rfl); (case hr => first | (go_simp; done) | (go_simp; rfl)); intro gb218 hg w3 hbox hb; have n0_ := qb.mk (qp (be0_ HB) hb); have n1_ := qb.mk (hbox); have n2_ := qb.mk ((by rw [hg]; exact (qm (be0_ HB)) : w.heap.size ≤ gb218)); have n3_ := qb.mk ((by rw [hg]; exact (qm (be0_ HB)) : w.heap.size ≤ gb218)); clear HB; have HB := n0_; have BK218 := n1_; have GW218 := n2_; have GE218 := n3_; clear n0_ n1_ n2_ n3_; clear hb hbox hg)))
 go_loopg [8] k (fun kq v8 w' => ∃ (x8_1 : Int), v8 = .int .i64 x8_1 ∧ qb (impl_Block_83.l0 kq l0 (l0.length : Int) x8_1 a1_0 a1_1 a1_2 = some r) ∧ qb (kq ≤ k) ∧ qb (w'.heap[gb218]? = some (.cells #[.int .i64 a1_0, .int .i64 a1_1, .bool a1_2] 58 (0, 0))) ∧ qb (Below w.heap.size w w'))
 case atStart => exact ⟨(0), (by first | rfl | (simp; done) | (simp [*]; done)), H', ⟨Nat.le_refl _⟩, ⟨bk_ BK218⟩, ⟨be1_ HB GE218⟩⟩
 case round =>
  clear H'
  obtain ⟨x8_1, rfl, HA, HK1, BK218, HB⟩ := hrel
  cases gk with
  | zero => exact absurd HA.out (by simp [impl_Block_83.l0])
  | succ k1 =>
   have H := HA.out
   clear HA
   simp only [impl_Block_83.l0] at H
   by_cases c4 : x8_1 < (l0.length : Int)
   ·rw [if_pos c4] at H
    have c4b0 : decide (x8_1 < (l0.length : Int)) = true := decide_eq_true c4
    clear c4
    by_cases c5 : 0 ≤ x8_1
    ·rw [if_pos c5] at H
     have c5b0 : decide (0 ≤ x8_1) = true := decide_eq_true c5
     clear c5
     by_cases c6 : x8_1 < (l0.length : Int)
     ·rw [if_pos c6] at H
      have c6b0 : decide (x8_1 < (l0.length : Int)) = true := decide_eq_true c6
      clear c6
      by_cases c7 : (a1_0 == ((ql l0 x8_1).f0) && (a1_1 == ((ql l0 x8_1).f1) && (a1_2 == ((ql l0 x8_1).f2)))) = true
      ·rw [if_pos c7] at H
       have c7b0 : (a1_0 == ((ql l0 x8_1).f0) && (a1_1 == ((ql l0 x8_1).f1) && (a1_2 == ((ql l0 x8_1).f2)))) = true := c7
       (try (have c7b1 : decide (a1_0 = ((ql l0 x8_1).f0) && (a1_1 == ((ql l0 x8_1).f1) && (a1_2 == ((ql l0 x8_1).f2)))) = true := by simpa using c7))
       (try (have c7b2 : (a1_0 == ((ql l0 x8_1).f0) && (a1_1 == ((ql l0 x8_1).f1) && (a1_2 == ((ql l0 x8_1).f2)))) = true := by simpa using c7))
       clear c7
       obtain rfl := Option.some.inj H
       have hcz8_0 : wr.cell? ⟨gb218, 0, none⟩ = some (.int .i64 a1_0) := (qf BK218.out 0).trans rfl
       have hcz8_1 : wr.cell? ⟨gb218, 1, none⟩ = some (.int .i64 a1_1) := (qf BK218.out 1).trans rfl
       have hcz8_2 : wr.cell? ⟨gb218, 2, none⟩ = some (.bool a1_2) := (qf BK218.out 2).trans rfl
       have hfz8_0 := qj BK218.out 0
       have hfz8_1 := qj BK218.out 1
       have hfz8_2 := qj BK218.out 2
       have p219 : 0 ≤ (x8_1 : Int) := of_decide_eq_true (by first | (with_reducible assumption) | assumption)
       have q219 : x8_1 < (l0.length : Int) := of_decide_eq_true (by first | (with_reducible assumption) | assumption)
       obtain ⟨ad219, e219, hx219_0, hx219_1, hx219_2⟩ := ja HR0.out x8_1 p219 q219
       cases e219
       replace hx219_0 := (HB.out.cell (World.block_lt_of_cell? w _ hx219_0)).trans hx219_0
       replace hx219_1 := (HB.out.cell (World.block_lt_of_cell? w _ hx219_1)).trans hx219_1
       replace hx219_2 := (HB.out.cell (World.block_lt_of_cell? w _ hx219_2)).trans hx219_2
       replace p219 := eq_true p219
       replace q219 := eq_true q219
       go_wp2
       repeat (go_quiet (fail); try go_wp2)
       go_ret
       exact ⟨by first | rfl | (simp [qv, qu] <;> rfl) | (simp [*, qv, qu] <;> rfl), be1_ HB GE218⟩
      ·rw [if_neg c7] at H
       have c7b0 : (a1_0 == ((ql l0 x8_1).f0) && (a1_1 == ((ql l0 x8_1).f1) && (a1_2 == ((ql l0 x8_1).f2)))) = false := by simpa using c7
       (try (have c7b1 : decide (a1_0 = ((ql l0 x8_1).f0) && (a1_1 == ((ql l0 x8_1).f1) && (a1_2 == ((ql l0 x8_1).f2)))) = false := by simpa using c7))
       (try (have c7b2 : (a1_0 == ((ql l0 x8_1).f0) && (a1_1 == ((ql l0 x8_1).f1) && (a1_2 == ((ql l0 x8_1).f2)))) = false := by simpa using c7))
       (try (have c7b3 : ¬ (a1_0 = ((ql l0 x8_1).f0) && (a1_1 == ((ql l0 x8_1).f1) && (a1_2 == ((ql l0 x8_1).f2)))) := by simpa using c7))
       clear c7
       have H' := qb.mk H
       clear H
       have hcz9_0 : wr.cell? ⟨gb218, 0, none⟩ = some (.int .i64 a1_0) := (qf BK218.out 0).trans rfl
       have hcz9_1 : wr.cell? ⟨gb218, 1, none⟩ = some (.int .i64 a1_1) := (qf BK218.out 1).trans rfl
       have hcz9_2 : wr.cell? ⟨gb218, 2, none⟩ = some (.bool a1_2) := (qf BK218.out 2).trans rfl
       have hfz9_0 := qj BK218.out 0
       have hfz9_1 := qj BK218.out 1
       have hfz9_2 := qj BK218.out 2
       have p219 : 0 ≤ (x8_1 : Int) := of_decide_eq_true (by first | (with_reducible assumption) | assumption)
       have q219 : x8_1 < (l0.length : Int) := of_decide_eq_true (by first | (with_reducible assumption) | assumption)
       obtain ⟨ad219, e219, hx219_0, hx219_1, hx219_2⟩ := ja HR0.out x8_1 p219 q219
       cases e219
       replace hx219_0 := (HB.out.cell (World.block_lt_of_cell? w _ hx219_0)).trans hx219_0
       replace hx219_1 := (HB.out.cell (World.block_lt_of_cell? w _ hx219_1)).trans hx219_1
       replace hx219_2 := (HB.out.cell (World.block_lt_of_cell? w _ hx219_2)).trans hx219_2
       replace p219 := eq_true p219
       replace q219 := eq_true q219
       go_wp2
       repeat (go_quiet (fail); try go_wp2)
       go_roundg k1
       case measure => have := HK1.out; omega
       case rel => exact ⟨(wrap64 (x8_1 + 1)), (by first | rfl | (simp; done) | (simp [*]; done)), H', ⟨by have := HK1.out; omega⟩, ⟨bk_ BK218⟩, ⟨be1_ HB GE218⟩⟩
     ·rw [if_neg c6] at H
      exact absurd H (by simp)
    ·rw [if_neg c5] at H
     exact absurd H (by simp)
   ·rw [if_neg c4] at H
    have c4b0 : decide (x8_1 < (l0.length : Int)) = false := decide_eq_false c4
    clear c4
    obtain rfl := Option.some.inj H
    go_wp2
    repeat (go_quiet (fail); try go_wp2)
    go_ret
    exact ⟨by first | rfl | (simp [qv, qu] <;> rfl) | (simp [*, qv, qu] <;> rfl), be1_ HB GE218⟩
def impl_Block_76.f (k : Nat) (l0 : List (S58)) (a1_0 : Int) (a1_1 : Int) (a1_2 : Bool) : Option (Bool) := (impl_Block_83.f k l0 a1_0 a1_1 a1_2).bind fun t221 => (some (decide (t221 ≥ 0)))
theorem impl_Block_76.mono : ∀ a0 a1 a2 a3 k, LeO (impl_Block_76.f k a0 a1 a2 a3) (impl_Block_76.f (k + 1) a0 a1 a2 a3) := by
 intro a0 a1 a2 a3 k
 unfold impl_Block_76.f
 repeat' first
   | (with_reducible exact impl_Block_83.mono _ _ _ _ _)
   | (with_reducible exact LeO.refl _)
   | (with_reducible exact LeO.none _)
   | (with_reducible refine LeO.ite ?_ ?_)
   | (with_reducible refine LeO.bind ?_ (fun _ => ?_))
   | exact impl_Block_83.mono _ _ _ _ _
   | exact LeO.none _
   | refine LeO.ite ?_ ?_
   | refine LeO.bind ?_ (fun _ => ?_)
set_option maxHeartbeats 8000000 in
set_option maxRecDepth 100000 in
theorem impl_Block_76.calls (k : Nat) (A0 : Option Addr) (c0 : Nat) (l0 : List (S58)) (a1_0 : Int) (a1_1 : Int) (a1_2 : Bool) (r : Bool) (w : World) (hr0 : Kd.C k58 w A0 l0.length l0) (hc0 : l0.length ≤ c0) (h : impl_Block_76.f k l0 a1_0 a1_1 a1_2 = some r) :
  Calls Try.prog 76 #[.slice A0 l0.length c0, .agg #[.int .i64 a1_0, .int .i64 a1_1, .bool a1_2]] w fun e w' => e = .returned (.bool r) ∧ Below w.heap.size w w' := by
 have hu58 := Try.underlying58
 have HR0 := qb.mk hr0
 have HC0 := qb.mk hc0
 clear hr0 hc0
 have HB := qb.mk (Below.refl w.heap.size w)
 have H : ((impl_Block_83.f k l0 a1_0 a1_1 a1_2).bind fun t221 => (some (decide (t221 ≥ 0)))) = some r := h
 clear h
 replace H := Option.bind_eq_some_iff.mp H
 obtain ⟨t221, A30, H⟩ := H
 replace H : (some (decide (t221 ≥ 0))) = some r := H
 have A3 := qb.mk A30
 clear A30
 obtain rfl := Option.some.inj H
 go_enter Try.func76, Try.ntmps76
 go_wp2_with (first | ((with_reducible refine qz (N := 3) rfl ?_); refine qx ?hg (N := 3) ?hd (cs := #[.int .i64 a1_0, .int .i64 a1_1, .bool a1_2]) (t := 58) ?hr ?_; (case hd => rfl); (case hg => rfl); (case hr => first | (go_simp; done) | (go_simp; rfl)); intro gb220 hg w4 hbox hb; have n0_ := qb.mk (qp (be0_ HB) hb); have n1_ := qb.mk (hbox); have n2_ := qb.mk ((by rw [hg]; exact (qm (be0_ HB)) : w.heap.size ≤ gb220)); have n3_ := qb.mk ((by rw [hg]; exact (qm (be0_ HB)) : w.heap.size ≤ gb220)); clear HB; have HB := n0_; have BK220 := n1_; have GW220 := n2_; have GE220 := n3_; clear n0_ n1_ n2_ n3_; clear hb hbox hg; have hcz5_0 : w4.cell? ⟨gb220, 0, none⟩ = some (.int .i64 a1_0) := (qf BK220.out 0).trans rfl; have hcz5_1 : w4.cell? ⟨gb220, 1, none⟩ = some (.int .i64 a1_1) := (qf BK220.out 1).trans rfl; have hcz5_2 : w4.cell? ⟨gb220, 2, none⟩ = some (.bool a1_2) := (qf BK220.out 2).trans rfl; have hfz5_0 := qj BK220.out 0; have hfz5_1 := qj BK220.out 1; have hfz5_2 := qj BK220.out 2) | ((with_reducible refine zd (f := 83) rfl ?_); refine zn (some 7) rfl rfl Try.func83 (by kernel_rfl) rfl #[.slice A0 l0.length c0, .agg #[.int .i64 a1_0, .int .i64 a1_1, .bool a1_2]] rfl (by (try simp only [List.map_toArray, List.map_cons, List.map_nil]); first | done | rfl | (simp only [List.length_drop, List.length_take]; rfl)) ?_; (with_reducible refine (impl_Block_83.calls k _ _ l0 a1_0 a1_1 a1_2 t221 _ ?side1 ?side2 A3.out).mono ?_); (case side1 => repeat (first | exact (Kd.zi HR0.out HB.out) | (with_reducible refine Kd.zg ?_ _) | (with_reducible refine Kd.zh ?_ _) | (with_reducible refine Kd.zk ?_))); (case side2 => exact HC0.out); rintro e w6 ⟨rfl, hb⟩; refine ⟨_, rfl, ?_⟩; have n0_ := qb.mk (qk (g := gb220) (o := .cells #[.int .i64 a1_0, .int .i64 a1_1, .bool a1_2] 58 (0, 0)) (bk_ BK220) hb); have n1_ := qb.mk (qp (be1_ HB GE220) hb); clear BK220; clear HB; have BK220 := n0_; have HB := n1_; clear n0_ n1_; (try clear hb); (try clear hb2); (try clear hk); (try clear hi)))
 go_ret
 exact ⟨by first | rfl | (simp [qv, qu] <;> rfl) | (simp [*, qv, qu] <;> rfl), be1_ HB GE220⟩
def impl_isClosed.f (k : Nat) (a0_0 : Int) (a0_1 : Int) (l0_2 : List (S58)) (a1_0 : Int) (a1_1 : Int) (a1_2 : Bool) : Option (Bool) := (impl_Block_76.f k l0_2 a1_0 a1_1 a1_2).bind fun t224 => (some t224)
theorem impl_isClosed.mono : ∀ a0 a1 a2 a3 a4 a5 k, LeO (impl_isClosed.f k a0 a1 a2 a3 a4 a5) (impl_isClosed.f (k + 1) a0 a1 a2 a3 a4 a5) := by
 intro a0 a1 a2 a3 a4 a5 k
 unfold impl_isClosed.f
 repeat' first
   | (with_reducible exact impl_Block_76.mono _ _ _ _ _)
   | (with_reducible exact LeO.refl _)
   | (with_reducible exact LeO.none _)
   | (with_reducible refine LeO.ite ?_ ?_)
   | (with_reducible refine LeO.bind ?_ (fun _ => ?_))
   | exact impl_Block_76.mono _ _ _ _ _
   | exact LeO.none _
   | refine LeO.ite ?_ ?_
   | refine LeO.bind ?_ (fun _ => ?_)
set_option maxHeartbeats 8000000 in
set_option maxRecDepth 100000 in
theorem impl_isClosed.calls (k : Nat) (a0_0 : Int) (a0_1 : Int) (A0_2 : Option Addr) (c0_2 : Nat) (l0_2 : List (S58)) (a1_0 : Int) (a1_1 : Int) (a1_2 : Bool) (r : Bool) (w : World) (hr0_2 : Kd.C k58 w A0_2 l0_2.length l0_2) (hc0_2 : l0_2.length ≤ c0_2) (h : impl_isClosed.f k a0_0 a0_1 l0_2 a1_0 a1_1 a1_2 = some r) :
  Calls Try.prog 54 #[.agg #[.int .i64 a0_0, .int .i64 a0_1, .slice A0_2 l0_2.length c0_2], .agg #[.int .i64 a1_0, .int .i64 a1_1, .bool a1_2]] w fun e w' => e = .returned (.bool r) ∧ Below w.heap.size w w' := by
 have hu31 := Try.underlying31
 have hu58 := Try.underlying58
 have HR0_2 := qb.mk hr0_2
 have HC0_2 := qb.mk hc0_2
 clear hr0_2 hc0_2
 have HB := qb.mk (Below.refl w.heap.size w)
 have H : ((impl_Block_76.f k l0_2 a1_0 a1_1 a1_2).bind fun t224 => (some t224)) = some r := h
 clear h
 replace H := Option.bind_eq_some_iff.mp H
 obtain ⟨t224, A30, H⟩ := H
 replace H : (some t224) = some r := H
 have A3 := qb.mk A30
 clear A30
 obtain rfl := Option.some.inj H
 go_enter Try.func54, Try.ntmps54
 go_wp2_with (first | ((with_reducible refine qz (N := 2) rfl ?_); refine qx ?hg (N := 2) ?hd (cs := #[.int .i64 a0_0, .int .i64 a0_1, .slice A0_2 l0_2.length c0_2]) (t := 31) ?hr ?_; (case hd => rfl); (case hg => rfl); (case hr => first | (go_simp; done) | (go_simp; rfl)); intro gb222 hg w4 hbox hb; have n0_ := qb.mk (qp (be0_ HB) hb); have n1_ := qb.mk (hbox); have n2_ := qb.mk ((by rw [hg]; exact (qm (be0_ HB)) : w.heap.size ≤ gb222)); have n3_ := qb.mk ((by rw [hg]; exact (qm (be0_ HB)) : w.heap.size ≤ gb222)); clear HB; have HB := n0_; have BK222 := n1_; have GW222 := n2_; have GE222 := n3_; clear n0_ n1_ n2_ n3_; clear hb hbox hg) | ((with_reducible refine qz (N := 3) rfl ?_); refine qx ?hg (N := 3) ?hd (cs := #[.int .i64 a1_0, .int .i64 a1_1, .bool a1_2]) (t := 58) ?hr ?_; (case hd => rfl); (case hg => rfl); (case hr => first | (go_simp; done) | (go_simp; rfl)); intro gb223 hg w5 hbox hb; have n0_ := qb.mk (qk (g := gb222) (o := .cells #[.int .i64 a0_0, .int .i64 a0_1, .slice A0_2 l0_2.length c0_2] 31 (0, 0)) (bk_ BK222) hb); have n1_ := qb.mk (qp (be1_ HB GE222) hb); have n2_ := qb.mk (hbox); have n3_ := qb.mk ((by rw [hg]; exact (qm (be1_ HB GE222)) : w.heap.size ≤ gb223)); have n4_ := qb.mk ((by rw [hg]; exact (qm (be1_ HB GE222)) : w.heap.size ≤ gb223)); have n5_ := qb.mk ((by rw [hg]; exact Nat.ne_of_lt (qw (g := gb222) (o := .cells #[.int .i64 a0_0, .int .i64 a0_1, .slice A0_2 l0_2.length c0_2] 31 (0, 0)) (bk_ BK222)) : gb222 ≠ gb223)); have n6_ := qb.mk ((by rw [hg]; exact Nat.ne_of_gt (qw (g := gb222) (o := .cells #[.int .i64 a0_0, .int .i64 a0_1, .slice A0_2 l0_2.length c0_2] 31 (0, 0)) (bk_ BK222)) : gb223 ≠ gb222)); clear BK222; clear HB; have BK222 := n0_; have HB := n1_; have BK223 := n2_; have GW223 := n3_; have GE223 := n4_; have NB222_223 := n5_; have NB223_222 := n6_; clear n0_ n1_ n2_ n3_ n4_ n5_ n6_; clear hb hbox hg; have hnb6 := NB222_223.out; have hnc6 := NB223_222.out; have hcz7_0 : w5.cell? ⟨gb222, 0, none⟩ = some (.int .i64 a0_0) := (qf BK222.out 0).trans rfl; have hcz7_1 : w5.cell? ⟨gb222, 1, none⟩ = some (.int .i64 a0_1) := (qf BK222.out 1).trans rfl; have hcz7_2 : w5.cell? ⟨gb222, 2, none⟩ = some (.slice A0_2 l0_2.length c0_2) := (qf BK222.out 2).trans rfl; have hfz7_0 := qj BK222.out 0; have hfz7_1 := qj BK222.out 1; have hfz7_2 := qj BK222.out 2; have hcz8_0 : w5.cell? ⟨gb223, 0, none⟩ = some (.int .i64 a1_0) := (qf BK223.out 0).trans rfl; have hcz8_1 : w5.cell? ⟨gb223, 1, none⟩ = some (.int .i64 a1_1) := (qf BK223.out 1).trans rfl; have hcz8_2 : w5.cell? ⟨gb223, 2, none⟩ = some (.bool a1_2) := (qf BK223.out 2).trans rfl; have hfz8_0 := qj BK223.out 0; have hfz8_1 := qj BK223.out 1; have hfz8_2 := qj BK223.out 2) | ((with_reducible refine zd (f := 76) rfl ?_); refine zn (some 8) rfl rfl Try.func76 (by kernel_rfl) rfl #[.slice A0_2 l0_2.length c0_2, .agg #[.int .i64 a1_0, .int .i64 a1_1, .bool a1_2]] rfl (by (try simp only [List.map_toArray, List.map_cons, List.map_nil]); first | done | rfl | (simp only [List.length_drop, List.length_take]; rfl)) ?_; (with_reducible refine (impl_Block_76.calls k _ _ l0_2 a1_0 a1_1 a1_2 t224 _ ?side1 ?side2 A3.out).mono ?_); (case side1 => repeat (first | exact (Kd.zi HR0_2.out HB.out) | (with_reducible refine Kd.zg ?_ _) | (with_reducible refine Kd.zh ?_ _) | (with_reducible refine Kd.zk ?_))); (case side2 => exact HC0_2.out); rintro e w9 ⟨rfl, hb⟩; refine ⟨_, rfl, ?_⟩; have n0_ := qb.mk (qk (g := gb222) (o := .cells #[.int .i64 a0_0, .int .i64 a0_1, .slice A0_2 l0_2.length c0_2] 31 (0, 0)) (bk_ BK222) hb); have n1_ := qb.mk (qk (g := gb223) (o := .cells #[.int .i64 a1_0, .int .i64 a1_1, .bool a1_2] 58 (0, 0)) (bk_ BK223) hb); have n2_ := qb.mk (qp (be2_ HB GE222 GE223) hb); clear BK222; clear BK223; clear HB; have BK222 := n0_; have BK223 := n1_; have HB := n2_; clear n0_ n1_ n2_; (try clear hb); (try clear hb2); (try clear hk); (try clear hi)))
 go_ret
 exact ⟨by first | rfl | (simp [qv, qu] <;> rfl) | (simp [*, qv, qu] <;> rfl), be2_ HB GE222 GE223⟩
def impl_Block_55.f (l0 : List S58) : Option (List S58) := if l0.length < 5864062014805 then some l0 else none
theorem impl_Block_55.info : (Try.prog.info? 58).map (fun i => (i.zero, i.size, i.bytes)) = some (some (.agg #[.int .i64 0, .int .i64 0, .bool false]), 3, 24) := by kernel_rfl
set_option maxHeartbeats 2000000 in
set_option maxRecDepth 100000 in
theorem impl_Block_55.calls (A0 : Option Addr) (c0 : Nat) (l0 : List S58) (r : List S58) (w : World) (hr0 : Kd.C k58 w A0 l0.length l0) (hc0 : l0.length ≤ c0) (h : impl_Block_55.f l0 = some r) :
  Calls Try.prog 55 #[.slice A0 l0.length c0] w fun e w' => ∃ v0_ : Value, e = .returned (v0_) ∧ Kd.R k58 58 w' w.heap.size (fun _ => True) v0_ r ∧ Below w.heap.size w w' := by
 have q22 : ∀ (w : World) (a : Option Addr) (n c n' c' : Nat), (binOp .eql 29 (.slice a n c) (.slice none n' c')).run Try.prog w = .ok (.bool a.isNone) w := fun w a n c n' c' => Lib.run_eql_slice_nil w _ _ a n c n' c' Try.underlying29
 unfold impl_Block_55.f at h
 by_cases hlen : l0.length < 5864062014805
 ·rw [if_pos hlen] at h
  cases Option.some.inj h
  cases A0 with
  | none =>
   have hn : l0 = [] := by
    rcases Nat.eq_zero_or_pos l0.length with e | e
    ·exact List.eq_nil_of_length_eq_zero e
    ·obtain ⟨ad, e', _⟩ := hr0.2.2 e
     cases e'
   have HN := qb.mk hn
   clear hn hr0 hc0 h
   go_enter Try.func55, Try.ntmps55
   go_wp2
   go_ret
   rw [HN.out]
   exact ⟨_, rfl, Kd.R_nil _ _ _ _ _, Below.refl _ _⟩
  | some ad =>
   have HR0 := qb.mk hr0
   have LM := qb.mk hlen
   have HB := qb.mk (Below.refl w.heap.size w)
   clear hr0 hc0 h hlen
   go_enter Try.func55, Try.ntmps55
   go_wp2_with (first | ((with_reducible refine qz (N := 5) rfl ?_); refine Kd.R_lit k58 _ 58 ?hg (N := 5) ?hd (xs := ([] : List S58)) (inner := []) (ok := fun _ => True) (okp := fun _ => True) ?hr ?hp (fun _ hk => hk) trivial (Below.refl _ _) (Nat.le_refl _) (by simp) ?_; (case hd => rfl); (case hg => rfl); (case hr => first | (go_simp; done) | (go_simp; rfl)); (case hp => exact (Reps.none _ _)); intro v119 w3 ho4 hb hg_ hnew_; clear hg_ hnew_; have n0_ := qb.mk (Kd.zq ho4 (qm (be0_ HB))); have n1_ := qb.mk (qp (be0_ HB) hb); clear HB; have HO120 := n0_; have HB := n1_; clear n0_ n1_; clear hb ho4) | ((with_reducible refine gate_builtin (b := .append) (xs := #[.tmp 5, .tmp 6]) rfl ?_); at_builtin; refine Kd.R_append_rows k58 (w0 := w) w.heap.size rfl (.tmp 5) (.tmp 6) 29 58 (.agg #[.int .i64 0, .int .i64 0, .bool false]) 24 rfl Try.underlying29 impl_Block_55.info rfl (by decide) (by omega) v119 [] l0 _ _ _ (fun _ => True) (fun _ => False) rfl rfl ?aO ?aR (fun _ _ h => h) (fun _ h => h.elim) ?aF ?aB ?aS ?aL ?_; (case aR => repeat (first | exact (Kd.zi HR0.out HB.out) | (with_reducible refine Kd.zg ?_ _) | (with_reducible refine Kd.zh ?_ _) | (with_reducible refine Kd.zk ?_))); (case aB => exact (be0_ HB)); (case aF => exact (fun _ _ => trivial)); (case aO => exact (kr_ HO120)); (case aS => exact (qm (be0_ HB))); (case aL => have := LM.out; simp only [List.length_nil]; omega); intro v122 w5 ho hb hg hat; rw [List.nil_append] at ho; have n0_ := qb.mk (hb); have n1_ := qb.mk (ho); clear HB; clear HO120; have HB := n0_; have HO123 := n1_; clear n0_ n1_; clear ho hb hg hat))
   go_ret
   exact ⟨_, rfl, kr_ HO123, be0_ HB⟩
 ·rw [if_neg hlen] at h
  cases h
def impl_within.f (a0 : Int) (a1 : Int) (a2 : Int) : Option (Bool) := if a0 ≥ a1 then (some (decide (a0 ≤ a2))) else (some false)
set_option maxHeartbeats 8000000 in
set_option maxRecDepth 100000 in
theorem impl_within.calls (a0 : Int) (a1 : Int) (a2 : Int) (r : Bool) (w : World) (h : impl_within.f a0 a1 a2 = some r) :
  Calls Try.prog 61 #[.int .i64 a0, .int .i64 a1, .int .i64 a2] w fun e w' => e = .returned (.bool r) ∧ zp w w' := by
 have H : (if a0 ≥ a1 then (some (decide (a0 ≤ a2))) else (some false)) = some r := h
 clear h
 by_cases c4 : a0 ≥ a1
 ·rw [if_pos c4] at H
  have c4b0 : decide (a1 ≤ a0) = true := decide_eq_true c4
  clear c4
  obtain rfl := Option.some.inj H
  go_enter Try.func61, Try.ntmps61
  go_wp2
  go_ret
  exact ⟨by first | rfl | (simp; done) | (simp [*]; done), by repeat (first | exact zp.refl _ | apply zp.step)⟩
 ·rw [if_neg c4] at H
  have c4b0 : decide (a1 ≤ a0) = false := decide_eq_false c4
  clear c4
  obtain rfl := Option.some.inj H
  go_enter Try.func61, Try.ntmps61
  go_wp2
  go_ret
  exact ⟨by first | rfl | (simp; done) | (simp [*]; done), by repeat (first | exact zp.refl _ | apply zp.step)⟩
def cmp_Or_int.l0 : Nat → Int → List Int → Int → Int → Option (Int)
 | 0, _, _, _, _ => none
 | k + 1, x3, x6, x7, x8 => if x8 < x7 then (if 0 ≤ x8 then (if x8 < (x6.length : Int) then (if (rd x6 x8) = x3 then (cmp_Or_int.l0 k x3 x6 x7 (wrap64 (x8 + 1))) else (some (rd x6 x8))) else (none)) else (none)) else (some x3)
def cmp_Or_int.f (k : Nat) (l0 : List Int) : Option (Int) := cmp_Or_int.l0 k 0 l0 (l0.length : Int) 0
theorem cmp_Or_int.zz : ∀ k, (∀ y0 y1 y2 y3, LeO (cmp_Or_int.l0 k y0 y1 y2 y3) (cmp_Or_int.l0 (k + 1) y0 y1 y2 y3))
 | 0 => fun _ _ _ _ r h => by simp [cmp_Or_int.l0] at h
 | k + 1 => by
  have ih0 := cmp_Or_int.zz k
  ·intro y0 y1 y2 y3
   unfold cmp_Or_int.l0
   repeat' first
   | (with_reducible exact ih0 _ _ _ _)
   | (with_reducible exact LeO.refl _)
   | (with_reducible exact LeO.none _)
   | (with_reducible refine LeO.ite ?_ ?_)
   | (with_reducible refine LeO.bind ?_ (fun _ => ?_))
   | exact ih0 _ _ _ _
   | exact LeO.none _
   | refine LeO.ite ?_ ?_
   | refine LeO.bind ?_ (fun _ => ?_)
theorem cmp_Or_int.mono : ∀ a0 k, LeO (cmp_Or_int.f k a0) (cmp_Or_int.f (k + 1) a0) := by
 intro a0 k
 have ih0 := cmp_Or_int.zz k
 unfold cmp_Or_int.f
 repeat' first
   | (with_reducible exact ih0 _ _ _ _)
   | (with_reducible exact LeO.refl _)
   | (with_reducible exact LeO.none _)
   | (with_reducible refine LeO.ite ?_ ?_)
   | (with_reducible refine LeO.bind ?_ (fun _ => ?_))
   | exact ih0 _ _ _ _
   | exact LeO.none _
   | refine LeO.ite ?_ ?_
   | refine LeO.bind ?_ (fun _ => ?_)
set_option maxHeartbeats 8000000 in
set_option maxRecDepth 100000 in
theorem cmp_Or_int.calls (k : Nat) (A0 : Option Addr) (c0 : Nat) (l0 : List Int) (r : Int) (w : World) (hr0 : Kd.C (Kd.int .i64) w A0 l0.length l0) (hc0 : l0.length ≤ c0) (h : cmp_Or_int.f k l0 = some r) :
  Calls Try.prog 80 #[.slice A0 l0.length c0] w fun e w' => e = .returned (.int .i64 r) ∧ zp w w' := by
 have HR0 := qb.mk hr0
 have HC0 := qb.mk hc0
 clear hr0 hc0
 have H : (cmp_Or_int.l0 k 0 l0 (l0.length : Int) 0) = some r := h
 clear h
 have H' := qb.mk H
 clear H
 go_enter Try.func80, Try.ntmps80
 go_wp2
 go_loopg [8] k (fun kq v8 w' => ∃ (x8_1 : Int), v8 = .int .i64 x8_1 ∧ qb (cmp_Or_int.l0 kq 0 l0 (l0.length : Int) x8_1 = some r) ∧ qb (kq ≤ k) ∧ zp w w')
 case atStart => exact ⟨(0), (by first | rfl | (simp; done) | (simp [*]; done)), H', ⟨Nat.le_refl _⟩, by repeat (first | exact zp.refl _ | apply zp.step)⟩
 case round =>
  clear H'
  obtain ⟨x8_1, rfl, HA, HK1, ⟨m1, rfl⟩⟩ := hrel
  cases gk with
  | zero => exact absurd HA.out (by simp [cmp_Or_int.l0])
  | succ k1 =>
   have H := HA.out
   clear HA
   simp only [cmp_Or_int.l0] at H
   by_cases c2 : x8_1 < (l0.length : Int)
   ·rw [if_pos c2] at H
    have c2b0 : decide (x8_1 < (l0.length : Int)) = true := decide_eq_true c2
    clear c2
    by_cases c3 : 0 ≤ x8_1
    ·rw [if_pos c3] at H
     have c3b0 : decide (0 ≤ x8_1) = true := decide_eq_true c3
     clear c3
     by_cases c4 : x8_1 < (l0.length : Int)
     ·rw [if_pos c4] at H
      have c4b0 : decide (x8_1 < (l0.length : Int)) = true := decide_eq_true c4
      clear c4
      by_cases c5 : (rd l0 x8_1) = 0
      ·rw [if_pos c5] at H
       have c5b0 : ((rd l0 x8_1) == 0) = true := beq_iff_eq.mpr c5
       have c5b1 : ((rd l0 x8_1) != 0) = false := bne_eq_false_iff_eq.mpr c5
       clear c5
       have H' := qb.mk H
       clear H
       have p225 : 0 ≤ (x8_1 : Int) := of_decide_eq_true (by first | (with_reducible assumption) | assumption)
       have q225 : x8_1 < (l0.length : Int) := of_decide_eq_true (by first | (with_reducible assumption) | assumption)
       obtain ⟨ad225, e225, hx225_0⟩ := Kd.at_int HR0.out x8_1 p225 q225
       cases e225
       replace p225 := eq_true p225
       replace q225 := eq_true q225
       go_wp2
       go_roundg k1
       case measure => have := HK1.out; omega
       case rel => exact ⟨(wrap64 (x8_1 + 1)), (by first | rfl | (simp; done) | (simp [*]; done)), H', ⟨by have := HK1.out; omega⟩, by repeat (first | exact zp.refl _ | apply zp.step)⟩
      ·rw [if_neg c5] at H
       have c5b0 : ((rd l0 x8_1) == 0) = false := beq_eq_false_iff_ne.mpr c5
       have c5b1 : ((rd l0 x8_1) != 0) = true := bne_iff_ne.mpr c5
       obtain rfl := Option.some.inj H
       have p225 : 0 ≤ (x8_1 : Int) := of_decide_eq_true (by first | (with_reducible assumption) | assumption)
       have q225 : x8_1 < (l0.length : Int) := of_decide_eq_true (by first | (with_reducible assumption) | assumption)
       obtain ⟨ad225, e225, hx225_0⟩ := Kd.at_int HR0.out x8_1 p225 q225
       cases e225
       replace p225 := eq_true p225
       replace q225 := eq_true q225
       go_wp2
       go_ret
       exact ⟨by first | rfl | (simp; done) | (simp [*]; done), by repeat (first | exact zp.refl _ | apply zp.step)⟩
     ·rw [if_neg c4] at H
      exact absurd H (by simp)
    ·rw [if_neg c3] at H
     exact absurd H (by simp)
   ·rw [if_neg c2] at H
    have c2b0 : decide (x8_1 < (l0.length : Int)) = false := decide_eq_false c2
    clear c2
    obtain rfl := Option.some.inj H
    go_wp2
    go_ret
    exact ⟨by first | rfl | (simp; done) | (simp [*]; done), by repeat (first | exact zp.refl _ | apply zp.step)⟩
def cmp_isNaN_int.f (a0 : Int) : Option (Bool) := some (a0 != a0)
set_option maxHeartbeats 8000000 in
set_option maxRecDepth 100000 in
theorem cmp_isNaN_int.calls (a0 : Int) (r : Bool) (w : World) (h : cmp_isNaN_int.f a0 = some r) :
  Calls Try.prog 95 #[.int .i64 a0] w fun e w' => e = .returned (.bool r) ∧ zp w w' := by
 have H : (some (a0 != a0)) = some r := h
 clear h
 obtain rfl := Option.some.inj H
 go_enter Try.func95, Try.ntmps95
 go_wp2
 go_ret
 exact ⟨by first | rfl | (simp; done) | (simp [*]; done), by repeat (first | exact zp.refl _ | apply zp.step)⟩
def cmp_Compare_int.f (a0 : Int) (a1 : Int) : Option (Int) := (cmp_isNaN_int.f a0).bind fun t226 => ((cmp_isNaN_int.f a1).bind fun t227 => (if t226 = true then (if t227 = true then (some 0) else (some (-1))) else (if t227 = true then (some 1) else (if a0 < a1 then (some (-1)) else (if a0 > a1 then (some 1) else (some 0))))))
set_option maxHeartbeats 8000000 in
set_option maxRecDepth 100000 in
theorem cmp_Compare_int.calls (a0 : Int) (a1 : Int) (r : Int) (w : World) (h : cmp_Compare_int.f a0 a1 = some r) :
  Calls Try.prog 81 #[.int .i64 a0, .int .i64 a1] w fun e w' => e = .returned (.int .i64 r) ∧ zp w w' := by
 have H : ((cmp_isNaN_int.f a0).bind fun t226 => ((cmp_isNaN_int.f a1).bind fun t227 => (if t226 = true then (if t227 = true then (some 0) else (some (-1))) else (if t227 = true then (some 1) else (if a0 < a1 then (some (-1)) else (if a0 > a1 then (some 1) else (some 0))))))) = some r := h
 clear h
 replace H := Option.bind_eq_some_iff.mp H
 obtain ⟨t226, A30, H⟩ := H
 replace H : ((cmp_isNaN_int.f a1).bind fun t227 => (if t226 = true then (if t227 = true then (some 0) else (some (-1))) else (if t227 = true then (some 1) else (if a0 < a1 then (some (-1)) else (if a0 > a1 then (some 1) else (some 0)))))) = some r := H
 have A3 := qb.mk A30
 clear A30
 replace H := Option.bind_eq_some_iff.mp H
 obtain ⟨t227, A40, H⟩ := H
 replace H : (if t226 = true then (if t227 = true then (some 0) else (some (-1))) else (if t227 = true then (some 1) else (if a0 < a1 then (some (-1)) else (if a0 > a1 then (some 1) else (some 0))))) = some r := H
 have A4 := qb.mk A40
 clear A40
 by_cases c5 : t226 = true
 ·subst c5
  have H1 : (if t227 = true then (some 0) else (some (-1))) = some r := by rw [if_pos rfl] at H; exact H
  clear H
  have H := H1
  clear H1
  by_cases c6 : t227 = true
  ·subst c6
   have H1 : (some 0) = some r := by rw [if_pos rfl] at H; exact H
   clear H
   have H := H1
   clear H1
   obtain rfl := Option.some.inj H
   go_enter Try.func81, Try.ntmps81
   go_wp2_with (first | ((with_reducible refine zd (f := 95) rfl ?_); refine zn (some 8) rfl rfl Try.func95 (by kernel_rfl) rfl #[.int .i64 a0] rfl (by (try simp only [List.map_toArray, List.map_cons, List.map_nil]); first | done | rfl | (simp only [List.length_drop, List.length_take]; rfl)) ?_; (with_reducible refine (cmp_isNaN_int.calls a0 true _ A3.out).mono ?_); rintro e w' ⟨rfl, ⟨nd, rfl⟩⟩; refine ⟨_, rfl, ?_⟩) | ((with_reducible refine zd (f := 95) rfl ?_); refine zn (some 10) rfl rfl Try.func95 (by kernel_rfl) rfl #[.int .i64 a1] rfl (by (try simp only [List.map_toArray, List.map_cons, List.map_nil]); first | done | rfl | (simp only [List.length_drop, List.length_take]; rfl)) ?_; (with_reducible refine (cmp_isNaN_int.calls a1 true _ A4.out).mono ?_); rintro e w' ⟨rfl, ⟨nd, rfl⟩⟩; refine ⟨_, rfl, ?_⟩))
   go_ret
   exact ⟨by first | rfl | (simp; done) | (simp [*]; done), by repeat (first | exact zp.refl _ | apply zp.step)⟩
  ·replace c6 := Bool.eq_false_iff.mpr c6
   subst c6
   have H1 : (some (-1)) = some r := by rw [if_neg (show ¬ (false = true) by decide)] at H; exact H
   clear H
   have H := H1
   clear H1
   obtain rfl := Option.some.inj H
   go_enter Try.func81, Try.ntmps81
   go_wp2_with (first | ((with_reducible refine zd (f := 95) rfl ?_); refine zn (some 8) rfl rfl Try.func95 (by kernel_rfl) rfl #[.int .i64 a0] rfl (by (try simp only [List.map_toArray, List.map_cons, List.map_nil]); first | done | rfl | (simp only [List.length_drop, List.length_take]; rfl)) ?_; (with_reducible refine (cmp_isNaN_int.calls a0 true _ A3.out).mono ?_); rintro e w' ⟨rfl, ⟨nd, rfl⟩⟩; refine ⟨_, rfl, ?_⟩) | ((with_reducible refine zd (f := 95) rfl ?_); refine zn (some 10) rfl rfl Try.func95 (by kernel_rfl) rfl #[.int .i64 a1] rfl (by (try simp only [List.map_toArray, List.map_cons, List.map_nil]); first | done | rfl | (simp only [List.length_drop, List.length_take]; rfl)) ?_; (with_reducible refine (cmp_isNaN_int.calls a1 false _ A4.out).mono ?_); rintro e w' ⟨rfl, ⟨nd, rfl⟩⟩; refine ⟨_, rfl, ?_⟩))
   go_ret
   exact ⟨by first | rfl | (simp; done) | (simp [*]; done), by repeat (first | exact zp.refl _ | apply zp.step)⟩
 ·replace c5 := Bool.eq_false_iff.mpr c5
  subst c5
  have H1 : (if t227 = true then (some 1) else (if a0 < a1 then (some (-1)) else (if a0 > a1 then (some 1) else (some 0)))) = some r := by rw [if_neg (show ¬ (false = true) by decide)] at H; exact H
  clear H
  have H := H1
  clear H1
  by_cases c7 : t227 = true
  ·subst c7
   have H1 : (some 1) = some r := by rw [if_pos rfl] at H; exact H
   clear H
   have H := H1
   clear H1
   obtain rfl := Option.some.inj H
   go_enter Try.func81, Try.ntmps81
   go_wp2_with (first | ((with_reducible refine zd (f := 95) rfl ?_); refine zn (some 8) rfl rfl Try.func95 (by kernel_rfl) rfl #[.int .i64 a0] rfl (by (try simp only [List.map_toArray, List.map_cons, List.map_nil]); first | done | rfl | (simp only [List.length_drop, List.length_take]; rfl)) ?_; (with_reducible refine (cmp_isNaN_int.calls a0 false _ A3.out).mono ?_); rintro e w' ⟨rfl, ⟨nd, rfl⟩⟩; refine ⟨_, rfl, ?_⟩) | ((with_reducible refine zd (f := 95) rfl ?_); refine zn (some 10) rfl rfl Try.func95 (by kernel_rfl) rfl #[.int .i64 a1] rfl (by (try simp only [List.map_toArray, List.map_cons, List.map_nil]); first | done | rfl | (simp only [List.length_drop, List.length_take]; rfl)) ?_; (with_reducible refine (cmp_isNaN_int.calls a1 true _ A4.out).mono ?_); rintro e w' ⟨rfl, ⟨nd, rfl⟩⟩; refine ⟨_, rfl, ?_⟩))
   go_ret
   exact ⟨by first | rfl | (simp; done) | (simp [*]; done), by repeat (first | exact zp.refl _ | apply zp.step)⟩
  ·replace c7 := Bool.eq_false_iff.mpr c7
   subst c7
   have H1 : (if a0 < a1 then (some (-1)) else (if a0 > a1 then (some 1) else (some 0))) = some r := by rw [if_neg (show ¬ (false = true) by decide)] at H; exact H
   clear H
   have H := H1
   clear H1
   by_cases c8 : a0 < a1
   ·rw [if_pos c8] at H
    have c8b0 : decide (a0 < a1) = true := decide_eq_true c8
    clear c8
    obtain rfl := Option.some.inj H
    go_enter Try.func81, Try.ntmps81
    go_wp2_with (first | ((with_reducible refine zd (f := 95) rfl ?_); refine zn (some 8) rfl rfl Try.func95 (by kernel_rfl) rfl #[.int .i64 a0] rfl (by (try simp only [List.map_toArray, List.map_cons, List.map_nil]); first | done | rfl | (simp only [List.length_drop, List.length_take]; rfl)) ?_; (with_reducible refine (cmp_isNaN_int.calls a0 false _ A3.out).mono ?_); rintro e w' ⟨rfl, ⟨nd, rfl⟩⟩; refine ⟨_, rfl, ?_⟩) | ((with_reducible refine zd (f := 95) rfl ?_); refine zn (some 10) rfl rfl Try.func95 (by kernel_rfl) rfl #[.int .i64 a1] rfl (by (try simp only [List.map_toArray, List.map_cons, List.map_nil]); first | done | rfl | (simp only [List.length_drop, List.length_take]; rfl)) ?_; (with_reducible refine (cmp_isNaN_int.calls a1 false _ A4.out).mono ?_); rintro e w' ⟨rfl, ⟨nd, rfl⟩⟩; refine ⟨_, rfl, ?_⟩))
    go_ret
    exact ⟨by first | rfl | (simp; done) | (simp [*]; done), by repeat (first | exact zp.refl _ | apply zp.step)⟩
   ·rw [if_neg c8] at H
    have c8b0 : decide (a0 < a1) = false := decide_eq_false c8
    clear c8
    by_cases c9 : a0 > a1
    ·rw [if_pos c9] at H
     have c9b0 : decide (a1 < a0) = true := decide_eq_true c9
     clear c9
     obtain rfl := Option.some.inj H
     go_enter Try.func81, Try.ntmps81
     go_wp2_with (first | ((with_reducible refine zd (f := 95) rfl ?_); refine zn (some 8) rfl rfl Try.func95 (by kernel_rfl) rfl #[.int .i64 a0] rfl (by (try simp only [List.map_toArray, List.map_cons, List.map_nil]); first | done | rfl | (simp only [List.length_drop, List.length_take]; rfl)) ?_; (with_reducible refine (cmp_isNaN_int.calls a0 false _ A3.out).mono ?_); rintro e w' ⟨rfl, ⟨nd, rfl⟩⟩; refine ⟨_, rfl, ?_⟩) | ((with_reducible refine zd (f := 95) rfl ?_); refine zn (some 10) rfl rfl Try.func95 (by kernel_rfl) rfl #[.int .i64 a1] rfl (by (try simp only [List.map_toArray, List.map_cons, List.map_nil]); first | done | rfl | (simp only [List.length_drop, List.length_take]; rfl)) ?_; (with_reducible refine (cmp_isNaN_int.calls a1 false _ A4.out).mono ?_); rintro e w' ⟨rfl, ⟨nd, rfl⟩⟩; refine ⟨_, rfl, ?_⟩))
     go_ret
     exact ⟨by first | rfl | (simp; done) | (simp [*]; done), by repeat (first | exact zp.refl _ | apply zp.step)⟩
    ·rw [if_neg c9] at H
     have c9b0 : decide (a1 < a0) = false := decide_eq_false c9
     clear c9
     obtain rfl := Option.some.inj H
     go_enter Try.func81, Try.ntmps81
     go_wp2_with (first | ((with_reducible refine zd (f := 95) rfl ?_); refine zn (some 8) rfl rfl Try.func95 (by kernel_rfl) rfl #[.int .i64 a0] rfl (by (try simp only [List.map_toArray, List.map_cons, List.map_nil]); first | done | rfl | (simp only [List.length_drop, List.length_take]; rfl)) ?_; (with_reducible refine (cmp_isNaN_int.calls a0 false _ A3.out).mono ?_); rintro e w' ⟨rfl, ⟨nd, rfl⟩⟩; refine ⟨_, rfl, ?_⟩) | ((with_reducible refine zd (f := 95) rfl ?_); refine zn (some 10) rfl rfl Try.func95 (by kernel_rfl) rfl #[.int .i64 a1] rfl (by (try simp only [List.map_toArray, List.map_cons, List.map_nil]); first | done | rfl | (simp only [List.length_drop, List.length_take]; rfl)) ?_; (with_reducible refine (cmp_isNaN_int.calls a1 false _ A4.out).mono ?_); rintro e w' ⟨rfl, ⟨nd, rfl⟩⟩; refine ⟨_, rfl, ?_⟩))
     go_ret
     exact ⟨by first | rfl | (simp; done) | (simp [*]; done), by repeat (first | exact zp.refl _ | apply zp.step)⟩
end Go.Proofs.Ytpedofomfhmnfaa.PFnExactCloseBlock
