/- Cut by wip/cut.py out of the texts of this claim (printed by the kit's printer, or this session's own): what the row's theorem does not reach is struck. Not trusted: Lean checks it. -/
import Derived.Test.YtpopeedfgenebaaGreatZFnPostDeliversPx0
import Derived.Test.YtpopeedfgenebaaGreatZFnPostDeliversPx1
import Derived.Test.YtpopeedfgenebaaGreatZFnPostDeliversPx2
import Derived.Test.YtpopeedfgenebaaGreatZFnPostDeliversPx9
import Derived.Test.YtpopeedfgenebaaGreatZFnPostDeliversPx10
import Derived.Test.YtpopeedfgenebaaGreatZFnPostDeliversPx12
import Derived.Test.YtpopeedfgenebaaGreatZFnPostDeliversPx13
namespace Go.Proofs.YtpopeedfgenebaaGreat.PFnPostDelivers
open Go.RowKit Go.Proofs.YtpopeedfgenebaaGreatW.PrintWords Go.Proofs.YtpopeedfgenebaaGreatW.PrintLast Go.Proofs.YtpopeedfgenebaaGreatW.PrintMore
attribute [local go_sem] zq zo zx zw zk zj zp zn
set_option linter.unusedVariables false
set_option linter.unusedSimpArgs false
mutual
def spec_DeliveriesOf.j0 : Nat → List Int → Bool → Int → Int → Option (ByteArray × Bool)
 | 0, _, _, _, _ => none
 | k + 1, x1, x24, x388000, x388001 => if x24 = true then (some ((⟨#[]⟩ : ByteArray), false)) else (spec_DeliveriesOf.l0 k x1 (⟨#[]⟩ : ByteArray) 0 x388000 x388001)
def spec_DeliveriesOf.l0 : Nat → List Int → ByteArray → Int → Int → Int → Option (ByteArray × Bool)
 | 0, _, _, _, _, _ => none
 | k + 1, x1, x6, x7, x388000, x388001 => if x7 < x388001 then ((spec_nuNumber.f x388000 x388001 0 x7).bind fun t391 => ((spec_l1Has.f k x1 t391).bind fun t392 => (if x388000 > 0 then ((spec_nuNumber.f x388000 x388001 1 x7).bind fun t393 => ((spec_l1Has.f k x1 t393).bind fun t394 => (spec_DeliveriesOf.j2 k x1 x6 x7 t392 t394 x388000 x388001))) else (spec_DeliveriesOf.j2 k x1 x6 x7 t392 false x388000 x388001)))) else (some (x6, true))
def spec_DeliveriesOf.j2 : Nat → List Int → ByteArray → Int → Bool → Bool → Int → Int → Option (ByteArray × Bool)
 | 0, _, _, _, _, _, _, _ => none
 | k + 1, x1, x6, x7, x8, x9, x388000, x388001 => if x8 = true then (spec_DeliveriesOf.j3 k x1 x6 x7 x8 x9 x9 x388000 x388001) else (spec_DeliveriesOf.j3 k x1 x6 x7 x8 x9 false x388000 x388001)
def spec_DeliveriesOf.j3 : Nat → List Int → ByteArray → Int → Bool → Bool → Bool → Int → Int → Option (ByteArray × Bool)
 | 0, _, _, _, _, _, _, _, _ => none
 | k + 1, x1, x6, x7, x8, x9, x48, x388000, x388001 => if x48 = true then (if x6.size + 1 ≤ 9223372036854775807 then (spec_DeliveriesOf.l0 k x1 (x6 ++ (⟨#[98]⟩ : ByteArray)) (wrap64 (x7 + 1)) x388000 x388001) else (none)) else (if x8 = true then (if x6.size + 1 ≤ 9223372036854775807 then (spec_DeliveriesOf.l0 k x1 (x6 ++ (⟨#[108]⟩ : ByteArray)) (wrap64 (x7 + 1)) x388000 x388001) else (none)) else (if x9 = true then (if x6.size + 1 ≤ 9223372036854775807 then (spec_DeliveriesOf.l0 k x1 (x6 ++ (⟨#[114]⟩ : ByteArray)) (wrap64 (x7 + 1)) x388000 x388001) else (none)) else (if x6.size + 1 ≤ 9223372036854775807 then (spec_DeliveriesOf.l0 k x1 (x6 ++ (⟨#[45]⟩ : ByteArray)) (wrap64 (x7 + 1)) x388000 x388001) else (none))))
end
def spec_DeliveriesOf.f (k : Nat) (a0_0 : Int) (a0_1 : Int) (l1 : List Int) : Option (ByteArray × Bool) := (spec_nuGood.f a0_0 a0_1).bind fun t388 => (if t388 = true then (if a0_1 > 60 then (spec_DeliveriesOf.j0 k l1 true a0_0 a0_1) else ((spec_nuHouses.f a0_0 a0_1).bind fun t389 => ((spec_l1Rising.f k l1 1 t389).bind fun t390 => (spec_DeliveriesOf.j0 k l1 (!t390) a0_0 a0_1)))) else (spec_DeliveriesOf.j0 k l1 true a0_0 a0_1))
theorem spec_DeliveriesOf.zd : ∀ k, (∀ y0 y1 y2 y3, LeO (spec_DeliveriesOf.j0 k y0 y1 y2 y3) (spec_DeliveriesOf.j0 (k + 1) y0 y1 y2 y3)) ∧ (∀ y0 y1 y2 y3 y4, LeO (spec_DeliveriesOf.l0 k y0 y1 y2 y3 y4) (spec_DeliveriesOf.l0 (k + 1) y0 y1 y2 y3 y4)) ∧ (∀ y0 y1 y2 y3 y4 y5 y6, LeO (spec_DeliveriesOf.j2 k y0 y1 y2 y3 y4 y5 y6) (spec_DeliveriesOf.j2 (k + 1) y0 y1 y2 y3 y4 y5 y6)) ∧ (∀ y0 y1 y2 y3 y4 y5 y6 y7, LeO (spec_DeliveriesOf.j3 k y0 y1 y2 y3 y4 y5 y6 y7) (spec_DeliveriesOf.j3 (k + 1) y0 y1 y2 y3 y4 y5 y6 y7))
 | 0 => ⟨fun _ _ _ _ r h => by simp [spec_DeliveriesOf.j0] at h, fun _ _ _ _ _ r h => by simp [spec_DeliveriesOf.l0] at h, fun _ _ _ _ _ _ _ r h => by simp [spec_DeliveriesOf.j2] at h, fun _ _ _ _ _ _ _ _ r h => by simp [spec_DeliveriesOf.j3] at h⟩
 | k + 1 => by
  obtain ⟨ih0, ih1, ih2, ih3⟩ := spec_DeliveriesOf.zd k
  refine ⟨?_, ?_, ?_, ?_⟩
  all_goals first | (intro y0 y1 y2 y3; unfold spec_DeliveriesOf.j0) | (intro y0 y1 y2 y3 y4; unfold spec_DeliveriesOf.l0) | (intro y0 y1 y2 y3 y4 y5 y6; unfold spec_DeliveriesOf.j2) | (intro y0 y1 y2 y3 y4 y5 y6 y7; unfold spec_DeliveriesOf.j3)
  all_goals (repeat' first | (with_reducible first | exact ih0 _ _ _ _ | exact ih1 _ _ _ _ _ | exact ih2 _ _ _ _ _ _ _ | exact ih3 _ _ _ _ _ _ _ _ | exact spec_l1Has.mono _ _ _ | exact spec_l1Rising.mono _ _ _ _ | exact LeO.refl _ | exact LeO.none _ | refine LeO.ite ?_ ?_ | refine LeO.bind ?_ (fun _ => ?_)) | exact ih0 _ _ _ _ | exact ih1 _ _ _ _ _ | exact ih2 _ _ _ _ _ _ _ | exact ih3 _ _ _ _ _ _ _ _ | exact spec_l1Has.mono _ _ _ | exact spec_l1Rising.mono _ _ _ _ | exact LeO.none _ | refine LeO.ite ?_ ?_ | refine LeO.bind ?_ (fun _ => ?_))
theorem spec_DeliveriesOf.mono : ∀ a0 a1 a2 k, LeO (spec_DeliveriesOf.f k a0 a1 a2) (spec_DeliveriesOf.f (k + 1) a0 a1 a2) := by
 intro a0 a1 a2 k
 obtain ⟨ih0, ih1, ih2, ih3⟩ := spec_DeliveriesOf.zd k
 unfold spec_DeliveriesOf.f
 repeat' first | (with_reducible first | exact ih0 _ _ _ _ | exact ih1 _ _ _ _ _ | exact ih2 _ _ _ _ _ _ _ | exact ih3 _ _ _ _ _ _ _ _ | exact spec_l1Has.mono _ _ _ | exact spec_l1Rising.mono _ _ _ _ | exact LeO.refl _ | exact LeO.none _ | refine LeO.ite ?_ ?_ | refine LeO.bind ?_ (fun _ => ?_)) | exact ih0 _ _ _ _ | exact ih1 _ _ _ _ _ | exact ih2 _ _ _ _ _ _ _ | exact ih3 _ _ _ _ _ _ _ _ | exact spec_l1Has.mono _ _ _ | exact spec_l1Rising.mono _ _ _ _ | exact LeO.none _ | refine LeO.ite ?_ ?_ | refine LeO.bind ?_ (fun _ => ?_)
set_option maxHeartbeats 8000000 in
set_option maxRecDepth 100000 in
theorem spec_DeliveriesOf.calls (k : Nat) (a0_0 : Int) (a0_1 : Int) (A1 : Option Addr) (c1 : Nat) (l1 : List Int) (r1 : ByteArray) (r2 : Bool) (w : World) (hr1 : Kd.C (Kd.int .i64) w A1 l1.length l1) (hc1 : l1.length ≤ c1) (h : spec_DeliveriesOf.f k a0_0 a0_1 l1 = some (r1, r2)) :
  Calls Tryz.prog 18 #[.agg #[.int .i64 a0_0, .int .i64 a0_1], .slice A1 l1.length c1] w fun e w' => e = .returned (.tuple #[.string r1, .bool r2]) ∧ Below w.heap.size w w' := by
 have hu25 := Tryz.underlying25;have HR1 := qb.mk hr1;have HC1 := qb.mk hc1;clear hr1 hc1;have HB := qb.mk (Below.refl w.heap.size w);have H := h; clear h; unfold spec_DeliveriesOf.f at H;have HC3 := qb.mk H;clear H
 go_enter Tryz.func18, Tryz.ntmps18
 go_upto_region 1 with (first | (refine bE_ 2 #[.int .i64 a0_0, .int .i64 a0_1] 25 ?_; intro b2 hg w4 hbox hb; have b0 := qb.mk (hbox); have b9 := qb.mk (av_); have b1 := qb.mk (av_); replace HB := qb.mk ac_; clear hb hbox hg))
 (try simp only [Act.put, sA_, sB_, sC_])
 go_cut [24] (fun v24 wc => ∃ (kq : Nat) (x24_2 : Bool), v24 = .bool x24_2 ∧ qb (spec_DeliveriesOf.j0 kq l1 x24_2 a0_0 a0_1 = some (r1, r2)) ∧ qb (kq ≤ k) ∧ qb (wc.heap[b2]? = some (.cells #[.int .i64 a0_0, .int .i64 a0_1] 25 (0, 0))) ∧ qb (Below w.heap.size w wc))
 case first =>
  have H := HC3.out;clear HC3;replace H := bX_ H; obtain ⟨d0, A5, H⟩ := H;replace H := iB_ H; obtain ⟨rfl, H⟩ | ⟨rfl, H⟩ := H
  ·replace H := iC_ H; obtain ⟨c7, H⟩ | ⟨c7, H⟩ := H
   ·have c7b0 : decide (60 < a0_1) = true := decide_eq_true c7
    clear c7
    (first | rw [c7b0] | (simp only [i64_w, i32_w]; rw [c7b0]) | skip)
    have H' := qb.mk H;clear H;have hcz8_0 := cC_ b0 0;have hcz8_1 := cC_ b0 1;have hfz8_0 := qi b0.out 0;have hfz8_1 := qi b0.out 1
    go_wp2_with (first | (refine gL_ 11 Tryz.func59 #[.agg #[.int .i64 a0_0, .int .i64 a0_1]] ?_; refine (spec_nuGood.calls a0_0 a0_1 true _ A5.out).mono ?_; rintro e w9 ⟨rfl, hb⟩; refine ⟨_, rfl, ?_⟩; replace b0 := qb.mk a6_; replace HB := qb.mk b6_; (try clear hb); have hcz10_0 := cC_ b0 0; have hcz10_1 := cC_ b0 1; have hfz10_0 := qi b0.out 0; have hfz10_1 := qi b0.out 1))
    exact lm_
   ·have c7b0 : decide (60 < a0_1) = false := decide_eq_false c7
    clear c7
    (first | rw [c7b0] | (simp only [i64_w, i32_w]; rw [c7b0]) | skip)
    replace H := bX_ H; obtain ⟨b5, A11, H⟩ := H;replace H := bX_ H; obtain ⟨b6, A12, H⟩ := H;have H' := qb.mk H;clear H;have hcz13_0 := cC_ b0 0;have hcz13_1 := cC_ b0 1;have hfz13_0 := qi b0.out 0;have hfz13_1 := qi b0.out 1
    go_wp2_with (first | (refine gL_ 11 Tryz.func59 #[.agg #[.int .i64 a0_0, .int .i64 a0_1]] ?_; refine (spec_nuGood.calls a0_0 a0_1 true _ A5.out).mono ?_; rintro e w14 ⟨rfl, hb⟩; refine ⟨_, rfl, ?_⟩; replace b0 := qb.mk a6_; replace HB := qb.mk b6_; (try clear hb); have hcz15_0 := cC_ b0 0; have hcz15_1 := cC_ b0 1; have hfz15_0 := qi b0.out 0; have hfz15_1 := qi b0.out 1) | (go_at_call 56; (with_reducible refine (spec_nuHouses.calls a0_0 a0_1 b5 _ A11.out).mono ?_); rintro e w16 ⟨rfl, hb⟩; replace b0 := qb.mk a6_; replace HB := qb.mk b6_; (try clear hb)) | (go_at_call 60; (with_reducible refine (spec_l1Rising.calls k _ _ l1 1 b5 b6 _ ?side1 ?side2 A12.out).mono ?_); (case side1 => repeat (first | exact ce_ | (with_reducible refine Kd.zu ?_ _) | (with_reducible refine Kd.zt ?_ _) | (with_reducible refine Kd.zz ?_))); (case side2 => exact HC1.out); rintro e w' ⟨rfl, ⟨nd, rfl⟩⟩))
    go_meet
    case rel => exact ⟨_, (!b6), es_, H', ⟨by first | omega | exact Nat.le_refl _⟩, ⟨bk_ b0⟩, ⟨be1_ HB b1⟩⟩
  ·have H' := qb.mk H
   clear H;have hcz17_0 := cC_ b0 0;have hcz17_1 := cC_ b0 1;have hfz17_0 := qi b0.out 0;have hfz17_1 := qi b0.out 1
   go_wp2_with (first | (refine gL_ 11 Tryz.func59 #[.agg #[.int .i64 a0_0, .int .i64 a0_1]] ?_; refine (spec_nuGood.calls a0_0 a0_1 false _ A5.out).mono ?_; rintro e w18 ⟨rfl, hb⟩; refine ⟨_, rfl, ?_⟩; replace b0 := qb.mk a6_; replace HB := qb.mk b6_; (try clear hb)))
   exact lm_
 case rest =>
  clear HC3;(try clear c1);(try clear c7);(try clear c7b0);(try clear hcz10_0);(try clear hcz10_1);(try clear hcz13_0);(try clear hcz13_1);(try clear hcz15_0);(try clear hcz15_1);(try clear hcz17_0);(try clear hcz17_1);(try clear hcz8_0);(try clear hcz8_1);(try clear hfz10_0);(try clear hfz10_1);(try clear hfz13_0);(try clear hfz13_1);(try clear hfz15_0);(try clear hfz15_1);(try clear hfz17_0);(try clear hfz17_1);(try clear hfz8_0);(try clear hfz8_1);obtain ⟨kq, x24_2, rfl, HA, HJ2, b0, HB⟩ := hcut;cases kq with
  | zero => exact absurd HA.out (by simp [spec_DeliveriesOf.j0])
  | succ kj2 =>
   have H := HA.out;clear HA
   simp only [spec_DeliveriesOf.j0] at H
   replace H := iB_ H; obtain ⟨rfl, H⟩ | ⟨rfl, H⟩ := H
   ·replace H := iP_ H; obtain ⟨rfl, rfl⟩ := H
    go_wp2
    go_ret2
    exact ⟨er_, be1_ HB b1⟩
   ·have H' := qb.mk H
    clear H
    go_wp2
    go_loopg [6, 7] kj2 (fun kq v6 v7 w' => ∃ (x6_2 : ByteArray) (x7_2 : Int), v6 = .string x6_2 ∧ v7 = .int .i64 x7_2 ∧ qb (spec_DeliveriesOf.l0 kq l1 x6_2 x7_2 a0_0 a0_1 = some (r1, r2)) ∧ qb (kq ≤ kj2) ∧ qb (w'.heap[b2]? = some (.cells #[.int .i64 a0_0, .int .i64 a0_1] 25 (0, 0))) ∧ qb (Below w.heap.size w w'))
    case atStart => exact ⟨((⟨#[]⟩ : ByteArray)), (0), es_, es_, H', ⟨Nat.le_refl _⟩, ⟨bk_ b0⟩, ⟨be1_ HB b1⟩⟩
    case round =>
     clear H';(try clear c1);(try clear c7);(try clear c7b0);(try clear hcz10_0);(try clear hcz10_1);(try clear hcz13_0);(try clear hcz13_1);(try clear hcz15_0);(try clear hcz15_1);(try clear hcz17_0);(try clear hcz17_1);(try clear hcz8_0);(try clear hcz8_1);(try clear hfz10_0);(try clear hfz10_1);(try clear hfz13_0);(try clear hfz13_1);(try clear hfz15_0);(try clear hfz15_1);(try clear hfz17_0);(try clear hfz17_1);(try clear hfz8_0);(try clear hfz8_1);obtain ⟨x6_2, x7_2, rfl, rfl, HA, HK2, b0, HB⟩ := hrel;cases gk with
     | zero => exact absurd HA.out (by simp [spec_DeliveriesOf.l0])
     | succ k2 =>
      have H := HA.out;clear HA
      simp only [spec_DeliveriesOf.l0] at H
      replace H := iD_ H; obtain ⟨c20b0, H⟩ | ⟨c20b0, H⟩ := H
      ·replace H := bX_ H; obtain ⟨b3, A21, H⟩ := H
       replace H := bX_ H; obtain ⟨b4, A22, H⟩ := H;have HC23 := qb.mk H;clear H;have hcz24_0 := cC_ b0 0;have hcz24_1 := cC_ b0 1;have hfz24_0 := qi b0.out 0;have hfz24_1 := qi b0.out 1
       go_upto_region 8 with (first | (refine gL_ 34 Tryz.func62 #[.agg #[.int .i64 a0_0, .int .i64 a0_1], .int .i64 0, .int .i64 x7_2] ?_; refine (spec_nuNumber.calls a0_0 a0_1 0 x7_2 b3 _ A21.out).mono ?_; rintro e w25 ⟨rfl, hb⟩; refine ⟨_, rfl, ?_⟩; replace b0 := qb.mk a6_; replace HB := qb.mk b6_; (try clear hb)) | (refine gL_ 35 Tryz.func61 #[.slice A1 l1.length c1, .int .i64 b3] ?_; refine (spec_l1Has.calls k2 _ _ l1 b3 b4 _ (by repeat (first | exact ce_ | (with_reducible refine Kd.zu ?_ _) | (with_reducible refine Kd.zt ?_ _) | (with_reducible refine Kd.zz ?_))) HC1.out A22.out).mono ?_; rintro e w' ⟨rfl, ⟨nd, rfl⟩⟩; refine ⟨_, rfl, ?_⟩))
       (try simp only [Act.put, sA_, sB_, sC_])
       go_cut [9] (fun v9 wc => ∃ (kq : Nat) (x9_22 : Bool), v9 = .bool x9_22 ∧ qb (spec_DeliveriesOf.j2 kq l1 x6_2 x7_2 b4 x9_22 a0_0 a0_1 = some (r1, r2)) ∧ qb (kq ≤ k2) ∧ qb (wc.heap[b2]? = some (.cells #[.int .i64 a0_0, .int .i64 a0_1] 25 (0, 0))) ∧ qb (Below w.heap.size w wc))
       case first =>
        have H := HC23.out;clear HC23;replace H := iC_ H; obtain ⟨c26, H⟩ | ⟨c26, H⟩ := H
        ·have c26b0 : decide (0 < a0_0) = true := decide_eq_true c26
         clear c26
         (first | rw [c26b0] | (simp only [i64_w, i32_w]; rw [c26b0]) | skip)
         replace H := bX_ H; obtain ⟨b7, A27, H⟩ := H;replace H := bX_ H; obtain ⟨b8, A28, H⟩ := H;have H' := qb.mk H;clear H;have hcz29_0 := cC_ b0 0;have hcz29_1 := cC_ b0 1;have hfz29_0 := qi b0.out 0;have hfz29_1 := qi b0.out 1
         go_wp2_with (first | (go_at_call 62; (with_reducible refine (spec_nuNumber.calls a0_0 a0_1 1 x7_2 b7 _ A27.out).mono ?_); rintro e w30 ⟨rfl, hb⟩; replace b0 := qb.mk a6_; replace HB := qb.mk b6_; (try clear hb)) | (go_at_call 61; (with_reducible refine (spec_l1Has.calls k2 _ _ l1 b7 b8 _ ?side1 ?side2 A28.out).mono ?_); (case side1 => repeat (first | exact ce_ | (with_reducible refine Kd.zu ?_ _) | (with_reducible refine Kd.zt ?_ _) | (with_reducible refine Kd.zz ?_))); (case side2 => exact HC1.out); rintro e w' ⟨rfl, ⟨nd, rfl⟩⟩))
         go_meet
         case rel => exact ⟨_, (b8), es_, H', ⟨by have := HJ2.out; have := HK2.out; first | omega | exact Nat.le_refl _⟩, ⟨bk_ b0⟩, ⟨be1_ HB b1⟩⟩
        ·have c26b0 : decide (0 < a0_0) = false := decide_eq_false c26
         clear c26
         (first | rw [c26b0] | (simp only [i64_w, i32_w]; rw [c26b0]) | skip)
         have H' := qb.mk H;clear H;have hcz31_0 := cC_ b0 0;have hcz31_1 := cC_ b0 1;have hfz31_0 := qi b0.out 0;have hfz31_1 := qi b0.out 1
         go_wp2
         go_meet
         case rel => exact ⟨_, (false), es_, H', ⟨by have := HJ2.out; have := HK2.out; first | omega | exact Nat.le_refl _⟩, ⟨bk_ b0⟩, ⟨be1_ HB b1⟩⟩
       case rest =>
        clear HC23;(try clear c1);(try clear c7);(try clear c7b0);(try clear c20b0);(try clear c26);(try clear c26b0);(try clear hcz10_0);(try clear hcz10_1);(try clear hcz13_0);(try clear hcz13_1);(try clear hcz15_0);(try clear hcz15_1);(try clear hcz17_0);(try clear hcz17_1);(try clear hcz24_0);(try clear hcz24_1);(try clear hcz29_0);(try clear hcz29_1);(try clear hcz31_0);(try clear hcz31_1);(try clear hcz8_0);(try clear hcz8_1);(try clear hfz10_0);(try clear hfz10_1);(try clear hfz13_0);(try clear hfz13_1);(try clear hfz15_0);(try clear hfz15_1);(try clear hfz17_0);(try clear hfz17_1);(try clear hfz24_0);(try clear hfz24_1);(try clear hfz29_0);(try clear hfz29_1);(try clear hfz31_0);(try clear hfz31_1);(try clear hfz8_0);(try clear hfz8_1);obtain ⟨kq, x9_22, rfl, HA, HJ22, b0, HB⟩ := hcut;cases kq with
        | zero => exact absurd HA.out (by simp [spec_DeliveriesOf.j2])
        | succ kj22 =>
         have H := HA.out;clear HA
         simp only [spec_DeliveriesOf.j2] at H
         have HC32 := qb.mk H;clear H
         go_upto_region 10 with (fail)
         go_cut [48] (fun v48 wc => ∃ (kq : Nat) (x48_31 : Bool), v48 = .bool x48_31 ∧ qb (spec_DeliveriesOf.j3 kq l1 x6_2 x7_2 b4 x9_22 x48_31 a0_0 a0_1 = some (r1, r2)) ∧ qb (kq ≤ kj22) ∧ qb (wc.heap[b2]? = some (.cells #[.int .i64 a0_0, .int .i64 a0_1] 25 (0, 0))) ∧ qb (Below w.heap.size w wc))
         case first =>
          have H := HC32.out;clear HC32;replace H := iB_ H; obtain ⟨rfl, H⟩ | ⟨rfl, H⟩ := H
          ·have H' := qb.mk H
           clear H
           go_wp2
           go_meet
           case rel => exact ⟨_, (x9_22), es_, H', ⟨by have := HJ2.out; have := HK2.out; have := HJ22.out; first | omega | exact Nat.le_refl _⟩, ⟨bk_ b0⟩, ⟨be1_ HB b1⟩⟩
          ·have H' := qb.mk H
           clear H
           go_wp2
           go_meet
           case rel => exact ⟨_, (false), es_, H', ⟨by have := HJ2.out; have := HK2.out; have := HJ22.out; first | omega | exact Nat.le_refl _⟩, ⟨bk_ b0⟩, ⟨be1_ HB b1⟩⟩
         case rest =>
          clear HC32;(try clear c1);(try clear c7);(try clear c7b0);(try clear c20b0);(try clear c26);(try clear c26b0);(try clear hcz10_0);(try clear hcz10_1);(try clear hcz13_0);(try clear hcz13_1);(try clear hcz15_0);(try clear hcz15_1);(try clear hcz17_0);(try clear hcz17_1);(try clear hcz24_0);(try clear hcz24_1);(try clear hcz29_0);(try clear hcz29_1);(try clear hcz31_0);(try clear hcz31_1);(try clear hcz8_0);(try clear hcz8_1);(try clear hfz10_0);(try clear hfz10_1);(try clear hfz13_0);(try clear hfz13_1);(try clear hfz15_0);(try clear hfz15_1);(try clear hfz17_0);(try clear hfz17_1);(try clear hfz24_0);(try clear hfz24_1);(try clear hfz29_0);(try clear hfz29_1);(try clear hfz31_0);(try clear hfz31_1);(try clear hfz8_0);(try clear hfz8_1);obtain ⟨kq, x48_31, rfl, HA, HJ31, b0, HB⟩ := hcut;cases kq with
          | zero => exact absurd HA.out (by simp [spec_DeliveriesOf.j3])
          | succ kj31 =>
           have H := HA.out;clear HA
           simp only [spec_DeliveriesOf.j3] at H
           replace H := iB_ H; obtain ⟨rfl, H⟩ | ⟨rfl, H⟩ := H
           ·replace H := iC_ H; obtain ⟨c35, H⟩ | ⟨c35, H⟩ := H
            ·have c35b0 := eq_true c35
             have c35b1 : decide (x6_2.size + 1 ≤ 9223372036854775807) = true := decide_eq_true c35
             try have c35b2 : (9223372036854775807 < x6_2.size + 1) = False := eq_false (Nat.not_lt.2 c35)
             have H' := qb.mk H;clear H
             go_wp2
             go_roundg kj31
             case measure => have := HJ2.out; have := HK2.out; have := HJ22.out; have := HJ31.out; omega
             case rel => exact ⟨(x6_2 ++ (⟨#[98]⟩ : ByteArray)), (wrap64 (x7_2 + 1)), es_, es_, H', ⟨by have := HJ2.out; have := HK2.out; have := HJ22.out; have := HJ31.out; omega⟩, ⟨bk_ b0⟩, ⟨be1_ HB b1⟩⟩
            ·cases H
           ·replace H := iB_ H; obtain ⟨rfl, H⟩ | ⟨rfl, H⟩ := H
            ·replace H := iC_ H; obtain ⟨c37, H⟩ | ⟨c37, H⟩ := H
             ·have c37b0 := eq_true c37
              have c37b1 : decide (x6_2.size + 1 ≤ 9223372036854775807) = true := decide_eq_true c37
              try have c37b2 : (9223372036854775807 < x6_2.size + 1) = False := eq_false (Nat.not_lt.2 c37)
              have H' := qb.mk H;clear H
              go_wp2
              go_roundg kj31
              case measure => have := HJ2.out; have := HK2.out; have := HJ22.out; have := HJ31.out; omega
              case rel => exact ⟨(x6_2 ++ (⟨#[108]⟩ : ByteArray)), (wrap64 (x7_2 + 1)), es_, es_, H', ⟨by have := HJ2.out; have := HK2.out; have := HJ22.out; have := HJ31.out; omega⟩, ⟨bk_ b0⟩, ⟨be1_ HB b1⟩⟩
             ·cases H
            ·replace H := iB_ H; obtain ⟨rfl, H⟩ | ⟨rfl, H⟩ := H
             ·replace H := iC_ H; obtain ⟨c39, H⟩ | ⟨c39, H⟩ := H
              ·have c39b0 := eq_true c39
               have c39b1 : decide (x6_2.size + 1 ≤ 9223372036854775807) = true := decide_eq_true c39
               try have c39b2 : (9223372036854775807 < x6_2.size + 1) = False := eq_false (Nat.not_lt.2 c39)
               have H' := qb.mk H;clear H
               go_wp2
               go_roundg kj31
               case measure => have := HJ2.out; have := HK2.out; have := HJ22.out; have := HJ31.out; omega
               case rel => exact ⟨(x6_2 ++ (⟨#[114]⟩ : ByteArray)), (wrap64 (x7_2 + 1)), es_, es_, H', ⟨by have := HJ2.out; have := HK2.out; have := HJ22.out; have := HJ31.out; omega⟩, ⟨bk_ b0⟩, ⟨be1_ HB b1⟩⟩
              ·cases H
             ·replace H := iC_ H; obtain ⟨c40, H⟩ | ⟨c40, H⟩ := H
              ·have c40b0 := eq_true c40
               have c40b1 : decide (x6_2.size + 1 ≤ 9223372036854775807) = true := decide_eq_true c40
               try have c40b2 : (9223372036854775807 < x6_2.size + 1) = False := eq_false (Nat.not_lt.2 c40)
               have H' := qb.mk H;clear H
               go_wp2
               go_roundg kj31
               case measure => have := HJ2.out; have := HK2.out; have := HJ22.out; have := HJ31.out; omega
               case rel => exact ⟨(x6_2 ++ (⟨#[45]⟩ : ByteArray)), (wrap64 (x7_2 + 1)), es_, es_, H', ⟨by have := HJ2.out; have := HK2.out; have := HJ22.out; have := HJ31.out; omega⟩, ⟨bk_ b0⟩, ⟨be1_ HB b1⟩⟩
              ·cases H
      ·replace H := iP_ H; obtain ⟨rfl, rfl⟩ := H
       have hcz41_0 := cC_ b0 0;have hcz41_1 := cC_ b0 1;have hfz41_0 := qi b0.out 0;have hfz41_1 := qi b0.out 1
       go_wp2
       go_ret2
       exact ⟨er_, be1_ HB b1⟩
def spec_DrawBusiestPart.f (k : Nat) (l0 : List Int) : Option (ByteArray × Int) := (spec_l1Cur_deliveries.f k l0 0 0).bind fun bt396 => ((spec_l1Cur_pick.f l0 bt396.2.1 bt396.2.2 (wrap64 ((bt396.1.size : Int) + 2))).bind fun bt399 => (some (bt396.1, bt399.1)))
theorem spec_DrawBusiestPart.mono : ∀ a0 k, LeO (spec_DrawBusiestPart.f k a0) (spec_DrawBusiestPart.f (k + 1) a0) := by
 intro a0 k
 unfold spec_DrawBusiestPart.f
 exact lA_
set_option maxHeartbeats 8000000 in
set_option maxRecDepth 100000 in
theorem spec_DrawBusiestPart.calls (k : Nat) (A0 : Option Addr) (c0 : Nat) (l0 : List Int) (r1 : ByteArray) (r2 : Int) (w : World) (hr0 : Kd.C (Kd.int .u8) w A0 l0.length l0) (hc0 : l0.length ≤ c0) (h : spec_DrawBusiestPart.f k l0 = some (r1, r2)) :
  Calls Tryz.prog 19 #[.slice A0 l0.length c0] w fun e w' => e = .returned (.tuple #[.string r1, .int .i64 r2]) ∧ Below w.heap.size w w' := by
 have hu76 := Tryz.underlying76
 have HR0 := qb.mk hr0
 have HC0 := qb.mk hc0
 clear hr0 hc0
 have HB := qb.mk (Below.refl w.heap.size w)
 have H := h; clear h; unfold spec_DrawBusiestPart.f at H
 replace H := bX_ H; obtain ⟨⟨t396, t397, t398⟩, A2, H⟩ := H; (try dsimp only at H)
 replace H := bX_ H; obtain ⟨⟨t399, t400, t401⟩, A3, H⟩ := H; (try dsimp only at H)
 replace H := iP_ H; obtain ⟨rfl, rfl⟩ := H
 go_enter Tryz.func19, Tryz.ntmps19
 go_wp2_with (first | (refine bE_ 8 #[.slice A0 l0.length c0, .int .i64 0, .int .u64 0] 76 ?_; intro gb395 hg w4 hbox hb; have GW395 := qb.mk ((by rw [hg]; exact c3_ : w.heap.size ≤ gb395)); have GE395 := qb.mk ((by rw [hg]; exact c3_ : w.heap.size ≤ gb395)); have HI395 := qb.mk ((⟨_, _, hbox, (by rw [hg]; exact c3_), HR0.out⟩ : IsS76 w w4 gb395 l0 0 0)); replace HB := qb.mk ac_; clear hb hbox hg) | (refine gL_ 10 Tryz.func63 #[.pointer (some ⟨gb395, 0, none⟩)] ?_; refine (spec_l1Cur_deliveries.calls k gb395 l0 0 0 t396 t397 t398 w _ bd_ (by repeat (first | (with_reducible first | exact HB.out | apply qd | apply qa | apply qe | refine qf ?_ (IsS76.ge HI395.out)) | exact HB.out)) A2.out).mono ?_; rintro e w5 ⟨rfl, hi, hb, hk⟩; refine ⟨_, rfl, ?_⟩; replace HB := qb.mk (hb); replace HI395 := qb.mk (hi); (try clear hb hk hi)) | (refine gL_ 16 Tryz.func64 #[.pointer (some ⟨gb395, 0, none⟩), .int .i64 (wrap64 ((t396.size : Int) + 2))] ?_; refine (spec_l1Cur_pick.calls gb395 l0 t397 t398 (wrap64 ((t396.size : Int) + 2)) t399 t400 t401 w _ bd_ (by repeat (first | (with_reducible first | exact HB.out | apply qd | apply qa | apply qe | refine qf ?_ (IsS76.ge HI395.out)) | exact HB.out)) A3.out).mono ?_; rintro e w6 ⟨rfl, hi, hb, hk⟩; refine ⟨_, rfl, ?_⟩; replace HB := qb.mk (hb); replace HI395 := qb.mk (hi); (try clear hb hk hi)))
 go_ret2
 exact ⟨er_, (by repeat (first | (with_reducible first | exact HB.out | apply qd | apply qa | apply qe | refine qf ?_ (IsS76.ge HI395.out)) | exact HB.out))⟩
mutual
def impl_BusiestPart.j0 : Nat → ByteArray → Int → Bool → Option (Int × Int × Bool)
 | 0, _, _, _ => none
 | k + 1, x0, x1, x20 => if x20 = true then (some (0, 0, false)) else (impl_BusiestPart.l0 k x0 x1 0 (-1) 0)
def impl_BusiestPart.l0 : Nat → ByteArray → Int → Int → Int → Int → Option (Int × Int × Bool)
 | 0, _, _, _, _, _ => none
 | k + 1, x0, x1, x7, x8, x9 => if (wrap64 (x9 + x1)) ≤ (x0.size : Int) then (if 0 ≤ x9 then (if x9 ≤ (wrap64 (x9 + x1)) then ((impl_countDelivered.f (x0.extract (x9 : Int).toNat ((wrap64 (x9 + x1)) : Int).toNat)).bind fun t404 => (if t404 > x8 then (impl_BusiestPart.l0 k x0 x1 x9 t404 (wrap64 (x9 + 1))) else (impl_BusiestPart.l0 k x0 x1 x7 x8 (wrap64 (x9 + 1))))) else (none)) else (none)) else (some (x7, x8, true))
end
def impl_BusiestPart.f (k : Nat) (a0 : ByteArray) (a1 : Int) : Option (Int × Int × Bool) := (impl_AreDeliveries.f k a0).bind fun t402 => (if t402 = true then ((impl_within.f a1 1 (a0.size : Int)).bind fun t403 => (impl_BusiestPart.j0 k a0 a1 (!t403))) else (impl_BusiestPart.j0 k a0 a1 true))
theorem impl_BusiestPart.zd : ∀ k, (∀ y0 y1 y2, LeO (impl_BusiestPart.j0 k y0 y1 y2) (impl_BusiestPart.j0 (k + 1) y0 y1 y2)) ∧ (∀ y0 y1 y2 y3 y4, LeO (impl_BusiestPart.l0 k y0 y1 y2 y3 y4) (impl_BusiestPart.l0 (k + 1) y0 y1 y2 y3 y4))
 | 0 => ⟨fun _ _ _ r h => by simp [impl_BusiestPart.j0] at h, fun _ _ _ _ _ r h => by simp [impl_BusiestPart.l0] at h⟩
 | k + 1 => by
  obtain ⟨ih0, ih1⟩ := impl_BusiestPart.zd k
  refine ⟨?_, ?_⟩
  all_goals first | (intro y0 y1 y2; unfold impl_BusiestPart.j0) | (intro y0 y1 y2 y3 y4; unfold impl_BusiestPart.l0)
  all_goals (repeat' first | (with_reducible first | exact ih0 _ _ _ | exact ih1 _ _ _ _ _ | exact impl_AreDeliveries.mono _ _ | exact LeO.refl _ | exact LeO.none _ | refine LeO.ite ?_ ?_ | refine LeO.bind ?_ (fun _ => ?_)) | exact ih0 _ _ _ | exact ih1 _ _ _ _ _ | exact impl_AreDeliveries.mono _ _ | exact LeO.none _ | refine LeO.ite ?_ ?_ | refine LeO.bind ?_ (fun _ => ?_))
theorem impl_BusiestPart.mono : ∀ a0 a1 k, LeO (impl_BusiestPart.f k a0 a1) (impl_BusiestPart.f (k + 1) a0 a1) := by
 intro a0 a1 k
 obtain ⟨ih0, ih1⟩ := impl_BusiestPart.zd k
 unfold impl_BusiestPart.f
 repeat' first | (with_reducible first | exact ih0 _ _ _ | exact ih1 _ _ _ _ _ | exact impl_AreDeliveries.mono _ _ | exact LeO.refl _ | exact LeO.none _ | refine LeO.ite ?_ ?_ | refine LeO.bind ?_ (fun _ => ?_)) | exact ih0 _ _ _ | exact ih1 _ _ _ _ _ | exact impl_AreDeliveries.mono _ _ | exact LeO.none _ | refine LeO.ite ?_ ?_ | refine LeO.bind ?_ (fun _ => ?_)
set_option maxHeartbeats 8000000 in
set_option maxRecDepth 100000 in
theorem impl_BusiestPart.calls (k : Nat) (a0 : ByteArray) (a1 : Int) (r1 : Int) (r2 : Int) (r3 : Bool) (w : World) (h : impl_BusiestPart.f k a0 a1 = some (r1, r2, r3)) :
  Calls Tryz.prog 20 #[.string a0, .int .i64 a1] w fun e w' => e = .returned (.tuple #[.int .i64 r1, .int .i64 r2, .bool r3]) ∧ ql w w' := by
 have H := h; clear h; unfold impl_BusiestPart.f at H;have HC3 := qb.mk H;clear H
 go_enter Tryz.func20, Tryz.ntmps20
 go_upto_region 1 with (fail)
 go_cut [20] (fun v20 wc => ∃ (kq : Nat) (x20_2 : Bool), v20 = .bool x20_2 ∧ qb (impl_BusiestPart.j0 kq a0 a1 x20_2 = some (r1, r2, r3)) ∧ qb (kq ≤ k) ∧ ql w wc)
 case first =>
  have H := HC3.out;clear HC3;replace H := bX_ H; obtain ⟨b2, A4, H⟩ := H;replace H := iB_ H; obtain ⟨rfl, H⟩ | ⟨rfl, H⟩ := H
  ·replace H := bX_ H; obtain ⟨b1, A6, H⟩ := H
   have H' := qb.mk H;clear H
   go_wp2_with (first | (refine gL_ 12 Tryz.func43 #[.string a0] ?_; refine (impl_AreDeliveries.calls k a0 true _ A4.out).mono ?_; rintro e w' ⟨rfl, ⟨nd, rfl⟩⟩; refine ⟨_, rfl, ?_⟩) | (go_at_call 65; (with_reducible refine (impl_within.calls a1 1 (a0.size : Int) b1 _ A6.out).mono ?_); rintro e w' ⟨rfl, ⟨nd, rfl⟩⟩))
   go_meet
   case rel => exact ⟨_, (!b1), es_, H', ⟨by first | omega | exact Nat.le_refl _⟩, a0_⟩
  ·have H' := qb.mk H
   clear H
   go_wp2_with (first | (refine gL_ 12 Tryz.func43 #[.string a0] ?_; refine (impl_AreDeliveries.calls k a0 false _ A4.out).mono ?_; rintro e w' ⟨rfl, ⟨nd, rfl⟩⟩; refine ⟨_, rfl, ?_⟩))
   go_meet
   case rel => exact ⟨_, (true), es_, H', ⟨by first | omega | exact Nat.le_refl _⟩, a0_⟩
 case rest =>
  clear HC3;obtain ⟨kq, x20_2, rfl, HA, HJ2, ⟨mc2, rfl⟩⟩ := hcut;cases kq with
  | zero => exact absurd HA.out (by simp [impl_BusiestPart.j0])
  | succ kj2 =>
   have H := HA.out;clear HA
   simp only [impl_BusiestPart.j0] at H
   replace H := iB_ H; obtain ⟨rfl, H⟩ | ⟨rfl, H⟩ := H
   ·exact lv_
   ·have H' := qb.mk H
    clear H
    go_wp2
    go_loopg [7, 8, 9] kj2 (fun kq v7 v8 v9 w' => ∃ (x7_2 : Int) (x8_2 : Int) (x9_2 : Int), v7 = .int .i64 x7_2 ∧ v8 = .int .i64 x8_2 ∧ v9 = .int .i64 x9_2 ∧ qb (impl_BusiestPart.l0 kq a0 a1 x7_2 x8_2 x9_2 = some (r1, r2, r3)) ∧ qb (kq ≤ kj2) ∧ ql w w')
    case atStart => exact ⟨(0), ((-1)), (0), es_, es_, es_, H', ⟨Nat.le_refl _⟩, a0_⟩
    case round =>
     clear H';obtain ⟨x7_2, x8_2, x9_2, rfl, rfl, rfl, HA, HK2, ⟨m2, rfl⟩⟩ := hrel;cases gk with
     | zero => exact absurd HA.out (by simp [impl_BusiestPart.l0])
     | succ k2 =>
      have H := HA.out;clear HA
      simp only [impl_BusiestPart.l0] at H
      replace H := iD_ H; obtain ⟨c8b0, H⟩ | ⟨c8b0, H⟩ := H
      ·replace H := iC_ H; obtain ⟨c9, H⟩ | ⟨c9, H⟩ := H
       ·have c9b0 := eq_true c9
        have c9b1 : decide (0 ≤ x9_2) = true := decide_eq_true c9;clear c9;replace H := iC_ H; obtain ⟨c10, H⟩ | ⟨c10, H⟩ := H
        ·have c10b0 := eq_true c10
         have c10b1 : decide (x9_2 ≤ (wrap64 (x9_2 + a1))) = true := decide_eq_true c10;have c11b0 := eq_true (od_ : (wrap64 (x9_2 + a1)) ≤ (a0.size : Int));replace H := bX_ H; obtain ⟨b0, A12, H⟩ := H;replace H := iC_ H; obtain ⟨c13, H⟩ | ⟨c13, H⟩ := H
         ·have c13b0 : decide (x8_2 < b0) = true := decide_eq_true c13
          clear c13;have H' := qb.mk H;clear H
          go_wp2_with (first | (refine gL_ 35 Tryz.func44 #[.string (a0.extract (x9_2 : Int).toNat ((wrap64 (x9_2 + a1)) : Int).toNat)] ?_; refine (impl_countDelivered.calls (a0.extract (x9_2 : Int).toNat ((wrap64 (x9_2 + a1)) : Int).toNat) b0 _ A12.out).mono ?_; rintro e w' ⟨rfl, ⟨nd, rfl⟩⟩; refine ⟨_, rfl, ?_⟩))
          exact lR_
         ·have c13b0 : decide (x8_2 < b0) = false := decide_eq_false c13
          clear c13;have H' := qb.mk H;clear H
          go_wp2_with (first | (refine gL_ 35 Tryz.func44 #[.string (a0.extract (x9_2 : Int).toNat ((wrap64 (x9_2 + a1)) : Int).toNat)] ?_; refine (impl_countDelivered.calls (a0.extract (x9_2 : Int).toNat ((wrap64 (x9_2 + a1)) : Int).toNat) b0 _ A12.out).mono ?_; rintro e w' ⟨rfl, ⟨nd, rfl⟩⟩; refine ⟨_, rfl, ?_⟩))
          exact lQ_
        ·cases H
       ·cases H
      ·exact lv_
end Go.Proofs.YtpopeedfgenebaaGreat.PFnPostDelivers
