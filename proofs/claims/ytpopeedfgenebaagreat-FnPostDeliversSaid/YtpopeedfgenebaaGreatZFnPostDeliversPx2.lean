/- Cut by wip/cut.py out of the texts of this claim (printed by the kit's printer, or this session's own): what the row's theorem does not reach is struck. Not trusted: Lean checks it. -/
import Derived.Test.YtpopeedfgenebaaGreatZFnPostDeliversPx0
import Derived.Test.YtpopeedfgenebaaGreatZFnPostDeliversPx1
namespace Go.Proofs.YtpopeedfgenebaaGreat.PFnPostDelivers
open Go.RowKit Go.Proofs.YtpopeedfgenebaaGreatW.PrintWords Go.Proofs.YtpopeedfgenebaaGreatW.PrintLast Go.Proofs.YtpopeedfgenebaaGreatW.PrintMore
attribute [local go_sem] zq zo zx zw zk zj zp zn
set_option linter.unusedVariables false
set_option linter.unusedSimpArgs false
mutual
def spec_DrawNumbersOf.j0 : Nat → Bool → List Int → Int → Int → Int → Int → Option (Int × Int × ByteArray)
 | 0, _, _, _, _, _, _ => none
 | k + 1, x24, x173000, x173001, x173002, x178000, x178001 => if x24 = true then ((spec_l1Cur_deliveries.f k x173000 x173001 x173002).bind fun bt182 => (some (x178000, x178001, bt182.1))) else (spec_DrawNumbersOf.l0 k (⟨#[]⟩ : ByteArray) 0 x173000 x173001 x173002 x178000 x178001)
def spec_DrawNumbersOf.l0 : Nat → ByteArray → Int → List Int → Int → Int → Int → Int → Option (Int × Int × ByteArray)
 | 0, _, _, _, _, _, _, _ => none
 | k + 1, x6, x7, x173000, x173001, x173002, x178000, x178001 => if x7 < x178001 then (if x178000 = 0 then ((spec_l1Cur_one.f x173000 x173001 x173002 12).bind fun bt185 => (spec_DrawNumbersOf.j2 k x6 x7 (!bt185.1) x173000 bt185.2.1 bt185.2.2 x178000 x178001)) else (spec_DrawNumbersOf.j2 k x6 x7 false x173000 x173001 x173002 x178000 x178001)) else (some (x178000, x178001, x6))
def spec_DrawNumbersOf.j2 : Nat → ByteArray → Int → Bool → List Int → Int → Int → Int → Int → Option (Int × Int × ByteArray)
 | 0, _, _, _, _, _, _, _, _ => none
 | k + 1, x6, x7, x41, x173000, x173001, x173002, x178000, x178001 => if x41 = true then ((spec_l1Cur_of.f x173000 x173001 x173002 (([(⟨#[108]⟩ : ByteArray), (⟨#[45]⟩ : ByteArray)] : List ByteArray))).bind fun bt191 => (if x6.size + bt191.1.size ≤ 9223372036854775807 then (spec_DrawNumbersOf.l0 k (x6 ++ bt191.1) (wrap64 (x7 + 1)) x173000 bt191.2.1 bt191.2.2 x178000 x178001) else (none))) else ((spec_l1Cur_sureDeliveries.f k x173000 x173001 x173002 1).bind fun bt194 => (if x6.size + bt194.1.size ≤ 9223372036854775807 then (spec_DrawNumbersOf.l0 k (x6 ++ bt194.1) (wrap64 (x7 + 1)) x173000 bt194.2.1 bt194.2.2 x178000 x178001) else (none)))
end
def spec_DrawNumbersOf.f (k : Nat) (l0 : List Int) : Option (Int × Int × ByteArray) := (spec_l1Cur_street.f l0 0 0).bind fun bt173 => ((spec_nuGood.f bt173.1 bt173.2.1).bind fun t178 => (if t178 = true then (if bt173.2.1 > 60 then (spec_DrawNumbersOf.j0 k true l0 bt173.2.2.1 bt173.2.2.2 bt173.1 bt173.2.1) else ((spec_l1Cur_one.f l0 bt173.2.2.1 bt173.2.2.2 12).bind fun bt179 => (spec_DrawNumbersOf.j0 k bt179.1 l0 bt179.2.1 bt179.2.2 bt173.1 bt173.2.1))) else (spec_DrawNumbersOf.j0 k true l0 bt173.2.2.1 bt173.2.2.2 bt173.1 bt173.2.1)))
theorem spec_DrawNumbersOf.zd : ∀ k, (∀ y0 y1 y2 y3 y4 y5, LeO (spec_DrawNumbersOf.j0 k y0 y1 y2 y3 y4 y5) (spec_DrawNumbersOf.j0 (k + 1) y0 y1 y2 y3 y4 y5)) ∧ (∀ y0 y1 y2 y3 y4 y5 y6, LeO (spec_DrawNumbersOf.l0 k y0 y1 y2 y3 y4 y5 y6) (spec_DrawNumbersOf.l0 (k + 1) y0 y1 y2 y3 y4 y5 y6)) ∧ (∀ y0 y1 y2 y3 y4 y5 y6 y7, LeO (spec_DrawNumbersOf.j2 k y0 y1 y2 y3 y4 y5 y6 y7) (spec_DrawNumbersOf.j2 (k + 1) y0 y1 y2 y3 y4 y5 y6 y7))
 | 0 => ⟨fun _ _ _ _ _ _ r h => by simp [spec_DrawNumbersOf.j0] at h, fun _ _ _ _ _ _ _ r h => by simp [spec_DrawNumbersOf.l0] at h, fun _ _ _ _ _ _ _ _ r h => by simp [spec_DrawNumbersOf.j2] at h⟩
 | k + 1 => by
  obtain ⟨ih0, ih1, ih2⟩ := spec_DrawNumbersOf.zd k
  refine ⟨?_, ?_, ?_⟩
  all_goals first | (intro y0 y1 y2 y3 y4 y5; unfold spec_DrawNumbersOf.j0) | (intro y0 y1 y2 y3 y4 y5 y6; unfold spec_DrawNumbersOf.l0) | (intro y0 y1 y2 y3 y4 y5 y6 y7; unfold spec_DrawNumbersOf.j2)
  all_goals (repeat' first | (with_reducible first | exact ih0 _ _ _ _ _ _ | exact ih1 _ _ _ _ _ _ _ | exact ih2 _ _ _ _ _ _ _ _ | exact spec_l1Cur_deliveries.mono _ _ _ _ | exact spec_l1Cur_sureDeliveries.mono _ _ _ _ _ | exact LeO.refl _ | exact LeO.none _ | refine LeO.ite ?_ ?_ | refine LeO.bind ?_ (fun _ => ?_)) | exact ih0 _ _ _ _ _ _ | exact ih1 _ _ _ _ _ _ _ | exact ih2 _ _ _ _ _ _ _ _ | exact spec_l1Cur_deliveries.mono _ _ _ _ | exact spec_l1Cur_sureDeliveries.mono _ _ _ _ _ | exact LeO.none _ | refine LeO.ite ?_ ?_ | refine LeO.bind ?_ (fun _ => ?_))
theorem spec_DrawNumbersOf.mono : ∀ a0 k, LeO (spec_DrawNumbersOf.f k a0) (spec_DrawNumbersOf.f (k + 1) a0) := by
 intro a0 k
 obtain ⟨ih0, ih1, ih2⟩ := spec_DrawNumbersOf.zd k
 unfold spec_DrawNumbersOf.f
 repeat' first | (with_reducible first | exact ih0 _ _ _ _ _ _ | exact ih1 _ _ _ _ _ _ _ | exact ih2 _ _ _ _ _ _ _ _ | exact spec_l1Cur_deliveries.mono _ _ _ _ | exact spec_l1Cur_sureDeliveries.mono _ _ _ _ _ | exact LeO.refl _ | exact LeO.none _ | refine LeO.ite ?_ ?_ | refine LeO.bind ?_ (fun _ => ?_)) | exact ih0 _ _ _ _ _ _ | exact ih1 _ _ _ _ _ _ _ | exact ih2 _ _ _ _ _ _ _ _ | exact spec_l1Cur_deliveries.mono _ _ _ _ | exact spec_l1Cur_sureDeliveries.mono _ _ _ _ _ | exact LeO.none _ | refine LeO.ite ?_ ?_ | refine LeO.bind ?_ (fun _ => ?_)
set_option maxHeartbeats 8000000 in
set_option maxRecDepth 100000 in
theorem spec_DrawNumbersOf.calls (k : Nat) (A0 : Option Addr) (c0 : Nat) (l0 : List Int) (r1 : Int) (r2 : Int) (r3 : ByteArray) (w : World) (hr0 : Kd.C (Kd.int .u8) w A0 l0.length l0) (hc0 : l0.length ≤ c0) (h : spec_DrawNumbersOf.f k l0 = some (r1, r2, r3)) :
  Calls Tryz.prog 32 #[.slice A0 l0.length c0] w fun e w' => e = .returned (.tuple #[.agg #[.int .i64 r1, .int .i64 r2], .string r3]) ∧ Below w.heap.size w w' := by
 have hu25 := Tryz.underlying25;have hu76 := Tryz.underlying76;have HR0 := qb.mk hr0;have HC0 := qb.mk hc0;clear hr0 hc0;have HB := qb.mk (Below.refl w.heap.size w);have H := h; clear h; unfold spec_DrawNumbersOf.f at H;replace H := bX_ H; obtain ⟨⟨d1, d2, d6, d7⟩, A2, H⟩ := H; (try dsimp only at H);have HC3 := qb.mk H;clear H
 go_enter Tryz.func32, Tryz.ntmps32
 go_upto_region 3 with (first | (refine bE_ 2 #[.int .i64 0, .int .i64 0] 25 ?_; intro b7 hg w4 hbox hb; have b3 := qb.mk (hbox); have g5 := qb.mk ((by rw [hg]; exact c3_ : w.heap.size ≤ b7)); have b8 := qb.mk ((by rw [hg]; exact c3_ : w.heap.size ≤ b7)); replace HB := qb.mk ac_; clear hb hbox hg) | (refine bE_ 10 #[.slice A0 l0.length c0, .int .i64 0, .int .u64 0] 76 ?_; intro b9 hg w5 hbox hb; have g6 := qb.mk ((by rw [hg]; exact (qn (be1_ HB b8)) : w.heap.size ≤ b9)); have g7 := qb.mk ((by rw [hg]; exact (qn (be1_ HB b8)) : w.heap.size ≤ b9)); have d4 := qb.mk ((by rw [hg]; exact Nat.ne_of_lt b9_ : b7 ≠ b9)); have b2 := qb.mk ((by rw [hg]; exact Nat.ne_of_gt b9_ : b9 ≠ b7)); replace b3 := qb.mk bs_; have HI172 := qb.mk ((⟨_, _, hbox, (by rw [hg]; exact (qn (be1_ HB b8))), HR0.out⟩ : IsS76 w w5 b9 l0 0 0)); replace HB := qb.mk (qo (be1_ HB b8) hb); clear hb hbox hg) | (refine gL_ 12 Tryz.func54 #[.pointer (some ⟨b9, 0, none⟩)] ?_; refine (spec_l1Cur_street.calls b9 l0 0 0 d1 d2 d6 d7 w _ (by repeat (first | (with_reducible first | exact HI172.out | apply IsS76.alloc | apply IsS76.drewN | apply IsS76.drew | apply IsS76.set_1 | apply IsS76.set_2 | refine IsS76.far ?_ b2.out _) | exact HI172.out)) (by repeat (first | (with_reducible first | exact HB.out | apply qd | apply qa | apply qe | refine qf ?_ aq_ | refine qf ?_ b8.out) | exact HB.out)) A2.out).mono ?_; rintro e w6 ⟨rfl, hi, hb, hk⟩; refine ⟨_, rfl, ?_⟩; replace b3 := qb.mk ah_; replace HB := qb.mk (hb); replace HI172 := qb.mk (hi); (try clear hb hk hi)) | (refine bE_ 5 #[.int .i64 0, .int .i64 0] 25 ?_; intro d0 hg w7 hbox hb; have b0 := qb.mk (hbox); have g8 := qb.mk ((by rw [hg]; exact (qn (by repeat (first | (with_reducible first | exact HB.out | apply qd | apply qa | apply qe | refine qf ?_ aq_ | refine qf ?_ b8.out) | exact HB.out))) : w.heap.size ≤ d0)); have d3 := qb.mk ((by rw [hg]; exact (qn (by repeat (first | (with_reducible first | exact HB.out | apply qd | apply qa | apply qe | refine qf ?_ aq_ | refine qf ?_ b8.out) | exact HB.out))) : w.heap.size ≤ d0)); replace HB := qb.mk (qo (by repeat (first | (with_reducible first | exact HB.out | apply qd | apply qa | apply qe | refine qf ?_ aq_ | refine qf ?_ b8.out) | exact HB.out)) hb); have b4 := qb.mk ((by rw [hg]; exact Nat.ne_of_lt b9_ : b7 ≠ d0)); have b5 := qb.mk ((by rw [hg]; exact Nat.ne_of_gt b9_ : d0 ≠ b7)); replace b3 := qb.mk bs_; have b1 := qb.mk ((by rw [hg]; exact Nat.ne_of_lt (IsS76.lt (show IsS76 w _ b9 l0 d6 d7 from by repeat (first | (with_reducible first | exact HI172.out | apply IsS76.alloc | apply IsS76.drewN | apply IsS76.drew | apply IsS76.set_1 | apply IsS76.set_2 | refine IsS76.far ?_ b2.out _) | exact HI172.out))) : b9 ≠ d0)); have b6 := qb.mk ((by rw [hg]; exact Nat.ne_of_gt (IsS76.lt (show IsS76 w _ b9 l0 d6 d7 from by repeat (first | (with_reducible first | exact HI172.out | apply IsS76.alloc | apply IsS76.drewN | apply IsS76.drew | apply IsS76.set_1 | apply IsS76.set_2 | refine IsS76.far ?_ b2.out _) | exact HI172.out))) : d0 ≠ b9)); replace HI172 := qb.mk (IsS76.below (by repeat (first | (with_reducible first | exact HI172.out | apply IsS76.alloc | apply IsS76.drewN | apply IsS76.drew | apply IsS76.set_1 | apply IsS76.set_2 | refine IsS76.far ?_ b2.out _) | exact HI172.out)) hb); clear hb hbox hg; have hnb8 := b5.out; have hnc8 := b4.out; have hnb9 := b6.out; have hnc9 := b1.out; have hcz10_0 := cC_ b0 0; have hcz10_1 := cC_ b0 1; have hfz10_0 := qi b0.out 0; have hfz10_1 := qi b0.out 1))
 (try simp only [Act.put, sA_, sB_, sC_])
 go_cut [24] (fun v24 wc => ∃ (kq : Nat) (x24_2 : Bool) (x173001_2 : Int) (x173002_2 : Int), v24 = .bool x24_2 ∧ qb (spec_DrawNumbersOf.j0 kq x24_2 l0 x173001_2 x173002_2 d1 d2 = some (r1, r2, r3)) ∧ qb (kq ≤ k) ∧ qb (wc.heap[b7]? = some (.cells #[.int .i64 0, .int .i64 0] 25 (0, 0))) ∧ qb (wc.heap[d0]? = some (.cells #[.int .i64 d1, .int .i64 d2] 25 (0, 0))) ∧ qb (IsS76 w wc b9 l0 x173001_2 x173002_2) ∧ qb (Below w.heap.size w wc))
 case first =>
  have H := HC3.out;clear HC3;replace H := bX_ H; obtain ⟨g9, A11, H⟩ := H;replace H := iB_ H; obtain ⟨rfl, H⟩ | ⟨rfl, H⟩ := H
  ·replace H := iC_ H; obtain ⟨c13, H⟩ | ⟨c13, H⟩ := H
   ·have c13b0 : decide (60 < d2) = true := decide_eq_true c13
    clear c13
    (first | rw [c13b0] | (simp only [i64_w, i32_w]; rw [c13b0]) | skip)
    have H' := qb.mk H;clear H;have hnb14 := b5.out;have hnc14 := b4.out;have hnb15 := b6.out;have hnc15 := b1.out;have hcz16_0 := cC_ b0 0;have hcz16_1 := cC_ b0 1;have hfz16_0 := qi b0.out 0;have hfz16_1 := qi b0.out 1
    go_wp2_with (first | (refine gL_ 14 Tryz.func59 #[.agg #[.int .i64 d1, .int .i64 d2]] ?_; refine (spec_nuGood.calls d1 d2 true _ A11.out).mono ?_; rintro e w17 ⟨rfl, hb⟩; refine ⟨_, rfl, ?_⟩; replace b3 := qb.mk (qw (g := b7) (o := .cells #[.int .i64 0, .int .i64 0] 25 (0, 0)) (by (with_reducible repeat (first | refine qh ?_ _ | refine qj ?_ | refine qg ?_ _)); refine zm ?_ b4.out _; (with_reducible repeat (first | refine qh ?_ _ | refine qj ?_ | refine qg ?_ _)); refine zm ?_ b4.out _; (with_reducible repeat (first | refine qh ?_ _ | refine qj ?_ | refine qg ?_ _)); exact b3.out) hb); replace b0 := qb.mk (qw (g := d0) (o := .cells #[.int .i64 d1, .int .i64 d2] 25 (0, 0)) (by (with_reducible repeat (first | refine qh ?_ _ | refine qj ?_ | refine qg ?_ _)); refine zr (cs := #[.int .i64 d1, .int .i64 0]) ?_ 1 _ rfl; (with_reducible repeat (first | refine qh ?_ _ | refine qj ?_ | refine qg ?_ _)); refine zr (cs := #[.int .i64 0, .int .i64 0]) ?_ 0 _ rfl; (with_reducible repeat (first | refine qh ?_ _ | refine qj ?_ | refine qg ?_ _)); exact b0.out) hb); replace HB := qb.mk (qo (by repeat (first | (with_reducible first | exact HB.out | apply qd | apply qa | apply qe | refine qf ?_ aq_ | refine qf ?_ b8.out | refine qf ?_ d3.out) | exact HB.out)) hb); replace HI172 := qb.mk (IsS76.below (show IsS76 w ((w7.setCell ⟨d0, 0, none⟩ (.int .i64 d1)).setCell ⟨d0, 1, none⟩ (.int .i64 d2)) b9 l0 d6 d7 from by repeat (first | (with_reducible first | exact HI172.out | apply IsS76.alloc | apply IsS76.drewN | apply IsS76.drew | apply IsS76.set_1 | apply IsS76.set_2 | refine IsS76.far ?_ b2.out _ | refine IsS76.far ?_ b1.out _) | exact HI172.out)) hb); (try clear hb); have hcz18_0 := cC_ b0 0; have hcz18_1 := cC_ b0 1; have hfz18_0 := qi b0.out 0; have hfz18_1 := qi b0.out 1))
    exact ln_
   ·have c13b0 : decide (60 < d2) = false := decide_eq_false c13
    clear c13
    (first | rw [c13b0] | (simp only [i64_w, i32_w]; rw [c13b0]) | skip)
    replace H := bX_ H; obtain ⟨⟨f2, f3, f4⟩, A19, H⟩ := H; (try dsimp only at H);have H' := qb.mk H;clear H;have hnb20 := b5.out;have hnc20 := b4.out;have hnb21 := b6.out;have hnc21 := b1.out;have hcz22_0 := cC_ b0 0;have hcz22_1 := cC_ b0 1;have hfz22_0 := qi b0.out 0;have hfz22_1 := qi b0.out 1
    go_wp2_with (first | (refine gL_ 14 Tryz.func59 #[.agg #[.int .i64 d1, .int .i64 d2]] ?_; refine (spec_nuGood.calls d1 d2 true _ A11.out).mono ?_; rintro e w23 ⟨rfl, hb⟩; refine ⟨_, rfl, ?_⟩; replace b3 := qb.mk (qw (g := b7) (o := .cells #[.int .i64 0, .int .i64 0] 25 (0, 0)) (by (with_reducible repeat (first | refine qh ?_ _ | refine qj ?_ | refine qg ?_ _)); refine zm ?_ b4.out _; (with_reducible repeat (first | refine qh ?_ _ | refine qj ?_ | refine qg ?_ _)); refine zm ?_ b4.out _; (with_reducible repeat (first | refine qh ?_ _ | refine qj ?_ | refine qg ?_ _)); exact b3.out) hb); replace b0 := qb.mk (qw (g := d0) (o := .cells #[.int .i64 d1, .int .i64 d2] 25 (0, 0)) (by (with_reducible repeat (first | refine qh ?_ _ | refine qj ?_ | refine qg ?_ _)); refine zr (cs := #[.int .i64 d1, .int .i64 0]) ?_ 1 _ rfl; (with_reducible repeat (first | refine qh ?_ _ | refine qj ?_ | refine qg ?_ _)); refine zr (cs := #[.int .i64 0, .int .i64 0]) ?_ 0 _ rfl; (with_reducible repeat (first | refine qh ?_ _ | refine qj ?_ | refine qg ?_ _)); exact b0.out) hb); replace HB := qb.mk (qo (by repeat (first | (with_reducible first | exact HB.out | apply qd | apply qa | apply qe | refine qf ?_ aq_ | refine qf ?_ b8.out | refine qf ?_ d3.out) | exact HB.out)) hb); replace HI172 := qb.mk (IsS76.below (show IsS76 w ((w7.setCell ⟨d0, 0, none⟩ (.int .i64 d1)).setCell ⟨d0, 1, none⟩ (.int .i64 d2)) b9 l0 d6 d7 from by repeat (first | (with_reducible first | exact HI172.out | apply IsS76.alloc | apply IsS76.drewN | apply IsS76.drew | apply IsS76.set_1 | apply IsS76.set_2 | refine IsS76.far ?_ b2.out _ | refine IsS76.far ?_ b1.out _) | exact HI172.out)) hb); (try clear hb); have hcz24_0 := cC_ b0 0; have hcz24_1 := cC_ b0 1; have hfz24_0 := qi b0.out 0; have hfz24_1 := qi b0.out 1) | (go_at_call 57; (with_reducible refine (spec_l1Cur_one.calls b9 l0 d6 d7 12 f2 f3 f4 w _ ?side1 ?side2 A19.out).mono ?_); (case side1 => repeat (first | (with_reducible first | exact HI172.out | apply IsS76.alloc | apply IsS76.drewN | apply IsS76.drew | apply IsS76.set_1 | apply IsS76.set_2 | refine IsS76.far ?_ b2.out _ | refine IsS76.far ?_ b1.out _) | exact HI172.out)); (case side2 => repeat (first | (with_reducible first | exact HB.out | apply qd | apply qa | apply qe | refine qf ?_ aq_ | refine qf ?_ b8.out | refine qf ?_ d3.out) | exact HB.out)); rintro e w25 ⟨rfl, hi, hb, hk⟩; replace b3 := qb.mk ah_; replace b0 := qb.mk ap_; replace HB := qb.mk (hb); replace HI172 := qb.mk (hi); (try clear hb hk hi)))
    go_meet
    case rel => exact ⟨_, (f2), (f3), (f4), es_, H', ⟨by first | omega | exact Nat.le_refl _⟩, ⟨bk_ b3⟩, ⟨bk_ b0⟩, ⟨by repeat (first | (with_reducible first | exact HI172.out | apply IsS76.alloc | apply IsS76.drewN | apply IsS76.drew | apply IsS76.set_1 | apply IsS76.set_2 | refine IsS76.far ?_ b2.out _ | refine IsS76.far ?_ b1.out _) | exact HI172.out)⟩, ⟨by repeat (first | (with_reducible first | exact HB.out | apply qd | apply qa | apply qe | refine qf ?_ aq_ | refine qf ?_ b8.out | refine qf ?_ d3.out) | exact HB.out)⟩⟩
  ·have H' := qb.mk H
   clear H;have hnb26 := b5.out;have hnc26 := b4.out;have hnb27 := b6.out;have hnc27 := b1.out;have hcz28_0 := cC_ b0 0;have hcz28_1 := cC_ b0 1;have hfz28_0 := qi b0.out 0;have hfz28_1 := qi b0.out 1
   go_wp2_with (first | (refine gL_ 14 Tryz.func59 #[.agg #[.int .i64 d1, .int .i64 d2]] ?_; refine (spec_nuGood.calls d1 d2 false _ A11.out).mono ?_; rintro e w29 ⟨rfl, hb⟩; refine ⟨_, rfl, ?_⟩; replace b3 := qb.mk (qw (g := b7) (o := .cells #[.int .i64 0, .int .i64 0] 25 (0, 0)) (by (with_reducible repeat (first | refine qh ?_ _ | refine qj ?_ | refine qg ?_ _)); refine zm ?_ b4.out _; (with_reducible repeat (first | refine qh ?_ _ | refine qj ?_ | refine qg ?_ _)); refine zm ?_ b4.out _; (with_reducible repeat (first | refine qh ?_ _ | refine qj ?_ | refine qg ?_ _)); exact b3.out) hb); replace b0 := qb.mk (qw (g := d0) (o := .cells #[.int .i64 d1, .int .i64 d2] 25 (0, 0)) (by (with_reducible repeat (first | refine qh ?_ _ | refine qj ?_ | refine qg ?_ _)); refine zr (cs := #[.int .i64 d1, .int .i64 0]) ?_ 1 _ rfl; (with_reducible repeat (first | refine qh ?_ _ | refine qj ?_ | refine qg ?_ _)); refine zr (cs := #[.int .i64 0, .int .i64 0]) ?_ 0 _ rfl; (with_reducible repeat (first | refine qh ?_ _ | refine qj ?_ | refine qg ?_ _)); exact b0.out) hb); replace HB := qb.mk (qo (by repeat (first | (with_reducible first | exact HB.out | apply qd | apply qa | apply qe | refine qf ?_ aq_ | refine qf ?_ b8.out | refine qf ?_ d3.out) | exact HB.out)) hb); replace HI172 := qb.mk (IsS76.below (show IsS76 w ((w7.setCell ⟨d0, 0, none⟩ (.int .i64 d1)).setCell ⟨d0, 1, none⟩ (.int .i64 d2)) b9 l0 d6 d7 from by repeat (first | (with_reducible first | exact HI172.out | apply IsS76.alloc | apply IsS76.drewN | apply IsS76.drew | apply IsS76.set_1 | apply IsS76.set_2 | refine IsS76.far ?_ b2.out _ | refine IsS76.far ?_ b1.out _) | exact HI172.out)) hb); (try clear hb)))
   exact ln_
 case rest =>
  clear HC3;(try clear c13);(try clear c13b0);(try clear hcz10_0);(try clear hcz10_1);(try clear hcz16_0);(try clear hcz16_1);(try clear hcz18_0);(try clear hcz18_1);(try clear hcz22_0);(try clear hcz22_1);(try clear hcz24_0);(try clear hcz24_1);(try clear hcz28_0);(try clear hcz28_1);(try clear hfz10_0);(try clear hfz10_1);(try clear hfz16_0);(try clear hfz16_1);(try clear hfz18_0);(try clear hfz18_1);(try clear hfz22_0);(try clear hfz22_1);(try clear hfz24_0);(try clear hfz24_1);(try clear hfz28_0);(try clear hfz28_1);obtain ⟨kq, x24_2, x173001_2, x173002_2, rfl, HA, HJ2, b3, b0, HI172, HB⟩ := hcut;cases kq with
  | zero => exact absurd HA.out (by simp [spec_DrawNumbersOf.j0])
  | succ kj2 =>
   have H := HA.out;clear HA
   simp only [spec_DrawNumbersOf.j0] at H
   replace H := iB_ H; obtain ⟨rfl, H⟩ | ⟨rfl, H⟩ := H
   ·replace H := bX_ H; obtain ⟨⟨g2, g3, g4⟩, A31, H⟩ := H; (try dsimp only at H)
    replace H := iQ_ H; obtain ⟨rfl, rfl, rfl⟩ := H
    try go_wp2
    have n0_ := qb.mk (qj b3.out);have n1_ := qb.mk (qj b0.out);have n2_ := qb.mk (IsS76.drew HI172.out);have n3_ := qb.mk (qe HB.out);clear b3;clear b0;clear HI172;clear HB;have b3 := n0_;have b0 := n1_;have HI172 := n2_;have HB := n3_;clear n0_ n1_ n2_ n3_
    refine start_ (n := 5) (S := fun w' => w'.cell? ⟨d0, 0, none⟩ = some (.int .i64 d1) ∧ w'.cell? ⟨d0, 1, none⟩ = some (.int .i64 d2)) (ds := []) #[false, false, false, false, false] a9_ rfl rfl ⟨(qk b0.out 0).trans rfl, (qk b0.out 1).trans rfl⟩ (fun hHeld => ?_)
    generalize wc.drew = w32 at b3 b0 HI172 HB hHeld ⊢
    refine pu_ 1 26 ?_
    refine take_ (i := 0) (N := some 25) (v := ?_) (a' := ?_) #[true, true, false, false, false] rfl rfl a9_ (fun _ _ _ h => h) (Or.inl ⟨(by rfl), ?_⟩) hHeld ?_ ?_
    rotate_left
    ·rintro w' ⟨s0, s1⟩
     go_simp
     with_reducible rfl
    rotate_left
    ·simp only [Act.put, sA_, sB_, sC_, i64_w, i32_w]
     rfl
    refine one_ (i := 2) (N := some 27) #[true, true, true, false, false] rfl rfl a9_ (by decide) (fun K hK => ?_)
    refine goes_ Tryz.func63 a9_ rfl #[.pointer (some ⟨b9, 0, none⟩)] (by rfl) rfl rfl al_ ?_
    with_reducible refine (spec_l1Cur_deliveries.calls kj2 b9 l0 x173001_2 x173002_2 g2 g3 g4 w _ ?side1 ?side2 A31.out).mono ?_
    (case side1 => repeat (first | (with_reducible first | exact HI172.out | apply IsS76.alloc | apply IsS76.drewN | apply IsS76.drew | apply IsS76.set_1 | apply IsS76.set_2 | refine IsS76.far ?_ b2.out _ | refine IsS76.far ?_ b1.out _) | exact HI172.out))
    (case side2 => repeat (first | (with_reducible first | exact HB.out | apply qd | apply qa | apply qe | refine qf ?_ aq_ | refine qf ?_ b8.out | refine qf ?_ d3.out) | exact HB.out))
    rintro e w33 ⟨rfl, hi, hb, hk⟩
    refine ⟨_, rfl, ?_⟩
    have n0_ := qb.mk ah_;have n1_ := qb.mk ap_;have n2_ := qb.mk (hb);have n3_ := qb.mk (hi);clear b3;clear b0;clear HB;clear HI172;have b3 := n0_;have b0 := n1_;have HB := n2_;have HI172 := n3_;clear n0_ n1_ n2_ n3_;(try clear hb);(try clear hb2);(try clear hk);(try clear hi)
    refine hK.out _ _ ⟨(qk b0.out 0).trans rfl, (qk b0.out 1).trans rfl⟩ (fun hHeld => ?_)
    clear hK K
    refine no_ ?_
    refine one_ (i := 3) (N := none) #[true, true, true, true, false] rfl rfl a9_ (by decide) (fun K hK => ?_)
    have hs34 := cC_ b3 0;have hfs34 := qi b3.out 0;have hns34_1 := b5.out;have hms34_1 := b4.out;have hs35 := cC_ b3 1;have hfs35 := qi b3.out 1;have hns35_1 := b5.out;have hms35_1 := b4.out
    refine skip_ (w1 := ?_) (by rfl) rfl ?_ ?_
    rotate_left
    ·go_simp
     rfl
    refine hK.out _ _ ⟨((cell_far (p := ⟨b7, _, none⟩) b5.out _).trans (((cell_far (p := ⟨b7, _, none⟩) b5.out _).trans (hHeld.1)))), ((cell_far (p := ⟨b7, _, none⟩) b5.out _).trans (((cell_far (p := ⟨b7, _, none⟩) b5.out _).trans (hHeld.2))))⟩ (fun hHeld => ?_)
    clear hK K
    refine pu_ 4 3 ?_
    refine done_ a9_ ?_
    try go_wp2
    exact lj_
   ·have H' := qb.mk H
    clear H
    go_wp2
    go_loopg [6, 7] kj2 (fun kq v6 v7 w' => ∃ (x6_2 : ByteArray) (x7_2 : Int) (x173001_2 : Int) (x173002_2 : Int), v6 = .string x6_2 ∧ v7 = .int .i64 x7_2 ∧ qb (spec_DrawNumbersOf.l0 kq x6_2 x7_2 l0 x173001_2 x173002_2 d1 d2 = some (r1, r2, r3)) ∧ qb (kq ≤ kj2) ∧ qb (w'.heap[b7]? = some (.cells #[.int .i64 0, .int .i64 0] 25 (0, 0))) ∧ qb (w'.heap[d0]? = some (.cells #[.int .i64 d1, .int .i64 d2] 25 (0, 0))) ∧ qb (IsS76 w w' b9 l0 x173001_2 x173002_2) ∧ qb (Below w.heap.size w w'))
    case atStart => exact ⟨((⟨#[]⟩ : ByteArray)), (0), (x173001_2), (x173002_2), es_, es_, H', ⟨Nat.le_refl _⟩, ⟨bk_ b3⟩, ⟨bk_ b0⟩, ⟨by repeat (first | (with_reducible first | exact HI172.out | apply IsS76.alloc | apply IsS76.drewN | apply IsS76.drew | apply IsS76.set_1 | apply IsS76.set_2 | refine IsS76.far ?_ b2.out _ | refine IsS76.far ?_ b1.out _) | exact HI172.out)⟩, ⟨by repeat (first | (with_reducible first | exact HB.out | apply qd | apply qa | apply qe | refine qf ?_ aq_ | refine qf ?_ b8.out | refine qf ?_ d3.out) | exact HB.out)⟩⟩
    case round =>
     clear H';(try clear c13);(try clear c13b0);(try clear hcz10_0);(try clear hcz10_1);(try clear hcz16_0);(try clear hcz16_1);(try clear hcz18_0);(try clear hcz18_1);(try clear hcz22_0);(try clear hcz22_1);(try clear hcz24_0);(try clear hcz24_1);(try clear hcz28_0);(try clear hcz28_1);(try clear hfz10_0);(try clear hfz10_1);(try clear hfz16_0);(try clear hfz16_1);(try clear hfz18_0);(try clear hfz18_1);(try clear hfz22_0);(try clear hfz22_1);(try clear hfz24_0);(try clear hfz24_1);(try clear hfz28_0);(try clear hfz28_1);obtain ⟨x6_2, x7_2, x173001_2, x173002_2, rfl, rfl, HA, HK2, b3, b0, HI172, HB⟩ := hrel;cases gk with
     | zero => exact absurd HA.out (by simp [spec_DrawNumbersOf.l0])
     | succ k2 =>
      have H := HA.out;clear HA
      simp only [spec_DrawNumbersOf.l0] at H
      replace H := iD_ H; obtain ⟨c36b0, H⟩ | ⟨c36b0, H⟩ := H
      ·have HC37 := qb.mk H
       clear H;have hnb38 := b5.out;have hnc38 := b4.out;have hnb39 := b6.out;have hnc39 := b1.out;have hcz40_0 := cC_ b0 0;have hcz40_1 := cC_ b0 1;have hfz40_0 := qi b0.out 0;have hfz40_1 := qi b0.out 1
       go_upto_region 9 with (fail)
       go_cut [41] (fun v41 wc => ∃ (kq : Nat) (x41_36 : Bool) (x173001_36 : Int) (x173002_36 : Int), v41 = .bool x41_36 ∧ qb (spec_DrawNumbersOf.j2 kq x6_2 x7_2 x41_36 l0 x173001_36 x173002_36 d1 d2 = some (r1, r2, r3)) ∧ qb (kq ≤ k2) ∧ qb (wc.heap[b7]? = some (.cells #[.int .i64 0, .int .i64 0] 25 (0, 0))) ∧ qb (wc.heap[d0]? = some (.cells #[.int .i64 d1, .int .i64 d2] 25 (0, 0))) ∧ qb (IsS76 w wc b9 l0 x173001_36 x173002_36) ∧ qb (Below w.heap.size w wc))
       case first =>
        have H := HC37.out;clear HC37;replace H := iE_ H; obtain ⟨c41b0, c41b1, H⟩ | ⟨c41, c41b0, c41b1, H⟩ := H
        ·(first | rw [c41b0] | (simp only [i64_w, i32_w]; rw [c41b0]) | skip)
         replace H := bX_ H; obtain ⟨⟨f5, f6, f7⟩, A42, H⟩ := H; (try dsimp only at H);have H' := qb.mk H;clear H;have hnb43 := b5.out;have hnc43 := b4.out;have hnb44 := b6.out;have hnc44 := b1.out;have hcz45_0 := cC_ b0 0;have hcz45_1 := cC_ b0 1;have hfz45_0 := qi b0.out 0;have hfz45_1 := qi b0.out 1
         go_wp2_with (first | (go_at_call 57; (with_reducible refine (spec_l1Cur_one.calls b9 l0 x173001_2 x173002_2 12 f5 f6 f7 w _ ?side1 ?side2 A42.out).mono ?_); (case side1 => repeat (first | (with_reducible first | exact HI172.out | apply IsS76.alloc | apply IsS76.drewN | apply IsS76.drew | apply IsS76.set_1 | apply IsS76.set_2 | refine IsS76.far ?_ b2.out _ | refine IsS76.far ?_ b1.out _) | exact HI172.out)); (case side2 => repeat (first | (with_reducible first | exact HB.out | apply qd | apply qa | apply qe | refine qf ?_ aq_ | refine qf ?_ b8.out | refine qf ?_ d3.out) | exact HB.out)); rintro e w46 ⟨rfl, hi, hb, hk⟩; replace b3 := qb.mk ah_; replace b0 := qb.mk ap_; replace HB := qb.mk (hb); replace HI172 := qb.mk (hi); (try clear hb hk hi)))
         go_meet
         case rel => exact ⟨_, (!f5), (f6), (f7), es_, H', ⟨by have := HJ2.out; have := HK2.out; first | omega | exact Nat.le_refl _⟩, ⟨bk_ b3⟩, ⟨bk_ b0⟩, ⟨by repeat (first | (with_reducible first | exact HI172.out | apply IsS76.alloc | apply IsS76.drewN | apply IsS76.drew | apply IsS76.set_1 | apply IsS76.set_2 | refine IsS76.far ?_ b2.out _ | refine IsS76.far ?_ b1.out _) | exact HI172.out)⟩, ⟨by repeat (first | (with_reducible first | exact HB.out | apply qd | apply qa | apply qe | refine qf ?_ aq_ | refine qf ?_ b8.out | refine qf ?_ d3.out) | exact HB.out)⟩⟩
        ·(first | rw [c41b0] | (simp only [i64_w, i32_w]; rw [c41b0]) | skip)
         have H' := qb.mk H;clear H;have hnb47 := b5.out;have hnc47 := b4.out;have hnb48 := b6.out;have hnc48 := b1.out;have hcz49_0 := cC_ b0 0;have hcz49_1 := cC_ b0 1;have hfz49_0 := qi b0.out 0;have hfz49_1 := qi b0.out 1
         go_wp2
         go_meet
         case rel => exact ⟨_, (false), (x173001_2), (x173002_2), es_, H', ⟨by have := HJ2.out; have := HK2.out; first | omega | exact Nat.le_refl _⟩, ⟨bk_ b3⟩, ⟨bk_ b0⟩, ⟨by repeat (first | (with_reducible first | exact HI172.out | apply IsS76.alloc | apply IsS76.drewN | apply IsS76.drew | apply IsS76.set_1 | apply IsS76.set_2 | refine IsS76.far ?_ b2.out _ | refine IsS76.far ?_ b1.out _) | exact HI172.out)⟩, ⟨by repeat (first | (with_reducible first | exact HB.out | apply qd | apply qa | apply qe | refine qf ?_ aq_ | refine qf ?_ b8.out | refine qf ?_ d3.out) | exact HB.out)⟩⟩
       case rest =>
        clear HC37;(try clear c13);(try clear c13b0);(try clear c36b0);(try clear c41);(try clear c41b0);(try clear c41b1);(try clear hcz10_0);(try clear hcz10_1);(try clear hcz16_0);(try clear hcz16_1);(try clear hcz18_0);(try clear hcz18_1);(try clear hcz22_0);(try clear hcz22_1);(try clear hcz24_0);(try clear hcz24_1);(try clear hcz28_0);(try clear hcz28_1);(try clear hcz40_0);(try clear hcz40_1);(try clear hcz45_0);(try clear hcz45_1);(try clear hcz49_0);(try clear hcz49_1);(try clear hfz10_0);(try clear hfz10_1);(try clear hfz16_0);(try clear hfz16_1);(try clear hfz18_0);(try clear hfz18_1);(try clear hfz22_0);(try clear hfz22_1);(try clear hfz24_0);(try clear hfz24_1);(try clear hfz28_0);(try clear hfz28_1);(try clear hfz40_0);(try clear hfz40_1);(try clear hfz45_0);(try clear hfz45_1);(try clear hfz49_0);(try clear hfz49_1);obtain ⟨kq, x41_36, x173001_36, x173002_36, rfl, HA, HJ36, b3, b0, HI172, HB⟩ := hcut;cases kq with
        | zero => exact absurd HA.out (by simp [spec_DrawNumbersOf.j2])
        | succ kj36 =>
         have H := HA.out;clear HA
         simp only [spec_DrawNumbersOf.j2] at H
         replace H := iB_ H; obtain ⟨rfl, H⟩ | ⟨rfl, H⟩ := H
         ·obtain ⟨f1, hy188⟩ : ∃ y_ : List ByteArray, y_ = (([(⟨#[108]⟩ : ByteArray), (⟨#[45]⟩ : ByteArray)] : List ByteArray)) := ⟨_, rfl⟩
          replace H : ((spec_l1Cur_of.f l0 x173001_36 x173002_36 f1).bind fun bt191 => (if x6_2.size + bt191.1.size ≤ 9223372036854775807 then (spec_DrawNumbersOf.l0 kj36 (x6_2 ++ bt191.1) (wrap64 (x7_2 + 1)) l0 bt191.2.1 bt191.2.2 d1 d2) else (none))) = some (r1, r2, r3) := by first | (rw [hy188]; with_reducible exact H) | (have H2_ := (Option.bind_some _ _).symm.trans H; rw [hy188]; with_reducible exact H2_) | (have H2_ := (Option.bind_some _ _).symm.trans H; with_reducible exact H2_) | with_reducible exact H | (rw [hy188]; exact H) | exact H
          have f0 := qb.mk hy188;clear hy188;replace H := bX_ H; obtain ⟨⟨d8, f8, f9⟩, A51, H⟩ := H; (try dsimp only at H);replace H := iC_ H; obtain ⟨c52, H⟩ | ⟨c52, H⟩ := H
          ·have c52b0 := eq_true c52
           have c52b1 : decide (x6_2.size + d8.size ≤ 9223372036854775807) = true := decide_eq_true c52
           try have c52b2 : (9223372036854775807 < x6_2.size + d8.size) = False := eq_false (Nat.not_lt.2 c52)
           have H' := qb.mk H;clear H
           go_wp2_with (first | ((with_reducible refine zc (N := 44) rfl ?_); refine Kd.R_lit Kd.string _ 9 ?hg (N := 44) ?hd (xs := ([(⟨#[108]⟩ : ByteArray), (⟨#[45]⟩ : ByteArray)] : List ByteArray)) (inner := [.string (⟨#[108]⟩ : ByteArray), .string (⟨#[45]⟩ : ByteArray)]) (ok := fun _ => True) (okp := fun _ => True) ?hr ?hp (fun _ hk => hk) trivial (Below.refl _ _) (Nat.le_refl _) (by simp) ?_; (case hd => rfl); (case hg => rfl); (case hr => first | (go_simp; done) | (go_simp; rfl)); (case hp => exact (Reps.one (show Kd.M Kd.string _ _ _ (⟨#[108]⟩ : ByteArray) [.string (⟨#[108]⟩ : ByteArray)] from rfl) (Reps.one (show Kd.M Kd.string _ _ _ (⟨#[45]⟩ : ByteArray) [.string (⟨#[45]⟩ : ByteArray)] from rfl) (Reps.none _ _)))); intro v189 w53 ho54 hb hg_ hnew_; clear hg_ hnew_; (first | rw [← f0.out] at ho54 | (simp only [Int.reduceToNat] at ho54; rw [← f0.out] at ho54)); have d5 := qb.mk (Kd.R_lower ho54 (qn (by repeat (first | (with_reducible first | exact HB.out | apply qd | apply qa | apply qe | refine qf ?_ aq_ | refine qf ?_ b8.out | refine qf ?_ d3.out) | exact HB.out)))); replace b3 := qb.mk bs_; replace b0 := qb.mk (qw (g := d0) (o := .cells #[.int .i64 d1, .int .i64 d2] 25 (0, 0)) (bk_ b0) hb); replace HB := qb.mk (qo (by repeat (first | (with_reducible first | exact HB.out | apply qd | apply qa | apply qe | refine qf ?_ aq_ | refine qf ?_ b8.out | refine qf ?_ d3.out) | exact HB.out)) hb); replace HI172 := qb.mk (IsS76.below (by repeat (first | (with_reducible first | exact HI172.out | apply IsS76.alloc | apply IsS76.drewN | apply IsS76.drew | apply IsS76.set_1 | apply IsS76.set_2 | refine IsS76.far ?_ b2.out _ | refine IsS76.far ?_ b1.out _) | exact HI172.out)) hb); clear hb ho54; obtain ⟨Ao55, co55, eo55⟩ := Kd.ja d5.out; subst eo55) | (refine gL_ 45 Tryz.func69 #[.pointer (some ⟨b9, 0, none⟩), .slice Ao55 f1.length co55] ?_; refine (spec_l1Cur_of.calls b9 l0 x173001_36 x173002_36 _ _ f1 d8 f8 f9 w _ (by repeat (first | (with_reducible first | exact HI172.out | apply IsS76.alloc | apply IsS76.drewN | apply IsS76.drew | apply IsS76.set_1 | apply IsS76.set_2 | refine IsS76.far ?_ b2.out _ | refine IsS76.far ?_ b1.out _) | exact HI172.out)) (by repeat (first | (with_reducible first | exact HB.out | apply qd | apply qa | apply qe | refine qf ?_ aq_ | refine qf ?_ b8.out | refine qf ?_ d3.out) | exact HB.out)) (by repeat (first | exact (Kd.ze d5.out).2.2 | (with_reducible refine Kd.zu ?_ _) | (with_reducible refine Kd.zt ?_ _) | (with_reducible refine Kd.zz ?_))) ((Kd.ze d5.out).2.1) (far_slice (IsS76.own_ne HI172.out d5.out (by decide))) A51.out).mono ?_; rintro e w56 ⟨rfl, hi, hb, hk⟩; refine ⟨_, rfl, ?_⟩; replace b3 := qb.mk ah_; replace b0 := qb.mk ap_; replace d5 := qb.mk (Kd.zl (Kd.R_keep (IsS76.apart (show IsS76 w _ b9 l0 x173001_36 x173002_36 from by repeat (first | (with_reducible first | exact HI172.out | apply IsS76.alloc | apply IsS76.drewN | apply IsS76.drew | apply IsS76.set_1 | apply IsS76.set_2 | refine IsS76.far ?_ b2.out _ | refine IsS76.far ?_ b1.out _) | exact HI172.out)) (kr_ d5) (by decide)) hk (fun _ h => h.2)) (fun _ h => h.1)); replace HB := qb.mk (hb); replace HI172 := qb.mk (hi); (try clear hb hk hi)))
           go_roundg kj36
           case measure => have := HJ2.out; have := HK2.out; have := HJ36.out; omega
           case rel => exact ⟨(x6_2 ++ d8), (wrap64 (x7_2 + 1)), (f8), (f9), es_, es_, H', ⟨by have := HJ2.out; have := HK2.out; have := HJ36.out; omega⟩, ⟨bk_ b3⟩, ⟨bk_ b0⟩, ⟨by repeat (first | (with_reducible first | exact HI172.out | apply IsS76.alloc | apply IsS76.drewN | apply IsS76.drew | apply IsS76.set_1 | apply IsS76.set_2 | refine IsS76.far ?_ b2.out _ | refine IsS76.far ?_ b1.out _) | exact HI172.out)⟩, ⟨by repeat (first | (with_reducible first | exact HB.out | apply qd | apply qa | apply qe | refine qf ?_ aq_ | refine qf ?_ b8.out | refine qf ?_ d3.out) | exact HB.out)⟩⟩
          ·cases H
         ·replace H := bX_ H; obtain ⟨⟨d9, g0, g1⟩, A57, H⟩ := H; (try dsimp only at H)
          replace H := iC_ H; obtain ⟨c58, H⟩ | ⟨c58, H⟩ := H
          ·have c58b0 := eq_true c58
           have c58b1 : decide (x6_2.size + d9.size ≤ 9223372036854775807) = true := decide_eq_true c58
           try have c58b2 : (9223372036854775807 < x6_2.size + d9.size) = False := eq_false (Nat.not_lt.2 c58)
           have H' := qb.mk H;clear H
           go_wp2_with (first | (refine gL_ 49 Tryz.func68 #[.pointer (some ⟨b9, 0, none⟩), .int .i64 1] ?_; refine (spec_l1Cur_sureDeliveries.calls kj36 b9 l0 x173001_36 x173002_36 1 d9 g0 g1 w _ (by repeat (first | (with_reducible first | exact HI172.out | apply IsS76.alloc | apply IsS76.drewN | apply IsS76.drew | apply IsS76.set_1 | apply IsS76.set_2 | refine IsS76.far ?_ b2.out _ | refine IsS76.far ?_ b1.out _) | exact HI172.out)) (by repeat (first | (with_reducible first | exact HB.out | apply qd | apply qa | apply qe | refine qf ?_ aq_ | refine qf ?_ b8.out | refine qf ?_ d3.out) | exact HB.out)) A57.out).mono ?_; rintro e w59 ⟨rfl, hi, hb, hk⟩; refine ⟨_, rfl, ?_⟩; replace b3 := qb.mk ah_; replace b0 := qb.mk ap_; replace HB := qb.mk (hb); replace HI172 := qb.mk (hi); (try clear hb hk hi)))
           go_roundg kj36
           case measure => have := HJ2.out; have := HK2.out; have := HJ36.out; omega
           case rel => exact ⟨(x6_2 ++ d9), (wrap64 (x7_2 + 1)), (g0), (g1), es_, es_, H', ⟨by have := HJ2.out; have := HK2.out; have := HJ36.out; omega⟩, ⟨bk_ b3⟩, ⟨bk_ b0⟩, ⟨by repeat (first | (with_reducible first | exact HI172.out | apply IsS76.alloc | apply IsS76.drewN | apply IsS76.drew | apply IsS76.set_1 | apply IsS76.set_2 | refine IsS76.far ?_ b2.out _ | refine IsS76.far ?_ b1.out _) | exact HI172.out)⟩, ⟨by repeat (first | (with_reducible first | exact HB.out | apply qd | apply qa | apply qe | refine qf ?_ aq_ | refine qf ?_ b8.out | refine qf ?_ d3.out) | exact HB.out)⟩⟩
          ·cases H
      ·replace H := iQ_ H; obtain ⟨rfl, rfl, rfl⟩ := H
       have hnb60 := b5.out;have hnc60 := b4.out;have hnb61 := b6.out;have hnc61 := b1.out;have hcz62_0 := cC_ b0 0;have hcz62_1 := cC_ b0 1;have hfz62_0 := qi b0.out 0;have hfz62_1 := qi b0.out 1;have hnb63 := d4.out;have hnc63 := b2.out;have hcz64_0 := cC_ b3 0;have hcz64_1 := cC_ b3 1;have hfz64_0 := qi b3.out 0;have hfz64_1 := qi b3.out 1
       go_wp2
       exact lj_
def spec_DrawRouteNumbers.f (k : Nat) (l0 : List Int) : Option (Int × Int × ByteArray × Int) := (spec_DrawNumbersOf.f k l0).bind fun bt198 => (some (bt198.1, bt198.2.1, bt198.2.2, (l0.length : Int) % 4))
theorem spec_DrawRouteNumbers.mono : ∀ a0 k, LeO (spec_DrawRouteNumbers.f k a0) (spec_DrawRouteNumbers.f (k + 1) a0) := by
 intro a0 k
 unfold spec_DrawRouteNumbers.f
 repeat' first | (with_reducible first | exact spec_DrawNumbersOf.mono _ _ | exact LeO.refl _ | exact LeO.none _ | refine LeO.ite ?_ ?_ | refine LeO.bind ?_ (fun _ => ?_)) | exact spec_DrawNumbersOf.mono _ _ | exact LeO.none _ | refine LeO.ite ?_ ?_ | refine LeO.bind ?_ (fun _ => ?_)
set_option maxHeartbeats 8000000 in
set_option maxRecDepth 100000 in
theorem spec_DrawRouteNumbers.calls (k : Nat) (A0 : Option Addr) (c0 : Nat) (l0 : List Int) (r1 : Int) (r2 : Int) (r3 : ByteArray) (r4 : Int) (w : World) (hr0 : Kd.C (Kd.int .u8) w A0 l0.length l0) (hc0 : l0.length ≤ c0) (h : spec_DrawRouteNumbers.f k l0 = some (r1, r2, r3, r4)) :
  Calls Tryz.prog 5 #[.slice A0 l0.length c0] w fun e w' => e = .returned (.tuple #[.agg #[.int .i64 r1, .int .i64 r2], .string r3, .int .i64 r4]) ∧ Below w.heap.size w w' := by
 have hu25 := Tryz.underlying25
 have HR0 := qb.mk hr0
 have HC0 := qb.mk hc0
 clear hr0 hc0
 have HB := qb.mk (Below.refl w.heap.size w)
 have H := h; clear h; unfold spec_DrawRouteNumbers.f at H
 replace H := bX_ H; obtain ⟨⟨t198, t199, t200⟩, A2, H⟩ := H; (try dsimp only at H)
 simp only [Option.some.injEq, Prod.mk.injEq] at H
 obtain ⟨rfl, rfl, rfl, rfl⟩ := H
 go_enter Tryz.func5, Tryz.ntmps5
 go_wp2_with (first | (refine bE_ 2 #[.int .i64 0, .int .i64 0] 25 ?_; intro gb197 hg w3 hbox hb; have BK197 := qb.mk (hbox); have GW197 := qb.mk ((by rw [hg]; exact c3_ : w.heap.size ≤ gb197)); have GE197 := qb.mk ((by rw [hg]; exact c3_ : w.heap.size ≤ gb197)); replace HB := qb.mk ac_; clear hb hbox hg) | (refine gL_ 9 Tryz.func32 #[.slice A0 l0.length c0] ?_; refine (spec_DrawNumbersOf.calls k _ _ l0 t198 t199 t200 _ (by repeat (first | exact (Kd.C_below HR0.out HB.out) | (with_reducible refine Kd.zu ?_ _) | (with_reducible refine Kd.zt ?_ _) | (with_reducible refine Kd.zz ?_))) HC0.out A2.out).mono ?_; rintro e w4 ⟨rfl, hb⟩; refine ⟨_, rfl, ?_⟩; replace BK197 := qb.mk (qw (g := gb197) (o := .cells #[.int .i64 0, .int .i64 0] 25 (0, 0)) (bk_ BK197) hb); replace HB := qb.mk (qo (be1_ HB GE197) hb); (try clear hb)) | (refine bE_ 5 #[.int .i64 0, .int .i64 0] 25 ?_; intro gb201 hg w5 hbox hb; have BK201 := qb.mk (hbox); have GW201 := qb.mk ((by rw [hg]; exact (qn (be1_ HB GE197)) : w.heap.size ≤ gb201)); have GE201 := qb.mk ((by rw [hg]; exact (qn (be1_ HB GE197)) : w.heap.size ≤ gb201)); replace HB := qb.mk (qo (be1_ HB GE197) hb); have NB197_201 := qb.mk ((by rw [hg]; exact Nat.ne_of_lt (zv (g := gb197) (o := .cells #[.int .i64 0, .int .i64 0] 25 (0, 0)) (bk_ BK197)) : gb197 ≠ gb201)); have NB201_197 := qb.mk ((by rw [hg]; exact Nat.ne_of_gt (zv (g := gb197) (o := .cells #[.int .i64 0, .int .i64 0] 25 (0, 0)) (bk_ BK197)) : gb201 ≠ gb197)); replace BK197 := qb.mk (qw (g := gb197) (o := .cells #[.int .i64 0, .int .i64 0] 25 (0, 0)) (bk_ BK197) hb); clear hb hbox hg; have hnb6 := NB201_197.out; have hnc6 := NB197_201.out; have hcz7_0 := cC_ BK201 0; have hcz7_1 := cC_ BK201 1; have hfz7_0 := qi BK201.out 0; have hfz7_1 := qi BK201.out 1; have hcz8_0 := cC_ BK197 0; have hcz8_1 := cC_ BK197 1; have hfz8_0 := qi BK197.out 0; have hfz8_1 := qi BK197.out 1))
 refine bodyPost_ret (results_ctt rfl _ _ gb197 25 #[.int .i64 t198, .int .i64 t199] (0, 0) _ rfl (by (with_reducible repeat (first | refine qh ?_ _ | refine qj ?_ | refine qg ?_ _)); refine zr (cs := #[.int .i64 t198, .int .i64 0]) ?_ 1 _ rfl; (with_reducible repeat (first | refine qh ?_ _ | refine qj ?_ | refine qg ?_ _)); refine zr (cs := #[.int .i64 0, .int .i64 0]) ?_ 0 _ rfl; (with_reducible repeat (first | refine qh ?_ _ | refine qj ?_ | refine qg ?_ _)); refine zm ?_ NB197_201.out _; (with_reducible repeat (first | refine qh ?_ _ | refine qj ?_ | refine qg ?_ _)); refine zm ?_ NB197_201.out _; (with_reducible repeat (first | refine qh ?_ _ | refine qj ?_ | refine qg ?_ _)); exact BK197.out) Tryz.underlying25 rfl a9_) rfl ?_
 exact ⟨er_, be2_ HB GE197 GE201⟩
def impl_within.f (a0 : Int) (a1 : Int) (a2 : Int) : Option (Bool) := if a0 ≥ a1 then (some (decide (a0 ≤ a2))) else (some false)
set_option maxHeartbeats 8000000 in
set_option maxRecDepth 100000 in
theorem impl_within.calls (a0 : Int) (a1 : Int) (a2 : Int) (r : Bool) (w : World) (h : impl_within.f a0 a1 a2 = some r) :
  Calls Tryz.prog 65 #[.int .i64 a0, .int .i64 a1, .int .i64 a2] w fun e w' => e = .returned (.bool r) ∧ ql w w' := by
 have H := h; clear h; unfold impl_within.f at H
 replace H := iC_ H; obtain ⟨c4, H⟩ | ⟨c4, H⟩ := H
 ·have c4b0 : decide (a1 ≤ a0) = true := decide_eq_true c4
  clear c4
  obtain rfl := Option.some.inj H
  go_enter Tryz.func65, Tryz.ntmps65
  exact lb_
 ·have c4b0 : decide (a1 ≤ a0) = false := decide_eq_false c4
  clear c4
  obtain rfl := Option.some.inj H
  go_enter Tryz.func65, Tryz.ntmps65
  exact lb_
def strings_IndexByte.f (a0 : ByteArray) (a1 : Int) : Option Int := some (Lib.indexByte a0.data.toList a1.toNat.toUInt8)
set_option maxHeartbeats 1000000 in
set_option maxRecDepth 100000 in
theorem strings_IndexByte.inner (s : ByteArray) (c : Int) (w : World) :
  Calls Tryz.prog 101 #[.string s, .int .u8 c] w fun e w' => e = .returned (.int .i64 (Lib.indexByte s.data.toList c.toNat.toUInt8)) ∧ w' = w := by
 go_enter Tryz.func101, Tryz.ntmps101
 go_wp2
 rw [run_callFunc_extern Tryz.func120 a9_ a9_ a9_ (e := Extern.BytealgIndexByte.indexByte) a9_, Lib.run_indexByteString]
 simp only [Result.andThen]
 rw [Oper.upon_value]
 go_wp2
 go_ret
 exact ⟨rfl, rfl⟩
set_option maxHeartbeats 1000000 in
theorem strings_IndexByte.calls (a0 : ByteArray) (a1 : Int) (r : Int) (w : World) (h : strings_IndexByte.f a0 a1 = some r) :
  Calls Tryz.prog 77 #[.string a0, .int .u8 a1] w fun e w' => e = .returned (.int .i64 r) ∧ ql w w' := by
 obtain rfl := Option.some.inj h
 clear h
 go_enter Tryz.func77, Tryz.ntmps77
 go_wp2_with (go_at_call 101; refine (strings_IndexByte.inner _ _ _).mono ?_; rintro e w' ⟨rfl, rfl⟩)
 go_ret
 exact ⟨rfl, ql.refl _⟩
def impl_AreDeliveries.l0 : Nat → ByteArray → Int → Int → Option (Bool)
 | 0, _, _, _ => none
 | k + 1, x0, x5, x6 => if x6 < x5 then (if 0 ≤ x6 then (if x6 < (x0.size : Int) then ((strings_IndexByte.f (⟨#[108, 114, 98, 45]⟩ : ByteArray) (bt x0 x6)).bind fun t202 => (if t202 < 0 then (some false) else (impl_AreDeliveries.l0 k x0 x5 (wrap64 (x6 + 1))))) else (none)) else (none)) else ((impl_within.f (x0.size : Int) 1 60).bind fun t203 => (some t203))
def impl_AreDeliveries.f (k : Nat) (a0 : ByteArray) : Option (Bool) := impl_AreDeliveries.l0 k a0 (a0.size : Int) 0
theorem impl_AreDeliveries.zd : ∀ k, (∀ y0 y1 y2, LeO (impl_AreDeliveries.l0 k y0 y1 y2) (impl_AreDeliveries.l0 (k + 1) y0 y1 y2))
 | 0 => fun _ _ _ r h => by simp [impl_AreDeliveries.l0] at h
 | k + 1 => by
  have ih0 := impl_AreDeliveries.zd k
  intro y0 y1 y2
  unfold impl_AreDeliveries.l0
  exact l8_
theorem impl_AreDeliveries.mono : ∀ a0 k, LeO (impl_AreDeliveries.f k a0) (impl_AreDeliveries.f (k + 1) a0) := by
 intro a0 k
 have ih0 := impl_AreDeliveries.zd k
 unfold impl_AreDeliveries.f
 exact l8_
set_option maxHeartbeats 8000000 in
set_option maxRecDepth 100000 in
theorem impl_AreDeliveries.calls (k : Nat) (a0 : ByteArray) (r : Bool) (w : World) (h : impl_AreDeliveries.f k a0 = some r) :
  Calls Tryz.prog 43 #[.string a0] w fun e w' => e = .returned (.bool r) ∧ ql w w' := by
 have H := h; clear h; unfold impl_AreDeliveries.f at H
 have H' := qb.mk H
 clear H
 go_enter Tryz.func43, Tryz.ntmps43
 go_wp2
 go_loopg [6] k (fun kq v6 w' => ∃ (x6_1 : Int), v6 = .int .i64 x6_1 ∧ qb (impl_AreDeliveries.l0 kq a0 (a0.size : Int) x6_1 = some r) ∧ qb (kq ≤ k) ∧ ql w w')
 case atStart => exact ⟨(0), es_, H', ⟨Nat.le_refl _⟩, a0_⟩
 case round =>
  clear H'
  obtain ⟨x6_1, rfl, HA, HK1, ⟨m1, rfl⟩⟩ := hrel
  cases gk with
  | zero => exact absurd HA.out (by simp [impl_AreDeliveries.l0])
  | succ k1 =>
   have H := HA.out
   clear HA
   simp only [impl_AreDeliveries.l0] at H
   replace H := iD_ H; obtain ⟨c2b0, H⟩ | ⟨c2b0, H⟩ := H
   ·replace H := iD_ H; obtain ⟨c3b0, H⟩ | ⟨c3b0, H⟩ := H
    ·replace H := iD_ H; obtain ⟨c4b0, H⟩ | ⟨c4b0, H⟩ := H
     ·replace H := bX_ H; obtain ⟨t202, A6, H⟩ := H
      replace H := iD_ H; obtain ⟨c7b0, H⟩ | ⟨c7b0, H⟩ := H
      ·obtain rfl := Option.some.inj H
       have p5 : 0 ≤ (x6_1 : Int) := od_
       have q5 : x6_1 < (a0.size : Int) := od_
       have hx5 := bt_at a0 x6_1
       replace p5 := eq_true p5
       replace q5 := eq_true q5
       go_wp2_with (first | (refine gL_ 12 Tryz.func77 #[.string (⟨#[108, 114, 98, 45]⟩ : ByteArray), .int .u8 (bt a0 x6_1)] ?_; refine (strings_IndexByte.calls (⟨#[108, 114, 98, 45]⟩ : ByteArray) (bt a0 x6_1) t202 _ A6.out).mono ?_; rintro e w' ⟨rfl, ⟨nd, rfl⟩⟩; refine ⟨_, rfl, ?_⟩))
       go_ret
       exact ⟨es_, a0_⟩
      ·have H' := qb.mk H
       clear H
       have p5 : 0 ≤ (x6_1 : Int) := od_
       have q5 : x6_1 < (a0.size : Int) := od_
       have hx5 := bt_at a0 x6_1
       replace p5 := eq_true p5
       replace q5 := eq_true q5
       go_wp2_with (first | (refine gL_ 12 Tryz.func77 #[.string (⟨#[108, 114, 98, 45]⟩ : ByteArray), .int .u8 (bt a0 x6_1)] ?_; refine (strings_IndexByte.calls (⟨#[108, 114, 98, 45]⟩ : ByteArray) (bt a0 x6_1) t202 _ A6.out).mono ?_; rintro e w' ⟨rfl, ⟨nd, rfl⟩⟩; refine ⟨_, rfl, ?_⟩))
       go_roundg k1
       case measure => have := HK1.out; omega
       case rel => exact ⟨(wrap64 (x6_1 + 1)), es_, H', ⟨by have := HK1.out; omega⟩, a0_⟩
     ·cases H
    ·cases H
   ·replace H := bX_ H; obtain ⟨t203, A8, H⟩ := H
    obtain rfl := Option.some.inj H
    go_wp2_with (first | (refine gL_ 17 Tryz.func65 #[.int .i64 (a0.size : Int), .int .i64 1, .int .i64 60] ?_; refine (impl_within.calls (a0.size : Int) 1 60 t203 _ A8.out).mono ?_; rintro e w' ⟨rfl, ⟨nd, rfl⟩⟩; refine ⟨_, rfl, ?_⟩))
    go_ret
    exact ⟨es_, a0_⟩
def impl_IsStreet.f (a0_0 : Int) (a0_1 : Int) : Option (Bool) := (impl_within.f a0_0 0 2).bind fun t205 => (if t205 = true then ((impl_within.f a0_1 1 1000).bind fun t206 => (some t206)) else (some false))
set_option maxHeartbeats 8000000 in
set_option maxRecDepth 100000 in
theorem impl_IsStreet.calls (a0_0 : Int) (a0_1 : Int) (r : Bool) (w : World) (h : impl_IsStreet.f a0_0 a0_1 = some r) :
  Calls Tryz.prog 47 #[.agg #[.int .i64 a0_0, .int .i64 a0_1]] w fun e w' => e = .returned (.bool r) ∧ Below w.heap.size w w' := by
 have hu25 := Tryz.underlying25
 have HB := qb.mk (Below.refl w.heap.size w)
 have H := h; clear h; unfold impl_IsStreet.f at H
 replace H := bX_ H; obtain ⟨t205, A2, H⟩ := H
 replace H := iB_ H; obtain ⟨rfl, H⟩ | ⟨rfl, H⟩ := H
 ·replace H := bX_ H; obtain ⟨t206, A4, H⟩ := H
  obtain rfl := Option.some.inj H
  go_enter Tryz.func47, Tryz.ntmps47
  go_wp2_with (first | (refine bE_ 1 #[.int .i64 a0_0, .int .i64 a0_1] 25 ?_; intro gb204 hg w5 hbox hb; have BK204 := qb.mk (hbox); have GW204 := qb.mk (bn_); have GE204 := qb.mk (bn_); replace HB := qb.mk ac_; clear hb hbox hg; have hcz6_0 := cC_ BK204 0; have hcz6_1 := cC_ BK204 1; have hfz6_0 := qi BK204.out 0; have hfz6_1 := qi BK204.out 1) | (refine gL_ 5 Tryz.func65 #[.int .i64 a0_0, .int .i64 0, .int .i64 2] ?_; refine (impl_within.calls a0_0 0 2 true _ A2.out).mono ?_; rintro e w' ⟨rfl, ⟨nd, rfl⟩⟩; refine ⟨_, rfl, ?_⟩) | (go_at_call 65; (with_reducible refine (impl_within.calls a0_1 1 1000 t206 _ A4.out).mono ?_); rintro e w' ⟨rfl, ⟨nd, rfl⟩⟩))
  go_ret
  exact ⟨er_, be1_ HB GE204⟩
 ·obtain rfl := Option.some.inj H
  go_enter Tryz.func47, Tryz.ntmps47
  go_wp2_with (first | (refine bE_ 1 #[.int .i64 a0_0, .int .i64 a0_1] 25 ?_; intro gb204 hg w7 hbox hb; have BK204 := qb.mk (hbox); have GW204 := qb.mk (bn_); have GE204 := qb.mk (bn_); replace HB := qb.mk ac_; clear hb hbox hg; have hcz8_0 := cC_ BK204 0; have hcz8_1 := cC_ BK204 1; have hfz8_0 := qi BK204.out 0; have hfz8_1 := qi BK204.out 1) | (refine gL_ 5 Tryz.func65 #[.int .i64 a0_0, .int .i64 0, .int .i64 2] ?_; refine (impl_within.calls a0_0 0 2 false _ A2.out).mono ?_; rintro e w' ⟨rfl, ⟨nd, rfl⟩⟩; refine ⟨_, rfl, ?_⟩))
  go_ret
  exact ⟨er_, be1_ HB GE204⟩
end Go.Proofs.YtpopeedfgenebaaGreat.PFnPostDelivers
