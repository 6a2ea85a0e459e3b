/- Cut by wip/cut.py out of the texts of this claim (printed by the kit's printer, or this session's own): what the row's theorem does not reach is struck. Not trusted: Lean checks it. -/
import Derived.Test.YtpopeedfgenebaaGreatZFnPostDeliversPx0
import Derived.Test.YtpopeedfgenebaaGreatZFnPostDeliversPx1
import Derived.Test.YtpopeedfgenebaaGreatZFnPostDeliversPx5
namespace Go.Proofs.YtpopeedfgenebaaGreat.PFnPostDelivers
open Go.RowKit Go.Proofs.YtpopeedfgenebaaGreatW.PrintWords Go.Proofs.YtpopeedfgenebaaGreatW.PrintLast Go.Proofs.YtpopeedfgenebaaGreatW.PrintMore
attribute [local go_sem] zq zo zx zw zk zj zp zn
set_option linter.unusedVariables false
set_option linter.unusedSimpArgs false
mutual
def spec_poFits.j0 : Nat → ByteArray → Bool → Int → Int → Option (Bool)
 | 0, _, _, _, _ => none
 | k + 1, x1, x20, x227000, x227001 => if x20 = true then (some false) else (spec_poFits.l0 k x1 0 x227000 x227001)
def spec_poFits.l0 : Nat → ByteArray → Int → Int → Int → Option (Bool)
 | 0, _, _, _, _ => none
 | k + 1, x1, x5, x227000, x227001 => if x5 < (x1.size : Int) then (if x227000 = 0 then (if 0 ≤ x5 then (if (bt x1 x5) = 114 then (some false) else (if (bt x1 x5) = 98 then (some false) else (spec_poFits.l0 k x1 (wrap64 (x5 + 1)) x227000 x227001))) else (none)) else (spec_poFits.l0 k x1 (wrap64 (x5 + 1)) x227000 x227001)) else (some true)
end
def spec_poFits.f (k : Nat) (a0_0 : Int) (a0_1 : Int) (a1 : ByteArray) : Option (Bool) := (spec_nuGood.f a0_0 a0_1).bind fun t227 => (if t227 = true then ((spec_poGood.f k a1).bind fun t228 => (if t228 = true then (spec_poFits.j0 k a1 ((a1.size : Int) != a0_1) a0_0 a0_1) else (spec_poFits.j0 k a1 true a0_0 a0_1))) else (spec_poFits.j0 k a1 true a0_0 a0_1))
theorem spec_poFits.zd : ∀ k, (∀ y0 y1 y2 y3, LeO (spec_poFits.j0 k y0 y1 y2 y3) (spec_poFits.j0 (k + 1) y0 y1 y2 y3)) ∧ (∀ y0 y1 y2 y3, LeO (spec_poFits.l0 k y0 y1 y2 y3) (spec_poFits.l0 (k + 1) y0 y1 y2 y3))
 | 0 => ⟨fun _ _ _ _ r h => by simp [spec_poFits.j0] at h, fun _ _ _ _ r h => by simp [spec_poFits.l0] at h⟩
 | k + 1 => by
  obtain ⟨ih0, ih1⟩ := spec_poFits.zd k
  refine ⟨?_, ?_⟩
  all_goals first | (intro y0 y1 y2 y3; unfold spec_poFits.j0) | (intro y0 y1 y2 y3; unfold spec_poFits.l0)
  all_goals (repeat' first | (with_reducible first | exact ih0 _ _ _ _ | exact ih1 _ _ _ _ | exact spec_poGood.mono _ _ | exact LeO.refl _ | exact LeO.none _ | refine LeO.ite ?_ ?_ | refine LeO.bind ?_ (fun _ => ?_)) | exact ih0 _ _ _ _ | exact ih1 _ _ _ _ | exact spec_poGood.mono _ _ | exact LeO.none _ | refine LeO.ite ?_ ?_ | refine LeO.bind ?_ (fun _ => ?_))
theorem spec_poFits.mono : ∀ a0 a1 a2 k, LeO (spec_poFits.f k a0 a1 a2) (spec_poFits.f (k + 1) a0 a1 a2) := by
 intro a0 a1 a2 k
 obtain ⟨ih0, ih1⟩ := spec_poFits.zd k
 unfold spec_poFits.f
 repeat' first | (with_reducible first | exact ih0 _ _ _ _ | exact ih1 _ _ _ _ | exact spec_poGood.mono _ _ | exact LeO.refl _ | exact LeO.none _ | refine LeO.ite ?_ ?_ | refine LeO.bind ?_ (fun _ => ?_)) | exact ih0 _ _ _ _ | exact ih1 _ _ _ _ | exact spec_poGood.mono _ _ | exact LeO.none _ | refine LeO.ite ?_ ?_ | refine LeO.bind ?_ (fun _ => ?_)
set_option maxHeartbeats 8000000 in
set_option maxRecDepth 100000 in
theorem spec_poFits.calls (k : Nat) (a0_0 : Int) (a0_1 : Int) (a1 : ByteArray) (r : Bool) (w : World) (h : spec_poFits.f k a0_0 a0_1 a1 = some r) :
  Calls Tryz.prog 37 #[.agg #[.int .i64 a0_0, .int .i64 a0_1], .string a1] w fun e w' => e = .returned (.bool r) ∧ Below w.heap.size w w' := by
 have hu25 := Tryz.underlying25;have HB := qb.mk (Below.refl w.heap.size w);have H := h; clear h; unfold spec_poFits.f at H;have HC3 := qb.mk H;clear H
 go_enter Tryz.func37, Tryz.ntmps37
 go_upto_region 1 with (first | ((with_reducible refine zc (N := 2) rfl ?_); (try (refine gate_guard (by rfl) ?_; dsimp only)); refine zb ?hg (N := 2) ?hd (cs := #[.int .i64 a0_0, .int .i64 a0_1]) (t := 25) ?hr ?_; (case hd => rfl); (case hg => rfl); (case hr => first | (go_simp; done) | (go_simp; rfl)); intro b2 hg w4 hbox hb; have b0 := qb.mk (hbox); have b3 := qb.mk (av_); have b1 := qb.mk (av_); replace HB := qb.mk ac_; clear hb hbox hg))
 (try simp only [Act.put, sA_, sB_, sC_])
 go_cut [20] (fun v20 wc => ∃ (kq : Nat) (x20_2 : Bool), v20 = .bool x20_2 ∧ qb (spec_poFits.j0 kq a1 x20_2 a0_0 a0_1 = some r) ∧ qb (kq ≤ k) ∧ qb (wc.heap[b2]? = some (.cells #[.int .i64 a0_0, .int .i64 a0_1] 25 (0, 0))) ∧ qb (Below w.heap.size w wc))
 case first =>
  have H := HC3.out;clear HC3;replace H := bX_ H; obtain ⟨b4, A5, H⟩ := H;replace H := iB_ H; obtain ⟨rfl, H⟩ | ⟨rfl, H⟩ := H
  ·replace H := bX_ H; obtain ⟨b5, A7, H⟩ := H
   replace H := iB_ H; obtain ⟨rfl, H⟩ | ⟨rfl, H⟩ := H
   ·have H' := qb.mk H
    clear H;have hcz9_0 := cC_ b0 0;have hcz9_1 := cC_ b0 1;have hfz9_0 := qi b0.out 0;have hfz9_1 := qi b0.out 1
    go_wp2_with (first | (refine gL_ 7 Tryz.func59 #[.agg #[.int .i64 a0_0, .int .i64 a0_1]] ?_; refine (spec_nuGood.calls a0_0 a0_1 true _ A5.out).mono ?_; rintro e w10 ⟨rfl, hb⟩; refine ⟨_, rfl, ?_⟩; replace b0 := qb.mk a6_; replace HB := qb.mk b6_; (try clear hb)) | (go_at_call 45; (with_reducible refine (spec_poGood.calls k a1 true _ A7.out).mono ?_); rintro e w' ⟨rfl, ⟨nd, rfl⟩⟩; have hcz11_0 := cC_ b0 0; have hcz11_1 := cC_ b0 1; have hfz11_0 := qi b0.out 0; have hfz11_1 := qi b0.out 1))
    go_meet
    case rel => exact ⟨_, (((a1.size : Int) != a0_1)), es_, H', ⟨by first | omega | exact Nat.le_refl _⟩, ⟨bk_ b0⟩, ⟨be1_ HB b1⟩⟩
   ·have H' := qb.mk H
    clear H;have hcz12_0 := cC_ b0 0;have hcz12_1 := cC_ b0 1;have hfz12_0 := qi b0.out 0;have hfz12_1 := qi b0.out 1
    go_wp2_with (first | (refine gL_ 7 Tryz.func59 #[.agg #[.int .i64 a0_0, .int .i64 a0_1]] ?_; refine (spec_nuGood.calls a0_0 a0_1 true _ A5.out).mono ?_; rintro e w13 ⟨rfl, hb⟩; refine ⟨_, rfl, ?_⟩; replace b0 := qb.mk a6_; replace HB := qb.mk b6_; (try clear hb)) | (go_at_call 45; (with_reducible refine (spec_poGood.calls k a1 false _ A7.out).mono ?_); rintro e w' ⟨rfl, ⟨nd, rfl⟩⟩))
    exact lm_
  ·have H' := qb.mk H
   clear H;have hcz14_0 := cC_ b0 0;have hcz14_1 := cC_ b0 1;have hfz14_0 := qi b0.out 0;have hfz14_1 := qi b0.out 1
   go_wp2_with (first | (refine gL_ 7 Tryz.func59 #[.agg #[.int .i64 a0_0, .int .i64 a0_1]] ?_; refine (spec_nuGood.calls a0_0 a0_1 false _ A5.out).mono ?_; rintro e w15 ⟨rfl, hb⟩; refine ⟨_, rfl, ?_⟩; replace b0 := qb.mk a6_; replace HB := qb.mk b6_; (try clear hb)))
   exact lm_
 case rest =>
  clear HC3;(try clear hcz11_0);(try clear hcz11_1);(try clear hcz12_0);(try clear hcz12_1);(try clear hcz14_0);(try clear hcz14_1);(try clear hcz9_0);(try clear hcz9_1);(try clear hfz11_0);(try clear hfz11_1);(try clear hfz12_0);(try clear hfz12_1);(try clear hfz14_0);(try clear hfz14_1);(try clear hfz9_0);(try clear hfz9_1);obtain ⟨kq, x20_2, rfl, HA, HJ2, b0, HB⟩ := hcut;cases kq with
  | zero => exact absurd HA.out (by simp [spec_poFits.j0])
  | succ kj2 =>
   have H := HA.out;clear HA
   simp only [spec_poFits.j0] at H
   replace H := iB_ H; obtain ⟨rfl, H⟩ | ⟨rfl, H⟩ := H
   ·obtain rfl := Option.some.inj H
    go_wp2
    go_ret
    exact ⟨er_, be1_ HB b1⟩
   ·have H' := qb.mk H
    clear H
    go_wp2
    go_loopg [5] kj2 (fun kq v5 w' => ∃ (x5_2 : Int), v5 = .int .i64 x5_2 ∧ qb (spec_poFits.l0 kq a1 x5_2 a0_0 a0_1 = some r) ∧ qb (kq ≤ kj2) ∧ qb (w'.heap[b2]? = some (.cells #[.int .i64 a0_0, .int .i64 a0_1] 25 (0, 0))) ∧ qb (Below w.heap.size w w'))
    case atStart => exact ⟨(0), es_, H', ⟨Nat.le_refl _⟩, ⟨bk_ b0⟩, ⟨be1_ HB b1⟩⟩
    case round =>
     clear H';(try clear hcz11_0);(try clear hcz11_1);(try clear hcz12_0);(try clear hcz12_1);(try clear hcz14_0);(try clear hcz14_1);(try clear hcz9_0);(try clear hcz9_1);(try clear hfz11_0);(try clear hfz11_1);(try clear hfz12_0);(try clear hfz12_1);(try clear hfz14_0);(try clear hfz14_1);(try clear hfz9_0);(try clear hfz9_1);obtain ⟨x5_2, rfl, HA, HK2, b0, HB⟩ := hrel;cases gk with
     | zero => exact absurd HA.out (by simp [spec_poFits.l0])
     | succ k2 =>
      have H := HA.out;clear HA
      simp only [spec_poFits.l0] at H
      replace H := iD_ H; obtain ⟨c17b0, H⟩ | ⟨c17b0, H⟩ := H
      ·replace H := iE_ H; obtain ⟨c18b0, c18b1, H⟩ | ⟨c18, c18b0, c18b1, H⟩ := H
       ·replace H := iD_ H; obtain ⟨c19b0, H⟩ | ⟨c19b0, H⟩ := H
        ·replace H := iE_ H; obtain ⟨c21b0, c21b1, H⟩ | ⟨c21, c21b0, c21b1, H⟩ := H
         ·obtain rfl := Option.some.inj H
          have hcz22_0 := cC_ b0 0;have hcz22_1 := cC_ b0 1;have hfz22_0 := qi b0.out 0;have hfz22_1 := qi b0.out 1;have p20 : 0 ≤ (x5_2 : Int) := od_;have q20 : x5_2 < (a1.size : Int) := od_;have hx20 := bt_at a1 x5_2;replace p20 := eq_true p20;replace q20 := eq_true q20
          go_wp2
          go_ret
          exact ⟨er_, be1_ HB b1⟩
         ·replace H := iE_ H; obtain ⟨c24b0, c24b1, H⟩ | ⟨c24, c24b0, c24b1, H⟩ := H
          ·obtain rfl := Option.some.inj H
           have hcz25_0 := cC_ b0 0;have hcz25_1 := cC_ b0 1;have hfz25_0 := qi b0.out 0;have hfz25_1 := qi b0.out 1;have p20 : 0 ≤ (x5_2 : Int) := od_;have q20 : x5_2 < (a1.size : Int) := od_;have hx20 := bt_at a1 x5_2;replace p20 := eq_true p20;replace q20 := eq_true q20;have p23 : 0 ≤ (x5_2 : Int) := od_;have q23 : x5_2 < (a1.size : Int) := od_;have hx23 := bt_at a1 x5_2;replace p23 := eq_true p23;replace q23 := eq_true q23
           go_wp2
           go_ret
           exact ⟨er_, be1_ HB b1⟩
          ·have H' := qb.mk H
           clear H;have hcz26_0 := cC_ b0 0;have hcz26_1 := cC_ b0 1;have hfz26_0 := qi b0.out 0;have hfz26_1 := qi b0.out 1;have p20 : 0 ≤ (x5_2 : Int) := od_;have q20 : x5_2 < (a1.size : Int) := od_;have hx20 := bt_at a1 x5_2;replace p20 := eq_true p20;replace q20 := eq_true q20;have p23 : 0 ≤ (x5_2 : Int) := od_;have q23 : x5_2 < (a1.size : Int) := od_;have hx23 := bt_at a1 x5_2;replace p23 := eq_true p23;replace q23 := eq_true q23
           exact lN_
        ·cases H
       ·have H' := qb.mk H
        clear H;have hcz27_0 := cC_ b0 0;have hcz27_1 := cC_ b0 1;have hfz27_0 := qi b0.out 0;have hfz27_1 := qi b0.out 1
        exact lN_
      ·obtain rfl := Option.some.inj H
       go_wp2
       go_ret
       exact ⟨er_, be1_ HB b1⟩
def spec_l1Least.f (a0 : Int) (a1 : Int) : Option (Int) := if a0 < a1 then (some a0) else (some a1)
set_option maxHeartbeats 8000000 in
set_option maxRecDepth 100000 in
theorem spec_l1Least.calls (a0 : Int) (a1 : Int) (r : Int) (w : World) (h : spec_l1Least.f a0 a1 = some r) :
  Calls Tryz.prog 55 #[.int .i64 a0, .int .i64 a1] w fun e w' => e = .returned (.int .i64 r) ∧ ql w w' := by
 have H := h; clear h; unfold spec_l1Least.f at H
 replace H := iD_ H; obtain ⟨c3b0, H⟩ | ⟨c3b0, H⟩ := H
 ·obtain rfl := Option.some.inj H
  go_enter Tryz.func55, Tryz.ntmps55
  exact lb_
 ·obtain rfl := Option.some.inj H
  go_enter Tryz.func55, Tryz.ntmps55
  exact lb_
def spec_poCross.f (a0 : Int) (a1 : Int) (a2 : Int) : Option (Int) := if a1 = a2 then (if a0 = 98 then (some 2) else (if a0 = 108 then (if a1 = 1 then (some 2) else (if a0 = 114 then (if a1 = 0 then (some 2) else (some 0)) else (some 0))) else (if a0 = 114 then (if a1 = 0 then (some 2) else (some 0)) else (some 0)))) else (some 1)
set_option maxHeartbeats 8000000 in
set_option maxRecDepth 100000 in
theorem spec_poCross.calls (a0 : Int) (a1 : Int) (a2 : Int) (r : Int) (w : World) (h : spec_poCross.f a0 a1 a2 = some r) :
  Calls Tryz.prog 74 #[.int .u8 a0, .int .i64 a1, .int .i64 a2] w fun e w' => e = .returned (.int .i64 r) ∧ ql w w' := by
 have H := h; clear h; unfold spec_poCross.f at H
 replace H := iE_ H; obtain ⟨c4b0, c4b1, H⟩ | ⟨c4, c4b0, c4b1, H⟩ := H
 ·replace H := iE_ H; obtain ⟨c5b0, c5b1, H⟩ | ⟨c5, c5b0, c5b1, H⟩ := H
  ·exact lp_
  ·replace H := iE_ H; obtain ⟨c6b0, c6b1, H⟩ | ⟨c6, c6b0, c6b1, H⟩ := H
   ·replace H := iE_ H; obtain ⟨c7b0, c7b1, H⟩ | ⟨c7, c7b0, c7b1, H⟩ := H
    ·exact lp_
    ·replace H := iE_ H; obtain ⟨c8b0, c8b1, H⟩ | ⟨c8, c8b0, c8b1, H⟩ := H
     ·replace H := iE_ H; obtain ⟨c9b0, c9b1, H⟩ | ⟨c9, c9b0, c9b1, H⟩ := H
      ·exact lp_
      ·exact lp_
     ·exact lp_
   ·replace H := iE_ H; obtain ⟨c10b0, c10b1, H⟩ | ⟨c10, c10b0, c10b1, H⟩ := H
    ·replace H := iE_ H; obtain ⟨c11b0, c11b1, H⟩ | ⟨c11, c11b0, c11b1, H⟩ := H
     ·exact lp_
     ·exact lp_
    ·exact lp_
 ·exact lp_
def spec_poEnd.f (a0 : Int) (a1 : Int) : Option (Bool) := if a0 = 2 then (some true) else (some (a0 == a1))
set_option maxHeartbeats 8000000 in
set_option maxRecDepth 100000 in
theorem spec_poEnd.calls (a0 : Int) (a1 : Int) (r : Bool) (w : World) (h : spec_poEnd.f a0 a1 = some r) :
  Calls Tryz.prog 89 #[.int .i64 a0, .int .i64 a1] w fun e w' => e = .returned (.bool r) ∧ ql w w' := by
 have H := h; clear h; unfold spec_poEnd.f at H
 replace H := iE_ H; obtain ⟨c3b0, c3b1, H⟩ | ⟨c3, c3b0, c3b1, H⟩ := H
 ·obtain rfl := Option.some.inj H
  go_enter Tryz.func89, Tryz.ntmps89
  exact lb_
 ·obtain rfl := Option.some.inj H
  go_enter Tryz.func89, Tryz.ntmps89
  exact lb_
end Go.Proofs.YtpopeedfgenebaaGreat.PFnPostDelivers
