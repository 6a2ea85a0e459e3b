/- Cut by wip/cut.py out of the texts of this claim (printed by the kit's printer, or this session's own): what the row's theorem does not reach is struck. Not trusted: Lean checks it. -/
import Derived.Test.YtpopeedfgenebaaGreatZFnPostDeliversPx0
import Derived.Test.YtpopeedfgenebaaGreatZFnPostDeliversPx1
import Derived.Test.YtpopeedfgenebaaGreatZFnPostDeliversPx6
import Derived.Test.YtpopeedfgenebaaGreatZFnPostDeliversPx8
namespace Go.Proofs.YtpopeedfgenebaaGreat.PFnPostDelivers
open Go.RowKit Go.Proofs.YtpopeedfgenebaaGreatW.PrintWords Go.Proofs.YtpopeedfgenebaaGreatW.PrintLast Go.Proofs.YtpopeedfgenebaaGreatW.PrintMore
attribute [local go_sem] zq zo zx zw zk zj zp zn
set_option linter.unusedVariables false
set_option linter.unusedSimpArgs false
def spec_nuNumber.f (a0_0 : Int) (a0_1 : Int) (a1 : Int) (a2 : Int) : Option (Int) := if a0_0 = 1 then (some (wrap64 ((wrap64 ((wrap64 (2 * a2)) + 1)) + a1))) else (if a1 = 1 then (some (wrap64 ((wrap64 (2 * a0_1)) - a2))) else (some (wrap64 (a2 + 1))))
set_option maxHeartbeats 8000000 in
set_option maxRecDepth 100000 in
theorem spec_nuNumber.calls (a0_0 : Int) (a0_1 : Int) (a1 : Int) (a2 : Int) (r : Int) (w : World) (h : spec_nuNumber.f a0_0 a0_1 a1 a2 = some r) :
  Calls Tryz.prog 62 #[.agg #[.int .i64 a0_0, .int .i64 a0_1], .int .i64 a1, .int .i64 a2] w fun e w' => e = .returned (.int .i64 r) ∧ Below w.heap.size w w' := by
 have hu25 := Tryz.underlying25
 have HB := qb.mk (Below.refl w.heap.size w)
 have H := h; clear h; unfold spec_nuNumber.f at H
 replace H := iE_ H; obtain ⟨c4b0, c4b1, H⟩ | ⟨c4, c4b0, c4b1, H⟩ := H
 ·obtain rfl := Option.some.inj H
  go_enter Tryz.func62, Tryz.ntmps62
  go_wp2_with (first | (refine bE_ 3 #[.int .i64 a0_0, .int .i64 a0_1] 25 ?_; intro gb251 hg w5 hbox hb; have BK251 := qb.mk (hbox); have GW251 := qb.mk (b4_); have GE251 := qb.mk (b4_); replace HB := qb.mk ac_; clear hb hbox hg; have hcz6_0 := cC_ BK251 0; have hcz6_1 := cC_ BK251 1; have hfz6_0 := qi BK251.out 0; have hfz6_1 := qi BK251.out 1))
  go_ret
  exact ⟨er_, be1_ HB GE251⟩
 ·replace H := iE_ H; obtain ⟨c7b0, c7b1, H⟩ | ⟨c7, c7b0, c7b1, H⟩ := H
  ·obtain rfl := Option.some.inj H
   go_enter Tryz.func62, Tryz.ntmps62
   go_wp2_with (first | (refine bE_ 3 #[.int .i64 a0_0, .int .i64 a0_1] 25 ?_; intro gb251 hg w8 hbox hb; have BK251 := qb.mk (hbox); have GW251 := qb.mk (b4_); have GE251 := qb.mk (b4_); replace HB := qb.mk ac_; clear hb hbox hg; have hcz9_0 := cC_ BK251 0; have hcz9_1 := cC_ BK251 1; have hfz9_0 := qi BK251.out 0; have hfz9_1 := qi BK251.out 1))
   go_ret
   exact ⟨er_, be1_ HB GE251⟩
  ·obtain rfl := Option.some.inj H
   go_enter Tryz.func62, Tryz.ntmps62
   go_wp2_with (first | (refine bE_ 3 #[.int .i64 a0_0, .int .i64 a0_1] 25 ?_; intro gb251 hg w10 hbox hb; have BK251 := qb.mk (hbox); have GW251 := qb.mk (b4_); have GE251 := qb.mk (b4_); replace HB := qb.mk ac_; clear hb hbox hg; have hcz11_0 := cC_ BK251 0; have hcz11_1 := cC_ BK251 1; have hfz11_0 := qi BK251.out 0; have hfz11_1 := qi BK251.out 1))
   go_ret
   exact ⟨er_, be1_ HB GE251⟩
def spec_poHouses.l0 : Nat → ByteArray → Int → List Int → List Int → Int → Int → Int → Int → Option (List Int)
 | 0, _, _, _, _, _, _, _, _ => none
 | k + 1, x1, x2, x9, x15, x16, x17, x253000, x253001 => if x17 < x16 then (if 0 ≤ x17 then (if x17 < (x15.length : Int) then (if 0 ≤ x2 then (if x2 < (x1.size : Int) then (if (bt x1 x2) = 98 then ((spec_nuNumber.f x253000 x253001 (rd x15 x17) x2).bind fun t257 => (if x9.length < 17592186044416 then (spec_poHouses.l0 k x1 x2 (x9 ++ [t257]) x15 x16 (wrap64 (x17 + 1)) x253000 x253001) else (none))) else (if (bt x1 x2) = 108 then (if (rd x15 x17) = 0 then ((spec_nuNumber.f x253000 x253001 (rd x15 x17) x2).bind fun t261 => (if x9.length < 17592186044416 then (spec_poHouses.l0 k x1 x2 (x9 ++ [t261]) x15 x16 (wrap64 (x17 + 1)) x253000 x253001) else (none))) else (if (bt x1 x2) = 114 then (if (rd x15 x17) = 1 then ((spec_nuNumber.f x253000 x253001 (rd x15 x17) x2).bind fun t265 => (if x9.length < 17592186044416 then (spec_poHouses.l0 k x1 x2 (x9 ++ [t265]) x15 x16 (wrap64 (x17 + 1)) x253000 x253001) else (none))) else (spec_poHouses.l0 k x1 x2 x9 x15 x16 (wrap64 (x17 + 1)) x253000 x253001)) else (spec_poHouses.l0 k x1 x2 x9 x15 x16 (wrap64 (x17 + 1)) x253000 x253001))) else (if (bt x1 x2) = 114 then (if (rd x15 x17) = 1 then ((spec_nuNumber.f x253000 x253001 (rd x15 x17) x2).bind fun t269 => (if x9.length < 17592186044416 then (spec_poHouses.l0 k x1 x2 (x9 ++ [t269]) x15 x16 (wrap64 (x17 + 1)) x253000 x253001) else (none))) else (spec_poHouses.l0 k x1 x2 x9 x15 x16 (wrap64 (x17 + 1)) x253000 x253001)) else (spec_poHouses.l0 k x1 x2 x9 x15 x16 (wrap64 (x17 + 1)) x253000 x253001)))) else (none)) else (none)) else (none)) else (none)) else (some x9)
def spec_poHouses.f (k : Nat) (a0_0 : Int) (a0_1 : Int) (a1 : ByteArray) (a2 : Int) (a3 : Int) : Option (List Int) := (some (([a3, wrap64 (1 - a3)] : List Int) : List Int)).bind fun y253 => (spec_poHouses.l0 k a1 a2 ([] : List Int) y253 (y253.length : Int) 0 a0_0 a0_1)
theorem spec_poHouses.zd : ∀ k, (∀ y0 y1 y2 y3 y4 y5 y6 y7, LeO (spec_poHouses.l0 k y0 y1 y2 y3 y4 y5 y6 y7) (spec_poHouses.l0 (k + 1) y0 y1 y2 y3 y4 y5 y6 y7))
 | 0 => fun _ _ _ _ _ _ _ _ r h => by simp [spec_poHouses.l0] at h
 | k + 1 => by
  have ih0 := spec_poHouses.zd k
  intro y0 y1 y2 y3 y4 y5 y6 y7
  unfold spec_poHouses.l0
  exact lD_
theorem spec_poHouses.mono : ∀ a0 a1 a2 a3 a4 k, LeO (spec_poHouses.f k a0 a1 a2 a3 a4) (spec_poHouses.f (k + 1) a0 a1 a2 a3 a4) := by
 intro a0 a1 a2 a3 a4 k
 have ih0 := spec_poHouses.zd k
 unfold spec_poHouses.f
 exact lD_
set_option maxHeartbeats 8000000 in
set_option maxRecDepth 100000 in
theorem spec_poHouses.calls (k : Nat) (a0_0 : Int) (a0_1 : Int) (a1 : ByteArray) (a2 : Int) (a3 : Int) (r : List Int) (w : World) (h : spec_poHouses.f k a0_0 a0_1 a1 a2 a3 = some r) :
  Calls Tryz.prog 40 #[.agg #[.int .i64 a0_0, .int .i64 a0_1], .string a1, .int .i64 a2, .int .i64 a3] w fun e w' => ∃ v0_ : Value, e = .returned (v0_) ∧ Kd.R (Kd.int .i64) 3 w' w.heap.size (fun _ => True) v0_ r ∧ Below w.heap.size w w' := by
 have hu25 := Tryz.underlying25;have HB := qb.mk (Below.refl w.heap.size w);have H := h; clear h; unfold spec_poHouses.f at H;obtain ⟨b3, hy253⟩ : ∃ y_ : List Int, y_ = (([a3, wrap64 (1 - a3)] : List Int)) := ⟨_, rfl⟩;replace H : (spec_poHouses.l0 k a1 a2 ([] : List Int) b3 (b3.length : Int) 0 a0_0 a0_1) = some r := by first | (rw [hy253]; with_reducible exact H) | (have H2_ := (Option.bind_some _ _).symm.trans H; rw [hy253]; with_reducible exact H2_) | (have H2_ := (Option.bind_some _ _).symm.trans H; with_reducible exact H2_) | with_reducible exact H | (rw [hy253]; exact H) | exact H
 have d0 := qb.mk hy253;clear hy253;have H' := qb.mk H;clear H
 go_enter Tryz.func40, Tryz.ntmps40
 go_wp2_with (first | (refine bE_ 4 #[.int .i64 a0_0, .int .i64 a0_1] 25 ?_; intro b5 hg w5 hbox hb; have b0 := qb.mk (hbox); have f4 := qb.mk ((by rw [hg]; exact c3_ : w.heap.size ≤ b5)); have b2 := qb.mk ((by rw [hg]; exact c3_ : w.heap.size ≤ b5)); replace HB := qb.mk ac_; clear hb hbox hg) | ((with_reducible refine zc (N := 15) rfl ?_); refine Kd.R_lit (Kd.int .i64) _ 3 ?hg (N := 15) ?hd (xs := ([a3, wrap64 (1 - a3)] : List Int)) (inner := [.int .i64 a3, .int .i64 (wrap64 (1 - a3))]) (ok := fun _ => True) (okp := fun _ => True) ?hr ?hp (fun _ hk => hk) trivial (Below.refl _ _) (Nat.le_refl _) (by simp) ?_; (case hd => rfl); (case hg => rfl); (case hr => first | (go_simp; done) | (go_simp; rfl)); (case hp => exact (Reps.one (show Kd.M (Kd.int .i64) _ _ _ a3 [.int .i64 a3] from rfl) (Reps.one (show Kd.M (Kd.int .i64) _ _ _ (wrap64 (1 - a3)) [.int .i64 (wrap64 (1 - a3))] from rfl) (Reps.none _ _)))); intro v254 w6 ho7 hb hg_ hnew_; clear hg_ hnew_; (first | rw [← d0.out] at ho7 | (simp only [Int.reduceToNat] at ho7; rw [← d0.out] at ho7)); have d1 := qb.mk (Kd.R_lower ho7 (qn bg_)); replace b0 := qb.mk ay_; replace HB := qb.mk (qo bg_ hb); clear hb ho7; obtain ⟨Ao8, co8, eo8⟩ := Kd.ja d1.out; subst eo8))
 go_loopg [9, 17] k (fun kq v9 v17 w' => ∃ (x9_1 : List Int) (x17_1 : Int), v17 = .int .i64 x17_1 ∧ qb (spec_poHouses.l0 kq a1 a2 x9_1 b3 (b3.length : Int) x17_1 a0_0 a0_1 = some r) ∧ qb (kq ≤ k) ∧ qb (Kd.R (Kd.int .i64) 3 w' w.heap.size (fun k_ => some k_ ≠ ((.slice Ao8 b3.length co8) : Value).ownBlock) v9 x9_1) ∧ qb (Kd.R (Kd.int .i64) 3 w' w.heap.size (fun k_ => some k_ ≠ (v9 : Value).ownBlock) (.slice Ao8 b3.length co8) b3) ∧ qb (w'.heap[b5]? = some (.cells #[.int .i64 a0_0, .int .i64 a0_1] 25 (0, 0))) ∧ qb (Below w.heap.size w w'))
 case atStart => exact ⟨(([] : List Int)), (0), es_, H', ⟨Nat.le_refl _⟩, ⟨by first | exact Kd.R_nil _ _ _ _ _ | exact Kd.N_nil _ _ _ _ _ | exact Kd.V_nil _ _ _ _ _ | exact Kd.Q_nil _ _ _ _ _ | exact Kd.S_nil _ _ _ _ _⟩, ⟨by (with_reducible repeat (first | apply Kd.qu | apply Kd.qt | apply Kd.qv)); exact Kd.zl d1.out (fun _ hk => cg_)⟩, ⟨bk_ b0⟩, ⟨be1_ HB b2⟩⟩
 case round =>
  clear H';obtain ⟨x9_1, x17_1, rfl, HA, HK1, b4, b1, b0, HB⟩ := hrel;cases gk with
  | zero => exact absurd HA.out (by simp [spec_poHouses.l0])
  | succ k1 =>
   have H := HA.out;clear HA
   simp only [spec_poHouses.l0] at H
   replace H := iD_ H; obtain ⟨c9b0, H⟩ | ⟨c9b0, H⟩ := H
   ·replace H := iD_ H; obtain ⟨c10b0, H⟩ | ⟨c10b0, H⟩ := H
    ·replace H := iD_ H; obtain ⟨c11b0, H⟩ | ⟨c11b0, H⟩ := H
     ·replace H := iD_ H; obtain ⟨c12b0, H⟩ | ⟨c12b0, H⟩ := H
      ·replace H := iD_ H; obtain ⟨c13b0, H⟩ | ⟨c13b0, H⟩ := H
       ·replace H := iE_ H; obtain ⟨c15b0, c15b1, H⟩ | ⟨c15, c15b0, c15b1, H⟩ := H
        ·replace H := bX_ H; obtain ⟨b6, A16, H⟩ := H
         replace H := iC_ H; obtain ⟨c17, H⟩ | ⟨c17, H⟩ := H
         ·have LMc17 := qb.mk c17
          clear c17;obtain ⟨d2, hy258⟩ : ∃ y_ : List Int, y_ = (x9_1 ++ [b6]) := ⟨_, rfl⟩;replace H : (spec_poHouses.l0 k1 a1 a2 d2 b3 (b3.length : Int) (wrap64 (x17_1 + 1)) a0_0 a0_1) = some r := by first | (rw [hy258]; with_reducible exact H) | (have H2_ := (Option.bind_some _ _).symm.trans H; rw [hy258]; with_reducible exact H2_) | (have H2_ := (Option.bind_some _ _).symm.trans H; with_reducible exact H2_) | with_reducible exact H | (rw [hy258]; exact H) | exact H
          have d3 := qb.mk hy258;clear hy258;have H' := qb.mk H;clear H;have p256 : 0 ≤ (x17_1 : Int) := od_;have q256 : x17_1 < (b3.length : Int) := od_;obtain ⟨ad256, e256, hx256_0⟩ := Kd.zi (Kd.ze b1.out).2.2 x17_1 p256 q256;cases e256;replace p256 := eq_true p256;replace q256 := eq_true q256;have p14 : 0 ≤ (a2 : Int) := od_;have q14 : a2 < (a1.size : Int) := od_;have hx14 := bt_at a1 a2;replace p14 := eq_true p14;replace q14 := eq_true q14;have hcz18_0 := cC_ b0 0;have hcz18_1 := cC_ b0 1;have hfz18_0 := qi b0.out 0;have hfz18_1 := qi b0.out 1
          go_wp2_with (first | (refine gL_ 49 Tryz.func62 #[.agg #[.int .i64 a0_0, .int .i64 a0_1], .int .i64 (rd b3 x17_1), .int .i64 a2] ?_; refine (spec_nuNumber.calls a0_0 a0_1 (rd b3 x17_1) a2 b6 _ A16.out).mono ?_; rintro e w19 ⟨rfl, hb⟩; refine ⟨_, rfl, ?_⟩; replace b4 := qb.mk (Kd.jb (kr_ b4) hb); replace b1 := qb.mk (Kd.jb (kr_ b1) hb); replace b0 := qb.mk ay_; replace HB := qb.mk (qo bg_ hb); (try clear hb)) | ((with_reducible refine zg (b := .append) (xs := #[.tmp 45, .tmp 50]) rfl ?_); at_builtin; refine Kd.R_append (Kd.int .i64) (w0 := w) w.heap.size rfl (.tmp 45) (.tmp 50) 28 3 (.int .i64 0) 8 rfl Tryz.underlying28 info3 rfl (by decide) (by omega) u9 x9_1 b6 [.int .i64 b6] (fun k_ => some k_ ≠ (.slice (some ad256) b3.length co8 : Value).ownBlock) (fun _ => False) rfl rfl ?aP (fun _ hk => hk.elim) ?aF ?aO ?aB ?aS ?aL ?_; (case aP => exact rfl); (case aB => exact bg_); (case aF => exact (fun k_ hk => Kd.fresh' (Kd.R_lt (kr_ b1)) k_ hk)); (case aO => exact (kr_ b4)); (case aS => exact (qn bg_)); (case aL => have := LMc17.out; omega); intro v259 w20 ho hb hg hat; rw [← d3.out] at ho; replace b1 := qb.mk c8_; replace b0 := qb.mk au_; replace HB := qb.mk (hb); have d4 := qb.mk (ho); clear b4; clear ho hb hg hat))
          go_roundg k1
          case measure => have := HK1.out; omega
          case rel => exact ⟨(d2), (wrap64 (x17_1 + 1)), es_, H', ⟨by have := HK1.out; omega⟩, ⟨kr_ d4⟩, ⟨by (with_reducible repeat (first | apply Kd.qu | apply Kd.qt | apply Kd.qv)); exact Kd.zl b1.out (fun _ hk => hk.2)⟩, ⟨bk_ b0⟩, ⟨be1_ HB b2⟩⟩
         ·cases H
        ·replace H := iE_ H; obtain ⟨c22b0, c22b1, H⟩ | ⟨c22, c22b0, c22b1, H⟩ := H
         ·replace H := iE_ H; obtain ⟨c23b0, c23b1, H⟩ | ⟨c23, c23b0, c23b1, H⟩ := H
          ·replace H := bX_ H; obtain ⟨b7, A24, H⟩ := H
           replace H := iC_ H; obtain ⟨c25, H⟩ | ⟨c25, H⟩ := H
           ·have LMc25 := qb.mk c25
            clear c25;obtain ⟨d5, hy262⟩ : ∃ y_ : List Int, y_ = (x9_1 ++ [b7]) := ⟨_, rfl⟩;replace H : (spec_poHouses.l0 k1 a1 a2 d5 b3 (b3.length : Int) (wrap64 (x17_1 + 1)) a0_0 a0_1) = some r := by first | (rw [hy262]; with_reducible exact H) | (have H2_ := (Option.bind_some _ _).symm.trans H; rw [hy262]; with_reducible exact H2_) | (have H2_ := (Option.bind_some _ _).symm.trans H; with_reducible exact H2_) | with_reducible exact H | (rw [hy262]; exact H) | exact H
            have d6 := qb.mk hy262;clear hy262;have H' := qb.mk H;clear H;have p256 : 0 ≤ (x17_1 : Int) := od_;have q256 : x17_1 < (b3.length : Int) := od_;obtain ⟨ad256, e256, hx256_0⟩ := Kd.zi (Kd.ze b1.out).2.2 x17_1 p256 q256;cases e256;replace p256 := eq_true p256;replace q256 := eq_true q256;have p14 : 0 ≤ (a2 : Int) := od_;have q14 : a2 < (a1.size : Int) := od_;have hx14 := bt_at a1 a2;replace p14 := eq_true p14;replace q14 := eq_true q14;have p21 : 0 ≤ (a2 : Int) := od_;have q21 : a2 < (a1.size : Int) := od_;have hx21 := bt_at a1 a2;replace p21 := eq_true p21;replace q21 := eq_true q21;have hcz26_0 := cC_ b0 0;have hcz26_1 := cC_ b0 1;have hfz26_0 := qi b0.out 0;have hfz26_1 := qi b0.out 1
            go_wp2_with (first | (refine gL_ 49 Tryz.func62 #[.agg #[.int .i64 a0_0, .int .i64 a0_1], .int .i64 (rd b3 x17_1), .int .i64 a2] ?_; refine (spec_nuNumber.calls a0_0 a0_1 (rd b3 x17_1) a2 b7 _ A24.out).mono ?_; rintro e w27 ⟨rfl, hb⟩; refine ⟨_, rfl, ?_⟩; replace b4 := qb.mk (Kd.jb (kr_ b4) hb); replace b1 := qb.mk (Kd.jb (kr_ b1) hb); replace b0 := qb.mk ay_; replace HB := qb.mk (qo bg_ hb); (try clear hb)) | ((with_reducible refine zg (b := .append) (xs := #[.tmp 45, .tmp 50]) rfl ?_); at_builtin; refine Kd.R_append (Kd.int .i64) (w0 := w) w.heap.size rfl (.tmp 45) (.tmp 50) 28 3 (.int .i64 0) 8 rfl Tryz.underlying28 info3 rfl (by decide) (by omega) u9 x9_1 b7 [.int .i64 b7] (fun k_ => some k_ ≠ (.slice (some ad256) b3.length co8 : Value).ownBlock) (fun _ => False) rfl rfl ?aP (fun _ hk => hk.elim) ?aF ?aO ?aB ?aS ?aL ?_; (case aP => exact rfl); (case aB => exact bg_); (case aF => exact (fun k_ hk => Kd.fresh' (Kd.R_lt (kr_ b1)) k_ hk)); (case aO => exact (kr_ b4)); (case aS => exact (qn bg_)); (case aL => have := LMc25.out; omega); intro v263 w28 ho hb hg hat; rw [← d6.out] at ho; replace b1 := qb.mk c8_; replace b0 := qb.mk au_; replace HB := qb.mk (hb); have d7 := qb.mk (ho); clear b4; clear ho hb hg hat))
            go_roundg k1
            case measure => have := HK1.out; omega
            case rel => exact ⟨(d5), (wrap64 (x17_1 + 1)), es_, H', ⟨by have := HK1.out; omega⟩, ⟨kr_ d7⟩, ⟨by (with_reducible repeat (first | apply Kd.qu | apply Kd.qt | apply Kd.qv)); exact Kd.zl b1.out (fun _ hk => hk.2)⟩, ⟨bk_ b0⟩, ⟨be1_ HB b2⟩⟩
           ·cases H
          ·replace H := iE_ H; obtain ⟨c30b0, c30b1, H⟩ | ⟨c30, c30b0, c30b1, H⟩ := H
           ·replace H := iE_ H; obtain ⟨c31b0, c31b1, H⟩ | ⟨c31, c31b0, c31b1, H⟩ := H
            ·replace H := bX_ H; obtain ⟨b8, A32, H⟩ := H
             replace H := iC_ H; obtain ⟨c33, H⟩ | ⟨c33, H⟩ := H
             ·have LMc33 := qb.mk c33
              clear c33;obtain ⟨d8, hy266⟩ : ∃ y_ : List Int, y_ = (x9_1 ++ [b8]) := ⟨_, rfl⟩;replace H : (spec_poHouses.l0 k1 a1 a2 d8 b3 (b3.length : Int) (wrap64 (x17_1 + 1)) a0_0 a0_1) = some r := by first | (rw [hy266]; with_reducible exact H) | (have H2_ := (Option.bind_some _ _).symm.trans H; rw [hy266]; with_reducible exact H2_) | (have H2_ := (Option.bind_some _ _).symm.trans H; with_reducible exact H2_) | with_reducible exact H | (rw [hy266]; exact H) | exact H
              have d9 := qb.mk hy266;clear hy266;have H' := qb.mk H;clear H;have p256 : 0 ≤ (x17_1 : Int) := od_;have q256 : x17_1 < (b3.length : Int) := od_;obtain ⟨ad256, e256, hx256_0⟩ := Kd.zi (Kd.ze b1.out).2.2 x17_1 p256 q256;cases e256;replace p256 := eq_true p256;replace q256 := eq_true q256;have p14 : 0 ≤ (a2 : Int) := od_;have q14 : a2 < (a1.size : Int) := od_;have hx14 := bt_at a1 a2;replace p14 := eq_true p14;replace q14 := eq_true q14;have p21 : 0 ≤ (a2 : Int) := od_;have q21 : a2 < (a1.size : Int) := od_;have hx21 := bt_at a1 a2;replace p21 := eq_true p21;replace q21 := eq_true q21;have p29 : 0 ≤ (a2 : Int) := od_;have q29 : a2 < (a1.size : Int) := od_;have hx29 := bt_at a1 a2;replace p29 := eq_true p29;replace q29 := eq_true q29;have hcz34_0 := cC_ b0 0;have hcz34_1 := cC_ b0 1;have hfz34_0 := qi b0.out 0;have hfz34_1 := qi b0.out 1
              go_wp2_with (first | (refine gL_ 49 Tryz.func62 #[.agg #[.int .i64 a0_0, .int .i64 a0_1], .int .i64 (rd b3 x17_1), .int .i64 a2] ?_; refine (spec_nuNumber.calls a0_0 a0_1 (rd b3 x17_1) a2 b8 _ A32.out).mono ?_; rintro e w35 ⟨rfl, hb⟩; refine ⟨_, rfl, ?_⟩; replace b4 := qb.mk (Kd.jb (kr_ b4) hb); replace b1 := qb.mk (Kd.jb (kr_ b1) hb); replace b0 := qb.mk ay_; replace HB := qb.mk (qo bg_ hb); (try clear hb)) | ((with_reducible refine zg (b := .append) (xs := #[.tmp 45, .tmp 50]) rfl ?_); at_builtin; refine Kd.R_append (Kd.int .i64) (w0 := w) w.heap.size rfl (.tmp 45) (.tmp 50) 28 3 (.int .i64 0) 8 rfl Tryz.underlying28 info3 rfl (by decide) (by omega) u9 x9_1 b8 [.int .i64 b8] (fun k_ => some k_ ≠ (.slice (some ad256) b3.length co8 : Value).ownBlock) (fun _ => False) rfl rfl ?aP (fun _ hk => hk.elim) ?aF ?aO ?aB ?aS ?aL ?_; (case aP => exact rfl); (case aB => exact bg_); (case aF => exact (fun k_ hk => Kd.fresh' (Kd.R_lt (kr_ b1)) k_ hk)); (case aO => exact (kr_ b4)); (case aS => exact (qn bg_)); (case aL => have := LMc33.out; omega); intro v267 w36 ho hb hg hat; rw [← d9.out] at ho; replace b1 := qb.mk c8_; replace b0 := qb.mk au_; replace HB := qb.mk (hb); have f0 := qb.mk (ho); clear b4; clear ho hb hg hat))
              go_roundg k1
              case measure => have := HK1.out; omega
              case rel => exact ⟨(d8), (wrap64 (x17_1 + 1)), es_, H', ⟨by have := HK1.out; omega⟩, ⟨kr_ f0⟩, ⟨by (with_reducible repeat (first | apply Kd.qu | apply Kd.qt | apply Kd.qv)); exact Kd.zl b1.out (fun _ hk => hk.2)⟩, ⟨bk_ b0⟩, ⟨be1_ HB b2⟩⟩
             ·cases H
            ·exact ld_
           ·exact ld_
         ·replace H := iE_ H; obtain ⟨c38b0, c38b1, H⟩ | ⟨c38, c38b0, c38b1, H⟩ := H
          ·replace H := iE_ H; obtain ⟨c39b0, c39b1, H⟩ | ⟨c39, c39b0, c39b1, H⟩ := H
           ·replace H := bX_ H; obtain ⟨b9, A40, H⟩ := H
            replace H := iC_ H; obtain ⟨c41, H⟩ | ⟨c41, H⟩ := H
            ·have LMc41 := qb.mk c41
             clear c41;obtain ⟨f1, hy270⟩ : ∃ y_ : List Int, y_ = (x9_1 ++ [b9]) := ⟨_, rfl⟩;replace H : (spec_poHouses.l0 k1 a1 a2 f1 b3 (b3.length : Int) (wrap64 (x17_1 + 1)) a0_0 a0_1) = some r := by first | (rw [hy270]; with_reducible exact H) | (have H2_ := (Option.bind_some _ _).symm.trans H; rw [hy270]; with_reducible exact H2_) | (have H2_ := (Option.bind_some _ _).symm.trans H; with_reducible exact H2_) | with_reducible exact H | (rw [hy270]; exact H) | exact H
             have f2 := qb.mk hy270;clear hy270;have H' := qb.mk H;clear H;have p256 : 0 ≤ (x17_1 : Int) := od_;have q256 : x17_1 < (b3.length : Int) := od_;obtain ⟨ad256, e256, hx256_0⟩ := Kd.zi (Kd.ze b1.out).2.2 x17_1 p256 q256;cases e256;replace p256 := eq_true p256;replace q256 := eq_true q256;have p14 : 0 ≤ (a2 : Int) := od_;have q14 : a2 < (a1.size : Int) := od_;have hx14 := bt_at a1 a2;replace p14 := eq_true p14;replace q14 := eq_true q14;have p21 : 0 ≤ (a2 : Int) := od_;have q21 : a2 < (a1.size : Int) := od_;have hx21 := bt_at a1 a2;replace p21 := eq_true p21;replace q21 := eq_true q21;have p37 : 0 ≤ (a2 : Int) := od_;have q37 : a2 < (a1.size : Int) := od_;have hx37 := bt_at a1 a2;replace p37 := eq_true p37;replace q37 := eq_true q37;have hcz42_0 := cC_ b0 0;have hcz42_1 := cC_ b0 1;have hfz42_0 := qi b0.out 0;have hfz42_1 := qi b0.out 1
             go_wp2_with (first | (refine gL_ 49 Tryz.func62 #[.agg #[.int .i64 a0_0, .int .i64 a0_1], .int .i64 (rd b3 x17_1), .int .i64 a2] ?_; refine (spec_nuNumber.calls a0_0 a0_1 (rd b3 x17_1) a2 b9 _ A40.out).mono ?_; rintro e w43 ⟨rfl, hb⟩; refine ⟨_, rfl, ?_⟩; replace b4 := qb.mk (Kd.jb (kr_ b4) hb); replace b1 := qb.mk (Kd.jb (kr_ b1) hb); replace b0 := qb.mk ay_; replace HB := qb.mk (qo bg_ hb); (try clear hb)) | ((with_reducible refine zg (b := .append) (xs := #[.tmp 45, .tmp 50]) rfl ?_); at_builtin; refine Kd.R_append (Kd.int .i64) (w0 := w) w.heap.size rfl (.tmp 45) (.tmp 50) 28 3 (.int .i64 0) 8 rfl Tryz.underlying28 info3 rfl (by decide) (by omega) u9 x9_1 b9 [.int .i64 b9] (fun k_ => some k_ ≠ (.slice (some ad256) b3.length co8 : Value).ownBlock) (fun _ => False) rfl rfl ?aP (fun _ hk => hk.elim) ?aF ?aO ?aB ?aS ?aL ?_; (case aP => exact rfl); (case aB => exact bg_); (case aF => exact (fun k_ hk => Kd.fresh' (Kd.R_lt (kr_ b1)) k_ hk)); (case aO => exact (kr_ b4)); (case aS => exact (qn bg_)); (case aL => have := LMc41.out; omega); intro v271 w44 ho hb hg hat; rw [← f2.out] at ho; replace b1 := qb.mk c8_; replace b0 := qb.mk au_; replace HB := qb.mk (hb); have f3 := qb.mk (ho); clear b4; clear ho hb hg hat))
             go_roundg k1
             case measure => have := HK1.out; omega
             case rel => exact ⟨(f1), (wrap64 (x17_1 + 1)), es_, H', ⟨by have := HK1.out; omega⟩, ⟨kr_ f3⟩, ⟨by (with_reducible repeat (first | apply Kd.qu | apply Kd.qt | apply Kd.qv)); exact Kd.zl b1.out (fun _ hk => hk.2)⟩, ⟨bk_ b0⟩, ⟨be1_ HB b2⟩⟩
            ·cases H
           ·exact lc_
          ·exact lc_
       ·cases H
      ·cases H
     ·cases H
    ·cases H
   ·obtain rfl := Option.some.inj H
    go_wp2
    go_ret
    exact ⟨_, er_, (by (with_reducible repeat (first | apply Kd.qu | apply Kd.qt | apply Kd.qv)); exact Kd.zl b4.out (fun _ hk => trivial)), be1_ HB b2⟩
mutual
def spec_RouteNumbers.j0 : Nat → ByteArray → Int → Bool → Int → Int → Option (List Int × Bool)
 | 0, _, _, _, _, _ => none
 | k + 1, x1, x2, x20, x274000, x274001 => if x20 = true then (some (([] : List Int), false)) else ((spec_poSides.f k x1 x2).bind fun t276 => (spec_RouteNumbers.l0 k x1 ([] : List Int) 0 t276 (t276.length : Int) 0 x274000 x274001))
def spec_RouteNumbers.l0 : Nat → ByteArray → List Int → Int → List Int → Int → Int → Int → Int → Option (List Int × Bool)
 | 0, _, _, _, _, _, _, _, _ => none
 | k + 1, x1, x8, x9, x23, x24, x25, x274000, x274001 => if x25 < x24 then (if 0 ≤ x25 then (if x25 < (x23.length : Int) then ((spec_poHouses.f k x274000 x274001 x1 x25 x9).bind fun t280 => (if x8.length + t280.length < 17592186044416 then (spec_RouteNumbers.l0 k x1 (x8 ++ t280) (rd x23 x25) x23 x24 (wrap64 (x25 + 1)) x274000 x274001) else (none))) else (none)) else (none)) else (some (x8, true))
end
def spec_RouteNumbers.f (k : Nat) (a0_0 : Int) (a0_1 : Int) (a1 : ByteArray) (a2 : Int) : Option (List Int × Bool) := (spec_poFits.f k a0_0 a0_1 a1).bind fun t274 => (if t274 = true then ((spec_l1In.f a2 0 2).bind fun t275 => (spec_RouteNumbers.j0 k a1 a2 (!t275) a0_0 a0_1)) else (spec_RouteNumbers.j0 k a1 a2 true a0_0 a0_1))
theorem spec_RouteNumbers.zd : ∀ k, (∀ y0 y1 y2 y3 y4, LeO (spec_RouteNumbers.j0 k y0 y1 y2 y3 y4) (spec_RouteNumbers.j0 (k + 1) y0 y1 y2 y3 y4)) ∧ (∀ y0 y1 y2 y3 y4 y5 y6 y7, LeO (spec_RouteNumbers.l0 k y0 y1 y2 y3 y4 y5 y6 y7) (spec_RouteNumbers.l0 (k + 1) y0 y1 y2 y3 y4 y5 y6 y7))
 | 0 => ⟨fun _ _ _ _ _ r h => by simp [spec_RouteNumbers.j0] at h, fun _ _ _ _ _ _ _ _ r h => by simp [spec_RouteNumbers.l0] at h⟩
 | k + 1 => by
  obtain ⟨ih0, ih1⟩ := spec_RouteNumbers.zd k
  refine ⟨?_, ?_⟩
  all_goals first | (intro y0 y1 y2 y3 y4; unfold spec_RouteNumbers.j0) | (intro y0 y1 y2 y3 y4 y5 y6 y7; unfold spec_RouteNumbers.l0)
  all_goals (repeat' first | (with_reducible first | exact ih0 _ _ _ _ _ | exact ih1 _ _ _ _ _ _ _ _ | exact spec_poFits.mono _ _ _ _ | exact spec_poHouses.mono _ _ _ _ _ _ | exact spec_poSides.mono _ _ _ | exact LeO.refl _ | exact LeO.none _ | refine LeO.ite ?_ ?_ | refine LeO.bind ?_ (fun _ => ?_)) | exact ih0 _ _ _ _ _ | exact ih1 _ _ _ _ _ _ _ _ | exact spec_poFits.mono _ _ _ _ | exact spec_poHouses.mono _ _ _ _ _ _ | exact spec_poSides.mono _ _ _ | exact LeO.none _ | refine LeO.ite ?_ ?_ | refine LeO.bind ?_ (fun _ => ?_))
theorem spec_RouteNumbers.mono : ∀ a0 a1 a2 a3 k, LeO (spec_RouteNumbers.f k a0 a1 a2 a3) (spec_RouteNumbers.f (k + 1) a0 a1 a2 a3) := by
 intro a0 a1 a2 a3 k
 obtain ⟨ih0, ih1⟩ := spec_RouteNumbers.zd k
 unfold spec_RouteNumbers.f
 repeat' first | (with_reducible first | exact ih0 _ _ _ _ _ | exact ih1 _ _ _ _ _ _ _ _ | exact spec_poFits.mono _ _ _ _ | exact spec_poHouses.mono _ _ _ _ _ _ | exact spec_poSides.mono _ _ _ | exact LeO.refl _ | exact LeO.none _ | refine LeO.ite ?_ ?_ | refine LeO.bind ?_ (fun _ => ?_)) | exact ih0 _ _ _ _ _ | exact ih1 _ _ _ _ _ _ _ _ | exact spec_poFits.mono _ _ _ _ | exact spec_poHouses.mono _ _ _ _ _ _ | exact spec_poSides.mono _ _ _ | exact LeO.none _ | refine LeO.ite ?_ ?_ | refine LeO.bind ?_ (fun _ => ?_)
set_option maxHeartbeats 8000000 in
set_option maxRecDepth 100000 in
theorem spec_RouteNumbers.calls (k : Nat) (a0_0 : Int) (a0_1 : Int) (a1 : ByteArray) (a2 : Int) (r1 : List Int) (r2 : Bool) (w : World) (h : spec_RouteNumbers.f k a0_0 a0_1 a1 a2 = some (r1, r2)) :
  Calls Tryz.prog 7 #[.agg #[.int .i64 a0_0, .int .i64 a0_1], .string a1, .int .i64 a2] w fun e w' => ∃ v0_ : Value, e = .returned (.tuple #[v0_, .bool r2]) ∧ Kd.R (Kd.int .i64) 3 w' w.heap.size (fun _ => True) v0_ r1 ∧ Below w.heap.size w w' := by
 have hu25 := Tryz.underlying25;have HB := qb.mk (Below.refl w.heap.size w);have H := h; clear h; unfold spec_RouteNumbers.f at H;have HC4 := qb.mk H;clear H
 go_enter Tryz.func7, Tryz.ntmps7
 go_upto_region 1 with (first | (refine bE_ 3 #[.int .i64 a0_0, .int .i64 a0_1] 25 ?_; intro b2 hg w5 hbox hb; have b0 := qb.mk (hbox); have d3 := qb.mk (av_); have b1 := qb.mk (av_); replace HB := qb.mk ac_; clear hb hbox hg))
 (try simp only [Act.put, sA_, sB_, sC_])
 go_cut [20] (fun v20 wc => ∃ (kq : Nat) (x20_3 : Bool), v20 = .bool x20_3 ∧ qb (spec_RouteNumbers.j0 kq a1 a2 x20_3 a0_0 a0_1 = some (r1, r2)) ∧ qb (kq ≤ k) ∧ qb (wc.heap[b2]? = some (.cells #[.int .i64 a0_0, .int .i64 a0_1] 25 (0, 0))) ∧ qb (Below w.heap.size w wc))
 case first =>
  have H := HC4.out;clear HC4;replace H := bX_ H; obtain ⟨d4, A6, H⟩ := H;replace H := iB_ H; obtain ⟨rfl, H⟩ | ⟨rfl, H⟩ := H
  ·replace H := bX_ H; obtain ⟨b9, A8, H⟩ := H
   have H' := qb.mk H;clear H;have hcz9_0 := cC_ b0 0;have hcz9_1 := cC_ b0 1;have hfz9_0 := qi b0.out 0;have hfz9_1 := qi b0.out 1
   go_wp2_with (first | (refine gL_ 14 Tryz.func37 #[.agg #[.int .i64 a0_0, .int .i64 a0_1], .string a1] ?_; refine (spec_poFits.calls k a0_0 a0_1 a1 true _ A6.out).mono ?_; rintro e w10 ⟨rfl, hb⟩; refine ⟨_, rfl, ?_⟩; replace b0 := qb.mk a6_; replace HB := qb.mk b6_; (try clear hb)) | (go_at_call 38; (with_reducible refine (spec_l1In.calls a2 0 2 b9 _ A8.out).mono ?_); rintro e w' ⟨rfl, ⟨nd, rfl⟩⟩))
   go_meet
   case rel => exact ⟨_, (!b9), es_, H', ⟨by first | omega | exact Nat.le_refl _⟩, ⟨bk_ b0⟩, ⟨be1_ HB b1⟩⟩
  ·have H' := qb.mk H
   clear H;have hcz11_0 := cC_ b0 0;have hcz11_1 := cC_ b0 1;have hfz11_0 := qi b0.out 0;have hfz11_1 := qi b0.out 1
   go_wp2_with (first | (refine gL_ 14 Tryz.func37 #[.agg #[.int .i64 a0_0, .int .i64 a0_1], .string a1] ?_; refine (spec_poFits.calls k a0_0 a0_1 a1 false _ A6.out).mono ?_; rintro e w12 ⟨rfl, hb⟩; refine ⟨_, rfl, ?_⟩; replace b0 := qb.mk a6_; replace HB := qb.mk b6_; (try clear hb)))
   exact lm_
 case rest =>
  clear HC4;(try clear hcz11_0);(try clear hcz11_1);(try clear hcz9_0);(try clear hcz9_1);(try clear hfz11_0);(try clear hfz11_1);(try clear hfz9_0);(try clear hfz9_1);obtain ⟨kq, x20_3, rfl, HA, HJ3, b0, HB⟩ := hcut;cases kq with
  | zero => exact absurd HA.out (by simp [spec_RouteNumbers.j0])
  | succ kj3 =>
   have H := HA.out;clear HA
   simp only [spec_RouteNumbers.j0] at H
   replace H := iB_ H; obtain ⟨rfl, H⟩ | ⟨rfl, H⟩ := H
   ·replace H := iP_ H; obtain ⟨rfl, rfl⟩ := H
    go_wp2
    go_ret2
    exact ⟨_, er_, bt_, be1_ HB b1⟩
   ·replace H := bX_ H; obtain ⟨b3, A14, H⟩ := H
    have H' := qb.mk H;clear H
    go_wp2_with (first | (refine gL_ 23 Tryz.func39 #[.string a1, .int .i64 a2] ?_; refine (spec_poSides.calls kj3 a1 a2 b3 _ A14.out).mono ?_; rintro e w15 ⟨v277, rfl, ho0, hb⟩; refine ⟨_, rfl, ?_⟩; have b8 := qb.mk (Kd.R_lower ho0 (qn (be1_ HB b1))); replace b0 := qb.mk a6_; replace HB := qb.mk b6_; (try clear hb ho0); obtain ⟨Ao16, co16, eo16⟩ := Kd.ja b8.out; subst eo16))
    go_loopg [8, 9, 25] kj3 (fun kq v8 v9 v25 w' => ∃ (x8_2 : List Int) (x9_2 : Int) (x25_2 : Int), v9 = .int .i64 x9_2 ∧ v25 = .int .i64 x25_2 ∧ qb (spec_RouteNumbers.l0 kq a1 x8_2 x9_2 b3 (b3.length : Int) x25_2 a0_0 a0_1 = some (r1, r2)) ∧ qb (kq ≤ kj3) ∧ qb (Kd.R (Kd.int .i64) 3 w' w.heap.size (fun k_ => some k_ ≠ ((.slice Ao16 b3.length co16) : Value).ownBlock) v8 x8_2) ∧ qb (Kd.R (Kd.int .i64) 3 w' w.heap.size (fun k_ => some k_ ≠ (v8 : Value).ownBlock) (.slice Ao16 b3.length co16) b3) ∧ qb (w'.heap[b2]? = some (.cells #[.int .i64 a0_0, .int .i64 a0_1] 25 (0, 0))) ∧ qb (Below w.heap.size w w'))
    case atStart => exact ⟨(([] : List Int)), (0), (0), es_, es_, H', ⟨Nat.le_refl _⟩, ⟨by first | exact Kd.R_nil _ _ _ _ _ | exact Kd.N_nil _ _ _ _ _ | exact Kd.V_nil _ _ _ _ _ | exact Kd.Q_nil _ _ _ _ _ | exact Kd.S_nil _ _ _ _ _⟩, ⟨by (with_reducible repeat (first | apply Kd.qu | apply Kd.qt | apply Kd.qv)); exact Kd.zl b8.out (fun _ hk => cg_)⟩, ⟨bk_ b0⟩, ⟨be1_ HB b1⟩⟩
    case round =>
     clear H';(try clear hcz11_0);(try clear hcz11_1);(try clear hcz9_0);(try clear hcz9_1);(try clear hfz11_0);(try clear hfz11_1);(try clear hfz9_0);(try clear hfz9_1);obtain ⟨x8_2, x9_2, x25_2, rfl, rfl, HA, HK2, b6, b4, b0, HB⟩ := hrel;cases gk with
     | zero => exact absurd HA.out (by simp [spec_RouteNumbers.l0])
     | succ k2 =>
      have H := HA.out;clear HA
      simp only [spec_RouteNumbers.l0] at H
      replace H := iD_ H; obtain ⟨c17b0, H⟩ | ⟨c17b0, H⟩ := H
      ·replace H := iD_ H; obtain ⟨c18b0, H⟩ | ⟨c18b0, H⟩ := H
       ·replace H := iD_ H; obtain ⟨c19b0, H⟩ | ⟨c19b0, H⟩ := H
        ·replace H := bX_ H; obtain ⟨b7, A20, H⟩ := H
         replace H := iC_ H; obtain ⟨c21, H⟩ | ⟨c21, H⟩ := H
         ·have LMc21 := qb.mk c21
          clear c21;obtain ⟨d0, hy283⟩ : ∃ y_ : List Int, y_ = (x8_2 ++ b7) := ⟨_, rfl⟩;replace H : (spec_RouteNumbers.l0 k2 a1 d0 (rd b3 x25_2) b3 (b3.length : Int) (wrap64 (x25_2 + 1)) a0_0 a0_1) = some (r1, r2) := by first | (rw [hy283]; with_reducible exact H) | (have H2_ := (Option.bind_some _ _).symm.trans H; rw [hy283]; with_reducible exact H2_) | (have H2_ := (Option.bind_some _ _).symm.trans H; with_reducible exact H2_) | with_reducible exact H | (rw [hy283]; exact H) | exact H
          have d1 := qb.mk hy283;clear hy283;have H' := qb.mk H;clear H;have p279 : 0 ≤ (x25_2 : Int) := od_;have q279 : x25_2 < (b3.length : Int) := od_;obtain ⟨ad279, e279, hx279_0⟩ := Kd.zi (Kd.ze b4.out).2.2 x25_2 p279 q279;cases e279;replace p279 := eq_true p279;replace q279 := eq_true q279;have hcz22_0 := cC_ b0 0;have hcz22_1 := cC_ b0 1;have hfz22_0 := qi b0.out 0;have hfz22_1 := qi b0.out 1
          go_wp2_with (first | (refine gL_ 35 Tryz.func40 #[.agg #[.int .i64 a0_0, .int .i64 a0_1], .string a1, .int .i64 x25_2, .int .i64 x9_2] ?_; refine (spec_poHouses.calls k2 a0_0 a0_1 a1 x25_2 x9_2 b7 _ A20.out).mono ?_; rintro e w23 ⟨v281, rfl, ho0, hb⟩; refine ⟨_, rfl, ?_⟩; have b5 := qb.mk (Kd.R_lower (Kd.R_new' (Kd.R_new' ho0 (Kd.R_lt (kr_ b6))) (Kd.R_lt (kr_ b4))) (qn (be1_ HB b1))); replace b6 := qb.mk (Kd.R_elder' (kr_ b6) c9_ hb); replace b4 := qb.mk (Kd.R_elder' (kr_ b4) c9_ hb); replace b0 := qb.mk a6_; replace HB := qb.mk b6_; (try clear hb ho0); obtain ⟨Ao25, co25, eo25⟩ := Kd.ja b5.out; subst eo25) | ((with_reducible refine zg (b := .append) (xs := #[.tmp 30, .tmp 35]) rfl ?_); at_builtin; refine Kd.R_append_rows (Kd.int .i64) (w0 := w) w.heap.size rfl (.tmp 30) (.tmp 35) 28 3 (.int .i64 0) 8 rfl Tryz.underlying28 info3 rfl (by decide) (by omega) u8 x8_2 b7 _ _ _ (fun k_ => some k_ ≠ (.slice (some ad279) b3.length co16 : Value).ownBlock ∧ some k_ ≠ (.slice Ao25 b7.length co25 : Value).ownBlock) (fun _ => False) rfl rfl ?aO ?aR (fun _ _ h => h) (fun _ h => h.elim) ?aF ?aB ?aS ?aL ?_; (case aR => repeat (first | exact (Kd.ze b5.out).2.2 | (with_reducible refine Kd.zu ?_ _) | (with_reducible refine Kd.zt ?_ _) | (with_reducible refine Kd.zz ?_))); (case aB => exact (be1_ HB b1)); (case aF => exact (fun k_ hk => ⟨Kd.fresh' (Kd.R_lt (kr_ b4)) k_ hk, Kd.fresh' (Kd.R_lt (kr_ b5)) k_ hk⟩)); (case aO => exact (kr_ b6)); (case aS => exact (qn (be1_ HB b1))); (case aL => have := LMc21.out; omega); intro v284 w24 ho hb hg hat; rw [← d1.out] at ho; replace b4 := qb.mk (Kd.zy (ok := (fun k_ => some k_ ≠ (.slice Ao25 b7.length co25 : Value).ownBlock)) (by (with_reducible repeat (first | apply Kd.qu | apply Kd.qt | apply Kd.qv)); exact Kd.zl b4.out (fun _ hk => ⟨hk.2, hk.1⟩)) hg hat); replace b0 := qb.mk (blk_grown (g := b2) (o := .cells #[.int .i64 a0_0, .int .i64 a0_1] 25 (0, 0)) (bk_ b0) hg (Kd.R_ne b6.out b0.out (by decide))); replace b5 := qb.mk (Kd.zy (ok := (fun k_ => some k_ ≠ (.slice (some ad279) b3.length co16 : Value).ownBlock)) (by (with_reducible repeat (first | apply Kd.qu | apply Kd.qt | apply Kd.qv)); exact Kd.zl b5.out (fun _ hk => ⟨hk.2, hk.1.2⟩)) hg hat); replace HB := qb.mk (hb); have d2 := qb.mk (ho); clear b6; clear ho hb hg hat))
          go_roundg k2
          case measure => have := HJ3.out; have := HK2.out; omega
          case rel => exact ⟨(d0), (rd b3 x25_2), (wrap64 (x25_2 + 1)), es_, es_, H', ⟨by have := HJ3.out; have := HK2.out; omega⟩, ⟨by (with_reducible repeat (first | apply Kd.qu | apply Kd.qt | apply Kd.qv)); exact Kd.zl d2.out (fun _ hk => hk.1)⟩, ⟨by (with_reducible repeat (first | apply Kd.qu | apply Kd.qt | apply Kd.qv)); exact Kd.zl b4.out (fun _ hk => hk.2)⟩, ⟨bk_ b0⟩, ⟨be1_ HB b1⟩⟩
         ·cases H
        ·cases H
       ·cases H
      ·replace H := iP_ H; obtain ⟨rfl, rfl⟩ := H
       go_wp2
       go_ret2
       exact ⟨_, er_, c7_, be1_ HB b1⟩
end Go.Proofs.YtpopeedfgenebaaGreat.PFnPostDelivers
