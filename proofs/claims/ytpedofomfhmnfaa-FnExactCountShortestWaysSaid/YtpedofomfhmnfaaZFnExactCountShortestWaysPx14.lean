/- Cut by wip/cut.py out of the texts of this claim (printed by the kit's printer, or this session's own): what the row's theorem does not reach is struck. Not trusted: Lean checks it. -/
import Derived.Test.YtpedofomfhmnfaaZFnExactCountShortestWaysPx0
import Derived.Test.YtpedofomfhmnfaaZFnExactCountShortestWaysPx10
import Derived.Test.YtpedofomfhmnfaaZFnExactCountShortestWaysPx12
import Derived.Test.YtpedofomfhmnfaaZFnExactCountShortestWaysPx13
namespace Go.Proofs.Ytpedofomfhmnfaa.PFnExactCountShortestWays
open Go.RowKit Go.Proofs.YtpedofomfhmnfaaW.PrintWords Go.Proofs.YtpedofomfhmnfaaW.PrintLast Go.Proofs.YtpedofomfhmnfaaW.PrintMore
attribute [local go_sem] max2_int min2_int max_two min_two max_three min_three max_four min_four
set_option linter.unusedVariables false
set_option linter.unusedSimpArgs false
def impl_CountShortestWays.ok (W H : Int) (l1 : List Int) : Bool := decide (1 ≤ W ∧ W ≤ 8) && (decide (1 ≤ H ∧ H ≤ 8) && impl_distancesTo.pair W H l1)
def impl_CountShortestWays.ways (k : Nat) (a0_0 a0_1 : Int) (l0_2 : List S58) (l1 l2 : List Int) : Option Int := if impl_CountShortestWays.ok a0_0 a0_1 l1 = true then (impl_distancesTo.f k a0_0 a0_1 l0_2 l2).bind fun ds => if impl_distancesTo.shape a0_0 a0_1 ds = true then impl_countWays.f k a0_0.toNat a0_1.toNat l0_2 ds (rd l1 0) (rd l1 1) else none else none
def impl_CountShortestWays.f (k : Nat) (a0_0 : Int) (a0_1 : Int) (l0_2 : List S58) (l1 : List Int) (l2 : List Int) : Option (Int × Bool) := (impl_areCorners.f k a0_0 a0_1 l0_2 [l1, l2]).bind fun t => if t = true then (impl_distanceIn.f k a0_0 a0_1 l0_2 l1 l2).bind fun p => if p.2 = true then (impl_CountShortestWays.ways k a0_0 a0_1 l0_2 l1 l2).bind fun r => some (r, true) else some (0, false) else some (0, false)
theorem impl_CountShortestWays.mono : ∀ a0 a1 a2 a3 a4 k, LeO (impl_CountShortestWays.f k a0 a1 a2 a3 a4) (impl_CountShortestWays.f (k + 1) a0 a1 a2 a3 a4) := fun a0 a1 a2 a3 a4 k => LeO.bind (impl_areCorners.mono _ _ _ _ _) (fun _ => LeO.ite (LeO.bind (impl_distanceIn.mono _ _ _ _ _ _) (fun _ => LeO.ite (LeO.bind (LeO.ite (LeO.bind (impl_distancesTo.mono _ _ _ _ _) (fun _ => LeO.ite (impl_countWays.mono _ _ _ _ _ _ _) (LeO.refl _))) (LeO.refl _)) (fun _ => LeO.refl _)) (LeO.refl _))) (LeO.refl _))
theorem impl_CountShortestWays.row2 (w : World) (A : Option Addr) (c : Nat) (a : List Int) (A' : Option Addr) (c' : Nat) (a' : List Int) (hC : Kd.C (Kd.int .i64) w A a.length a) (hl : a.length ≤ c) (hC' : Kd.C (Kd.int .i64) w A' a'.length a') (hl' : a'.length ≤ c') : Kd.C (Kd.slice 3 (Kd.int .i64)) (w.alloc (.cells #[.slice A a.length c, .slice A' a'.length c'] 25)) (some ⟨w.heap.size, 0, none⟩) 2 [a, a'] := by
 refine ⟨rfl, by decide, fun _ => ⟨_, rfl, fun j p hj => ?_⟩⟩
 match j, hj with
 | 0, hj =>
  obtain rfl : a = p := Option.some.inj hj
  refine ⟨[.slice A a.length c], rfl, ⟨A, c, rfl, hl, Kd.C_alloc hC _⟩, fun i u hu => ?_⟩
  match i, hu with
  | 0, hu => exact (blk_cell (blk_new w (.cells #[.slice A a.length c, .slice A' a'.length c'] 25)) 0).trans hu
 | 1, hj =>
  obtain rfl : a' = p := Option.some.inj hj
  refine ⟨[.slice A' a'.length c'], rfl, ⟨A', c', rfl, hl', Kd.C_alloc hC' _⟩, fun i u hu => ?_⟩
  match i, hu with
  | 0, hu => exact (blk_cell (blk_new w (.cells #[.slice A a.length c, .slice A' a'.length c'] 25)) 1).trans hu
set_option maxHeartbeats 8000000 in
set_option maxRecDepth 100000 in
theorem impl_CountShortestWays.calls (k : Nat) (a0_0 : Int) (a0_1 : Int) (A0_2 : Option Addr) (c0_2 : Nat) (l0_2 : List S58) (A1 : Option Addr) (c1 : Nat) (l1 : List Int) (A2 : Option Addr) (c2 : Nat) (l2 : List Int) (r1 : Int) (r2 : Bool) (w : World) (hr0_2 : Kd.C k58 w A0_2 l0_2.length l0_2) (hc0_2 : l0_2.length ≤ c0_2) (hr1 : Kd.C (Kd.int .i64) w A1 l1.length l1) (hc1 : l1.length ≤ c1) (hr2 : Kd.C (Kd.int .i64) w A2 l2.length l2) (hc2 : l2.length ≤ c2) (h : impl_CountShortestWays.f k a0_0 a0_1 l0_2 l1 l2 = some (r1, r2)) :
  Calls Try.prog 17 #[.agg #[.int .i64 a0_0, .int .i64 a0_1, .slice A0_2 l0_2.length c0_2], .slice A1 l1.length c1, .slice A2 l2.length c2] w fun e w' => e = .returned (.tuple #[.int .i64 r1, .bool r2]) ∧ Below w.heap.size w w' := by
 unfold impl_CountShortestWays.f at h
 obtain ⟨t, ht, h⟩ := Option.bind_eq_some_iff.mp h
 have hu := Try.underlying31
 have HT := Lib.hid ht
 have HL := Lib.hid hr0_2
 have HA := Lib.hid hr1
 have HA2 := Lib.hid hr2
 clear ht hr0_2 hr1 hr2
 cases t with
 | false =>
  cases h
  go_enter Try.func17, Try.ntmps17
  go_upto_region 1 with (fail)
  have HV := Lib.hid (show (w.alloc (.cells #[.int .i64 a0_0, .int .i64 a0_1, .slice A0_2 l0_2.length c0_2] 31)).heap[w.heap.size]? = some (.cells #[.int .i64 a0_0, .int .i64 a0_1, .slice A0_2 l0_2.length c0_2] 31 (0, 0)) from blk_new w _)
  have HB := Lib.hid (below_alloc (Below.refl w.heap.size w) (.cells #[.int .i64 a0_0, .int .i64 a0_1, .slice A0_2 l0_2.length c0_2] 31))
  generalize (w.alloc (.cells #[.int .i64 a0_0, .int .i64 a0_1, .slice A0_2 l0_2.length c0_2] 31)) = W1 at HV HB ⊢
  obtain ⟨B0, hB0⟩ : ∃ B0, B0 = w.heap.size := ⟨_, rfl⟩
  rw [← hB0] at HV ⊢
  clear hB0
  have hcz0 : W1.cell? ⟨B0, 0, none⟩ = some (.int .i64 a0_0) := (blk_cell HV.out 0).trans rfl
  have hcz1 : W1.cell? ⟨B0, 1, none⟩ = some (.int .i64 a0_1) := (blk_cell HV.out 1).trans rfl
  have hcz2 : W1.cell? ⟨B0, 2, none⟩ = some (.slice A0_2 l0_2.length c0_2) := (blk_cell HV.out 2).trans rfl
  go_wp2_with (go_at_call 44; refine (impl_areCorners.calls k a0_0 a0_1 A0_2 c0_2 l0_2 (some ⟨W1.heap.size, 0, none⟩) 2 [l1, l2] false _ (Kd.C_alloc (Kd.C_below HL.out HB.out) _) hc0_2 (impl_CountShortestWays.row2 W1 A1 c1 l1 A2 c2 l2 (Kd.C_below HA.out HB.out) hc1 (Kd.C_below HA2.out HB.out) hc2) (by simp) HT.out).mono ?_; rintro e w2 ⟨rfl, hb2⟩; have HB2 := Lib.hid (below_then (below_alloc HB.out _) (below_alloc HB.out _).size hb2); have hb20 := below_then (below_alloc (Below.refl W1.heap.size W1) _) (below_alloc (Below.refl W1.heap.size W1) _).size hb2; have HX2 := Lib.hid ((hb20.block _ (blk_lt HV.out)).trans HV.out); have hcz0 := (blk_cell HX2.out 0).trans rfl; have hcz1 := (blk_cell HX2.out 1).trans rfl; have hcz2 := (blk_cell HX2.out 2).trans rfl; clear hb2 hb20)
  go_ret2
  exact ⟨rfl, HB2.out⟩
 | true =>
  rw [if_pos rfl] at h
  obtain ⟨⟨d, u⟩, hdi, h⟩ := Option.bind_eq_some_iff.mp h
  have HDI := Lib.hid hdi
  clear hdi
  cases u with
  | false =>
   rw [if_neg (show ¬ (d, false).2 = true by simp)] at h
   cases h
   go_enter Try.func17, Try.ntmps17
   go_upto_region 1 with (fail)
   have HV := Lib.hid (show (w.alloc (.cells #[.int .i64 a0_0, .int .i64 a0_1, .slice A0_2 l0_2.length c0_2] 31)).heap[w.heap.size]? = some (.cells #[.int .i64 a0_0, .int .i64 a0_1, .slice A0_2 l0_2.length c0_2] 31 (0, 0)) from blk_new w _)
   have HB := Lib.hid (below_alloc (Below.refl w.heap.size w) (.cells #[.int .i64 a0_0, .int .i64 a0_1, .slice A0_2 l0_2.length c0_2] 31))
   generalize (w.alloc (.cells #[.int .i64 a0_0, .int .i64 a0_1, .slice A0_2 l0_2.length c0_2] 31)) = W1 at HV HB ⊢
   obtain ⟨B0, hB0⟩ : ∃ B0, B0 = w.heap.size := ⟨_, rfl⟩
   rw [← hB0] at HV ⊢
   clear hB0
   have hcz0 : W1.cell? ⟨B0, 0, none⟩ = some (.int .i64 a0_0) := (blk_cell HV.out 0).trans rfl
   have hcz1 : W1.cell? ⟨B0, 1, none⟩ = some (.int .i64 a0_1) := (blk_cell HV.out 1).trans rfl
   have hcz2 : W1.cell? ⟨B0, 2, none⟩ = some (.slice A0_2 l0_2.length c0_2) := (blk_cell HV.out 2).trans rfl
   go_wp2_with (first | (go_at_call 44; refine (impl_areCorners.calls k a0_0 a0_1 A0_2 c0_2 l0_2 (some ⟨W1.heap.size, 0, none⟩) 2 [l1, l2] true _ (Kd.C_alloc (Kd.C_below HL.out HB.out) _) hc0_2 (impl_CountShortestWays.row2 W1 A1 c1 l1 A2 c2 l2 (Kd.C_below HA.out HB.out) hc1 (Kd.C_below HA2.out HB.out) hc2) (by simp) HT.out).mono ?_; rintro e w2 ⟨rfl, hb2⟩; have HB2 := Lib.hid (below_then (below_alloc HB.out _) (below_alloc HB.out _).size hb2); have hb20 := below_then (below_alloc (Below.refl W1.heap.size W1) _) (below_alloc (Below.refl W1.heap.size W1) _).size hb2; have HX2 := Lib.hid ((hb20.block _ (blk_lt HV.out)).trans HV.out); have hcz0 := (blk_cell HX2.out 0).trans rfl; have hcz1 := (blk_cell HX2.out 1).trans rfl; have hcz2 := (blk_cell HX2.out 2).trans rfl; clear hb2 hb20) | (go_at_call 45; refine (impl_distanceIn.calls k a0_0 a0_1 A0_2 c0_2 l0_2 A1 c1 l1 A2 c2 l2 d false _ (Kd.C_below HL.out HB2.out) hc0_2 (Kd.C_below HA.out HB2.out) hc1 (Kd.C_below HA2.out HB2.out) hc2 HDI.out).mono ?_; rintro e w3 ⟨rfl, hb3⟩; have HB3 := Lib.hid (below_then HB2.out HB2.out.size hb3); have HX3 := Lib.hid ((hb3.block _ (blk_lt HX2.out)).trans HX2.out); clear hb3))
   go_ret2
   exact ⟨rfl, HB3.out⟩
  | true =>
   rw [if_pos rfl] at h
   obtain ⟨r, hw, h⟩ := Option.bind_eq_some_iff.mp h
   cases h
   unfold impl_CountShortestWays.ways at hw
   by_cases hok : impl_CountShortestWays.ok a0_0 a0_1 l1 = true
   case neg => rw [if_neg hok] at hw; cases hw
   rw [if_pos hok] at hw
   obtain ⟨ds, hds, hw⟩ := Option.bind_eq_some_iff.mp hw
   by_cases hsh : impl_distancesTo.shape a0_0 a0_1 ds = true
   case neg => rw [if_neg hsh] at hw; cases hw
   rw [if_pos hsh] at hw
   unfold impl_CountShortestWays.ok impl_distancesTo.pair at hok
   simp only [Bool.and_eq_true, decide_eq_true_eq] at hok
   obtain ⟨hW, hH, hp2, ⟨hx0, hx1⟩, hy0, hy1⟩ := hok
   obtain ⟨x', y', rfl⟩ : ∃ x y, l1 = [x, y] := by
    match l1, hp2 with
    | [x, y], _ => exact ⟨x, y, rfl⟩
   change 0 ≤ x' at hx0
   change x' ≤ a0_0 - 1 at hx1
   change 0 ≤ y' at hy0
   change y' ≤ a0_1 - 1 at hy1
   change impl_countWays.f k a0_0.toNat a0_1.toNat l0_2 ds x' y' = some r1 at hw
   obtain ⟨W, rfl⟩ : ∃ n : Nat, a0_0 = (n : Int) := ⟨a0_0.toNat, by omega⟩
   obtain ⟨H, rfl⟩ : ∃ n : Nat, a0_1 = (n : Int) := ⟨a0_1.toNat, by omega⟩
   obtain ⟨x, rfl⟩ : ∃ n : Nat, x' = (n : Int) := ⟨x'.toNat, by omega⟩
   obtain ⟨y, rfl⟩ : ∃ n : Nat, y' = (n : Int) := ⟨y'.toNat, by omega⟩
   simp only [Int.toNat_natCast] at hw
   have HDS := Lib.hid hds
   have HSH := Lib.hid hsh
   have HWW := Lib.hid (show 1 ≤ W ∧ W ≤ 8 by omega)
   have HHH := Lib.hid (show 1 ≤ H ∧ H ≤ 8 by omega)
   have HX := Lib.hid (show x < W by omega)
   have HY := Lib.hid (show y < H by omega)
   have HWAYS := Lib.hid hw
   have HAX := Lib.hid (show Kd.C (Kd.int .i64) w A1 2 [(x : Int), (y : Int)] from HA.out)
   have hc12 : 2 ≤ c1 := hc1
   clear hds hsh hw hp2 hx0 hx1 hy0 hy1 hW hH
   go_enter Try.func17, Try.ntmps17
   go_upto_region 1 with (fail)
   have HV := Lib.hid (show (w.alloc (.cells #[.int .i64 (W : Int), .int .i64 (H : Int), .slice A0_2 l0_2.length c0_2] 31)).heap[w.heap.size]? = some (.cells #[.int .i64 (W : Int), .int .i64 (H : Int), .slice A0_2 l0_2.length c0_2] 31 (0, 0)) from blk_new w _)
   have HB := Lib.hid (below_alloc (Below.refl w.heap.size w) (.cells #[.int .i64 (W : Int), .int .i64 (H : Int), .slice A0_2 l0_2.length c0_2] 31))
   generalize (w.alloc (.cells #[.int .i64 (W : Int), .int .i64 (H : Int), .slice A0_2 l0_2.length c0_2] 31)) = W1 at HV HB ⊢
   obtain ⟨B0, hB0⟩ : ∃ B0, B0 = w.heap.size := ⟨_, rfl⟩
   rw [← hB0] at HV ⊢
   clear hB0
   have hcz0 : W1.cell? ⟨B0, 0, none⟩ = some (.int .i64 (W : Int)) := (blk_cell HV.out 0).trans rfl
   have hcz1 : W1.cell? ⟨B0, 1, none⟩ = some (.int .i64 (H : Int)) := (blk_cell HV.out 1).trans rfl
   have hcz2 : W1.cell? ⟨B0, 2, none⟩ = some (.slice A0_2 l0_2.length c0_2) := (blk_cell HV.out 2).trans rfl
   go_upto_region 6 with (first | (go_at_call 44; refine (impl_areCorners.calls k (W : Int) (H : Int) A0_2 c0_2 l0_2 (some ⟨W1.heap.size, 0, none⟩) 2 [[(x : Int), (y : Int)], l2] true _ (Kd.C_alloc (Kd.C_below HL.out HB.out) _) hc0_2 (impl_CountShortestWays.row2 W1 A1 c1 [(x : Int), (y : Int)] A2 c2 l2 (Kd.C_below HA.out HB.out) hc1 (Kd.C_below HA2.out HB.out) hc2) (by simp) HT.out).mono ?_; rintro e w2 ⟨rfl, hb2⟩; have HB2 := Lib.hid (below_then (below_alloc HB.out _) (below_alloc HB.out _).size hb2); have hb20 := below_then (below_alloc (Below.refl W1.heap.size W1) _) (below_alloc (Below.refl W1.heap.size W1) _).size hb2; have HX2 := Lib.hid ((hb20.block _ (blk_lt HV.out)).trans HV.out); have hcz0 := (blk_cell HX2.out 0).trans rfl; have hcz1 := (blk_cell HX2.out 1).trans rfl; have hcz2 := (blk_cell HX2.out 2).trans rfl; clear hb2 hb20) | (go_at_call 45; refine (impl_distanceIn.calls k (W : Int) (H : Int) A0_2 c0_2 l0_2 A1 c1 [(x : Int), (y : Int)] A2 c2 l2 d true _ (Kd.C_below HL.out HB2.out) hc0_2 (Kd.C_below HA.out HB2.out) hc1 (Kd.C_below HA2.out HB2.out) hc2 HDI.out).mono ?_; rintro e w3 ⟨rfl, hb3⟩; have HB3 := Lib.hid (below_then HB2.out HB2.out.size hb3); have HX3 := Lib.hid ((hb3.block _ (blk_lt HX2.out)).trans HX2.out); clear hb3))
   have hd0 := (blk_cell HX3.out 0).trans rfl
   have hd1 := (blk_cell HX3.out 1).trans rfl
   have hd2 := (blk_cell HX3.out 2).trans rfl
   clear hcz0 hcz1 hcz2
   have HBc := Lib.hid (below_drew HB3.out)
   have HLEN := Lib.hid (show ds.length = W by have := (impl_distancesTo.shape_len HSH.out).1; omega)
   clear HV HB HB2 HX2 HT HDI
   go_region_held3 (fun w' => w'.cell? ⟨B0, 0, none⟩ = some (.int .i64 (W : Int)) ∧ w'.cell? ⟨B0, 1, none⟩ = some (.int .i64 (H : Int)) ∧ w'.cell? ⟨B0, 2, none⟩ = some (.slice A0_2 l0_2.length c0_2)) (exact ⟨by assumption, by assumption, by assumption⟩)
    (first
     | (go_at_call 47; (with_reducible refine (impl_distancesTo.calls k W H A0_2 c0_2 l0_2 A2 c2 l2 ds _ (Kd.C_below HL.out HBc.out) hc0_2 (Kd.C_below HA2.out HBc.out) hc2 HDS.out).mono ?_); rintro e w4 ⟨v4, rfl, hS4, hb4⟩; obtain ⟨tb, capt, ev, _, _, _⟩ := Kd.S_form hS4 (by have := HLEN.out; have := HWW.out; omega); subst ev; have HS4 := Lib.hid (show Kd.C (Kd.slice 3 (Kd.int .i64)) w4 (some ⟨tb, 0, none⟩) W ds by have h0 := (Kd.S_reads' hS4).2.2; rw [HLEN.out] at h0; exact h0); rw [HLEN.out]; (try have HX5 := Lib.hid ((hb4.block _ (blk_lt HX5.out)).trans HX5.out)); have HBc := Lib.hid (below_then HBc.out HBc.out.size hb4); have hd0 := pw_cell_below hb4 hd0; have hd1 := pw_cell_below hb4 hd1; have hd2 := pw_cell_below hb4 hd2; clear hb4 hS4)
     | (go_at_call 48; (with_reducible refine (impl_distancesTo.stepMade W H A0_2 l0_2.length c0_2 _).mono ?_); rintro e w5 ⟨B5, rfl, hX5, hb5⟩; have HX5 := Lib.hid hX5; (try have HS4 := Lib.hid (Kd.C_below HS4.out hb5)); have HBc := Lib.hid (below_then HBc.out HBc.out.size hb5); have hd0 := pw_cell_below hb5 hd0; have hd1 := pw_cell_below hb5 hd1; have hd2 := pw_cell_below hb5 hd2; clear hb5 hX5)
     | (go_at_call 49; (with_reducible refine (impl_countWays.by_ k W H A0_2 c0_2 l0_2 B5 (some ⟨tb, 0, none⟩) capt ds A1 c1 x y r1 _ HWW.out HHH.out HX.out HY.out HSH.out HX5.out (Kd.C_below HL.out HBc.out) hc0_2 HS4.out (Kd.C_below HAX.out HBc.out) hc12 HWAYS.out).mono ?_); rintro e w6 ⟨rfl, hb6⟩; have HB6 := Lib.hid (below_then HBc.out HBc.out.size hb6); have hd0 := pw_cell_below hb6 hd0; have hd1 := pw_cell_below hb6 hd1; have hd2 := pw_cell_below hb6 hd2; clear hb6))
   all_goals
    go_wp2
    go_ret2
    exact ⟨rfl, HB6.out⟩
end Go.Proofs.Ytpedofomfhmnfaa.PFnExactCountShortestWays
