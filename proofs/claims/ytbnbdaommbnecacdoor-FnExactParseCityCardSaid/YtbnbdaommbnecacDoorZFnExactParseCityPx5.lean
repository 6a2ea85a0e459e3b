/- Cut by wip/cut.py out of the texts of this claim (printed by the kit's printer, or this session's own): what the row's theorem does not reach is struck. Not trusted: Lean checks it. -/
import Derived.Test.YtbnbdaommbnecacDoorZFnExactParseCityPx0
import Derived.Test.YtbnbdaommbnecacDoorZFnExactParseCityPx1
import Derived.Test.YtbnbdaommbnecacDoorZFnExactParseCityPx2
import Derived.Test.YtbnbdaommbnecacDoorZFnExactParseCityPx4
namespace Go.Proofs.YtbnbdaommbnecacDoor.PFnExactParseCity
open Go.RowKit Go.Proofs.YtbnbdaommbnecacDoorW.PrintWords Go.Proofs.YtbnbdaommbnecacDoorW.PrintLast Go.Proofs.YtbnbdaommbnecacDoorW.PrintMore
attribute [local go_sem] max2_int min2_int max_two min_two max_three min_three max_four min_four
set_option linter.unusedVariables false
set_option linter.unusedSimpArgs false
mutual
def spec_avParse.j0 : Nat → ByteArray → List ByteArray → Bool → Option (Int × Int × (List (S39)) × Bool)
 | 0, _, _, _ => none
 | k + 1, x0, x4, x18 => if x18 = true then (some (0, 0, ([] : List (S39)), false)) else (if 0 < (x4.length : Int) then ((spec_l1Split.f k (rdOf ByteArray.empty x4 0) 120).bind fun t142 => (if (t142.length : Int) = 2 then (if 0 < (t142.length : Int) then ((spec_l1Read.f k (rdOf ByteArray.empty t142 0)).bind fun t146 => (if 1 < (t142.length : Int) then ((spec_l1Read.f k (rdOf ByteArray.empty t142 1)).bind fun t148 => (if 1 < (x4.length : Int) then (if ((rdOf ByteArray.empty x4 1).size : Int) > 0 then ((spec_l1Split.f k (rdOf ByteArray.empty x4 1) 44).bind fun t152 => (spec_avParse.l0 k x0 t152 (t152.length : Int) 0 t146 t148 ([] : List (S39)))) else ((spec_avGood.f k t146 t148 ([] : List (S39))).bind fun t161 => (if t161 = true then ((spec_avText.f k t146 t148 ([] : List (S39))).bind fun t162 => (some (t146, t148, ([] : List (S39)), (t162.toList == x0.toList)))) else (some (t146, t148, ([] : List (S39)), false))))) else (none))) else (none))) else (none)) else (some (0, 0, ([] : List (S39)), false)))) else (none))
def spec_avParse.l0 : Nat → ByteArray → List ByteArray → Int → Int → Int → Int → List (S39) → Option (Int × Int × (List (S39)) × Bool)
 | 0, _, _, _, _, _, _, _ => none
 | k + 1, x0, x45, x46, x47, x150000, x150001, x150002 => if x47 < x46 then (if 0 ≤ x47 then (if x47 < (x45.length : Int) then (if ((rdOf ByteArray.empty x45 x47).size : Int) = 3 then (if 0 < ((rdOf ByteArray.empty x45 x47).size : Int) then (if 2 < ((rdOf ByteArray.empty x45 x47).size : Int) then (if 1 < ((rdOf ByteArray.empty x45 x47).size : Int) then (if x150002.length < 5864062014805 then (spec_avParse.l0 k x0 x45 x46 (wrap64 (x47 + 1)) x150000 x150001 (x150002 ++ [(⟨wrap64 ((wrap64 (bt (rdOf ByteArray.empty x45 x47) 0)) - 48), wrap64 ((wrap64 (bt (rdOf ByteArray.empty x45 x47) 2)) - 48), ((bt (rdOf ByteArray.empty x45 x47) 1) == 124)⟩ : S39)])) else (none)) else (none)) else (none)) else (none)) else (some (0, 0, ([] : List (S39)), false))) else (none)) else (none)) else ((spec_avGood.f k x150000 x150001 x150002).bind fun t159 => (if t159 = true then ((spec_avText.f k x150000 x150001 x150002).bind fun t160 => (some (x150000, x150001, x150002, (t160.toList == x0.toList)))) else (some (x150000, x150001, x150002, false))))
end
def spec_avParse.f (k : Nat) (a0 : ByteArray) : Option (Int × Int × (List (S39)) × Bool) := (spec_l1Split.f k a0 58).bind fun t138 => (if (a0.size : Int) > 140 then (spec_avParse.j0 k a0 t138 true) else (spec_avParse.j0 k a0 t138 ((t138.length : Int) != 2)))
theorem spec_avParse.zn : ∀ k, (∀ y0 y1 y2, LeO (spec_avParse.j0 k y0 y1 y2) (spec_avParse.j0 (k + 1) y0 y1 y2)) ∧ (∀ y0 y1 y2 y3 y4 y5 y6, LeO (spec_avParse.l0 k y0 y1 y2 y3 y4 y5 y6) (spec_avParse.l0 (k + 1) y0 y1 y2 y3 y4 y5 y6))
 | 0 => ⟨fun _ _ _ r h => by simp [spec_avParse.j0] at h, fun _ _ _ _ _ _ _ r h => by simp [spec_avParse.l0] at h⟩
 | k + 1 => by
  obtain ⟨ih0, ih1⟩ := spec_avParse.zn k
  refine ⟨?_, ?_⟩
  all_goals first | (intro y0 y1 y2; unfold spec_avParse.j0) | (intro y0 y1 y2 y3 y4 y5 y6; unfold spec_avParse.l0)
  all_goals (repeat' first | (with_reducible first | exact ih0 _ _ _ | exact ih1 _ _ _ _ _ _ _ | exact spec_avGood.mono _ _ _ _ | exact spec_avText.mono _ _ _ _ | exact spec_l1Read.mono _ _ | exact spec_l1Split.mono _ _ _ | exact LeO.refl _ | exact LeO.none _ | refine LeO.ite ?_ ?_ | refine LeO.bind ?_ (fun _ => ?_)) | exact ih0 _ _ _ | exact ih1 _ _ _ _ _ _ _ | exact spec_avGood.mono _ _ _ _ | exact spec_avText.mono _ _ _ _ | exact spec_l1Read.mono _ _ | exact spec_l1Split.mono _ _ _ | exact LeO.none _ | refine LeO.ite ?_ ?_ | refine LeO.bind ?_ (fun _ => ?_))
theorem spec_avParse.mono : ∀ a0 k, LeO (spec_avParse.f k a0) (spec_avParse.f (k + 1) a0) := by
 intro a0 k
 obtain ⟨ih0, ih1⟩ := spec_avParse.zn k
 unfold spec_avParse.f
 repeat' first | (with_reducible first | exact ih0 _ _ _ | exact ih1 _ _ _ _ _ _ _ | exact spec_avGood.mono _ _ _ _ | exact spec_avText.mono _ _ _ _ | exact spec_l1Read.mono _ _ | exact spec_l1Split.mono _ _ _ | exact LeO.refl _ | exact LeO.none _ | refine LeO.ite ?_ ?_ | refine LeO.bind ?_ (fun _ => ?_)) | exact ih0 _ _ _ | exact ih1 _ _ _ _ _ _ _ | exact spec_avGood.mono _ _ _ _ | exact spec_avText.mono _ _ _ _ | exact spec_l1Read.mono _ _ | exact spec_l1Split.mono _ _ _ | exact LeO.none _ | refine LeO.ite ?_ ?_ | refine LeO.bind ?_ (fun _ => ?_)
def spec_avParse.T7 : Bool × List (List Nat × List Nat) := (true, [([], []), ([0], [0]), ([1], [1]), ([2], [2]), ([], []), ([4], [4]), ([5], [5]), ([6, 3], [6]), ([3, 7], [3, 7]), ([], []), ([9, 8, 7, 0, 1, 2, 3, 4, 5, 6, 7, 8, 9], [8, 9])])
def spec_avParse.B7 : List Nat := [0, 1, 3, 7, 0, 16, 48, 127, 255, 0, 1023]
theorem spec_avParse.tab7 : rtab .any (opsOf Tryd.f9 7) = spec_avParse.T7 := by kernel_rfl
theorem spec_avParse.bits7 : waitsOk spec_avParse.T7.2 spec_avParse.B7 = true := by kernel_rfl
def spec_avParse.T14 : Bool × List (List Nat × List Nat) := (true, [([], []), ([0], [0]), ([], []), ([2], [2]), ([3], [3]), ([4], [4]), ([], []), ([6], [6]), ([7], [7]), ([8], [8]), ([], []), ([10], [10]), ([11], [11]), ([5, 9, 12], [5, 9, 12]), ([13], [13]), ([1, 14], [1, 14]), ([0, 1, 2, 3, 4, 5, 6, 7, 8, 9, 10, 11, 12, 13, 14, 15], []), ([16, 15, 15, 0, 1, 2, 3, 4, 5, 6, 7, 8, 9, 10, 11, 12, 13, 14, 15], [15, 16])])
def spec_avParse.B14 : List Nat := [0, 1, 0, 4, 12, 28, 0, 64, 192, 448, 0, 1024, 3072, 8188, 16380, 32767, 65535, 131071]
theorem spec_avParse.tab14 : rtab .any (opsOf Tryd.f9 14) = spec_avParse.T14 := by kernel_rfl
theorem spec_avParse.bits14 : waitsOk spec_avParse.T14.2 spec_avParse.B14 = true := by kernel_rfl
def spec_avParse.T16 : Bool × List (List Nat × List Nat) := (true, [([], []), ([], []), ([1], [1]), ([2, 2], [2]), ([3], [3]), ([4, 3, 3], [3, 4]), ([3], [3]), ([5, 6, 3], [3, 5, 6]), ([3, 7], [3, 7]), ([0, 5, 0], [0]), ([8, 9, 0, 1, 2, 3, 4, 5, 6, 7, 8, 9], [8])])
def spec_avParse.B16 : List Nat := [0, 0, 2, 6, 14, 30, 14, 126, 254, 63, 1023]
theorem spec_avParse.tab16 : rtab .any (opsOf Tryd.f9 16) = spec_avParse.T16 := by kernel_rfl
theorem spec_avParse.bits16 : waitsOk spec_avParse.T16.2 spec_avParse.B16 = true := by kernel_rfl
set_option maxHeartbeats 8000000 in
set_option maxRecDepth 100000 in
theorem spec_avParse.calls (k : Nat) (a0 : ByteArray) (r1 : Int) (r2 : Int) (r3 : List (S39)) (r4 : Bool) (w : World) (h : spec_avParse.f k a0 = some (r1, r2, r3, r4)) :
  Calls Tryd.prog 9 #[.string a0] w fun e w' => ∃ v2_ : Value, e = .returned (.tuple #[.agg #[.int .i64 r1, .int .i64 r2, v2_], .bool r4]) ∧ Kd.R k39 39 w' w.heap.size (fun _ => True) v2_ r3 ∧ Below w.heap.size w w' := by
 have hu24 := Tryd.underlying24
 have hu39 := Tryd.underlying39
 have HB := qb.mk (Below.refl w.heap.size w)
 have H : ((spec_l1Split.f k a0 58).bind fun t138 => (if (a0.size : Int) > 140 then (spec_avParse.j0 k a0 t138 true) else (spec_avParse.j0 k a0 t138 ((t138.length : Int) != 2)))) = some (r1, r2, r3, r4) := h
 clear h
 replace H := Option.bind_eq_some_iff.mp H
 obtain ⟨t138, A20, H⟩ := H
 replace H : (if (a0.size : Int) > 140 then (spec_avParse.j0 k a0 t138 true) else (spec_avParse.j0 k a0 t138 ((t138.length : Int) != 2))) = some (r1, r2, r3, r4) := H
 have A2 := qb.mk A20
 clear A20
 have HC3 := qb.mk H
 clear H
 go_enter Tryd.func9, Tryd.ntmps9
 go_upto_region 2 with (first | ((with_reducible refine zc (N := 2) rfl ?_); (try (refine gate_guard (by rfl) ?_; dsimp only)); refine zb ?hg (N := 2) ?hd (cs := #[.int .i64 0, .int .i64 0, .slice none 0 0]) (t := 24) ?hr ?_; (case hd => rfl); (case hg => rfl); (case hr => first | (go_simp; done) | (go_simp; rfl)); intro gb137 hg w4 hbox hb; have n0_ := qb.mk (qm (be0_ HB) hb); have n1_ := qb.mk (hbox); have n2_ := qb.mk ((by rw [hg]; exact (ql (be0_ HB)) : w.heap.size ≤ gb137)); have n3_ := qb.mk ((by rw [hg]; exact (ql (be0_ HB)) : w.heap.size ≤ gb137)); clear HB; have HB := n0_; have BK137 := n1_; have GW137 := n2_; have GE137 := n3_; clear n0_ n1_ n2_ n3_; clear hb hbox hg) | ((with_reducible refine qv (f := 19) rfl ?_); refine zf (some 10) rfl rfl Tryd.func19 (by kernel_rfl) rfl #[.string a0, .int .u8 58] rfl al_ ?_; (with_reducible refine (spec_l1Split.calls k a0 58 t138 _ A2.out).mono ?_); rintro e w5 ⟨v139, rfl, ho0, hb⟩; refine ⟨_, rfl, ?_⟩; have n0_ := qb.mk (Kd.zr ho0 (ql (be1_ HB GE137))); have n1_ := qb.mk (qn (g := gb137) (o := .cells #[.int .i64 0, .int .i64 0, .slice none 0 0] 24 (0, 0)) (bk_ BK137) hb); have n2_ := qb.mk (qm (be1_ HB GE137) hb); clear BK137; clear HB; have HO140 := n0_; have BK137 := n1_; have HB := n2_; clear n0_ n1_ n2_; (try clear hb); (try clear hb2); (try clear hk); (try clear hi); (try clear ho0)))
 (try simp only [Act.put, sA_, sB_, sC_])
 go_cut [18] (fun v18 wc => ∃ (kq : Nat) (x18_2 : Bool), v18 = .bool x18_2 ∧ qb (spec_avParse.j0 kq a0 t138 x18_2 = some (r1, r2, r3, r4)) ∧ qb (kq ≤ k) ∧ qb (Kd.R Kd.string 9 wc w.heap.size (fun _ => True) v139 t138) ∧ qb (wc.heap[gb137]? = some (.cells #[.int .i64 0, .int .i64 0, (.slice none 0 0)] 24 (0, 0))) ∧ qb (Below w.heap.size w wc))
 case first =>
  have H := HC3.out
  clear HC3
  by_cases c6 : (a0.size : Int) > 140
  ·rw [if_pos c6] at H
   have c6b0 : decide (140 < (a0.size : Int)) = true := decide_eq_true c6
   have c6b1 : decide (140 < a0.size) = true := decide_eq_true (by omega)
   clear c6
   (first | rw [c6b0] | (simp only [i64_w, i32_w]; rw [c6b0]) | skip)
   have H' := qb.mk H
   clear H
   go_wp2
   go_meet
   case rel => exact ⟨_, (true), es_, H', ⟨by first | omega | exact Nat.le_refl _⟩, ⟨kr_ HO140⟩, ⟨bk_ BK137⟩, ⟨be1_ HB GE137⟩⟩
  ·rw [if_neg c6] at H
   have c6b0 : decide (140 < (a0.size : Int)) = false := decide_eq_false c6
   have c6b1 : decide (140 < a0.size) = false := decide_eq_false (by omega)
   clear c6
   (first | rw [c6b0] | (simp only [i64_w, i32_w]; rw [c6b0]) | skip)
   have H' := qb.mk H
   clear H
   obtain ⟨Ao7, co7, eo7⟩ := Kd.zj HO140.out
   subst eo7
   go_wp2
   go_meet
   case rel => exact ⟨_, (((t138.length : Int) != 2)), es_, H', ⟨by first | omega | exact Nat.le_refl _⟩, ⟨kr_ HO140⟩, ⟨bk_ BK137⟩, ⟨be1_ HB GE137⟩⟩
 case rest =>
  clear HC3
  try clear c6
  try clear c6b0
  try clear c6b1
  obtain ⟨kq, x18_2, rfl, HA, HJ2, HO_4, BK137, HB⟩ := hcut
  cases kq with
  | zero => exact absurd HA.out (by simp [spec_avParse.j0])
  | succ kj2 =>
   have H := HA.out
   clear HA
   simp only [spec_avParse.j0] at H
   by_cases c8 : x18_2 = true
   ·subst c8
    have H1 : (some (0, 0, ([] : List (S39)), false)) = some (r1, r2, r3, r4) := by rw [if_pos rfl] at H; exact H
    clear H
    have H := H1
    clear H1
    simp only [Option.some.injEq, Prod.mk.injEq] at H
    obtain ⟨rfl, rfl, rfl, rfl⟩ := H
    have hcz9_0 : wc.cell? ⟨gb137, 0, none⟩ = some (.int .i64 0) := (qg BK137.out 0).trans rfl
    have hcz9_1 : wc.cell? ⟨gb137, 1, none⟩ = some (.int .i64 0) := (qg BK137.out 1).trans rfl
    have hcz9_2 : wc.cell? ⟨gb137, 2, none⟩ = some (.slice none 0 0) := (qg BK137.out 2).trans rfl
    have hfz9_0 := qj BK137.out 0
    have hfz9_1 := qj BK137.out 1
    have hfz9_2 := qj BK137.out 2
    go_wp2
    refine bodyPost_ret (results_ct rfl _ _ gb137 24 #[.int .i64 0, .int .i64 0, .slice none 0 0] (0, 0) _ rfl (by (with_reducible repeat (first | refine qf ?_ _ | refine qi ?_ | refine qe ?_ _)); refine qx (cs := #[.int .i64 0, .int .i64 0, .slice none 0 0]) ?_ 2 _ rfl; (with_reducible repeat (first | refine qf ?_ _ | refine qi ?_ | refine qe ?_ _)); refine qx (cs := #[.int .i64 0, .int .i64 0, .slice none 0 0]) ?_ 1 _ rfl; (with_reducible repeat (first | refine qf ?_ _ | refine qi ?_ | refine qe ?_ _)); refine qx (cs := #[.int .i64 0, .int .i64 0, .slice none 0 0]) ?_ 0 _ rfl; (with_reducible repeat (first | refine qf ?_ _ | refine qi ?_ | refine qe ?_ _)); exact BK137.out) Tryd.underlying24 rfl (by kernel_rfl)) rfl ?_
    exact ⟨_, er_, by first | exact Kd.R_nil _ _ _ _ _ | exact Kd.N_nil _ _ _ _ _ | exact Kd.V_nil _ _ _ _ _ | exact Kd.Q_nil _ _ _ _ _ | exact Kd.S_nil _ _ _ _ _, be1_ HB GE137⟩
   ·replace c8 := Bool.eq_false_iff.mpr c8
    subst c8
    have H1 : (if 0 < (t138.length : Int) then ((spec_l1Split.f kj2 (rdOf ByteArray.empty t138 0) 120).bind fun t142 => (if (t142.length : Int) = 2 then (if 0 < (t142.length : Int) then ((spec_l1Read.f kj2 (rdOf ByteArray.empty t142 0)).bind fun t146 => (if 1 < (t142.length : Int) then ((spec_l1Read.f kj2 (rdOf ByteArray.empty t142 1)).bind fun t148 => (if 1 < (t138.length : Int) then (if ((rdOf ByteArray.empty t138 1).size : Int) > 0 then ((spec_l1Split.f kj2 (rdOf ByteArray.empty t138 1) 44).bind fun t152 => (spec_avParse.l0 kj2 a0 t152 (t152.length : Int) 0 t146 t148 ([] : List (S39)))) else ((spec_avGood.f kj2 t146 t148 ([] : List (S39))).bind fun t161 => (if t161 = true then ((spec_avText.f kj2 t146 t148 ([] : List (S39))).bind fun t162 => (some (t146, t148, ([] : List (S39)), (t162.toList == a0.toList)))) else (some (t146, t148, ([] : List (S39)), false))))) else (none))) else (none))) else (none)) else (some (0, 0, ([] : List (S39)), false)))) else (none)) = some (r1, r2, r3, r4) := by rw [if_neg (show ¬ (false = true) by decide)] at H; exact H
    clear H
    have H := H1
    clear H1
    by_cases c10 : 0 < (t138.length : Int)
    ·rw [if_pos c10] at H
     have c10b0 : decide (0 < (t138.length : Int)) = true := decide_eq_true c10
     have c10b1 : decide (0 < t138.length) = true := decide_eq_true (by omega)
     clear c10
     replace H := Option.bind_eq_some_iff.mp H
     obtain ⟨t142, A110, H⟩ := H
     replace H : (if (t142.length : Int) = 2 then (if 0 < (t142.length : Int) then ((spec_l1Read.f kj2 (rdOf ByteArray.empty t142 0)).bind fun t146 => (if 1 < (t142.length : Int) then ((spec_l1Read.f kj2 (rdOf ByteArray.empty t142 1)).bind fun t148 => (if 1 < (t138.length : Int) then (if ((rdOf ByteArray.empty t138 1).size : Int) > 0 then ((spec_l1Split.f kj2 (rdOf ByteArray.empty t138 1) 44).bind fun t152 => (spec_avParse.l0 kj2 a0 t152 (t152.length : Int) 0 t146 t148 ([] : List (S39)))) else ((spec_avGood.f kj2 t146 t148 ([] : List (S39))).bind fun t161 => (if t161 = true then ((spec_avText.f kj2 t146 t148 ([] : List (S39))).bind fun t162 => (some (t146, t148, ([] : List (S39)), (t162.toList == a0.toList)))) else (some (t146, t148, ([] : List (S39)), false))))) else (none))) else (none))) else (none)) else (some (0, 0, ([] : List (S39)), false))) = some (r1, r2, r3, r4) := H
     have A11 := qb.mk A110
     clear A110
     by_cases c12 : (t142.length : Int) = 2
     ·rw [if_pos c12] at H
      have c12b0 : ((t142.length : Int) == 2) = true := beq_iff_eq.mpr c12
      have c12b1 : ((t142.length : Int) != 2) = false := bne_eq_false_iff_eq.mpr c12
      clear c12
      by_cases c13 : 0 < (t142.length : Int)
      ·rw [if_pos c13] at H
       have c13b0 : decide (0 < (t142.length : Int)) = true := decide_eq_true c13
       have c13b1 : decide (0 < t142.length) = true := decide_eq_true (by omega)
       clear c13
       replace H := Option.bind_eq_some_iff.mp H
       obtain ⟨t146, A140, H⟩ := H
       replace H : (if 1 < (t142.length : Int) then ((spec_l1Read.f kj2 (rdOf ByteArray.empty t142 1)).bind fun t148 => (if 1 < (t138.length : Int) then (if ((rdOf ByteArray.empty t138 1).size : Int) > 0 then ((spec_l1Split.f kj2 (rdOf ByteArray.empty t138 1) 44).bind fun t152 => (spec_avParse.l0 kj2 a0 t152 (t152.length : Int) 0 t146 t148 ([] : List (S39)))) else ((spec_avGood.f kj2 t146 t148 ([] : List (S39))).bind fun t161 => (if t161 = true then ((spec_avText.f kj2 t146 t148 ([] : List (S39))).bind fun t162 => (some (t146, t148, ([] : List (S39)), (t162.toList == a0.toList)))) else (some (t146, t148, ([] : List (S39)), false))))) else (none))) else (none)) = some (r1, r2, r3, r4) := H
       have A14 := qb.mk A140
       clear A140
       by_cases c15 : 1 < (t142.length : Int)
       ·rw [if_pos c15] at H
        have c15b0 : decide (1 < (t142.length : Int)) = true := decide_eq_true c15
        have c15b1 : decide (1 < t142.length) = true := decide_eq_true (by omega)
        clear c15
        replace H := Option.bind_eq_some_iff.mp H
        obtain ⟨t148, A160, H⟩ := H
        replace H : (if 1 < (t138.length : Int) then (if ((rdOf ByteArray.empty t138 1).size : Int) > 0 then ((spec_l1Split.f kj2 (rdOf ByteArray.empty t138 1) 44).bind fun t152 => (spec_avParse.l0 kj2 a0 t152 (t152.length : Int) 0 t146 t148 ([] : List (S39)))) else ((spec_avGood.f kj2 t146 t148 ([] : List (S39))).bind fun t161 => (if t161 = true then ((spec_avText.f kj2 t146 t148 ([] : List (S39))).bind fun t162 => (some (t146, t148, ([] : List (S39)), (t162.toList == a0.toList)))) else (some (t146, t148, ([] : List (S39)), false))))) else (none)) = some (r1, r2, r3, r4) := H
        have A16 := qb.mk A160
        clear A160
        by_cases c17 : 1 < (t138.length : Int)
        ·rw [if_pos c17] at H
         have c17b0 : decide (1 < (t138.length : Int)) = true := decide_eq_true c17
         have c17b1 : decide (1 < t138.length) = true := decide_eq_true (by omega)
         clear c17
         by_cases c18 : ((rdOf ByteArray.empty t138 1).size : Int) > 0
         ·rw [if_pos c18] at H
          have c18b0 : decide (0 < ((rdOf ByteArray.empty t138 1).size : Int)) = true := decide_eq_true c18
          have c18b1 : decide (0 < (rdOf ByteArray.empty t138 1).size) = true := decide_eq_true (by omega)
          clear c18
          replace H := Option.bind_eq_some_iff.mp H
          obtain ⟨t152, A190, H⟩ := H
          replace H : (spec_avParse.l0 kj2 a0 t152 (t152.length : Int) 0 t146 t148 ([] : List (S39))) = some (r1, r2, r3, r4) := H
          have A19 := qb.mk A190
          clear A190
          have H' := qb.mk H
          clear H
          obtain ⟨Ao20, co20, eo20⟩ := Kd.zj HO_4.out
          subst eo20
          have p141 : 0 ≤ (0 : Int) := (by omega)
          have q141 : 0 < (t138.length : Int) := od_
          obtain ⟨ad141, e141, hx141_0⟩ := Kd.zm (Kd.qw HO_4.out).2.2 0 p141 q141
          cases e141
          have qi141 : (0 < t138.length) = True := eq_true (by omega)
          (try rw [show ((0 : Int)).toNat = 0 from rfl] at hx141_0)
          (try rw [Addr.add_zero'] at hx141_0)
          replace p141 := eq_true p141
          replace q141 := eq_true q141
          try go_wp2_with (first | ((with_reducible refine qv (f := 19) rfl ?_); refine zf (some 23) rfl rfl Tryd.func19 (by kernel_rfl) rfl #[.string (rdOf ByteArray.empty t138 0), .int .u8 120] rfl al_ ?_; (with_reducible refine (spec_l1Split.calls kj2 (rdOf ByteArray.empty t138 0) 120 t142 _ A11.out).mono ?_); rintro e w21 ⟨v143, rfl, ho0, hb⟩; refine ⟨_, rfl, ?_⟩; have n0_ := qb.mk (Kd.R_elder' (kr_ HO_4) (Kd.R_base ho0) hb); have n1_ := qb.mk (Kd.zr (Kd.R_new' ho0 (Kd.R_lt (kr_ HO_4))) (ql (be1_ HB GE137))); have n2_ := qb.mk (qn (g := gb137) (o := .cells #[.int .i64 0, .int .i64 0, .slice none 0 0] 24 (0, 0)) (bk_ BK137) hb); have n3_ := qb.mk (qm (be1_ HB GE137) hb); clear HO_4; clear BK137; clear HB; have HO_4 := n0_; have HO144 := n1_; have BK137 := n2_; have HB := n3_; clear n0_ n1_ n2_ n3_; (try clear hb); (try clear hb2); (try clear hk); (try clear hi); (try clear ho0); obtain ⟨Ao22, co22, eo22⟩ := Kd.zj HO144.out; subst eo22))
          have n0_ := qb.mk (Kd.qu HO_4.out)
          have n1_ := qb.mk (Kd.qu HO144.out)
          have n2_ := qb.mk (qi BK137.out)
          have n3_ := qb.mk (qc HB.out)
          clear HO_4
          clear HO144
          clear BK137
          clear HB
          have HO_4 := n0_
          have HO144 := n1_
          have BK137 := n2_
          have HB := n3_
          clear n0_ n1_ n2_ n3_
          have p145 : 0 ≤ (0 : Int) := (by omega)
          have q145 : 0 < (t142.length : Int) := od_
          obtain ⟨ad145, e145, hx145_0⟩ := Kd.zm (Kd.qw HO144.out).2.2 0 p145 q145
          cases e145
          have qi145 : (0 < t142.length) = True := eq_true (by omega)
          (try rw [show ((0 : Int)).toNat = 0 from rfl] at hx145_0)
          (try rw [Addr.add_zero'] at hx145_0)
          replace p145 := eq_true p145
          replace q145 := eq_true q145
          have p147 : 0 ≤ (1 : Int) := (by omega)
          have q147 : 1 < (t142.length : Int) := od_
          obtain ⟨ad147, e147, hx147_0⟩ := Kd.zm (Kd.qw HO144.out).2.2 1 p147 q147
          obtain rfl : ad145 = ad147 := (by injection e147)
          (try simp only [show (1 : Int).toNat = 1 from rfl, Nat.reduceMul, Nat.reduceEqDiff, Go.Addr.add, ↓reduceIte] at hx147_0)
          have qi147 : (1 < t142.length) = True := eq_true (by omega)
          (try rw [show ((1 : Int)).toNat = 1 from rfl] at hx147_0)
          replace p147 := eq_true p147
          replace q147 := eq_true q147
          refine zu (n := 11) (S := fun w' => w'.cell? ad145 = some (.string (rdOf ByteArray.empty t142 0)) ∧ w'.cell? ⟨ad145.block, ad145.off + 1, none⟩ = some (.string (rdOf ByteArray.empty t142 1))) (ds := []) #[false, false, false, false, false, false, false, false, false, false, false] (by kernel_rfl) rfl rfl ⟨hx145_0, hx147_0⟩ (fun hHeld => ?_); refine zl spec_avParse.tab7 spec_avParse.bits7 (fun HT_ HW_ => ?_)
          generalize w21.drew = w23 at HO_4 HO144 BK137 HB hx145_0 hx147_0 hHeld ⊢
          refine pure_ (i := 0) (N := some 28) (v := ?_) (a' := ?_) #[true, false, false, false, false, false, false, false, false, false, false] rfl rfl (qq HT_.out (by kernel_rfl)) (fun _ _ _ h => h) (Or.inl ⟨by rfl, ?_⟩) ?_ ?_
          rotate_left
          ·intro w'
           go_simp
           with_reducible rfl
          rotate_left
          ·simp only [Act.put, sA_, sB_, sC_, i64_w, i32_w]
           rfl
          refine pure_ (i := 1) (N := some 29) (v := ?_) (a' := ?_) #[true, true, false, false, false, false, false, false, false, false, false] rfl rfl (qq HT_.out (by kernel_rfl)) (fun _ _ _ h => h) (Or.inl ⟨by rfl, ?_⟩) ?_ ?_
          rotate_left
          ·intro w'
           go_simp
           with_reducible rfl
          rotate_left
          ·simp only [Act.put, sA_, sB_, sC_, i64_w, i32_w]
           rfl
          refine pure_ (i := 4) (N := some 32) (v := ?_) (a' := ?_) #[true, true, false, false, true, false, false, false, false, false, false] rfl rfl (qq HT_.out (by kernel_rfl)) (fun _ _ _ h => h) (Or.inl ⟨by rfl, ?_⟩) ?_ ?_
          rotate_left
          ·intro w'
           go_simp
           with_reducible rfl
          rotate_left
          ·simp only [Act.put, sA_, sB_, sC_, i64_w, i32_w]
           rfl
          refine pure_ (i := 5) (N := some 33) (v := ?_) (a' := ?_) #[true, true, false, false, true, true, false, false, false, false, false] rfl rfl (qq HT_.out (by kernel_rfl)) (fun _ _ _ h => h) (Or.inl ⟨by rfl, ?_⟩) ?_ ?_
          rotate_left
          ·intro w'
           go_simp
           with_reducible rfl
          rotate_left
          ·simp only [Act.put, sA_, sB_, sC_, i64_w, i32_w]
           rfl
          refine take_ (i := 2) (N := some 30) (v := ?_) (a' := ?_) #[true, true, true, false, true, true, false, false, false, false, false] rfl rfl (qz HT_.out HW_.out (by kernel_rfl)) (fun _ _ _ h => h) (Or.inl ⟨by rfl, ?_⟩) hHeld ?_ ?_
          rotate_left
          ·rintro w' ⟨s0, s1⟩
           go_simp
           with_reducible rfl
          rotate_left
          ·simp only [Act.put, sA_, sB_, sC_, i64_w, i32_w]
           rfl
          refine take_ (i := 6) (N := some 34) (v := ?_) (a' := ?_) #[true, true, true, false, true, true, true, false, false, false, false] rfl rfl (qz HT_.out HW_.out (by kernel_rfl)) (fun _ _ _ h => h) (Or.inl ⟨by rfl, ?_⟩) hHeld ?_ ?_
          rotate_left
          ·rintro w' ⟨s0, s1⟩
           go_simp
           with_reducible rfl
          rotate_left
          ·simp only [Act.put, sA_, sB_, sC_, i64_w, i32_w]
           rfl
          refine join_ (σ := Nat) 1 #[true, true, true, true, true, true, true, true, true, true, false] (fun s_ => [(31, .int .i64 t146), (35, .int .i64 t148), (6, .pointer (some ⟨s_, 0, none⟩)), (36, .agg #[.int .i64 t146, .int .i64 t148, .slice none 0 0])]) (fun s_ w' => (w'.cell? ad145 = some (.string (rdOf ByteArray.empty t142 0)) ∧ w'.cell? ⟨ad145.block, ad145.off + 1, none⟩ = some (.string (rdOf ByteArray.empty t142 1))) ∧ (Kd.R Kd.string 9 w' w.heap.size (fun k_ => some k_ ≠ (.slice (some ad141) t138.length co20 : Value).ownBlock) (.slice (some ad145) t142.length co22) t142) ∧ (Kd.R Kd.string 9 w' w.heap.size (fun k_ => some k_ ≠ (.slice (some ad145) t142.length co22 : Value).ownBlock) (.slice (some ad141) t138.length co20) t138) ∧ (w'.heap[gb137]? = some (.cells #[.int .i64 0, .int .i64 0, .slice none 0 0] 24 (0, 0))) ∧ (w'.heap[s_]? = some (.cells #[.int .i64 0, .int .i64 0, .slice none 0 0] 24 (0, 0))) ∧ (w.heap.size ≤ s_) ∧ (w.heap.size ≤ s_) ∧ (gb137 ≠ s_) ∧ (s_ ≠ gb137) ∧ (Below w.heap.size w w')) ?_ ?_
          rotate_left
          ·intro hCont
           refine two_ (i := 3) (j := 9) (Ni := some 31) (Nj := some 6) #[true, true, true, true, true, true, true, false, false, false, false] #[true, true, true, false, true, true, true, false, false, true, false] rfl rfl rfl rfl (two_of HT_.out (by kernel_rfl)) (by decide) (by decide) (fun K hK => ?_) (fun K hK => ?_)
           ·skip
            refine goes_ Tryd.func20 (by kernel_rfl) rfl #[.string (rdOf ByteArray.empty t142 0)] (by rfl) rfl rfl al_ ?_
            with_reducible refine (spec_l1Read.calls kj2 (rdOf ByteArray.empty t142 0) t146 _ A14.out).mono ?_
            rintro e w' ⟨rfl, ⟨nd, rfl⟩⟩
            refine ⟨_, rfl, ?_⟩
            refine hK.out _ _ ⟨hHeld.1, hHeld.2⟩ (fun hHeld => ?_)
            clear hK K
            refine norm_ (a' := ?_) ?_ ?_
            rotate_left
            ·show Act.put _ (some 31) _ = _
             simp only [Act.put, sA_, sB_, sC_, i64_w, i32_w]
             rfl
            refine two_ (i := 7) (j := 9) (Ni := some 35) (Nj := some 6) #[true, true, true, true, true, true, true, true, false, false, false] #[true, true, true, true, true, true, true, false, false, true, false] rfl rfl rfl rfl (two_of HT_.out (by kernel_rfl)) (by decide) (by decide) (fun K hK => ?_) (fun K hK => ?_)
            ·skip
             refine goes_ Tryd.func20 (by kernel_rfl) rfl #[.string (rdOf ByteArray.empty t142 1)] (by rfl) rfl rfl al_ ?_
             with_reducible refine (spec_l1Read.calls kj2 (rdOf ByteArray.empty t142 1) t148 _ A16.out).mono ?_
             rintro e w' ⟨rfl, ⟨nd, rfl⟩⟩
             refine ⟨_, rfl, ?_⟩
             refine hK.out _ _ ⟨hHeld.1, hHeld.2⟩ (fun hHeld => ?_)
             clear hK K
             refine norm_ (a' := ?_) ?_ ?_
             rotate_left
             ·show Act.put _ (some 35) _ = _
              simp only [Act.put, sA_, sB_, sC_, i64_w, i32_w]
              rfl
             refine pure_ (i := 8) (N := some 36) (v := ?_) (a' := ?_) #[true, true, true, true, true, true, true, true, true, false, false] rfl rfl (qq HT_.out (by kernel_rfl)) (fun _ _ _ h => h) (Or.inl ⟨by rfl, ?_⟩) ?_ ?_
             rotate_left
             ·intro w'
              go_simp
              with_reducible rfl
             rotate_left
             ·simp only [Act.put, sA_, sB_, sC_, i64_w, i32_w]
              rfl
             refine one_ (i := 9) (N := some 6) #[true, true, true, true, true, true, true, true, true, true, false] rfl rfl (zh HT_.out (by kernel_rfl)) (by decide) (fun K hK => ?_)
             refine box_step ?hg (N := 6) ?hd (cs := #[.int .i64 0, .int .i64 0, .slice none 0 0]) (t := 24) ?hr ?_; (case hd => rfl); (case hg => rfl); (case hr => first | (go_simp; done) | (go_simp; rfl))
             intro gb149 hg w24 hbox hb
             have HS0_ := (hb.cell (World.block_lt_of_cell? _ _ (hHeld.1))).trans (hHeld.1)
             have HS1_ := (hb.cell (World.block_lt_of_cell? _ _ (hHeld.2))).trans (hHeld.2)
             have n0_ := qb.mk (Kd.za (kr_ HO_4) hb)
             have n1_ := qb.mk (Kd.za (kr_ HO144) hb)
             have n2_ := qb.mk (qn (g := gb137) (o := .cells #[.int .i64 0, .int .i64 0, .slice none 0 0] 24 (0, 0)) (bk_ BK137) hb)
             have n3_ := qb.mk (qm (be1_ HB GE137) hb)
             have n4_ := qb.mk (hbox)
             have n5_ := qb.mk ((by rw [hg]; exact (ql (be1_ HB GE137)) : w.heap.size ≤ gb149))
             have n6_ := qb.mk ((by rw [hg]; exact (ql (be1_ HB GE137)) : w.heap.size ≤ gb149))
             have n7_ := qb.mk ((by rw [hg]; exact Nat.ne_of_lt (zd (g := gb137) (o := .cells #[.int .i64 0, .int .i64 0, .slice none 0 0] 24 (0, 0)) (bk_ BK137)) : gb137 ≠ gb149))
             have n8_ := qb.mk ((by rw [hg]; exact Nat.ne_of_gt (zd (g := gb137) (o := .cells #[.int .i64 0, .int .i64 0, .slice none 0 0] 24 (0, 0)) (bk_ BK137)) : gb149 ≠ gb137))
             clear HO_4
             clear HO144
             clear BK137
             clear HB
             have HO_4 := n0_
             have HO144 := n1_
             have BK137 := n2_
             have HB := n3_
             have BK149 := n4_
             have GW149 := n5_
             have GE149 := n6_
             have NB137_149 := n7_
             have NB149_137 := n8_
             clear n0_ n1_ n2_ n3_ n4_ n5_ n6_ n7_ n8_
             clear hb hbox hg
             refine hK.out _ _ ⟨HS0_, HS1_⟩ (fun hHeld => ?_)
             clear hK K
             refine norm_ (a' := ?_) ?_ ?_
             rotate_left
             ·show Act.put _ (some 6) _ = _
              simp only [Act.put, sA_, sB_, sC_, i64_w, i32_w]
              rfl
             exact norm_ (by simp only [putAll, Act.put, sA_, sB_, sC_]) (hCont (gb149) _ ⟨hHeld, (by (with_reducible repeat (first | apply Kd.qo | apply Kd.qp | apply Kd.qu)); exact Kd.zi HO144.out (fun _ hk => hk.2)), (by (with_reducible repeat (first | apply Kd.qo | apply Kd.qp | apply Kd.qu)); exact Kd.zi HO_4.out (fun _ hk => hk.2)), (bk_ BK137), (bk_ BK149), GW149.out, GE149.out, NB137_149.out, NB149_137.out, (be2_ HB GE137 GE149)⟩)
            ·skip
             refine box_step ?hg (N := 6) ?hd (cs := #[.int .i64 0, .int .i64 0, .slice none 0 0]) (t := 24) ?hr ?_; (case hd => rfl); (case hg => rfl); (case hr => first | (go_simp; done) | (go_simp; rfl))
             intro gb149 hg w24 hbox hb
             have HS0_ := (hb.cell (World.block_lt_of_cell? _ _ (hHeld.1))).trans (hHeld.1)
             have HS1_ := (hb.cell (World.block_lt_of_cell? _ _ (hHeld.2))).trans (hHeld.2)
             have n0_ := qb.mk (Kd.za (kr_ HO_4) hb)
             have n1_ := qb.mk (Kd.za (kr_ HO144) hb)
             have n2_ := qb.mk (qn (g := gb137) (o := .cells #[.int .i64 0, .int .i64 0, .slice none 0 0] 24 (0, 0)) (bk_ BK137) hb)
             have n3_ := qb.mk (qm (be1_ HB GE137) hb)
             have n4_ := qb.mk (hbox)
             have n5_ := qb.mk ((by rw [hg]; exact (ql (be1_ HB GE137)) : w.heap.size ≤ gb149))
             have n6_ := qb.mk ((by rw [hg]; exact (ql (be1_ HB GE137)) : w.heap.size ≤ gb149))
             have n7_ := qb.mk ((by rw [hg]; exact Nat.ne_of_lt (zd (g := gb137) (o := .cells #[.int .i64 0, .int .i64 0, .slice none 0 0] 24 (0, 0)) (bk_ BK137)) : gb137 ≠ gb149))
             have n8_ := qb.mk ((by rw [hg]; exact Nat.ne_of_gt (zd (g := gb137) (o := .cells #[.int .i64 0, .int .i64 0, .slice none 0 0] 24 (0, 0)) (bk_ BK137)) : gb149 ≠ gb137))
             clear HO_4
             clear HO144
             clear BK137
             clear HB
             have HO_4 := n0_
             have HO144 := n1_
             have BK137 := n2_
             have HB := n3_
             have BK149 := n4_
             have GW149 := n5_
             have GE149 := n6_
             have NB137_149 := n7_
             have NB149_137 := n8_
             clear n0_ n1_ n2_ n3_ n4_ n5_ n6_ n7_ n8_
             clear hb hbox hg
             refine hK.out _ _ ⟨HS0_, HS1_⟩ (fun hHeld => ?_)
             clear hK K
             refine norm_ (a' := ?_) ?_ ?_
             rotate_left
             ·show Act.put _ (some 6) _ = _
              simp only [Act.put, sA_, sB_, sC_, i64_w, i32_w]
              rfl
             refine one_ (i := 7) (N := some 35) #[true, true, true, true, true, true, true, true, false, true, false] rfl rfl (zh HT_.out (by kernel_rfl)) (by decide) (fun K hK => ?_)
             refine goes_ Tryd.func20 (by kernel_rfl) rfl #[.string (rdOf ByteArray.empty t142 1)] (by rfl) rfl rfl al_ ?_
             with_reducible refine (spec_l1Read.calls kj2 (rdOf ByteArray.empty t142 1) t148 _ A16.out).mono ?_
             rintro e w' ⟨rfl, ⟨nd, rfl⟩⟩
             refine ⟨_, rfl, ?_⟩
             refine hK.out _ _ ⟨hHeld.1, hHeld.2⟩ (fun hHeld => ?_)
             clear hK K
             refine norm_ (a' := ?_) ?_ ?_
             rotate_left
             ·show Act.put _ (some 35) _ = _
              simp only [Act.put, sA_, sB_, sC_, i64_w, i32_w]
              rfl
             refine pure_ (i := 8) (N := some 36) (v := ?_) (a' := ?_) #[true, true, true, true, true, true, true, true, true, true, false] rfl rfl (qq HT_.out (by kernel_rfl)) (fun _ _ _ h => h) (Or.inl ⟨by rfl, ?_⟩) ?_ ?_
             rotate_left
             ·intro w'
              go_simp
              with_reducible rfl
             rotate_left
             ·simp only [Act.put, sA_, sB_, sC_, i64_w, i32_w]
              rfl
             exact norm_ (by simp only [putAll, Act.put, sA_, sB_, sC_]) (hCont (gb149) _ ⟨hHeld, (by (with_reducible repeat (first | apply Kd.qo | apply Kd.qp | apply Kd.qu)); exact Kd.zi HO144.out (fun _ hk => hk.2)), (by (with_reducible repeat (first | apply Kd.qo | apply Kd.qp | apply Kd.qu)); exact Kd.zi HO_4.out (fun _ hk => hk.2)), (bk_ BK137), (bk_ BK149), GW149.out, GE149.out, NB137_149.out, NB149_137.out, (be2_ HB GE137 GE149)⟩)
           ·skip
            refine box_step ?hg (N := 6) ?hd (cs := #[.int .i64 0, .int .i64 0, .slice none 0 0]) (t := 24) ?hr ?_; (case hd => rfl); (case hg => rfl); (case hr => first | (go_simp; done) | (go_simp; rfl))
            intro gb149 hg w24 hbox hb
            have HS0_ := (hb.cell (World.block_lt_of_cell? _ _ (hHeld.1))).trans (hHeld.1)
            have HS1_ := (hb.cell (World.block_lt_of_cell? _ _ (hHeld.2))).trans (hHeld.2)
            have n0_ := qb.mk (Kd.za (kr_ HO_4) hb)
            have n1_ := qb.mk (Kd.za (kr_ HO144) hb)
            have n2_ := qb.mk (qn (g := gb137) (o := .cells #[.int .i64 0, .int .i64 0, .slice none 0 0] 24 (0, 0)) (bk_ BK137) hb)
            have n3_ := qb.mk (qm (be1_ HB GE137) hb)
            have n4_ := qb.mk (hbox)
            have n5_ := qb.mk ((by rw [hg]; exact (ql (be1_ HB GE137)) : w.heap.size ≤ gb149))
            have n6_ := qb.mk ((by rw [hg]; exact (ql (be1_ HB GE137)) : w.heap.size ≤ gb149))
            have n7_ := qb.mk ((by rw [hg]; exact Nat.ne_of_lt (zd (g := gb137) (o := .cells #[.int .i64 0, .int .i64 0, .slice none 0 0] 24 (0, 0)) (bk_ BK137)) : gb137 ≠ gb149))
            have n8_ := qb.mk ((by rw [hg]; exact Nat.ne_of_gt (zd (g := gb137) (o := .cells #[.int .i64 0, .int .i64 0, .slice none 0 0] 24 (0, 0)) (bk_ BK137)) : gb149 ≠ gb137))
            clear HO_4
            clear HO144
            clear BK137
            clear HB
            have HO_4 := n0_
            have HO144 := n1_
            have BK137 := n2_
            have HB := n3_
            have BK149 := n4_
            have GW149 := n5_
            have GE149 := n6_
            have NB137_149 := n7_
            have NB149_137 := n8_
            clear n0_ n1_ n2_ n3_ n4_ n5_ n6_ n7_ n8_
            clear hb hbox hg
            refine hK.out _ _ ⟨HS0_, HS1_⟩ (fun hHeld => ?_)
            clear hK K
            refine norm_ (a' := ?_) ?_ ?_
            rotate_left
            ·show Act.put _ (some 6) _ = _
             simp only [Act.put, sA_, sB_, sC_, i64_w, i32_w]
             rfl
            refine one_ (i := 3) (N := some 31) #[true, true, true, true, true, true, true, false, false, true, false] rfl rfl (zh HT_.out (by kernel_rfl)) (by decide) (fun K hK => ?_)
            refine goes_ Tryd.func20 (by kernel_rfl) rfl #[.string (rdOf ByteArray.empty t142 0)] (by rfl) rfl rfl al_ ?_
            with_reducible refine (spec_l1Read.calls kj2 (rdOf ByteArray.empty t142 0) t146 _ A14.out).mono ?_
            rintro e w' ⟨rfl, ⟨nd, rfl⟩⟩
            refine ⟨_, rfl, ?_⟩
            refine hK.out _ _ ⟨hHeld.1, hHeld.2⟩ (fun hHeld => ?_)
            clear hK K
            refine norm_ (a' := ?_) ?_ ?_
            rotate_left
            ·show Act.put _ (some 31) _ = _
             simp only [Act.put, sA_, sB_, sC_, i64_w, i32_w]
             rfl
            refine one_ (i := 7) (N := some 35) #[true, true, true, true, true, true, true, true, false, true, false] rfl rfl (zh HT_.out (by kernel_rfl)) (by decide) (fun K hK => ?_)
            refine goes_ Tryd.func20 (by kernel_rfl) rfl #[.string (rdOf ByteArray.empty t142 1)] (by rfl) rfl rfl al_ ?_
            with_reducible refine (spec_l1Read.calls kj2 (rdOf ByteArray.empty t142 1) t148 _ A16.out).mono ?_
            rintro e w' ⟨rfl, ⟨nd, rfl⟩⟩
            refine ⟨_, rfl, ?_⟩
            refine hK.out _ _ ⟨hHeld.1, hHeld.2⟩ (fun hHeld => ?_)
            clear hK K
            refine norm_ (a' := ?_) ?_ ?_
            rotate_left
            ·show Act.put _ (some 35) _ = _
             simp only [Act.put, sA_, sB_, sC_, i64_w, i32_w]
             rfl
            refine pure_ (i := 8) (N := some 36) (v := ?_) (a' := ?_) #[true, true, true, true, true, true, true, true, true, true, false] rfl rfl (qq HT_.out (by kernel_rfl)) (fun _ _ _ h => h) (Or.inl ⟨by rfl, ?_⟩) ?_ ?_
            rotate_left
            ·intro w'
             go_simp
             with_reducible rfl
            rotate_left
            ·simp only [Act.put, sA_, sB_, sC_, i64_w, i32_w]
             rfl
            exact norm_ (by simp only [putAll, Act.put, sA_, sB_, sC_]) (hCont (gb149) _ ⟨hHeld, (by (with_reducible repeat (first | apply Kd.qo | apply Kd.qp | apply Kd.qu)); exact Kd.zi HO144.out (fun _ hk => hk.2)), (by (with_reducible repeat (first | apply Kd.qo | apply Kd.qp | apply Kd.qu)); exact Kd.zi HO_4.out (fun _ hk => hk.2)), (bk_ BK137), (bk_ BK149), GW149.out, GE149.out, NB137_149.out, NB149_137.out, (be2_ HB GE137 GE149)⟩)
          rintro gb149 w25 ⟨hS_, h0_, h1_, h2_, h3_, h4_, h5_, h6_, h7_, h8_⟩
          have n0_ : qb (Kd.R Kd.string 9 w25 w.heap.size (fun k_ => some k_ ≠ (.slice (some ad141) t138.length co20 : Value).ownBlock) (.slice (some ad145) t142.length co22) t142) := ⟨h0_⟩
          have n1_ : qb (Kd.R Kd.string 9 w25 w.heap.size (fun k_ => some k_ ≠ (.slice (some ad145) t142.length co22 : Value).ownBlock) (.slice (some ad141) t138.length co20) t138) := ⟨h1_⟩
          have n2_ : qb (w25.heap[gb137]? = some (.cells #[.int .i64 0, .int .i64 0, .slice none 0 0] 24 (0, 0))) := ⟨h2_⟩
          have n3_ : qb (w25.heap[gb149]? = some (.cells #[.int .i64 0, .int .i64 0, .slice none 0 0] 24 (0, 0))) := ⟨h3_⟩
          have n4_ : qb (w.heap.size ≤ gb149) := ⟨h4_⟩
          have n5_ : qb (w.heap.size ≤ gb149) := ⟨h5_⟩
          have n6_ : qb (gb137 ≠ gb149) := ⟨h6_⟩
          have n7_ : qb (gb149 ≠ gb137) := ⟨h7_⟩
          have n8_ : qb (Below w.heap.size w w25) := ⟨h8_⟩
          clear HO_4
          clear HO144
          clear BK137
          clear HB
          clear h0_ h1_ h2_ h3_ h4_ h5_ h6_ h7_ h8_
          have HO144 := n0_
          have HO_4 := n1_
          have BK137 := n2_
          have BK149 := n3_
          have GW149 := n4_
          have GE149 := n5_
          have NB137_149 := n6_
          have NB149_137 := n7_
          have HB := n8_
          clear n0_ n1_ n2_ n3_ n4_ n5_ n6_ n7_ n8_
          have hHeld : w25.cell? ad145 = some (.string (rdOf ByteArray.empty t142 0)) ∧ w25.cell? ⟨ad145.block, ad145.off + 1, none⟩ = some (.string (rdOf ByteArray.empty t142 1)) := hS_
          refine norm_ (a' := ?_) ?_ ?_
          rotate_left
          ·simp only [putAll, Act.put, sA_, sB_, sC_]
           rfl
          refine one_ (i := 10) (N := none) #[true, true, true, true, true, true, true, true, true, true, true] rfl rfl (zh HT_.out (by kernel_rfl)) (by decide) (fun K hK => ?_)
          have hs26 : w25.cell? ⟨gb149, 0, none⟩ = some (.int .i64 0) := (qg BK149.out 0).trans rfl
          have hfs26 := qj BK149.out 0
          have hns26_0 := NB137_149.out
          have hms26_0 := NB149_137.out
          have hs27 : w25.cell? ⟨gb149, 1, none⟩ = some (.int .i64 0) := (qg BK149.out 1).trans rfl
          have hfs27 := qj BK149.out 1
          have hns27_0 := NB137_149.out
          have hms27_0 := NB149_137.out
          have hs28 : w25.cell? ⟨gb149, 2, none⟩ = some (.slice none 0 0) := (qg BK149.out 2).trans rfl
          have hfs28 := qj BK149.out 2
          have hns28_0 := NB137_149.out
          have hms28_0 := NB149_137.out
          refine skip_ (w1 := ?_) (by rfl) rfl ?_ ?_
          rotate_left
          ·go_simp
           rfl
          refine hK.out _ _ ⟨((cell_far (p := ⟨gb149, _, none⟩) (by first | exact Kd.qy (Kd.R_ne HO144.out BK149.out (by decide)) | (rw [add_block]; exact Kd.qy (Kd.R_ne HO144.out BK149.out (by decide))) | (show (Addr.add _ _).block ≠ _; rw [add_block]; exact Kd.qy (Kd.R_ne HO144.out BK149.out (by decide))) | (dsimp only; exact Kd.qy (Kd.R_ne HO144.out BK149.out (by decide)))) _).trans (((cell_far (p := ⟨gb149, _, none⟩) (by first | exact Kd.qy (Kd.R_ne HO144.out BK149.out (by decide)) | (rw [add_block]; exact Kd.qy (Kd.R_ne HO144.out BK149.out (by decide))) | (show (Addr.add _ _).block ≠ _; rw [add_block]; exact Kd.qy (Kd.R_ne HO144.out BK149.out (by decide))) | (dsimp only; exact Kd.qy (Kd.R_ne HO144.out BK149.out (by decide)))) _).trans (((cell_far (p := ⟨gb149, _, none⟩) (by first | exact Kd.qy (Kd.R_ne HO144.out BK149.out (by decide)) | (rw [add_block]; exact Kd.qy (Kd.R_ne HO144.out BK149.out (by decide))) | (show (Addr.add _ _).block ≠ _; rw [add_block]; exact Kd.qy (Kd.R_ne HO144.out BK149.out (by decide))) | (dsimp only; exact Kd.qy (Kd.R_ne HO144.out BK149.out (by decide)))) _).trans (hHeld.1)))))), ((cell_far (p := ⟨gb149, _, none⟩) (by first | exact Kd.qy (Kd.R_ne HO144.out BK149.out (by decide)) | (rw [add_block]; exact Kd.qy (Kd.R_ne HO144.out BK149.out (by decide))) | (show (Addr.add _ _).block ≠ _; rw [add_block]; exact Kd.qy (Kd.R_ne HO144.out BK149.out (by decide))) | (dsimp only; exact Kd.qy (Kd.R_ne HO144.out BK149.out (by decide)))) _).trans (((cell_far (p := ⟨gb149, _, none⟩) (by first | exact Kd.qy (Kd.R_ne HO144.out BK149.out (by decide)) | (rw [add_block]; exact Kd.qy (Kd.R_ne HO144.out BK149.out (by decide))) | (show (Addr.add _ _).block ≠ _; rw [add_block]; exact Kd.qy (Kd.R_ne HO144.out BK149.out (by decide))) | (dsimp only; exact Kd.qy (Kd.R_ne HO144.out BK149.out (by decide)))) _).trans (((cell_far (p := ⟨gb149, _, none⟩) (by first | exact Kd.qy (Kd.R_ne HO144.out BK149.out (by decide)) | (rw [add_block]; exact Kd.qy (Kd.R_ne HO144.out BK149.out (by decide))) | (show (Addr.add _ _).block ≠ _; rw [add_block]; exact Kd.qy (Kd.R_ne HO144.out BK149.out (by decide))) | (dsimp only; exact Kd.qy (Kd.R_ne HO144.out BK149.out (by decide)))) _).trans (hHeld.2))))))⟩ (fun hHeld => ?_)
          clear hK K
          refine done_ (zq HT_.out (by kernel_rfl)) ?_
          have p150 : 0 ≤ (1 : Int) := (by omega)
          have q150 : 1 < (t138.length : Int) := od_
          obtain ⟨ad150, e150, hx150_0⟩ := Kd.zm (Kd.qw HO_4.out).2.2 1 p150 q150
          obtain rfl : ad141 = ad150 := (by injection e150)
          (try simp only [show (1 : Int).toNat = 1 from rfl, Nat.reduceMul, Nat.reduceEqDiff, Go.Addr.add, ↓reduceIte] at hx150_0)
          have qi150 : (1 < t138.length) = True := eq_true (by omega)
          (try rw [show ((1 : Int)).toNat = 1 from rfl] at hx150_0)
          have hn150_0 : ad141.block ≠ gb149 := Kd.qy (Kd.R_ne HO_4.out BK149.out (by decide))
          have hn150_1 : ad141.block ≠ gb149 := Kd.qy (Kd.R_ne HO_4.out BK149.out (by decide))
          have hn150_2 : ad141.block ≠ gb149 := Kd.qy (Kd.R_ne HO_4.out BK149.out (by decide))
          replace hx150_0 := (cell_far (p := ⟨gb149, 0, none⟩) (by first | (rw [add_block]; exact hn150_0) | (show (Addr.add _ _).block ≠ _; rw [add_block]; exact hn150_0) | exact hn150_0) (.int .i64 t146)).trans hx150_0
          replace hx150_0 := (cell_far (p := ⟨gb149, 1, none⟩) (by first | (rw [add_block]; exact hn150_1) | (show (Addr.add _ _).block ≠ _; rw [add_block]; exact hn150_1) | exact hn150_1) (.int .i64 t148)).trans hx150_0
          replace hx150_0 := (cell_far (p := ⟨gb149, 2, none⟩) (by first | (rw [add_block]; exact hn150_2) | (show (Addr.add _ _).block ≠ _; rw [add_block]; exact hn150_2) | exact hn150_2) (.slice none 0 0)).trans hx150_0
          clear hn150_0
          clear hn150_1
          clear hn150_2
          replace p150 := eq_true p150
          replace q150 := eq_true q150
          have p151 : 0 ≤ (1 : Int) := (by omega)
          have q151 : 1 < (t138.length : Int) := od_
          obtain ⟨ad151, e151, hx151_0⟩ := Kd.zm (Kd.qw HO_4.out).2.2 1 p151 q151
          obtain rfl : ad141 = ad151 := (by injection e151)
          (try simp only [show (1 : Int).toNat = 1 from rfl, Nat.reduceMul, Nat.reduceEqDiff, Go.Addr.add, ↓reduceIte] at hx151_0)
          have qi151 : (1 < t138.length) = True := eq_true (by omega)
          (try rw [show ((1 : Int)).toNat = 1 from rfl] at hx151_0)
          have hn151_0 : ad141.block ≠ gb149 := Kd.qy (Kd.R_ne HO_4.out BK149.out (by decide))
          have hn151_1 : ad141.block ≠ gb149 := Kd.qy (Kd.R_ne HO_4.out BK149.out (by decide))
          have hn151_2 : ad141.block ≠ gb149 := Kd.qy (Kd.R_ne HO_4.out BK149.out (by decide))
          replace hx151_0 := (cell_far (p := ⟨gb149, 0, none⟩) (by first | (rw [add_block]; exact hn151_0) | (show (Addr.add _ _).block ≠ _; rw [add_block]; exact hn151_0) | exact hn151_0) (.int .i64 t146)).trans hx151_0
          replace hx151_0 := (cell_far (p := ⟨gb149, 1, none⟩) (by first | (rw [add_block]; exact hn151_1) | (show (Addr.add _ _).block ≠ _; rw [add_block]; exact hn151_1) | exact hn151_1) (.int .i64 t148)).trans hx151_0
          replace hx151_0 := (cell_far (p := ⟨gb149, 2, none⟩) (by first | (rw [add_block]; exact hn151_2) | (show (Addr.add _ _).block ≠ _; rw [add_block]; exact hn151_2) | exact hn151_2) (.slice none 0 0)).trans hx151_0
          clear hn151_0
          clear hn151_1
          clear hn151_2
          replace p151 := eq_true p151
          replace q151 := eq_true q151
          try go_wp2_with (first | ((with_reducible refine qv (f := 19) rfl ?_); refine zf (some 45) rfl rfl Tryd.func19 (by kernel_rfl) rfl #[.string (rdOf ByteArray.empty t138 1), .int .u8 44] rfl al_ ?_; (with_reducible refine (spec_l1Split.calls kj2 (rdOf ByteArray.empty t138 1) 44 t152 _ A19.out).mono ?_); rintro e w29 ⟨v153, rfl, ho0, hb⟩; refine ⟨_, rfl, ?_⟩; have n0_ := qb.mk (Kd.R_elder' (by (with_reducible repeat (first | apply Kd.qo | apply Kd.qp | apply Kd.qu)); exact (Kd.zi (Kd.R_far (p := ⟨gb149, 2, none⟩) (Kd.R_far (p := ⟨gb149, 1, none⟩) (Kd.R_far (p := ⟨gb149, 0, none⟩) (Kd.zk HO_4.out BK149.out (by decide)) (fun _ hk => hk.2) (.int .i64 t146)) (fun _ hk => hk.2) (.int .i64 t148)) (fun _ hk => hk.2) (.slice none 0 0)) (fun _ h_ => h_.1))) (Kd.R_base ho0) hb); have n1_ := qb.mk (Kd.R_elder' (by (with_reducible repeat (first | apply Kd.qo | apply Kd.qp | apply Kd.qu)); exact (Kd.zi (Kd.R_far (p := ⟨gb149, 2, none⟩) (Kd.R_far (p := ⟨gb149, 1, none⟩) (Kd.R_far (p := ⟨gb149, 0, none⟩) (Kd.zk HO144.out BK149.out (by decide)) (fun _ hk => hk.2) (.int .i64 t146)) (fun _ hk => hk.2) (.int .i64 t148)) (fun _ hk => hk.2) (.slice none 0 0)) (fun _ h_ => h_.1))) (Kd.R_base ho0) hb); have n2_ := qb.mk (Kd.zr (Kd.R_new' (Kd.R_new' ho0 (Kd.R_lt (by (with_reducible repeat (first | apply Kd.qo | apply Kd.qp | apply Kd.qu)); exact (Kd.zi (Kd.R_far (p := ⟨gb149, 2, none⟩) (Kd.R_far (p := ⟨gb149, 1, none⟩) (Kd.R_far (p := ⟨gb149, 0, none⟩) (Kd.zk HO_4.out BK149.out (by decide)) (fun _ hk => hk.2) (.int .i64 t146)) (fun _ hk => hk.2) (.int .i64 t148)) (fun _ hk => hk.2) (.slice none 0 0)) (fun _ h_ => h_.1))))) (Kd.R_lt (by (with_reducible repeat (first | apply Kd.qo | apply Kd.qp | apply Kd.qu)); exact (Kd.zi (Kd.R_far (p := ⟨gb149, 2, none⟩) (Kd.R_far (p := ⟨gb149, 1, none⟩) (Kd.R_far (p := ⟨gb149, 0, none⟩) (Kd.zk HO144.out BK149.out (by decide)) (fun _ hk => hk.2) (.int .i64 t146)) (fun _ hk => hk.2) (.int .i64 t148)) (fun _ hk => hk.2) (.slice none 0 0)) (fun _ h_ => h_.1))))) (ql (be2_ HB GE137 GE149))); have n3_ := qb.mk (qn (g := gb137) (o := .cells #[.int .i64 0, .int .i64 0, .slice none 0 0] 24 (0, 0)) (by (with_reducible repeat (first | refine qf ?_ _ | refine qi ?_ | refine qe ?_ _)); refine ze ?_ NB137_149.out _; (with_reducible repeat (first | refine qf ?_ _ | refine qi ?_ | refine qe ?_ _)); refine ze ?_ NB137_149.out _; (with_reducible repeat (first | refine qf ?_ _ | refine qi ?_ | refine qe ?_ _)); refine ze ?_ NB137_149.out _; (with_reducible repeat (first | refine qf ?_ _ | refine qi ?_ | refine qe ?_ _)); exact BK137.out) hb); have n4_ := qb.mk (qn (g := gb149) (o := .cells #[.int .i64 t146, .int .i64 t148, .slice none 0 0] 24 (0, 0)) (by (with_reducible repeat (first | refine qf ?_ _ | refine qi ?_ | refine qe ?_ _)); refine qx (cs := #[.int .i64 t146, .int .i64 t148, .slice none 0 0]) ?_ 2 _ rfl; (with_reducible repeat (first | refine qf ?_ _ | refine qi ?_ | refine qe ?_ _)); refine qx (cs := #[.int .i64 t146, .int .i64 0, .slice none 0 0]) ?_ 1 _ rfl; (with_reducible repeat (first | refine qf ?_ _ | refine qi ?_ | refine qe ?_ _)); refine qx (cs := #[.int .i64 0, .int .i64 0, .slice none 0 0]) ?_ 0 _ rfl; (with_reducible repeat (first | refine qf ?_ _ | refine qi ?_ | refine qe ?_ _)); exact BK149.out) hb); have n5_ := qb.mk (qm (be2_ HB GE137 GE149) hb); clear HO_4; clear HO144; clear BK137; clear BK149; clear HB; have HO_4 := n0_; have HO144 := n1_; have HO154 := n2_; have BK137 := n3_; have BK149 := n4_; have HB := n5_; clear n0_ n1_ n2_ n3_ n4_ n5_; (try clear hb); (try clear hb2); (try clear hk); (try clear hi); (try clear ho0); obtain ⟨Ao30, co30, eo30⟩ := Kd.zj HO154.out; subst eo30))
          go_loopg [47] kj2 (fun kq v47 w' => ∃ (x47_2 : Int) (x138000_2 : Int) (x138001_2 : Int) (x150002_2 : List (S39)) (u150002 : Value), v47 = .int .i64 x47_2 ∧ qb (spec_avParse.l0 kq a0 t152 (t152.length : Int) x47_2 t146 t148 x150002_2 = some (r1, r2, r3, r4)) ∧ qb (kq ≤ kj2) ∧ qb (Kd.R Kd.string 9 w' w.heap.size (fun _ => True) (.slice Ao30 t152.length co30) t152) ∧ qb (Kd.R k39 39 w' w.heap.size (fun _ => True) u150002 x150002_2) ∧ qb (w'.heap[gb137]? = some (.cells #[.int .i64 x138000_2, .int .i64 x138001_2, (.slice none 0 0)] 24 (0, 0))) ∧ qb (w'.heap[gb149]? = some (.cells #[.int .i64 t146, .int .i64 t148, u150002] 24 (0, 0))) ∧ qb (Below w.heap.size w w'))
          case atStart => exact ⟨(0), (0), (0), (([] : List (S39))), (.slice none 0 0), es_, H', ⟨Nat.le_refl _⟩, ⟨by (with_reducible repeat (first | apply Kd.qo | apply Kd.qp | apply Kd.qu)); exact Kd.zi HO154.out (fun _ hk => trivial)⟩, ⟨by first | exact Kd.R_nil _ _ _ _ _ | exact Kd.N_nil _ _ _ _ _ | exact Kd.V_nil _ _ _ _ _ | exact Kd.Q_nil _ _ _ _ _ | exact Kd.S_nil _ _ _ _ _⟩, ⟨bk_ BK137⟩, ⟨bk_ BK149⟩, ⟨be2_ HB GE137 GE149⟩⟩
          case round =>
           clear H'
           try clear c6
           try clear c6b0
           try clear c6b1
           try clear c8
           try clear c10
           try clear c10b0
           try clear c10b1
           try clear c12
           try clear c12b0
           try clear c12b1
           try clear c13
           try clear c13b0
           try clear c13b1
           try clear c15
           try clear c15b0
           try clear c15b1
           try clear c17
           try clear c17b0
           try clear c17b1
           try clear c18
           try clear c18b0
           try clear c18b1
           try clear hcz9_0
           try clear hcz9_1
           try clear hcz9_2
           try clear hfz9_0
           try clear hfz9_1
           try clear hfz9_2
           try clear hx141_0
           try clear hx145_0
           try clear hx147_0
           try clear hx150_0
           try clear hx151_0
           try clear p141
           try clear p145
           try clear p147
           try clear p150
           try clear p151
           try clear q141
           try clear q145
           try clear q147
           try clear q150
           try clear q151
           obtain ⟨x47_2, x138000_2, x138001_2, x150002_2, u150002, rfl, HA, HK2, HO_45, HO_150002, BK137, BK149, HB⟩ := hrel
           cases gk with
           | zero => exact absurd HA.out (by simp [spec_avParse.l0])
           | succ k2 =>
            have H := HA.out
            clear HA
            simp only [spec_avParse.l0] at H
            by_cases c31 : x47_2 < (t152.length : Int)
            ·rw [if_pos c31] at H
             have c31b0 : decide (x47_2 < (t152.length : Int)) = true := decide_eq_true c31
             clear c31
             by_cases c32 : 0 ≤ x47_2
             ·rw [if_pos c32] at H
              have c32b0 : decide (0 ≤ x47_2) = true := decide_eq_true c32
              clear c32
              by_cases c33 : x47_2 < (t152.length : Int)
              ·rw [if_pos c33] at H
               have c33b0 : decide (x47_2 < (t152.length : Int)) = true := decide_eq_true c33
               clear c33
               by_cases c34 : ((rdOf ByteArray.empty t152 x47_2).size : Int) = 3
               ·rw [if_pos c34] at H
                have c34b0 : (((rdOf ByteArray.empty t152 x47_2).size : Int) == 3) = true := beq_iff_eq.mpr c34
                have c34b1 : (((rdOf ByteArray.empty t152 x47_2).size : Int) != 3) = false := bne_eq_false_iff_eq.mpr c34
                clear c34
                by_cases c35 : 0 < ((rdOf ByteArray.empty t152 x47_2).size : Int)
                ·rw [if_pos c35] at H
                 have c35b0 : decide (0 < ((rdOf ByteArray.empty t152 x47_2).size : Int)) = true := decide_eq_true c35
                 have c35b1 : decide (0 < (rdOf ByteArray.empty t152 x47_2).size) = true := decide_eq_true (by omega)
                 clear c35
                 by_cases c37 : 2 < ((rdOf ByteArray.empty t152 x47_2).size : Int)
                 ·rw [if_pos c37] at H
                  have c37b0 : decide (2 < ((rdOf ByteArray.empty t152 x47_2).size : Int)) = true := decide_eq_true c37
                  have c37b1 : decide (2 < (rdOf ByteArray.empty t152 x47_2).size) = true := decide_eq_true (by omega)
                  clear c37
                  by_cases c39 : 1 < ((rdOf ByteArray.empty t152 x47_2).size : Int)
                  ·rw [if_pos c39] at H
                   have c39b0 : decide (1 < ((rdOf ByteArray.empty t152 x47_2).size : Int)) = true := decide_eq_true c39
                   have c39b1 : decide (1 < (rdOf ByteArray.empty t152 x47_2).size) = true := decide_eq_true (by omega)
                   clear c39
                   by_cases c41 : x150002_2.length < 5864062014805
                   ·rw [if_pos c41] at H
                    have LMc41 := qb.mk c41
                    clear c41
                    obtain ⟨y156, hy156⟩ : ∃ y_ : List (S39), y_ = (x150002_2 ++ [(⟨wrap64 ((wrap64 (bt (rdOf ByteArray.empty t152 x47_2) 0)) - 48), wrap64 ((wrap64 (bt (rdOf ByteArray.empty t152 x47_2) 2)) - 48), ((bt (rdOf ByteArray.empty t152 x47_2) 1) == 124)⟩ : S39)]) := ⟨_, rfl⟩
                    replace H : (spec_avParse.l0 k2 a0 t152 (t152.length : Int) (wrap64 (x47_2 + 1)) t146 t148 y156) = some (r1, r2, r3, r4) := by first | (rw [hy156]; with_reducible exact H) | (have H2_ := (Option.bind_some _ _).symm.trans H; rw [hy156]; with_reducible exact H2_) | (have H2_ := (Option.bind_some _ _).symm.trans H; with_reducible exact H2_) | with_reducible exact H | (rw [hy156]; exact H) | exact H
                    have Ny156 := qb.mk hy156
                    clear hy156
                    have H' := qb.mk H
                    clear H
                    have p155 : 0 ≤ (x47_2 : Int) := od_
                    have q155 : x47_2 < (t152.length : Int) := od_
                    obtain ⟨ad155, e155, hx155_0⟩ := Kd.zm (Kd.qw HO_45.out).2.2 x47_2 p155 q155
                    cases e155
                    replace p155 := eq_true p155
                    replace q155 := eq_true q155
                    try go_wp2
                    have n0_ := qb.mk (Kd.qu HO_45.out)
                    have n1_ := qb.mk (Kd.qu HO_150002.out)
                    have n2_ := qb.mk (qi BK137.out)
                    have n3_ := qb.mk (qi BK149.out)
                    have n4_ := qb.mk (qc HB.out)
                    clear HO_45
                    clear HO_150002
                    clear BK137
                    clear BK149
                    clear HB
                    have HO_45 := n0_
                    have HO_150002 := n1_
                    have BK137 := n2_
                    have BK149 := n3_
                    have HB := n4_
                    clear n0_ n1_ n2_ n3_ n4_
                    have p36 : 0 ≤ (0 : Int) := (by omega)
                    have q36 : 0 < (rdOf ByteArray.empty t152 x47_2).size := (by have : (0 : Int) < ((rdOf ByteArray.empty t152 x47_2).size : Int) := od_; omega)
                    have hx36 : ∀ h : 0 < (rdOf ByteArray.empty t152 x47_2).size, (((rdOf ByteArray.empty t152 x47_2)[0]'h).toNat : Int) = bt (rdOf ByteArray.empty t152 x47_2) 0 := bt_at (rdOf ByteArray.empty t152 x47_2) 0
                    clear p36
                    have qi36 : (0 < ((rdOf ByteArray.empty t152 x47_2).size : Int)) = True := eq_true (od_)
                    replace q36 := eq_true q36
                    have p38 : 0 ≤ (2 : Int) := (by omega)
                    have q38 : 2 < (rdOf ByteArray.empty t152 x47_2).size := (by have : (2 : Int) < ((rdOf ByteArray.empty t152 x47_2).size : Int) := od_; omega)
                    have hx38 : ∀ h : 2 < (rdOf ByteArray.empty t152 x47_2).size, (((rdOf ByteArray.empty t152 x47_2)[2]'h).toNat : Int) = bt (rdOf ByteArray.empty t152 x47_2) 2 := bt_at (rdOf ByteArray.empty t152 x47_2) 2
                    clear p38
                    have qi38 : (2 < ((rdOf ByteArray.empty t152 x47_2).size : Int)) = True := eq_true (od_)
                    replace q38 := eq_true q38
                    have p40 : 0 ≤ (1 : Int) := (by omega)
                    have q40 : 1 < (rdOf ByteArray.empty t152 x47_2).size := (by have : (1 : Int) < ((rdOf ByteArray.empty t152 x47_2).size : Int) := od_; omega)
                    have hx40 : ∀ h : 1 < (rdOf ByteArray.empty t152 x47_2).size, (((rdOf ByteArray.empty t152 x47_2)[1]'h).toNat : Int) = bt (rdOf ByteArray.empty t152 x47_2) 1 := bt_at (rdOf ByteArray.empty t152 x47_2) 1
                    clear p40
                    have qi40 : (1 < ((rdOf ByteArray.empty t152 x47_2).size : Int)) = True := eq_true (od_)
                    replace q40 := eq_true q40
                    refine zu (n := 18) (S := fun w' => w'.cell? ⟨gb149, 0, none⟩ = some (.int .i64 t146) ∧ w'.cell? ⟨gb149, 1, none⟩ = some (.int .i64 t148) ∧ w'.cell? ⟨gb149, 2, none⟩ = some (u150002)) (ds := [17]) #[false, false, false, false, false, false, false, false, false, false, false, false, false, false, false, false, false, false] (by kernel_rfl) rfl rfl ⟨(qg BK149.out 0).trans rfl, (qg BK149.out 1).trans rfl, (qg BK149.out 2).trans rfl⟩ (fun hHeld => ?_); refine zl spec_avParse.tab14 spec_avParse.bits14 (fun HT_ HW_ => ?_)
                    generalize wr.drew = w42 at HO_45 HO_150002 BK137 BK149 HB hHeld ⊢
                    refine pure_ (i := 0) (N := some 55) (v := ?_) (a' := ?_) #[true, false, false, false, false, false, false, false, false, false, false, false, false, false, false, false, false, false] rfl rfl (qq HT_.out (by kernel_rfl)) (fun _ _ _ h => h) (Or.inl ⟨by rfl, ?_⟩) ?_ ?_
                    rotate_left
                    ·intro w'
                     go_simp
                     with_reducible rfl
                    rotate_left
                    ·simp only [Act.put, sA_, sB_, sC_, i64_w, i32_w]
                     rfl
                    refine pure_ (i := 2) (N := some 57) (v := ?_) (a' := ?_) #[true, false, true, false, false, false, false, false, false, false, false, false, false, false, false, false, false, false] rfl rfl (qq HT_.out (by kernel_rfl)) (fun _ _ _ h => h) (Or.inl ⟨by rfl, ?_⟩) ?_ ?_
                    rotate_left
                    ·intro w'
                     go_simp
                     with_reducible rfl
                    rotate_left
                    ·simp only [Act.put, sA_, sB_, sC_, i64_w, i32_w]
                     rfl
                    refine pure_ (i := 6) (N := some 61) (v := ?_) (a' := ?_) #[true, false, true, false, false, false, true, false, false, false, false, false, false, false, false, false, false, false] rfl rfl (qq HT_.out (by kernel_rfl)) (fun _ _ _ h => h) (Or.inl ⟨by rfl, ?_⟩) ?_ ?_
                    rotate_left
                    ·intro w'
                     go_simp
                     with_reducible rfl
                    rotate_left
                    ·simp only [Act.put, sA_, sB_, sC_, i64_w, i32_w]
                     rfl
                    refine pure_ (i := 10) (N := some 65) (v := ?_) (a' := ?_) #[true, false, true, false, false, false, true, false, false, false, true, false, false, false, false, false, false, false] rfl rfl (qq HT_.out (by kernel_rfl)) (fun _ _ _ h => h) (Or.inl ⟨by rfl, ?_⟩) ?_ ?_
                    rotate_left
                    ·intro w'
                     go_simp
                     with_reducible rfl
                    rotate_left
                    ·simp only [Act.put, sA_, sB_, sC_, i64_w, i32_w]
                     rfl
                    refine take_ (i := 1) (N := some 56) (v := ?_) (a' := ?_) #[true, true, true, false, false, false, true, false, false, false, true, false, false, false, false, false, false, false] rfl rfl (qz HT_.out HW_.out (by kernel_rfl)) (fun _ _ _ h => h) (Or.inl ⟨by rfl, ?_⟩) hHeld ?_ ?_
                    rotate_left
                    ·rintro w' ⟨s0, s1, s2⟩
                     go_simp
                     with_reducible rfl
                    rotate_left
                    ·simp only [Act.put, sA_, sB_, sC_, i64_w, i32_w]
                     rfl
                    refine take_ (i := 3) (N := some 58) (v := ?_) (a' := ?_) #[true, true, true, true, false, false, true, false, false, false, true, false, false, false, false, false, false, false] rfl rfl (qz HT_.out HW_.out (by kernel_rfl)) (fun _ _ _ h => h) (Or.inl ⟨by rfl, ?_⟩) hHeld ?_ ?_
                    rotate_left
                    ·rintro w' ⟨s0, s1, s2⟩
                     go_simp
                     with_reducible rfl
                    rotate_left
                    ·simp only [Act.put, sA_, sB_, sC_, i64_w, i32_w]
                     rfl
                    refine pure_ (i := 4) (N := some 59) (v := ?_) (a' := ?_) #[true, true, true, true, true, false, true, false, false, false, true, false, false, false, false, false, false, false] rfl rfl (qq HT_.out (by kernel_rfl)) (fun _ _ _ h => h) (Or.inl ⟨by rfl, ?_⟩) ?_ ?_
                    rotate_left
                    ·intro w'
                     go_simp
                     with_reducible rfl
                    rotate_left
                    ·simp only [Act.put, sA_, sB_, sC_, i64_w, i32_w]
                     rfl
                    refine pure_ (i := 5) (N := some 60) (v := ?_) (a' := ?_) #[true, true, true, true, true, true, true, false, false, false, true, false, false, false, false, false, false, false] rfl rfl (qq HT_.out (by kernel_rfl)) (fun _ _ _ h => h) (Or.inl ⟨by rfl, ?_⟩) ?_ ?_
                    rotate_left
                    ·intro w'
                     go_simp
                     with_reducible rfl
                    rotate_left
                    ·simp only [Act.put, sA_, sB_, sC_, i64_w, i32_w]
                     rfl
                    refine take_ (i := 7) (N := some 62) (v := ?_) (a' := ?_) #[true, true, true, true, true, true, true, true, false, false, true, false, false, false, false, false, false, false] rfl rfl (qz HT_.out HW_.out (by kernel_rfl)) (fun _ _ _ h => h) (Or.inl ⟨by rfl, ?_⟩) hHeld ?_ ?_
                    rotate_left
                    ·rintro w' ⟨s0, s1, s2⟩
                     go_simp
                     with_reducible rfl
                    rotate_left
                    ·simp only [Act.put, sA_, sB_, sC_, i64_w, i32_w]
                     rfl
                    refine pure_ (i := 8) (N := some 63) (v := ?_) (a' := ?_) #[true, true, true, true, true, true, true, true, true, false, true, false, false, false, false, false, false, false] rfl rfl (qq HT_.out (by kernel_rfl)) (fun _ _ _ h => h) (Or.inl ⟨by rfl, ?_⟩) ?_ ?_
                    rotate_left
                    ·intro w'
                     go_simp
                     with_reducible rfl
                    rotate_left
                    ·simp only [Act.put, sA_, sB_, sC_, i64_w, i32_w]
                     rfl
                    refine pure_ (i := 9) (N := some 64) (v := ?_) (a' := ?_) #[true, true, true, true, true, true, true, true, true, true, true, false, false, false, false, false, false, false] rfl rfl (qq HT_.out (by kernel_rfl)) (fun _ _ _ h => h) (Or.inl ⟨by rfl, ?_⟩) ?_ ?_
                    rotate_left
                    ·intro w'
                     go_simp
                     with_reducible rfl
                    rotate_left
                    ·simp only [Act.put, sA_, sB_, sC_, i64_w, i32_w]
                     rfl
                    refine take_ (i := 11) (N := some 66) (v := ?_) (a' := ?_) #[true, true, true, true, true, true, true, true, true, true, true, true, false, false, false, false, false, false] rfl rfl (qz HT_.out HW_.out (by kernel_rfl)) (fun _ _ _ h => h) (Or.inl ⟨by rfl, ?_⟩) hHeld ?_ ?_
                    rotate_left
                    ·rintro w' ⟨s0, s1, s2⟩
                     go_simp
                     with_reducible rfl
                    rotate_left
                    ·simp only [Act.put, sA_, sB_, sC_, i64_w, i32_w]
                     rfl
                    refine pure_ (i := 12) (N := some 67) (v := ?_) (a' := ?_) #[true, true, true, true, true, true, true, true, true, true, true, true, true, false, false, false, false, false] rfl rfl (qq HT_.out (by kernel_rfl)) (fun _ _ _ h => h) (Or.inl ⟨by rfl, ?_⟩) ?_ ?_
                    rotate_left
                    ·intro w'
                     go_simp
                     with_reducible rfl
                    rotate_left
                    ·simp only [Act.put, sA_, sB_, sC_, i64_w, i32_w]
                     rfl
                    refine pure_ (i := 13) (N := some 68) (v := ?_) (a' := ?_) #[true, true, true, true, true, true, true, true, true, true, true, true, true, true, false, false, false, false] rfl rfl (qq HT_.out (by kernel_rfl)) (fun _ _ _ h => h) (Or.inl ⟨by rfl, ?_⟩) ?_ ?_
                    rotate_left
                    ·intro w'
                     go_simp
                     with_reducible rfl
                    rotate_left
                    ·simp only [Act.put, sA_, sB_, sC_, i64_w, i32_w]
                     rfl
                    refine one_ (i := 14) (N := some 69) #[true, true, true, true, true, true, true, true, true, true, true, true, true, true, true, false, false, false] rfl rfl (zh HT_.out (by kernel_rfl)) (by decide) (fun K hK => ?_)
                    refine value_ (w1 := ?_) (v := ?_) (by rfl) rfl ?_ ?_
                    rotate_left 2
                    ·go_simp
                     constructor
                     ·rfl
                     ·rfl
                    refine hK.out _ _ ⟨(qg (qe BK149.out _) 0).trans rfl, (qg (qe BK149.out _) 1).trans rfl, (qg (qe BK149.out _) 2).trans rfl⟩ (fun hHeld => ?_)
                    clear hK K
                    refine norm_ (a' := ?_) ?_ ?_
                    rotate_left
                    ·show Act.put _ (some 69) _ = _
                     simp only [Act.put, sA_, sB_, sC_, i64_w, i32_w]
                     rfl
                    refine one_ (i := 15) (N := some 70) #[true, true, true, true, true, true, true, true, true, true, true, true, true, true, true, true, false, false] rfl rfl (zh HT_.out (by kernel_rfl)) (by decide) (fun K hK => ?_)
                    refine Kd.R_append_step k39 (w0 := w) w.heap.size (by rfl) (.tmp 56) (.tmp 69) 22 39 (.agg #[(.int .i64 0), (.int .i64 0), (.bool false)]) 24 rfl Tryd.underlying22 info39 rfl (by decide) (by omega) u150002 x150002_2 (⟨wrap64 ((wrap64 (bt (rdOf ByteArray.empty t152 x47_2) 0)) - 48), wrap64 ((wrap64 (bt (rdOf ByteArray.empty t152 x47_2) 2)) - 48), ((bt (rdOf ByteArray.empty t152 x47_2) 1) == 124)⟩ : S39) [.int .i64 (wrap64 ((wrap64 (bt (rdOf ByteArray.empty t152 x47_2) 0)) - 48)), .int .i64 (wrap64 ((wrap64 (bt (rdOf ByteArray.empty t152 x47_2) 2)) - 48)), .bool ((bt (rdOf ByteArray.empty t152 x47_2) 1) == 124)] (fun _ => True) (fun _ => False) rfl rfl ?aP (fun _ hk => hk.elim) ?aF ?aO ?aB ?aS ?aL ?_
                    (case aP => exact k39_mkM _ _ _ (⟨wrap64 ((wrap64 (bt (rdOf ByteArray.empty t152 x47_2) 0)) - 48), wrap64 ((wrap64 (bt (rdOf ByteArray.empty t152 x47_2) 2)) - 48), ((bt (rdOf ByteArray.empty t152 x47_2) 1) == 124)⟩ : S39))
                    (case aB => exact (be2_ HB GE137 GE149))
                    (case aF => exact (fun _ _ => trivial))
                    (case aO => exact (kr_ HO_150002))
                    (case aS => exact (ql (be2_ HB GE137 GE149)))
                    (case aL => have := LMc41.out; omega)
                    intro v157 w43 ho hb hg hat
                    rw [← Ny156.out] at ho
                    have n0_ := qb.mk (Kd.R_over' (kr_ HO_45) (Kd.R_typed (kr_ HO_150002)) (by decide) hg)
                    have n1_ := qb.mk (blk_grown (g := gb137) (o := .cells #[.int .i64 x138000_2, .int .i64 x138001_2, .slice none 0 0] 24 (0, 0)) (bk_ BK137) hg (Kd.R_ne HO_150002.out BK137.out (by decide)))
                    have n2_ := qb.mk (blk_grown (g := gb149) (o := .cells #[.int .i64 t146, .int .i64 t148, u150002] 24 (0, 0)) (bk_ BK149) hg (Kd.R_ne HO_150002.out BK149.out (by decide)))
                    have n3_ := qb.mk (hb)
                    have n4_ := qb.mk (ho)
                    clear HO_45
                    clear BK137
                    clear BK149
                    clear HB
                    clear HO_150002
                    have HO_45 := n0_
                    have BK137 := n1_
                    have BK149 := n2_
                    have HB := n3_
                    have HO158 := n4_
                    clear n0_ n1_ n2_ n3_ n4_
                    clear ho hb hg hat
                    obtain ⟨Ao44, co44, eo44⟩ := Kd.zj HO158.out
                    (first | subst eo44 | (injection eo44 with f1_ f2_ f3_; have f4_ := f1_.symm; have f5_ := f3_.symm; clear f1_ f2_ f3_; subst f4_; subst f5_))
                    refine hK.out _ _ ⟨(qg BK149.out 0).trans rfl, (qg BK149.out 1).trans rfl, (qg BK149.out 2).trans rfl⟩ (fun hHeld => ?_)
                    clear hK K
                    refine norm_ (a' := ?_) ?_ ?_
                    rotate_left
                    ·show Act.put _ (some 70) _ = _
                     simp only [Act.put, sA_, sB_, sC_, i64_w, i32_w]
                     rfl
                    refine pure_ (i := 16) (N := some 71) (v := ?_) (a' := ?_) #[true, true, true, true, true, true, true, true, true, true, true, true, true, true, true, true, true, false] rfl rfl (qq HT_.out (by kernel_rfl)) (fun _ _ _ h => h) (Or.inl ⟨by rfl, ?_⟩) ?_ ?_
                    rotate_left
                    ·intro w'
                     go_simp
                     with_reducible rfl
                    rotate_left
                    ·simp only [Act.put, sA_, sB_, sC_, i64_w, i32_w]
                     rfl
                    refine last_ (i := 17) (N := none) #[true, true, true, true, true, true, true, true, true, true, true, true, true, true, true, true, true, true] rfl rfl (zh HT_.out (by kernel_rfl)) (by decide) (fun K hK => ?_)
                    have hs45 : w43.cell? ⟨gb149, 2, none⟩ = some (u150002) := (qg BK149.out 2).trans rfl
                    have hfs45 := qj BK149.out 2
                    have hns45_0 := NB137_149.out
                    have hms45_0 := NB149_137.out
                    refine skip_ (w1 := ?_) (by rfl) rfl ?_ ?_
                    rotate_left
                    ·go_simp
                     rfl
                    refine hK.out _ _ ?_
                    clear hK K
                    refine done_ (zq HT_.out (by kernel_rfl)) ?_
                    try go_wp2
                    go_roundg k2
                    case measure => have := HJ2.out; have := HK2.out; omega
                    case rel => exact ⟨(wrap64 (x47_2 + 1)), (x138000_2), (x138001_2), (y156), (.slice Ao44 y156.length co44), es_, H', ⟨by have := HJ2.out; have := HK2.out; omega⟩, ⟨by (with_reducible repeat (first | apply Kd.qo | apply Kd.qp | apply Kd.qu)); exact Kd.zi (Kd.R_far (p := ⟨gb149, 2, none⟩) (Kd.zk HO_45.out BK149.out (by decide)) (fun _ hk => hk.2) (.slice Ao44 y156.length co44)) (fun _ hk => trivial)⟩, ⟨by (with_reducible repeat (first | apply Kd.qo | apply Kd.qp | apply Kd.qu)); exact Kd.zi (Kd.R_far (p := ⟨gb149, 2, none⟩) (Kd.zk HO158.out BK149.out (by decide)) (fun _ hk => hk.2) (.slice Ao44 y156.length co44)) (fun _ hk => trivial)⟩, ⟨by (with_reducible repeat (first | refine qf ?_ _ | refine qi ?_ | refine qe ?_ _)); refine ze ?_ NB137_149.out _; (with_reducible repeat (first | refine qf ?_ _ | refine qi ?_ | refine qe ?_ _)); exact BK137.out⟩, ⟨by (with_reducible repeat (first | refine qf ?_ _ | refine qi ?_ | refine qe ?_ _)); refine qx (cs := #[.int .i64 t146, .int .i64 t148, u150002]) ?_ 2 _ rfl; (with_reducible repeat (first | refine qf ?_ _ | refine qi ?_ | refine qe ?_ _)); exact BK149.out⟩, ⟨be2_ HB GE137 GE149⟩⟩
                   ·rw [if_neg c41] at H
                    exact absurd H (by simp)
                  ·rw [if_neg c39] at H
                   exact absurd H (by simp)
                 ·rw [if_neg c37] at H
                  exact absurd H (by simp)
                ·rw [if_neg c35] at H
                 exact absurd H (by simp)
               ·rw [if_neg c34] at H
                have c34b0 : (((rdOf ByteArray.empty t152 x47_2).size : Int) == 3) = false := beq_eq_false_iff_ne.mpr c34
                have c34b1 : (((rdOf ByteArray.empty t152 x47_2).size : Int) != 3) = true := bne_iff_ne.mpr c34
                simp only [Option.some.injEq, Prod.mk.injEq] at H
                obtain ⟨rfl, rfl, rfl, rfl⟩ := H
                have p155 : 0 ≤ (x47_2 : Int) := od_
                have q155 : x47_2 < (t152.length : Int) := od_
                obtain ⟨ad155, e155, hx155_0⟩ := Kd.zm (Kd.qw HO_45.out).2.2 x47_2 p155 q155
                cases e155
                replace p155 := eq_true p155
                replace q155 := eq_true q155
                have hnb46 := NB137_149.out
                have hnc46 := NB149_137.out
                have hcz47_0 : wr.cell? ⟨gb137, 0, none⟩ = some (.int .i64 x138000_2) := (qg BK137.out 0).trans rfl
                have hcz47_1 : wr.cell? ⟨gb137, 1, none⟩ = some (.int .i64 x138001_2) := (qg BK137.out 1).trans rfl
                have hcz47_2 : wr.cell? ⟨gb137, 2, none⟩ = some (.slice none 0 0) := (qg BK137.out 2).trans rfl
                have hfz47_0 := qj BK137.out 0
                have hfz47_1 := qj BK137.out 1
                have hfz47_2 := qj BK137.out 2
                go_wp2
                refine bodyPost_ret (results_ct rfl _ _ gb137 24 #[.int .i64 0, .int .i64 0, .slice none 0 0] (0, 0) _ rfl (by (with_reducible repeat (first | refine qf ?_ _ | refine qi ?_ | refine qe ?_ _)); refine qx (cs := #[.int .i64 0, .int .i64 0, .slice none 0 0]) ?_ 2 _ rfl; (with_reducible repeat (first | refine qf ?_ _ | refine qi ?_ | refine qe ?_ _)); refine qx (cs := #[.int .i64 0, .int .i64 x138001_2, .slice none 0 0]) ?_ 1 _ rfl; (with_reducible repeat (first | refine qf ?_ _ | refine qi ?_ | refine qe ?_ _)); refine qx (cs := #[.int .i64 x138000_2, .int .i64 x138001_2, .slice none 0 0]) ?_ 0 _ rfl; (with_reducible repeat (first | refine qf ?_ _ | refine qi ?_ | refine qe ?_ _)); exact BK137.out) Tryd.underlying24 rfl (by kernel_rfl)) rfl ?_
                exact ⟨_, er_, by first | exact Kd.R_nil _ _ _ _ _ | exact Kd.N_nil _ _ _ _ _ | exact Kd.V_nil _ _ _ _ _ | exact Kd.Q_nil _ _ _ _ _ | exact Kd.S_nil _ _ _ _ _, be2_ HB GE137 GE149⟩
              ·rw [if_neg c33] at H
               exact absurd H (by simp)
             ·rw [if_neg c32] at H
              exact absurd H (by simp)
            ·rw [if_neg c31] at H
             have c31b0 : decide (x47_2 < (t152.length : Int)) = false := decide_eq_false c31
             clear c31
             replace H := Option.bind_eq_some_iff.mp H
             obtain ⟨t159, A480, H⟩ := H
             replace H : (if t159 = true then ((spec_avText.f k2 t146 t148 x150002_2).bind fun t160 => (some (t146, t148, x150002_2, (t160.toList == a0.toList)))) else (some (t146, t148, x150002_2, false))) = some (r1, r2, r3, r4) := H
             have A48 := qb.mk A480
             clear A480
             by_cases c49 : t159 = true
             ·subst c49
              have H1 : ((spec_avText.f k2 t146 t148 x150002_2).bind fun t160 => (some (t146, t148, x150002_2, (t160.toList == a0.toList)))) = some (r1, r2, r3, r4) := by rw [if_pos rfl] at H; exact H
              clear H
              have H := H1
              clear H1
              replace H := Option.bind_eq_some_iff.mp H
              obtain ⟨t160, A500, H⟩ := H
              replace H : (some (t146, t148, x150002_2, (t160.toList == a0.toList))) = some (r1, r2, r3, r4) := H
              have A50 := qb.mk A500
              clear A500
              simp only [Option.some.injEq, Prod.mk.injEq] at H
              obtain ⟨rfl, rfl, rfl, rfl⟩ := H
              try go_wp2
              have n0_ := qb.mk (Kd.qu HO_45.out)
              have n1_ := qb.mk (Kd.qu HO_150002.out)
              have n2_ := qb.mk (qi BK137.out)
              have n3_ := qb.mk (qi BK149.out)
              have n4_ := qb.mk (qc HB.out)
              clear HO_45
              clear HO_150002
              clear BK137
              clear BK149
              clear HB
              have HO_45 := n0_
              have HO_150002 := n1_
              have BK137 := n2_
              have BK149 := n3_
              have HB := n4_
              clear n0_ n1_ n2_ n3_ n4_
              obtain ⟨Ao52, co52, eo52⟩ := Kd.zj HO_150002.out
              (first | subst eo52 | (injection eo52 with f1_ f2_ f3_; have f4_ := f1_.symm; have f5_ := f3_.symm; clear f1_ f2_ f3_; subst f4_; subst f5_))
              refine zu (n := 11) (S := fun w' => w'.cell? ⟨gb149, 0, none⟩ = some (.int .i64 t146) ∧ w'.cell? ⟨gb149, 1, none⟩ = some (.int .i64 t148) ∧ w'.cell? ⟨gb149, 2, none⟩ = some (.slice Ao52 x150002_2.length co52)) (ds := []) #[false, false, false, false, false, false, false, false, false, false, false] (by kernel_rfl) rfl rfl ⟨(qg BK149.out 0).trans rfl, (qg BK149.out 1).trans rfl, (qg BK149.out 2).trans rfl⟩ (fun hHeld => ?_); refine zl spec_avParse.tab16 spec_avParse.bits16 (fun HT_ HW_ => ?_)
              generalize wr.drew = w51 at HO_45 HO_150002 BK137 BK149 HB hHeld ⊢
              refine take_ (i := 0) (N := some 73) (v := ?_) (a' := ?_) #[true, false, false, false, false, false, false, false, false, false, false] rfl rfl (qz HT_.out HW_.out (by kernel_rfl)) (fun _ _ _ h => h) (Or.inl ⟨by rfl, ?_⟩) hHeld ?_ ?_
              rotate_left
              ·rintro w' ⟨s0, s1, s2⟩
               go_simp
               with_reducible rfl
              rotate_left
              ·simp only [Act.put, sA_, sB_, sC_, i64_w, i32_w]
               rfl
              refine take_ (i := 1) (N := some 74) (v := ?_) (a' := ?_) #[true, true, false, false, false, false, false, false, false, false, false] rfl rfl (qz HT_.out HW_.out (by kernel_rfl)) (fun _ _ _ h => h) (Or.inl ⟨by rfl, ?_⟩) hHeld ?_ ?_
              rotate_left
              ·rintro w' ⟨s0, s1, s2⟩
               go_simp
               with_reducible rfl
              rotate_left
              ·simp only [Act.put, sA_, sB_, sC_, i64_w, i32_w]
               rfl
              refine one_ (i := 2) (N := some 75) #[true, true, true, false, false, false, false, false, false, false, false] rfl rfl (zh HT_.out (by kernel_rfl)) (by decide) (fun K hK => ?_)
              refine goes_ Tryd.func21 (by kernel_rfl) rfl #[.agg #[.int .i64 t146, .int .i64 t148, .slice Ao52 x150002_2.length co52]] (by rfl) rfl rfl al_ ?_
              with_reducible refine (spec_avGood.calls k2 t146 t148 _ _ x150002_2 true _ ?side1 ?side2 A48.out).mono ?_
              (case side1 => repeat (first | exact (Kd.qw HO_150002.out).2.2 | (with_reducible refine Kd.zp ?_ _) | (with_reducible refine Kd.zo ?_ _) | (with_reducible refine Kd.zt ?_)))
              (case side2 => exact (Kd.qw HO_150002.out).2.1)
              rintro e w53 ⟨rfl, hb⟩
              refine ⟨_, rfl, ?_⟩
              have n0_ := qb.mk (Kd.za (kr_ HO_45) hb)
              have n1_ := qb.mk (Kd.za (kr_ HO_150002) hb)
              have n2_ := qb.mk (qn (g := gb137) (o := .cells #[.int .i64 x138000_2, .int .i64 x138001_2, .slice none 0 0] 24 (0, 0)) (bk_ BK137) hb)
              have n3_ := qb.mk (qn (g := gb149) (o := .cells #[.int .i64 t146, .int .i64 t148, .slice Ao52 x150002_2.length co52] 24 (0, 0)) (bk_ BK149) hb)
              have n4_ := qb.mk (qm (be2_ HB GE137 GE149) hb)
              clear HO_45
              clear HO_150002
              clear BK137
              clear BK149
              clear HB
              have HO_45 := n0_
              have HO_150002 := n1_
              have BK137 := n2_
              have BK149 := n3_
              have HB := n4_
              clear n0_ n1_ n2_ n3_ n4_
              (try clear hb)
              (try clear hb2)
              (try clear hk)
              (try clear hi)
              refine hK.out _ _ ⟨(qg BK149.out 0).trans rfl, (qg BK149.out 1).trans rfl, (qg BK149.out 2).trans rfl⟩ (fun hHeld => ?_)
              clear hK K
              refine norm_ (a' := ?_) ?_ ?_
              rotate_left
              ·show Act.put _ (some 75) _ = _
               simp only [Act.put, sA_, sB_, sC_, i64_w, i32_w]
               rfl
              refine pure_ (i := 3) (N := some 76) (v := ?_) (a' := ?_) #[true, true, true, true, false, false, false, false, false, false, false] rfl rfl (qq HT_.out (by kernel_rfl)) (fun _ _ _ h => h) (Or.inl ⟨by rfl, ?_⟩) ?_ ?_
              rotate_left
              ·intro w'
               go_simp
               with_reducible rfl
              rotate_left
              ·simp only [Act.put, sA_, sB_, sC_, i64_w, i32_w]
               rfl
              refine pure_ (i := 6) (N := some 79) (v := ?_) (a' := ?_) #[true, true, true, true, false, false, true, false, false, false, false] rfl rfl (qq HT_.out (by kernel_rfl)) (fun _ _ _ h => h) (Or.inl ⟨by rfl, ?_⟩) ?_ ?_
              rotate_left
              ·intro w'
               go_simp
               with_reducible rfl
              rotate_left
              ·simp only [Act.put, sA_, sB_, sC_, i64_w, i32_w]
               rfl
              refine take_ (i := 4) (N := some 77) (v := ?_) (a' := ?_) #[true, true, true, true, true, false, true, false, false, false, false] rfl rfl (qz HT_.out HW_.out (by kernel_rfl)) (fun _ _ _ h => h) (Or.inl ⟨by rfl, ?_⟩) hHeld ?_ ?_
              rotate_left
              ·rintro w' ⟨s0, s1, s2⟩
               go_simp
               with_reducible rfl
              rotate_left
              ·simp only [Act.put, sA_, sB_, sC_, i64_w, i32_w]
               rfl
              refine one_ (i := 5) (N := some 78) #[true, true, true, true, true, true, true, false, false, false, false] rfl rfl (zh HT_.out (by kernel_rfl)) (by decide) (fun K hK => ?_)
              refine goes_ Tryd.func22 (by kernel_rfl) rfl #[.agg #[.int .i64 t146, .int .i64 t148, .slice Ao52 x150002_2.length co52]] (by rfl) rfl rfl al_ ?_
              with_reducible refine (spec_avText.calls k2 t146 t148 _ _ x150002_2 t160 _ ?side1 ?side2 A50.out).mono ?_
              (case side1 => repeat (first | exact (Kd.qw HO_150002.out).2.2 | (with_reducible refine Kd.zp ?_ _) | (with_reducible refine Kd.zo ?_ _) | (with_reducible refine Kd.zt ?_)))
              (case side2 => exact (Kd.qw HO_150002.out).2.1)
              rintro e w54 ⟨rfl, hb⟩
              refine ⟨_, rfl, ?_⟩
              have n0_ := qb.mk (Kd.za (kr_ HO_45) hb)
              have n1_ := qb.mk (Kd.za (kr_ HO_150002) hb)
              have n2_ := qb.mk (qn (g := gb137) (o := .cells #[.int .i64 x138000_2, .int .i64 x138001_2, .slice none 0 0] 24 (0, 0)) (bk_ BK137) hb)
              have n3_ := qb.mk (qn (g := gb149) (o := .cells #[.int .i64 t146, .int .i64 t148, .slice Ao52 x150002_2.length co52] 24 (0, 0)) (bk_ BK149) hb)
              have n4_ := qb.mk (qm (be2_ HB GE137 GE149) hb)
              clear HO_45
              clear HO_150002
              clear BK137
              clear BK149
              clear HB
              have HO_45 := n0_
              have HO_150002 := n1_
              have BK137 := n2_
              have BK149 := n3_
              have HB := n4_
              clear n0_ n1_ n2_ n3_ n4_
              (try clear hb)
              (try clear hb2)
              (try clear hk)
              (try clear hi)
              refine hK.out _ _ ⟨(qg BK149.out 0).trans rfl, (qg BK149.out 1).trans rfl, (qg BK149.out 2).trans rfl⟩ (fun hHeld => ?_)
              clear hK K
              refine norm_ (a' := ?_) ?_ ?_
              rotate_left
              ·show Act.put _ (some 78) _ = _
               simp only [Act.put, sA_, sB_, sC_, i64_w, i32_w]
               rfl
              refine pure_ (i := 7) (N := some 80) (v := ?_) (a' := ?_) #[true, true, true, true, true, true, true, true, false, false, false] rfl rfl (qq HT_.out (by kernel_rfl)) (fun _ _ _ h => h) (Or.inl ⟨by rfl, ?_⟩) ?_ ?_
              rotate_left
              ·intro w'
               go_simp
               with_reducible rfl
              rotate_left
              ·simp only [Act.put, sA_, sB_, sC_, i64_w, i32_w]
               rfl
              refine pure_ (i := 8) (N := some 81) (v := ?_) (a' := ?_) #[true, true, true, true, true, true, true, true, true, false, false] rfl rfl (qq HT_.out (by kernel_rfl)) (fun _ _ _ h => h) (Or.inl ⟨by rfl, ?_⟩) ?_ ?_
              rotate_left
              ·intro w'
               go_simp
               with_reducible rfl
              rotate_left
              ·simp only [Act.put, sA_, sB_, sC_, i64_w, i32_w]
               rfl
              refine one_ (i := 9) (N := none) #[true, true, true, true, true, true, true, true, true, true, false] rfl rfl (zh HT_.out (by kernel_rfl)) (by decide) (fun K hK => ?_)
              have hs55 : w54.cell? ⟨gb137, 0, none⟩ = some (.int .i64 x138000_2) := (qg BK137.out 0).trans rfl
              have hfs55 := qj BK137.out 0
              have hns55_1 := NB149_137.out
              have hms55_1 := NB137_149.out
              have hs56 : w54.cell? ⟨gb137, 1, none⟩ = some (.int .i64 x138001_2) := (qg BK137.out 1).trans rfl
              have hfs56 := qj BK137.out 1
              have hns56_1 := NB149_137.out
              have hms56_1 := NB137_149.out
              have hs57 : w54.cell? ⟨gb137, 2, none⟩ = some (.slice none 0 0) := (qg BK137.out 2).trans rfl
              have hfs57 := qj BK137.out 2
              have hns57_1 := NB149_137.out
              have hms57_1 := NB137_149.out
              refine skip_ (w1 := ?_) (by rfl) rfl ?_ ?_
              rotate_left
              ·go_simp
               rfl
              refine hK.out _ _ ⟨((cell_far (p := ⟨gb137, _, none⟩) NB149_137.out _).trans (((cell_far (p := ⟨gb137, _, none⟩) NB149_137.out _).trans (((cell_far (p := ⟨gb137, _, none⟩) NB149_137.out _).trans (hHeld.1)))))), ((cell_far (p := ⟨gb137, _, none⟩) NB149_137.out _).trans (((cell_far (p := ⟨gb137, _, none⟩) NB149_137.out _).trans (((cell_far (p := ⟨gb137, _, none⟩) NB149_137.out _).trans (hHeld.2.1)))))), ((cell_far (p := ⟨gb137, _, none⟩) NB149_137.out _).trans (((cell_far (p := ⟨gb137, _, none⟩) NB149_137.out _).trans (((cell_far (p := ⟨gb137, _, none⟩) NB149_137.out _).trans (hHeld.2.2))))))⟩ (fun hHeld => ?_)
              clear hK K
              refine pure_ (i := 10) (N := some 3) (v := ?_) (a' := ?_) #[true, true, true, true, true, true, true, true, true, true, true] rfl rfl (qq HT_.out (by kernel_rfl)) (fun _ _ _ h => h) (Or.inl ⟨by rfl, ?_⟩) ?_ ?_
              rotate_left
              ·intro w'
               go_simp
               with_reducible rfl
              rotate_left
              ·simp only [Act.put, sA_, sB_, sC_, i64_w, i32_w]
               rfl
              refine done_ (zq HT_.out (by kernel_rfl)) ?_
              try go_wp2
              refine bodyPost_ret (results_ct rfl _ _ gb137 24 #[.int .i64 t146, .int .i64 t148, .slice Ao52 x150002_2.length co52] (0, 0) _ rfl (by (with_reducible repeat (first | refine qf ?_ _ | refine qi ?_ | refine qe ?_ _)); refine qx (cs := #[.int .i64 t146, .int .i64 t148, .slice none 0 0]) ?_ 2 _ rfl; (with_reducible repeat (first | refine qf ?_ _ | refine qi ?_ | refine qe ?_ _)); refine qx (cs := #[.int .i64 t146, .int .i64 x138001_2, .slice none 0 0]) ?_ 1 _ rfl; (with_reducible repeat (first | refine qf ?_ _ | refine qi ?_ | refine qe ?_ _)); refine qx (cs := #[.int .i64 x138000_2, .int .i64 x138001_2, .slice none 0 0]) ?_ 0 _ rfl; (with_reducible repeat (first | refine qf ?_ _ | refine qi ?_ | refine qe ?_ _)); exact BK137.out) Tryd.underlying24 rfl (by kernel_rfl)) rfl ?_
              exact ⟨_, er_, by (with_reducible repeat (first | apply Kd.qo | apply Kd.qp | apply Kd.qu)); exact Kd.zi (Kd.R_far (p := ⟨gb137, 2, none⟩) (Kd.R_far (p := ⟨gb137, 1, none⟩) (Kd.R_far (p := ⟨gb137, 0, none⟩) (Kd.zk HO_150002.out BK137.out (by decide)) (fun _ hk => hk.2) (.int .i64 t146)) (fun _ hk => hk.2) (.int .i64 t148)) (fun _ hk => hk.2) (.slice Ao52 x150002_2.length co52)) (fun _ hk => trivial), be2_ HB GE137 GE149⟩
             ·replace c49 := Bool.eq_false_iff.mpr c49
              subst c49
              have H1 : (some (t146, t148, x150002_2, false)) = some (r1, r2, r3, r4) := by rw [if_neg (show ¬ (false = true) by decide)] at H; exact H
              clear H
              have H := H1
              clear H1
              simp only [Option.some.injEq, Prod.mk.injEq] at H
              obtain ⟨rfl, rfl, rfl, rfl⟩ := H
              try go_wp2
              have n0_ := qb.mk (Kd.qu HO_45.out)
              have n1_ := qb.mk (Kd.qu HO_150002.out)
              have n2_ := qb.mk (qi BK137.out)
              have n3_ := qb.mk (qi BK149.out)
              have n4_ := qb.mk (qc HB.out)
              clear HO_45
              clear HO_150002
              clear BK137
              clear BK149
              clear HB
              have HO_45 := n0_
              have HO_150002 := n1_
              have BK137 := n2_
              have BK149 := n3_
              have HB := n4_
              clear n0_ n1_ n2_ n3_ n4_
              obtain ⟨Ao59, co59, eo59⟩ := Kd.zj HO_150002.out
              (first | subst eo59 | (injection eo59 with f1_ f2_ f3_; have f4_ := f1_.symm; have f5_ := f3_.symm; clear f1_ f2_ f3_; subst f4_; subst f5_))
              refine zu (n := 11) (S := fun w' => w'.cell? ⟨gb149, 0, none⟩ = some (.int .i64 t146) ∧ w'.cell? ⟨gb149, 1, none⟩ = some (.int .i64 t148) ∧ w'.cell? ⟨gb149, 2, none⟩ = some (.slice Ao59 x150002_2.length co59)) (ds := []) #[false, false, false, false, false, false, false, false, false, false, false] (by kernel_rfl) rfl rfl ⟨(qg BK149.out 0).trans rfl, (qg BK149.out 1).trans rfl, (qg BK149.out 2).trans rfl⟩ (fun hHeld => ?_); refine zl spec_avParse.tab16 spec_avParse.bits16 (fun HT_ HW_ => ?_)
              generalize wr.drew = w58 at HO_45 HO_150002 BK137 BK149 HB hHeld ⊢
              refine take_ (i := 0) (N := some 73) (v := ?_) (a' := ?_) #[true, false, false, false, false, false, false, false, false, false, false] rfl rfl (qz HT_.out HW_.out (by kernel_rfl)) (fun _ _ _ h => h) (Or.inl ⟨by rfl, ?_⟩) hHeld ?_ ?_
              rotate_left
              ·rintro w' ⟨s0, s1, s2⟩
               go_simp
               with_reducible rfl
              rotate_left
              ·simp only [Act.put, sA_, sB_, sC_, i64_w, i32_w]
               rfl
              refine take_ (i := 1) (N := some 74) (v := ?_) (a' := ?_) #[true, true, false, false, false, false, false, false, false, false, false] rfl rfl (qz HT_.out HW_.out (by kernel_rfl)) (fun _ _ _ h => h) (Or.inl ⟨by rfl, ?_⟩) hHeld ?_ ?_
              rotate_left
              ·rintro w' ⟨s0, s1, s2⟩
               go_simp
               with_reducible rfl
              rotate_left
              ·simp only [Act.put, sA_, sB_, sC_, i64_w, i32_w]
               rfl
              refine one_ (i := 2) (N := some 75) #[true, true, true, false, false, false, false, false, false, false, false] rfl rfl (zh HT_.out (by kernel_rfl)) (by decide) (fun K hK => ?_)
              refine goes_ Tryd.func21 (by kernel_rfl) rfl #[.agg #[.int .i64 t146, .int .i64 t148, .slice Ao59 x150002_2.length co59]] (by rfl) rfl rfl al_ ?_
              with_reducible refine (spec_avGood.calls k2 t146 t148 _ _ x150002_2 false _ ?side1 ?side2 A48.out).mono ?_
              (case side1 => repeat (first | exact (Kd.qw HO_150002.out).2.2 | (with_reducible refine Kd.zp ?_ _) | (with_reducible refine Kd.zo ?_ _) | (with_reducible refine Kd.zt ?_)))
              (case side2 => exact (Kd.qw HO_150002.out).2.1)
              rintro e w60 ⟨rfl, hb⟩
              refine ⟨_, rfl, ?_⟩
              have n0_ := qb.mk (Kd.za (kr_ HO_45) hb)
              have n1_ := qb.mk (Kd.za (kr_ HO_150002) hb)
              have n2_ := qb.mk (qn (g := gb137) (o := .cells #[.int .i64 x138000_2, .int .i64 x138001_2, .slice none 0 0] 24 (0, 0)) (bk_ BK137) hb)
              have n3_ := qb.mk (qn (g := gb149) (o := .cells #[.int .i64 t146, .int .i64 t148, .slice Ao59 x150002_2.length co59] 24 (0, 0)) (bk_ BK149) hb)
              have n4_ := qb.mk (qm (be2_ HB GE137 GE149) hb)
              clear HO_45
              clear HO_150002
              clear BK137
              clear BK149
              clear HB
              have HO_45 := n0_
              have HO_150002 := n1_
              have BK137 := n2_
              have BK149 := n3_
              have HB := n4_
              clear n0_ n1_ n2_ n3_ n4_
              (try clear hb)
              (try clear hb2)
              (try clear hk)
              (try clear hi)
              refine hK.out _ _ ⟨(qg BK149.out 0).trans rfl, (qg BK149.out 1).trans rfl, (qg BK149.out 2).trans rfl⟩ (fun hHeld => ?_)
              clear hK K
              refine norm_ (a' := ?_) ?_ ?_
              rotate_left
              ·show Act.put _ (some 75) _ = _
               simp only [Act.put, sA_, sB_, sC_, i64_w, i32_w]
               rfl
              refine pure_ (i := 3) (N := some 76) (v := ?_) (a' := ?_) #[true, true, true, true, false, false, false, false, false, false, false] rfl rfl (qq HT_.out (by kernel_rfl)) (fun _ _ _ h => h) (Or.inl ⟨by rfl, ?_⟩) ?_ ?_
              rotate_left
              ·intro w'
               go_simp
               with_reducible rfl
              rotate_left
              ·simp only [Act.put, sA_, sB_, sC_, i64_w, i32_w]
               rfl
              refine pure_ (i := 4) (N := some 77) (v := undef) (a' := ?_) #[true, true, true, true, true, false, false, false, false, false, false] rfl rfl (qq HT_.out (by kernel_rfl)) (fun _ _ _ h => h) (Or.inr ⟨by rfl, rfl⟩) ?_ ?_
              rotate_left
              ·simp only [Act.put, sA_, sB_, sC_, i64_w, i32_w]
               rfl
              refine pure_ (i := 5) (N := some 78) (v := undef) (a' := ?_) #[true, true, true, true, true, true, false, false, false, false, false] rfl rfl (qq HT_.out (by kernel_rfl)) (fun _ _ _ h => h) (Or.inr ⟨by rfl, rfl⟩) ?_ ?_
              rotate_left
              ·simp only [Act.put, sA_, sB_, sC_, i64_w, i32_w]
               rfl
              refine pure_ (i := 6) (N := some 79) (v := undef) (a' := ?_) #[true, true, true, true, true, true, true, false, false, false, false] rfl rfl (qq HT_.out (by kernel_rfl)) (fun _ _ _ h => h) (Or.inr ⟨by rfl, rfl⟩) ?_ ?_
              rotate_left
              ·simp only [Act.put, sA_, sB_, sC_, i64_w, i32_w]
               rfl
              refine pure_ (i := 7) (N := some 80) (v := undef) (a' := ?_) #[true, true, true, true, true, true, true, true, false, false, false] rfl rfl (qq HT_.out (by kernel_rfl)) (fun _ _ _ h => h) (Or.inr ⟨by rfl, rfl⟩) ?_ ?_
              rotate_left
              ·simp only [Act.put, sA_, sB_, sC_, i64_w, i32_w]
               rfl
              refine pure_ (i := 8) (N := some 81) (v := ?_) (a' := ?_) #[true, true, true, true, true, true, true, true, true, false, false] rfl rfl (qq HT_.out (by kernel_rfl)) (fun _ _ _ h => h) (Or.inl ⟨by rfl, ?_⟩) ?_ ?_
              rotate_left
              ·intro w'
               go_simp
               with_reducible rfl
              rotate_left
              ·simp only [Act.put, sA_, sB_, sC_, i64_w, i32_w]
               rfl
              refine one_ (i := 9) (N := none) #[true, true, true, true, true, true, true, true, true, true, false] rfl rfl (zh HT_.out (by kernel_rfl)) (by decide) (fun K hK => ?_)
              have hs61 : w60.cell? ⟨gb137, 0, none⟩ = some (.int .i64 x138000_2) := (qg BK137.out 0).trans rfl
              have hfs61 := qj BK137.out 0
              have hns61_1 := NB149_137.out
              have hms61_1 := NB137_149.out
              have hs62 : w60.cell? ⟨gb137, 1, none⟩ = some (.int .i64 x138001_2) := (qg BK137.out 1).trans rfl
              have hfs62 := qj BK137.out 1
              have hns62_1 := NB149_137.out
              have hms62_1 := NB137_149.out
              have hs63 : w60.cell? ⟨gb137, 2, none⟩ = some (.slice none 0 0) := (qg BK137.out 2).trans rfl
              have hfs63 := qj BK137.out 2
              have hns63_1 := NB149_137.out
              have hms63_1 := NB137_149.out
              refine skip_ (w1 := ?_) (by rfl) rfl ?_ ?_
              rotate_left
              ·go_simp
               rfl
              refine hK.out _ _ ⟨((cell_far (p := ⟨gb137, _, none⟩) NB149_137.out _).trans (((cell_far (p := ⟨gb137, _, none⟩) NB149_137.out _).trans (((cell_far (p := ⟨gb137, _, none⟩) NB149_137.out _).trans (hHeld.1)))))), ((cell_far (p := ⟨gb137, _, none⟩) NB149_137.out _).trans (((cell_far (p := ⟨gb137, _, none⟩) NB149_137.out _).trans (((cell_far (p := ⟨gb137, _, none⟩) NB149_137.out _).trans (hHeld.2.1)))))), ((cell_far (p := ⟨gb137, _, none⟩) NB149_137.out _).trans (((cell_far (p := ⟨gb137, _, none⟩) NB149_137.out _).trans (((cell_far (p := ⟨gb137, _, none⟩) NB149_137.out _).trans (hHeld.2.2))))))⟩ (fun hHeld => ?_)
              clear hK K
              refine pure_ (i := 10) (N := some 3) (v := ?_) (a' := ?_) #[true, true, true, true, true, true, true, true, true, true, true] rfl rfl (qq HT_.out (by kernel_rfl)) (fun _ _ _ h => h) (Or.inl ⟨by rfl, ?_⟩) ?_ ?_
              rotate_left
              ·intro w'
               go_simp
               with_reducible rfl
              rotate_left
              ·simp only [Act.put, sA_, sB_, sC_, i64_w, i32_w]
               rfl
              refine done_ (zq HT_.out (by kernel_rfl)) ?_
              try go_wp2
              refine bodyPost_ret (results_ct rfl _ _ gb137 24 #[.int .i64 t146, .int .i64 t148, .slice Ao59 x150002_2.length co59] (0, 0) _ rfl (by (with_reducible repeat (first | refine qf ?_ _ | refine qi ?_ | refine qe ?_ _)); refine qx (cs := #[.int .i64 t146, .int .i64 t148, .slice none 0 0]) ?_ 2 _ rfl; (with_reducible repeat (first | refine qf ?_ _ | refine qi ?_ | refine qe ?_ _)); refine qx (cs := #[.int .i64 t146, .int .i64 x138001_2, .slice none 0 0]) ?_ 1 _ rfl; (with_reducible repeat (first | refine qf ?_ _ | refine qi ?_ | refine qe ?_ _)); refine qx (cs := #[.int .i64 x138000_2, .int .i64 x138001_2, .slice none 0 0]) ?_ 0 _ rfl; (with_reducible repeat (first | refine qf ?_ _ | refine qi ?_ | refine qe ?_ _)); exact BK137.out) Tryd.underlying24 rfl (by kernel_rfl)) rfl ?_
              exact ⟨_, er_, by (with_reducible repeat (first | apply Kd.qo | apply Kd.qp | apply Kd.qu)); exact Kd.zi (Kd.R_far (p := ⟨gb137, 2, none⟩) (Kd.R_far (p := ⟨gb137, 1, none⟩) (Kd.R_far (p := ⟨gb137, 0, none⟩) (Kd.zk HO_150002.out BK137.out (by decide)) (fun _ hk => hk.2) (.int .i64 t146)) (fun _ hk => hk.2) (.int .i64 t148)) (fun _ hk => hk.2) (.slice Ao59 x150002_2.length co59)) (fun _ hk => trivial), be2_ HB GE137 GE149⟩
         ·rw [if_neg c18] at H
          have c18b0 : decide (0 < ((rdOf ByteArray.empty t138 1).size : Int)) = false := decide_eq_false c18
          have c18b1 : decide (0 < (rdOf ByteArray.empty t138 1).size) = false := decide_eq_false (by omega)
          clear c18
          replace H := Option.bind_eq_some_iff.mp H
          obtain ⟨t161, A640, H⟩ := H
          replace H : (if t161 = true then ((spec_avText.f kj2 t146 t148 ([] : List (S39))).bind fun t162 => (some (t146, t148, ([] : List (S39)), (t162.toList == a0.toList)))) else (some (t146, t148, ([] : List (S39)), false))) = some (r1, r2, r3, r4) := H
          have A64 := qb.mk A640
          clear A640
          by_cases c65 : t161 = true
          ·subst c65
           have H1 : ((spec_avText.f kj2 t146 t148 ([] : List (S39))).bind fun t162 => (some (t146, t148, ([] : List (S39)), (t162.toList == a0.toList)))) = some (r1, r2, r3, r4) := by rw [if_pos rfl] at H; exact H
           clear H
           have H := H1
           clear H1
           replace H := Option.bind_eq_some_iff.mp H
           obtain ⟨t162, A660, H⟩ := H
           replace H : (some (t146, t148, ([] : List (S39)), (t162.toList == a0.toList))) = some (r1, r2, r3, r4) := H
           have A66 := qb.mk A660
           clear A660
           simp only [Option.some.injEq, Prod.mk.injEq] at H
           obtain ⟨rfl, rfl, rfl, rfl⟩ := H
           obtain ⟨Ao67, co67, eo67⟩ := Kd.zj HO_4.out
           subst eo67
           have p141 : 0 ≤ (0 : Int) := (by omega)
           have q141 : 0 < (t138.length : Int) := od_
           obtain ⟨ad141, e141, hx141_0⟩ := Kd.zm (Kd.qw HO_4.out).2.2 0 p141 q141
           cases e141
           have qi141 : (0 < t138.length) = True := eq_true (by omega)
           (try rw [show ((0 : Int)).toNat = 0 from rfl] at hx141_0)
           (try rw [Addr.add_zero'] at hx141_0)
           replace p141 := eq_true p141
           replace q141 := eq_true q141
           try go_wp2_with (first | ((with_reducible refine qv (f := 19) rfl ?_); refine zf (some 23) rfl rfl Tryd.func19 (by kernel_rfl) rfl #[.string (rdOf ByteArray.empty t138 0), .int .u8 120] rfl al_ ?_; (with_reducible refine (spec_l1Split.calls kj2 (rdOf ByteArray.empty t138 0) 120 t142 _ A11.out).mono ?_); rintro e w68 ⟨v143, rfl, ho0, hb⟩; refine ⟨_, rfl, ?_⟩; have n0_ := qb.mk (Kd.R_elder' (kr_ HO_4) (Kd.R_base ho0) hb); have n1_ := qb.mk (Kd.zr (Kd.R_new' ho0 (Kd.R_lt (kr_ HO_4))) (ql (be1_ HB GE137))); have n2_ := qb.mk (qn (g := gb137) (o := .cells #[.int .i64 0, .int .i64 0, .slice none 0 0] 24 (0, 0)) (bk_ BK137) hb); have n3_ := qb.mk (qm (be1_ HB GE137) hb); clear HO_4; clear BK137; clear HB; have HO_4 := n0_; have HO144 := n1_; have BK137 := n2_; have HB := n3_; clear n0_ n1_ n2_ n3_; (try clear hb); (try clear hb2); (try clear hk); (try clear hi); (try clear ho0); obtain ⟨Ao69, co69, eo69⟩ := Kd.zj HO144.out; subst eo69))
           have n0_ := qb.mk (Kd.qu HO_4.out)
           have n1_ := qb.mk (Kd.qu HO144.out)
           have n2_ := qb.mk (qi BK137.out)
           have n3_ := qb.mk (qc HB.out)
           clear HO_4
           clear HO144
           clear BK137
           clear HB
           have HO_4 := n0_
           have HO144 := n1_
           have BK137 := n2_
           have HB := n3_
           clear n0_ n1_ n2_ n3_
           have p145 : 0 ≤ (0 : Int) := (by omega)
           have q145 : 0 < (t142.length : Int) := od_
           obtain ⟨ad145, e145, hx145_0⟩ := Kd.zm (Kd.qw HO144.out).2.2 0 p145 q145
           cases e145
           have qi145 : (0 < t142.length) = True := eq_true (by omega)
           (try rw [show ((0 : Int)).toNat = 0 from rfl] at hx145_0)
           (try rw [Addr.add_zero'] at hx145_0)
           replace p145 := eq_true p145
           replace q145 := eq_true q145
           have p147 : 0 ≤ (1 : Int) := (by omega)
           have q147 : 1 < (t142.length : Int) := od_
           obtain ⟨ad147, e147, hx147_0⟩ := Kd.zm (Kd.qw HO144.out).2.2 1 p147 q147
           obtain rfl : ad145 = ad147 := (by injection e147)
           (try simp only [show (1 : Int).toNat = 1 from rfl, Nat.reduceMul, Nat.reduceEqDiff, Go.Addr.add, ↓reduceIte] at hx147_0)
           have qi147 : (1 < t142.length) = True := eq_true (by omega)
           (try rw [show ((1 : Int)).toNat = 1 from rfl] at hx147_0)
           replace p147 := eq_true p147
           replace q147 := eq_true q147
           refine zu (n := 11) (S := fun w' => w'.cell? ad145 = some (.string (rdOf ByteArray.empty t142 0)) ∧ w'.cell? ⟨ad145.block, ad145.off + 1, none⟩ = some (.string (rdOf ByteArray.empty t142 1))) (ds := []) #[false, false, false, false, false, false, false, false, false, false, false] (by kernel_rfl) rfl rfl ⟨hx145_0, hx147_0⟩ (fun hHeld => ?_); refine zl spec_avParse.tab7 spec_avParse.bits7 (fun HT_ HW_ => ?_)
           generalize w68.drew = w70 at HO_4 HO144 BK137 HB hx145_0 hx147_0 hHeld ⊢
           refine pure_ (i := 0) (N := some 28) (v := ?_) (a' := ?_) #[true, false, false, false, false, false, false, false, false, false, false] rfl rfl (qq HT_.out (by kernel_rfl)) (fun _ _ _ h => h) (Or.inl ⟨by rfl, ?_⟩) ?_ ?_
           rotate_left
           ·intro w'
            go_simp
            with_reducible rfl
           rotate_left
           ·simp only [Act.put, sA_, sB_, sC_, i64_w, i32_w]
            rfl
           refine pure_ (i := 1) (N := some 29) (v := ?_) (a' := ?_) #[true, true, false, false, false, false, false, false, false, false, false] rfl rfl (qq HT_.out (by kernel_rfl)) (fun _ _ _ h => h) (Or.inl ⟨by rfl, ?_⟩) ?_ ?_
           rotate_left
           ·intro w'
            go_simp
            with_reducible rfl
           rotate_left
           ·simp only [Act.put, sA_, sB_, sC_, i64_w, i32_w]
            rfl
           refine pure_ (i := 4) (N := some 32) (v := ?_) (a' := ?_) #[true, true, false, false, true, false, false, false, false, false, false] rfl rfl (qq HT_.out (by kernel_rfl)) (fun _ _ _ h => h) (Or.inl ⟨by rfl, ?_⟩) ?_ ?_
           rotate_left
           ·intro w'
            go_simp
            with_reducible rfl
           rotate_left
           ·simp only [Act.put, sA_, sB_, sC_, i64_w, i32_w]
            rfl
           refine pure_ (i := 5) (N := some 33) (v := ?_) (a' := ?_) #[true, true, false, false, true, true, false, false, false, false, false] rfl rfl (qq HT_.out (by kernel_rfl)) (fun _ _ _ h => h) (Or.inl ⟨by rfl, ?_⟩) ?_ ?_
           rotate_left
           ·intro w'
            go_simp
            with_reducible rfl
           rotate_left
           ·simp only [Act.put, sA_, sB_, sC_, i64_w, i32_w]
            rfl
           refine take_ (i := 2) (N := some 30) (v := ?_) (a' := ?_) #[true, true, true, false, true, true, false, false, false, false, false] rfl rfl (qz HT_.out HW_.out (by kernel_rfl)) (fun _ _ _ h => h) (Or.inl ⟨by rfl, ?_⟩) hHeld ?_ ?_
           rotate_left
           ·rintro w' ⟨s0, s1⟩
            go_simp
            with_reducible rfl
           rotate_left
           ·simp only [Act.put, sA_, sB_, sC_, i64_w, i32_w]
            rfl
           refine take_ (i := 6) (N := some 34) (v := ?_) (a' := ?_) #[true, true, true, false, true, true, true, false, false, false, false] rfl rfl (qz HT_.out HW_.out (by kernel_rfl)) (fun _ _ _ h => h) (Or.inl ⟨by rfl, ?_⟩) hHeld ?_ ?_
           rotate_left
           ·rintro w' ⟨s0, s1⟩
            go_simp
            with_reducible rfl
           rotate_left
           ·simp only [Act.put, sA_, sB_, sC_, i64_w, i32_w]
            rfl
           refine join_ (σ := Nat) 1 #[true, true, true, true, true, true, true, true, true, true, false] (fun s_ => [(31, .int .i64 t146), (35, .int .i64 t148), (6, .pointer (some ⟨s_, 0, none⟩)), (36, .agg #[.int .i64 t146, .int .i64 t148, .slice none 0 0])]) (fun s_ w' => (w'.cell? ad145 = some (.string (rdOf ByteArray.empty t142 0)) ∧ w'.cell? ⟨ad145.block, ad145.off + 1, none⟩ = some (.string (rdOf ByteArray.empty t142 1))) ∧ (Kd.R Kd.string 9 w' w.heap.size (fun k_ => some k_ ≠ (.slice (some ad141) t138.length co67 : Value).ownBlock) (.slice (some ad145) t142.length co69) t142) ∧ (Kd.R Kd.string 9 w' w.heap.size (fun k_ => some k_ ≠ (.slice (some ad145) t142.length co69 : Value).ownBlock) (.slice (some ad141) t138.length co67) t138) ∧ (w'.heap[gb137]? = some (.cells #[.int .i64 0, .int .i64 0, .slice none 0 0] 24 (0, 0))) ∧ (w'.heap[s_]? = some (.cells #[.int .i64 0, .int .i64 0, .slice none 0 0] 24 (0, 0))) ∧ (w.heap.size ≤ s_) ∧ (w.heap.size ≤ s_) ∧ (gb137 ≠ s_) ∧ (s_ ≠ gb137) ∧ (Below w.heap.size w w')) ?_ ?_
           rotate_left
           ·intro hCont
            refine two_ (i := 3) (j := 9) (Ni := some 31) (Nj := some 6) #[true, true, true, true, true, true, true, false, false, false, false] #[true, true, true, false, true, true, true, false, false, true, false] rfl rfl rfl rfl (two_of HT_.out (by kernel_rfl)) (by decide) (by decide) (fun K hK => ?_) (fun K hK => ?_)
            ·skip
             refine goes_ Tryd.func20 (by kernel_rfl) rfl #[.string (rdOf ByteArray.empty t142 0)] (by rfl) rfl rfl al_ ?_
             with_reducible refine (spec_l1Read.calls kj2 (rdOf ByteArray.empty t142 0) t146 _ A14.out).mono ?_
             rintro e w' ⟨rfl, ⟨nd, rfl⟩⟩
             refine ⟨_, rfl, ?_⟩
             refine hK.out _ _ ⟨hHeld.1, hHeld.2⟩ (fun hHeld => ?_)
             clear hK K
             refine norm_ (a' := ?_) ?_ ?_
             rotate_left
             ·show Act.put _ (some 31) _ = _
              simp only [Act.put, sA_, sB_, sC_, i64_w, i32_w]
              rfl
             refine two_ (i := 7) (j := 9) (Ni := some 35) (Nj := some 6) #[true, true, true, true, true, true, true, true, false, false, false] #[true, true, true, true, true, true, true, false, false, true, false] rfl rfl rfl rfl (two_of HT_.out (by kernel_rfl)) (by decide) (by decide) (fun K hK => ?_) (fun K hK => ?_)
             ·skip
              refine goes_ Tryd.func20 (by kernel_rfl) rfl #[.string (rdOf ByteArray.empty t142 1)] (by rfl) rfl rfl al_ ?_
              with_reducible refine (spec_l1Read.calls kj2 (rdOf ByteArray.empty t142 1) t148 _ A16.out).mono ?_
              rintro e w' ⟨rfl, ⟨nd, rfl⟩⟩
              refine ⟨_, rfl, ?_⟩
              refine hK.out _ _ ⟨hHeld.1, hHeld.2⟩ (fun hHeld => ?_)
              clear hK K
              refine norm_ (a' := ?_) ?_ ?_
              rotate_left
              ·show Act.put _ (some 35) _ = _
               simp only [Act.put, sA_, sB_, sC_, i64_w, i32_w]
               rfl
              refine pure_ (i := 8) (N := some 36) (v := ?_) (a' := ?_) #[true, true, true, true, true, true, true, true, true, false, false] rfl rfl (qq HT_.out (by kernel_rfl)) (fun _ _ _ h => h) (Or.inl ⟨by rfl, ?_⟩) ?_ ?_
              rotate_left
              ·intro w'
               go_simp
               with_reducible rfl
              rotate_left
              ·simp only [Act.put, sA_, sB_, sC_, i64_w, i32_w]
               rfl
              refine one_ (i := 9) (N := some 6) #[true, true, true, true, true, true, true, true, true, true, false] rfl rfl (zh HT_.out (by kernel_rfl)) (by decide) (fun K hK => ?_)
              refine box_step ?hg (N := 6) ?hd (cs := #[.int .i64 0, .int .i64 0, .slice none 0 0]) (t := 24) ?hr ?_; (case hd => rfl); (case hg => rfl); (case hr => first | (go_simp; done) | (go_simp; rfl))
              intro gb149 hg w71 hbox hb
              have HS0_ := (hb.cell (World.block_lt_of_cell? _ _ (hHeld.1))).trans (hHeld.1)
              have HS1_ := (hb.cell (World.block_lt_of_cell? _ _ (hHeld.2))).trans (hHeld.2)
              have n0_ := qb.mk (Kd.za (kr_ HO_4) hb)
              have n1_ := qb.mk (Kd.za (kr_ HO144) hb)
              have n2_ := qb.mk (qn (g := gb137) (o := .cells #[.int .i64 0, .int .i64 0, .slice none 0 0] 24 (0, 0)) (bk_ BK137) hb)
              have n3_ := qb.mk (qm (be1_ HB GE137) hb)
              have n4_ := qb.mk (hbox)
              have n5_ := qb.mk ((by rw [hg]; exact (ql (be1_ HB GE137)) : w.heap.size ≤ gb149))
              have n6_ := qb.mk ((by rw [hg]; exact (ql (be1_ HB GE137)) : w.heap.size ≤ gb149))
              have n7_ := qb.mk ((by rw [hg]; exact Nat.ne_of_lt (zd (g := gb137) (o := .cells #[.int .i64 0, .int .i64 0, .slice none 0 0] 24 (0, 0)) (bk_ BK137)) : gb137 ≠ gb149))
              have n8_ := qb.mk ((by rw [hg]; exact Nat.ne_of_gt (zd (g := gb137) (o := .cells #[.int .i64 0, .int .i64 0, .slice none 0 0] 24 (0, 0)) (bk_ BK137)) : gb149 ≠ gb137))
              clear HO_4
              clear HO144
              clear BK137
              clear HB
              have HO_4 := n0_
              have HO144 := n1_
              have BK137 := n2_
              have HB := n3_
              have BK149 := n4_
              have GW149 := n5_
              have GE149 := n6_
              have NB137_149 := n7_
              have NB149_137 := n8_
              clear n0_ n1_ n2_ n3_ n4_ n5_ n6_ n7_ n8_
              clear hb hbox hg
              refine hK.out _ _ ⟨HS0_, HS1_⟩ (fun hHeld => ?_)
              clear hK K
              refine norm_ (a' := ?_) ?_ ?_
              rotate_left
              ·show Act.put _ (some 6) _ = _
               simp only [Act.put, sA_, sB_, sC_, i64_w, i32_w]
               rfl
              exact norm_ (by simp only [putAll, Act.put, sA_, sB_, sC_]) (hCont (gb149) _ ⟨hHeld, (by (with_reducible repeat (first | apply Kd.qo | apply Kd.qp | apply Kd.qu)); exact Kd.zi HO144.out (fun _ hk => hk.2)), (by (with_reducible repeat (first | apply Kd.qo | apply Kd.qp | apply Kd.qu)); exact Kd.zi HO_4.out (fun _ hk => hk.2)), (bk_ BK137), (bk_ BK149), GW149.out, GE149.out, NB137_149.out, NB149_137.out, (be2_ HB GE137 GE149)⟩)
             ·skip
              refine box_step ?hg (N := 6) ?hd (cs := #[.int .i64 0, .int .i64 0, .slice none 0 0]) (t := 24) ?hr ?_; (case hd => rfl); (case hg => rfl); (case hr => first | (go_simp; done) | (go_simp; rfl))
              intro gb149 hg w71 hbox hb
              have HS0_ := (hb.cell (World.block_lt_of_cell? _ _ (hHeld.1))).trans (hHeld.1)
              have HS1_ := (hb.cell (World.block_lt_of_cell? _ _ (hHeld.2))).trans (hHeld.2)
              have n0_ := qb.mk (Kd.za (kr_ HO_4) hb)
              have n1_ := qb.mk (Kd.za (kr_ HO144) hb)
              have n2_ := qb.mk (qn (g := gb137) (o := .cells #[.int .i64 0, .int .i64 0, .slice none 0 0] 24 (0, 0)) (bk_ BK137) hb)
              have n3_ := qb.mk (qm (be1_ HB GE137) hb)
              have n4_ := qb.mk (hbox)
              have n5_ := qb.mk ((by rw [hg]; exact (ql (be1_ HB GE137)) : w.heap.size ≤ gb149))
              have n6_ := qb.mk ((by rw [hg]; exact (ql (be1_ HB GE137)) : w.heap.size ≤ gb149))
              have n7_ := qb.mk ((by rw [hg]; exact Nat.ne_of_lt (zd (g := gb137) (o := .cells #[.int .i64 0, .int .i64 0, .slice none 0 0] 24 (0, 0)) (bk_ BK137)) : gb137 ≠ gb149))
              have n8_ := qb.mk ((by rw [hg]; exact Nat.ne_of_gt (zd (g := gb137) (o := .cells #[.int .i64 0, .int .i64 0, .slice none 0 0] 24 (0, 0)) (bk_ BK137)) : gb149 ≠ gb137))
              clear HO_4
              clear HO144
              clear BK137
              clear HB
              have HO_4 := n0_
              have HO144 := n1_
              have BK137 := n2_
              have HB := n3_
              have BK149 := n4_
              have GW149 := n5_
              have GE149 := n6_
              have NB137_149 := n7_
              have NB149_137 := n8_
              clear n0_ n1_ n2_ n3_ n4_ n5_ n6_ n7_ n8_
              clear hb hbox hg
              refine hK.out _ _ ⟨HS0_, HS1_⟩ (fun hHeld => ?_)
              clear hK K
              refine norm_ (a' := ?_) ?_ ?_
              rotate_left
              ·show Act.put _ (some 6) _ = _
               simp only [Act.put, sA_, sB_, sC_, i64_w, i32_w]
               rfl
              refine one_ (i := 7) (N := some 35) #[true, true, true, true, true, true, true, true, false, true, false] rfl rfl (zh HT_.out (by kernel_rfl)) (by decide) (fun K hK => ?_)
              refine goes_ Tryd.func20 (by kernel_rfl) rfl #[.string (rdOf ByteArray.empty t142 1)] (by rfl) rfl rfl al_ ?_
              with_reducible refine (spec_l1Read.calls kj2 (rdOf ByteArray.empty t142 1) t148 _ A16.out).mono ?_
              rintro e w' ⟨rfl, ⟨nd, rfl⟩⟩
              refine ⟨_, rfl, ?_⟩
              refine hK.out _ _ ⟨hHeld.1, hHeld.2⟩ (fun hHeld => ?_)
              clear hK K
              refine norm_ (a' := ?_) ?_ ?_
              rotate_left
              ·show Act.put _ (some 35) _ = _
               simp only [Act.put, sA_, sB_, sC_, i64_w, i32_w]
               rfl
              refine pure_ (i := 8) (N := some 36) (v := ?_) (a' := ?_) #[true, true, true, true, true, true, true, true, true, true, false] rfl rfl (qq HT_.out (by kernel_rfl)) (fun _ _ _ h => h) (Or.inl ⟨by rfl, ?_⟩) ?_ ?_
              rotate_left
              ·intro w'
               go_simp
               with_reducible rfl
              rotate_left
              ·simp only [Act.put, sA_, sB_, sC_, i64_w, i32_w]
               rfl
              exact norm_ (by simp only [putAll, Act.put, sA_, sB_, sC_]) (hCont (gb149) _ ⟨hHeld, (by (with_reducible repeat (first | apply Kd.qo | apply Kd.qp | apply Kd.qu)); exact Kd.zi HO144.out (fun _ hk => hk.2)), (by (with_reducible repeat (first | apply Kd.qo | apply Kd.qp | apply Kd.qu)); exact Kd.zi HO_4.out (fun _ hk => hk.2)), (bk_ BK137), (bk_ BK149), GW149.out, GE149.out, NB137_149.out, NB149_137.out, (be2_ HB GE137 GE149)⟩)
            ·skip
             refine box_step ?hg (N := 6) ?hd (cs := #[.int .i64 0, .int .i64 0, .slice none 0 0]) (t := 24) ?hr ?_; (case hd => rfl); (case hg => rfl); (case hr => first | (go_simp; done) | (go_simp; rfl))
             intro gb149 hg w71 hbox hb
             have HS0_ := (hb.cell (World.block_lt_of_cell? _ _ (hHeld.1))).trans (hHeld.1)
             have HS1_ := (hb.cell (World.block_lt_of_cell? _ _ (hHeld.2))).trans (hHeld.2)
             have n0_ := qb.mk (Kd.za (kr_ HO_4) hb)
             have n1_ := qb.mk (Kd.za (kr_ HO144) hb)
             have n2_ := qb.mk (qn (g := gb137) (o := .cells #[.int .i64 0, .int .i64 0, .slice none 0 0] 24 (0, 0)) (bk_ BK137) hb)
             have n3_ := qb.mk (qm (be1_ HB GE137) hb)
             have n4_ := qb.mk (hbox)
             have n5_ := qb.mk ((by rw [hg]; exact (ql (be1_ HB GE137)) : w.heap.size ≤ gb149))
             have n6_ := qb.mk ((by rw [hg]; exact (ql (be1_ HB GE137)) : w.heap.size ≤ gb149))
             have n7_ := qb.mk ((by rw [hg]; exact Nat.ne_of_lt (zd (g := gb137) (o := .cells #[.int .i64 0, .int .i64 0, .slice none 0 0] 24 (0, 0)) (bk_ BK137)) : gb137 ≠ gb149))
             have n8_ := qb.mk ((by rw [hg]; exact Nat.ne_of_gt (zd (g := gb137) (o := .cells #[.int .i64 0, .int .i64 0, .slice none 0 0] 24 (0, 0)) (bk_ BK137)) : gb149 ≠ gb137))
             clear HO_4
             clear HO144
             clear BK137
             clear HB
             have HO_4 := n0_
             have HO144 := n1_
             have BK137 := n2_
             have HB := n3_
             have BK149 := n4_
             have GW149 := n5_
             have GE149 := n6_
             have NB137_149 := n7_
             have NB149_137 := n8_
             clear n0_ n1_ n2_ n3_ n4_ n5_ n6_ n7_ n8_
             clear hb hbox hg
             refine hK.out _ _ ⟨HS0_, HS1_⟩ (fun hHeld => ?_)
             clear hK K
             refine norm_ (a' := ?_) ?_ ?_
             rotate_left
             ·show Act.put _ (some 6) _ = _
              simp only [Act.put, sA_, sB_, sC_, i64_w, i32_w]
              rfl
             refine one_ (i := 3) (N := some 31) #[true, true, true, true, true, true, true, false, false, true, false] rfl rfl (zh HT_.out (by kernel_rfl)) (by decide) (fun K hK => ?_)
             refine goes_ Tryd.func20 (by kernel_rfl) rfl #[.string (rdOf ByteArray.empty t142 0)] (by rfl) rfl rfl al_ ?_
             with_reducible refine (spec_l1Read.calls kj2 (rdOf ByteArray.empty t142 0) t146 _ A14.out).mono ?_
             rintro e w' ⟨rfl, ⟨nd, rfl⟩⟩
             refine ⟨_, rfl, ?_⟩
             refine hK.out _ _ ⟨hHeld.1, hHeld.2⟩ (fun hHeld => ?_)
             clear hK K
             refine norm_ (a' := ?_) ?_ ?_
             rotate_left
             ·show Act.put _ (some 31) _ = _
              simp only [Act.put, sA_, sB_, sC_, i64_w, i32_w]
              rfl
             refine one_ (i := 7) (N := some 35) #[true, true, true, true, true, true, true, true, false, true, false] rfl rfl (zh HT_.out (by kernel_rfl)) (by decide) (fun K hK => ?_)
             refine goes_ Tryd.func20 (by kernel_rfl) rfl #[.string (rdOf ByteArray.empty t142 1)] (by rfl) rfl rfl al_ ?_
             with_reducible refine (spec_l1Read.calls kj2 (rdOf ByteArray.empty t142 1) t148 _ A16.out).mono ?_
             rintro e w' ⟨rfl, ⟨nd, rfl⟩⟩
             refine ⟨_, rfl, ?_⟩
             refine hK.out _ _ ⟨hHeld.1, hHeld.2⟩ (fun hHeld => ?_)
             clear hK K
             refine norm_ (a' := ?_) ?_ ?_
             rotate_left
             ·show Act.put _ (some 35) _ = _
              simp only [Act.put, sA_, sB_, sC_, i64_w, i32_w]
              rfl
             refine pure_ (i := 8) (N := some 36) (v := ?_) (a' := ?_) #[true, true, true, true, true, true, true, true, true, true, false] rfl rfl (qq HT_.out (by kernel_rfl)) (fun _ _ _ h => h) (Or.inl ⟨by rfl, ?_⟩) ?_ ?_
             rotate_left
             ·intro w'
              go_simp
              with_reducible rfl
             rotate_left
             ·simp only [Act.put, sA_, sB_, sC_, i64_w, i32_w]
              rfl
             exact norm_ (by simp only [putAll, Act.put, sA_, sB_, sC_]) (hCont (gb149) _ ⟨hHeld, (by (with_reducible repeat (first | apply Kd.qo | apply Kd.qp | apply Kd.qu)); exact Kd.zi HO144.out (fun _ hk => hk.2)), (by (with_reducible repeat (first | apply Kd.qo | apply Kd.qp | apply Kd.qu)); exact Kd.zi HO_4.out (fun _ hk => hk.2)), (bk_ BK137), (bk_ BK149), GW149.out, GE149.out, NB137_149.out, NB149_137.out, (be2_ HB GE137 GE149)⟩)
           rintro gb149 w72 ⟨hS_, h0_, h1_, h2_, h3_, h4_, h5_, h6_, h7_, h8_⟩
           have n0_ : qb (Kd.R Kd.string 9 w72 w.heap.size (fun k_ => some k_ ≠ (.slice (some ad141) t138.length co67 : Value).ownBlock) (.slice (some ad145) t142.length co69) t142) := ⟨h0_⟩
           have n1_ : qb (Kd.R Kd.string 9 w72 w.heap.size (fun k_ => some k_ ≠ (.slice (some ad145) t142.length co69 : Value).ownBlock) (.slice (some ad141) t138.length co67) t138) := ⟨h1_⟩
           have n2_ : qb (w72.heap[gb137]? = some (.cells #[.int .i64 0, .int .i64 0, .slice none 0 0] 24 (0, 0))) := ⟨h2_⟩
           have n3_ : qb (w72.heap[gb149]? = some (.cells #[.int .i64 0, .int .i64 0, .slice none 0 0] 24 (0, 0))) := ⟨h3_⟩
           have n4_ : qb (w.heap.size ≤ gb149) := ⟨h4_⟩
           have n5_ : qb (w.heap.size ≤ gb149) := ⟨h5_⟩
           have n6_ : qb (gb137 ≠ gb149) := ⟨h6_⟩
           have n7_ : qb (gb149 ≠ gb137) := ⟨h7_⟩
           have n8_ : qb (Below w.heap.size w w72) := ⟨h8_⟩
           clear HO_4
           clear HO144
           clear BK137
           clear HB
           clear h0_ h1_ h2_ h3_ h4_ h5_ h6_ h7_ h8_
           have HO144 := n0_
           have HO_4 := n1_
           have BK137 := n2_
           have BK149 := n3_
           have GW149 := n4_
           have GE149 := n5_
           have NB137_149 := n6_
           have NB149_137 := n7_
           have HB := n8_
           clear n0_ n1_ n2_ n3_ n4_ n5_ n6_ n7_ n8_
           have hHeld : w72.cell? ad145 = some (.string (rdOf ByteArray.empty t142 0)) ∧ w72.cell? ⟨ad145.block, ad145.off + 1, none⟩ = some (.string (rdOf ByteArray.empty t142 1)) := hS_
           refine norm_ (a' := ?_) ?_ ?_
           rotate_left
           ·simp only [putAll, Act.put, sA_, sB_, sC_]
            rfl
           refine one_ (i := 10) (N := none) #[true, true, true, true, true, true, true, true, true, true, true] rfl rfl (zh HT_.out (by kernel_rfl)) (by decide) (fun K hK => ?_)
           have hs73 : w72.cell? ⟨gb149, 0, none⟩ = some (.int .i64 0) := (qg BK149.out 0).trans rfl
           have hfs73 := qj BK149.out 0
           have hns73_0 := NB137_149.out
           have hms73_0 := NB149_137.out
           have hs74 : w72.cell? ⟨gb149, 1, none⟩ = some (.int .i64 0) := (qg BK149.out 1).trans rfl
           have hfs74 := qj BK149.out 1
           have hns74_0 := NB137_149.out
           have hms74_0 := NB149_137.out
           have hs75 : w72.cell? ⟨gb149, 2, none⟩ = some (.slice none 0 0) := (qg BK149.out 2).trans rfl
           have hfs75 := qj BK149.out 2
           have hns75_0 := NB137_149.out
           have hms75_0 := NB149_137.out
           refine skip_ (w1 := ?_) (by rfl) rfl ?_ ?_
           rotate_left
           ·go_simp
            rfl
           refine hK.out _ _ ⟨((cell_far (p := ⟨gb149, _, none⟩) (by first | exact Kd.qy (Kd.R_ne HO144.out BK149.out (by decide)) | (rw [add_block]; exact Kd.qy (Kd.R_ne HO144.out BK149.out (by decide))) | (show (Addr.add _ _).block ≠ _; rw [add_block]; exact Kd.qy (Kd.R_ne HO144.out BK149.out (by decide))) | (dsimp only; exact Kd.qy (Kd.R_ne HO144.out BK149.out (by decide)))) _).trans (((cell_far (p := ⟨gb149, _, none⟩) (by first | exact Kd.qy (Kd.R_ne HO144.out BK149.out (by decide)) | (rw [add_block]; exact Kd.qy (Kd.R_ne HO144.out BK149.out (by decide))) | (show (Addr.add _ _).block ≠ _; rw [add_block]; exact Kd.qy (Kd.R_ne HO144.out BK149.out (by decide))) | (dsimp only; exact Kd.qy (Kd.R_ne HO144.out BK149.out (by decide)))) _).trans (((cell_far (p := ⟨gb149, _, none⟩) (by first | exact Kd.qy (Kd.R_ne HO144.out BK149.out (by decide)) | (rw [add_block]; exact Kd.qy (Kd.R_ne HO144.out BK149.out (by decide))) | (show (Addr.add _ _).block ≠ _; rw [add_block]; exact Kd.qy (Kd.R_ne HO144.out BK149.out (by decide))) | (dsimp only; exact Kd.qy (Kd.R_ne HO144.out BK149.out (by decide)))) _).trans (hHeld.1)))))), ((cell_far (p := ⟨gb149, _, none⟩) (by first | exact Kd.qy (Kd.R_ne HO144.out BK149.out (by decide)) | (rw [add_block]; exact Kd.qy (Kd.R_ne HO144.out BK149.out (by decide))) | (show (Addr.add _ _).block ≠ _; rw [add_block]; exact Kd.qy (Kd.R_ne HO144.out BK149.out (by decide))) | (dsimp only; exact Kd.qy (Kd.R_ne HO144.out BK149.out (by decide)))) _).trans (((cell_far (p := ⟨gb149, _, none⟩) (by first | exact Kd.qy (Kd.R_ne HO144.out BK149.out (by decide)) | (rw [add_block]; exact Kd.qy (Kd.R_ne HO144.out BK149.out (by decide))) | (show (Addr.add _ _).block ≠ _; rw [add_block]; exact Kd.qy (Kd.R_ne HO144.out BK149.out (by decide))) | (dsimp only; exact Kd.qy (Kd.R_ne HO144.out BK149.out (by decide)))) _).trans (((cell_far (p := ⟨gb149, _, none⟩) (by first | exact Kd.qy (Kd.R_ne HO144.out BK149.out (by decide)) | (rw [add_block]; exact Kd.qy (Kd.R_ne HO144.out BK149.out (by decide))) | (show (Addr.add _ _).block ≠ _; rw [add_block]; exact Kd.qy (Kd.R_ne HO144.out BK149.out (by decide))) | (dsimp only; exact Kd.qy (Kd.R_ne HO144.out BK149.out (by decide)))) _).trans (hHeld.2))))))⟩ (fun hHeld => ?_)
           clear hK K
           refine done_ (zq HT_.out (by kernel_rfl)) ?_
           have p150 : 0 ≤ (1 : Int) := (by omega)
           have q150 : 1 < (t138.length : Int) := od_
           obtain ⟨ad150, e150, hx150_0⟩ := Kd.zm (Kd.qw HO_4.out).2.2 1 p150 q150
           obtain rfl : ad141 = ad150 := (by injection e150)
           (try simp only [show (1 : Int).toNat = 1 from rfl, Nat.reduceMul, Nat.reduceEqDiff, Go.Addr.add, ↓reduceIte] at hx150_0)
           have qi150 : (1 < t138.length) = True := eq_true (by omega)
           (try rw [show ((1 : Int)).toNat = 1 from rfl] at hx150_0)
           have hn150_0 : ad141.block ≠ gb149 := Kd.qy (Kd.R_ne HO_4.out BK149.out (by decide))
           have hn150_1 : ad141.block ≠ gb149 := Kd.qy (Kd.R_ne HO_4.out BK149.out (by decide))
           have hn150_2 : ad141.block ≠ gb149 := Kd.qy (Kd.R_ne HO_4.out BK149.out (by decide))
           replace hx150_0 := (cell_far (p := ⟨gb149, 0, none⟩) (by first | (rw [add_block]; exact hn150_0) | (show (Addr.add _ _).block ≠ _; rw [add_block]; exact hn150_0) | exact hn150_0) (.int .i64 t146)).trans hx150_0
           replace hx150_0 := (cell_far (p := ⟨gb149, 1, none⟩) (by first | (rw [add_block]; exact hn150_1) | (show (Addr.add _ _).block ≠ _; rw [add_block]; exact hn150_1) | exact hn150_1) (.int .i64 t148)).trans hx150_0
           replace hx150_0 := (cell_far (p := ⟨gb149, 2, none⟩) (by first | (rw [add_block]; exact hn150_2) | (show (Addr.add _ _).block ≠ _; rw [add_block]; exact hn150_2) | exact hn150_2) (.slice none 0 0)).trans hx150_0
           clear hn150_0
           clear hn150_1
           clear hn150_2
           replace p150 := eq_true p150
           replace q150 := eq_true q150
           try go_wp2
           have n0_ : qb (Kd.R Kd.string 9 (((w72.setCell ⟨gb149, 0, none⟩ (.int .i64 t146)).setCell ⟨gb149, 1, none⟩ (.int .i64 t148)).setCell ⟨gb149, 2, none⟩ (.slice none 0 0)) w.heap.size (fun k_ => some k_ ≠ (.slice (some ad145) t142.length co69 : Value).ownBlock) (.slice (some ad141) t138.length co67) t138) := ⟨by (with_reducible repeat (first | apply Kd.qo | apply Kd.qp | apply Kd.qu)); exact Kd.zi (Kd.R_far (p := ⟨gb149, 2, none⟩) (Kd.R_far (p := ⟨gb149, 1, none⟩) (Kd.R_far (p := ⟨gb149, 0, none⟩) (Kd.zk HO_4.out BK149.out (by decide)) (fun _ hk => hk.2) (.int .i64 t146)) (fun _ hk => hk.2) (.int .i64 t148)) (fun _ hk => hk.2) (.slice none 0 0)) (fun _ hk => hk.1)⟩
           have n1_ : qb (Kd.R Kd.string 9 (((w72.setCell ⟨gb149, 0, none⟩ (.int .i64 t146)).setCell ⟨gb149, 1, none⟩ (.int .i64 t148)).setCell ⟨gb149, 2, none⟩ (.slice none 0 0)) w.heap.size (fun k_ => some k_ ≠ (.slice (some ad141) t138.length co67 : Value).ownBlock) (.slice (some ad145) t142.length co69) t142) := ⟨by (with_reducible repeat (first | apply Kd.qo | apply Kd.qp | apply Kd.qu)); exact Kd.zi (Kd.R_far (p := ⟨gb149, 2, none⟩) (Kd.R_far (p := ⟨gb149, 1, none⟩) (Kd.R_far (p := ⟨gb149, 0, none⟩) (Kd.zk HO144.out BK149.out (by decide)) (fun _ hk => hk.2) (.int .i64 t146)) (fun _ hk => hk.2) (.int .i64 t148)) (fun _ hk => hk.2) (.slice none 0 0)) (fun _ hk => hk.1)⟩
           have n2_ : qb ((((w72.setCell ⟨gb149, 0, none⟩ (.int .i64 t146)).setCell ⟨gb149, 1, none⟩ (.int .i64 t148)).setCell ⟨gb149, 2, none⟩ (.slice none 0 0)).heap[gb137]? = some (.cells #[.int .i64 0, .int .i64 0, .slice none 0 0] 24 (0, 0))) := ⟨by (with_reducible repeat (first | refine qf ?_ _ | refine qi ?_ | refine qe ?_ _)); refine ze ?_ NB137_149.out _; (with_reducible repeat (first | refine qf ?_ _ | refine qi ?_ | refine qe ?_ _)); refine ze ?_ NB137_149.out _; (with_reducible repeat (first | refine qf ?_ _ | refine qi ?_ | refine qe ?_ _)); refine ze ?_ NB137_149.out _; (with_reducible repeat (first | refine qf ?_ _ | refine qi ?_ | refine qe ?_ _)); exact BK137.out⟩
           have n3_ : qb ((((w72.setCell ⟨gb149, 0, none⟩ (.int .i64 t146)).setCell ⟨gb149, 1, none⟩ (.int .i64 t148)).setCell ⟨gb149, 2, none⟩ (.slice none 0 0)).heap[gb149]? = some (.cells #[.int .i64 t146, .int .i64 t148, .slice none 0 0] 24 (0, 0))) := ⟨by (with_reducible repeat (first | refine qf ?_ _ | refine qi ?_ | refine qe ?_ _)); refine qx (cs := #[.int .i64 t146, .int .i64 t148, .slice none 0 0]) ?_ 2 _ rfl; (with_reducible repeat (first | refine qf ?_ _ | refine qi ?_ | refine qe ?_ _)); refine qx (cs := #[.int .i64 t146, .int .i64 0, .slice none 0 0]) ?_ 1 _ rfl; (with_reducible repeat (first | refine qf ?_ _ | refine qi ?_ | refine qe ?_ _)); refine qx (cs := #[.int .i64 0, .int .i64 0, .slice none 0 0]) ?_ 0 _ rfl; (with_reducible repeat (first | refine qf ?_ _ | refine qi ?_ | refine qe ?_ _)); exact BK149.out⟩
           have n4_ : qb (Below w.heap.size w (((w72.setCell ⟨gb149, 0, none⟩ (.int .i64 t146)).setCell ⟨gb149, 1, none⟩ (.int .i64 t148)).setCell ⟨gb149, 2, none⟩ (.slice none 0 0))) := ⟨be2_ HB GE137 GE149⟩
           (try clear HO_4)
           (try clear HO144)
           (try clear BK137)
           (try clear BK149)
           (try clear HB)
           generalize (((w72.setCell ⟨gb149, 0, none⟩ (.int .i64 t146)).setCell ⟨gb149, 1, none⟩ (.int .i64 t148)).setCell ⟨gb149, 2, none⟩ (.slice none 0 0)) = w76 at n0_ n1_ n2_ n3_ n4_ ⊢
           have HO_4 := n0_
           have HO144 := n1_
           have BK137 := n2_
           have BK149 := n3_
           have HB := n4_
           clear n0_ n1_ n2_ n3_ n4_
           have n0_ := qb.mk (Kd.qu HO_4.out)
           have n1_ := qb.mk (Kd.qu HO144.out)
           have n2_ := qb.mk (qi BK137.out)
           have n3_ := qb.mk (qi BK149.out)
           have n4_ := qb.mk (qc HB.out)
           clear HO_4
           clear HO144
           clear BK137
           clear BK149
           clear HB
           have HO_4 := n0_
           have HO144 := n1_
           have BK137 := n2_
           have BK149 := n3_
           have HB := n4_
           clear n0_ n1_ n2_ n3_ n4_
           refine zu (n := 11) (S := fun w' => w'.cell? ⟨gb149, 0, none⟩ = some (.int .i64 t146) ∧ w'.cell? ⟨gb149, 1, none⟩ = some (.int .i64 t148) ∧ w'.cell? ⟨gb149, 2, none⟩ = some (.slice none 0 0)) (ds := []) #[false, false, false, false, false, false, false, false, false, false, false] (by kernel_rfl) rfl rfl ⟨(qg BK149.out 0).trans rfl, (qg BK149.out 1).trans rfl, (qg BK149.out 2).trans rfl⟩ (fun hHeld => ?_); refine zl spec_avParse.tab16 spec_avParse.bits16 (fun HT_ HW_ => ?_)
           generalize w76.drew = w77 at HO_4 HO144 BK137 BK149 HB hHeld ⊢
           refine take_ (i := 0) (N := some 73) (v := ?_) (a' := ?_) #[true, false, false, false, false, false, false, false, false, false, false] rfl rfl (qz HT_.out HW_.out (by kernel_rfl)) (fun _ _ _ h => h) (Or.inl ⟨by rfl, ?_⟩) hHeld ?_ ?_
           rotate_left
           ·rintro w' ⟨s0, s1, s2⟩
            go_simp
            with_reducible rfl
           rotate_left
           ·simp only [Act.put, sA_, sB_, sC_, i64_w, i32_w]
            rfl
           refine take_ (i := 1) (N := some 74) (v := ?_) (a' := ?_) #[true, true, false, false, false, false, false, false, false, false, false] rfl rfl (qz HT_.out HW_.out (by kernel_rfl)) (fun _ _ _ h => h) (Or.inl ⟨by rfl, ?_⟩) hHeld ?_ ?_
           rotate_left
           ·rintro w' ⟨s0, s1, s2⟩
            go_simp
            with_reducible rfl
           rotate_left
           ·simp only [Act.put, sA_, sB_, sC_, i64_w, i32_w]
            rfl
           refine one_ (i := 2) (N := some 75) #[true, true, true, false, false, false, false, false, false, false, false] rfl rfl (zh HT_.out (by kernel_rfl)) (by decide) (fun K hK => ?_)
           refine goes_ Tryd.func21 (by kernel_rfl) rfl #[.agg #[.int .i64 t146, .int .i64 t148, .slice none 0 0]] (by rfl) rfl rfl al_ ?_
           refine (spec_avGood.calls kj2 t146 t148 _ _ ([] : List (S39)) true _ ?side1 ?side2 A64.out).mono ?_
           (case side1 => exact Kd.C_nil _ _)
           (case side2 => exact Nat.le_refl _)
           rintro e w78 ⟨rfl, hb⟩
           refine ⟨_, rfl, ?_⟩
           have n0_ := qb.mk (Kd.za (kr_ HO_4) hb)
           have n1_ := qb.mk (Kd.za (kr_ HO144) hb)
           have n2_ := qb.mk (qn (g := gb137) (o := .cells #[.int .i64 0, .int .i64 0, .slice none 0 0] 24 (0, 0)) (bk_ BK137) hb)
           have n3_ := qb.mk (qn (g := gb149) (o := .cells #[.int .i64 t146, .int .i64 t148, .slice none 0 0] 24 (0, 0)) (bk_ BK149) hb)
           have n4_ := qb.mk (qm (be2_ HB GE137 GE149) hb)
           clear HO_4
           clear HO144
           clear BK137
           clear BK149
           clear HB
           have HO_4 := n0_
           have HO144 := n1_
           have BK137 := n2_
           have BK149 := n3_
           have HB := n4_
           clear n0_ n1_ n2_ n3_ n4_
           (try clear hb)
           (try clear hb2)
           (try clear hk)
           (try clear hi)
           refine hK.out _ _ ⟨(qg BK149.out 0).trans rfl, (qg BK149.out 1).trans rfl, (qg BK149.out 2).trans rfl⟩ (fun hHeld => ?_)
           clear hK K
           refine norm_ (a' := ?_) ?_ ?_
           rotate_left
           ·show Act.put _ (some 75) _ = _
            simp only [Act.put, sA_, sB_, sC_, i64_w, i32_w]
            rfl
           refine pure_ (i := 3) (N := some 76) (v := ?_) (a' := ?_) #[true, true, true, true, false, false, false, false, false, false, false] rfl rfl (qq HT_.out (by kernel_rfl)) (fun _ _ _ h => h) (Or.inl ⟨by rfl, ?_⟩) ?_ ?_
           rotate_left
           ·intro w'
            go_simp
            with_reducible rfl
           rotate_left
           ·simp only [Act.put, sA_, sB_, sC_, i64_w, i32_w]
            rfl
           refine pure_ (i := 6) (N := some 79) (v := ?_) (a' := ?_) #[true, true, true, true, false, false, true, false, false, false, false] rfl rfl (qq HT_.out (by kernel_rfl)) (fun _ _ _ h => h) (Or.inl ⟨by rfl, ?_⟩) ?_ ?_
           rotate_left
           ·intro w'
            go_simp
            with_reducible rfl
           rotate_left
           ·simp only [Act.put, sA_, sB_, sC_, i64_w, i32_w]
            rfl
           refine take_ (i := 4) (N := some 77) (v := ?_) (a' := ?_) #[true, true, true, true, true, false, true, false, false, false, false] rfl rfl (qz HT_.out HW_.out (by kernel_rfl)) (fun _ _ _ h => h) (Or.inl ⟨by rfl, ?_⟩) hHeld ?_ ?_
           rotate_left
           ·rintro w' ⟨s0, s1, s2⟩
            go_simp
            with_reducible rfl
           rotate_left
           ·simp only [Act.put, sA_, sB_, sC_, i64_w, i32_w]
            rfl
           refine one_ (i := 5) (N := some 78) #[true, true, true, true, true, true, true, false, false, false, false] rfl rfl (zh HT_.out (by kernel_rfl)) (by decide) (fun K hK => ?_)
           refine goes_ Tryd.func22 (by kernel_rfl) rfl #[.agg #[.int .i64 t146, .int .i64 t148, .slice none 0 0]] (by rfl) rfl rfl al_ ?_
           refine (spec_avText.calls kj2 t146 t148 _ _ ([] : List (S39)) t162 _ ?side1 ?side2 A66.out).mono ?_
           (case side1 => exact Kd.C_nil _ _)
           (case side2 => exact Nat.le_refl _)
           rintro e w79 ⟨rfl, hb⟩
           refine ⟨_, rfl, ?_⟩
           have n0_ := qb.mk (Kd.za (kr_ HO_4) hb)
           have n1_ := qb.mk (Kd.za (kr_ HO144) hb)
           have n2_ := qb.mk (qn (g := gb137) (o := .cells #[.int .i64 0, .int .i64 0, .slice none 0 0] 24 (0, 0)) (bk_ BK137) hb)
           have n3_ := qb.mk (qn (g := gb149) (o := .cells #[.int .i64 t146, .int .i64 t148, .slice none 0 0] 24 (0, 0)) (bk_ BK149) hb)
           have n4_ := qb.mk (qm (be2_ HB GE137 GE149) hb)
           clear HO_4
           clear HO144
           clear BK137
           clear BK149
           clear HB
           have HO_4 := n0_
           have HO144 := n1_
           have BK137 := n2_
           have BK149 := n3_
           have HB := n4_
           clear n0_ n1_ n2_ n3_ n4_
           (try clear hb)
           (try clear hb2)
           (try clear hk)
           (try clear hi)
           refine hK.out _ _ ⟨(qg BK149.out 0).trans rfl, (qg BK149.out 1).trans rfl, (qg BK149.out 2).trans rfl⟩ (fun hHeld => ?_)
           clear hK K
           refine norm_ (a' := ?_) ?_ ?_
           rotate_left
           ·show Act.put _ (some 78) _ = _
            simp only [Act.put, sA_, sB_, sC_, i64_w, i32_w]
            rfl
           refine pure_ (i := 7) (N := some 80) (v := ?_) (a' := ?_) #[true, true, true, true, true, true, true, true, false, false, false] rfl rfl (qq HT_.out (by kernel_rfl)) (fun _ _ _ h => h) (Or.inl ⟨by rfl, ?_⟩) ?_ ?_
           rotate_left
           ·intro w'
            go_simp
            with_reducible rfl
           rotate_left
           ·simp only [Act.put, sA_, sB_, sC_, i64_w, i32_w]
            rfl
           refine pure_ (i := 8) (N := some 81) (v := ?_) (a' := ?_) #[true, true, true, true, true, true, true, true, true, false, false] rfl rfl (qq HT_.out (by kernel_rfl)) (fun _ _ _ h => h) (Or.inl ⟨by rfl, ?_⟩) ?_ ?_
           rotate_left
           ·intro w'
            go_simp
            with_reducible rfl
           rotate_left
           ·simp only [Act.put, sA_, sB_, sC_, i64_w, i32_w]
            rfl
           refine one_ (i := 9) (N := none) #[true, true, true, true, true, true, true, true, true, true, false] rfl rfl (zh HT_.out (by kernel_rfl)) (by decide) (fun K hK => ?_)
           have hs80 : w79.cell? ⟨gb137, 0, none⟩ = some (.int .i64 0) := (qg BK137.out 0).trans rfl
           have hfs80 := qj BK137.out 0
           have hns80_1 := NB149_137.out
           have hms80_1 := NB137_149.out
           have hs81 : w79.cell? ⟨gb137, 1, none⟩ = some (.int .i64 0) := (qg BK137.out 1).trans rfl
           have hfs81 := qj BK137.out 1
           have hns81_1 := NB149_137.out
           have hms81_1 := NB137_149.out
           have hs82 : w79.cell? ⟨gb137, 2, none⟩ = some (.slice none 0 0) := (qg BK137.out 2).trans rfl
           have hfs82 := qj BK137.out 2
           have hns82_1 := NB149_137.out
           have hms82_1 := NB137_149.out
           refine skip_ (w1 := ?_) (by rfl) rfl ?_ ?_
           rotate_left
           ·go_simp
            rfl
           refine hK.out _ _ ⟨((cell_far (p := ⟨gb137, _, none⟩) NB149_137.out _).trans (((cell_far (p := ⟨gb137, _, none⟩) NB149_137.out _).trans (((cell_far (p := ⟨gb137, _, none⟩) NB149_137.out _).trans (hHeld.1)))))), ((cell_far (p := ⟨gb137, _, none⟩) NB149_137.out _).trans (((cell_far (p := ⟨gb137, _, none⟩) NB149_137.out _).trans (((cell_far (p := ⟨gb137, _, none⟩) NB149_137.out _).trans (hHeld.2.1)))))), ((cell_far (p := ⟨gb137, _, none⟩) NB149_137.out _).trans (((cell_far (p := ⟨gb137, _, none⟩) NB149_137.out _).trans (((cell_far (p := ⟨gb137, _, none⟩) NB149_137.out _).trans (hHeld.2.2))))))⟩ (fun hHeld => ?_)
           clear hK K
           refine pure_ (i := 10) (N := some 3) (v := ?_) (a' := ?_) #[true, true, true, true, true, true, true, true, true, true, true] rfl rfl (qq HT_.out (by kernel_rfl)) (fun _ _ _ h => h) (Or.inl ⟨by rfl, ?_⟩) ?_ ?_
           rotate_left
           ·intro w'
            go_simp
            with_reducible rfl
           rotate_left
           ·simp only [Act.put, sA_, sB_, sC_, i64_w, i32_w]
            rfl
           refine done_ (zq HT_.out (by kernel_rfl)) ?_
           try go_wp2
           refine bodyPost_ret (results_ct rfl _ _ gb137 24 #[.int .i64 t146, .int .i64 t148, .slice none 0 0] (0, 0) _ rfl (by (with_reducible repeat (first | refine qf ?_ _ | refine qi ?_ | refine qe ?_ _)); refine qx (cs := #[.int .i64 t146, .int .i64 t148, .slice none 0 0]) ?_ 2 _ rfl; (with_reducible repeat (first | refine qf ?_ _ | refine qi ?_ | refine qe ?_ _)); refine qx (cs := #[.int .i64 t146, .int .i64 0, .slice none 0 0]) ?_ 1 _ rfl; (with_reducible repeat (first | refine qf ?_ _ | refine qi ?_ | refine qe ?_ _)); refine qx (cs := #[.int .i64 0, .int .i64 0, .slice none 0 0]) ?_ 0 _ rfl; (with_reducible repeat (first | refine qf ?_ _ | refine qi ?_ | refine qe ?_ _)); exact BK137.out) Tryd.underlying24 rfl (by kernel_rfl)) rfl ?_
           exact ⟨_, er_, by first | exact Kd.R_nil _ _ _ _ _ | exact Kd.N_nil _ _ _ _ _ | exact Kd.V_nil _ _ _ _ _ | exact Kd.Q_nil _ _ _ _ _ | exact Kd.S_nil _ _ _ _ _, be2_ HB GE137 GE149⟩
          ·replace c65 := Bool.eq_false_iff.mpr c65
           subst c65
           have H1 : (some (t146, t148, ([] : List (S39)), false)) = some (r1, r2, r3, r4) := by rw [if_neg (show ¬ (false = true) by decide)] at H; exact H
           clear H
           have H := H1
           clear H1
           simp only [Option.some.injEq, Prod.mk.injEq] at H
           obtain ⟨rfl, rfl, rfl, rfl⟩ := H
           obtain ⟨Ao83, co83, eo83⟩ := Kd.zj HO_4.out
           subst eo83
           have p141 : 0 ≤ (0 : Int) := (by omega)
           have q141 : 0 < (t138.length : Int) := od_
           obtain ⟨ad141, e141, hx141_0⟩ := Kd.zm (Kd.qw HO_4.out).2.2 0 p141 q141
           cases e141
           have qi141 : (0 < t138.length) = True := eq_true (by omega)
           (try rw [show ((0 : Int)).toNat = 0 from rfl] at hx141_0)
           (try rw [Addr.add_zero'] at hx141_0)
           replace p141 := eq_true p141
           replace q141 := eq_true q141
           try go_wp2_with (first | ((with_reducible refine qv (f := 19) rfl ?_); refine zf (some 23) rfl rfl Tryd.func19 (by kernel_rfl) rfl #[.string (rdOf ByteArray.empty t138 0), .int .u8 120] rfl al_ ?_; (with_reducible refine (spec_l1Split.calls kj2 (rdOf ByteArray.empty t138 0) 120 t142 _ A11.out).mono ?_); rintro e w84 ⟨v143, rfl, ho0, hb⟩; refine ⟨_, rfl, ?_⟩; have n0_ := qb.mk (Kd.R_elder' (kr_ HO_4) (Kd.R_base ho0) hb); have n1_ := qb.mk (Kd.zr (Kd.R_new' ho0 (Kd.R_lt (kr_ HO_4))) (ql (be1_ HB GE137))); have n2_ := qb.mk (qn (g := gb137) (o := .cells #[.int .i64 0, .int .i64 0, .slice none 0 0] 24 (0, 0)) (bk_ BK137) hb); have n3_ := qb.mk (qm (be1_ HB GE137) hb); clear HO_4; clear BK137; clear HB; have HO_4 := n0_; have HO144 := n1_; have BK137 := n2_; have HB := n3_; clear n0_ n1_ n2_ n3_; (try clear hb); (try clear hb2); (try clear hk); (try clear hi); (try clear ho0); obtain ⟨Ao85, co85, eo85⟩ := Kd.zj HO144.out; subst eo85))
           have n0_ := qb.mk (Kd.qu HO_4.out)
           have n1_ := qb.mk (Kd.qu HO144.out)
           have n2_ := qb.mk (qi BK137.out)
           have n3_ := qb.mk (qc HB.out)
           clear HO_4
           clear HO144
           clear BK137
           clear HB
           have HO_4 := n0_
           have HO144 := n1_
           have BK137 := n2_
           have HB := n3_
           clear n0_ n1_ n2_ n3_
           have p145 : 0 ≤ (0 : Int) := (by omega)
           have q145 : 0 < (t142.length : Int) := od_
           obtain ⟨ad145, e145, hx145_0⟩ := Kd.zm (Kd.qw HO144.out).2.2 0 p145 q145
           cases e145
           have qi145 : (0 < t142.length) = True := eq_true (by omega)
           (try rw [show ((0 : Int)).toNat = 0 from rfl] at hx145_0)
           (try rw [Addr.add_zero'] at hx145_0)
           replace p145 := eq_true p145
           replace q145 := eq_true q145
           have p147 : 0 ≤ (1 : Int) := (by omega)
           have q147 : 1 < (t142.length : Int) := od_
           obtain ⟨ad147, e147, hx147_0⟩ := Kd.zm (Kd.qw HO144.out).2.2 1 p147 q147
           obtain rfl : ad145 = ad147 := (by injection e147)
           (try simp only [show (1 : Int).toNat = 1 from rfl, Nat.reduceMul, Nat.reduceEqDiff, Go.Addr.add, ↓reduceIte] at hx147_0)
           have qi147 : (1 < t142.length) = True := eq_true (by omega)
           (try rw [show ((1 : Int)).toNat = 1 from rfl] at hx147_0)
           replace p147 := eq_true p147
           replace q147 := eq_true q147
           refine zu (n := 11) (S := fun w' => w'.cell? ad145 = some (.string (rdOf ByteArray.empty t142 0)) ∧ w'.cell? ⟨ad145.block, ad145.off + 1, none⟩ = some (.string (rdOf ByteArray.empty t142 1))) (ds := []) #[false, false, false, false, false, false, false, false, false, false, false] (by kernel_rfl) rfl rfl ⟨hx145_0, hx147_0⟩ (fun hHeld => ?_); refine zl spec_avParse.tab7 spec_avParse.bits7 (fun HT_ HW_ => ?_)
           generalize w84.drew = w86 at HO_4 HO144 BK137 HB hx145_0 hx147_0 hHeld ⊢
           refine pure_ (i := 0) (N := some 28) (v := ?_) (a' := ?_) #[true, false, false, false, false, false, false, false, false, false, false] rfl rfl (qq HT_.out (by kernel_rfl)) (fun _ _ _ h => h) (Or.inl ⟨by rfl, ?_⟩) ?_ ?_
           rotate_left
           ·intro w'
            go_simp
            with_reducible rfl
           rotate_left
           ·simp only [Act.put, sA_, sB_, sC_, i64_w, i32_w]
            rfl
           refine pure_ (i := 1) (N := some 29) (v := ?_) (a' := ?_) #[true, true, false, false, false, false, false, false, false, false, false] rfl rfl (qq HT_.out (by kernel_rfl)) (fun _ _ _ h => h) (Or.inl ⟨by rfl, ?_⟩) ?_ ?_
           rotate_left
           ·intro w'
            go_simp
            with_reducible rfl
           rotate_left
           ·simp only [Act.put, sA_, sB_, sC_, i64_w, i32_w]
            rfl
           refine pure_ (i := 4) (N := some 32) (v := ?_) (a' := ?_) #[true, true, false, false, true, false, false, false, false, false, false] rfl rfl (qq HT_.out (by kernel_rfl)) (fun _ _ _ h => h) (Or.inl ⟨by rfl, ?_⟩) ?_ ?_
           rotate_left
           ·intro w'
            go_simp
            with_reducible rfl
           rotate_left
           ·simp only [Act.put, sA_, sB_, sC_, i64_w, i32_w]
            rfl
           refine pure_ (i := 5) (N := some 33) (v := ?_) (a' := ?_) #[true, true, false, false, true, true, false, false, false, false, false] rfl rfl (qq HT_.out (by kernel_rfl)) (fun _ _ _ h => h) (Or.inl ⟨by rfl, ?_⟩) ?_ ?_
           rotate_left
           ·intro w'
            go_simp
            with_reducible rfl
           rotate_left
           ·simp only [Act.put, sA_, sB_, sC_, i64_w, i32_w]
            rfl
           refine take_ (i := 2) (N := some 30) (v := ?_) (a' := ?_) #[true, true, true, false, true, true, false, false, false, false, false] rfl rfl (qz HT_.out HW_.out (by kernel_rfl)) (fun _ _ _ h => h) (Or.inl ⟨by rfl, ?_⟩) hHeld ?_ ?_
           rotate_left
           ·rintro w' ⟨s0, s1⟩
            go_simp
            with_reducible rfl
           rotate_left
           ·simp only [Act.put, sA_, sB_, sC_, i64_w, i32_w]
            rfl
           refine take_ (i := 6) (N := some 34) (v := ?_) (a' := ?_) #[true, true, true, false, true, true, true, false, false, false, false] rfl rfl (qz HT_.out HW_.out (by kernel_rfl)) (fun _ _ _ h => h) (Or.inl ⟨by rfl, ?_⟩) hHeld ?_ ?_
           rotate_left
           ·rintro w' ⟨s0, s1⟩
            go_simp
            with_reducible rfl
           rotate_left
           ·simp only [Act.put, sA_, sB_, sC_, i64_w, i32_w]
            rfl
           refine join_ (σ := Nat) 1 #[true, true, true, true, true, true, true, true, true, true, false] (fun s_ => [(31, .int .i64 t146), (35, .int .i64 t148), (6, .pointer (some ⟨s_, 0, none⟩)), (36, .agg #[.int .i64 t146, .int .i64 t148, .slice none 0 0])]) (fun s_ w' => (w'.cell? ad145 = some (.string (rdOf ByteArray.empty t142 0)) ∧ w'.cell? ⟨ad145.block, ad145.off + 1, none⟩ = some (.string (rdOf ByteArray.empty t142 1))) ∧ (Kd.R Kd.string 9 w' w.heap.size (fun k_ => some k_ ≠ (.slice (some ad141) t138.length co83 : Value).ownBlock) (.slice (some ad145) t142.length co85) t142) ∧ (Kd.R Kd.string 9 w' w.heap.size (fun k_ => some k_ ≠ (.slice (some ad145) t142.length co85 : Value).ownBlock) (.slice (some ad141) t138.length co83) t138) ∧ (w'.heap[gb137]? = some (.cells #[.int .i64 0, .int .i64 0, .slice none 0 0] 24 (0, 0))) ∧ (w'.heap[s_]? = some (.cells #[.int .i64 0, .int .i64 0, .slice none 0 0] 24 (0, 0))) ∧ (w.heap.size ≤ s_) ∧ (w.heap.size ≤ s_) ∧ (gb137 ≠ s_) ∧ (s_ ≠ gb137) ∧ (Below w.heap.size w w')) ?_ ?_
           rotate_left
           ·intro hCont
            refine two_ (i := 3) (j := 9) (Ni := some 31) (Nj := some 6) #[true, true, true, true, true, true, true, false, false, false, false] #[true, true, true, false, true, true, true, false, false, true, false] rfl rfl rfl rfl (two_of HT_.out (by kernel_rfl)) (by decide) (by decide) (fun K hK => ?_) (fun K hK => ?_)
            ·skip
             refine goes_ Tryd.func20 (by kernel_rfl) rfl #[.string (rdOf ByteArray.empty t142 0)] (by rfl) rfl rfl al_ ?_
             with_reducible refine (spec_l1Read.calls kj2 (rdOf ByteArray.empty t142 0) t146 _ A14.out).mono ?_
             rintro e w' ⟨rfl, ⟨nd, rfl⟩⟩
             refine ⟨_, rfl, ?_⟩
             refine hK.out _ _ ⟨hHeld.1, hHeld.2⟩ (fun hHeld => ?_)
             clear hK K
             refine norm_ (a' := ?_) ?_ ?_
             rotate_left
             ·show Act.put _ (some 31) _ = _
              simp only [Act.put, sA_, sB_, sC_, i64_w, i32_w]
              rfl
             refine two_ (i := 7) (j := 9) (Ni := some 35) (Nj := some 6) #[true, true, true, true, true, true, true, true, false, false, false] #[true, true, true, true, true, true, true, false, false, true, false] rfl rfl rfl rfl (two_of HT_.out (by kernel_rfl)) (by decide) (by decide) (fun K hK => ?_) (fun K hK => ?_)
             ·skip
              refine goes_ Tryd.func20 (by kernel_rfl) rfl #[.string (rdOf ByteArray.empty t142 1)] (by rfl) rfl rfl al_ ?_
              with_reducible refine (spec_l1Read.calls kj2 (rdOf ByteArray.empty t142 1) t148 _ A16.out).mono ?_
              rintro e w' ⟨rfl, ⟨nd, rfl⟩⟩
              refine ⟨_, rfl, ?_⟩
              refine hK.out _ _ ⟨hHeld.1, hHeld.2⟩ (fun hHeld => ?_)
              clear hK K
              refine norm_ (a' := ?_) ?_ ?_
              rotate_left
              ·show Act.put _ (some 35) _ = _
               simp only [Act.put, sA_, sB_, sC_, i64_w, i32_w]
               rfl
              refine pure_ (i := 8) (N := some 36) (v := ?_) (a' := ?_) #[true, true, true, true, true, true, true, true, true, false, false] rfl rfl (qq HT_.out (by kernel_rfl)) (fun _ _ _ h => h) (Or.inl ⟨by rfl, ?_⟩) ?_ ?_
              rotate_left
              ·intro w'
               go_simp
               with_reducible rfl
              rotate_left
              ·simp only [Act.put, sA_, sB_, sC_, i64_w, i32_w]
               rfl
              refine one_ (i := 9) (N := some 6) #[true, true, true, true, true, true, true, true, true, true, false] rfl rfl (zh HT_.out (by kernel_rfl)) (by decide) (fun K hK => ?_)
              refine box_step ?hg (N := 6) ?hd (cs := #[.int .i64 0, .int .i64 0, .slice none 0 0]) (t := 24) ?hr ?_; (case hd => rfl); (case hg => rfl); (case hr => first | (go_simp; done) | (go_simp; rfl))
              intro gb149 hg w87 hbox hb
              have HS0_ := (hb.cell (World.block_lt_of_cell? _ _ (hHeld.1))).trans (hHeld.1)
              have HS1_ := (hb.cell (World.block_lt_of_cell? _ _ (hHeld.2))).trans (hHeld.2)
              have n0_ := qb.mk (Kd.za (kr_ HO_4) hb)
              have n1_ := qb.mk (Kd.za (kr_ HO144) hb)
              have n2_ := qb.mk (qn (g := gb137) (o := .cells #[.int .i64 0, .int .i64 0, .slice none 0 0] 24 (0, 0)) (bk_ BK137) hb)
              have n3_ := qb.mk (qm (be1_ HB GE137) hb)
              have n4_ := qb.mk (hbox)
              have n5_ := qb.mk ((by rw [hg]; exact (ql (be1_ HB GE137)) : w.heap.size ≤ gb149))
              have n6_ := qb.mk ((by rw [hg]; exact (ql (be1_ HB GE137)) : w.heap.size ≤ gb149))
              have n7_ := qb.mk ((by rw [hg]; exact Nat.ne_of_lt (zd (g := gb137) (o := .cells #[.int .i64 0, .int .i64 0, .slice none 0 0] 24 (0, 0)) (bk_ BK137)) : gb137 ≠ gb149))
              have n8_ := qb.mk ((by rw [hg]; exact Nat.ne_of_gt (zd (g := gb137) (o := .cells #[.int .i64 0, .int .i64 0, .slice none 0 0] 24 (0, 0)) (bk_ BK137)) : gb149 ≠ gb137))
              clear HO_4
              clear HO144
              clear BK137
              clear HB
              have HO_4 := n0_
              have HO144 := n1_
              have BK137 := n2_
              have HB := n3_
              have BK149 := n4_
              have GW149 := n5_
              have GE149 := n6_
              have NB137_149 := n7_
              have NB149_137 := n8_
              clear n0_ n1_ n2_ n3_ n4_ n5_ n6_ n7_ n8_
              clear hb hbox hg
              refine hK.out _ _ ⟨HS0_, HS1_⟩ (fun hHeld => ?_)
              clear hK K
              refine norm_ (a' := ?_) ?_ ?_
              rotate_left
              ·show Act.put _ (some 6) _ = _
               simp only [Act.put, sA_, sB_, sC_, i64_w, i32_w]
               rfl
              exact norm_ (by simp only [putAll, Act.put, sA_, sB_, sC_]) (hCont (gb149) _ ⟨hHeld, (by (with_reducible repeat (first | apply Kd.qo | apply Kd.qp | apply Kd.qu)); exact Kd.zi HO144.out (fun _ hk => hk.2)), (by (with_reducible repeat (first | apply Kd.qo | apply Kd.qp | apply Kd.qu)); exact Kd.zi HO_4.out (fun _ hk => hk.2)), (bk_ BK137), (bk_ BK149), GW149.out, GE149.out, NB137_149.out, NB149_137.out, (be2_ HB GE137 GE149)⟩)
             ·skip
              refine box_step ?hg (N := 6) ?hd (cs := #[.int .i64 0, .int .i64 0, .slice none 0 0]) (t := 24) ?hr ?_; (case hd => rfl); (case hg => rfl); (case hr => first | (go_simp; done) | (go_simp; rfl))
              intro gb149 hg w87 hbox hb
              have HS0_ := (hb.cell (World.block_lt_of_cell? _ _ (hHeld.1))).trans (hHeld.1)
              have HS1_ := (hb.cell (World.block_lt_of_cell? _ _ (hHeld.2))).trans (hHeld.2)
              have n0_ := qb.mk (Kd.za (kr_ HO_4) hb)
              have n1_ := qb.mk (Kd.za (kr_ HO144) hb)
              have n2_ := qb.mk (qn (g := gb137) (o := .cells #[.int .i64 0, .int .i64 0, .slice none 0 0] 24 (0, 0)) (bk_ BK137) hb)
              have n3_ := qb.mk (qm (be1_ HB GE137) hb)
              have n4_ := qb.mk (hbox)
              have n5_ := qb.mk ((by rw [hg]; exact (ql (be1_ HB GE137)) : w.heap.size ≤ gb149))
              have n6_ := qb.mk ((by rw [hg]; exact (ql (be1_ HB GE137)) : w.heap.size ≤ gb149))
              have n7_ := qb.mk ((by rw [hg]; exact Nat.ne_of_lt (zd (g := gb137) (o := .cells #[.int .i64 0, .int .i64 0, .slice none 0 0] 24 (0, 0)) (bk_ BK137)) : gb137 ≠ gb149))
              have n8_ := qb.mk ((by rw [hg]; exact Nat.ne_of_gt (zd (g := gb137) (o := .cells #[.int .i64 0, .int .i64 0, .slice none 0 0] 24 (0, 0)) (bk_ BK137)) : gb149 ≠ gb137))
              clear HO_4
              clear HO144
              clear BK137
              clear HB
              have HO_4 := n0_
              have HO144 := n1_
              have BK137 := n2_
              have HB := n3_
              have BK149 := n4_
              have GW149 := n5_
              have GE149 := n6_
              have NB137_149 := n7_
              have NB149_137 := n8_
              clear n0_ n1_ n2_ n3_ n4_ n5_ n6_ n7_ n8_
              clear hb hbox hg
              refine hK.out _ _ ⟨HS0_, HS1_⟩ (fun hHeld => ?_)
              clear hK K
              refine norm_ (a' := ?_) ?_ ?_
              rotate_left
              ·show Act.put _ (some 6) _ = _
               simp only [Act.put, sA_, sB_, sC_, i64_w, i32_w]
               rfl
              refine one_ (i := 7) (N := some 35) #[true, true, true, true, true, true, true, true, false, true, false] rfl rfl (zh HT_.out (by kernel_rfl)) (by decide) (fun K hK => ?_)
              refine goes_ Tryd.func20 (by kernel_rfl) rfl #[.string (rdOf ByteArray.empty t142 1)] (by rfl) rfl rfl al_ ?_
              with_reducible refine (spec_l1Read.calls kj2 (rdOf ByteArray.empty t142 1) t148 _ A16.out).mono ?_
              rintro e w' ⟨rfl, ⟨nd, rfl⟩⟩
              refine ⟨_, rfl, ?_⟩
              refine hK.out _ _ ⟨hHeld.1, hHeld.2⟩ (fun hHeld => ?_)
              clear hK K
              refine norm_ (a' := ?_) ?_ ?_
              rotate_left
              ·show Act.put _ (some 35) _ = _
               simp only [Act.put, sA_, sB_, sC_, i64_w, i32_w]
               rfl
              refine pure_ (i := 8) (N := some 36) (v := ?_) (a' := ?_) #[true, true, true, true, true, true, true, true, true, true, false] rfl rfl (qq HT_.out (by kernel_rfl)) (fun _ _ _ h => h) (Or.inl ⟨by rfl, ?_⟩) ?_ ?_
              rotate_left
              ·intro w'
               go_simp
               with_reducible rfl
              rotate_left
              ·simp only [Act.put, sA_, sB_, sC_, i64_w, i32_w]
               rfl
              exact norm_ (by simp only [putAll, Act.put, sA_, sB_, sC_]) (hCont (gb149) _ ⟨hHeld, (by (with_reducible repeat (first | apply Kd.qo | apply Kd.qp | apply Kd.qu)); exact Kd.zi HO144.out (fun _ hk => hk.2)), (by (with_reducible repeat (first | apply Kd.qo | apply Kd.qp | apply Kd.qu)); exact Kd.zi HO_4.out (fun _ hk => hk.2)), (bk_ BK137), (bk_ BK149), GW149.out, GE149.out, NB137_149.out, NB149_137.out, (be2_ HB GE137 GE149)⟩)
            ·skip
             refine box_step ?hg (N := 6) ?hd (cs := #[.int .i64 0, .int .i64 0, .slice none 0 0]) (t := 24) ?hr ?_; (case hd => rfl); (case hg => rfl); (case hr => first | (go_simp; done) | (go_simp; rfl))
             intro gb149 hg w87 hbox hb
             have HS0_ := (hb.cell (World.block_lt_of_cell? _ _ (hHeld.1))).trans (hHeld.1)
             have HS1_ := (hb.cell (World.block_lt_of_cell? _ _ (hHeld.2))).trans (hHeld.2)
             have n0_ := qb.mk (Kd.za (kr_ HO_4) hb)
             have n1_ := qb.mk (Kd.za (kr_ HO144) hb)
             have n2_ := qb.mk (qn (g := gb137) (o := .cells #[.int .i64 0, .int .i64 0, .slice none 0 0] 24 (0, 0)) (bk_ BK137) hb)
             have n3_ := qb.mk (qm (be1_ HB GE137) hb)
             have n4_ := qb.mk (hbox)
             have n5_ := qb.mk ((by rw [hg]; exact (ql (be1_ HB GE137)) : w.heap.size ≤ gb149))
             have n6_ := qb.mk ((by rw [hg]; exact (ql (be1_ HB GE137)) : w.heap.size ≤ gb149))
             have n7_ := qb.mk ((by rw [hg]; exact Nat.ne_of_lt (zd (g := gb137) (o := .cells #[.int .i64 0, .int .i64 0, .slice none 0 0] 24 (0, 0)) (bk_ BK137)) : gb137 ≠ gb149))
             have n8_ := qb.mk ((by rw [hg]; exact Nat.ne_of_gt (zd (g := gb137) (o := .cells #[.int .i64 0, .int .i64 0, .slice none 0 0] 24 (0, 0)) (bk_ BK137)) : gb149 ≠ gb137))
             clear HO_4
             clear HO144
             clear BK137
             clear HB
             have HO_4 := n0_
             have HO144 := n1_
             have BK137 := n2_
             have HB := n3_
             have BK149 := n4_
             have GW149 := n5_
             have GE149 := n6_
             have NB137_149 := n7_
             have NB149_137 := n8_
             clear n0_ n1_ n2_ n3_ n4_ n5_ n6_ n7_ n8_
             clear hb hbox hg
             refine hK.out _ _ ⟨HS0_, HS1_⟩ (fun hHeld => ?_)
             clear hK K
             refine norm_ (a' := ?_) ?_ ?_
             rotate_left
             ·show Act.put _ (some 6) _ = _
              simp only [Act.put, sA_, sB_, sC_, i64_w, i32_w]
              rfl
             refine one_ (i := 3) (N := some 31) #[true, true, true, true, true, true, true, false, false, true, false] rfl rfl (zh HT_.out (by kernel_rfl)) (by decide) (fun K hK => ?_)
             refine goes_ Tryd.func20 (by kernel_rfl) rfl #[.string (rdOf ByteArray.empty t142 0)] (by rfl) rfl rfl al_ ?_
             with_reducible refine (spec_l1Read.calls kj2 (rdOf ByteArray.empty t142 0) t146 _ A14.out).mono ?_
             rintro e w' ⟨rfl, ⟨nd, rfl⟩⟩
             refine ⟨_, rfl, ?_⟩
             refine hK.out _ _ ⟨hHeld.1, hHeld.2⟩ (fun hHeld => ?_)
             clear hK K
             refine norm_ (a' := ?_) ?_ ?_
             rotate_left
             ·show Act.put _ (some 31) _ = _
              simp only [Act.put, sA_, sB_, sC_, i64_w, i32_w]
              rfl
             refine one_ (i := 7) (N := some 35) #[true, true, true, true, true, true, true, true, false, true, false] rfl rfl (zh HT_.out (by kernel_rfl)) (by decide) (fun K hK => ?_)
             refine goes_ Tryd.func20 (by kernel_rfl) rfl #[.string (rdOf ByteArray.empty t142 1)] (by rfl) rfl rfl al_ ?_
             with_reducible refine (spec_l1Read.calls kj2 (rdOf ByteArray.empty t142 1) t148 _ A16.out).mono ?_
             rintro e w' ⟨rfl, ⟨nd, rfl⟩⟩
             refine ⟨_, rfl, ?_⟩
             refine hK.out _ _ ⟨hHeld.1, hHeld.2⟩ (fun hHeld => ?_)
             clear hK K
             refine norm_ (a' := ?_) ?_ ?_
             rotate_left
             ·show Act.put _ (some 35) _ = _
              simp only [Act.put, sA_, sB_, sC_, i64_w, i32_w]
              rfl
             refine pure_ (i := 8) (N := some 36) (v := ?_) (a' := ?_) #[true, true, true, true, true, true, true, true, true, true, false] rfl rfl (qq HT_.out (by kernel_rfl)) (fun _ _ _ h => h) (Or.inl ⟨by rfl, ?_⟩) ?_ ?_
             rotate_left
             ·intro w'
              go_simp
              with_reducible rfl
             rotate_left
             ·simp only [Act.put, sA_, sB_, sC_, i64_w, i32_w]
              rfl
             exact norm_ (by simp only [putAll, Act.put, sA_, sB_, sC_]) (hCont (gb149) _ ⟨hHeld, (by (with_reducible repeat (first | apply Kd.qo | apply Kd.qp | apply Kd.qu)); exact Kd.zi HO144.out (fun _ hk => hk.2)), (by (with_reducible repeat (first | apply Kd.qo | apply Kd.qp | apply Kd.qu)); exact Kd.zi HO_4.out (fun _ hk => hk.2)), (bk_ BK137), (bk_ BK149), GW149.out, GE149.out, NB137_149.out, NB149_137.out, (be2_ HB GE137 GE149)⟩)
           rintro gb149 w88 ⟨hS_, h0_, h1_, h2_, h3_, h4_, h5_, h6_, h7_, h8_⟩
           have n0_ : qb (Kd.R Kd.string 9 w88 w.heap.size (fun k_ => some k_ ≠ (.slice (some ad141) t138.length co83 : Value).ownBlock) (.slice (some ad145) t142.length co85) t142) := ⟨h0_⟩
           have n1_ : qb (Kd.R Kd.string 9 w88 w.heap.size (fun k_ => some k_ ≠ (.slice (some ad145) t142.length co85 : Value).ownBlock) (.slice (some ad141) t138.length co83) t138) := ⟨h1_⟩
           have n2_ : qb (w88.heap[gb137]? = some (.cells #[.int .i64 0, .int .i64 0, .slice none 0 0] 24 (0, 0))) := ⟨h2_⟩
           have n3_ : qb (w88.heap[gb149]? = some (.cells #[.int .i64 0, .int .i64 0, .slice none 0 0] 24 (0, 0))) := ⟨h3_⟩
           have n4_ : qb (w.heap.size ≤ gb149) := ⟨h4_⟩
           have n5_ : qb (w.heap.size ≤ gb149) := ⟨h5_⟩
           have n6_ : qb (gb137 ≠ gb149) := ⟨h6_⟩
           have n7_ : qb (gb149 ≠ gb137) := ⟨h7_⟩
           have n8_ : qb (Below w.heap.size w w88) := ⟨h8_⟩
           clear HO_4
           clear HO144
           clear BK137
           clear HB
           clear h0_ h1_ h2_ h3_ h4_ h5_ h6_ h7_ h8_
           have HO144 := n0_
           have HO_4 := n1_
           have BK137 := n2_
           have BK149 := n3_
           have GW149 := n4_
           have GE149 := n5_
           have NB137_149 := n6_
           have NB149_137 := n7_
           have HB := n8_
           clear n0_ n1_ n2_ n3_ n4_ n5_ n6_ n7_ n8_
           have hHeld : w88.cell? ad145 = some (.string (rdOf ByteArray.empty t142 0)) ∧ w88.cell? ⟨ad145.block, ad145.off + 1, none⟩ = some (.string (rdOf ByteArray.empty t142 1)) := hS_
           refine norm_ (a' := ?_) ?_ ?_
           rotate_left
           ·simp only [putAll, Act.put, sA_, sB_, sC_]
            rfl
           refine one_ (i := 10) (N := none) #[true, true, true, true, true, true, true, true, true, true, true] rfl rfl (zh HT_.out (by kernel_rfl)) (by decide) (fun K hK => ?_)
           have hs89 : w88.cell? ⟨gb149, 0, none⟩ = some (.int .i64 0) := (qg BK149.out 0).trans rfl
           have hfs89 := qj BK149.out 0
           have hns89_0 := NB137_149.out
           have hms89_0 := NB149_137.out
           have hs90 : w88.cell? ⟨gb149, 1, none⟩ = some (.int .i64 0) := (qg BK149.out 1).trans rfl
           have hfs90 := qj BK149.out 1
           have hns90_0 := NB137_149.out
           have hms90_0 := NB149_137.out
           have hs91 : w88.cell? ⟨gb149, 2, none⟩ = some (.slice none 0 0) := (qg BK149.out 2).trans rfl
           have hfs91 := qj BK149.out 2
           have hns91_0 := NB137_149.out
           have hms91_0 := NB149_137.out
           refine skip_ (w1 := ?_) (by rfl) rfl ?_ ?_
           rotate_left
           ·go_simp
            rfl
           refine hK.out _ _ ⟨((cell_far (p := ⟨gb149, _, none⟩) (by first | exact Kd.qy (Kd.R_ne HO144.out BK149.out (by decide)) | (rw [add_block]; exact Kd.qy (Kd.R_ne HO144.out BK149.out (by decide))) | (show (Addr.add _ _).block ≠ _; rw [add_block]; exact Kd.qy (Kd.R_ne HO144.out BK149.out (by decide))) | (dsimp only; exact Kd.qy (Kd.R_ne HO144.out BK149.out (by decide)))) _).trans (((cell_far (p := ⟨gb149, _, none⟩) (by first | exact Kd.qy (Kd.R_ne HO144.out BK149.out (by decide)) | (rw [add_block]; exact Kd.qy (Kd.R_ne HO144.out BK149.out (by decide))) | (show (Addr.add _ _).block ≠ _; rw [add_block]; exact Kd.qy (Kd.R_ne HO144.out BK149.out (by decide))) | (dsimp only; exact Kd.qy (Kd.R_ne HO144.out BK149.out (by decide)))) _).trans (((cell_far (p := ⟨gb149, _, none⟩) (by first | exact Kd.qy (Kd.R_ne HO144.out BK149.out (by decide)) | (rw [add_block]; exact Kd.qy (Kd.R_ne HO144.out BK149.out (by decide))) | (show (Addr.add _ _).block ≠ _; rw [add_block]; exact Kd.qy (Kd.R_ne HO144.out BK149.out (by decide))) | (dsimp only; exact Kd.qy (Kd.R_ne HO144.out BK149.out (by decide)))) _).trans (hHeld.1)))))), ((cell_far (p := ⟨gb149, _, none⟩) (by first | exact Kd.qy (Kd.R_ne HO144.out BK149.out (by decide)) | (rw [add_block]; exact Kd.qy (Kd.R_ne HO144.out BK149.out (by decide))) | (show (Addr.add _ _).block ≠ _; rw [add_block]; exact Kd.qy (Kd.R_ne HO144.out BK149.out (by decide))) | (dsimp only; exact Kd.qy (Kd.R_ne HO144.out BK149.out (by decide)))) _).trans (((cell_far (p := ⟨gb149, _, none⟩) (by first | exact Kd.qy (Kd.R_ne HO144.out BK149.out (by decide)) | (rw [add_block]; exact Kd.qy (Kd.R_ne HO144.out BK149.out (by decide))) | (show (Addr.add _ _).block ≠ _; rw [add_block]; exact Kd.qy (Kd.R_ne HO144.out BK149.out (by decide))) | (dsimp only; exact Kd.qy (Kd.R_ne HO144.out BK149.out (by decide)))) _).trans (((cell_far (p := ⟨gb149, _, none⟩) (by first | exact Kd.qy (Kd.R_ne HO144.out BK149.out (by decide)) | (rw [add_block]; exact Kd.qy (Kd.R_ne HO144.out BK149.out (by decide))) | (show (Addr.add _ _).block ≠ _; rw [add_block]; exact Kd.qy (Kd.R_ne HO144.out BK149.out (by decide))) | (dsimp only; exact Kd.qy (Kd.R_ne HO144.out BK149.out (by decide)))) _).trans (hHeld.2))))))⟩ (fun hHeld => ?_)
           clear hK K
           refine done_ (zq HT_.out (by kernel_rfl)) ?_
           have p150 : 0 ≤ (1 : Int) := (by omega)
           have q150 : 1 < (t138.length : Int) := od_
           obtain ⟨ad150, e150, hx150_0⟩ := Kd.zm (Kd.qw HO_4.out).2.2 1 p150 q150
           obtain rfl : ad141 = ad150 := (by injection e150)
           (try simp only [show (1 : Int).toNat = 1 from rfl, Nat.reduceMul, Nat.reduceEqDiff, Go.Addr.add, ↓reduceIte] at hx150_0)
           have qi150 : (1 < t138.length) = True := eq_true (by omega)
           (try rw [show ((1 : Int)).toNat = 1 from rfl] at hx150_0)
           have hn150_0 : ad141.block ≠ gb149 := Kd.qy (Kd.R_ne HO_4.out BK149.out (by decide))
           have hn150_1 : ad141.block ≠ gb149 := Kd.qy (Kd.R_ne HO_4.out BK149.out (by decide))
           have hn150_2 : ad141.block ≠ gb149 := Kd.qy (Kd.R_ne HO_4.out BK149.out (by decide))
           replace hx150_0 := (cell_far (p := ⟨gb149, 0, none⟩) (by first | (rw [add_block]; exact hn150_0) | (show (Addr.add _ _).block ≠ _; rw [add_block]; exact hn150_0) | exact hn150_0) (.int .i64 t146)).trans hx150_0
           replace hx150_0 := (cell_far (p := ⟨gb149, 1, none⟩) (by first | (rw [add_block]; exact hn150_1) | (show (Addr.add _ _).block ≠ _; rw [add_block]; exact hn150_1) | exact hn150_1) (.int .i64 t148)).trans hx150_0
           replace hx150_0 := (cell_far (p := ⟨gb149, 2, none⟩) (by first | (rw [add_block]; exact hn150_2) | (show (Addr.add _ _).block ≠ _; rw [add_block]; exact hn150_2) | exact hn150_2) (.slice none 0 0)).trans hx150_0
           clear hn150_0
           clear hn150_1
           clear hn150_2
           replace p150 := eq_true p150
           replace q150 := eq_true q150
           try go_wp2
           have n0_ : qb (Kd.R Kd.string 9 (((w88.setCell ⟨gb149, 0, none⟩ (.int .i64 t146)).setCell ⟨gb149, 1, none⟩ (.int .i64 t148)).setCell ⟨gb149, 2, none⟩ (.slice none 0 0)) w.heap.size (fun k_ => some k_ ≠ (.slice (some ad145) t142.length co85 : Value).ownBlock) (.slice (some ad141) t138.length co83) t138) := ⟨by (with_reducible repeat (first | apply Kd.qo | apply Kd.qp | apply Kd.qu)); exact Kd.zi (Kd.R_far (p := ⟨gb149, 2, none⟩) (Kd.R_far (p := ⟨gb149, 1, none⟩) (Kd.R_far (p := ⟨gb149, 0, none⟩) (Kd.zk HO_4.out BK149.out (by decide)) (fun _ hk => hk.2) (.int .i64 t146)) (fun _ hk => hk.2) (.int .i64 t148)) (fun _ hk => hk.2) (.slice none 0 0)) (fun _ hk => hk.1)⟩
           have n1_ : qb (Kd.R Kd.string 9 (((w88.setCell ⟨gb149, 0, none⟩ (.int .i64 t146)).setCell ⟨gb149, 1, none⟩ (.int .i64 t148)).setCell ⟨gb149, 2, none⟩ (.slice none 0 0)) w.heap.size (fun k_ => some k_ ≠ (.slice (some ad141) t138.length co83 : Value).ownBlock) (.slice (some ad145) t142.length co85) t142) := ⟨by (with_reducible repeat (first | apply Kd.qo | apply Kd.qp | apply Kd.qu)); exact Kd.zi (Kd.R_far (p := ⟨gb149, 2, none⟩) (Kd.R_far (p := ⟨gb149, 1, none⟩) (Kd.R_far (p := ⟨gb149, 0, none⟩) (Kd.zk HO144.out BK149.out (by decide)) (fun _ hk => hk.2) (.int .i64 t146)) (fun _ hk => hk.2) (.int .i64 t148)) (fun _ hk => hk.2) (.slice none 0 0)) (fun _ hk => hk.1)⟩
           have n2_ : qb ((((w88.setCell ⟨gb149, 0, none⟩ (.int .i64 t146)).setCell ⟨gb149, 1, none⟩ (.int .i64 t148)).setCell ⟨gb149, 2, none⟩ (.slice none 0 0)).heap[gb137]? = some (.cells #[.int .i64 0, .int .i64 0, .slice none 0 0] 24 (0, 0))) := ⟨by (with_reducible repeat (first | refine qf ?_ _ | refine qi ?_ | refine qe ?_ _)); refine ze ?_ NB137_149.out _; (with_reducible repeat (first | refine qf ?_ _ | refine qi ?_ | refine qe ?_ _)); refine ze ?_ NB137_149.out _; (with_reducible repeat (first | refine qf ?_ _ | refine qi ?_ | refine qe ?_ _)); refine ze ?_ NB137_149.out _; (with_reducible repeat (first | refine qf ?_ _ | refine qi ?_ | refine qe ?_ _)); exact BK137.out⟩
           have n3_ : qb ((((w88.setCell ⟨gb149, 0, none⟩ (.int .i64 t146)).setCell ⟨gb149, 1, none⟩ (.int .i64 t148)).setCell ⟨gb149, 2, none⟩ (.slice none 0 0)).heap[gb149]? = some (.cells #[.int .i64 t146, .int .i64 t148, .slice none 0 0] 24 (0, 0))) := ⟨by (with_reducible repeat (first | refine qf ?_ _ | refine qi ?_ | refine qe ?_ _)); refine qx (cs := #[.int .i64 t146, .int .i64 t148, .slice none 0 0]) ?_ 2 _ rfl; (with_reducible repeat (first | refine qf ?_ _ | refine qi ?_ | refine qe ?_ _)); refine qx (cs := #[.int .i64 t146, .int .i64 0, .slice none 0 0]) ?_ 1 _ rfl; (with_reducible repeat (first | refine qf ?_ _ | refine qi ?_ | refine qe ?_ _)); refine qx (cs := #[.int .i64 0, .int .i64 0, .slice none 0 0]) ?_ 0 _ rfl; (with_reducible repeat (first | refine qf ?_ _ | refine qi ?_ | refine qe ?_ _)); exact BK149.out⟩
           have n4_ : qb (Below w.heap.size w (((w88.setCell ⟨gb149, 0, none⟩ (.int .i64 t146)).setCell ⟨gb149, 1, none⟩ (.int .i64 t148)).setCell ⟨gb149, 2, none⟩ (.slice none 0 0))) := ⟨be2_ HB GE137 GE149⟩
           (try clear HO_4)
           (try clear HO144)
           (try clear BK137)
           (try clear BK149)
           (try clear HB)
           generalize (((w88.setCell ⟨gb149, 0, none⟩ (.int .i64 t146)).setCell ⟨gb149, 1, none⟩ (.int .i64 t148)).setCell ⟨gb149, 2, none⟩ (.slice none 0 0)) = w92 at n0_ n1_ n2_ n3_ n4_ ⊢
           have HO_4 := n0_
           have HO144 := n1_
           have BK137 := n2_
           have BK149 := n3_
           have HB := n4_
           clear n0_ n1_ n2_ n3_ n4_
           have n0_ := qb.mk (Kd.qu HO_4.out)
           have n1_ := qb.mk (Kd.qu HO144.out)
           have n2_ := qb.mk (qi BK137.out)
           have n3_ := qb.mk (qi BK149.out)
           have n4_ := qb.mk (qc HB.out)
           clear HO_4
           clear HO144
           clear BK137
           clear BK149
           clear HB
           have HO_4 := n0_
           have HO144 := n1_
           have BK137 := n2_
           have BK149 := n3_
           have HB := n4_
           clear n0_ n1_ n2_ n3_ n4_
           refine zu (n := 11) (S := fun w' => w'.cell? ⟨gb149, 0, none⟩ = some (.int .i64 t146) ∧ w'.cell? ⟨gb149, 1, none⟩ = some (.int .i64 t148) ∧ w'.cell? ⟨gb149, 2, none⟩ = some (.slice none 0 0)) (ds := []) #[false, false, false, false, false, false, false, false, false, false, false] (by kernel_rfl) rfl rfl ⟨(qg BK149.out 0).trans rfl, (qg BK149.out 1).trans rfl, (qg BK149.out 2).trans rfl⟩ (fun hHeld => ?_); refine zl spec_avParse.tab16 spec_avParse.bits16 (fun HT_ HW_ => ?_)
           generalize w92.drew = w93 at HO_4 HO144 BK137 BK149 HB hHeld ⊢
           refine take_ (i := 0) (N := some 73) (v := ?_) (a' := ?_) #[true, false, false, false, false, false, false, false, false, false, false] rfl rfl (qz HT_.out HW_.out (by kernel_rfl)) (fun _ _ _ h => h) (Or.inl ⟨by rfl, ?_⟩) hHeld ?_ ?_
           rotate_left
           ·rintro w' ⟨s0, s1, s2⟩
            go_simp
            with_reducible rfl
           rotate_left
           ·simp only [Act.put, sA_, sB_, sC_, i64_w, i32_w]
            rfl
           refine take_ (i := 1) (N := some 74) (v := ?_) (a' := ?_) #[true, true, false, false, false, false, false, false, false, false, false] rfl rfl (qz HT_.out HW_.out (by kernel_rfl)) (fun _ _ _ h => h) (Or.inl ⟨by rfl, ?_⟩) hHeld ?_ ?_
           rotate_left
           ·rintro w' ⟨s0, s1, s2⟩
            go_simp
            with_reducible rfl
           rotate_left
           ·simp only [Act.put, sA_, sB_, sC_, i64_w, i32_w]
            rfl
           refine one_ (i := 2) (N := some 75) #[true, true, true, false, false, false, false, false, false, false, false] rfl rfl (zh HT_.out (by kernel_rfl)) (by decide) (fun K hK => ?_)
           refine goes_ Tryd.func21 (by kernel_rfl) rfl #[.agg #[.int .i64 t146, .int .i64 t148, .slice none 0 0]] (by rfl) rfl rfl al_ ?_
           refine (spec_avGood.calls kj2 t146 t148 _ _ ([] : List (S39)) false _ ?side1 ?side2 A64.out).mono ?_
           (case side1 => exact Kd.C_nil _ _)
           (case side2 => exact Nat.le_refl _)
           rintro e w94 ⟨rfl, hb⟩
           refine ⟨_, rfl, ?_⟩
           have n0_ := qb.mk (Kd.za (kr_ HO_4) hb)
           have n1_ := qb.mk (Kd.za (kr_ HO144) hb)
           have n2_ := qb.mk (qn (g := gb137) (o := .cells #[.int .i64 0, .int .i64 0, .slice none 0 0] 24 (0, 0)) (bk_ BK137) hb)
           have n3_ := qb.mk (qn (g := gb149) (o := .cells #[.int .i64 t146, .int .i64 t148, .slice none 0 0] 24 (0, 0)) (bk_ BK149) hb)
           have n4_ := qb.mk (qm (be2_ HB GE137 GE149) hb)
           clear HO_4
           clear HO144
           clear BK137
           clear BK149
           clear HB
           have HO_4 := n0_
           have HO144 := n1_
           have BK137 := n2_
           have BK149 := n3_
           have HB := n4_
           clear n0_ n1_ n2_ n3_ n4_
           (try clear hb)
           (try clear hb2)
           (try clear hk)
           (try clear hi)
           refine hK.out _ _ ⟨(qg BK149.out 0).trans rfl, (qg BK149.out 1).trans rfl, (qg BK149.out 2).trans rfl⟩ (fun hHeld => ?_)
           clear hK K
           refine norm_ (a' := ?_) ?_ ?_
           rotate_left
           ·show Act.put _ (some 75) _ = _
            simp only [Act.put, sA_, sB_, sC_, i64_w, i32_w]
            rfl
           refine pure_ (i := 3) (N := some 76) (v := ?_) (a' := ?_) #[true, true, true, true, false, false, false, false, false, false, false] rfl rfl (qq HT_.out (by kernel_rfl)) (fun _ _ _ h => h) (Or.inl ⟨by rfl, ?_⟩) ?_ ?_
           rotate_left
           ·intro w'
            go_simp
            with_reducible rfl
           rotate_left
           ·simp only [Act.put, sA_, sB_, sC_, i64_w, i32_w]
            rfl
           refine pure_ (i := 4) (N := some 77) (v := undef) (a' := ?_) #[true, true, true, true, true, false, false, false, false, false, false] rfl rfl (qq HT_.out (by kernel_rfl)) (fun _ _ _ h => h) (Or.inr ⟨by rfl, rfl⟩) ?_ ?_
           rotate_left
           ·simp only [Act.put, sA_, sB_, sC_, i64_w, i32_w]
            rfl
           refine pure_ (i := 5) (N := some 78) (v := undef) (a' := ?_) #[true, true, true, true, true, true, false, false, false, false, false] rfl rfl (qq HT_.out (by kernel_rfl)) (fun _ _ _ h => h) (Or.inr ⟨by rfl, rfl⟩) ?_ ?_
           rotate_left
           ·simp only [Act.put, sA_, sB_, sC_, i64_w, i32_w]
            rfl
           refine pure_ (i := 6) (N := some 79) (v := undef) (a' := ?_) #[true, true, true, true, true, true, true, false, false, false, false] rfl rfl (qq HT_.out (by kernel_rfl)) (fun _ _ _ h => h) (Or.inr ⟨by rfl, rfl⟩) ?_ ?_
           rotate_left
           ·simp only [Act.put, sA_, sB_, sC_, i64_w, i32_w]
            rfl
           refine pure_ (i := 7) (N := some 80) (v := undef) (a' := ?_) #[true, true, true, true, true, true, true, true, false, false, false] rfl rfl (qq HT_.out (by kernel_rfl)) (fun _ _ _ h => h) (Or.inr ⟨by rfl, rfl⟩) ?_ ?_
           rotate_left
           ·simp only [Act.put, sA_, sB_, sC_, i64_w, i32_w]
            rfl
           refine pure_ (i := 8) (N := some 81) (v := ?_) (a' := ?_) #[true, true, true, true, true, true, true, true, true, false, false] rfl rfl (qq HT_.out (by kernel_rfl)) (fun _ _ _ h => h) (Or.inl ⟨by rfl, ?_⟩) ?_ ?_
           rotate_left
           ·intro w'
            go_simp
            with_reducible rfl
           rotate_left
           ·simp only [Act.put, sA_, sB_, sC_, i64_w, i32_w]
            rfl
           refine one_ (i := 9) (N := none) #[true, true, true, true, true, true, true, true, true, true, false] rfl rfl (zh HT_.out (by kernel_rfl)) (by decide) (fun K hK => ?_)
           have hs95 : w94.cell? ⟨gb137, 0, none⟩ = some (.int .i64 0) := (qg BK137.out 0).trans rfl
           have hfs95 := qj BK137.out 0
           have hns95_1 := NB149_137.out
           have hms95_1 := NB137_149.out
           have hs96 : w94.cell? ⟨gb137, 1, none⟩ = some (.int .i64 0) := (qg BK137.out 1).trans rfl
           have hfs96 := qj BK137.out 1
           have hns96_1 := NB149_137.out
           have hms96_1 := NB137_149.out
           have hs97 : w94.cell? ⟨gb137, 2, none⟩ = some (.slice none 0 0) := (qg BK137.out 2).trans rfl
           have hfs97 := qj BK137.out 2
           have hns97_1 := NB149_137.out
           have hms97_1 := NB137_149.out
           refine skip_ (w1 := ?_) (by rfl) rfl ?_ ?_
           rotate_left
           ·go_simp
            rfl
           refine hK.out _ _ ⟨((cell_far (p := ⟨gb137, _, none⟩) NB149_137.out _).trans (((cell_far (p := ⟨gb137, _, none⟩) NB149_137.out _).trans (((cell_far (p := ⟨gb137, _, none⟩) NB149_137.out _).trans (hHeld.1)))))), ((cell_far (p := ⟨gb137, _, none⟩) NB149_137.out _).trans (((cell_far (p := ⟨gb137, _, none⟩) NB149_137.out _).trans (((cell_far (p := ⟨gb137, _, none⟩) NB149_137.out _).trans (hHeld.2.1)))))), ((cell_far (p := ⟨gb137, _, none⟩) NB149_137.out _).trans (((cell_far (p := ⟨gb137, _, none⟩) NB149_137.out _).trans (((cell_far (p := ⟨gb137, _, none⟩) NB149_137.out _).trans (hHeld.2.2))))))⟩ (fun hHeld => ?_)
           clear hK K
           refine pure_ (i := 10) (N := some 3) (v := ?_) (a' := ?_) #[true, true, true, true, true, true, true, true, true, true, true] rfl rfl (qq HT_.out (by kernel_rfl)) (fun _ _ _ h => h) (Or.inl ⟨by rfl, ?_⟩) ?_ ?_
           rotate_left
           ·intro w'
            go_simp
            with_reducible rfl
           rotate_left
           ·simp only [Act.put, sA_, sB_, sC_, i64_w, i32_w]
            rfl
           refine done_ (zq HT_.out (by kernel_rfl)) ?_
           try go_wp2
           refine bodyPost_ret (results_ct rfl _ _ gb137 24 #[.int .i64 t146, .int .i64 t148, .slice none 0 0] (0, 0) _ rfl (by (with_reducible repeat (first | refine qf ?_ _ | refine qi ?_ | refine qe ?_ _)); refine qx (cs := #[.int .i64 t146, .int .i64 t148, .slice none 0 0]) ?_ 2 _ rfl; (with_reducible repeat (first | refine qf ?_ _ | refine qi ?_ | refine qe ?_ _)); refine qx (cs := #[.int .i64 t146, .int .i64 0, .slice none 0 0]) ?_ 1 _ rfl; (with_reducible repeat (first | refine qf ?_ _ | refine qi ?_ | refine qe ?_ _)); refine qx (cs := #[.int .i64 0, .int .i64 0, .slice none 0 0]) ?_ 0 _ rfl; (with_reducible repeat (first | refine qf ?_ _ | refine qi ?_ | refine qe ?_ _)); exact BK137.out) Tryd.underlying24 rfl (by kernel_rfl)) rfl ?_
           exact ⟨_, er_, by first | exact Kd.R_nil _ _ _ _ _ | exact Kd.N_nil _ _ _ _ _ | exact Kd.V_nil _ _ _ _ _ | exact Kd.Q_nil _ _ _ _ _ | exact Kd.S_nil _ _ _ _ _, be2_ HB GE137 GE149⟩
        ·rw [if_neg c17] at H
         exact absurd H (by simp)
       ·rw [if_neg c15] at H
        exact absurd H (by simp)
      ·rw [if_neg c13] at H
       exact absurd H (by simp)
     ·rw [if_neg c12] at H
      have c12b0 : ((t142.length : Int) == 2) = false := beq_eq_false_iff_ne.mpr c12
      have c12b1 : ((t142.length : Int) != 2) = true := bne_iff_ne.mpr c12
      simp only [Option.some.injEq, Prod.mk.injEq] at H
      obtain ⟨rfl, rfl, rfl, rfl⟩ := H
      obtain ⟨Ao98, co98, eo98⟩ := Kd.zj HO_4.out
      subst eo98
      have p141 : 0 ≤ (0 : Int) := (by omega)
      have q141 : 0 < (t138.length : Int) := od_
      obtain ⟨ad141, e141, hx141_0⟩ := Kd.zm (Kd.qw HO_4.out).2.2 0 p141 q141
      cases e141
      have qi141 : (0 < t138.length) = True := eq_true (by omega)
      (try rw [show ((0 : Int)).toNat = 0 from rfl] at hx141_0)
      (try rw [Addr.add_zero'] at hx141_0)
      replace p141 := eq_true p141
      replace q141 := eq_true q141
      go_wp2_with (first | ((with_reducible refine qv (f := 19) rfl ?_); refine zf (some 23) rfl rfl Tryd.func19 (by kernel_rfl) rfl #[.string (rdOf ByteArray.empty t138 0), .int .u8 120] rfl al_ ?_; (with_reducible refine (spec_l1Split.calls kj2 (rdOf ByteArray.empty t138 0) 120 t142 _ A11.out).mono ?_); rintro e w99 ⟨v143, rfl, ho0, hb⟩; refine ⟨_, rfl, ?_⟩; have n0_ := qb.mk (Kd.R_elder' (kr_ HO_4) (Kd.R_base ho0) hb); have n1_ := qb.mk (Kd.zr (Kd.R_new' ho0 (Kd.R_lt (kr_ HO_4))) (ql (be1_ HB GE137))); have n2_ := qb.mk (qn (g := gb137) (o := .cells #[.int .i64 0, .int .i64 0, .slice none 0 0] 24 (0, 0)) (bk_ BK137) hb); have n3_ := qb.mk (qm (be1_ HB GE137) hb); clear HO_4; clear BK137; clear HB; have HO_4 := n0_; have HO144 := n1_; have BK137 := n2_; have HB := n3_; clear n0_ n1_ n2_ n3_; (try clear hb); (try clear hb2); (try clear hk); (try clear hi); (try clear ho0); obtain ⟨Ao100, co100, eo100⟩ := Kd.zj HO144.out; subst eo100; have hcz101_0 : w99.cell? ⟨gb137, 0, none⟩ = some (.int .i64 0) := (qg BK137.out 0).trans rfl; have hcz101_1 : w99.cell? ⟨gb137, 1, none⟩ = some (.int .i64 0) := (qg BK137.out 1).trans rfl; have hcz101_2 : w99.cell? ⟨gb137, 2, none⟩ = some (.slice none 0 0) := (qg BK137.out 2).trans rfl; have hfz101_0 := qj BK137.out 0; have hfz101_1 := qj BK137.out 1; have hfz101_2 := qj BK137.out 2))
      refine bodyPost_ret (results_ct rfl _ _ gb137 24 #[.int .i64 0, .int .i64 0, .slice none 0 0] (0, 0) _ rfl (by (with_reducible repeat (first | refine qf ?_ _ | refine qi ?_ | refine qe ?_ _)); refine qx (cs := #[.int .i64 0, .int .i64 0, .slice none 0 0]) ?_ 2 _ rfl; (with_reducible repeat (first | refine qf ?_ _ | refine qi ?_ | refine qe ?_ _)); refine qx (cs := #[.int .i64 0, .int .i64 0, .slice none 0 0]) ?_ 1 _ rfl; (with_reducible repeat (first | refine qf ?_ _ | refine qi ?_ | refine qe ?_ _)); refine qx (cs := #[.int .i64 0, .int .i64 0, .slice none 0 0]) ?_ 0 _ rfl; (with_reducible repeat (first | refine qf ?_ _ | refine qi ?_ | refine qe ?_ _)); exact BK137.out) Tryd.underlying24 rfl (by kernel_rfl)) rfl ?_
      exact ⟨_, er_, by first | exact Kd.R_nil _ _ _ _ _ | exact Kd.N_nil _ _ _ _ _ | exact Kd.V_nil _ _ _ _ _ | exact Kd.Q_nil _ _ _ _ _ | exact Kd.S_nil _ _ _ _ _, be1_ HB GE137⟩
    ·rw [if_neg c10] at H
     exact absurd H (by simp)
end Go.Proofs.YtbnbdaommbnecacDoor.PFnExactParseCity
