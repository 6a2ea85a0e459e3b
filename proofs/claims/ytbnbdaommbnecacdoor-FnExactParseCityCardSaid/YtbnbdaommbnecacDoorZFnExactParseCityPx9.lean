/- Cut by wip/cut.py out of the texts of this claim (printed by the kit's printer, or this session's own): what the row's theorem does not reach is struck. Not trusted: Lean checks it. -/
import Derived.Test.YtbnbdaommbnecacDoorZFnExactParseCityPx0
import Derived.Test.YtbnbdaommbnecacDoorZFnExactParseCityPx6
import Derived.Test.YtbnbdaommbnecacDoorZFnExactParseCityPx7
import Derived.Test.YtbnbdaommbnecacDoorZFnExactParseCityPx8
namespace Go.Proofs.YtbnbdaommbnecacDoor.PFnExactParseCity
open Go.RowKit Go.Proofs.YtbnbdaommbnecacDoorW.PrintWords Go.Proofs.YtbnbdaommbnecacDoorW.PrintLast Go.Proofs.YtbnbdaommbnecacDoorW.PrintMore
attribute [local go_sem] max2_int min2_int max_two min_two max_three min_three max_four min_four
set_option linter.unusedVariables false
set_option linter.unusedSimpArgs false
mutual
def impl_IsCity.j0 : Nat → Bool → Int → Int → List (S39) → Option (Bool)
 | 0, _, _, _, _ => none
 | k + 1, x20, x210000, x210001, x210002 => if x20 = true then (some false) else (impl_IsCity.l0 k x210002 (x210002.length : Int) 0 x210000 x210001 x210002)
def impl_IsCity.l0 : Nat → List (S39) → Int → Int → Int → Int → List (S39) → Option (Bool)
 | 0, _, _, _, _, _, _ => none
 | k + 1, x22, x23, x24, x210000, x210001, x210002 => if x24 < x23 then (if 0 ≤ x24 then (if x24 < (x22.length : Int) then ((impl_isBlock.f x210000 x210001 x210002 ((qk x22 x24).f0) ((qk x22 x24).f1) ((qk x22 x24).f2)).bind fun t214 => (if t214 = true then (if x24 > 0 then (if 0 ≤ (wrap64 (x24 - 1)) then (if (wrap64 (x24 - 1)) < (x210002.length : Int) then ((impl_compareBlocks.f k ((qk x210002 (wrap64 (x24 - 1))).f0) ((qk x210002 (wrap64 (x24 - 1))).f1) ((qk x210002 (wrap64 (x24 - 1))).f2) ((qk x22 x24).f0) ((qk x22 x24).f1) ((qk x22 x24).f2)).bind fun t216 => (if t216 ≥ 0 then (some false) else (impl_IsCity.l0 k x22 x23 (wrap64 (x24 + 1)) x210000 x210001 x210002))) else (none)) else (none)) else (impl_IsCity.l0 k x22 x23 (wrap64 (x24 + 1)) x210000 x210001 x210002)) else (some false))) else (none)) else (none)) else (some true)
end
def impl_IsCity.f (k : Nat) (a0_0 : Int) (a0_1 : Int) (l0_2 : List (S39)) : Option (Bool) := (impl_within.f a0_0 1 8).bind fun t210 => (if t210 = true then ((impl_within.f a0_1 1 8).bind fun t211 => (if t211 = true then (impl_IsCity.j0 k (decide ((l0_2.length : Int) > 30)) a0_0 a0_1 l0_2) else (impl_IsCity.j0 k true a0_0 a0_1 l0_2))) else (impl_IsCity.j0 k true a0_0 a0_1 l0_2))
theorem impl_IsCity.zn : ∀ k, (∀ y0 y1 y2 y3, LeO (impl_IsCity.j0 k y0 y1 y2 y3) (impl_IsCity.j0 (k + 1) y0 y1 y2 y3)) ∧ (∀ y0 y1 y2 y3 y4 y5, LeO (impl_IsCity.l0 k y0 y1 y2 y3 y4 y5) (impl_IsCity.l0 (k + 1) y0 y1 y2 y3 y4 y5))
 | 0 => ⟨fun _ _ _ _ r h => by simp [impl_IsCity.j0] at h, fun _ _ _ _ _ _ r h => by simp [impl_IsCity.l0] at h⟩
 | k + 1 => by
  obtain ⟨ih0, ih1⟩ := impl_IsCity.zn k
  refine ⟨?_, ?_⟩
  all_goals first | (intro y0 y1 y2 y3; unfold impl_IsCity.j0) | (intro y0 y1 y2 y3 y4 y5; unfold impl_IsCity.l0)
  all_goals (repeat' first | (with_reducible first | exact ih0 _ _ _ _ | exact ih1 _ _ _ _ _ _ | exact impl_compareBlocks.mono _ _ _ _ _ _ _ | exact LeO.refl _ | exact LeO.none _ | refine LeO.ite ?_ ?_ | refine LeO.bind ?_ (fun _ => ?_)) | exact ih0 _ _ _ _ | exact ih1 _ _ _ _ _ _ | exact impl_compareBlocks.mono _ _ _ _ _ _ _ | exact LeO.none _ | refine LeO.ite ?_ ?_ | refine LeO.bind ?_ (fun _ => ?_))
theorem impl_IsCity.mono : ∀ a0 a1 a2 k, LeO (impl_IsCity.f k a0 a1 a2) (impl_IsCity.f (k + 1) a0 a1 a2) := by
 intro a0 a1 a2 k
 obtain ⟨ih0, ih1⟩ := impl_IsCity.zn k
 unfold impl_IsCity.f
 repeat' first | (with_reducible first | exact ih0 _ _ _ _ | exact ih1 _ _ _ _ _ _ | exact impl_compareBlocks.mono _ _ _ _ _ _ _ | exact LeO.refl _ | exact LeO.none _ | refine LeO.ite ?_ ?_ | refine LeO.bind ?_ (fun _ => ?_)) | exact ih0 _ _ _ _ | exact ih1 _ _ _ _ _ _ | exact impl_compareBlocks.mono _ _ _ _ _ _ _ | exact LeO.none _ | refine LeO.ite ?_ ?_ | refine LeO.bind ?_ (fun _ => ?_)
def impl_IsCity.T6 : Bool × List (List Nat × List Nat) := (true, [([], []), ([], []), ([0, 1], [0, 1]), ([2], [2]), ([3, 2], [3]), ([4], [4]), ([5, 4], [4, 5]), ([6, 4, 4], [4, 6]), ([7], [7]), ([8, 7], [7, 8]), ([7], [7]), ([10, 7], [7, 10]), ([9, 11, 7], [7, 9, 11]), ([12, 7], [7, 12]), ([7], [7]), ([13, 14, 7, 7], [7, 13, 14]), ([15, 7], [7, 15]), ([7, 16, 4], [4, 7, 16]), ([4, 17], [4, 17])])
def impl_IsCity.B6 : List Nat := [0, 0, 3, 7, 15, 31, 63, 127, 255, 511, 255, 1279, 4095, 8191, 255, 32767, 65535, 131071, 262143]
theorem impl_IsCity.tab6 : rtab .any (opsOf Tryd.f14 6) = impl_IsCity.T6 := by kernel_rfl
theorem impl_IsCity.bits6 : waitsOk impl_IsCity.T6.2 impl_IsCity.B6 = true := by kernel_rfl
set_option maxHeartbeats 8000000 in
set_option maxRecDepth 100000 in
theorem impl_IsCity.calls (k : Nat) (a0_0 : Int) (a0_1 : Int) (A0_2 : Option Addr) (c0_2 : Nat) (l0_2 : List (S39)) (r : Bool) (w : World) (hr0_2 : Kd.C k39 w A0_2 l0_2.length l0_2) (hc0_2 : l0_2.length ≤ c0_2) (h : impl_IsCity.f k a0_0 a0_1 l0_2 = some r) :
  Calls Tryd.prog 14 #[.agg #[.int .i64 a0_0, .int .i64 a0_1, .slice A0_2 l0_2.length c0_2]] w fun e w' => e = .returned (.bool r) ∧ Below w.heap.size w w' := by
 have hu24 := Tryd.underlying24
 have hu39 := Tryd.underlying39
 have HR0_2 := qb.mk hr0_2
 have HC0_2 := qb.mk hc0_2
 clear hr0_2 hc0_2
 have HB := qb.mk (Below.refl w.heap.size w)
 have H : ((impl_within.f a0_0 1 8).bind fun t210 => (if t210 = true then ((impl_within.f a0_1 1 8).bind fun t211 => (if t211 = true then (impl_IsCity.j0 k (decide ((l0_2.length : Int) > 30)) a0_0 a0_1 l0_2) else (impl_IsCity.j0 k true a0_0 a0_1 l0_2))) else (impl_IsCity.j0 k true a0_0 a0_1 l0_2))) = some r := h
 clear h
 have HC2 := qb.mk H
 clear H
 go_enter Tryd.func14, Tryd.ntmps14
 go_upto_region 1 with (first | ((with_reducible refine zc (N := 1) rfl ?_); (try (refine gate_guard (by rfl) ?_; dsimp only)); refine zb ?hg (N := 1) ?hd (cs := #[.int .i64 a0_0, .int .i64 a0_1, .slice A0_2 l0_2.length c0_2]) (t := 24) ?hr ?_; (case hd => rfl); (case hg => rfl); (case hr => first | (go_simp; done) | (go_simp; rfl)); intro gb209 hg w3 hbox hb; have n0_ := qb.mk (qm (be0_ HB) hb); have n1_ := qb.mk (hbox); have n2_ := qb.mk ((by rw [hg]; exact (ql (be0_ HB)) : w.heap.size ≤ gb209)); have n3_ := qb.mk ((by rw [hg]; exact (ql (be0_ HB)) : w.heap.size ≤ gb209)); clear HB; have HB := n0_; have BK209 := n1_; have GW209 := n2_; have GE209 := n3_; clear n0_ n1_ n2_ n3_; clear hb hbox hg))
 (try simp only [Act.put, sA_, sB_, sC_])
 go_cut [20] (fun v20 wc => ∃ (kq : Nat) (x20_1 : Bool), v20 = .bool x20_1 ∧ qb (impl_IsCity.j0 kq x20_1 a0_0 a0_1 l0_2 = some r) ∧ qb (kq ≤ k) ∧ qb (wc.heap[gb209]? = some (.cells #[.int .i64 a0_0, .int .i64 a0_1, (.slice A0_2 l0_2.length c0_2)] 24 (0, 0))) ∧ qb (Below w.heap.size w wc))
 case first =>
  have H := HC2.out
  clear HC2
  replace H := Option.bind_eq_some_iff.mp H
  obtain ⟨t210, A40, H⟩ := H
  replace H : (if t210 = true then ((impl_within.f a0_1 1 8).bind fun t211 => (if t211 = true then (impl_IsCity.j0 k (decide ((l0_2.length : Int) > 30)) a0_0 a0_1 l0_2) else (impl_IsCity.j0 k true a0_0 a0_1 l0_2))) else (impl_IsCity.j0 k true a0_0 a0_1 l0_2)) = some r := H
  have A4 := qb.mk A40
  clear A40
  by_cases c5 : t210 = true
  ·subst c5
   have H1 : ((impl_within.f a0_1 1 8).bind fun t211 => (if t211 = true then (impl_IsCity.j0 k (decide ((l0_2.length : Int) > 30)) a0_0 a0_1 l0_2) else (impl_IsCity.j0 k true a0_0 a0_1 l0_2))) = some r := by rw [if_pos rfl] at H; exact H
   clear H
   have H := H1
   clear H1
   replace H := Option.bind_eq_some_iff.mp H
   obtain ⟨t211, A60, H⟩ := H
   replace H : (if t211 = true then (impl_IsCity.j0 k (decide ((l0_2.length : Int) > 30)) a0_0 a0_1 l0_2) else (impl_IsCity.j0 k true a0_0 a0_1 l0_2)) = some r := H
   have A6 := qb.mk A60
   clear A60
   by_cases c7 : t211 = true
   ·subst c7
    have H1 : (impl_IsCity.j0 k (decide ((l0_2.length : Int) > 30)) a0_0 a0_1 l0_2) = some r := by rw [if_pos rfl] at H; exact H
    clear H
    have H := H1
    clear H1
    have H' := qb.mk H
    clear H
    have hcz8_0 : w3.cell? ⟨gb209, 0, none⟩ = some (.int .i64 a0_0) := (qg BK209.out 0).trans rfl
    have hcz8_1 : w3.cell? ⟨gb209, 1, none⟩ = some (.int .i64 a0_1) := (qg BK209.out 1).trans rfl
    have hcz8_2 : w3.cell? ⟨gb209, 2, none⟩ = some (.slice A0_2 l0_2.length c0_2) := (qg BK209.out 2).trans rfl
    have hfz8_0 := qj BK209.out 0
    have hfz8_1 := qj BK209.out 1
    have hfz8_2 := qj BK209.out 2
    go_wp2_with (first | ((with_reducible refine qv (f := 27) rfl ?_); refine zf (some 7) rfl rfl Tryd.func27 (by kernel_rfl) rfl #[.int .i64 a0_0, .int .i64 1, .int .i64 8] rfl al_ ?_; (with_reducible refine (impl_within.calls a0_0 1 8 true _ A4.out).mono ?_); rintro e w' ⟨rfl, ⟨nd, rfl⟩⟩; refine ⟨_, rfl, ?_⟩) | (go_at_call 27; (with_reducible refine (impl_within.calls a0_1 1 8 true _ A6.out).mono ?_); rintro e w' ⟨rfl, ⟨nd, rfl⟩⟩))
    go_meet
    case rel => exact ⟨_, (decide ((l0_2.length : Int) > 30)), es_, H', ⟨by first | omega | exact Nat.le_refl _⟩, ⟨bk_ BK209⟩, ⟨be1_ HB GE209⟩⟩
   ·replace c7 := Bool.eq_false_iff.mpr c7
    subst c7
    have H1 : (impl_IsCity.j0 k true a0_0 a0_1 l0_2) = some r := by rw [if_neg (show ¬ (false = true) by decide)] at H; exact H
    clear H
    have H := H1
    clear H1
    have H' := qb.mk H
    clear H
    have hcz9_0 : w3.cell? ⟨gb209, 0, none⟩ = some (.int .i64 a0_0) := (qg BK209.out 0).trans rfl
    have hcz9_1 : w3.cell? ⟨gb209, 1, none⟩ = some (.int .i64 a0_1) := (qg BK209.out 1).trans rfl
    have hcz9_2 : w3.cell? ⟨gb209, 2, none⟩ = some (.slice A0_2 l0_2.length c0_2) := (qg BK209.out 2).trans rfl
    have hfz9_0 := qj BK209.out 0
    have hfz9_1 := qj BK209.out 1
    have hfz9_2 := qj BK209.out 2
    go_wp2_with (first | ((with_reducible refine qv (f := 27) rfl ?_); refine zf (some 7) rfl rfl Tryd.func27 (by kernel_rfl) rfl #[.int .i64 a0_0, .int .i64 1, .int .i64 8] rfl al_ ?_; (with_reducible refine (impl_within.calls a0_0 1 8 true _ A4.out).mono ?_); rintro e w' ⟨rfl, ⟨nd, rfl⟩⟩; refine ⟨_, rfl, ?_⟩) | (go_at_call 27; (with_reducible refine (impl_within.calls a0_1 1 8 false _ A6.out).mono ?_); rintro e w' ⟨rfl, ⟨nd, rfl⟩⟩))
    go_meet
    case rel => exact ⟨_, (true), es_, H', ⟨by first | omega | exact Nat.le_refl _⟩, ⟨bk_ BK209⟩, ⟨be1_ HB GE209⟩⟩
  ·replace c5 := Bool.eq_false_iff.mpr c5
   subst c5
   have H1 : (impl_IsCity.j0 k true a0_0 a0_1 l0_2) = some r := by rw [if_neg (show ¬ (false = true) by decide)] at H; exact H
   clear H
   have H := H1
   clear H1
   have H' := qb.mk H
   clear H
   have hcz10_0 : w3.cell? ⟨gb209, 0, none⟩ = some (.int .i64 a0_0) := (qg BK209.out 0).trans rfl
   have hcz10_1 : w3.cell? ⟨gb209, 1, none⟩ = some (.int .i64 a0_1) := (qg BK209.out 1).trans rfl
   have hcz10_2 : w3.cell? ⟨gb209, 2, none⟩ = some (.slice A0_2 l0_2.length c0_2) := (qg BK209.out 2).trans rfl
   have hfz10_0 := qj BK209.out 0
   have hfz10_1 := qj BK209.out 1
   have hfz10_2 := qj BK209.out 2
   go_wp2_with (first | ((with_reducible refine qv (f := 27) rfl ?_); refine zf (some 7) rfl rfl Tryd.func27 (by kernel_rfl) rfl #[.int .i64 a0_0, .int .i64 1, .int .i64 8] rfl al_ ?_; (with_reducible refine (impl_within.calls a0_0 1 8 false _ A4.out).mono ?_); rintro e w' ⟨rfl, ⟨nd, rfl⟩⟩; refine ⟨_, rfl, ?_⟩))
   go_meet
   case rel => exact ⟨_, (true), es_, H', ⟨by first | omega | exact Nat.le_refl _⟩, ⟨bk_ BK209⟩, ⟨be1_ HB GE209⟩⟩
 case rest =>
  clear HC2
  try clear c5
  try clear c7
  try clear hcz10_0
  try clear hcz10_1
  try clear hcz10_2
  try clear hcz8_0
  try clear hcz8_1
  try clear hcz8_2
  try clear hcz9_0
  try clear hcz9_1
  try clear hcz9_2
  try clear hfz10_0
  try clear hfz10_1
  try clear hfz10_2
  try clear hfz8_0
  try clear hfz8_1
  try clear hfz8_2
  try clear hfz9_0
  try clear hfz9_1
  try clear hfz9_2
  obtain ⟨kq, x20_1, rfl, HA, HJ1, BK209, HB⟩ := hcut
  cases kq with
  | zero => exact absurd HA.out (by simp [impl_IsCity.j0])
  | succ kj1 =>
   have H := HA.out
   clear HA
   simp only [impl_IsCity.j0] at H
   by_cases c11 : x20_1 = true
   ·subst c11
    have H1 : (some false) = some r := by rw [if_pos rfl] at H; exact H
    clear H
    have H := H1
    clear H1
    obtain rfl := Option.some.inj H
    go_wp2
    go_ret
    exact ⟨er_, be1_ HB GE209⟩
   ·replace c11 := Bool.eq_false_iff.mpr c11
    subst c11
    have H1 : (impl_IsCity.l0 kj1 l0_2 (l0_2.length : Int) 0 a0_0 a0_1 l0_2) = some r := by rw [if_neg (show ¬ (false = true) by decide)] at H; exact H
    clear H
    have H := H1
    clear H1
    have H' := qb.mk H
    clear H
    have hcz12_0 : wc.cell? ⟨gb209, 0, none⟩ = some (.int .i64 a0_0) := (qg BK209.out 0).trans rfl
    have hcz12_1 : wc.cell? ⟨gb209, 1, none⟩ = some (.int .i64 a0_1) := (qg BK209.out 1).trans rfl
    have hcz12_2 : wc.cell? ⟨gb209, 2, none⟩ = some (.slice A0_2 l0_2.length c0_2) := (qg BK209.out 2).trans rfl
    have hfz12_0 := qj BK209.out 0
    have hfz12_1 := qj BK209.out 1
    have hfz12_2 := qj BK209.out 2
    go_wp2
    go_loopg [24] kj1 (fun kq v24 w' => ∃ (x24_2 : Int), v24 = .int .i64 x24_2 ∧ qb (impl_IsCity.l0 kq l0_2 (l0_2.length : Int) x24_2 a0_0 a0_1 l0_2 = some r) ∧ qb (kq ≤ kj1) ∧ qb (w'.heap[gb209]? = some (.cells #[.int .i64 a0_0, .int .i64 a0_1, (.slice A0_2 l0_2.length c0_2)] 24 (0, 0))) ∧ qb (Below w.heap.size w w'))
    case atStart => exact ⟨(0), es_, H', ⟨Nat.le_refl _⟩, ⟨bk_ BK209⟩, ⟨be1_ HB GE209⟩⟩
    case round =>
     clear H'
     try clear c5
     try clear c7
     try clear c11
     try clear hcz10_0
     try clear hcz10_1
     try clear hcz10_2
     try clear hcz12_0
     try clear hcz12_1
     try clear hcz12_2
     try clear hcz8_0
     try clear hcz8_1
     try clear hcz8_2
     try clear hcz9_0
     try clear hcz9_1
     try clear hcz9_2
     try clear hfz10_0
     try clear hfz10_1
     try clear hfz10_2
     try clear hfz12_0
     try clear hfz12_1
     try clear hfz12_2
     try clear hfz8_0
     try clear hfz8_1
     try clear hfz8_2
     try clear hfz9_0
     try clear hfz9_1
     try clear hfz9_2
     obtain ⟨x24_2, rfl, HA, HK2, BK209, HB⟩ := hrel
     cases gk with
     | zero => exact absurd HA.out (by simp [impl_IsCity.l0])
     | succ k2 =>
      have H := HA.out
      clear HA
      simp only [impl_IsCity.l0] at H
      by_cases c13 : x24_2 < (l0_2.length : Int)
      ·rw [if_pos c13] at H
       have c13b0 : decide (x24_2 < (l0_2.length : Int)) = true := decide_eq_true c13
       clear c13
       by_cases c14 : 0 ≤ x24_2
       ·rw [if_pos c14] at H
        have c14b0 : decide (0 ≤ x24_2) = true := decide_eq_true c14
        clear c14
        by_cases c15 : x24_2 < (l0_2.length : Int)
        ·rw [if_pos c15] at H
         have c15b0 : decide (x24_2 < (l0_2.length : Int)) = true := decide_eq_true c15
         clear c15
         replace H := Option.bind_eq_some_iff.mp H
         obtain ⟨t214, A160, H⟩ := H
         replace H : (if t214 = true then (if x24_2 > 0 then (if 0 ≤ (wrap64 (x24_2 - 1)) then (if (wrap64 (x24_2 - 1)) < (l0_2.length : Int) then ((impl_compareBlocks.f k2 ((qk l0_2 (wrap64 (x24_2 - 1))).f0) ((qk l0_2 (wrap64 (x24_2 - 1))).f1) ((qk l0_2 (wrap64 (x24_2 - 1))).f2) ((qk l0_2 x24_2).f0) ((qk l0_2 x24_2).f1) ((qk l0_2 x24_2).f2)).bind fun t216 => (if t216 ≥ 0 then (some false) else (impl_IsCity.l0 k2 l0_2 (l0_2.length : Int) (wrap64 (x24_2 + 1)) a0_0 a0_1 l0_2))) else (none)) else (none)) else (impl_IsCity.l0 k2 l0_2 (l0_2.length : Int) (wrap64 (x24_2 + 1)) a0_0 a0_1 l0_2)) else (some false)) = some r := H
         have A16 := qb.mk A160
         clear A160
         by_cases c17 : t214 = true
         ·subst c17
          have H1 : (if x24_2 > 0 then (if 0 ≤ (wrap64 (x24_2 - 1)) then (if (wrap64 (x24_2 - 1)) < (l0_2.length : Int) then ((impl_compareBlocks.f k2 ((qk l0_2 (wrap64 (x24_2 - 1))).f0) ((qk l0_2 (wrap64 (x24_2 - 1))).f1) ((qk l0_2 (wrap64 (x24_2 - 1))).f2) ((qk l0_2 x24_2).f0) ((qk l0_2 x24_2).f1) ((qk l0_2 x24_2).f2)).bind fun t216 => (if t216 ≥ 0 then (some false) else (impl_IsCity.l0 k2 l0_2 (l0_2.length : Int) (wrap64 (x24_2 + 1)) a0_0 a0_1 l0_2))) else (none)) else (none)) else (impl_IsCity.l0 k2 l0_2 (l0_2.length : Int) (wrap64 (x24_2 + 1)) a0_0 a0_1 l0_2)) = some r := by rw [if_pos rfl] at H; exact H
          clear H
          have H := H1
          clear H1
          by_cases c18 : x24_2 > 0
          ·rw [if_pos c18] at H
           have c18b0 : decide (0 < x24_2) = true := decide_eq_true c18
           clear c18
           obtain ⟨ji19, hji19⟩ : ∃ j_ : Int, (wrap64 (x24_2 - 1)) = j_ := ⟨_, rfl⟩
           replace H : (if 0 ≤ (ji19) then (if (ji19) < (l0_2.length : Int) then ((impl_compareBlocks.f k2 ((qk l0_2 (ji19)).f0) ((qk l0_2 (ji19)).f1) ((qk l0_2 (ji19)).f2) ((qk l0_2 x24_2).f0) ((qk l0_2 x24_2).f1) ((qk l0_2 x24_2).f2)).bind fun t216 => (if t216 ≥ 0 then (some false) else (impl_IsCity.l0 k2 l0_2 (l0_2.length : Int) (wrap64 (x24_2 + 1)) a0_0 a0_1 l0_2))) else (none)) else (none)) = some r := by first | (rw [hji19] at H; exact H) | (simp only [hji19] at H ⊢; exact H)
           (try rw [hji19] at A16)
           have hji19w : (IntKind.i64.wrap (x24_2 - 1)) = ji19 := (i64_w _).trans hji19
           by_cases c20 : 0 ≤ (ji19)
           ·rw [if_pos c20] at H
            have c20b0 : decide (0 ≤ (ji19)) = true := decide_eq_true c20
            clear c20
            by_cases c21 : (ji19) < (l0_2.length : Int)
            ·rw [if_pos c21] at H
             have c21b0 : decide ((ji19) < (l0_2.length : Int)) = true := decide_eq_true c21
             clear c21
             replace H := Option.bind_eq_some_iff.mp H
             obtain ⟨t216, A220, H⟩ := H
             replace H : (if t216 ≥ 0 then (some false) else (impl_IsCity.l0 k2 l0_2 (l0_2.length : Int) (wrap64 (x24_2 + 1)) a0_0 a0_1 l0_2)) = some r := H
             have A22 := qb.mk A220
             clear A220
             by_cases c23 : t216 ≥ 0
             ·rw [if_pos c23] at H
              have c23b0 : decide (0 ≤ t216) = true := decide_eq_true c23
              clear c23
              obtain rfl := Option.some.inj H
              have p212 : 0 ≤ (x24_2 : Int) := od_
              have q212 : x24_2 < (l0_2.length : Int) := od_
              obtain ⟨ad212, e212, hx212_0, hx212_1, hx212_2⟩ := zv HR0_2.out x24_2 p212 q212
              cases e212
              replace hx212_0 := (HB.out.cell (World.block_lt_of_cell? w _ hx212_0)).trans hx212_0
              replace hx212_1 := (HB.out.cell (World.block_lt_of_cell? w _ hx212_1)).trans hx212_1
              replace hx212_2 := (HB.out.cell (World.block_lt_of_cell? w _ hx212_2)).trans hx212_2
              replace p212 := eq_true p212
              replace q212 := eq_true q212
              try go_wp2_with (first | ((with_reducible refine zc (N := 4) rfl ?_); (try (refine gate_guard (by rfl) ?_; dsimp only)); refine zb ?hg (N := 4) ?hd (cs := #[.int .i64 0, .int .i64 0, .bool false]) (t := 39) ?hr ?_; (case hd => rfl); (case hg => rfl); (case hr => first | (go_simp; done) | (go_simp; rfl)); intro gb213 hg w24 hbox hb; have n0_ := qb.mk (qn (g := gb209) (o := .cells #[.int .i64 a0_0, .int .i64 a0_1, .slice (some ad212) l0_2.length c0_2] 24 (0, 0)) (bk_ BK209) hb); have n1_ := qb.mk (qm (be1_ HB GE209) hb); have n2_ := qb.mk (hbox); have n3_ := qb.mk ((by rw [hg]; exact (ql (be1_ HB GE209)) : w.heap.size ≤ gb213)); have n4_ := qb.mk ((by rw [hg]; exact (ql (be1_ HB GE209)) : w.heap.size ≤ gb213)); have n5_ := qb.mk ((by rw [hg]; exact Nat.ne_of_lt (zd (g := gb209) (o := .cells #[.int .i64 a0_0, .int .i64 a0_1, .slice (some ad212) l0_2.length c0_2] 24 (0, 0)) (bk_ BK209)) : gb209 ≠ gb213)); have n6_ := qb.mk ((by rw [hg]; exact Nat.ne_of_gt (zd (g := gb209) (o := .cells #[.int .i64 a0_0, .int .i64 a0_1, .slice (some ad212) l0_2.length c0_2] 24 (0, 0)) (bk_ BK209)) : gb213 ≠ gb209)); clear BK209; clear HB; have BK209 := n0_; have HB := n1_; have BK213 := n2_; have GW213 := n3_; have GE213 := n4_; have NB209_213 := n5_; have NB213_209 := n6_; clear n0_ n1_ n2_ n3_ n4_ n5_ n6_; clear hb hbox hg; have hnb25 := NB213_209.out; have hnc25 := NB209_213.out; have hcz26_0 : w24.cell? ⟨gb213, 0, none⟩ = some (.int .i64 0) := (qg BK213.out 0).trans rfl; have hcz26_1 : w24.cell? ⟨gb213, 1, none⟩ = some (.int .i64 0) := (qg BK213.out 1).trans rfl; have hcz26_2 : w24.cell? ⟨gb213, 2, none⟩ = some (.bool false) := (qg BK213.out 2).trans rfl; have hfz26_0 := qj BK213.out 0; have hfz26_1 := qj BK213.out 1; have hfz26_2 := qj BK213.out 2))
              have n0_ : qb ((((w24.setCell ⟨gb213, 0, none⟩ (.int .i64 ((qk l0_2 x24_2).f0))).setCell ⟨gb213, 1, none⟩ (.int .i64 ((qk l0_2 x24_2).f1))).setCell ⟨gb213, 2, none⟩ (.bool ((qk l0_2 x24_2).f2))).heap[gb209]? = some (.cells #[.int .i64 a0_0, .int .i64 a0_1, .slice (some ad212) l0_2.length c0_2] 24 (0, 0))) := ⟨by (with_reducible repeat (first | refine qf ?_ _ | refine qi ?_ | refine qe ?_ _)); refine ze ?_ NB209_213.out _; (with_reducible repeat (first | refine qf ?_ _ | refine qi ?_ | refine qe ?_ _)); refine ze ?_ NB209_213.out _; (with_reducible repeat (first | refine qf ?_ _ | refine qi ?_ | refine qe ?_ _)); refine ze ?_ NB209_213.out _; (with_reducible repeat (first | refine qf ?_ _ | refine qi ?_ | refine qe ?_ _)); exact BK209.out⟩
              have n1_ : qb ((((w24.setCell ⟨gb213, 0, none⟩ (.int .i64 ((qk l0_2 x24_2).f0))).setCell ⟨gb213, 1, none⟩ (.int .i64 ((qk l0_2 x24_2).f1))).setCell ⟨gb213, 2, none⟩ (.bool ((qk l0_2 x24_2).f2))).heap[gb213]? = some (.cells #[.int .i64 ((qk l0_2 x24_2).f0), .int .i64 ((qk l0_2 x24_2).f1), .bool ((qk l0_2 x24_2).f2)] 39 (0, 0))) := ⟨by (with_reducible repeat (first | refine qf ?_ _ | refine qi ?_ | refine qe ?_ _)); refine qx (cs := #[.int .i64 ((qk l0_2 x24_2).f0), .int .i64 ((qk l0_2 x24_2).f1), .bool false]) ?_ 2 _ rfl; (with_reducible repeat (first | refine qf ?_ _ | refine qi ?_ | refine qe ?_ _)); refine qx (cs := #[.int .i64 ((qk l0_2 x24_2).f0), .int .i64 0, .bool false]) ?_ 1 _ rfl; (with_reducible repeat (first | refine qf ?_ _ | refine qi ?_ | refine qe ?_ _)); refine qx (cs := #[.int .i64 0, .int .i64 0, .bool false]) ?_ 0 _ rfl; (with_reducible repeat (first | refine qf ?_ _ | refine qi ?_ | refine qe ?_ _)); exact BK213.out⟩
              have n2_ : qb (Below w.heap.size w (((w24.setCell ⟨gb213, 0, none⟩ (.int .i64 ((qk l0_2 x24_2).f0))).setCell ⟨gb213, 1, none⟩ (.int .i64 ((qk l0_2 x24_2).f1))).setCell ⟨gb213, 2, none⟩ (.bool ((qk l0_2 x24_2).f2)))) := ⟨be2_ HB GE209 GE213⟩
              (try clear BK209)
              (try clear BK213)
              (try clear HB)
              generalize (((w24.setCell ⟨gb213, 0, none⟩ (.int .i64 ((qk l0_2 x24_2).f0))).setCell ⟨gb213, 1, none⟩ (.int .i64 ((qk l0_2 x24_2).f1))).setCell ⟨gb213, 2, none⟩ (.bool ((qk l0_2 x24_2).f2))) = w27 at n0_ n1_ n2_ ⊢
              have BK209 := n0_
              have BK213 := n1_
              have HB := n2_
              clear n0_ n1_ n2_
              have n0_ := qb.mk (qi BK209.out)
              have n1_ := qb.mk (qi BK213.out)
              have n2_ := qb.mk (qc HB.out)
              clear BK209
              clear BK213
              clear HB
              have BK209 := n0_
              have BK213 := n1_
              have HB := n2_
              clear n0_ n1_ n2_
              have p215 : 0 ≤ ((ji19) : Int) := od_
              have q215 : (ji19) < (l0_2.length : Int) := od_
              obtain ⟨ad215, e215, hx215_0, hx215_1, hx215_2⟩ := zv HR0_2.out (ji19) p215 q215
              have hw215_2 := hx215_2
              have hw215_1 := hx215_1
              have hw215_0 := hx215_0
              obtain rfl : ad212 = ad215 := (by injection e215)
              replace hx215_0 := (HB.out.cell (World.block_lt_of_cell? w _ hx215_0)).trans hx215_0
              replace hx215_1 := (HB.out.cell (World.block_lt_of_cell? w _ hx215_1)).trans hx215_1
              replace hx215_2 := (HB.out.cell (World.block_lt_of_cell? w _ hx215_2)).trans hx215_2
              replace p215 := eq_true p215
              replace q215 := eq_true q215
              refine zu (n := 19) (S := fun w' => w'.cell? ⟨gb209, 0, none⟩ = some (.int .i64 a0_0) ∧ w'.cell? ⟨gb209, 1, none⟩ = some (.int .i64 a0_1) ∧ w'.cell? ⟨gb209, 2, none⟩ = some (.slice (some ad212) l0_2.length c0_2) ∧ w'.cell? ⟨gb213, 0, none⟩ = some (.int .i64 ((qk l0_2 x24_2).f0)) ∧ w'.cell? ⟨gb213, 1, none⟩ = some (.int .i64 ((qk l0_2 x24_2).f1)) ∧ w'.cell? ⟨gb213, 2, none⟩ = some (.bool ((qk l0_2 x24_2).f2)) ∧ w'.cell? (ad212.add (((ji19)).toNat * 3)) = some (.int .i64 ((qk l0_2 (ji19)).f0)) ∧ w'.cell? ⟨(ad212.add (((ji19)).toNat * 3)).block, (ad212.add (((ji19)).toNat * 3)).off + 1, none⟩ = some (.int .i64 ((qk l0_2 (ji19)).f1)) ∧ w'.cell? ⟨(ad212.add (((ji19)).toNat * 3)).block, (ad212.add (((ji19)).toNat * 3)).off + 2, none⟩ = some (.bool ((qk l0_2 (ji19)).f2))) (ds := []) #[false, false, false, false, false, false, false, false, false, false, false, false, false, false, false, false, false, false, false] (by kernel_rfl) rfl rfl ⟨(qg BK209.out 0).trans rfl, (qg BK209.out 1).trans rfl, (qg BK209.out 2).trans rfl, (qg BK213.out 0).trans rfl, (qg BK213.out 1).trans rfl, (qg BK213.out 2).trans rfl, ((HB.out.cell (World.block_lt_of_cell? w _ hw215_0)).trans hw215_0), ((HB.out.cell (World.block_lt_of_cell? w _ hw215_1)).trans hw215_1), ((HB.out.cell (World.block_lt_of_cell? w _ hw215_2)).trans hw215_2)⟩ (fun hHeld => ?_); refine zl impl_IsCity.tab6 impl_IsCity.bits6 (fun HT_ HW_ => ?_)
              generalize w27.drew = w28 at BK209 BK213 HB hx215_0 hx215_1 hx215_2 hHeld ⊢
              refine take_ (i := 0) (N := some 29) (v := ?_) (a' := ?_) #[true, false, false, false, false, false, false, false, false, false, false, false, false, false, false, false, false, false, false] rfl rfl (qz HT_.out HW_.out (by kernel_rfl)) (fun _ _ _ h => h) (Or.inl ⟨by rfl, ?_⟩) hHeld ?_ ?_
              rotate_left
              ·rintro w' ⟨s0, s1, s2, s3, s4, s5, s6, s7, s8⟩
               go_simp
               with_reducible rfl
              rotate_left
              ·simp only [Act.put, sA_, sB_, sC_, i64_w, i32_w]
               rfl
              refine take_ (i := 1) (N := some 30) (v := ?_) (a' := ?_) #[true, true, false, false, false, false, false, false, false, false, false, false, false, false, false, false, false, false, false] rfl rfl (qz HT_.out HW_.out (by kernel_rfl)) (fun _ _ _ h => h) (Or.inl ⟨by rfl, ?_⟩) hHeld ?_ ?_
              rotate_left
              ·rintro w' ⟨s0, s1, s2, s3, s4, s5, s6, s7, s8⟩
               go_simp
               with_reducible rfl
              rotate_left
              ·simp only [Act.put, sA_, sB_, sC_, i64_w, i32_w]
               rfl
              refine one_ (i := 2) (N := some 31) #[true, true, true, false, false, false, false, false, false, false, false, false, false, false, false, false, false, false, false] rfl rfl (zh HT_.out (by kernel_rfl)) (by decide) (fun K hK => ?_)
              refine goes_ Tryd.func28 (by kernel_rfl) rfl #[.agg #[.int .i64 a0_0, .int .i64 a0_1, .slice (some ad212) l0_2.length c0_2], .agg #[.int .i64 ((qk l0_2 x24_2).f0), .int .i64 ((qk l0_2 x24_2).f1), .bool ((qk l0_2 x24_2).f2)]] (by rfl) rfl rfl al_ ?_
              with_reducible refine (impl_isBlock.calls a0_0 a0_1 _ _ l0_2 ((qk l0_2 x24_2).f0) ((qk l0_2 x24_2).f1) ((qk l0_2 x24_2).f2) true _ ?side1 ?side2 A16.out).mono ?_
              (case side1 => repeat (first | exact (Kd.C_below HR0_2.out HB.out) | (with_reducible refine Kd.zp ?_ _) | (with_reducible refine Kd.zo ?_ _) | (with_reducible refine Kd.zt ?_)))
              (case side2 => exact HC0_2.out)
              rintro e w29 ⟨rfl, hb⟩
              refine ⟨_, rfl, ?_⟩
              have n0_ := qb.mk (qn (g := gb209) (o := .cells #[.int .i64 a0_0, .int .i64 a0_1, .slice (some ad212) l0_2.length c0_2] 24 (0, 0)) (bk_ BK209) hb)
              have n1_ := qb.mk (qn (g := gb213) (o := .cells #[.int .i64 ((qk l0_2 x24_2).f0), .int .i64 ((qk l0_2 x24_2).f1), .bool ((qk l0_2 x24_2).f2)] 39 (0, 0)) (bk_ BK213) hb)
              have n2_ := qb.mk (qm (be2_ HB GE209 GE213) hb)
              clear BK209
              clear BK213
              clear HB
              have BK209 := n0_
              have BK213 := n1_
              have HB := n2_
              clear n0_ n1_ n2_
              (try clear hb)
              (try clear hb2)
              (try clear hk)
              (try clear hi)
              refine hK.out _ _ ⟨(qg BK209.out 0).trans rfl, (qg BK209.out 1).trans rfl, (qg BK209.out 2).trans rfl, (qg BK213.out 0).trans rfl, (qg BK213.out 1).trans rfl, (qg BK213.out 2).trans rfl, ((HB.out.cell (World.block_lt_of_cell? w _ hw215_0)).trans hw215_0), ((HB.out.cell (World.block_lt_of_cell? w _ hw215_1)).trans hw215_1), ((HB.out.cell (World.block_lt_of_cell? w _ hw215_2)).trans hw215_2)⟩ (fun hHeld => ?_)
              clear hK K
              refine norm_ (a' := ?_) ?_ ?_
              rotate_left
              ·show Act.put _ (some 31) _ = _
               simp only [Act.put, sA_, sB_, sC_, i64_w, i32_w]
               rfl
              refine pure_ (i := 3) (N := some 32) (v := ?_) (a' := ?_) #[true, true, true, true, false, false, false, false, false, false, false, false, false, false, false, false, false, false, false] rfl rfl (qq HT_.out (by kernel_rfl)) (fun _ _ _ h => h) (Or.inl ⟨by rfl, ?_⟩) ?_ ?_
              rotate_left
              ·intro w'
               go_simp
               with_reducible rfl
              rotate_left
              ·simp only [Act.put, sA_, sB_, sC_, i64_w, i32_w]
               rfl
              refine pure_ (i := 4) (N := some 33) (v := ?_) (a' := ?_) #[true, true, true, true, true, false, false, false, false, false, false, false, false, false, false, false, false, false, false] rfl rfl (qq HT_.out (by kernel_rfl)) (fun _ _ _ h => h) (Or.inl ⟨by rfl, ?_⟩) ?_ ?_
              rotate_left
              ·intro w'
               go_simp
               with_reducible rfl
              rotate_left
              ·simp only [Act.put, sA_, sB_, sC_, i64_w, i32_w]
               rfl
              refine pure_ (i := 5) (N := some 34) (v := ?_) (a' := ?_) #[true, true, true, true, true, true, false, false, false, false, false, false, false, false, false, false, false, false, false] rfl rfl (qq HT_.out (by kernel_rfl)) (fun _ _ _ h => h) (Or.inl ⟨by rfl, ?_⟩) ?_ ?_
              rotate_left
              ·intro w'
               go_simp
               with_reducible rfl
              rotate_left
              ·simp only [Act.put, sA_, sB_, sC_, i64_w, i32_w]
               rfl
              refine pure_ (i := 6) (N := some 35) (v := ?_) (a' := ?_) #[true, true, true, true, true, true, true, false, false, false, false, false, false, false, false, false, false, false, false] rfl rfl (qq HT_.out (by kernel_rfl)) (fun _ _ _ h => h) (Or.inl ⟨by rfl, ?_⟩) ?_ ?_
              rotate_left
              ·intro w'
               go_simp
               with_reducible rfl
              rotate_left
              ·simp only [Act.put, sA_, sB_, sC_, i64_w, i32_w]
               rfl
              refine pure_ (i := 7) (N := some 36) (v := ?_) (a' := ?_) #[true, true, true, true, true, true, true, true, false, false, false, false, false, false, false, false, false, false, false] rfl rfl (qq HT_.out (by kernel_rfl)) (fun _ _ _ h => h) (Or.inl ⟨by rfl, ?_⟩) ?_ ?_
              rotate_left
              ·intro w'
               go_simp
               with_reducible rfl
              rotate_left
              ·simp only [Act.put, sA_, sB_, sC_, i64_w, i32_w]
               rfl
              refine pure_ (i := 8) (N := some 37) (v := ?_) (a' := ?_) #[true, true, true, true, true, true, true, true, true, false, false, false, false, false, false, false, false, false, false] rfl rfl (qq HT_.out (by kernel_rfl)) (fun _ _ _ h => h) (Or.inl ⟨by rfl, ?_⟩) ?_ ?_
              rotate_left
              ·intro w'
               go_simp
               with_reducible rfl
              rotate_left
              ·simp only [Act.put, sA_, sB_, sC_, i64_w, i32_w]
               rfl
              refine pure_ (i := 10) (N := some 39) (v := ?_) (a' := ?_) #[true, true, true, true, true, true, true, true, true, false, true, false, false, false, false, false, false, false, false] rfl rfl (qq HT_.out (by kernel_rfl)) (fun _ _ _ h => h) (Or.inl ⟨by rfl, ?_⟩) ?_ ?_
              rotate_left
              ·intro w'
               go_simp
               with_reducible rfl
              rotate_left
              ·simp only [Act.put, sA_, sB_, sC_, i64_w, i32_w]
               rfl
              refine pure_ (i := 11) (N := some 40) (v := ?_) (a' := ?_) #[true, true, true, true, true, true, true, true, true, false, true, true, false, false, false, false, false, false, false] rfl rfl (qq HT_.out (by kernel_rfl)) (fun _ _ _ h => h) (Or.inl ⟨by rfl, ?_⟩) ?_ ?_
              rotate_left
              ·intro w'
               go_simp
               with_reducible rfl
              rotate_left
              ·simp only [Act.put, sA_, sB_, sC_, i64_w, i32_w]
               rfl
              refine take_ (i := 9) (N := some 38) (v := ?_) (a' := ?_) #[true, true, true, true, true, true, true, true, true, true, true, true, false, false, false, false, false, false, false] rfl rfl (qz HT_.out HW_.out (by kernel_rfl)) (fun _ _ _ h => h) (Or.inl ⟨by rfl, ?_⟩) hHeld ?_ ?_
              rotate_left
              ·rintro w' ⟨s0, s1, s2, s3, s4, s5, s6, s7, s8⟩
               go_simp
               with_reducible rfl
              rotate_left
              ·simp only [Act.put, sA_, sB_, sC_, i64_w, i32_w]
               rfl
              refine pure_ (i := 12) (N := some 41) (v := ?_) (a' := ?_) #[true, true, true, true, true, true, true, true, true, true, true, true, true, false, false, false, false, false, false] rfl rfl (qq HT_.out (by kernel_rfl)) (fun _ _ _ h => h) (Or.inl ⟨by rfl, ?_⟩) ?_ ?_
              rotate_left
              ·intro w'
               go_simp
               with_reducible rfl
              rotate_left
              ·simp only [Act.put, sA_, sB_, sC_, i64_w, i32_w]
               rfl
              refine take_ (i := 13) (N := some 42) (v := ?_) (a' := ?_) #[true, true, true, true, true, true, true, true, true, true, true, true, true, true, false, false, false, false, false] rfl rfl (qz HT_.out HW_.out (by kernel_rfl)) (fun _ _ _ h => h) (Or.inl ⟨by rfl, ?_⟩) hHeld ?_ ?_
              rotate_left
              ·rintro w' ⟨s0, s1, s2, s3, s4, s5, s6, s7, s8⟩
               go_simp
               with_reducible rfl
              rotate_left
              ·simp only [Act.put, sA_, sB_, sC_, i64_w, i32_w]
               rfl
              refine take_ (i := 14) (N := some 43) (v := ?_) (a' := ?_) #[true, true, true, true, true, true, true, true, true, true, true, true, true, true, true, false, false, false, false] rfl rfl (qz HT_.out HW_.out (by kernel_rfl)) (fun _ _ _ h => h) (Or.inl ⟨by rfl, ?_⟩) hHeld ?_ ?_
              rotate_left
              ·rintro w' ⟨s0, s1, s2, s3, s4, s5, s6, s7, s8⟩
               go_simp
               with_reducible rfl
              rotate_left
              ·simp only [Act.put, sA_, sB_, sC_, i64_w, i32_w]
               rfl
              refine one_ (i := 15) (N := some 44) #[true, true, true, true, true, true, true, true, true, true, true, true, true, true, true, true, false, false, false] rfl rfl (zh HT_.out (by kernel_rfl)) (by decide) (fun K hK => ?_)
              refine goes_ Tryd.func29 (by kernel_rfl) rfl #[.agg #[.int .i64 ((qk l0_2 (ji19)).f0), .int .i64 ((qk l0_2 (ji19)).f1), .bool ((qk l0_2 (ji19)).f2)], .agg #[.int .i64 ((qk l0_2 x24_2).f0), .int .i64 ((qk l0_2 x24_2).f1), .bool ((qk l0_2 x24_2).f2)]] (by rfl) rfl rfl (by (try simp only [List.map_toArray, List.map_cons, List.map_nil]); first | done | (simp only [hji19]; rfl) | rfl | (simp only [List.length_drop, List.length_take]; rfl)) ?_
              with_reducible refine (impl_compareBlocks.calls k2 ((qk l0_2 (ji19)).f0) ((qk l0_2 (ji19)).f1) ((qk l0_2 (ji19)).f2) ((qk l0_2 x24_2).f0) ((qk l0_2 x24_2).f1) ((qk l0_2 x24_2).f2) t216 _ A22.out).mono ?_
              rintro e w30 ⟨rfl, hb⟩
              refine ⟨_, rfl, ?_⟩
              have n0_ := qb.mk (qn (g := gb209) (o := .cells #[.int .i64 a0_0, .int .i64 a0_1, .slice (some ad212) l0_2.length c0_2] 24 (0, 0)) (bk_ BK209) hb)
              have n1_ := qb.mk (qn (g := gb213) (o := .cells #[.int .i64 ((qk l0_2 x24_2).f0), .int .i64 ((qk l0_2 x24_2).f1), .bool ((qk l0_2 x24_2).f2)] 39 (0, 0)) (bk_ BK213) hb)
              have n2_ := qb.mk (qm (be2_ HB GE209 GE213) hb)
              clear BK209
              clear BK213
              clear HB
              have BK209 := n0_
              have BK213 := n1_
              have HB := n2_
              clear n0_ n1_ n2_
              (try clear hb)
              (try clear hb2)
              (try clear hk)
              (try clear hi)
              refine hK.out _ _ ⟨(qg BK209.out 0).trans rfl, (qg BK209.out 1).trans rfl, (qg BK209.out 2).trans rfl, (qg BK213.out 0).trans rfl, (qg BK213.out 1).trans rfl, (qg BK213.out 2).trans rfl, ((HB.out.cell (World.block_lt_of_cell? w _ hw215_0)).trans hw215_0), ((HB.out.cell (World.block_lt_of_cell? w _ hw215_1)).trans hw215_1), ((HB.out.cell (World.block_lt_of_cell? w _ hw215_2)).trans hw215_2)⟩ (fun hHeld => ?_)
              clear hK K
              refine norm_ (a' := ?_) ?_ ?_
              rotate_left
              ·show Act.put _ (some 44) _ = _
               simp only [Act.put, sA_, sB_, sC_, i64_w, i32_w]
               rfl
              refine pure_ (i := 16) (N := some 45) (v := ?_) (a' := ?_) #[true, true, true, true, true, true, true, true, true, true, true, true, true, true, true, true, true, false, false] rfl rfl (qq HT_.out (by kernel_rfl)) (fun _ _ _ h => h) (Or.inl ⟨by rfl, ?_⟩) ?_ ?_
              rotate_left
              ·intro w'
               go_simp
               with_reducible rfl
              rotate_left
              ·simp only [Act.put, sA_, sB_, sC_, i64_w, i32_w]
               rfl
              refine pure_ (i := 17) (N := some 46) (v := ?_) (a' := ?_) #[true, true, true, true, true, true, true, true, true, true, true, true, true, true, true, true, true, true, false] rfl rfl (qq HT_.out (by kernel_rfl)) (fun _ _ _ h => h) (Or.inl ⟨by rfl, ?_⟩) ?_ ?_
              rotate_left
              ·intro w'
               go_simp
               with_reducible rfl
              rotate_left
              ·simp only [Act.put, sA_, sB_, sC_, i64_w, i32_w]
               rfl
              refine pure_ (i := 18) (N := some 47) (v := ?_) (a' := ?_) #[true, true, true, true, true, true, true, true, true, true, true, true, true, true, true, true, true, true, true] rfl rfl (qq HT_.out (by kernel_rfl)) (fun _ _ _ h => h) (Or.inl ⟨by rfl, ?_⟩) ?_ ?_
              rotate_left
              ·intro w'
               go_simp
               with_reducible rfl
              rotate_left
              ·simp only [Act.put, sA_, sB_, sC_, i64_w, i32_w]
               rfl
              refine done_ (zq HT_.out (by kernel_rfl)) ?_
              try go_wp2
              go_ret
              exact ⟨by first | rfl | (simp [qt, qr] <;> rfl) | (simp only [← hji19]; first | rfl | (simp [qt, qr] <;> rfl)) | (simp [*, qt, qr] <;> rfl), be2_ HB GE209 GE213⟩
             ·rw [if_neg c23] at H
              have c23b0 : decide (0 ≤ t216) = false := decide_eq_false c23
              clear c23
              have H' := qb.mk H
              clear H
              have p212 : 0 ≤ (x24_2 : Int) := od_
              have q212 : x24_2 < (l0_2.length : Int) := od_
              obtain ⟨ad212, e212, hx212_0, hx212_1, hx212_2⟩ := zv HR0_2.out x24_2 p212 q212
              cases e212
              replace hx212_0 := (HB.out.cell (World.block_lt_of_cell? w _ hx212_0)).trans hx212_0
              replace hx212_1 := (HB.out.cell (World.block_lt_of_cell? w _ hx212_1)).trans hx212_1
              replace hx212_2 := (HB.out.cell (World.block_lt_of_cell? w _ hx212_2)).trans hx212_2
              replace p212 := eq_true p212
              replace q212 := eq_true q212
              try go_wp2_with (first | ((with_reducible refine zc (N := 4) rfl ?_); (try (refine gate_guard (by rfl) ?_; dsimp only)); refine zb ?hg (N := 4) ?hd (cs := #[.int .i64 0, .int .i64 0, .bool false]) (t := 39) ?hr ?_; (case hd => rfl); (case hg => rfl); (case hr => first | (go_simp; done) | (go_simp; rfl)); intro gb213 hg w31 hbox hb; have n0_ := qb.mk (qn (g := gb209) (o := .cells #[.int .i64 a0_0, .int .i64 a0_1, .slice (some ad212) l0_2.length c0_2] 24 (0, 0)) (bk_ BK209) hb); have n1_ := qb.mk (qm (be1_ HB GE209) hb); have n2_ := qb.mk (hbox); have n3_ := qb.mk ((by rw [hg]; exact (ql (be1_ HB GE209)) : w.heap.size ≤ gb213)); have n4_ := qb.mk ((by rw [hg]; exact (ql (be1_ HB GE209)) : w.heap.size ≤ gb213)); have n5_ := qb.mk ((by rw [hg]; exact Nat.ne_of_lt (zd (g := gb209) (o := .cells #[.int .i64 a0_0, .int .i64 a0_1, .slice (some ad212) l0_2.length c0_2] 24 (0, 0)) (bk_ BK209)) : gb209 ≠ gb213)); have n6_ := qb.mk ((by rw [hg]; exact Nat.ne_of_gt (zd (g := gb209) (o := .cells #[.int .i64 a0_0, .int .i64 a0_1, .slice (some ad212) l0_2.length c0_2] 24 (0, 0)) (bk_ BK209)) : gb213 ≠ gb209)); clear BK209; clear HB; have BK209 := n0_; have HB := n1_; have BK213 := n2_; have GW213 := n3_; have GE213 := n4_; have NB209_213 := n5_; have NB213_209 := n6_; clear n0_ n1_ n2_ n3_ n4_ n5_ n6_; clear hb hbox hg; have hnb32 := NB213_209.out; have hnc32 := NB209_213.out; have hcz33_0 : w31.cell? ⟨gb213, 0, none⟩ = some (.int .i64 0) := (qg BK213.out 0).trans rfl; have hcz33_1 : w31.cell? ⟨gb213, 1, none⟩ = some (.int .i64 0) := (qg BK213.out 1).trans rfl; have hcz33_2 : w31.cell? ⟨gb213, 2, none⟩ = some (.bool false) := (qg BK213.out 2).trans rfl; have hfz33_0 := qj BK213.out 0; have hfz33_1 := qj BK213.out 1; have hfz33_2 := qj BK213.out 2))
              have n0_ : qb ((((w31.setCell ⟨gb213, 0, none⟩ (.int .i64 ((qk l0_2 x24_2).f0))).setCell ⟨gb213, 1, none⟩ (.int .i64 ((qk l0_2 x24_2).f1))).setCell ⟨gb213, 2, none⟩ (.bool ((qk l0_2 x24_2).f2))).heap[gb209]? = some (.cells #[.int .i64 a0_0, .int .i64 a0_1, .slice (some ad212) l0_2.length c0_2] 24 (0, 0))) := ⟨by (with_reducible repeat (first | refine qf ?_ _ | refine qi ?_ | refine qe ?_ _)); refine ze ?_ NB209_213.out _; (with_reducible repeat (first | refine qf ?_ _ | refine qi ?_ | refine qe ?_ _)); refine ze ?_ NB209_213.out _; (with_reducible repeat (first | refine qf ?_ _ | refine qi ?_ | refine qe ?_ _)); refine ze ?_ NB209_213.out _; (with_reducible repeat (first | refine qf ?_ _ | refine qi ?_ | refine qe ?_ _)); exact BK209.out⟩
              have n1_ : qb ((((w31.setCell ⟨gb213, 0, none⟩ (.int .i64 ((qk l0_2 x24_2).f0))).setCell ⟨gb213, 1, none⟩ (.int .i64 ((qk l0_2 x24_2).f1))).setCell ⟨gb213, 2, none⟩ (.bool ((qk l0_2 x24_2).f2))).heap[gb213]? = some (.cells #[.int .i64 ((qk l0_2 x24_2).f0), .int .i64 ((qk l0_2 x24_2).f1), .bool ((qk l0_2 x24_2).f2)] 39 (0, 0))) := ⟨by (with_reducible repeat (first | refine qf ?_ _ | refine qi ?_ | refine qe ?_ _)); refine qx (cs := #[.int .i64 ((qk l0_2 x24_2).f0), .int .i64 ((qk l0_2 x24_2).f1), .bool false]) ?_ 2 _ rfl; (with_reducible repeat (first | refine qf ?_ _ | refine qi ?_ | refine qe ?_ _)); refine qx (cs := #[.int .i64 ((qk l0_2 x24_2).f0), .int .i64 0, .bool false]) ?_ 1 _ rfl; (with_reducible repeat (first | refine qf ?_ _ | refine qi ?_ | refine qe ?_ _)); refine qx (cs := #[.int .i64 0, .int .i64 0, .bool false]) ?_ 0 _ rfl; (with_reducible repeat (first | refine qf ?_ _ | refine qi ?_ | refine qe ?_ _)); exact BK213.out⟩
              have n2_ : qb (Below w.heap.size w (((w31.setCell ⟨gb213, 0, none⟩ (.int .i64 ((qk l0_2 x24_2).f0))).setCell ⟨gb213, 1, none⟩ (.int .i64 ((qk l0_2 x24_2).f1))).setCell ⟨gb213, 2, none⟩ (.bool ((qk l0_2 x24_2).f2)))) := ⟨be2_ HB GE209 GE213⟩
              (try clear BK209)
              (try clear BK213)
              (try clear HB)
              generalize (((w31.setCell ⟨gb213, 0, none⟩ (.int .i64 ((qk l0_2 x24_2).f0))).setCell ⟨gb213, 1, none⟩ (.int .i64 ((qk l0_2 x24_2).f1))).setCell ⟨gb213, 2, none⟩ (.bool ((qk l0_2 x24_2).f2))) = w34 at n0_ n1_ n2_ ⊢
              have BK209 := n0_
              have BK213 := n1_
              have HB := n2_
              clear n0_ n1_ n2_
              have n0_ := qb.mk (qi BK209.out)
              have n1_ := qb.mk (qi BK213.out)
              have n2_ := qb.mk (qc HB.out)
              clear BK209
              clear BK213
              clear HB
              have BK209 := n0_
              have BK213 := n1_
              have HB := n2_
              clear n0_ n1_ n2_
              have p215 : 0 ≤ ((ji19) : Int) := od_
              have q215 : (ji19) < (l0_2.length : Int) := od_
              obtain ⟨ad215, e215, hx215_0, hx215_1, hx215_2⟩ := zv HR0_2.out (ji19) p215 q215
              have hw215_2 := hx215_2
              have hw215_1 := hx215_1
              have hw215_0 := hx215_0
              obtain rfl : ad212 = ad215 := (by injection e215)
              replace hx215_0 := (HB.out.cell (World.block_lt_of_cell? w _ hx215_0)).trans hx215_0
              replace hx215_1 := (HB.out.cell (World.block_lt_of_cell? w _ hx215_1)).trans hx215_1
              replace hx215_2 := (HB.out.cell (World.block_lt_of_cell? w _ hx215_2)).trans hx215_2
              replace p215 := eq_true p215
              replace q215 := eq_true q215
              refine zu (n := 19) (S := fun w' => w'.cell? ⟨gb209, 0, none⟩ = some (.int .i64 a0_0) ∧ w'.cell? ⟨gb209, 1, none⟩ = some (.int .i64 a0_1) ∧ w'.cell? ⟨gb209, 2, none⟩ = some (.slice (some ad212) l0_2.length c0_2) ∧ w'.cell? ⟨gb213, 0, none⟩ = some (.int .i64 ((qk l0_2 x24_2).f0)) ∧ w'.cell? ⟨gb213, 1, none⟩ = some (.int .i64 ((qk l0_2 x24_2).f1)) ∧ w'.cell? ⟨gb213, 2, none⟩ = some (.bool ((qk l0_2 x24_2).f2)) ∧ w'.cell? (ad212.add (((ji19)).toNat * 3)) = some (.int .i64 ((qk l0_2 (ji19)).f0)) ∧ w'.cell? ⟨(ad212.add (((ji19)).toNat * 3)).block, (ad212.add (((ji19)).toNat * 3)).off + 1, none⟩ = some (.int .i64 ((qk l0_2 (ji19)).f1)) ∧ w'.cell? ⟨(ad212.add (((ji19)).toNat * 3)).block, (ad212.add (((ji19)).toNat * 3)).off + 2, none⟩ = some (.bool ((qk l0_2 (ji19)).f2))) (ds := []) #[false, false, false, false, false, false, false, false, false, false, false, false, false, false, false, false, false, false, false] (by kernel_rfl) rfl rfl ⟨(qg BK209.out 0).trans rfl, (qg BK209.out 1).trans rfl, (qg BK209.out 2).trans rfl, (qg BK213.out 0).trans rfl, (qg BK213.out 1).trans rfl, (qg BK213.out 2).trans rfl, ((HB.out.cell (World.block_lt_of_cell? w _ hw215_0)).trans hw215_0), ((HB.out.cell (World.block_lt_of_cell? w _ hw215_1)).trans hw215_1), ((HB.out.cell (World.block_lt_of_cell? w _ hw215_2)).trans hw215_2)⟩ (fun hHeld => ?_); refine zl impl_IsCity.tab6 impl_IsCity.bits6 (fun HT_ HW_ => ?_)
              generalize w34.drew = w35 at BK209 BK213 HB hx215_0 hx215_1 hx215_2 hHeld ⊢
              refine take_ (i := 0) (N := some 29) (v := ?_) (a' := ?_) #[true, false, false, false, false, false, false, false, false, false, false, false, false, false, false, false, false, false, false] rfl rfl (qz HT_.out HW_.out (by kernel_rfl)) (fun _ _ _ h => h) (Or.inl ⟨by rfl, ?_⟩) hHeld ?_ ?_
              rotate_left
              ·rintro w' ⟨s0, s1, s2, s3, s4, s5, s6, s7, s8⟩
               go_simp
               with_reducible rfl
              rotate_left
              ·simp only [Act.put, sA_, sB_, sC_, i64_w, i32_w]
               rfl
              refine take_ (i := 1) (N := some 30) (v := ?_) (a' := ?_) #[true, true, false, false, false, false, false, false, false, false, false, false, false, false, false, false, false, false, false] rfl rfl (qz HT_.out HW_.out (by kernel_rfl)) (fun _ _ _ h => h) (Or.inl ⟨by rfl, ?_⟩) hHeld ?_ ?_
              rotate_left
              ·rintro w' ⟨s0, s1, s2, s3, s4, s5, s6, s7, s8⟩
               go_simp
               with_reducible rfl
              rotate_left
              ·simp only [Act.put, sA_, sB_, sC_, i64_w, i32_w]
               rfl
              refine one_ (i := 2) (N := some 31) #[true, true, true, false, false, false, false, false, false, false, false, false, false, false, false, false, false, false, false] rfl rfl (zh HT_.out (by kernel_rfl)) (by decide) (fun K hK => ?_)
              refine goes_ Tryd.func28 (by kernel_rfl) rfl #[.agg #[.int .i64 a0_0, .int .i64 a0_1, .slice (some ad212) l0_2.length c0_2], .agg #[.int .i64 ((qk l0_2 x24_2).f0), .int .i64 ((qk l0_2 x24_2).f1), .bool ((qk l0_2 x24_2).f2)]] (by rfl) rfl rfl al_ ?_
              with_reducible refine (impl_isBlock.calls a0_0 a0_1 _ _ l0_2 ((qk l0_2 x24_2).f0) ((qk l0_2 x24_2).f1) ((qk l0_2 x24_2).f2) true _ ?side1 ?side2 A16.out).mono ?_
              (case side1 => repeat (first | exact (Kd.C_below HR0_2.out HB.out) | (with_reducible refine Kd.zp ?_ _) | (with_reducible refine Kd.zo ?_ _) | (with_reducible refine Kd.zt ?_)))
              (case side2 => exact HC0_2.out)
              rintro e w36 ⟨rfl, hb⟩
              refine ⟨_, rfl, ?_⟩
              have n0_ := qb.mk (qn (g := gb209) (o := .cells #[.int .i64 a0_0, .int .i64 a0_1, .slice (some ad212) l0_2.length c0_2] 24 (0, 0)) (bk_ BK209) hb)
              have n1_ := qb.mk (qn (g := gb213) (o := .cells #[.int .i64 ((qk l0_2 x24_2).f0), .int .i64 ((qk l0_2 x24_2).f1), .bool ((qk l0_2 x24_2).f2)] 39 (0, 0)) (bk_ BK213) hb)
              have n2_ := qb.mk (qm (be2_ HB GE209 GE213) hb)
              clear BK209
              clear BK213
              clear HB
              have BK209 := n0_
              have BK213 := n1_
              have HB := n2_
              clear n0_ n1_ n2_
              (try clear hb)
              (try clear hb2)
              (try clear hk)
              (try clear hi)
              refine hK.out _ _ ⟨(qg BK209.out 0).trans rfl, (qg BK209.out 1).trans rfl, (qg BK209.out 2).trans rfl, (qg BK213.out 0).trans rfl, (qg BK213.out 1).trans rfl, (qg BK213.out 2).trans rfl, ((HB.out.cell (World.block_lt_of_cell? w _ hw215_0)).trans hw215_0), ((HB.out.cell (World.block_lt_of_cell? w _ hw215_1)).trans hw215_1), ((HB.out.cell (World.block_lt_of_cell? w _ hw215_2)).trans hw215_2)⟩ (fun hHeld => ?_)
              clear hK K
              refine norm_ (a' := ?_) ?_ ?_
              rotate_left
              ·show Act.put _ (some 31) _ = _
               simp only [Act.put, sA_, sB_, sC_, i64_w, i32_w]
               rfl
              refine pure_ (i := 3) (N := some 32) (v := ?_) (a' := ?_) #[true, true, true, true, false, false, false, false, false, false, false, false, false, false, false, false, false, false, false] rfl rfl (qq HT_.out (by kernel_rfl)) (fun _ _ _ h => h) (Or.inl ⟨by rfl, ?_⟩) ?_ ?_
              rotate_left
              ·intro w'
               go_simp
               with_reducible rfl
              rotate_left
              ·simp only [Act.put, sA_, sB_, sC_, i64_w, i32_w]
               rfl
              refine pure_ (i := 4) (N := some 33) (v := ?_) (a' := ?_) #[true, true, true, true, true, false, false, false, false, false, false, false, false, false, false, false, false, false, false] rfl rfl (qq HT_.out (by kernel_rfl)) (fun _ _ _ h => h) (Or.inl ⟨by rfl, ?_⟩) ?_ ?_
              rotate_left
              ·intro w'
               go_simp
               with_reducible rfl
              rotate_left
              ·simp only [Act.put, sA_, sB_, sC_, i64_w, i32_w]
               rfl
              refine pure_ (i := 5) (N := some 34) (v := ?_) (a' := ?_) #[true, true, true, true, true, true, false, false, false, false, false, false, false, false, false, false, false, false, false] rfl rfl (qq HT_.out (by kernel_rfl)) (fun _ _ _ h => h) (Or.inl ⟨by rfl, ?_⟩) ?_ ?_
              rotate_left
              ·intro w'
               go_simp
               with_reducible rfl
              rotate_left
              ·simp only [Act.put, sA_, sB_, sC_, i64_w, i32_w]
               rfl
              refine pure_ (i := 6) (N := some 35) (v := ?_) (a' := ?_) #[true, true, true, true, true, true, true, false, false, false, false, false, false, false, false, false, false, false, false] rfl rfl (qq HT_.out (by kernel_rfl)) (fun _ _ _ h => h) (Or.inl ⟨by rfl, ?_⟩) ?_ ?_
              rotate_left
              ·intro w'
               go_simp
               with_reducible rfl
              rotate_left
              ·simp only [Act.put, sA_, sB_, sC_, i64_w, i32_w]
               rfl
              refine pure_ (i := 7) (N := some 36) (v := ?_) (a' := ?_) #[true, true, true, true, true, true, true, true, false, false, false, false, false, false, false, false, false, false, false] rfl rfl (qq HT_.out (by kernel_rfl)) (fun _ _ _ h => h) (Or.inl ⟨by rfl, ?_⟩) ?_ ?_
              rotate_left
              ·intro w'
               go_simp
               with_reducible rfl
              rotate_left
              ·simp only [Act.put, sA_, sB_, sC_, i64_w, i32_w]
               rfl
              refine pure_ (i := 8) (N := some 37) (v := ?_) (a' := ?_) #[true, true, true, true, true, true, true, true, true, false, false, false, false, false, false, false, false, false, false] rfl rfl (qq HT_.out (by kernel_rfl)) (fun _ _ _ h => h) (Or.inl ⟨by rfl, ?_⟩) ?_ ?_
              rotate_left
              ·intro w'
               go_simp
               with_reducible rfl
              rotate_left
              ·simp only [Act.put, sA_, sB_, sC_, i64_w, i32_w]
               rfl
              refine pure_ (i := 10) (N := some 39) (v := ?_) (a' := ?_) #[true, true, true, true, true, true, true, true, true, false, true, false, false, false, false, false, false, false, false] rfl rfl (qq HT_.out (by kernel_rfl)) (fun _ _ _ h => h) (Or.inl ⟨by rfl, ?_⟩) ?_ ?_
              rotate_left
              ·intro w'
               go_simp
               with_reducible rfl
              rotate_left
              ·simp only [Act.put, sA_, sB_, sC_, i64_w, i32_w]
               rfl
              refine pure_ (i := 11) (N := some 40) (v := ?_) (a' := ?_) #[true, true, true, true, true, true, true, true, true, false, true, true, false, false, false, false, false, false, false] rfl rfl (qq HT_.out (by kernel_rfl)) (fun _ _ _ h => h) (Or.inl ⟨by rfl, ?_⟩) ?_ ?_
              rotate_left
              ·intro w'
               go_simp
               with_reducible rfl
              rotate_left
              ·simp only [Act.put, sA_, sB_, sC_, i64_w, i32_w]
               rfl
              refine take_ (i := 9) (N := some 38) (v := ?_) (a' := ?_) #[true, true, true, true, true, true, true, true, true, true, true, true, false, false, false, false, false, false, false] rfl rfl (qz HT_.out HW_.out (by kernel_rfl)) (fun _ _ _ h => h) (Or.inl ⟨by rfl, ?_⟩) hHeld ?_ ?_
              rotate_left
              ·rintro w' ⟨s0, s1, s2, s3, s4, s5, s6, s7, s8⟩
               go_simp
               with_reducible rfl
              rotate_left
              ·simp only [Act.put, sA_, sB_, sC_, i64_w, i32_w]
               rfl
              refine pure_ (i := 12) (N := some 41) (v := ?_) (a' := ?_) #[true, true, true, true, true, true, true, true, true, true, true, true, true, false, false, false, false, false, false] rfl rfl (qq HT_.out (by kernel_rfl)) (fun _ _ _ h => h) (Or.inl ⟨by rfl, ?_⟩) ?_ ?_
              rotate_left
              ·intro w'
               go_simp
               with_reducible rfl
              rotate_left
              ·simp only [Act.put, sA_, sB_, sC_, i64_w, i32_w]
               rfl
              refine take_ (i := 13) (N := some 42) (v := ?_) (a' := ?_) #[true, true, true, true, true, true, true, true, true, true, true, true, true, true, false, false, false, false, false] rfl rfl (qz HT_.out HW_.out (by kernel_rfl)) (fun _ _ _ h => h) (Or.inl ⟨by rfl, ?_⟩) hHeld ?_ ?_
              rotate_left
              ·rintro w' ⟨s0, s1, s2, s3, s4, s5, s6, s7, s8⟩
               go_simp
               with_reducible rfl
              rotate_left
              ·simp only [Act.put, sA_, sB_, sC_, i64_w, i32_w]
               rfl
              refine take_ (i := 14) (N := some 43) (v := ?_) (a' := ?_) #[true, true, true, true, true, true, true, true, true, true, true, true, true, true, true, false, false, false, false] rfl rfl (qz HT_.out HW_.out (by kernel_rfl)) (fun _ _ _ h => h) (Or.inl ⟨by rfl, ?_⟩) hHeld ?_ ?_
              rotate_left
              ·rintro w' ⟨s0, s1, s2, s3, s4, s5, s6, s7, s8⟩
               go_simp
               with_reducible rfl
              rotate_left
              ·simp only [Act.put, sA_, sB_, sC_, i64_w, i32_w]
               rfl
              refine one_ (i := 15) (N := some 44) #[true, true, true, true, true, true, true, true, true, true, true, true, true, true, true, true, false, false, false] rfl rfl (zh HT_.out (by kernel_rfl)) (by decide) (fun K hK => ?_)
              refine goes_ Tryd.func29 (by kernel_rfl) rfl #[.agg #[.int .i64 ((qk l0_2 (ji19)).f0), .int .i64 ((qk l0_2 (ji19)).f1), .bool ((qk l0_2 (ji19)).f2)], .agg #[.int .i64 ((qk l0_2 x24_2).f0), .int .i64 ((qk l0_2 x24_2).f1), .bool ((qk l0_2 x24_2).f2)]] (by rfl) rfl rfl (by (try simp only [List.map_toArray, List.map_cons, List.map_nil]); first | done | (simp only [hji19]; rfl) | rfl | (simp only [List.length_drop, List.length_take]; rfl)) ?_
              with_reducible refine (impl_compareBlocks.calls k2 ((qk l0_2 (ji19)).f0) ((qk l0_2 (ji19)).f1) ((qk l0_2 (ji19)).f2) ((qk l0_2 x24_2).f0) ((qk l0_2 x24_2).f1) ((qk l0_2 x24_2).f2) t216 _ A22.out).mono ?_
              rintro e w37 ⟨rfl, hb⟩
              refine ⟨_, rfl, ?_⟩
              have n0_ := qb.mk (qn (g := gb209) (o := .cells #[.int .i64 a0_0, .int .i64 a0_1, .slice (some ad212) l0_2.length c0_2] 24 (0, 0)) (bk_ BK209) hb)
              have n1_ := qb.mk (qn (g := gb213) (o := .cells #[.int .i64 ((qk l0_2 x24_2).f0), .int .i64 ((qk l0_2 x24_2).f1), .bool ((qk l0_2 x24_2).f2)] 39 (0, 0)) (bk_ BK213) hb)
              have n2_ := qb.mk (qm (be2_ HB GE209 GE213) hb)
              clear BK209
              clear BK213
              clear HB
              have BK209 := n0_
              have BK213 := n1_
              have HB := n2_
              clear n0_ n1_ n2_
              (try clear hb)
              (try clear hb2)
              (try clear hk)
              (try clear hi)
              refine hK.out _ _ ⟨(qg BK209.out 0).trans rfl, (qg BK209.out 1).trans rfl, (qg BK209.out 2).trans rfl, (qg BK213.out 0).trans rfl, (qg BK213.out 1).trans rfl, (qg BK213.out 2).trans rfl, ((HB.out.cell (World.block_lt_of_cell? w _ hw215_0)).trans hw215_0), ((HB.out.cell (World.block_lt_of_cell? w _ hw215_1)).trans hw215_1), ((HB.out.cell (World.block_lt_of_cell? w _ hw215_2)).trans hw215_2)⟩ (fun hHeld => ?_)
              clear hK K
              refine norm_ (a' := ?_) ?_ ?_
              rotate_left
              ·show Act.put _ (some 44) _ = _
               simp only [Act.put, sA_, sB_, sC_, i64_w, i32_w]
               rfl
              refine pure_ (i := 16) (N := some 45) (v := ?_) (a' := ?_) #[true, true, true, true, true, true, true, true, true, true, true, true, true, true, true, true, true, false, false] rfl rfl (qq HT_.out (by kernel_rfl)) (fun _ _ _ h => h) (Or.inl ⟨by rfl, ?_⟩) ?_ ?_
              rotate_left
              ·intro w'
               go_simp
               with_reducible rfl
              rotate_left
              ·simp only [Act.put, sA_, sB_, sC_, i64_w, i32_w]
               rfl
              refine pure_ (i := 17) (N := some 46) (v := ?_) (a' := ?_) #[true, true, true, true, true, true, true, true, true, true, true, true, true, true, true, true, true, true, false] rfl rfl (qq HT_.out (by kernel_rfl)) (fun _ _ _ h => h) (Or.inl ⟨by rfl, ?_⟩) ?_ ?_
              rotate_left
              ·intro w'
               go_simp
               with_reducible rfl
              rotate_left
              ·simp only [Act.put, sA_, sB_, sC_, i64_w, i32_w]
               rfl
              refine pure_ (i := 18) (N := some 47) (v := ?_) (a' := ?_) #[true, true, true, true, true, true, true, true, true, true, true, true, true, true, true, true, true, true, true] rfl rfl (qq HT_.out (by kernel_rfl)) (fun _ _ _ h => h) (Or.inl ⟨by rfl, ?_⟩) ?_ ?_
              rotate_left
              ·intro w'
               go_simp
               with_reducible rfl
              rotate_left
              ·simp only [Act.put, sA_, sB_, sC_, i64_w, i32_w]
               rfl
              refine done_ (zq HT_.out (by kernel_rfl)) ?_
              try go_wp2
              go_roundg k2
              case measure => have := HJ1.out; have := HK2.out; omega
              case rel => exact ⟨(wrap64 (x24_2 + 1)), es_, H', ⟨by have := HJ1.out; have := HK2.out; omega⟩, ⟨bk_ BK209⟩, ⟨be2_ HB GE209 GE213⟩⟩
            ·rw [if_neg c21] at H
             exact absurd H (by simp)
           ·rw [if_neg c20] at H
            exact absurd H (by simp)
          ·rw [if_neg c18] at H
           have c18b0 : decide (0 < x24_2) = false := decide_eq_false c18
           clear c18
           have H' := qb.mk H
           clear H
           have p212 : 0 ≤ (x24_2 : Int) := od_
           have q212 : x24_2 < (l0_2.length : Int) := od_
           obtain ⟨ad212, e212, hx212_0, hx212_1, hx212_2⟩ := zv HR0_2.out x24_2 p212 q212
           cases e212
           replace hx212_0 := (HB.out.cell (World.block_lt_of_cell? w _ hx212_0)).trans hx212_0
           replace hx212_1 := (HB.out.cell (World.block_lt_of_cell? w _ hx212_1)).trans hx212_1
           replace hx212_2 := (HB.out.cell (World.block_lt_of_cell? w _ hx212_2)).trans hx212_2
           replace p212 := eq_true p212
           replace q212 := eq_true q212
           try go_wp2_with (first | ((with_reducible refine zc (N := 4) rfl ?_); (try (refine gate_guard (by rfl) ?_; dsimp only)); refine zb ?hg (N := 4) ?hd (cs := #[.int .i64 0, .int .i64 0, .bool false]) (t := 39) ?hr ?_; (case hd => rfl); (case hg => rfl); (case hr => first | (go_simp; done) | (go_simp; rfl)); intro gb213 hg w38 hbox hb; have n0_ := qb.mk (qn (g := gb209) (o := .cells #[.int .i64 a0_0, .int .i64 a0_1, .slice (some ad212) l0_2.length c0_2] 24 (0, 0)) (bk_ BK209) hb); have n1_ := qb.mk (qm (be1_ HB GE209) hb); have n2_ := qb.mk (hbox); have n3_ := qb.mk ((by rw [hg]; exact (ql (be1_ HB GE209)) : w.heap.size ≤ gb213)); have n4_ := qb.mk ((by rw [hg]; exact (ql (be1_ HB GE209)) : w.heap.size ≤ gb213)); have n5_ := qb.mk ((by rw [hg]; exact Nat.ne_of_lt (zd (g := gb209) (o := .cells #[.int .i64 a0_0, .int .i64 a0_1, .slice (some ad212) l0_2.length c0_2] 24 (0, 0)) (bk_ BK209)) : gb209 ≠ gb213)); have n6_ := qb.mk ((by rw [hg]; exact Nat.ne_of_gt (zd (g := gb209) (o := .cells #[.int .i64 a0_0, .int .i64 a0_1, .slice (some ad212) l0_2.length c0_2] 24 (0, 0)) (bk_ BK209)) : gb213 ≠ gb209)); clear BK209; clear HB; have BK209 := n0_; have HB := n1_; have BK213 := n2_; have GW213 := n3_; have GE213 := n4_; have NB209_213 := n5_; have NB213_209 := n6_; clear n0_ n1_ n2_ n3_ n4_ n5_ n6_; clear hb hbox hg; have hnb39 := NB213_209.out; have hnc39 := NB209_213.out; have hcz40_0 : w38.cell? ⟨gb213, 0, none⟩ = some (.int .i64 0) := (qg BK213.out 0).trans rfl; have hcz40_1 : w38.cell? ⟨gb213, 1, none⟩ = some (.int .i64 0) := (qg BK213.out 1).trans rfl; have hcz40_2 : w38.cell? ⟨gb213, 2, none⟩ = some (.bool false) := (qg BK213.out 2).trans rfl; have hfz40_0 := qj BK213.out 0; have hfz40_1 := qj BK213.out 1; have hfz40_2 := qj BK213.out 2))
           have n0_ : qb ((((w38.setCell ⟨gb213, 0, none⟩ (.int .i64 ((qk l0_2 x24_2).f0))).setCell ⟨gb213, 1, none⟩ (.int .i64 ((qk l0_2 x24_2).f1))).setCell ⟨gb213, 2, none⟩ (.bool ((qk l0_2 x24_2).f2))).heap[gb209]? = some (.cells #[.int .i64 a0_0, .int .i64 a0_1, .slice (some ad212) l0_2.length c0_2] 24 (0, 0))) := ⟨by (with_reducible repeat (first | refine qf ?_ _ | refine qi ?_ | refine qe ?_ _)); refine ze ?_ NB209_213.out _; (with_reducible repeat (first | refine qf ?_ _ | refine qi ?_ | refine qe ?_ _)); refine ze ?_ NB209_213.out _; (with_reducible repeat (first | refine qf ?_ _ | refine qi ?_ | refine qe ?_ _)); refine ze ?_ NB209_213.out _; (with_reducible repeat (first | refine qf ?_ _ | refine qi ?_ | refine qe ?_ _)); exact BK209.out⟩
           have n1_ : qb ((((w38.setCell ⟨gb213, 0, none⟩ (.int .i64 ((qk l0_2 x24_2).f0))).setCell ⟨gb213, 1, none⟩ (.int .i64 ((qk l0_2 x24_2).f1))).setCell ⟨gb213, 2, none⟩ (.bool ((qk l0_2 x24_2).f2))).heap[gb213]? = some (.cells #[.int .i64 ((qk l0_2 x24_2).f0), .int .i64 ((qk l0_2 x24_2).f1), .bool ((qk l0_2 x24_2).f2)] 39 (0, 0))) := ⟨by (with_reducible repeat (first | refine qf ?_ _ | refine qi ?_ | refine qe ?_ _)); refine qx (cs := #[.int .i64 ((qk l0_2 x24_2).f0), .int .i64 ((qk l0_2 x24_2).f1), .bool false]) ?_ 2 _ rfl; (with_reducible repeat (first | refine qf ?_ _ | refine qi ?_ | refine qe ?_ _)); refine qx (cs := #[.int .i64 ((qk l0_2 x24_2).f0), .int .i64 0, .bool false]) ?_ 1 _ rfl; (with_reducible repeat (first | refine qf ?_ _ | refine qi ?_ | refine qe ?_ _)); refine qx (cs := #[.int .i64 0, .int .i64 0, .bool false]) ?_ 0 _ rfl; (with_reducible repeat (first | refine qf ?_ _ | refine qi ?_ | refine qe ?_ _)); exact BK213.out⟩
           have n2_ : qb (Below w.heap.size w (((w38.setCell ⟨gb213, 0, none⟩ (.int .i64 ((qk l0_2 x24_2).f0))).setCell ⟨gb213, 1, none⟩ (.int .i64 ((qk l0_2 x24_2).f1))).setCell ⟨gb213, 2, none⟩ (.bool ((qk l0_2 x24_2).f2)))) := ⟨be2_ HB GE209 GE213⟩
           (try clear BK209)
           (try clear BK213)
           (try clear HB)
           generalize (((w38.setCell ⟨gb213, 0, none⟩ (.int .i64 ((qk l0_2 x24_2).f0))).setCell ⟨gb213, 1, none⟩ (.int .i64 ((qk l0_2 x24_2).f1))).setCell ⟨gb213, 2, none⟩ (.bool ((qk l0_2 x24_2).f2))) = w41 at n0_ n1_ n2_ ⊢
           have BK209 := n0_
           have BK213 := n1_
           have HB := n2_
           clear n0_ n1_ n2_
           have n0_ := qb.mk (qi BK209.out)
           have n1_ := qb.mk (qi BK213.out)
           have n2_ := qb.mk (qc HB.out)
           clear BK209
           clear BK213
           clear HB
           have BK209 := n0_
           have BK213 := n1_
           have HB := n2_
           clear n0_ n1_ n2_
           refine zu (n := 19) (S := fun w' => w'.cell? ⟨gb209, 0, none⟩ = some (.int .i64 a0_0) ∧ w'.cell? ⟨gb209, 1, none⟩ = some (.int .i64 a0_1) ∧ w'.cell? ⟨gb209, 2, none⟩ = some (.slice (some ad212) l0_2.length c0_2) ∧ w'.cell? ⟨gb213, 0, none⟩ = some (.int .i64 ((qk l0_2 x24_2).f0)) ∧ w'.cell? ⟨gb213, 1, none⟩ = some (.int .i64 ((qk l0_2 x24_2).f1)) ∧ w'.cell? ⟨gb213, 2, none⟩ = some (.bool ((qk l0_2 x24_2).f2))) (ds := []) #[false, false, false, false, false, false, false, false, false, false, false, false, false, false, false, false, false, false, false] (by kernel_rfl) rfl rfl ⟨(qg BK209.out 0).trans rfl, (qg BK209.out 1).trans rfl, (qg BK209.out 2).trans rfl, (qg BK213.out 0).trans rfl, (qg BK213.out 1).trans rfl, (qg BK213.out 2).trans rfl⟩ (fun hHeld => ?_); refine zl impl_IsCity.tab6 impl_IsCity.bits6 (fun HT_ HW_ => ?_)
           generalize w41.drew = w42 at BK209 BK213 HB hHeld ⊢
           refine take_ (i := 0) (N := some 29) (v := ?_) (a' := ?_) #[true, false, false, false, false, false, false, false, false, false, false, false, false, false, false, false, false, false, false] rfl rfl (qz HT_.out HW_.out (by kernel_rfl)) (fun _ _ _ h => h) (Or.inl ⟨by rfl, ?_⟩) hHeld ?_ ?_
           rotate_left
           ·rintro w' ⟨s0, s1, s2, s3, s4, s5⟩
            go_simp
            with_reducible rfl
           rotate_left
           ·simp only [Act.put, sA_, sB_, sC_, i64_w, i32_w]
            rfl
           refine take_ (i := 1) (N := some 30) (v := ?_) (a' := ?_) #[true, true, false, false, false, false, false, false, false, false, false, false, false, false, false, false, false, false, false] rfl rfl (qz HT_.out HW_.out (by kernel_rfl)) (fun _ _ _ h => h) (Or.inl ⟨by rfl, ?_⟩) hHeld ?_ ?_
           rotate_left
           ·rintro w' ⟨s0, s1, s2, s3, s4, s5⟩
            go_simp
            with_reducible rfl
           rotate_left
           ·simp only [Act.put, sA_, sB_, sC_, i64_w, i32_w]
            rfl
           refine one_ (i := 2) (N := some 31) #[true, true, true, false, false, false, false, false, false, false, false, false, false, false, false, false, false, false, false] rfl rfl (zh HT_.out (by kernel_rfl)) (by decide) (fun K hK => ?_)
           refine goes_ Tryd.func28 (by kernel_rfl) rfl #[.agg #[.int .i64 a0_0, .int .i64 a0_1, .slice (some ad212) l0_2.length c0_2], .agg #[.int .i64 ((qk l0_2 x24_2).f0), .int .i64 ((qk l0_2 x24_2).f1), .bool ((qk l0_2 x24_2).f2)]] (by rfl) rfl rfl al_ ?_
           with_reducible refine (impl_isBlock.calls a0_0 a0_1 _ _ l0_2 ((qk l0_2 x24_2).f0) ((qk l0_2 x24_2).f1) ((qk l0_2 x24_2).f2) true _ ?side1 ?side2 A16.out).mono ?_
           (case side1 => repeat (first | exact (Kd.C_below HR0_2.out HB.out) | (with_reducible refine Kd.zp ?_ _) | (with_reducible refine Kd.zo ?_ _) | (with_reducible refine Kd.zt ?_)))
           (case side2 => exact HC0_2.out)
           rintro e w43 ⟨rfl, hb⟩
           refine ⟨_, rfl, ?_⟩
           have n0_ := qb.mk (qn (g := gb209) (o := .cells #[.int .i64 a0_0, .int .i64 a0_1, .slice (some ad212) l0_2.length c0_2] 24 (0, 0)) (bk_ BK209) hb)
           have n1_ := qb.mk (qn (g := gb213) (o := .cells #[.int .i64 ((qk l0_2 x24_2).f0), .int .i64 ((qk l0_2 x24_2).f1), .bool ((qk l0_2 x24_2).f2)] 39 (0, 0)) (bk_ BK213) hb)
           have n2_ := qb.mk (qm (be2_ HB GE209 GE213) hb)
           clear BK209
           clear BK213
           clear HB
           have BK209 := n0_
           have BK213 := n1_
           have HB := n2_
           clear n0_ n1_ n2_
           (try clear hb)
           (try clear hb2)
           (try clear hk)
           (try clear hi)
           refine hK.out _ _ ⟨(qg BK209.out 0).trans rfl, (qg BK209.out 1).trans rfl, (qg BK209.out 2).trans rfl, (qg BK213.out 0).trans rfl, (qg BK213.out 1).trans rfl, (qg BK213.out 2).trans rfl⟩ (fun hHeld => ?_)
           clear hK K
           refine norm_ (a' := ?_) ?_ ?_
           rotate_left
           ·show Act.put _ (some 31) _ = _
            simp only [Act.put, sA_, sB_, sC_, i64_w, i32_w]
            rfl
           refine pure_ (i := 3) (N := some 32) (v := ?_) (a' := ?_) #[true, true, true, true, false, false, false, false, false, false, false, false, false, false, false, false, false, false, false] rfl rfl (qq HT_.out (by kernel_rfl)) (fun _ _ _ h => h) (Or.inl ⟨by rfl, ?_⟩) ?_ ?_
           rotate_left
           ·intro w'
            go_simp
            with_reducible rfl
           rotate_left
           ·simp only [Act.put, sA_, sB_, sC_, i64_w, i32_w]
            rfl
           refine pure_ (i := 4) (N := some 33) (v := ?_) (a' := ?_) #[true, true, true, true, true, false, false, false, false, false, false, false, false, false, false, false, false, false, false] rfl rfl (qq HT_.out (by kernel_rfl)) (fun _ _ _ h => h) (Or.inl ⟨by rfl, ?_⟩) ?_ ?_
           rotate_left
           ·intro w'
            go_simp
            with_reducible rfl
           rotate_left
           ·simp only [Act.put, sA_, sB_, sC_, i64_w, i32_w]
            rfl
           refine pure_ (i := 5) (N := some 34) (v := ?_) (a' := ?_) #[true, true, true, true, true, true, false, false, false, false, false, false, false, false, false, false, false, false, false] rfl rfl (qq HT_.out (by kernel_rfl)) (fun _ _ _ h => h) (Or.inl ⟨by rfl, ?_⟩) ?_ ?_
           rotate_left
           ·intro w'
            go_simp
            with_reducible rfl
           rotate_left
           ·simp only [Act.put, sA_, sB_, sC_, i64_w, i32_w]
            rfl
           refine pure_ (i := 6) (N := some 35) (v := ?_) (a' := ?_) #[true, true, true, true, true, true, true, false, false, false, false, false, false, false, false, false, false, false, false] rfl rfl (qq HT_.out (by kernel_rfl)) (fun _ _ _ h => h) (Or.inl ⟨by rfl, ?_⟩) ?_ ?_
           rotate_left
           ·intro w'
            go_simp
            with_reducible rfl
           rotate_left
           ·simp only [Act.put, sA_, sB_, sC_, i64_w, i32_w]
            rfl
           refine pure_ (i := 7) (N := some 36) (v := ?_) (a' := ?_) #[true, true, true, true, true, true, true, true, false, false, false, false, false, false, false, false, false, false, false] rfl rfl (qq HT_.out (by kernel_rfl)) (fun _ _ _ h => h) (Or.inl ⟨by rfl, ?_⟩) ?_ ?_
           rotate_left
           ·intro w'
            go_simp
            with_reducible rfl
           rotate_left
           ·simp only [Act.put, sA_, sB_, sC_, i64_w, i32_w]
            rfl
           refine pure_ (i := 8) (N := some 37) (v := undef) (a' := ?_) #[true, true, true, true, true, true, true, true, true, false, false, false, false, false, false, false, false, false, false] rfl rfl (qq HT_.out (by kernel_rfl)) (fun _ _ _ h => h) (Or.inr ⟨by rfl, rfl⟩) ?_ ?_
           rotate_left
           ·simp only [Act.put, sA_, sB_, sC_, i64_w, i32_w]
            rfl
           refine pure_ (i := 9) (N := some 38) (v := undef) (a' := ?_) #[true, true, true, true, true, true, true, true, true, true, false, false, false, false, false, false, false, false, false] rfl rfl (qq HT_.out (by kernel_rfl)) (fun _ _ _ h => h) (Or.inr ⟨by rfl, rfl⟩) ?_ ?_
           rotate_left
           ·simp only [Act.put, sA_, sB_, sC_, i64_w, i32_w]
            rfl
           refine pure_ (i := 10) (N := some 39) (v := undef) (a' := ?_) #[true, true, true, true, true, true, true, true, true, true, true, false, false, false, false, false, false, false, false] rfl rfl (qq HT_.out (by kernel_rfl)) (fun _ _ _ h => h) (Or.inr ⟨by rfl, rfl⟩) ?_ ?_
           rotate_left
           ·simp only [Act.put, sA_, sB_, sC_, i64_w, i32_w]
            rfl
           refine pure_ (i := 11) (N := some 40) (v := undef) (a' := ?_) #[true, true, true, true, true, true, true, true, true, true, true, true, false, false, false, false, false, false, false] rfl rfl (qq HT_.out (by kernel_rfl)) (fun _ _ _ h => h) (Or.inr ⟨by rfl, rfl⟩) ?_ ?_
           rotate_left
           ·simp only [Act.put, sA_, sB_, sC_, i64_w, i32_w]
            rfl
           refine pure_ (i := 12) (N := some 41) (v := undef) (a' := ?_) #[true, true, true, true, true, true, true, true, true, true, true, true, true, false, false, false, false, false, false] rfl rfl (qq HT_.out (by kernel_rfl)) (fun _ _ _ h => h) (Or.inr ⟨by rfl, rfl⟩) ?_ ?_
           rotate_left
           ·simp only [Act.put, sA_, sB_, sC_, i64_w, i32_w]
            rfl
           refine pure_ (i := 13) (N := some 42) (v := undef) (a' := ?_) #[true, true, true, true, true, true, true, true, true, true, true, true, true, true, false, false, false, false, false] rfl rfl (qq HT_.out (by kernel_rfl)) (fun _ _ _ h => h) (Or.inr ⟨by rfl, rfl⟩) ?_ ?_
           rotate_left
           ·simp only [Act.put, sA_, sB_, sC_, i64_w, i32_w]
            rfl
           refine pure_ (i := 14) (N := some 43) (v := undef) (a' := ?_) #[true, true, true, true, true, true, true, true, true, true, true, true, true, true, true, false, false, false, false] rfl rfl (qq HT_.out (by kernel_rfl)) (fun _ _ _ h => h) (Or.inr ⟨by rfl, rfl⟩) ?_ ?_
           rotate_left
           ·simp only [Act.put, sA_, sB_, sC_, i64_w, i32_w]
            rfl
           refine pure_ (i := 15) (N := some 44) (v := undef) (a' := ?_) #[true, true, true, true, true, true, true, true, true, true, true, true, true, true, true, true, false, false, false] rfl rfl (qq HT_.out (by kernel_rfl)) (fun _ _ _ h => h) (Or.inr ⟨by rfl, rfl⟩) ?_ ?_
           rotate_left
           ·simp only [Act.put, sA_, sB_, sC_, i64_w, i32_w]
            rfl
           refine pure_ (i := 16) (N := some 45) (v := undef) (a' := ?_) #[true, true, true, true, true, true, true, true, true, true, true, true, true, true, true, true, true, false, false] rfl rfl (qq HT_.out (by kernel_rfl)) (fun _ _ _ h => h) (Or.inr ⟨by rfl, rfl⟩) ?_ ?_
           rotate_left
           ·simp only [Act.put, sA_, sB_, sC_, i64_w, i32_w]
            rfl
           refine pure_ (i := 17) (N := some 46) (v := ?_) (a' := ?_) #[true, true, true, true, true, true, true, true, true, true, true, true, true, true, true, true, true, true, false] rfl rfl (qq HT_.out (by kernel_rfl)) (fun _ _ _ h => h) (Or.inl ⟨by rfl, ?_⟩) ?_ ?_
           rotate_left
           ·intro w'
            go_simp
            with_reducible rfl
           rotate_left
           ·simp only [Act.put, sA_, sB_, sC_, i64_w, i32_w]
            rfl
           refine pure_ (i := 18) (N := some 47) (v := ?_) (a' := ?_) #[true, true, true, true, true, true, true, true, true, true, true, true, true, true, true, true, true, true, true] rfl rfl (qq HT_.out (by kernel_rfl)) (fun _ _ _ h => h) (Or.inl ⟨by rfl, ?_⟩) ?_ ?_
           rotate_left
           ·intro w'
            go_simp
            with_reducible rfl
           rotate_left
           ·simp only [Act.put, sA_, sB_, sC_, i64_w, i32_w]
            rfl
           refine done_ (zq HT_.out (by kernel_rfl)) ?_
           try go_wp2
           go_roundg k2
           case measure => have := HJ1.out; have := HK2.out; omega
           case rel => exact ⟨(wrap64 (x24_2 + 1)), es_, H', ⟨by have := HJ1.out; have := HK2.out; omega⟩, ⟨bk_ BK209⟩, ⟨be2_ HB GE209 GE213⟩⟩
         ·replace c17 := Bool.eq_false_iff.mpr c17
          subst c17
          have H1 : (some false) = some r := by rw [if_neg (show ¬ (false = true) by decide)] at H; exact H
          clear H
          have H := H1
          clear H1
          obtain rfl := Option.some.inj H
          have p212 : 0 ≤ (x24_2 : Int) := od_
          have q212 : x24_2 < (l0_2.length : Int) := od_
          obtain ⟨ad212, e212, hx212_0, hx212_1, hx212_2⟩ := zv HR0_2.out x24_2 p212 q212
          cases e212
          replace hx212_0 := (HB.out.cell (World.block_lt_of_cell? w _ hx212_0)).trans hx212_0
          replace hx212_1 := (HB.out.cell (World.block_lt_of_cell? w _ hx212_1)).trans hx212_1
          replace hx212_2 := (HB.out.cell (World.block_lt_of_cell? w _ hx212_2)).trans hx212_2
          replace p212 := eq_true p212
          replace q212 := eq_true q212
          try go_wp2_with (first | ((with_reducible refine zc (N := 4) rfl ?_); (try (refine gate_guard (by rfl) ?_; dsimp only)); refine zb ?hg (N := 4) ?hd (cs := #[.int .i64 0, .int .i64 0, .bool false]) (t := 39) ?hr ?_; (case hd => rfl); (case hg => rfl); (case hr => first | (go_simp; done) | (go_simp; rfl)); intro gb213 hg w44 hbox hb; have n0_ := qb.mk (qn (g := gb209) (o := .cells #[.int .i64 a0_0, .int .i64 a0_1, .slice (some ad212) l0_2.length c0_2] 24 (0, 0)) (bk_ BK209) hb); have n1_ := qb.mk (qm (be1_ HB GE209) hb); have n2_ := qb.mk (hbox); have n3_ := qb.mk ((by rw [hg]; exact (ql (be1_ HB GE209)) : w.heap.size ≤ gb213)); have n4_ := qb.mk ((by rw [hg]; exact (ql (be1_ HB GE209)) : w.heap.size ≤ gb213)); have n5_ := qb.mk ((by rw [hg]; exact Nat.ne_of_lt (zd (g := gb209) (o := .cells #[.int .i64 a0_0, .int .i64 a0_1, .slice (some ad212) l0_2.length c0_2] 24 (0, 0)) (bk_ BK209)) : gb209 ≠ gb213)); have n6_ := qb.mk ((by rw [hg]; exact Nat.ne_of_gt (zd (g := gb209) (o := .cells #[.int .i64 a0_0, .int .i64 a0_1, .slice (some ad212) l0_2.length c0_2] 24 (0, 0)) (bk_ BK209)) : gb213 ≠ gb209)); clear BK209; clear HB; have BK209 := n0_; have HB := n1_; have BK213 := n2_; have GW213 := n3_; have GE213 := n4_; have NB209_213 := n5_; have NB213_209 := n6_; clear n0_ n1_ n2_ n3_ n4_ n5_ n6_; clear hb hbox hg; have hnb45 := NB213_209.out; have hnc45 := NB209_213.out; have hcz46_0 : w44.cell? ⟨gb213, 0, none⟩ = some (.int .i64 0) := (qg BK213.out 0).trans rfl; have hcz46_1 : w44.cell? ⟨gb213, 1, none⟩ = some (.int .i64 0) := (qg BK213.out 1).trans rfl; have hcz46_2 : w44.cell? ⟨gb213, 2, none⟩ = some (.bool false) := (qg BK213.out 2).trans rfl; have hfz46_0 := qj BK213.out 0; have hfz46_1 := qj BK213.out 1; have hfz46_2 := qj BK213.out 2))
          have n0_ : qb ((((w44.setCell ⟨gb213, 0, none⟩ (.int .i64 ((qk l0_2 x24_2).f0))).setCell ⟨gb213, 1, none⟩ (.int .i64 ((qk l0_2 x24_2).f1))).setCell ⟨gb213, 2, none⟩ (.bool ((qk l0_2 x24_2).f2))).heap[gb209]? = some (.cells #[.int .i64 a0_0, .int .i64 a0_1, .slice (some ad212) l0_2.length c0_2] 24 (0, 0))) := ⟨by (with_reducible repeat (first | refine qf ?_ _ | refine qi ?_ | refine qe ?_ _)); refine ze ?_ NB209_213.out _; (with_reducible repeat (first | refine qf ?_ _ | refine qi ?_ | refine qe ?_ _)); refine ze ?_ NB209_213.out _; (with_reducible repeat (first | refine qf ?_ _ | refine qi ?_ | refine qe ?_ _)); refine ze ?_ NB209_213.out _; (with_reducible repeat (first | refine qf ?_ _ | refine qi ?_ | refine qe ?_ _)); exact BK209.out⟩
          have n1_ : qb ((((w44.setCell ⟨gb213, 0, none⟩ (.int .i64 ((qk l0_2 x24_2).f0))).setCell ⟨gb213, 1, none⟩ (.int .i64 ((qk l0_2 x24_2).f1))).setCell ⟨gb213, 2, none⟩ (.bool ((qk l0_2 x24_2).f2))).heap[gb213]? = some (.cells #[.int .i64 ((qk l0_2 x24_2).f0), .int .i64 ((qk l0_2 x24_2).f1), .bool ((qk l0_2 x24_2).f2)] 39 (0, 0))) := ⟨by (with_reducible repeat (first | refine qf ?_ _ | refine qi ?_ | refine qe ?_ _)); refine qx (cs := #[.int .i64 ((qk l0_2 x24_2).f0), .int .i64 ((qk l0_2 x24_2).f1), .bool false]) ?_ 2 _ rfl; (with_reducible repeat (first | refine qf ?_ _ | refine qi ?_ | refine qe ?_ _)); refine qx (cs := #[.int .i64 ((qk l0_2 x24_2).f0), .int .i64 0, .bool false]) ?_ 1 _ rfl; (with_reducible repeat (first | refine qf ?_ _ | refine qi ?_ | refine qe ?_ _)); refine qx (cs := #[.int .i64 0, .int .i64 0, .bool false]) ?_ 0 _ rfl; (with_reducible repeat (first | refine qf ?_ _ | refine qi ?_ | refine qe ?_ _)); exact BK213.out⟩
          have n2_ : qb (Below w.heap.size w (((w44.setCell ⟨gb213, 0, none⟩ (.int .i64 ((qk l0_2 x24_2).f0))).setCell ⟨gb213, 1, none⟩ (.int .i64 ((qk l0_2 x24_2).f1))).setCell ⟨gb213, 2, none⟩ (.bool ((qk l0_2 x24_2).f2)))) := ⟨be2_ HB GE209 GE213⟩
          (try clear BK209)
          (try clear BK213)
          (try clear HB)
          generalize (((w44.setCell ⟨gb213, 0, none⟩ (.int .i64 ((qk l0_2 x24_2).f0))).setCell ⟨gb213, 1, none⟩ (.int .i64 ((qk l0_2 x24_2).f1))).setCell ⟨gb213, 2, none⟩ (.bool ((qk l0_2 x24_2).f2))) = w47 at n0_ n1_ n2_ ⊢
          have BK209 := n0_
          have BK213 := n1_
          have HB := n2_
          clear n0_ n1_ n2_
          have n0_ := qb.mk (qi BK209.out)
          have n1_ := qb.mk (qi BK213.out)
          have n2_ := qb.mk (qc HB.out)
          clear BK209
          clear BK213
          clear HB
          have BK209 := n0_
          have BK213 := n1_
          have HB := n2_
          clear n0_ n1_ n2_
          refine zu (n := 19) (S := fun w' => w'.cell? ⟨gb209, 0, none⟩ = some (.int .i64 a0_0) ∧ w'.cell? ⟨gb209, 1, none⟩ = some (.int .i64 a0_1) ∧ w'.cell? ⟨gb209, 2, none⟩ = some (.slice (some ad212) l0_2.length c0_2) ∧ w'.cell? ⟨gb213, 0, none⟩ = some (.int .i64 ((qk l0_2 x24_2).f0)) ∧ w'.cell? ⟨gb213, 1, none⟩ = some (.int .i64 ((qk l0_2 x24_2).f1)) ∧ w'.cell? ⟨gb213, 2, none⟩ = some (.bool ((qk l0_2 x24_2).f2))) (ds := []) #[false, false, false, false, false, false, false, false, false, false, false, false, false, false, false, false, false, false, false] (by kernel_rfl) rfl rfl ⟨(qg BK209.out 0).trans rfl, (qg BK209.out 1).trans rfl, (qg BK209.out 2).trans rfl, (qg BK213.out 0).trans rfl, (qg BK213.out 1).trans rfl, (qg BK213.out 2).trans rfl⟩ (fun hHeld => ?_); refine zl impl_IsCity.tab6 impl_IsCity.bits6 (fun HT_ HW_ => ?_)
          generalize w47.drew = w48 at BK209 BK213 HB hHeld ⊢
          refine take_ (i := 0) (N := some 29) (v := ?_) (a' := ?_) #[true, false, false, false, false, false, false, false, false, false, false, false, false, false, false, false, false, false, false] rfl rfl (qz HT_.out HW_.out (by kernel_rfl)) (fun _ _ _ h => h) (Or.inl ⟨by rfl, ?_⟩) hHeld ?_ ?_
          rotate_left
          ·rintro w' ⟨s0, s1, s2, s3, s4, s5⟩
           go_simp
           with_reducible rfl
          rotate_left
          ·simp only [Act.put, sA_, sB_, sC_, i64_w, i32_w]
           rfl
          refine take_ (i := 1) (N := some 30) (v := ?_) (a' := ?_) #[true, true, false, false, false, false, false, false, false, false, false, false, false, false, false, false, false, false, false] rfl rfl (qz HT_.out HW_.out (by kernel_rfl)) (fun _ _ _ h => h) (Or.inl ⟨by rfl, ?_⟩) hHeld ?_ ?_
          rotate_left
          ·rintro w' ⟨s0, s1, s2, s3, s4, s5⟩
           go_simp
           with_reducible rfl
          rotate_left
          ·simp only [Act.put, sA_, sB_, sC_, i64_w, i32_w]
           rfl
          refine one_ (i := 2) (N := some 31) #[true, true, true, false, false, false, false, false, false, false, false, false, false, false, false, false, false, false, false] rfl rfl (zh HT_.out (by kernel_rfl)) (by decide) (fun K hK => ?_)
          refine goes_ Tryd.func28 (by kernel_rfl) rfl #[.agg #[.int .i64 a0_0, .int .i64 a0_1, .slice (some ad212) l0_2.length c0_2], .agg #[.int .i64 ((qk l0_2 x24_2).f0), .int .i64 ((qk l0_2 x24_2).f1), .bool ((qk l0_2 x24_2).f2)]] (by rfl) rfl rfl al_ ?_
          with_reducible refine (impl_isBlock.calls a0_0 a0_1 _ _ l0_2 ((qk l0_2 x24_2).f0) ((qk l0_2 x24_2).f1) ((qk l0_2 x24_2).f2) false _ ?side1 ?side2 A16.out).mono ?_
          (case side1 => repeat (first | exact (Kd.C_below HR0_2.out HB.out) | (with_reducible refine Kd.zp ?_ _) | (with_reducible refine Kd.zo ?_ _) | (with_reducible refine Kd.zt ?_)))
          (case side2 => exact HC0_2.out)
          rintro e w49 ⟨rfl, hb⟩
          refine ⟨_, rfl, ?_⟩
          have n0_ := qb.mk (qn (g := gb209) (o := .cells #[.int .i64 a0_0, .int .i64 a0_1, .slice (some ad212) l0_2.length c0_2] 24 (0, 0)) (bk_ BK209) hb)
          have n1_ := qb.mk (qn (g := gb213) (o := .cells #[.int .i64 ((qk l0_2 x24_2).f0), .int .i64 ((qk l0_2 x24_2).f1), .bool ((qk l0_2 x24_2).f2)] 39 (0, 0)) (bk_ BK213) hb)
          have n2_ := qb.mk (qm (be2_ HB GE209 GE213) hb)
          clear BK209
          clear BK213
          clear HB
          have BK209 := n0_
          have BK213 := n1_
          have HB := n2_
          clear n0_ n1_ n2_
          (try clear hb)
          (try clear hb2)
          (try clear hk)
          (try clear hi)
          refine hK.out _ _ ⟨(qg BK209.out 0).trans rfl, (qg BK209.out 1).trans rfl, (qg BK209.out 2).trans rfl, (qg BK213.out 0).trans rfl, (qg BK213.out 1).trans rfl, (qg BK213.out 2).trans rfl⟩ (fun hHeld => ?_)
          clear hK K
          refine norm_ (a' := ?_) ?_ ?_
          rotate_left
          ·show Act.put _ (some 31) _ = _
           simp only [Act.put, sA_, sB_, sC_, i64_w, i32_w]
           rfl
          refine pure_ (i := 3) (N := some 32) (v := ?_) (a' := ?_) #[true, true, true, true, false, false, false, false, false, false, false, false, false, false, false, false, false, false, false] rfl rfl (qq HT_.out (by kernel_rfl)) (fun _ _ _ h => h) (Or.inl ⟨by rfl, ?_⟩) ?_ ?_
          rotate_left
          ·intro w'
           go_simp
           with_reducible rfl
          rotate_left
          ·simp only [Act.put, sA_, sB_, sC_, i64_w, i32_w]
           rfl
          refine pure_ (i := 4) (N := some 33) (v := ?_) (a' := ?_) #[true, true, true, true, true, false, false, false, false, false, false, false, false, false, false, false, false, false, false] rfl rfl (qq HT_.out (by kernel_rfl)) (fun _ _ _ h => h) (Or.inl ⟨by rfl, ?_⟩) ?_ ?_
          rotate_left
          ·intro w'
           go_simp
           with_reducible rfl
          rotate_left
          ·simp only [Act.put, sA_, sB_, sC_, i64_w, i32_w]
           rfl
          refine pure_ (i := 5) (N := some 34) (v := undef) (a' := ?_) #[true, true, true, true, true, true, false, false, false, false, false, false, false, false, false, false, false, false, false] rfl rfl (qq HT_.out (by kernel_rfl)) (fun _ _ _ h => h) (Or.inr ⟨by rfl, rfl⟩) ?_ ?_
          rotate_left
          ·simp only [Act.put, sA_, sB_, sC_, i64_w, i32_w]
           rfl
          refine pure_ (i := 6) (N := some 35) (v := undef) (a' := ?_) #[true, true, true, true, true, true, true, false, false, false, false, false, false, false, false, false, false, false, false] rfl rfl (qq HT_.out (by kernel_rfl)) (fun _ _ _ h => h) (Or.inr ⟨by rfl, rfl⟩) ?_ ?_
          rotate_left
          ·simp only [Act.put, sA_, sB_, sC_, i64_w, i32_w]
           rfl
          refine pure_ (i := 7) (N := some 36) (v := undef) (a' := ?_) #[true, true, true, true, true, true, true, true, false, false, false, false, false, false, false, false, false, false, false] rfl rfl (qq HT_.out (by kernel_rfl)) (fun _ _ _ h => h) (Or.inr ⟨by rfl, rfl⟩) ?_ ?_
          rotate_left
          ·simp only [Act.put, sA_, sB_, sC_, i64_w, i32_w]
           rfl
          refine pure_ (i := 8) (N := some 37) (v := undef) (a' := ?_) #[true, true, true, true, true, true, true, true, true, false, false, false, false, false, false, false, false, false, false] rfl rfl (qq HT_.out (by kernel_rfl)) (fun _ _ _ h => h) (Or.inr ⟨by rfl, rfl⟩) ?_ ?_
          rotate_left
          ·simp only [Act.put, sA_, sB_, sC_, i64_w, i32_w]
           rfl
          refine pure_ (i := 9) (N := some 38) (v := undef) (a' := ?_) #[true, true, true, true, true, true, true, true, true, true, false, false, false, false, false, false, false, false, false] rfl rfl (qq HT_.out (by kernel_rfl)) (fun _ _ _ h => h) (Or.inr ⟨by rfl, rfl⟩) ?_ ?_
          rotate_left
          ·simp only [Act.put, sA_, sB_, sC_, i64_w, i32_w]
           rfl
          refine pure_ (i := 10) (N := some 39) (v := undef) (a' := ?_) #[true, true, true, true, true, true, true, true, true, true, true, false, false, false, false, false, false, false, false] rfl rfl (qq HT_.out (by kernel_rfl)) (fun _ _ _ h => h) (Or.inr ⟨by rfl, rfl⟩) ?_ ?_
          rotate_left
          ·simp only [Act.put, sA_, sB_, sC_, i64_w, i32_w]
           rfl
          refine pure_ (i := 11) (N := some 40) (v := undef) (a' := ?_) #[true, true, true, true, true, true, true, true, true, true, true, true, false, false, false, false, false, false, false] rfl rfl (qq HT_.out (by kernel_rfl)) (fun _ _ _ h => h) (Or.inr ⟨by rfl, rfl⟩) ?_ ?_
          rotate_left
          ·simp only [Act.put, sA_, sB_, sC_, i64_w, i32_w]
           rfl
          refine pure_ (i := 12) (N := some 41) (v := undef) (a' := ?_) #[true, true, true, true, true, true, true, true, true, true, true, true, true, false, false, false, false, false, false] rfl rfl (qq HT_.out (by kernel_rfl)) (fun _ _ _ h => h) (Or.inr ⟨by rfl, rfl⟩) ?_ ?_
          rotate_left
          ·simp only [Act.put, sA_, sB_, sC_, i64_w, i32_w]
           rfl
          refine pure_ (i := 13) (N := some 42) (v := undef) (a' := ?_) #[true, true, true, true, true, true, true, true, true, true, true, true, true, true, false, false, false, false, false] rfl rfl (qq HT_.out (by kernel_rfl)) (fun _ _ _ h => h) (Or.inr ⟨by rfl, rfl⟩) ?_ ?_
          rotate_left
          ·simp only [Act.put, sA_, sB_, sC_, i64_w, i32_w]
           rfl
          refine pure_ (i := 14) (N := some 43) (v := undef) (a' := ?_) #[true, true, true, true, true, true, true, true, true, true, true, true, true, true, true, false, false, false, false] rfl rfl (qq HT_.out (by kernel_rfl)) (fun _ _ _ h => h) (Or.inr ⟨by rfl, rfl⟩) ?_ ?_
          rotate_left
          ·simp only [Act.put, sA_, sB_, sC_, i64_w, i32_w]
           rfl
          refine pure_ (i := 15) (N := some 44) (v := undef) (a' := ?_) #[true, true, true, true, true, true, true, true, true, true, true, true, true, true, true, true, false, false, false] rfl rfl (qq HT_.out (by kernel_rfl)) (fun _ _ _ h => h) (Or.inr ⟨by rfl, rfl⟩) ?_ ?_
          rotate_left
          ·simp only [Act.put, sA_, sB_, sC_, i64_w, i32_w]
           rfl
          refine pure_ (i := 16) (N := some 45) (v := undef) (a' := ?_) #[true, true, true, true, true, true, true, true, true, true, true, true, true, true, true, true, true, false, false] rfl rfl (qq HT_.out (by kernel_rfl)) (fun _ _ _ h => h) (Or.inr ⟨by rfl, rfl⟩) ?_ ?_
          rotate_left
          ·simp only [Act.put, sA_, sB_, sC_, i64_w, i32_w]
           rfl
          refine pure_ (i := 17) (N := some 46) (v := undef) (a' := ?_) #[true, true, true, true, true, true, true, true, true, true, true, true, true, true, true, true, true, true, false] rfl rfl (qq HT_.out (by kernel_rfl)) (fun _ _ _ h => h) (Or.inr ⟨by rfl, rfl⟩) ?_ ?_
          rotate_left
          ·simp only [Act.put, sA_, sB_, sC_, i64_w, i32_w]
           rfl
          refine pure_ (i := 18) (N := some 47) (v := ?_) (a' := ?_) #[true, true, true, true, true, true, true, true, true, true, true, true, true, true, true, true, true, true, true] rfl rfl (qq HT_.out (by kernel_rfl)) (fun _ _ _ h => h) (Or.inl ⟨by rfl, ?_⟩) ?_ ?_
          rotate_left
          ·intro w'
           go_simp
           with_reducible rfl
          rotate_left
          ·simp only [Act.put, sA_, sB_, sC_, i64_w, i32_w]
           rfl
          refine done_ (zq HT_.out (by kernel_rfl)) ?_
          try go_wp2
          go_ret
          exact ⟨er_, be2_ HB GE209 GE213⟩
        ·rw [if_neg c15] at H
         exact absurd H (by simp)
       ·rw [if_neg c14] at H
        exact absurd H (by simp)
      ·rw [if_neg c13] at H
       have c13b0 : decide (x24_2 < (l0_2.length : Int)) = false := decide_eq_false c13
       clear c13
       obtain rfl := Option.some.inj H
       go_wp2
       go_ret
       exact ⟨er_, be1_ HB GE209⟩
end Go.Proofs.YtbnbdaommbnecacDoor.PFnExactParseCity
