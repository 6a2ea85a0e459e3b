/- Cut by wip/cut.py out of the texts of this claim (printed by the kit's printer, or this session's own): what the row's theorem does not reach is struck. Not trusted: Lean checks it. -/
import Derived.Test.YtohpaddcfcgmbaaZFnExactOpenBlockPx0
import Derived.Test.YtohpaddcfcgmbaaZFnExactOpenBlockPx2
import Derived.Test.YtohpaddcfcgmbaaZFnExactOpenBlockPx5
import Derived.Test.YtohpaddcfcgmbaaZFnExactOpenBlockPx8
import Derived.Test.YtohpaddcfcgmbaaZFnExactOpenBlockPx9
namespace Go.Proofs.Ytohpaddcfcgmbaa.PFnExactOpenBlock
open Go.RowKit Go.Proofs.YtohpaddcfcgmbaaW.PrintWords Go.Proofs.YtohpaddcfcgmbaaW.PrintLast Go.Proofs.YtohpaddcfcgmbaaW.PrintMore
attribute [local go_sem] max2_int min2_int max_two min_two max_three min_three max_four min_four
set_option linter.unusedVariables false
set_option linter.unusedSimpArgs false
mutual
def laws_FnExactOpenBlock.j0 : Nat → Bool → Bool → Bool → Int → Int → List (S35) → Int → Int → Bool → Int → Int → List (S38) → Int → Int → List (S38) → Int → Int → List (S38) → Option (Bool)
 | 0, _, _, _, _, _, _, _, _, _, _, _, _, _, _, _, _, _, _ => none
 | k + 1, x7, x10, x46, x230000, x230001, x230002, x231000, x231001, x231002, x247000, x247001, x247002, x253000, x253001, x253002, x263000, x263001, x263002 => if x46 = true then (some false) else ((laws_toCity.f k x230000 x230001 x230002).bind fun bt264 => ((laws_eqCity.f k x253000 x253001 x253002 bt264.1 bt264.2.1 bt264.2.2).bind fun t269 => (if t269 = true then ((laws_markCity.f k x253000 x253001 x253002 1).bind fun bt270 => (if bt270.1 < 0 then (laws_FnExactOpenBlock.j1 k x7 true x230000 x230001 x230002 x231000 x231001 x231002 x247000 x247001 x247002 x263000 x263001 x263002) else ((laws_eqCity.f k x263000 x263001 x263002 x247000 x247001 x247002).bind fun t272 => (if t272 = true then (laws_FnExactOpenBlock.j1 k x7 (x10 != x7) x230000 x230001 x230002 x231000 x231001 x231002 x247000 x247001 x247002 x263000 x263001 x263002) else (laws_FnExactOpenBlock.j1 k x7 true x230000 x230001 x230002 x231000 x231001 x231002 x247000 x247001 x247002 x263000 x263001 x263002))))) else (some false))))
def laws_FnExactOpenBlock.j1 : Nat → Bool → Bool → Int → Int → List (S35) → Int → Int → Bool → Int → Int → List (S38) → Int → Int → List (S38) → Option (Bool)
 | 0, _, _, _, _, _, _, _, _, _, _, _, _, _, _ => none
 | k + 1, x7, x67, x230000, x230001, x230002, x231000, x231001, x231002, x247000, x247001, x247002, x263000, x263001, x263002 => if x67 = true then (some false) else ((laws_markCity.f k x263000 x263001 x263002 1).bind fun bt273 => ((laws_heldCity.f k x263000 x263001 bt273.2 1).bind fun t275 => (if t275 < 0 then (some false) else (if t275 = bt273.1 then ((laws_toCity.f k x230000 x230001 x230002).bind fun bt276 => ((laws_toBlock.f x231000 x231001 x231002).bind fun bt281 => ((impl_OpenBlock.f k bt276.1 bt276.2.1 bt276.2.2 bt281.1 bt281.2.1 bt281.2.2).bind fun bt284 => ((laws_eqCity.f k bt284.1 bt284.2.1 bt284.2.2.1 x247000 x247001 x247002).bind fun t291 => (if t291 = true then (laws_FnExactOpenBlock.j2 k bt273.1 (bt284.2.2.2 != x7) x263000 x263001 bt273.2) else (laws_FnExactOpenBlock.j2 k bt273.1 true x263000 x263001 bt273.2)))))) else (some false)))))
def laws_FnExactOpenBlock.j2 : Nat → Int → Bool → Int → Int → List (S38) → Option (Bool)
 | 0, _, _, _, _, _ => none
 | k + 1, x12, x95, x263000, x263001, x263002 => if x95 = true then (some false) else ((laws_heldCity.f k x263000 x263001 x263002 1).bind fun t292 => (if t292 < 0 then (some false) else (if t292 = x12 then (some true) else (some false))))
end
def laws_FnExactOpenBlock.f (k : Nat) (a0_0 : Int) (a0_1 : Int) (l0_2 : List (S35)) (a1_0 : Int) (a1_1 : Int) (a1_2 : Bool) : Option (Bool) := (laws_szCity.f a0_0 a0_1 l0_2 1048576).bind fun t231 => (if t231 < 0 then (some true) else ((laws_toCity.f k a0_0 a0_1 l0_2).bind fun bt232 => ((laws_toBlock.f a1_0 a1_1 a1_2).bind fun bt237 => ((spec_OpenBlock.f k bt232.1 bt232.2.1 bt232.2.2 bt237.1 bt237.2.1 bt237.2.2).bind fun bt240 => ((laws_toCity.f k a0_0 a0_1 l0_2).bind fun bt247 => ((laws_toBlock.f a1_0 a1_1 a1_2).bind fun bt253 => ((impl_OpenBlock.f k bt247.1 bt247.2.1 bt247.2.2 bt253.1 bt253.2.1 bt253.2.2).bind fun bt256 => ((laws_eqCity.f k bt256.1 bt256.2.1 bt256.2.2.1 bt240.1 bt240.2.1 bt240.2.2.1).bind fun t263 => (if t263 = true then (laws_FnExactOpenBlock.j0 k bt240.2.2.2 bt256.2.2.2 (bt256.2.2.2 != bt240.2.2.2) a0_0 a0_1 l0_2 a1_0 a1_1 a1_2 bt240.1 bt240.2.1 bt240.2.2.1 bt247.1 bt247.2.1 bt247.2.2 bt256.1 bt256.2.1 bt256.2.2.1) else (laws_FnExactOpenBlock.j0 k bt240.2.2.2 bt256.2.2.2 true a0_0 a0_1 l0_2 a1_0 a1_1 a1_2 bt240.1 bt240.2.1 bt240.2.2.1 bt247.1 bt247.2.1 bt247.2.2 bt256.1 bt256.2.1 bt256.2.2.1))))))))))
theorem laws_FnExactOpenBlock.zq : ∀ k, (∀ y0 y1 y2 y3 y4 y5 y6 y7 y8 y9 y10 y11 y12 y13 y14 y15 y16 y17, LeO (laws_FnExactOpenBlock.j0 k y0 y1 y2 y3 y4 y5 y6 y7 y8 y9 y10 y11 y12 y13 y14 y15 y16 y17) (laws_FnExactOpenBlock.j0 (k + 1) y0 y1 y2 y3 y4 y5 y6 y7 y8 y9 y10 y11 y12 y13 y14 y15 y16 y17)) ∧ (∀ y0 y1 y2 y3 y4 y5 y6 y7 y8 y9 y10 y11 y12 y13, LeO (laws_FnExactOpenBlock.j1 k y0 y1 y2 y3 y4 y5 y6 y7 y8 y9 y10 y11 y12 y13) (laws_FnExactOpenBlock.j1 (k + 1) y0 y1 y2 y3 y4 y5 y6 y7 y8 y9 y10 y11 y12 y13)) ∧ (∀ y0 y1 y2 y3 y4, LeO (laws_FnExactOpenBlock.j2 k y0 y1 y2 y3 y4) (laws_FnExactOpenBlock.j2 (k + 1) y0 y1 y2 y3 y4))
 | 0 => ⟨fun _ _ _ _ _ _ _ _ _ _ _ _ _ _ _ _ _ _ r h => by simp [laws_FnExactOpenBlock.j0] at h, fun _ _ _ _ _ _ _ _ _ _ _ _ _ _ r h => by simp [laws_FnExactOpenBlock.j1] at h, fun _ _ _ _ _ r h => by simp [laws_FnExactOpenBlock.j2] at h⟩
 | k + 1 => by
  obtain ⟨ih0, ih1, ih2⟩ := laws_FnExactOpenBlock.zq k
  refine ⟨?_, ?_, ?_⟩
  ·intro y0 y1 y2 y3 y4 y5 y6 y7 y8 y9 y10 y11 y12 y13 y14 y15 y16 y17
   unfold laws_FnExactOpenBlock.j0
   repeat' first
   | (with_reducible exact ih0 _ _ _ _ _ _ _ _ _ _ _ _ _ _ _ _ _ _)
   | (with_reducible exact ih1 _ _ _ _ _ _ _ _ _ _ _ _ _ _)
   | (with_reducible exact ih2 _ _ _ _ _)
   | (with_reducible exact impl_OpenBlock.mono _ _ _ _ _ _ _)
   | (with_reducible exact laws_eqCity.mono _ _ _ _ _ _ _)
   | (with_reducible exact laws_heldCity.mono _ _ _ _ _)
   | (with_reducible exact laws_markCity.mono _ _ _ _ _)
   | (with_reducible exact laws_toCity.mono _ _ _ _)
   | (with_reducible exact spec_OpenBlock.mono _ _ _ _ _ _ _)
   | (with_reducible exact LeO.refl _)
   | (with_reducible exact LeO.none _)
   | (with_reducible refine LeO.ite ?_ ?_)
   | (with_reducible refine LeO.bind ?_ (fun _ => ?_))
   | exact ih0 _ _ _ _ _ _ _ _ _ _ _ _ _ _ _ _ _ _
   | exact ih1 _ _ _ _ _ _ _ _ _ _ _ _ _ _
   | exact ih2 _ _ _ _ _
   | exact impl_OpenBlock.mono _ _ _ _ _ _ _
   | exact laws_eqCity.mono _ _ _ _ _ _ _
   | exact laws_heldCity.mono _ _ _ _ _
   | exact laws_markCity.mono _ _ _ _ _
   | exact laws_toCity.mono _ _ _ _
   | exact spec_OpenBlock.mono _ _ _ _ _ _ _
   | exact LeO.none _
   | refine LeO.ite ?_ ?_
   | refine LeO.bind ?_ (fun _ => ?_)
  ·intro y0 y1 y2 y3 y4 y5 y6 y7 y8 y9 y10 y11 y12 y13
   unfold laws_FnExactOpenBlock.j1
   repeat' first
   | (with_reducible exact ih0 _ _ _ _ _ _ _ _ _ _ _ _ _ _ _ _ _ _)
   | (with_reducible exact ih1 _ _ _ _ _ _ _ _ _ _ _ _ _ _)
   | (with_reducible exact ih2 _ _ _ _ _)
   | (with_reducible exact impl_OpenBlock.mono _ _ _ _ _ _ _)
   | (with_reducible exact laws_eqCity.mono _ _ _ _ _ _ _)
   | (with_reducible exact laws_heldCity.mono _ _ _ _ _)
   | (with_reducible exact laws_markCity.mono _ _ _ _ _)
   | (with_reducible exact laws_toCity.mono _ _ _ _)
   | (with_reducible exact spec_OpenBlock.mono _ _ _ _ _ _ _)
   | (with_reducible exact LeO.refl _)
   | (with_reducible exact LeO.none _)
   | (with_reducible refine LeO.ite ?_ ?_)
   | (with_reducible refine LeO.bind ?_ (fun _ => ?_))
   | exact ih0 _ _ _ _ _ _ _ _ _ _ _ _ _ _ _ _ _ _
   | exact ih1 _ _ _ _ _ _ _ _ _ _ _ _ _ _
   | exact ih2 _ _ _ _ _
   | exact impl_OpenBlock.mono _ _ _ _ _ _ _
   | exact laws_eqCity.mono _ _ _ _ _ _ _
   | exact laws_heldCity.mono _ _ _ _ _
   | exact laws_markCity.mono _ _ _ _ _
   | exact laws_toCity.mono _ _ _ _
   | exact spec_OpenBlock.mono _ _ _ _ _ _ _
   | exact LeO.none _
   | refine LeO.ite ?_ ?_
   | refine LeO.bind ?_ (fun _ => ?_)
  ·intro y0 y1 y2 y3 y4
   unfold laws_FnExactOpenBlock.j2
   repeat' first
   | (with_reducible exact ih0 _ _ _ _ _ _ _ _ _ _ _ _ _ _ _ _ _ _)
   | (with_reducible exact ih1 _ _ _ _ _ _ _ _ _ _ _ _ _ _)
   | (with_reducible exact ih2 _ _ _ _ _)
   | (with_reducible exact impl_OpenBlock.mono _ _ _ _ _ _ _)
   | (with_reducible exact laws_eqCity.mono _ _ _ _ _ _ _)
   | (with_reducible exact laws_heldCity.mono _ _ _ _ _)
   | (with_reducible exact laws_markCity.mono _ _ _ _ _)
   | (with_reducible exact laws_toCity.mono _ _ _ _)
   | (with_reducible exact spec_OpenBlock.mono _ _ _ _ _ _ _)
   | (with_reducible exact LeO.refl _)
   | (with_reducible exact LeO.none _)
   | (with_reducible refine LeO.ite ?_ ?_)
   | (with_reducible refine LeO.bind ?_ (fun _ => ?_))
   | exact ih0 _ _ _ _ _ _ _ _ _ _ _ _ _ _ _ _ _ _
   | exact ih1 _ _ _ _ _ _ _ _ _ _ _ _ _ _
   | exact ih2 _ _ _ _ _
   | exact impl_OpenBlock.mono _ _ _ _ _ _ _
   | exact laws_eqCity.mono _ _ _ _ _ _ _
   | exact laws_heldCity.mono _ _ _ _ _
   | exact laws_markCity.mono _ _ _ _ _
   | exact laws_toCity.mono _ _ _ _
   | exact spec_OpenBlock.mono _ _ _ _ _ _ _
   | exact LeO.none _
   | refine LeO.ite ?_ ?_
   | refine LeO.bind ?_ (fun _ => ?_)
theorem laws_FnExactOpenBlock.mono : ∀ a0 a1 a2 a3 a4 a5 k, LeO (laws_FnExactOpenBlock.f k a0 a1 a2 a3 a4 a5) (laws_FnExactOpenBlock.f (k + 1) a0 a1 a2 a3 a4 a5) := by
 intro a0 a1 a2 a3 a4 a5 k
 obtain ⟨ih0, ih1, ih2⟩ := laws_FnExactOpenBlock.zq k
 unfold laws_FnExactOpenBlock.f
 repeat' first
   | (with_reducible exact ih0 _ _ _ _ _ _ _ _ _ _ _ _ _ _ _ _ _ _)
   | (with_reducible exact ih1 _ _ _ _ _ _ _ _ _ _ _ _ _ _)
   | (with_reducible exact ih2 _ _ _ _ _)
   | (with_reducible exact impl_OpenBlock.mono _ _ _ _ _ _ _)
   | (with_reducible exact laws_eqCity.mono _ _ _ _ _ _ _)
   | (with_reducible exact laws_heldCity.mono _ _ _ _ _)
   | (with_reducible exact laws_markCity.mono _ _ _ _ _)
   | (with_reducible exact laws_toCity.mono _ _ _ _)
   | (with_reducible exact spec_OpenBlock.mono _ _ _ _ _ _ _)
   | (with_reducible exact LeO.refl _)
   | (with_reducible exact LeO.none _)
   | (with_reducible refine LeO.ite ?_ ?_)
   | (with_reducible refine LeO.bind ?_ (fun _ => ?_))
   | exact ih0 _ _ _ _ _ _ _ _ _ _ _ _ _ _ _ _ _ _
   | exact ih1 _ _ _ _ _ _ _ _ _ _ _ _ _ _
   | exact ih2 _ _ _ _ _
   | exact impl_OpenBlock.mono _ _ _ _ _ _ _
   | exact laws_eqCity.mono _ _ _ _ _ _ _
   | exact laws_heldCity.mono _ _ _ _ _
   | exact laws_markCity.mono _ _ _ _ _
   | exact laws_toCity.mono _ _ _ _
   | exact spec_OpenBlock.mono _ _ _ _ _ _ _
   | exact LeO.none _
   | refine LeO.ite ?_ ?_
   | refine LeO.bind ?_ (fun _ => ?_)
def laws_FnExactOpenBlock.T5 : Bool × List (List Nat × List Nat) := (true, [([], []), ([0], [0]), ([], []), ([2, 1], [2]), ([1, 3, 3], [1, 3]), ([4], [4]), ([5], [5]), ([5], [5]), ([], []), ([8, 6, 4, 0, 1, 2, 3, 4, 5, 6, 8], [6, 8]), ([7, 9, 0, 1, 2, 3, 4, 5, 6, 7, 8, 9], [7])])
def laws_FnExactOpenBlock.B5 : List Nat := [0, 1, 0, 7, 15, 31, 63, 63, 0, 383, 1023]
theorem laws_FnExactOpenBlock.tab5 : rtab .any (opsOf Try.f4 5) = laws_FnExactOpenBlock.T5 := by kernel_rfl
theorem laws_FnExactOpenBlock.bits5 : waitsOk laws_FnExactOpenBlock.T5.2 laws_FnExactOpenBlock.B5 = true := by kernel_rfl
def laws_FnExactOpenBlock.T7 : Bool × List (List Nat × List Nat) := (true, [([], []), ([], []), ([1], [1]), ([0, 2, 2], [0, 2]), ([3], [3]), ([4], [4]), ([4], [4]), ([], []), ([7, 5, 3, 0, 1, 2, 3, 4, 5, 7], [5, 7]), ([6, 8, 0, 1, 2, 3, 4, 5, 6, 7, 8], [6])])
def laws_FnExactOpenBlock.B7 : List Nat := [0, 0, 2, 7, 15, 31, 31, 0, 191, 511]
theorem laws_FnExactOpenBlock.tab7 : rtab .any (opsOf Try.f4 7) = laws_FnExactOpenBlock.T7 := by kernel_rfl
theorem laws_FnExactOpenBlock.bits7 : waitsOk laws_FnExactOpenBlock.T7.2 laws_FnExactOpenBlock.B7 = true := by kernel_rfl
def laws_FnExactOpenBlock.T24 : Bool × List (List Nat × List Nat) := (true, [([], []), ([0], [0]), ([], []), ([2, 1], [2]), ([1, 3, 3], [1, 3]), ([4], [4]), ([5], [5]), ([5], [5]), ([], []), ([8, 6, 4, 0, 1, 2, 3, 4, 5, 6, 8], [6, 8]), ([7, 9, 0, 1, 2, 3, 4, 5, 6, 7, 8, 9], [7])])
def laws_FnExactOpenBlock.B24 : List Nat := [0, 1, 0, 7, 15, 31, 63, 63, 0, 383, 1023]
theorem laws_FnExactOpenBlock.tab24 : rtab .any (opsOf Try.f4 24) = laws_FnExactOpenBlock.T24 := by kernel_rfl
theorem laws_FnExactOpenBlock.bits24 : waitsOk laws_FnExactOpenBlock.T24.2 laws_FnExactOpenBlock.B24 = true := by kernel_rfl
set_option maxHeartbeats 8000000 in
set_option maxRecDepth 100000 in
theorem laws_FnExactOpenBlock.calls (k : Nat) (a0_0 : Int) (a0_1 : Int) (A0_2 : Option Addr) (c0_2 : Nat) (l0_2 : List (S35)) (a1_0 : Int) (a1_1 : Int) (a1_2 : Bool) (r : Bool) (w : World) (hr0_2 : Kd.C k35 w A0_2 l0_2.length l0_2) (hc0_2 : l0_2.length ≤ c0_2) (h : laws_FnExactOpenBlock.f k a0_0 a0_1 l0_2 a1_0 a1_1 a1_2 = some r) :
  Calls Try.prog 4 #[.agg #[.int .i64 a0_0, .int .i64 a0_1, .slice A0_2 l0_2.length c0_2], .agg #[.int .i64 a1_0, .int .i64 a1_1, .bool a1_2]] w fun e w' => e = .returned (.bool r) ∧ Below w.heap.size w w' := by
 have hu24 := Try.underlying24;have hu35 := Try.underlying35;have hu30 := Try.underlying30;have HR0_2 := qa.mk hr0_2;have HC0_2 := qa.mk hc0_2;clear hr0_2 hc0_2;have HB := qa.mk (Below.refl w.heap.size w);have H : ((laws_szCity.f a0_0 a0_1 l0_2 1048576).bind fun E1 => (if E1 < 0 then (some true) else ((laws_toCity.f k a0_0 a0_1 l0_2).bind fun bt232 => ((laws_toBlock.f a1_0 a1_1 a1_2).bind fun bt237 => ((spec_OpenBlock.f k bt232.1 bt232.2.1 bt232.2.2 bt237.1 bt237.2.1 bt237.2.2).bind fun bt240 => ((laws_toCity.f k a0_0 a0_1 l0_2).bind fun bt247 => ((laws_toBlock.f a1_0 a1_1 a1_2).bind fun bt253 => ((impl_OpenBlock.f k bt247.1 bt247.2.1 bt247.2.2 bt253.1 bt253.2.1 bt253.2.2).bind fun bt256 => ((laws_eqCity.f k bt256.1 bt256.2.1 bt256.2.2.1 bt240.1 bt240.2.1 bt240.2.2.1).bind fun p4 => (if p4 = true then (laws_FnExactOpenBlock.j0 k bt240.2.2.2 bt256.2.2.2 (bt256.2.2.2 != bt240.2.2.2) a0_0 a0_1 l0_2 a1_0 a1_1 a1_2 bt240.1 bt240.2.1 bt240.2.2.1 bt247.1 bt247.2.1 bt247.2.2 bt256.1 bt256.2.1 bt256.2.2.1) else (laws_FnExactOpenBlock.j0 k bt240.2.2.2 bt256.2.2.2 true a0_0 a0_1 l0_2 a1_0 a1_1 a1_2 bt240.1 bt240.2.1 bt240.2.2.1 bt247.1 bt247.2.1 bt247.2.2 bt256.1 bt256.2.1 bt256.2.2.1))))))))))) = some r := h;clear h;replace H := Option.bind_eq_some_iff.mp H;obtain ⟨E1, A30, H⟩ := H;replace H : (if E1 < 0 then (some true) else ((laws_toCity.f k a0_0 a0_1 l0_2).bind fun bt232 => ((laws_toBlock.f a1_0 a1_1 a1_2).bind fun bt237 => ((spec_OpenBlock.f k bt232.1 bt232.2.1 bt232.2.2 bt237.1 bt237.2.1 bt237.2.2).bind fun bt240 => ((laws_toCity.f k a0_0 a0_1 l0_2).bind fun bt247 => ((laws_toBlock.f a1_0 a1_1 a1_2).bind fun bt253 => ((impl_OpenBlock.f k bt247.1 bt247.2.1 bt247.2.2 bt253.1 bt253.2.1 bt253.2.2).bind fun bt256 => ((laws_eqCity.f k bt256.1 bt256.2.1 bt256.2.2.1 bt240.1 bt240.2.1 bt240.2.2.1).bind fun p4 => (if p4 = true then (laws_FnExactOpenBlock.j0 k bt240.2.2.2 bt256.2.2.2 (bt256.2.2.2 != bt240.2.2.2) a0_0 a0_1 l0_2 a1_0 a1_1 a1_2 bt240.1 bt240.2.1 bt240.2.2.1 bt247.1 bt247.2.1 bt247.2.2 bt256.1 bt256.2.1 bt256.2.2.1) else (laws_FnExactOpenBlock.j0 k bt240.2.2.2 bt256.2.2.2 true a0_0 a0_1 l0_2 a1_0 a1_1 a1_2 bt240.1 bt240.2.1 bt240.2.2.1 bt247.1 bt247.2.1 bt247.2.2 bt256.1 bt256.2.1 bt256.2.2.1)))))))))) = some r := H
 have A3 := qa.mk A30;clear A30
 by_cases c4 : E1 < 0
 ·rw [if_pos c4] at H
  have c4b0 : decide (E1 < 0) = true := decide_eq_true c4;clear c4;obtain rfl := Option.some.inj H
  go_enter Try.func4, Try.ntmps4
  go_wp2_with (first | ((with_reducible refine qy (N := 2) rfl ?_); refine qx ?hg (N := 2) ?hd (cs := #[.int .i64 a0_0, .int .i64 a0_1, .slice A0_2 l0_2.length c0_2]) (t := 24) ?hr ?_; (case hd => rfl); (case hg => rfl); (case hr => first | (go_simp; done) | (go_simp; rfl)); intro d0 hg w5 hbox hb; have n0_ := qa.mk (qn (be0_ HB) hb); have n1_ := qa.mk (hbox); have n2_ := qa.mk ((by rw [hg]; exact (qm (be0_ HB)) : w.heap.size ≤ d0)); have n3_ := qa.mk ((by rw [hg]; exact (qm (be0_ HB)) : w.heap.size ≤ d0)); clear HB; have HB := n0_; have b1 := n1_; have E6 := n2_; have d4 := n3_; clear n0_ n1_ n2_ n3_; clear hb hbox hg) | ((with_reducible refine qy (N := 3) rfl ?_); refine qx ?hg (N := 3) ?hd (cs := #[.int .i64 a1_0, .int .i64 a1_1, .bool a1_2]) (t := 35) ?hr ?_; (case hd => rfl); (case hg => rfl); (case hr => first | (go_simp; done) | (go_simp; rfl)); intro d1 hg w6 hbox hb; have n0_ := qa.mk (qk (g := d0) (o := .cells #[.int .i64 a0_0, .int .i64 a0_1, .slice A0_2 l0_2.length c0_2] 24 (0, 0)) (bk_ b1) hb); have n1_ := qa.mk (qn (be1_ HB d4) hb); have n2_ := qa.mk (hbox); have n3_ := qa.mk ((by rw [hg]; exact (qm (be1_ HB d4)) : w.heap.size ≤ d1)); have n4_ := qa.mk ((by rw [hg]; exact (qm (be1_ HB d4)) : w.heap.size ≤ d1)); have n5_ := qa.mk ((by rw [hg]; exact Nat.ne_of_lt (qr (g := d0) (o := .cells #[.int .i64 a0_0, .int .i64 a0_1, .slice A0_2 l0_2.length c0_2] 24 (0, 0)) (bk_ b1)) : d0 ≠ d1)); have n6_ := qa.mk ((by rw [hg]; exact Nat.ne_of_gt (qr (g := d0) (o := .cells #[.int .i64 a0_0, .int .i64 a0_1, .slice A0_2 l0_2.length c0_2] 24 (0, 0)) (bk_ b1)) : d1 ≠ d0)); clear b1; clear HB; have b1 := n0_; have HB := n1_; have b2 := n2_; have E7 := n3_; have d5 := n4_; have p8 := n5_; have p9 := n6_; clear n0_ n1_ n2_ n3_ n4_ n5_ n6_; clear hb hbox hg; have hnb7 := p8.out; have hnc7 := p9.out; have hcz8_0 : w6.cell? ⟨d0, 0, none⟩ = some (.int .i64 a0_0) := (qg b1.out 0).trans rfl; have hcz8_1 : w6.cell? ⟨d0, 1, none⟩ = some (.int .i64 a0_1) := (qg b1.out 1).trans rfl; have hcz8_2 : w6.cell? ⟨d0, 2, none⟩ = some (.slice A0_2 l0_2.length c0_2) := (qg b1.out 2).trans rfl; have hfz8_0 := qj b1.out 0; have hfz8_1 := qj b1.out 1; have hfz8_2 := qj b1.out 2) | ((with_reducible refine zb (f := 18) rfl ?_); refine zj (some 18) rfl rfl Try.func18 (by kernel_rfl) rfl #[.agg #[.int .i64 a0_0, .int .i64 a0_1, .slice A0_2 l0_2.length c0_2], .int .i64 1048576] rfl (by (try simp only [List.map_toArray, List.map_cons, List.map_nil]); first | done | rfl | (simp only [List.length_drop, List.length_take]; rfl)) ?_; (with_reducible refine (laws_szCity.calls a0_0 a0_1 _ _ l0_2 1048576 E1 _ ?side1 ?side2 A3.out).mono ?_); (case side1 => repeat (first | exact (Kd.zm HR0_2.out HB.out) | (with_reducible refine Kd.zg ?_ _) | (with_reducible refine Kd.zf ?_ _) | (with_reducible refine Kd.zi ?_))); (case side2 => exact HC0_2.out); rintro e w9 ⟨rfl, hb⟩; refine ⟨_, rfl, ?_⟩; have n0_ := qa.mk (qk (g := d0) (o := .cells #[.int .i64 a0_0, .int .i64 a0_1, .slice A0_2 l0_2.length c0_2] 24 (0, 0)) (bk_ b1) hb); have n1_ := qa.mk (qk (g := d1) (o := .cells #[.int .i64 a1_0, .int .i64 a1_1, .bool a1_2] 35 (0, 0)) (bk_ b2) hb); have n2_ := qa.mk (qn (be2_ HB d4 d5) hb); clear b1; clear b2; clear HB; have b1 := n0_; have b2 := n1_; have HB := n2_; clear n0_ n1_ n2_; (try clear hb); (try clear hb2); (try clear hk); (try clear hi)))
  go_ret
  exact ⟨by first | rfl | (simp [qu, qt] <;> rfl) | (simp [*, qu, qt] <;> rfl), be2_ HB d4 d5⟩
 ·rw [if_neg c4] at H
  have c4b0 : decide (E1 < 0) = false := decide_eq_false c4;clear c4;replace H := Option.bind_eq_some_iff.mp H;obtain ⟨⟨B0, B1, p0⟩, A100, H⟩ := H;replace H : ((laws_toBlock.f a1_0 a1_1 a1_2).bind fun bt237 => ((spec_OpenBlock.f k B0 B1 p0 bt237.1 bt237.2.1 bt237.2.2).bind fun bt240 => ((laws_toCity.f k a0_0 a0_1 l0_2).bind fun bt247 => ((laws_toBlock.f a1_0 a1_1 a1_2).bind fun bt253 => ((impl_OpenBlock.f k bt247.1 bt247.2.1 bt247.2.2 bt253.1 bt253.2.1 bt253.2.2).bind fun bt256 => ((laws_eqCity.f k bt256.1 bt256.2.1 bt256.2.2.1 bt240.1 bt240.2.1 bt240.2.2.1).bind fun p4 => (if p4 = true then (laws_FnExactOpenBlock.j0 k bt240.2.2.2 bt256.2.2.2 (bt256.2.2.2 != bt240.2.2.2) a0_0 a0_1 l0_2 a1_0 a1_1 a1_2 bt240.1 bt240.2.1 bt240.2.2.1 bt247.1 bt247.2.1 bt247.2.2 bt256.1 bt256.2.1 bt256.2.2.1) else (laws_FnExactOpenBlock.j0 k bt240.2.2.2 bt256.2.2.2 true a0_0 a0_1 l0_2 a1_0 a1_1 a1_2 bt240.1 bt240.2.1 bt240.2.2.1 bt247.1 bt247.2.1 bt247.2.2 bt256.1 bt256.2.1 bt256.2.2.1)))))))) = some r := H;have A10 := qa.mk A100;clear A100;replace H := Option.bind_eq_some_iff.mp H;obtain ⟨⟨B2, B3, B4⟩, A110, H⟩ := H;replace H : ((spec_OpenBlock.f k B0 B1 p0 B2 B3 B4).bind fun bt240 => ((laws_toCity.f k a0_0 a0_1 l0_2).bind fun bt247 => ((laws_toBlock.f a1_0 a1_1 a1_2).bind fun bt253 => ((impl_OpenBlock.f k bt247.1 bt247.2.1 bt247.2.2 bt253.1 bt253.2.1 bt253.2.2).bind fun bt256 => ((laws_eqCity.f k bt256.1 bt256.2.1 bt256.2.2.1 bt240.1 bt240.2.1 bt240.2.2.1).bind fun p4 => (if p4 = true then (laws_FnExactOpenBlock.j0 k bt240.2.2.2 bt256.2.2.2 (bt256.2.2.2 != bt240.2.2.2) a0_0 a0_1 l0_2 a1_0 a1_1 a1_2 bt240.1 bt240.2.1 bt240.2.2.1 bt247.1 bt247.2.1 bt247.2.2 bt256.1 bt256.2.1 bt256.2.2.1) else (laws_FnExactOpenBlock.j0 k bt240.2.2.2 bt256.2.2.2 true a0_0 a0_1 l0_2 a1_0 a1_1 a1_2 bt240.1 bt240.2.1 bt240.2.2.1 bt247.1 bt247.2.1 bt247.2.2 bt256.1 bt256.2.1 bt256.2.2.1))))))) = some r := H;have A11 := qa.mk A110;clear A110;replace H := Option.bind_eq_some_iff.mp H;obtain ⟨⟨f2, f3, d6, m9⟩, A120, H⟩ := H
  replace H : ((laws_toCity.f k a0_0 a0_1 l0_2).bind fun bt247 => ((laws_toBlock.f a1_0 a1_1 a1_2).bind fun bt253 => ((impl_OpenBlock.f k bt247.1 bt247.2.1 bt247.2.2 bt253.1 bt253.2.1 bt253.2.2).bind fun bt256 => ((laws_eqCity.f k bt256.1 bt256.2.1 bt256.2.2.1 f2 f3 d6).bind fun p4 => (if p4 = true then (laws_FnExactOpenBlock.j0 k m9 bt256.2.2.2 (bt256.2.2.2 != m9) a0_0 a0_1 l0_2 a1_0 a1_1 a1_2 f2 f3 d6 bt247.1 bt247.2.1 bt247.2.2 bt256.1 bt256.2.1 bt256.2.2.1) else (laws_FnExactOpenBlock.j0 k m9 bt256.2.2.2 true a0_0 a0_1 l0_2 a1_0 a1_1 a1_2 f2 f3 d6 bt247.1 bt247.2.1 bt247.2.2 bt256.1 bt256.2.1 bt256.2.2.1)))))) = some r := H;have A12 := qa.mk A120;clear A120;replace H := Option.bind_eq_some_iff.mp H;obtain ⟨⟨f9, g0, g2⟩, A130, H⟩ := H;replace H : ((laws_toBlock.f a1_0 a1_1 a1_2).bind fun bt253 => ((impl_OpenBlock.f k f9 g0 g2 bt253.1 bt253.2.1 bt253.2.2).bind fun bt256 => ((laws_eqCity.f k bt256.1 bt256.2.1 bt256.2.2.1 f2 f3 d6).bind fun p4 => (if p4 = true then (laws_FnExactOpenBlock.j0 k m9 bt256.2.2.2 (bt256.2.2.2 != m9) a0_0 a0_1 l0_2 a1_0 a1_1 a1_2 f2 f3 d6 f9 g0 g2 bt256.1 bt256.2.1 bt256.2.2.1) else (laws_FnExactOpenBlock.j0 k m9 bt256.2.2.2 true a0_0 a0_1 l0_2 a1_0 a1_1 a1_2 f2 f3 d6 f9 g0 g2 bt256.1 bt256.2.1 bt256.2.2.1))))) = some r := H;have A13 := qa.mk A130;clear A130;replace H := Option.bind_eq_some_iff.mp H;obtain ⟨⟨D4, D5, D6⟩, A140, H⟩ := H;replace H : ((impl_OpenBlock.f k f9 g0 g2 D4 D5 D6).bind fun bt256 => ((laws_eqCity.f k bt256.1 bt256.2.1 bt256.2.2.1 f2 f3 d6).bind fun p4 => (if p4 = true then (laws_FnExactOpenBlock.j0 k m9 bt256.2.2.2 (bt256.2.2.2 != m9) a0_0 a0_1 l0_2 a1_0 a1_1 a1_2 f2 f3 d6 f9 g0 g2 bt256.1 bt256.2.1 bt256.2.2.1) else (laws_FnExactOpenBlock.j0 k m9 bt256.2.2.2 true a0_0 a0_1 l0_2 a1_0 a1_1 a1_2 f2 f3 d6 f9 g0 g2 bt256.1 bt256.2.1 bt256.2.2.1)))) = some r := H;have A14 := qa.mk A140;clear A140;replace H := Option.bind_eq_some_iff.mp H;obtain ⟨⟨f0, f1, d8, o9⟩, A150, H⟩ := H;replace H : ((laws_eqCity.f k f0 f1 d8 f2 f3 d6).bind fun p4 => (if p4 = true then (laws_FnExactOpenBlock.j0 k m9 o9 (o9 != m9) a0_0 a0_1 l0_2 a1_0 a1_1 a1_2 f2 f3 d6 f9 g0 g2 f0 f1 d8) else (laws_FnExactOpenBlock.j0 k m9 o9 true a0_0 a0_1 l0_2 a1_0 a1_1 a1_2 f2 f3 d6 f9 g0 g2 f0 f1 d8))) = some r := H
  have A15 := qa.mk A150;clear A150;have HC16 := qa.mk H;clear H
  go_enter Try.func4, Try.ntmps4
  try go_wp2_with (first | ((with_reducible refine qy (N := 2) rfl ?_); refine qx ?hg (N := 2) ?hd (cs := #[.int .i64 a0_0, .int .i64 a0_1, .slice A0_2 l0_2.length c0_2]) (t := 24) ?hr ?_; (case hd => rfl); (case hg => rfl); (case hr => first | (go_simp; done) | (go_simp; rfl)); intro d0 hg w17 hbox hb; have n0_ := qa.mk (qn (be0_ HB) hb); have n1_ := qa.mk (hbox); have n2_ := qa.mk ((by rw [hg]; exact (qm (be0_ HB)) : w.heap.size ≤ d0)); have n3_ := qa.mk ((by rw [hg]; exact (qm (be0_ HB)) : w.heap.size ≤ d0)); clear HB; have HB := n0_; have b1 := n1_; have E6 := n2_; have d4 := n3_; clear n0_ n1_ n2_ n3_; clear hb hbox hg) | ((with_reducible refine qy (N := 3) rfl ?_); refine qx ?hg (N := 3) ?hd (cs := #[.int .i64 a1_0, .int .i64 a1_1, .bool a1_2]) (t := 35) ?hr ?_; (case hd => rfl); (case hg => rfl); (case hr => first | (go_simp; done) | (go_simp; rfl)); intro d1 hg w18 hbox hb; have n0_ := qa.mk (qk (g := d0) (o := .cells #[.int .i64 a0_0, .int .i64 a0_1, .slice A0_2 l0_2.length c0_2] 24 (0, 0)) (bk_ b1) hb); have n1_ := qa.mk (qn (be1_ HB d4) hb); have n2_ := qa.mk (hbox); have n3_ := qa.mk ((by rw [hg]; exact (qm (be1_ HB d4)) : w.heap.size ≤ d1)); have n4_ := qa.mk ((by rw [hg]; exact (qm (be1_ HB d4)) : w.heap.size ≤ d1)); have n5_ := qa.mk ((by rw [hg]; exact Nat.ne_of_lt (qr (g := d0) (o := .cells #[.int .i64 a0_0, .int .i64 a0_1, .slice A0_2 l0_2.length c0_2] 24 (0, 0)) (bk_ b1)) : d0 ≠ d1)); have n6_ := qa.mk ((by rw [hg]; exact Nat.ne_of_gt (qr (g := d0) (o := .cells #[.int .i64 a0_0, .int .i64 a0_1, .slice A0_2 l0_2.length c0_2] 24 (0, 0)) (bk_ b1)) : d1 ≠ d0)); clear b1; clear HB; have b1 := n0_; have HB := n1_; have b2 := n2_; have E7 := n3_; have d5 := n4_; have p8 := n5_; have p9 := n6_; clear n0_ n1_ n2_ n3_ n4_ n5_ n6_; clear hb hbox hg; have hnb19 := p8.out; have hnc19 := p9.out; have hcz20_0 : w18.cell? ⟨d0, 0, none⟩ = some (.int .i64 a0_0) := (qg b1.out 0).trans rfl; have hcz20_1 : w18.cell? ⟨d0, 1, none⟩ = some (.int .i64 a0_1) := (qg b1.out 1).trans rfl; have hcz20_2 : w18.cell? ⟨d0, 2, none⟩ = some (.slice A0_2 l0_2.length c0_2) := (qg b1.out 2).trans rfl; have hfz20_0 := qj b1.out 0; have hfz20_1 := qj b1.out 1; have hfz20_2 := qj b1.out 2) | ((with_reducible refine zb (f := 18) rfl ?_); refine zj (some 18) rfl rfl Try.func18 (by kernel_rfl) rfl #[.agg #[.int .i64 a0_0, .int .i64 a0_1, .slice A0_2 l0_2.length c0_2], .int .i64 1048576] rfl (by (try simp only [List.map_toArray, List.map_cons, List.map_nil]); first | done | rfl | (simp only [List.length_drop, List.length_take]; rfl)) ?_; (with_reducible refine (laws_szCity.calls a0_0 a0_1 _ _ l0_2 1048576 E1 _ ?side1 ?side2 A3.out).mono ?_); (case side1 => repeat (first | exact (Kd.zm HR0_2.out HB.out) | (with_reducible refine Kd.zg ?_ _) | (with_reducible refine Kd.zf ?_ _) | (with_reducible refine Kd.zi ?_))); (case side2 => exact HC0_2.out); rintro e w21 ⟨rfl, hb⟩; refine ⟨_, rfl, ?_⟩; have n0_ := qa.mk (qk (g := d0) (o := .cells #[.int .i64 a0_0, .int .i64 a0_1, .slice A0_2 l0_2.length c0_2] 24 (0, 0)) (bk_ b1) hb); have n1_ := qa.mk (qk (g := d1) (o := .cells #[.int .i64 a1_0, .int .i64 a1_1, .bool a1_2] 35 (0, 0)) (bk_ b2) hb); have n2_ := qa.mk (qn (be2_ HB d4 d5) hb); clear b1; clear b2; clear HB; have b1 := n0_; have b2 := n1_; have HB := n2_; clear n0_ n1_ n2_; (try clear hb); (try clear hb2); (try clear hk); (try clear hi)))
  have n0_ := qa.mk (qf b1.out);have n1_ := qa.mk (qf b2.out);have n2_ := qa.mk (qh HB.out);clear b1;clear b2;clear HB;have b1 := n0_;have b2 := n1_;have HB := n2_;clear n0_ n1_ n2_
  refine start_ (n := 11) (S := fun w' => w'.cell? ⟨d0, 0, none⟩ = some (.int .i64 a0_0) ∧ w'.cell? ⟨d0, 1, none⟩ = some (.int .i64 a0_1) ∧ w'.cell? ⟨d0, 2, none⟩ = some (.slice A0_2 l0_2.length c0_2) ∧ w'.cell? ⟨d1, 0, none⟩ = some (.int .i64 a1_0) ∧ w'.cell? ⟨d1, 1, none⟩ = some (.int .i64 a1_1) ∧ w'.cell? ⟨d1, 2, none⟩ = some (.bool a1_2)) (ds := []) #[false, false, false, false, false, false, false, false, false, false, false] (by kernel_rfl) rfl rfl ⟨(qg b1.out 0).trans rfl, (qg b1.out 1).trans rfl, (qg b1.out 2).trans rfl, (qg b2.out 0).trans rfl, (qg b2.out 1).trans rfl, (qg b2.out 2).trans rfl⟩ (fun hHeld => ?_); refine with_tabW laws_FnExactOpenBlock.tab5 laws_FnExactOpenBlock.bits5 (fun HT_ HW_ => ?_)
  generalize w21.drew = w22 at b1 b2 HB hHeld ⊢
  refine take_ (i := 0) (N := some 22) (v := ?_) (a' := ?_) #[true, false, false, false, false, false, false, false, false, false, false] rfl rfl (ze HT_.out HW_.out (by kernel_rfl)) (fun _ _ _ h => h) (Or.inl ⟨by rfl, ?_⟩) hHeld ?_ ?_
  rotate_left
  ·rintro w' ⟨s0, s1, s2, s3, s4, s5⟩
   go_simp
   with_reducible rfl
  rotate_left
  ·simp only [Act.put, sA_, sB_, sC_, i64_w, i32_w]
   rfl
  refine take_ (i := 2) (N := some 24) (v := ?_) (a' := ?_) #[true, false, true, false, false, false, false, false, false, false, false] rfl rfl (ze HT_.out HW_.out (by kernel_rfl)) (fun _ _ _ h => h) (Or.inl ⟨by rfl, ?_⟩) hHeld ?_ ?_
  rotate_left
  ·rintro w' ⟨s0, s1, s2, s3, s4, s5⟩
   go_simp
   with_reducible rfl
  rotate_left
  ·simp only [Act.put, sA_, sB_, sC_, i64_w, i32_w]
   rfl
  refine join_ (σ := Value × Value × Nat) 2 #[true, true, true, true, true, true, true, true, true, false, false] (fun s_ => [(23, .agg #[.int .i64 B0, .int .i64 B1, s_.1]), (25, .agg #[.int .i64 B2, .int .i64 B3, .bool B4]), (26, .tuple #[.agg #[.int .i64 f2, .int .i64 f3, s_.2.1], .bool m9]), (6, .pointer (some ⟨s_.2.2, 0, none⟩)), (21, .tuple #[.agg #[.int .i64 f2, .int .i64 f3, s_.2.1], .bool m9]), (27, .agg #[.int .i64 f2, .int .i64 f3, s_.2.1]), (28, .bool m9)]) (fun s_ w' => (w'.cell? ⟨d0, 0, none⟩ = some (.int .i64 a0_0) ∧ w'.cell? ⟨d0, 1, none⟩ = some (.int .i64 a0_1) ∧ w'.cell? ⟨d0, 2, none⟩ = some (.slice A0_2 l0_2.length c0_2) ∧ w'.cell? ⟨d1, 0, none⟩ = some (.int .i64 a1_0) ∧ w'.cell? ⟨d1, 1, none⟩ = some (.int .i64 a1_1) ∧ w'.cell? ⟨d1, 2, none⟩ = some (.bool a1_2)) ∧ (Kd.R k38 38 w' w.heap.size (fun k_ => some k_ ≠ (s_.2.1 : Value).ownBlock) s_.1 p0) ∧ (Kd.R k38 38 w' w.heap.size (fun k_ => some k_ ≠ (s_.1 : Value).ownBlock) s_.2.1 d6) ∧ (w'.heap[d0]? = some (.cells #[.int .i64 a0_0, .int .i64 a0_1, .slice A0_2 l0_2.length c0_2] 24 (0, 0))) ∧ (w'.heap[d1]? = some (.cells #[.int .i64 a1_0, .int .i64 a1_1, .bool a1_2] 35 (0, 0))) ∧ (w'.heap[s_.2.2]? = some (.cells #[.int .i64 0, .int .i64 0, .slice none 0 0] 30 (0, 0))) ∧ (w.heap.size ≤ s_.2.2) ∧ (w.heap.size ≤ s_.2.2) ∧ (d0 ≠ s_.2.2) ∧ (s_.2.2 ≠ d0) ∧ (d1 ≠ s_.2.2) ∧ (s_.2.2 ≠ d1) ∧ (Below w.heap.size w w')) ?_ ?_
  rotate_left
  ·intro hCont
   refine two_ (i := 1) (j := 8) (Ni := some 23) (Nj := some 6) #[true, true, true, false, false, false, false, false, false, false, false] #[true, false, true, false, false, false, false, false, true, false, false] rfl rfl rfl rfl (two_of HT_.out (by kernel_rfl)) (by decide) (by decide) (fun K hK => ?_) (fun K hK => ?_)
   ·skip
    refine goes_ Try.func20 (by kernel_rfl) rfl #[.agg #[.int .i64 a0_0, .int .i64 a0_1, .slice A0_2 l0_2.length c0_2]] (by rfl) rfl rfl (by (try simp only [List.map_toArray, List.map_cons, List.map_nil]); first | done | rfl | (simp only [List.length_drop, List.length_take]; rfl)) ?_
    with_reducible refine (laws_toCity.calls k a0_0 a0_1 _ _ l0_2 B0 B1 p0 _ ?side1 ?side2 A10.out).mono ?_
    (case side1 => repeat (first | exact (Kd.zm HR0_2.out HB.out) | (with_reducible refine Kd.zg ?_ _) | (with_reducible refine Kd.zf ?_ _) | (with_reducible refine Kd.zi ?_)))
    (case side2 => exact HC0_2.out)
    rintro e w23 ⟨v235, rfl, ho0, hb⟩
    refine ⟨_, rfl, ?_⟩
    have n0_ := qa.mk (Kd.zt ho0 (qm (be2_ HB d4 d5)));have n1_ := qa.mk (qk (g := d0) (o := .cells #[.int .i64 a0_0, .int .i64 a0_1, .slice A0_2 l0_2.length c0_2] 24 (0, 0)) (bk_ b1) hb);have n2_ := qa.mk (qk (g := d1) (o := .cells #[.int .i64 a1_0, .int .i64 a1_1, .bool a1_2] 35 (0, 0)) (bk_ b2) hb);have n3_ := qa.mk (qn (be2_ HB d4 d5) hb);clear b1;clear b2;clear HB;have d9 := n0_;have b1 := n1_;have b2 := n2_;have HB := n3_;clear n0_ n1_ n2_ n3_
    (try clear hb)
    (try clear hb2)
    (try clear hk)
    (try clear hi)
    (try clear ho0)
    refine hK.out _ _ ⟨(qg b1.out 0).trans rfl, (qg b1.out 1).trans rfl, (qg b1.out 2).trans rfl, (qg b2.out 0).trans rfl, (qg b2.out 1).trans rfl, (qg b2.out 2).trans rfl⟩ (fun hHeld => ?_)
    clear hK K
    refine norm_ (a' := ?_) ?_ ?_
    rotate_left
    ·show Act.put _ (some 23) _ = _
     simp only [Act.put, sA_, sB_, sC_, i64_w, i32_w]
     rfl
    refine two_ (i := 3) (j := 8) (Ni := some 25) (Nj := some 6) #[true, true, true, true, false, false, false, false, false, false, false] #[true, true, true, false, false, false, false, false, true, false, false] rfl rfl rfl rfl (two_of HT_.out (by kernel_rfl)) (by decide) (by decide) (fun K hK => ?_) (fun K hK => ?_)
    ·skip
     refine goes_ Try.func24 (by kernel_rfl) rfl #[.agg #[.int .i64 a1_0, .int .i64 a1_1, .bool a1_2]] (by rfl) rfl rfl (by (try simp only [List.map_toArray, List.map_cons, List.map_nil]); first | done | rfl | (simp only [List.length_drop, List.length_take]; rfl)) ?_
     with_reducible refine (laws_toBlock.calls a1_0 a1_1 a1_2 B2 B3 B4 _ A11.out).mono ?_
     rintro e w24 ⟨rfl, hb⟩
     refine ⟨_, rfl, ?_⟩
     have n0_ := qa.mk (Kd.qz (kr_ d9) hb);have n1_ := qa.mk (qk (g := d0) (o := .cells #[.int .i64 a0_0, .int .i64 a0_1, .slice A0_2 l0_2.length c0_2] 24 (0, 0)) (bk_ b1) hb);have n2_ := qa.mk (qk (g := d1) (o := .cells #[.int .i64 a1_0, .int .i64 a1_1, .bool a1_2] 35 (0, 0)) (bk_ b2) hb);have n3_ := qa.mk (qn (be2_ HB d4 d5) hb);clear d9;clear b1;clear b2;clear HB;have d9 := n0_;have b1 := n1_;have b2 := n2_;have HB := n3_;clear n0_ n1_ n2_ n3_
     (try clear hb)
     (try clear hb2)
     (try clear hk)
     (try clear hi)
     obtain ⟨Ao25, co25, eo25⟩ := Kd.zr d9.out
     (first | subst eo25 | (injection eo25 with f1_ f2_ f3_; have f4_ := f1_.symm; have f5_ := f3_.symm; clear f1_ f2_ f3_; subst f4_; subst f5_))
     refine hK.out _ _ ⟨(qg b1.out 0).trans rfl, (qg b1.out 1).trans rfl, (qg b1.out 2).trans rfl, (qg b2.out 0).trans rfl, (qg b2.out 1).trans rfl, (qg b2.out 2).trans rfl⟩ (fun hHeld => ?_)
     clear hK K
     refine norm_ (a' := ?_) ?_ ?_
     rotate_left
     ·show Act.put _ (some 25) _ = _
      simp only [Act.put, sA_, sB_, sC_, i64_w, i32_w]
      rfl
     refine two_ (i := 4) (j := 8) (Ni := some 26) (Nj := some 6) #[true, true, true, true, true, false, false, false, false, false, false] #[true, true, true, true, false, false, false, false, true, false, false] rfl rfl rfl rfl (two_of HT_.out (by kernel_rfl)) (by decide) (by decide) (fun K hK => ?_) (fun K hK => ?_)
     ·skip
      refine goes_ Try.func23 (by kernel_rfl) rfl #[.agg #[.int .i64 B0, .int .i64 B1, .slice Ao25 p0.length co25], .agg #[.int .i64 B2, .int .i64 B3, .bool B4]] (by rfl) rfl rfl (by (try simp only [List.map_toArray, List.map_cons, List.map_nil]); first | done | rfl | (simp only [List.length_drop, List.length_take]; rfl)) ?_
      with_reducible refine (spec_OpenBlock.calls k B0 B1 _ _ p0 B2 B3 B4 f2 f3 d6 m9 _ ?side1 ?side2 A12.out).mono ?_
      (case side1 => repeat (first | exact (Kd.za d9.out).2.2 | (with_reducible refine Kd.zg ?_ _) | (with_reducible refine Kd.zf ?_ _) | (with_reducible refine Kd.zi ?_)))
      (case side2 => exact (Kd.za d9.out).2.1)
      rintro e w26 ⟨v243, rfl, ho0, hb⟩
      refine ⟨_, rfl, ?_⟩
      have n0_ := qa.mk (Kd.zh (kr_ d9) (Kd.zo ho0) hb);have n1_ := qa.mk (Kd.zt (Kd.zp ho0 (Kd.R_lt (kr_ d9))) (qm (be2_ HB d4 d5)));have n2_ := qa.mk (qk (g := d0) (o := .cells #[.int .i64 a0_0, .int .i64 a0_1, .slice A0_2 l0_2.length c0_2] 24 (0, 0)) (bk_ b1) hb);have n3_ := qa.mk (qk (g := d1) (o := .cells #[.int .i64 a1_0, .int .i64 a1_1, .bool a1_2] 35 (0, 0)) (bk_ b2) hb);have n4_ := qa.mk (qn (be2_ HB d4 d5) hb);clear d9;clear b1;clear b2;clear HB;have d9 := n0_;have g3 := n1_;have b1 := n2_;have b2 := n3_;have HB := n4_;clear n0_ n1_ n2_ n3_ n4_
      (try clear hb)
      (try clear hb2)
      (try clear hk)
      (try clear hi)
      (try clear ho0)
      refine hK.out _ _ ⟨(qg b1.out 0).trans rfl, (qg b1.out 1).trans rfl, (qg b1.out 2).trans rfl, (qg b2.out 0).trans rfl, (qg b2.out 1).trans rfl, (qg b2.out 2).trans rfl⟩ (fun hHeld => ?_)
      clear hK K
      refine norm_ (a' := ?_) ?_ ?_
      rotate_left
      ·show Act.put _ (some 26) _ = _
       simp only [Act.put, sA_, sB_, sC_, i64_w, i32_w]
       rfl
      refine pure_ (i := 5) (N := some 21) (v := ?_) (a' := ?_) #[true, true, true, true, true, true, false, false, false, false, false] rfl rfl (qv HT_.out (by kernel_rfl)) (fun _ _ _ h => h) (Or.inl ⟨by rfl, ?_⟩) ?_ ?_
      rotate_left
      ·intro w'
       go_simp
       with_reducible rfl
      rotate_left
      ·simp only [Act.put, sA_, sB_, sC_, i64_w, i32_w]
       rfl
      refine pure_ (i := 6) (N := some 27) (v := ?_) (a' := ?_) #[true, true, true, true, true, true, true, false, false, false, false] rfl rfl (qv HT_.out (by kernel_rfl)) (fun _ _ _ h => h) (Or.inl ⟨by rfl, ?_⟩) ?_ ?_
      rotate_left
      ·intro w'
       go_simp
       with_reducible rfl
      rotate_left
      ·simp only [Act.put, sA_, sB_, sC_, i64_w, i32_w]
       rfl
      refine pure_ (i := 7) (N := some 28) (v := ?_) (a' := ?_) #[true, true, true, true, true, true, true, true, false, false, false] rfl rfl (qv HT_.out (by kernel_rfl)) (fun _ _ _ h => h) (Or.inl ⟨by rfl, ?_⟩) ?_ ?_
      rotate_left
      ·intro w'
       go_simp
       with_reducible rfl
      rotate_left
      ·simp only [Act.put, sA_, sB_, sC_, i64_w, i32_w]
       rfl
      refine one_ (i := 8) (N := some 6) #[true, true, true, true, true, true, true, true, true, false, false] rfl rfl (zn HT_.out (by kernel_rfl)) (by decide) (fun K hK => ?_)
      refine box_step ?hg (N := 6) ?hd (cs := #[.int .i64 0, .int .i64 0, .slice none 0 0]) (t := 30) ?hr ?_; (case hd => rfl); (case hg => rfl); (case hr => first | (go_simp; done) | (go_simp; rfl))
      intro b9 hg w27 hbox hb
      have n0_ := qa.mk (Kd.qz (kr_ d9) hb);have n1_ := qa.mk (Kd.qz (kr_ g3) hb);have n2_ := qa.mk (qk (g := d0) (o := .cells #[.int .i64 a0_0, .int .i64 a0_1, .slice A0_2 l0_2.length c0_2] 24 (0, 0)) (bk_ b1) hb);have n3_ := qa.mk (qk (g := d1) (o := .cells #[.int .i64 a1_0, .int .i64 a1_1, .bool a1_2] 35 (0, 0)) (bk_ b2) hb);have n4_ := qa.mk (qn (be2_ HB d4 d5) hb);have n5_ := qa.mk (hbox);have n6_ := qa.mk ((by rw [hg]; exact (qm (be2_ HB d4 d5)) : w.heap.size ≤ b9));have n7_ := qa.mk ((by rw [hg]; exact (qm (be2_ HB d4 d5)) : w.heap.size ≤ b9));have n8_ := qa.mk ((by rw [hg]; exact Nat.ne_of_lt (qr (g := d0) (o := .cells #[.int .i64 a0_0, .int .i64 a0_1, .slice A0_2 l0_2.length c0_2] 24 (0, 0)) (bk_ b1)) : d0 ≠ b9));have n9_ := qa.mk ((by rw [hg]; exact Nat.ne_of_gt (qr (g := d0) (o := .cells #[.int .i64 a0_0, .int .i64 a0_1, .slice A0_2 l0_2.length c0_2] 24 (0, 0)) (bk_ b1)) : b9 ≠ d0));have n10_ := qa.mk ((by rw [hg]; exact Nat.ne_of_lt (qr (g := d1) (o := .cells #[.int .i64 a1_0, .int .i64 a1_1, .bool a1_2] 35 (0, 0)) (bk_ b2)) : d1 ≠ b9));have n11_ := qa.mk ((by rw [hg]; exact Nat.ne_of_gt (qr (g := d1) (o := .cells #[.int .i64 a1_0, .int .i64 a1_1, .bool a1_2] 35 (0, 0)) (bk_ b2)) : b9 ≠ d1));clear d9;clear g3;clear b1;clear b2;clear HB;have d9 := n0_;have g3 := n1_;have b1 := n2_;have b2 := n3_;have HB := n4_;have b5 := n5_;have D0 := n6_;have d7 := n7_;have g1 := n8_;have m8 := n9_;have g4 := n10_;have n0 := n11_;clear n0_ n1_ n2_ n3_ n4_ n5_ n6_ n7_ n8_ n9_ n10_ n11_;clear hb hbox hg
      refine hK.out _ _ ⟨(qg b1.out 0).trans rfl, (qg b1.out 1).trans rfl, (qg b1.out 2).trans rfl, (qg b2.out 0).trans rfl, (qg b2.out 1).trans rfl, (qg b2.out 2).trans rfl⟩ (fun hHeld => ?_)
      clear hK K
      refine norm_ (a' := ?_) ?_ ?_
      rotate_left
      ·show Act.put _ (some 6) _ = _
       simp only [Act.put, sA_, sB_, sC_, i64_w, i32_w]
       rfl
      exact norm_ (by simp only [putAll, Act.put, sA_, sB_, sC_]) (hCont (.slice Ao25 p0.length co25, v243, b9) _ ⟨hHeld, (by (with_reducible repeat (first | apply Kd.qo | apply Kd.qp | apply Kd.qq)); exact Kd.zc d9.out (fun _ hk => hk.2)), (by (with_reducible repeat (first | apply Kd.qo | apply Kd.qp | apply Kd.qq)); exact Kd.zc g3.out (fun _ hk => hk.2)), (bk_ b1), (bk_ b2), (bk_ b5), D0.out, d7.out, g1.out, m8.out, g4.out, n0.out, (be3_ HB d4 d5 d7)⟩)
     ·skip
      refine box_step ?hg (N := 6) ?hd (cs := #[.int .i64 0, .int .i64 0, .slice none 0 0]) (t := 30) ?hr ?_; (case hd => rfl); (case hg => rfl); (case hr => first | (go_simp; done) | (go_simp; rfl))
      intro b9 hg w25 hbox hb
      have n0_ := qa.mk (Kd.qz (kr_ d9) hb);have n1_ := qa.mk (qk (g := d0) (o := .cells #[.int .i64 a0_0, .int .i64 a0_1, .slice A0_2 l0_2.length c0_2] 24 (0, 0)) (bk_ b1) hb);have n2_ := qa.mk (qk (g := d1) (o := .cells #[.int .i64 a1_0, .int .i64 a1_1, .bool a1_2] 35 (0, 0)) (bk_ b2) hb);have n3_ := qa.mk (qn (be2_ HB d4 d5) hb);have n4_ := qa.mk (hbox);have n5_ := qa.mk ((by rw [hg]; exact (qm (be2_ HB d4 d5)) : w.heap.size ≤ b9));have n6_ := qa.mk ((by rw [hg]; exact (qm (be2_ HB d4 d5)) : w.heap.size ≤ b9));have n7_ := qa.mk ((by rw [hg]; exact Nat.ne_of_lt (qr (g := d0) (o := .cells #[.int .i64 a0_0, .int .i64 a0_1, .slice A0_2 l0_2.length c0_2] 24 (0, 0)) (bk_ b1)) : d0 ≠ b9));have n8_ := qa.mk ((by rw [hg]; exact Nat.ne_of_gt (qr (g := d0) (o := .cells #[.int .i64 a0_0, .int .i64 a0_1, .slice A0_2 l0_2.length c0_2] 24 (0, 0)) (bk_ b1)) : b9 ≠ d0));have n9_ := qa.mk ((by rw [hg]; exact Nat.ne_of_lt (qr (g := d1) (o := .cells #[.int .i64 a1_0, .int .i64 a1_1, .bool a1_2] 35 (0, 0)) (bk_ b2)) : d1 ≠ b9));have n10_ := qa.mk ((by rw [hg]; exact Nat.ne_of_gt (qr (g := d1) (o := .cells #[.int .i64 a1_0, .int .i64 a1_1, .bool a1_2] 35 (0, 0)) (bk_ b2)) : b9 ≠ d1));clear d9;clear b1;clear b2;clear HB;have d9 := n0_;have b1 := n1_;have b2 := n2_;have HB := n3_;have b5 := n4_;have D0 := n5_;have d7 := n6_;have g1 := n7_;have m8 := n8_;have g4 := n9_;have n0 := n10_;clear n0_ n1_ n2_ n3_ n4_ n5_ n6_ n7_ n8_ n9_ n10_;clear hb hbox hg;obtain ⟨Ao26, co26, eo26⟩ := Kd.zr d9.out
      (first | subst eo26 | (injection eo26 with f1_ f2_ f3_; have f4_ := f1_.symm; have f5_ := f3_.symm; clear f1_ f2_ f3_; subst f4_; subst f5_))
      refine hK.out _ _ ⟨(qg b1.out 0).trans rfl, (qg b1.out 1).trans rfl, (qg b1.out 2).trans rfl, (qg b2.out 0).trans rfl, (qg b2.out 1).trans rfl, (qg b2.out 2).trans rfl⟩ (fun hHeld => ?_)
      clear hK K
      refine norm_ (a' := ?_) ?_ ?_
      rotate_left
      ·show Act.put _ (some 6) _ = _
       simp only [Act.put, sA_, sB_, sC_, i64_w, i32_w]
       rfl
      refine one_ (i := 4) (N := some 26) #[true, true, true, true, true, false, false, false, true, false, false] rfl rfl (zn HT_.out (by kernel_rfl)) (by decide) (fun K hK => ?_)
      refine goes_ Try.func23 (by kernel_rfl) rfl #[.agg #[.int .i64 B0, .int .i64 B1, .slice Ao26 p0.length co26], .agg #[.int .i64 B2, .int .i64 B3, .bool B4]] (by rfl) rfl rfl (by (try simp only [List.map_toArray, List.map_cons, List.map_nil]); first | done | rfl | (simp only [List.length_drop, List.length_take]; rfl)) ?_
      with_reducible refine (spec_OpenBlock.calls k B0 B1 _ _ p0 B2 B3 B4 f2 f3 d6 m9 _ ?side1 ?side2 A12.out).mono ?_
      (case side1 => repeat (first | exact (Kd.za d9.out).2.2 | (with_reducible refine Kd.zg ?_ _) | (with_reducible refine Kd.zf ?_ _) | (with_reducible refine Kd.zi ?_)))
      (case side2 => exact (Kd.za d9.out).2.1)
      rintro e w27 ⟨v243, rfl, ho0, hb⟩
      refine ⟨_, rfl, ?_⟩
      have n0_ := qa.mk (Kd.zh (kr_ d9) (Kd.zo ho0) hb);have n1_ := qa.mk (Kd.zt (Kd.zp ho0 (Kd.R_lt (kr_ d9))) (qm (be3_ HB d4 d5 d7)));have n2_ := qa.mk (qk (g := d0) (o := .cells #[.int .i64 a0_0, .int .i64 a0_1, .slice A0_2 l0_2.length c0_2] 24 (0, 0)) (bk_ b1) hb);have n3_ := qa.mk (qk (g := d1) (o := .cells #[.int .i64 a1_0, .int .i64 a1_1, .bool a1_2] 35 (0, 0)) (bk_ b2) hb);have n4_ := qa.mk (qk (g := b9) (o := .cells #[.int .i64 0, .int .i64 0, .slice none 0 0] 30 (0, 0)) (bk_ b5) hb);have n5_ := qa.mk (qn (be3_ HB d4 d5 d7) hb);clear d9;clear b1;clear b2;clear b5;clear HB;have d9 := n0_;have g3 := n1_;have b1 := n2_;have b2 := n3_;have b5 := n4_;have HB := n5_;clear n0_ n1_ n2_ n3_ n4_ n5_
      (try clear hb)
      (try clear hb2)
      (try clear hk)
      (try clear hi)
      (try clear ho0)
      refine hK.out _ _ ⟨(qg b1.out 0).trans rfl, (qg b1.out 1).trans rfl, (qg b1.out 2).trans rfl, (qg b2.out 0).trans rfl, (qg b2.out 1).trans rfl, (qg b2.out 2).trans rfl⟩ (fun hHeld => ?_)
      clear hK K
      refine norm_ (a' := ?_) ?_ ?_
      rotate_left
      ·show Act.put _ (some 26) _ = _
       simp only [Act.put, sA_, sB_, sC_, i64_w, i32_w]
       rfl
      refine pure_ (i := 5) (N := some 21) (v := ?_) (a' := ?_) #[true, true, true, true, true, true, false, false, true, false, false] rfl rfl (qv HT_.out (by kernel_rfl)) (fun _ _ _ h => h) (Or.inl ⟨by rfl, ?_⟩) ?_ ?_
      rotate_left
      ·intro w'
       go_simp
       with_reducible rfl
      rotate_left
      ·simp only [Act.put, sA_, sB_, sC_, i64_w, i32_w]
       rfl
      refine pure_ (i := 6) (N := some 27) (v := ?_) (a' := ?_) #[true, true, true, true, true, true, true, false, true, false, false] rfl rfl (qv HT_.out (by kernel_rfl)) (fun _ _ _ h => h) (Or.inl ⟨by rfl, ?_⟩) ?_ ?_
      rotate_left
      ·intro w'
       go_simp
       with_reducible rfl
      rotate_left
      ·simp only [Act.put, sA_, sB_, sC_, i64_w, i32_w]
       rfl
      refine pure_ (i := 7) (N := some 28) (v := ?_) (a' := ?_) #[true, true, true, true, true, true, true, true, true, false, false] rfl rfl (qv HT_.out (by kernel_rfl)) (fun _ _ _ h => h) (Or.inl ⟨by rfl, ?_⟩) ?_ ?_
      rotate_left
      ·intro w'
       go_simp
       with_reducible rfl
      rotate_left
      ·simp only [Act.put, sA_, sB_, sC_, i64_w, i32_w]
       rfl
      exact norm_ (by simp only [putAll, Act.put, sA_, sB_, sC_]) (hCont (.slice Ao26 p0.length co26, v243, b9) _ ⟨hHeld, (by (with_reducible repeat (first | apply Kd.qo | apply Kd.qp | apply Kd.qq)); exact Kd.zc d9.out (fun _ hk => hk.2)), (by (with_reducible repeat (first | apply Kd.qo | apply Kd.qp | apply Kd.qq)); exact Kd.zc g3.out (fun _ hk => hk.2)), (bk_ b1), (bk_ b2), (bk_ b5), D0.out, d7.out, g1.out, m8.out, g4.out, n0.out, (be3_ HB d4 d5 d7)⟩)
    ·skip
     refine box_step ?hg (N := 6) ?hd (cs := #[.int .i64 0, .int .i64 0, .slice none 0 0]) (t := 30) ?hr ?_; (case hd => rfl); (case hg => rfl); (case hr => first | (go_simp; done) | (go_simp; rfl))
     intro b9 hg w24 hbox hb
     have n0_ := qa.mk (Kd.qz (kr_ d9) hb);have n1_ := qa.mk (qk (g := d0) (o := .cells #[.int .i64 a0_0, .int .i64 a0_1, .slice A0_2 l0_2.length c0_2] 24 (0, 0)) (bk_ b1) hb);have n2_ := qa.mk (qk (g := d1) (o := .cells #[.int .i64 a1_0, .int .i64 a1_1, .bool a1_2] 35 (0, 0)) (bk_ b2) hb);have n3_ := qa.mk (qn (be2_ HB d4 d5) hb);have n4_ := qa.mk (hbox);have n5_ := qa.mk ((by rw [hg]; exact (qm (be2_ HB d4 d5)) : w.heap.size ≤ b9));have n6_ := qa.mk ((by rw [hg]; exact (qm (be2_ HB d4 d5)) : w.heap.size ≤ b9));have n7_ := qa.mk ((by rw [hg]; exact Nat.ne_of_lt (qr (g := d0) (o := .cells #[.int .i64 a0_0, .int .i64 a0_1, .slice A0_2 l0_2.length c0_2] 24 (0, 0)) (bk_ b1)) : d0 ≠ b9));have n8_ := qa.mk ((by rw [hg]; exact Nat.ne_of_gt (qr (g := d0) (o := .cells #[.int .i64 a0_0, .int .i64 a0_1, .slice A0_2 l0_2.length c0_2] 24 (0, 0)) (bk_ b1)) : b9 ≠ d0));have n9_ := qa.mk ((by rw [hg]; exact Nat.ne_of_lt (qr (g := d1) (o := .cells #[.int .i64 a1_0, .int .i64 a1_1, .bool a1_2] 35 (0, 0)) (bk_ b2)) : d1 ≠ b9));have n10_ := qa.mk ((by rw [hg]; exact Nat.ne_of_gt (qr (g := d1) (o := .cells #[.int .i64 a1_0, .int .i64 a1_1, .bool a1_2] 35 (0, 0)) (bk_ b2)) : b9 ≠ d1));clear d9;clear b1;clear b2;clear HB;have d9 := n0_;have b1 := n1_;have b2 := n2_;have HB := n3_;have b5 := n4_;have D0 := n5_;have d7 := n6_;have g1 := n7_;have m8 := n8_;have g4 := n9_;have n0 := n10_;clear n0_ n1_ n2_ n3_ n4_ n5_ n6_ n7_ n8_ n9_ n10_;clear hb hbox hg
     refine hK.out _ _ ⟨(qg b1.out 0).trans rfl, (qg b1.out 1).trans rfl, (qg b1.out 2).trans rfl, (qg b2.out 0).trans rfl, (qg b2.out 1).trans rfl, (qg b2.out 2).trans rfl⟩ (fun hHeld => ?_)
     clear hK K
     refine norm_ (a' := ?_) ?_ ?_
     rotate_left
     ·show Act.put _ (some 6) _ = _
      simp only [Act.put, sA_, sB_, sC_, i64_w, i32_w]
      rfl
     refine one_ (i := 3) (N := some 25) #[true, true, true, true, false, false, false, false, true, false, false] rfl rfl (zn HT_.out (by kernel_rfl)) (by decide) (fun K hK => ?_)
     refine goes_ Try.func24 (by kernel_rfl) rfl #[.agg #[.int .i64 a1_0, .int .i64 a1_1, .bool a1_2]] (by rfl) rfl rfl (by (try simp only [List.map_toArray, List.map_cons, List.map_nil]); first | done | rfl | (simp only [List.length_drop, List.length_take]; rfl)) ?_
     with_reducible refine (laws_toBlock.calls a1_0 a1_1 a1_2 B2 B3 B4 _ A11.out).mono ?_
     rintro e w25 ⟨rfl, hb⟩
     refine ⟨_, rfl, ?_⟩
     have n0_ := qa.mk (Kd.qz (kr_ d9) hb);have n1_ := qa.mk (qk (g := d0) (o := .cells #[.int .i64 a0_0, .int .i64 a0_1, .slice A0_2 l0_2.length c0_2] 24 (0, 0)) (bk_ b1) hb);have n2_ := qa.mk (qk (g := d1) (o := .cells #[.int .i64 a1_0, .int .i64 a1_1, .bool a1_2] 35 (0, 0)) (bk_ b2) hb);have n3_ := qa.mk (qk (g := b9) (o := .cells #[.int .i64 0, .int .i64 0, .slice none 0 0] 30 (0, 0)) (bk_ b5) hb);have n4_ := qa.mk (qn (be3_ HB d4 d5 d7) hb);clear d9;clear b1;clear b2;clear b5;clear HB;have d9 := n0_;have b1 := n1_;have b2 := n2_;have b5 := n3_;have HB := n4_;clear n0_ n1_ n2_ n3_ n4_
     (try clear hb)
     (try clear hb2)
     (try clear hk)
     (try clear hi)
     obtain ⟨Ao26, co26, eo26⟩ := Kd.zr d9.out
     (first | subst eo26 | (injection eo26 with f1_ f2_ f3_; have f4_ := f1_.symm; have f5_ := f3_.symm; clear f1_ f2_ f3_; subst f4_; subst f5_))
     refine hK.out _ _ ⟨(qg b1.out 0).trans rfl, (qg b1.out 1).trans rfl, (qg b1.out 2).trans rfl, (qg b2.out 0).trans rfl, (qg b2.out 1).trans rfl, (qg b2.out 2).trans rfl⟩ (fun hHeld => ?_)
     clear hK K
     refine norm_ (a' := ?_) ?_ ?_
     rotate_left
     ·show Act.put _ (some 25) _ = _
      simp only [Act.put, sA_, sB_, sC_, i64_w, i32_w]
      rfl
     refine one_ (i := 4) (N := some 26) #[true, true, true, true, true, false, false, false, true, false, false] rfl rfl (zn HT_.out (by kernel_rfl)) (by decide) (fun K hK => ?_)
     refine goes_ Try.func23 (by kernel_rfl) rfl #[.agg #[.int .i64 B0, .int .i64 B1, .slice Ao26 p0.length co26], .agg #[.int .i64 B2, .int .i64 B3, .bool B4]] (by rfl) rfl rfl (by (try simp only [List.map_toArray, List.map_cons, List.map_nil]); first | done | rfl | (simp only [List.length_drop, List.length_take]; rfl)) ?_
     with_reducible refine (spec_OpenBlock.calls k B0 B1 _ _ p0 B2 B3 B4 f2 f3 d6 m9 _ ?side1 ?side2 A12.out).mono ?_
     (case side1 => repeat (first | exact (Kd.za d9.out).2.2 | (with_reducible refine Kd.zg ?_ _) | (with_reducible refine Kd.zf ?_ _) | (with_reducible refine Kd.zi ?_)))
     (case side2 => exact (Kd.za d9.out).2.1)
     rintro e w27 ⟨v243, rfl, ho0, hb⟩
     refine ⟨_, rfl, ?_⟩
     have n0_ := qa.mk (Kd.zh (kr_ d9) (Kd.zo ho0) hb);have n1_ := qa.mk (Kd.zt (Kd.zp ho0 (Kd.R_lt (kr_ d9))) (qm (be3_ HB d4 d5 d7)));have n2_ := qa.mk (qk (g := d0) (o := .cells #[.int .i64 a0_0, .int .i64 a0_1, .slice A0_2 l0_2.length c0_2] 24 (0, 0)) (bk_ b1) hb);have n3_ := qa.mk (qk (g := d1) (o := .cells #[.int .i64 a1_0, .int .i64 a1_1, .bool a1_2] 35 (0, 0)) (bk_ b2) hb);have n4_ := qa.mk (qk (g := b9) (o := .cells #[.int .i64 0, .int .i64 0, .slice none 0 0] 30 (0, 0)) (bk_ b5) hb);have n5_ := qa.mk (qn (be3_ HB d4 d5 d7) hb);clear d9;clear b1;clear b2;clear b5;clear HB;have d9 := n0_;have g3 := n1_;have b1 := n2_;have b2 := n3_;have b5 := n4_;have HB := n5_;clear n0_ n1_ n2_ n3_ n4_ n5_
     (try clear hb)
     (try clear hb2)
     (try clear hk)
     (try clear hi)
     (try clear ho0)
     refine hK.out _ _ ⟨(qg b1.out 0).trans rfl, (qg b1.out 1).trans rfl, (qg b1.out 2).trans rfl, (qg b2.out 0).trans rfl, (qg b2.out 1).trans rfl, (qg b2.out 2).trans rfl⟩ (fun hHeld => ?_)
     clear hK K
     refine norm_ (a' := ?_) ?_ ?_
     rotate_left
     ·show Act.put _ (some 26) _ = _
      simp only [Act.put, sA_, sB_, sC_, i64_w, i32_w]
      rfl
     refine pure_ (i := 5) (N := some 21) (v := ?_) (a' := ?_) #[true, true, true, true, true, true, false, false, true, false, false] rfl rfl (qv HT_.out (by kernel_rfl)) (fun _ _ _ h => h) (Or.inl ⟨by rfl, ?_⟩) ?_ ?_
     rotate_left
     ·intro w'
      go_simp
      with_reducible rfl
     rotate_left
     ·simp only [Act.put, sA_, sB_, sC_, i64_w, i32_w]
      rfl
     refine pure_ (i := 6) (N := some 27) (v := ?_) (a' := ?_) #[true, true, true, true, true, true, true, false, true, false, false] rfl rfl (qv HT_.out (by kernel_rfl)) (fun _ _ _ h => h) (Or.inl ⟨by rfl, ?_⟩) ?_ ?_
     rotate_left
     ·intro w'
      go_simp
      with_reducible rfl
     rotate_left
     ·simp only [Act.put, sA_, sB_, sC_, i64_w, i32_w]
      rfl
     refine pure_ (i := 7) (N := some 28) (v := ?_) (a' := ?_) #[true, true, true, true, true, true, true, true, true, false, false] rfl rfl (qv HT_.out (by kernel_rfl)) (fun _ _ _ h => h) (Or.inl ⟨by rfl, ?_⟩) ?_ ?_
     rotate_left
     ·intro w'
      go_simp
      with_reducible rfl
     rotate_left
     ·simp only [Act.put, sA_, sB_, sC_, i64_w, i32_w]
      rfl
     exact norm_ (by simp only [putAll, Act.put, sA_, sB_, sC_]) (hCont (.slice Ao26 p0.length co26, v243, b9) _ ⟨hHeld, (by (with_reducible repeat (first | apply Kd.qo | apply Kd.qp | apply Kd.qq)); exact Kd.zc d9.out (fun _ hk => hk.2)), (by (with_reducible repeat (first | apply Kd.qo | apply Kd.qp | apply Kd.qq)); exact Kd.zc g3.out (fun _ hk => hk.2)), (bk_ b1), (bk_ b2), (bk_ b5), D0.out, d7.out, g1.out, m8.out, g4.out, n0.out, (be3_ HB d4 d5 d7)⟩)
   ·skip
    refine box_step ?hg (N := 6) ?hd (cs := #[.int .i64 0, .int .i64 0, .slice none 0 0]) (t := 30) ?hr ?_; (case hd => rfl); (case hg => rfl); (case hr => first | (go_simp; done) | (go_simp; rfl))
    intro b9 hg w23 hbox hb
    have n0_ := qa.mk (qk (g := d0) (o := .cells #[.int .i64 a0_0, .int .i64 a0_1, .slice A0_2 l0_2.length c0_2] 24 (0, 0)) (bk_ b1) hb);have n1_ := qa.mk (qk (g := d1) (o := .cells #[.int .i64 a1_0, .int .i64 a1_1, .bool a1_2] 35 (0, 0)) (bk_ b2) hb);have n2_ := qa.mk (qn (be2_ HB d4 d5) hb);have n3_ := qa.mk (hbox);have n4_ := qa.mk ((by rw [hg]; exact (qm (be2_ HB d4 d5)) : w.heap.size ≤ b9));have n5_ := qa.mk ((by rw [hg]; exact (qm (be2_ HB d4 d5)) : w.heap.size ≤ b9));have n6_ := qa.mk ((by rw [hg]; exact Nat.ne_of_lt (qr (g := d0) (o := .cells #[.int .i64 a0_0, .int .i64 a0_1, .slice A0_2 l0_2.length c0_2] 24 (0, 0)) (bk_ b1)) : d0 ≠ b9));have n7_ := qa.mk ((by rw [hg]; exact Nat.ne_of_gt (qr (g := d0) (o := .cells #[.int .i64 a0_0, .int .i64 a0_1, .slice A0_2 l0_2.length c0_2] 24 (0, 0)) (bk_ b1)) : b9 ≠ d0));have n8_ := qa.mk ((by rw [hg]; exact Nat.ne_of_lt (qr (g := d1) (o := .cells #[.int .i64 a1_0, .int .i64 a1_1, .bool a1_2] 35 (0, 0)) (bk_ b2)) : d1 ≠ b9));have n9_ := qa.mk ((by rw [hg]; exact Nat.ne_of_gt (qr (g := d1) (o := .cells #[.int .i64 a1_0, .int .i64 a1_1, .bool a1_2] 35 (0, 0)) (bk_ b2)) : b9 ≠ d1));clear b1;clear b2;clear HB;have b1 := n0_;have b2 := n1_;have HB := n2_;have b5 := n3_;have D0 := n4_;have d7 := n5_;have g1 := n6_;have m8 := n7_;have g4 := n8_;have n0 := n9_;clear n0_ n1_ n2_ n3_ n4_ n5_ n6_ n7_ n8_ n9_;clear hb hbox hg
    refine hK.out _ _ ⟨(qg b1.out 0).trans rfl, (qg b1.out 1).trans rfl, (qg b1.out 2).trans rfl, (qg b2.out 0).trans rfl, (qg b2.out 1).trans rfl, (qg b2.out 2).trans rfl⟩ (fun hHeld => ?_)
    clear hK K
    refine norm_ (a' := ?_) ?_ ?_
    rotate_left
    ·show Act.put _ (some 6) _ = _
     simp only [Act.put, sA_, sB_, sC_, i64_w, i32_w]
     rfl
    refine one_ (i := 1) (N := some 23) #[true, true, true, false, false, false, false, false, true, false, false] rfl rfl (zn HT_.out (by kernel_rfl)) (by decide) (fun K hK => ?_)
    refine goes_ Try.func20 (by kernel_rfl) rfl #[.agg #[.int .i64 a0_0, .int .i64 a0_1, .slice A0_2 l0_2.length c0_2]] (by rfl) rfl rfl (by (try simp only [List.map_toArray, List.map_cons, List.map_nil]); first | done | rfl | (simp only [List.length_drop, List.length_take]; rfl)) ?_
    with_reducible refine (laws_toCity.calls k a0_0 a0_1 _ _ l0_2 B0 B1 p0 _ ?side1 ?side2 A10.out).mono ?_
    (case side1 => repeat (first | exact (Kd.zm HR0_2.out HB.out) | (with_reducible refine Kd.zg ?_ _) | (with_reducible refine Kd.zf ?_ _) | (with_reducible refine Kd.zi ?_)))
    (case side2 => exact HC0_2.out)
    rintro e w24 ⟨v235, rfl, ho0, hb⟩
    refine ⟨_, rfl, ?_⟩
    have n0_ := qa.mk (Kd.zt ho0 (qm (be3_ HB d4 d5 d7)));have n1_ := qa.mk (qk (g := d0) (o := .cells #[.int .i64 a0_0, .int .i64 a0_1, .slice A0_2 l0_2.length c0_2] 24 (0, 0)) (bk_ b1) hb);have n2_ := qa.mk (qk (g := d1) (o := .cells #[.int .i64 a1_0, .int .i64 a1_1, .bool a1_2] 35 (0, 0)) (bk_ b2) hb);have n3_ := qa.mk (qk (g := b9) (o := .cells #[.int .i64 0, .int .i64 0, .slice none 0 0] 30 (0, 0)) (bk_ b5) hb);have n4_ := qa.mk (qn (be3_ HB d4 d5 d7) hb);clear b1;clear b2;clear b5;clear HB;have d9 := n0_;have b1 := n1_;have b2 := n2_;have b5 := n3_;have HB := n4_;clear n0_ n1_ n2_ n3_ n4_
    (try clear hb)
    (try clear hb2)
    (try clear hk)
    (try clear hi)
    (try clear ho0)
    refine hK.out _ _ ⟨(qg b1.out 0).trans rfl, (qg b1.out 1).trans rfl, (qg b1.out 2).trans rfl, (qg b2.out 0).trans rfl, (qg b2.out 1).trans rfl, (qg b2.out 2).trans rfl⟩ (fun hHeld => ?_)
    clear hK K
    refine norm_ (a' := ?_) ?_ ?_
    rotate_left
    ·show Act.put _ (some 23) _ = _
     simp only [Act.put, sA_, sB_, sC_, i64_w, i32_w]
     rfl
    refine one_ (i := 3) (N := some 25) #[true, true, true, true, false, false, false, false, true, false, false] rfl rfl (zn HT_.out (by kernel_rfl)) (by decide) (fun K hK => ?_)
    refine goes_ Try.func24 (by kernel_rfl) rfl #[.agg #[.int .i64 a1_0, .int .i64 a1_1, .bool a1_2]] (by rfl) rfl rfl (by (try simp only [List.map_toArray, List.map_cons, List.map_nil]); first | done | rfl | (simp only [List.length_drop, List.length_take]; rfl)) ?_
    with_reducible refine (laws_toBlock.calls a1_0 a1_1 a1_2 B2 B3 B4 _ A11.out).mono ?_
    rintro e w25 ⟨rfl, hb⟩
    refine ⟨_, rfl, ?_⟩
    have n0_ := qa.mk (Kd.qz (kr_ d9) hb);have n1_ := qa.mk (qk (g := d0) (o := .cells #[.int .i64 a0_0, .int .i64 a0_1, .slice A0_2 l0_2.length c0_2] 24 (0, 0)) (bk_ b1) hb);have n2_ := qa.mk (qk (g := d1) (o := .cells #[.int .i64 a1_0, .int .i64 a1_1, .bool a1_2] 35 (0, 0)) (bk_ b2) hb);have n3_ := qa.mk (qk (g := b9) (o := .cells #[.int .i64 0, .int .i64 0, .slice none 0 0] 30 (0, 0)) (bk_ b5) hb);have n4_ := qa.mk (qn (be3_ HB d4 d5 d7) hb);clear d9;clear b1;clear b2;clear b5;clear HB;have d9 := n0_;have b1 := n1_;have b2 := n2_;have b5 := n3_;have HB := n4_;clear n0_ n1_ n2_ n3_ n4_
    (try clear hb)
    (try clear hb2)
    (try clear hk)
    (try clear hi)
    obtain ⟨Ao26, co26, eo26⟩ := Kd.zr d9.out
    (first | subst eo26 | (injection eo26 with f1_ f2_ f3_; have f4_ := f1_.symm; have f5_ := f3_.symm; clear f1_ f2_ f3_; subst f4_; subst f5_))
    refine hK.out _ _ ⟨(qg b1.out 0).trans rfl, (qg b1.out 1).trans rfl, (qg b1.out 2).trans rfl, (qg b2.out 0).trans rfl, (qg b2.out 1).trans rfl, (qg b2.out 2).trans rfl⟩ (fun hHeld => ?_)
    clear hK K
    refine norm_ (a' := ?_) ?_ ?_
    rotate_left
    ·show Act.put _ (some 25) _ = _
     simp only [Act.put, sA_, sB_, sC_, i64_w, i32_w]
     rfl
    refine one_ (i := 4) (N := some 26) #[true, true, true, true, true, false, false, false, true, false, false] rfl rfl (zn HT_.out (by kernel_rfl)) (by decide) (fun K hK => ?_)
    refine goes_ Try.func23 (by kernel_rfl) rfl #[.agg #[.int .i64 B0, .int .i64 B1, .slice Ao26 p0.length co26], .agg #[.int .i64 B2, .int .i64 B3, .bool B4]] (by rfl) rfl rfl (by (try simp only [List.map_toArray, List.map_cons, List.map_nil]); first | done | rfl | (simp only [List.length_drop, List.length_take]; rfl)) ?_
    with_reducible refine (spec_OpenBlock.calls k B0 B1 _ _ p0 B2 B3 B4 f2 f3 d6 m9 _ ?side1 ?side2 A12.out).mono ?_
    (case side1 => repeat (first | exact (Kd.za d9.out).2.2 | (with_reducible refine Kd.zg ?_ _) | (with_reducible refine Kd.zf ?_ _) | (with_reducible refine Kd.zi ?_)))
    (case side2 => exact (Kd.za d9.out).2.1)
    rintro e w27 ⟨v243, rfl, ho0, hb⟩
    refine ⟨_, rfl, ?_⟩
    have n0_ := qa.mk (Kd.zh (kr_ d9) (Kd.zo ho0) hb);have n1_ := qa.mk (Kd.zt (Kd.zp ho0 (Kd.R_lt (kr_ d9))) (qm (be3_ HB d4 d5 d7)));have n2_ := qa.mk (qk (g := d0) (o := .cells #[.int .i64 a0_0, .int .i64 a0_1, .slice A0_2 l0_2.length c0_2] 24 (0, 0)) (bk_ b1) hb);have n3_ := qa.mk (qk (g := d1) (o := .cells #[.int .i64 a1_0, .int .i64 a1_1, .bool a1_2] 35 (0, 0)) (bk_ b2) hb);have n4_ := qa.mk (qk (g := b9) (o := .cells #[.int .i64 0, .int .i64 0, .slice none 0 0] 30 (0, 0)) (bk_ b5) hb);have n5_ := qa.mk (qn (be3_ HB d4 d5 d7) hb);clear d9;clear b1;clear b2;clear b5;clear HB;have d9 := n0_;have g3 := n1_;have b1 := n2_;have b2 := n3_;have b5 := n4_;have HB := n5_;clear n0_ n1_ n2_ n3_ n4_ n5_
    (try clear hb)
    (try clear hb2)
    (try clear hk)
    (try clear hi)
    (try clear ho0)
    refine hK.out _ _ ⟨(qg b1.out 0).trans rfl, (qg b1.out 1).trans rfl, (qg b1.out 2).trans rfl, (qg b2.out 0).trans rfl, (qg b2.out 1).trans rfl, (qg b2.out 2).trans rfl⟩ (fun hHeld => ?_)
    clear hK K
    refine norm_ (a' := ?_) ?_ ?_
    rotate_left
    ·show Act.put _ (some 26) _ = _
     simp only [Act.put, sA_, sB_, sC_, i64_w, i32_w]
     rfl
    refine pure_ (i := 5) (N := some 21) (v := ?_) (a' := ?_) #[true, true, true, true, true, true, false, false, true, false, false] rfl rfl (qv HT_.out (by kernel_rfl)) (fun _ _ _ h => h) (Or.inl ⟨by rfl, ?_⟩) ?_ ?_
    rotate_left
    ·intro w'
     go_simp
     with_reducible rfl
    rotate_left
    ·simp only [Act.put, sA_, sB_, sC_, i64_w, i32_w]
     rfl
    refine pure_ (i := 6) (N := some 27) (v := ?_) (a' := ?_) #[true, true, true, true, true, true, true, false, true, false, false] rfl rfl (qv HT_.out (by kernel_rfl)) (fun _ _ _ h => h) (Or.inl ⟨by rfl, ?_⟩) ?_ ?_
    rotate_left
    ·intro w'
     go_simp
     with_reducible rfl
    rotate_left
    ·simp only [Act.put, sA_, sB_, sC_, i64_w, i32_w]
     rfl
    refine pure_ (i := 7) (N := some 28) (v := ?_) (a' := ?_) #[true, true, true, true, true, true, true, true, true, false, false] rfl rfl (qv HT_.out (by kernel_rfl)) (fun _ _ _ h => h) (Or.inl ⟨by rfl, ?_⟩) ?_ ?_
    rotate_left
    ·intro w'
     go_simp
     with_reducible rfl
    rotate_left
    ·simp only [Act.put, sA_, sB_, sC_, i64_w, i32_w]
     rfl
    exact norm_ (by simp only [putAll, Act.put, sA_, sB_, sC_]) (hCont (.slice Ao26 p0.length co26, v243, b9) _ ⟨hHeld, (by (with_reducible repeat (first | apply Kd.qo | apply Kd.qp | apply Kd.qq)); exact Kd.zc d9.out (fun _ hk => hk.2)), (by (with_reducible repeat (first | apply Kd.qo | apply Kd.qp | apply Kd.qq)); exact Kd.zc g3.out (fun _ hk => hk.2)), (bk_ b1), (bk_ b2), (bk_ b5), D0.out, d7.out, g1.out, m8.out, g4.out, n0.out, (be3_ HB d4 d5 d7)⟩)
  rintro ⟨v235, v243, b9⟩ w28 ⟨hS_, h0_, h1_, h2_, h3_, h4_, h5_, h6_, h7_, h8_, h9_, h10_, h11_⟩
  have n0_ : qa (Kd.R k38 38 w28 w.heap.size (fun k_ => some k_ ≠ (v243 : Value).ownBlock) v235 p0) := ⟨h0_⟩;have n1_ : qa (Kd.R k38 38 w28 w.heap.size (fun k_ => some k_ ≠ (v235 : Value).ownBlock) v243 d6) := ⟨h1_⟩;have n2_ : qa (w28.heap[d0]? = some (.cells #[.int .i64 a0_0, .int .i64 a0_1, .slice A0_2 l0_2.length c0_2] 24 (0, 0))) := ⟨h2_⟩;have n3_ : qa (w28.heap[d1]? = some (.cells #[.int .i64 a1_0, .int .i64 a1_1, .bool a1_2] 35 (0, 0))) := ⟨h3_⟩;have n4_ : qa (w28.heap[b9]? = some (.cells #[.int .i64 0, .int .i64 0, .slice none 0 0] 30 (0, 0))) := ⟨h4_⟩;have n5_ : qa (w.heap.size ≤ b9) := ⟨h5_⟩;have n6_ : qa (w.heap.size ≤ b9) := ⟨h6_⟩;have n7_ : qa (d0 ≠ b9) := ⟨h7_⟩;have n8_ : qa (b9 ≠ d0) := ⟨h8_⟩;have n9_ : qa (d1 ≠ b9) := ⟨h9_⟩;have n10_ : qa (b9 ≠ d1) := ⟨h10_⟩;have n11_ : qa (Below w.heap.size w w28) := ⟨h11_⟩;clear b1;clear b2;clear HB;clear h0_ h1_ h2_ h3_ h4_ h5_ h6_ h7_ h8_ h9_ h10_ h11_;have d9 := n0_;have g3 := n1_;have b1 := n2_;have b2 := n3_;have b5 := n4_;have D0 := n5_;have d7 := n6_;have g1 := n7_;have m8 := n8_;have g4 := n9_;have n0 := n10_;have HB := n11_;clear n0_ n1_ n2_ n3_ n4_ n5_ n6_ n7_ n8_ n9_ n10_ n11_;have hHeld : w28.cell? ⟨d0, 0, none⟩ = some (.int .i64 a0_0) ∧ w28.cell? ⟨d0, 1, none⟩ = some (.int .i64 a0_1) ∧ w28.cell? ⟨d0, 2, none⟩ = some (.slice A0_2 l0_2.length c0_2) ∧ w28.cell? ⟨d1, 0, none⟩ = some (.int .i64 a1_0) ∧ w28.cell? ⟨d1, 1, none⟩ = some (.int .i64 a1_1) ∧ w28.cell? ⟨d1, 2, none⟩ = some (.bool a1_2) := hS_;obtain ⟨Ao31, co31, eo31⟩ := Kd.zr g3.out
  (first | subst eo31 | (injection eo31 with f1_ f2_ f3_; have f4_ := f1_.symm; have f5_ := f3_.symm; clear f1_ f2_ f3_; subst f4_; subst f5_))
  refine norm_ (a' := ?_) ?_ ?_
  rotate_left
  ·simp only [putAll, Act.put, sA_, sB_, sC_]
   rfl
  refine one_ (i := 9) (N := none) #[true, true, true, true, true, true, true, true, true, true, false] rfl rfl (zn HT_.out (by kernel_rfl)) (by decide) (fun K hK => ?_)
  have hs29 : w28.cell? ⟨b9, 0, none⟩ = some (.int .i64 0) := (qg b5.out 0).trans rfl;have hfs29 := qj b5.out 0;have hns29_0 := g1.out;have hns29_1 := g4.out;have hms29_0 := m8.out;have hms29_1 := n0.out;have hs30 : w28.cell? ⟨b9, 1, none⟩ = some (.int .i64 0) := (qg b5.out 1).trans rfl;have hfs30 := qj b5.out 1;have hns30_0 := g1.out;have hns30_1 := g4.out;have hms30_0 := m8.out;have hms30_1 := n0.out;have hs32 : w28.cell? ⟨b9, 2, none⟩ = some (.slice none 0 0) := (qg b5.out 2).trans rfl;have hfs32 := qj b5.out 2;have hns32_0 := g1.out;have hns32_1 := g4.out;have hms32_0 := m8.out;have hms32_1 := n0.out
  refine skip_ (w1 := ?_) (by rfl) rfl ?_ ?_
  rotate_left
  ·go_simp
   rfl
  refine hK.out _ _ ⟨((cell_far (p := ⟨b9, _, none⟩) g1.out _).trans (((cell_far (p := ⟨b9, _, none⟩) g1.out _).trans (((cell_far (p := ⟨b9, _, none⟩) g1.out _).trans (hHeld.1)))))), ((cell_far (p := ⟨b9, _, none⟩) g1.out _).trans (((cell_far (p := ⟨b9, _, none⟩) g1.out _).trans (((cell_far (p := ⟨b9, _, none⟩) g1.out _).trans (hHeld.2.1)))))), ((cell_far (p := ⟨b9, _, none⟩) g1.out _).trans (((cell_far (p := ⟨b9, _, none⟩) g1.out _).trans (((cell_far (p := ⟨b9, _, none⟩) g1.out _).trans (hHeld.2.2.1)))))), ((cell_far (p := ⟨b9, _, none⟩) g4.out _).trans (((cell_far (p := ⟨b9, _, none⟩) g4.out _).trans (((cell_far (p := ⟨b9, _, none⟩) g4.out _).trans (hHeld.2.2.2.1)))))), ((cell_far (p := ⟨b9, _, none⟩) g4.out _).trans (((cell_far (p := ⟨b9, _, none⟩) g4.out _).trans (((cell_far (p := ⟨b9, _, none⟩) g4.out _).trans (hHeld.2.2.2.2.1)))))), ((cell_far (p := ⟨b9, _, none⟩) g4.out _).trans (((cell_far (p := ⟨b9, _, none⟩) g4.out _).trans (((cell_far (p := ⟨b9, _, none⟩) g4.out _).trans (hHeld.2.2.2.2.2))))))⟩ (fun hHeld => ?_)
  clear hK K
  refine pure_ (i := 10) (N := some 7) (v := ?_) (a' := ?_) #[true, true, true, true, true, true, true, true, true, true, true] rfl rfl (qv HT_.out (by kernel_rfl)) (fun _ _ _ h => h) (Or.inl ⟨by rfl, ?_⟩) ?_ ?_
  rotate_left
  ·intro w'
   go_simp
   with_reducible rfl
  rotate_left
  ·simp only [Act.put, sA_, sB_, sC_, i64_w, i32_w]
   rfl
  refine done_ (done_of HT_.out (by kernel_rfl)) ?_
  have hnb33 := g1.out;have hnc33 := m8.out;have hcz34_0 : w28.cell? ⟨d0, 0, none⟩ = some (.int .i64 a0_0) := (qg b1.out 0).trans rfl;have hcz34_1 : w28.cell? ⟨d0, 1, none⟩ = some (.int .i64 a0_1) := (qg b1.out 1).trans rfl;have hcz34_2 : w28.cell? ⟨d0, 2, none⟩ = some (.slice A0_2 l0_2.length c0_2) := (qg b1.out 2).trans rfl;have hfz34_0 := qj b1.out 0;have hfz34_1 := qj b1.out 1;have hfz34_2 := qj b1.out 2
  try go_wp2_with (first | ((with_reducible refine zb (f := 20) rfl ?_); refine zj (some 30) rfl rfl Try.func20 (by kernel_rfl) rfl #[.agg #[.int .i64 a0_0, .int .i64 a0_1, .slice A0_2 l0_2.length c0_2]] rfl (by (try simp only [List.map_toArray, List.map_cons, List.map_nil]); first | done | rfl | (simp only [List.length_drop, List.length_take]; rfl)) ?_; (with_reducible refine (laws_toCity.calls k a0_0 a0_1 _ _ l0_2 f9 g0 g2 _ ?side1 ?side2 A13.out).mono ?_); (case side1 => exact Kd.zm HR0_2.out (be3_ HB d4 d5 d7)); (case side2 => exact HC0_2.out); rintro e w35 ⟨v250, rfl, ho0, hb⟩; refine ⟨_, rfl, ?_⟩; have n0_ := qa.mk (Kd.zh (by (with_reducible repeat (first | apply Kd.qo | apply Kd.qp | apply Kd.qq)); exact (Kd.zc (Kd.R_far (p := ⟨b9, 2, none⟩) (Kd.R_far (p := ⟨b9, 1, none⟩) (Kd.R_far (p := ⟨b9, 0, none⟩) (Kd.zl d9.out b5.out (by decide)) (fun _ hk => hk.2) (.int .i64 f2)) (fun _ hk => hk.2) (.int .i64 f3)) (fun _ hk => hk.2) (.slice Ao31 d6.length co31)) (fun _ h_ => h_.1))) (Kd.zo ho0) hb); have n1_ := qa.mk (Kd.zh (by (with_reducible repeat (first | apply Kd.qo | apply Kd.qp | apply Kd.qq)); exact (Kd.zc (Kd.R_far (p := ⟨b9, 2, none⟩) (Kd.R_far (p := ⟨b9, 1, none⟩) (Kd.R_far (p := ⟨b9, 0, none⟩) (Kd.zl g3.out b5.out (by decide)) (fun _ hk => hk.2) (.int .i64 f2)) (fun _ hk => hk.2) (.int .i64 f3)) (fun _ hk => hk.2) (.slice Ao31 d6.length co31)) (fun _ h_ => h_.1))) (Kd.zo ho0) hb); have n2_ := qa.mk (Kd.zt (Kd.zp (Kd.zp ho0 (Kd.R_lt (by (with_reducible repeat (first | apply Kd.qo | apply Kd.qp | apply Kd.qq)); exact (Kd.zc (Kd.R_far (p := ⟨b9, 2, none⟩) (Kd.R_far (p := ⟨b9, 1, none⟩) (Kd.R_far (p := ⟨b9, 0, none⟩) (Kd.zl d9.out b5.out (by decide)) (fun _ hk => hk.2) (.int .i64 f2)) (fun _ hk => hk.2) (.int .i64 f3)) (fun _ hk => hk.2) (.slice Ao31 d6.length co31)) (fun _ h_ => h_.1))))) (Kd.R_lt (by (with_reducible repeat (first | apply Kd.qo | apply Kd.qp | apply Kd.qq)); exact (Kd.zc (Kd.R_far (p := ⟨b9, 2, none⟩) (Kd.R_far (p := ⟨b9, 1, none⟩) (Kd.R_far (p := ⟨b9, 0, none⟩) (Kd.zl g3.out b5.out (by decide)) (fun _ hk => hk.2) (.int .i64 f2)) (fun _ hk => hk.2) (.int .i64 f3)) (fun _ hk => hk.2) (.slice Ao31 d6.length co31)) (fun _ h_ => h_.1))))) (qm (be3_ HB d4 d5 d7))); have n3_ := qa.mk (qk (g := d0) (o := .cells #[.int .i64 a0_0, .int .i64 a0_1, .slice A0_2 l0_2.length c0_2] 24 (0, 0)) (by (with_reducible repeat (first | refine qd ?_ _ | refine qf ?_ | refine qc ?_ _)); refine qw ?_ g1.out _; (with_reducible repeat (first | refine qd ?_ _ | refine qf ?_ | refine qc ?_ _)); refine qw ?_ g1.out _; (with_reducible repeat (first | refine qd ?_ _ | refine qf ?_ | refine qc ?_ _)); refine qw ?_ g1.out _; (with_reducible repeat (first | refine qd ?_ _ | refine qf ?_ | refine qc ?_ _)); exact b1.out) hb); have n4_ := qa.mk (qk (g := d1) (o := .cells #[.int .i64 a1_0, .int .i64 a1_1, .bool a1_2] 35 (0, 0)) (by (with_reducible repeat (first | refine qd ?_ _ | refine qf ?_ | refine qc ?_ _)); refine qw ?_ g4.out _; (with_reducible repeat (first | refine qd ?_ _ | refine qf ?_ | refine qc ?_ _)); refine qw ?_ g4.out _; (with_reducible repeat (first | refine qd ?_ _ | refine qf ?_ | refine qc ?_ _)); refine qw ?_ g4.out _; (with_reducible repeat (first | refine qd ?_ _ | refine qf ?_ | refine qc ?_ _)); exact b2.out) hb); have n5_ := qa.mk (qk (g := b9) (o := .cells #[.int .i64 f2, .int .i64 f3, .slice Ao31 d6.length co31] 30 (0, 0)) (by (with_reducible repeat (first | refine qd ?_ _ | refine qf ?_ | refine qc ?_ _)); refine zd (cs := #[.int .i64 f2, .int .i64 f3, .slice none 0 0]) ?_ 2 _ rfl; (with_reducible repeat (first | refine qd ?_ _ | refine qf ?_ | refine qc ?_ _)); refine zd (cs := #[.int .i64 f2, .int .i64 0, .slice none 0 0]) ?_ 1 _ rfl; (with_reducible repeat (first | refine qd ?_ _ | refine qf ?_ | refine qc ?_ _)); refine zd (cs := #[.int .i64 0, .int .i64 0, .slice none 0 0]) ?_ 0 _ rfl; (with_reducible repeat (first | refine qd ?_ _ | refine qf ?_ | refine qc ?_ _)); exact b5.out) hb); have n6_ := qa.mk (qn (be3_ HB d4 d5 d7) hb); clear d9; clear g3; clear b1; clear b2; clear b5; clear HB; have d9 := n0_; have g3 := n1_; have m0 := n2_; have b1 := n3_; have b2 := n4_; have b5 := n5_; have HB := n6_; clear n0_ n1_ n2_ n3_ n4_ n5_ n6_; (try clear hb); (try clear hb2); (try clear hk); (try clear hi); (try clear ho0)) | ((with_reducible refine qy (N := 8) rfl ?_); refine qx ?hg (N := 8) ?hd (cs := #[.int .i64 0, .int .i64 0, .slice none 0 0]) (t := 30) ?hr ?_; (case hd => rfl); (case hg => rfl); (case hr => first | (go_simp; done) | (go_simp; rfl)); intro d3 hg w36 hbox hb; have n0_ := qa.mk (Kd.qz (kr_ d9) hb); have n1_ := qa.mk (Kd.qz (kr_ g3) hb); have n2_ := qa.mk (Kd.qz (kr_ m0) hb); have n3_ := qa.mk (qk (g := d0) (o := .cells #[.int .i64 a0_0, .int .i64 a0_1, .slice A0_2 l0_2.length c0_2] 24 (0, 0)) (bk_ b1) hb); have n4_ := qa.mk (qk (g := d1) (o := .cells #[.int .i64 a1_0, .int .i64 a1_1, .bool a1_2] 35 (0, 0)) (bk_ b2) hb); have n5_ := qa.mk (qk (g := b9) (o := .cells #[.int .i64 f2, .int .i64 f3, .slice Ao31 d6.length co31] 30 (0, 0)) (bk_ b5) hb); have n6_ := qa.mk (qn (be3_ HB d4 d5 d7) hb); have n7_ := qa.mk (hbox); have n8_ := qa.mk ((by rw [hg]; exact (qm (be3_ HB d4 d5 d7)) : w.heap.size ≤ d3)); have n9_ := qa.mk ((by rw [hg]; exact (qm (be3_ HB d4 d5 d7)) : w.heap.size ≤ d3)); have n10_ := qa.mk ((by rw [hg]; exact Nat.ne_of_lt (qr (g := d0) (o := .cells #[.int .i64 a0_0, .int .i64 a0_1, .slice A0_2 l0_2.length c0_2] 24 (0, 0)) (bk_ b1)) : d0 ≠ d3)); have n11_ := qa.mk ((by rw [hg]; exact Nat.ne_of_gt (qr (g := d0) (o := .cells #[.int .i64 a0_0, .int .i64 a0_1, .slice A0_2 l0_2.length c0_2] 24 (0, 0)) (bk_ b1)) : d3 ≠ d0)); have n12_ := qa.mk ((by rw [hg]; exact Nat.ne_of_lt (qr (g := d1) (o := .cells #[.int .i64 a1_0, .int .i64 a1_1, .bool a1_2] 35 (0, 0)) (bk_ b2)) : d1 ≠ d3)); have n13_ := qa.mk ((by rw [hg]; exact Nat.ne_of_gt (qr (g := d1) (o := .cells #[.int .i64 a1_0, .int .i64 a1_1, .bool a1_2] 35 (0, 0)) (bk_ b2)) : d3 ≠ d1)); have n14_ := qa.mk ((by rw [hg]; exact Nat.ne_of_lt (qr (g := b9) (o := .cells #[.int .i64 f2, .int .i64 f3, .slice Ao31 d6.length co31] 30 (0, 0)) (bk_ b5)) : b9 ≠ d3)); have n15_ := qa.mk ((by rw [hg]; exact Nat.ne_of_gt (qr (g := b9) (o := .cells #[.int .i64 f2, .int .i64 f3, .slice Ao31 d6.length co31] 30 (0, 0)) (bk_ b5)) : d3 ≠ b9)); clear d9; clear g3; clear m0; clear b1; clear b2; clear b5; clear HB; have d9 := n0_; have g3 := n1_; have m0 := n2_; have b1 := n3_; have b2 := n4_; have b5 := n5_; have HB := n6_; have b7 := n7_; have E8 := n8_; have f4 := n9_; have p1 := n10_; have D7 := n11_; have p2 := n12_; have D8 := n13_; have n9 := n14_; have o8 := n15_; clear n0_ n1_ n2_ n3_ n4_ n5_ n6_ n7_ n8_ n9_ n10_ n11_ n12_ n13_ n14_ n15_; clear hb hbox hg; have hnb37 := D7.out; have hnc37 := p1.out; have hnb38 := D8.out; have hnc38 := p2.out; have hnb39 := o8.out; have hnc39 := n9.out; have hcz40_0 : w36.cell? ⟨d3, 0, none⟩ = some (.int .i64 0) := (qg b7.out 0).trans rfl; have hcz40_1 : w36.cell? ⟨d3, 1, none⟩ = some (.int .i64 0) := (qg b7.out 1).trans rfl; have hcz40_2 : w36.cell? ⟨d3, 2, none⟩ = some (.slice none 0 0) := (qg b7.out 2).trans rfl; have hfz40_0 := qj b7.out 0; have hfz40_1 := qj b7.out 1; have hfz40_2 := qj b7.out 2; obtain ⟨Ao41, co41, eo41⟩ := Kd.zr m0.out; subst eo41))
  have n0_ : qa (Kd.R k38 38 (((w36.setCell ⟨d3, 0, none⟩ (.int .i64 f9)).setCell ⟨d3, 1, none⟩ (.int .i64 g0)).setCell ⟨d3, 2, none⟩ (.slice Ao41 g2.length co41)) w.heap.size (fun k_ => some k_ ≠ (.slice Ao31 d6.length co31 : Value).ownBlock ∧ some k_ ≠ (.slice Ao41 g2.length co41 : Value).ownBlock) v235 p0) := ⟨by (with_reducible repeat (first | apply Kd.qo | apply Kd.qp | apply Kd.qq)); exact Kd.zc (Kd.R_far (p := ⟨d3, 2, none⟩) (Kd.R_far (p := ⟨d3, 1, none⟩) (Kd.R_far (p := ⟨d3, 0, none⟩) (Kd.zl d9.out b7.out (by decide)) (fun _ hk => hk.2) (.int .i64 f9)) (fun _ hk => hk.2) (.int .i64 g0)) (fun _ hk => hk.2) (.slice Ao41 g2.length co41)) (fun _ hk => ⟨hk.1.1, hk.1.2⟩)⟩;have n1_ : qa (Kd.R k38 38 (((w36.setCell ⟨d3, 0, none⟩ (.int .i64 f9)).setCell ⟨d3, 1, none⟩ (.int .i64 g0)).setCell ⟨d3, 2, none⟩ (.slice Ao41 g2.length co41)) w.heap.size (fun k_ => some k_ ≠ (v235 : Value).ownBlock ∧ some k_ ≠ (.slice Ao41 g2.length co41 : Value).ownBlock) (.slice Ao31 d6.length co31) d6) := ⟨by (with_reducible repeat (first | apply Kd.qo | apply Kd.qp | apply Kd.qq)); exact Kd.zc (Kd.R_far (p := ⟨d3, 2, none⟩) (Kd.R_far (p := ⟨d3, 1, none⟩) (Kd.R_far (p := ⟨d3, 0, none⟩) (Kd.zl g3.out b7.out (by decide)) (fun _ hk => hk.2) (.int .i64 f9)) (fun _ hk => hk.2) (.int .i64 g0)) (fun _ hk => hk.2) (.slice Ao41 g2.length co41)) (fun _ hk => ⟨hk.1.1, hk.1.2⟩)⟩;have n2_ : qa (Kd.R k38 38 (((w36.setCell ⟨d3, 0, none⟩ (.int .i64 f9)).setCell ⟨d3, 1, none⟩ (.int .i64 g0)).setCell ⟨d3, 2, none⟩ (.slice Ao41 g2.length co41)) w.heap.size (fun k_ => some k_ ≠ (v235 : Value).ownBlock ∧ some k_ ≠ (.slice Ao31 d6.length co31 : Value).ownBlock) (.slice Ao41 g2.length co41) g2) := ⟨by (with_reducible repeat (first | apply Kd.qo | apply Kd.qp | apply Kd.qq)); exact Kd.zc (Kd.R_far (p := ⟨d3, 2, none⟩) (Kd.R_far (p := ⟨d3, 1, none⟩) (Kd.R_far (p := ⟨d3, 0, none⟩) (Kd.zl m0.out b7.out (by decide)) (fun _ hk => hk.2) (.int .i64 f9)) (fun _ hk => hk.2) (.int .i64 g0)) (fun _ hk => hk.2) (.slice Ao41 g2.length co41)) (fun _ hk => ⟨hk.1.1.2, hk.1.2⟩)⟩
  have n3_ : qa ((((w36.setCell ⟨d3, 0, none⟩ (.int .i64 f9)).setCell ⟨d3, 1, none⟩ (.int .i64 g0)).setCell ⟨d3, 2, none⟩ (.slice Ao41 g2.length co41)).heap[d0]? = some (.cells #[.int .i64 a0_0, .int .i64 a0_1, .slice A0_2 l0_2.length c0_2] 24 (0, 0))) := ⟨by (with_reducible repeat (first | refine qd ?_ _ | refine qf ?_ | refine qc ?_ _)); refine qw ?_ p1.out _; (with_reducible repeat (first | refine qd ?_ _ | refine qf ?_ | refine qc ?_ _)); refine qw ?_ p1.out _; (with_reducible repeat (first | refine qd ?_ _ | refine qf ?_ | refine qc ?_ _)); refine qw ?_ p1.out _; (with_reducible repeat (first | refine qd ?_ _ | refine qf ?_ | refine qc ?_ _)); exact b1.out⟩;have n4_ : qa ((((w36.setCell ⟨d3, 0, none⟩ (.int .i64 f9)).setCell ⟨d3, 1, none⟩ (.int .i64 g0)).setCell ⟨d3, 2, none⟩ (.slice Ao41 g2.length co41)).heap[d1]? = some (.cells #[.int .i64 a1_0, .int .i64 a1_1, .bool a1_2] 35 (0, 0))) := ⟨by (with_reducible repeat (first | refine qd ?_ _ | refine qf ?_ | refine qc ?_ _)); refine qw ?_ p2.out _; (with_reducible repeat (first | refine qd ?_ _ | refine qf ?_ | refine qc ?_ _)); refine qw ?_ p2.out _; (with_reducible repeat (first | refine qd ?_ _ | refine qf ?_ | refine qc ?_ _)); refine qw ?_ p2.out _; (with_reducible repeat (first | refine qd ?_ _ | refine qf ?_ | refine qc ?_ _)); exact b2.out⟩;have n5_ : qa ((((w36.setCell ⟨d3, 0, none⟩ (.int .i64 f9)).setCell ⟨d3, 1, none⟩ (.int .i64 g0)).setCell ⟨d3, 2, none⟩ (.slice Ao41 g2.length co41)).heap[b9]? = some (.cells #[.int .i64 f2, .int .i64 f3, .slice Ao31 d6.length co31] 30 (0, 0))) := ⟨by (with_reducible repeat (first | refine qd ?_ _ | refine qf ?_ | refine qc ?_ _)); refine qw ?_ n9.out _; (with_reducible repeat (first | refine qd ?_ _ | refine qf ?_ | refine qc ?_ _)); refine qw ?_ n9.out _; (with_reducible repeat (first | refine qd ?_ _ | refine qf ?_ | refine qc ?_ _)); refine qw ?_ n9.out _; (with_reducible repeat (first | refine qd ?_ _ | refine qf ?_ | refine qc ?_ _)); exact b5.out⟩;have n6_ : qa ((((w36.setCell ⟨d3, 0, none⟩ (.int .i64 f9)).setCell ⟨d3, 1, none⟩ (.int .i64 g0)).setCell ⟨d3, 2, none⟩ (.slice Ao41 g2.length co41)).heap[d3]? = some (.cells #[.int .i64 f9, .int .i64 g0, .slice Ao41 g2.length co41] 30 (0, 0))) := ⟨by (with_reducible repeat (first | refine qd ?_ _ | refine qf ?_ | refine qc ?_ _)); refine zd (cs := #[.int .i64 f9, .int .i64 g0, .slice none 0 0]) ?_ 2 _ rfl; (with_reducible repeat (first | refine qd ?_ _ | refine qf ?_ | refine qc ?_ _)); refine zd (cs := #[.int .i64 f9, .int .i64 0, .slice none 0 0]) ?_ 1 _ rfl; (with_reducible repeat (first | refine qd ?_ _ | refine qf ?_ | refine qc ?_ _)); refine zd (cs := #[.int .i64 0, .int .i64 0, .slice none 0 0]) ?_ 0 _ rfl; (with_reducible repeat (first | refine qd ?_ _ | refine qf ?_ | refine qc ?_ _)); exact b7.out⟩
  have n7_ : qa (Below w.heap.size w (((w36.setCell ⟨d3, 0, none⟩ (.int .i64 f9)).setCell ⟨d3, 1, none⟩ (.int .i64 g0)).setCell ⟨d3, 2, none⟩ (.slice Ao41 g2.length co41))) := ⟨be4_ HB d4 d5 d7 f4⟩
  (try clear d9)
  (try clear g3)
  (try clear m0)
  (try clear b1)
  (try clear b2)
  (try clear b5)
  (try clear b7)
  (try clear HB)
  generalize (((w36.setCell ⟨d3, 0, none⟩ (.int .i64 f9)).setCell ⟨d3, 1, none⟩ (.int .i64 g0)).setCell ⟨d3, 2, none⟩ (.slice Ao41 g2.length co41)) = w42 at n0_ n1_ n2_ n3_ n4_ n5_ n6_ n7_ ⊢
  have d9 := n0_;have g3 := n1_;have m0 := n2_;have b1 := n3_;have b2 := n4_;have b5 := n5_;have b7 := n6_;have HB := n7_;clear n0_ n1_ n2_ n3_ n4_ n5_ n6_ n7_;have n0_ := qa.mk (Kd.qq d9.out);have n1_ := qa.mk (Kd.qq g3.out);have n2_ := qa.mk (Kd.qq m0.out);have n3_ := qa.mk (qf b1.out);have n4_ := qa.mk (qf b2.out);have n5_ := qa.mk (qf b5.out);have n6_ := qa.mk (qf b7.out);have n7_ := qa.mk (qh HB.out);clear d9;clear g3;clear m0;clear b1;clear b2;clear b5;clear b7;clear HB;have d9 := n0_;have g3 := n1_;have m0 := n2_;have b1 := n3_;have b2 := n4_;have b5 := n5_;have b7 := n6_;have HB := n7_;clear n0_ n1_ n2_ n3_ n4_ n5_ n6_ n7_
  refine start_ (n := 10) (S := fun w' => w'.cell? ⟨d3, 0, none⟩ = some (.int .i64 f9) ∧ w'.cell? ⟨d3, 1, none⟩ = some (.int .i64 g0) ∧ w'.cell? ⟨d3, 2, none⟩ = some (.slice Ao41 g2.length co41) ∧ w'.cell? ⟨d1, 0, none⟩ = some (.int .i64 a1_0) ∧ w'.cell? ⟨d1, 1, none⟩ = some (.int .i64 a1_1) ∧ w'.cell? ⟨d1, 2, none⟩ = some (.bool a1_2)) (ds := []) #[false, false, false, false, false, false, false, false, false, false] (by kernel_rfl) rfl rfl ⟨(qg b7.out 0).trans rfl, (qg b7.out 1).trans rfl, (qg b7.out 2).trans rfl, (qg b2.out 0).trans rfl, (qg b2.out 1).trans rfl, (qg b2.out 2).trans rfl⟩ (fun hHeld => ?_); refine with_tabW laws_FnExactOpenBlock.tab7 laws_FnExactOpenBlock.bits7 (fun HT_ HW_ => ?_)
  generalize w42.drew = w43 at d9 g3 m0 b1 b2 b5 b7 HB hHeld ⊢
  refine take_ (i := 0) (N := some 32) (v := ?_) (a' := ?_) #[true, false, false, false, false, false, false, false, false, false] rfl rfl (ze HT_.out HW_.out (by kernel_rfl)) (fun _ _ _ h => h) (Or.inl ⟨by rfl, ?_⟩) hHeld ?_ ?_
  rotate_left
  ·rintro w' ⟨s0, s1, s2, s3, s4, s5⟩
   go_simp
   with_reducible rfl
  rotate_left
  ·simp only [Act.put, sA_, sB_, sC_, i64_w, i32_w]
   rfl
  refine take_ (i := 1) (N := some 33) (v := ?_) (a' := ?_) #[true, true, false, false, false, false, false, false, false, false] rfl rfl (ze HT_.out HW_.out (by kernel_rfl)) (fun _ _ _ h => h) (Or.inl ⟨by rfl, ?_⟩) hHeld ?_ ?_
  rotate_left
  ·rintro w' ⟨s0, s1, s2, s3, s4, s5⟩
   go_simp
   with_reducible rfl
  rotate_left
  ·simp only [Act.put, sA_, sB_, sC_, i64_w, i32_w]
   rfl
  refine join_ (σ := Value × Nat) 2 #[true, true, true, true, true, true, true, true, false, false] (fun s_ => [(34, .agg #[.int .i64 D4, .int .i64 D5, .bool D6]), (35, .tuple #[.agg #[.int .i64 f0, .int .i64 f1, s_.1], .bool o9]), (9, .pointer (some ⟨s_.2, 0, none⟩)), (31, .tuple #[.agg #[.int .i64 f0, .int .i64 f1, s_.1], .bool o9]), (36, .agg #[.int .i64 f0, .int .i64 f1, s_.1]), (37, .bool o9)]) (fun s_ w' => (w'.cell? ⟨d3, 0, none⟩ = some (.int .i64 f9) ∧ w'.cell? ⟨d3, 1, none⟩ = some (.int .i64 g0) ∧ w'.cell? ⟨d3, 2, none⟩ = some (.slice Ao41 g2.length co41) ∧ w'.cell? ⟨d1, 0, none⟩ = some (.int .i64 a1_0) ∧ w'.cell? ⟨d1, 1, none⟩ = some (.int .i64 a1_1) ∧ w'.cell? ⟨d1, 2, none⟩ = some (.bool a1_2)) ∧ (Kd.R k38 38 w' w.heap.size (fun k_ => some k_ ≠ (.slice Ao31 d6.length co31 : Value).ownBlock ∧ some k_ ≠ (.slice Ao41 g2.length co41 : Value).ownBlock ∧ some k_ ≠ (s_.1 : Value).ownBlock) v235 p0) ∧ (Kd.R k38 38 w' w.heap.size (fun k_ => some k_ ≠ (v235 : Value).ownBlock ∧ some k_ ≠ (.slice Ao41 g2.length co41 : Value).ownBlock ∧ some k_ ≠ (s_.1 : Value).ownBlock) (.slice Ao31 d6.length co31) d6) ∧ (Kd.R k38 38 w' w.heap.size (fun k_ => some k_ ≠ (v235 : Value).ownBlock ∧ some k_ ≠ (.slice Ao31 d6.length co31 : Value).ownBlock ∧ some k_ ≠ (s_.1 : Value).ownBlock) (.slice Ao41 g2.length co41) g2) ∧ (Kd.R k38 38 w' w.heap.size (fun k_ => some k_ ≠ (v235 : Value).ownBlock ∧ some k_ ≠ (.slice Ao31 d6.length co31 : Value).ownBlock ∧ some k_ ≠ (.slice Ao41 g2.length co41 : Value).ownBlock) s_.1 d8) ∧ (w'.heap[d0]? = some (.cells #[.int .i64 a0_0, .int .i64 a0_1, .slice A0_2 l0_2.length c0_2] 24 (0, 0))) ∧ (w'.heap[d1]? = some (.cells #[.int .i64 a1_0, .int .i64 a1_1, .bool a1_2] 35 (0, 0))) ∧ (w'.heap[b9]? = some (.cells #[.int .i64 f2, .int .i64 f3, .slice Ao31 d6.length co31] 30 (0, 0))) ∧ (w'.heap[d3]? = some (.cells #[.int .i64 f9, .int .i64 g0, .slice Ao41 g2.length co41] 30 (0, 0))) ∧ (w'.heap[s_.2]? = some (.cells #[.int .i64 0, .int .i64 0, .slice none 0 0] 30 (0, 0))) ∧ (w.heap.size ≤ s_.2) ∧ (w.heap.size ≤ s_.2) ∧ (d0 ≠ s_.2) ∧ (s_.2 ≠ d0) ∧ (d1 ≠ s_.2) ∧ (s_.2 ≠ d1) ∧ (b9 ≠ s_.2) ∧ (s_.2 ≠ b9) ∧ (d3 ≠ s_.2) ∧ (s_.2 ≠ d3) ∧ (Below w.heap.size w w')) ?_ ?_
  rotate_left
  ·intro hCont
   refine two_ (i := 2) (j := 7) (Ni := some 34) (Nj := some 9) #[true, true, true, false, false, false, false, false, false, false] #[true, true, false, false, false, false, false, true, false, false] rfl rfl rfl rfl (two_of HT_.out (by kernel_rfl)) (by decide) (by decide) (fun K hK => ?_) (fun K hK => ?_)
   ·skip
    refine goes_ Try.func24 (by kernel_rfl) rfl #[.agg #[.int .i64 a1_0, .int .i64 a1_1, .bool a1_2]] (by rfl) rfl rfl (by (try simp only [List.map_toArray, List.map_cons, List.map_nil]); first | done | rfl | (simp only [List.length_drop, List.length_take]; rfl)) ?_
    with_reducible refine (laws_toBlock.calls a1_0 a1_1 a1_2 D4 D5 D6 _ A14.out).mono ?_
    rintro e w44 ⟨rfl, hb⟩
    refine ⟨_, rfl, ?_⟩
    have n0_ := qa.mk (Kd.qz (kr_ d9) hb);have n1_ := qa.mk (Kd.qz (kr_ g3) hb);have n2_ := qa.mk (Kd.qz (kr_ m0) hb);have n3_ := qa.mk (qk (g := d0) (o := .cells #[.int .i64 a0_0, .int .i64 a0_1, .slice A0_2 l0_2.length c0_2] 24 (0, 0)) (bk_ b1) hb);have n4_ := qa.mk (qk (g := d1) (o := .cells #[.int .i64 a1_0, .int .i64 a1_1, .bool a1_2] 35 (0, 0)) (bk_ b2) hb);have n5_ := qa.mk (qk (g := b9) (o := .cells #[.int .i64 f2, .int .i64 f3, .slice Ao31 d6.length co31] 30 (0, 0)) (bk_ b5) hb);have n6_ := qa.mk (qk (g := d3) (o := .cells #[.int .i64 f9, .int .i64 g0, .slice Ao41 g2.length co41] 30 (0, 0)) (bk_ b7) hb);have n7_ := qa.mk (qn (be4_ HB d4 d5 d7 f4) hb);clear d9;clear g3;clear m0;clear b1;clear b2;clear b5;clear b7;clear HB;have d9 := n0_;have g3 := n1_;have m0 := n2_;have b1 := n3_;have b2 := n4_;have b5 := n5_;have b7 := n6_;have HB := n7_;clear n0_ n1_ n2_ n3_ n4_ n5_ n6_ n7_
    (try clear hb)
    (try clear hb2)
    (try clear hk)
    (try clear hi)
    refine hK.out _ _ ⟨(qg b7.out 0).trans rfl, (qg b7.out 1).trans rfl, (qg b7.out 2).trans rfl, (qg b2.out 0).trans rfl, (qg b2.out 1).trans rfl, (qg b2.out 2).trans rfl⟩ (fun hHeld => ?_)
    clear hK K
    refine norm_ (a' := ?_) ?_ ?_
    rotate_left
    ·show Act.put _ (some 34) _ = _
     simp only [Act.put, sA_, sB_, sC_, i64_w, i32_w]
     rfl
    refine two_ (i := 3) (j := 7) (Ni := some 35) (Nj := some 9) #[true, true, true, true, false, false, false, false, false, false] #[true, true, true, false, false, false, false, true, false, false] rfl rfl rfl rfl (two_of HT_.out (by kernel_rfl)) (by decide) (by decide) (fun K hK => ?_) (fun K hK => ?_)
    ·skip
     refine goes_ Try.func25 (by kernel_rfl) rfl #[.agg #[.int .i64 f9, .int .i64 g0, .slice Ao41 g2.length co41], .agg #[.int .i64 D4, .int .i64 D5, .bool D6]] (by rfl) rfl rfl (by (try simp only [List.map_toArray, List.map_cons, List.map_nil]); first | done | rfl | (simp only [List.length_drop, List.length_take]; rfl)) ?_
     with_reducible refine (impl_OpenBlock.calls k f9 g0 _ _ g2 D4 D5 D6 f0 f1 d8 o9 _ ?side1 ?side2 A15.out).mono ?_
     (case side1 => repeat (first | exact (Kd.za m0.out).2.2 | (with_reducible refine Kd.zg ?_ _) | (with_reducible refine Kd.zf ?_ _) | (with_reducible refine Kd.zi ?_)))
     (case side2 => exact (Kd.za m0.out).2.1)
     rintro e w45 ⟨v259, rfl, ho0, hb⟩
     refine ⟨_, rfl, ?_⟩
     have n0_ := qa.mk (Kd.zh (kr_ d9) (Kd.zo ho0) hb);have n1_ := qa.mk (Kd.zh (kr_ g3) (Kd.zo ho0) hb);have n2_ := qa.mk (Kd.zh (kr_ m0) (Kd.zo ho0) hb);have n3_ := qa.mk (Kd.zt (Kd.zp (Kd.zp (Kd.zp ho0 (Kd.R_lt (kr_ d9))) (Kd.R_lt (kr_ g3))) (Kd.R_lt (kr_ m0))) (qm (be4_ HB d4 d5 d7 f4)));have n4_ := qa.mk (qk (g := d0) (o := .cells #[.int .i64 a0_0, .int .i64 a0_1, .slice A0_2 l0_2.length c0_2] 24 (0, 0)) (bk_ b1) hb);have n5_ := qa.mk (qk (g := d1) (o := .cells #[.int .i64 a1_0, .int .i64 a1_1, .bool a1_2] 35 (0, 0)) (bk_ b2) hb);have n6_ := qa.mk (qk (g := b9) (o := .cells #[.int .i64 f2, .int .i64 f3, .slice Ao31 d6.length co31] 30 (0, 0)) (bk_ b5) hb);have n7_ := qa.mk (qk (g := d3) (o := .cells #[.int .i64 f9, .int .i64 g0, .slice Ao41 g2.length co41] 30 (0, 0)) (bk_ b7) hb);have n8_ := qa.mk (qn (be4_ HB d4 d5 d7 f4) hb);clear d9;clear g3;clear m0;clear b1;clear b2;clear b5;clear b7;clear HB;have d9 := n0_;have g3 := n1_;have m0 := n2_;have o5 := n3_;have b1 := n4_;have b2 := n5_;have b5 := n6_;have b7 := n7_;have HB := n8_;clear n0_ n1_ n2_ n3_ n4_ n5_ n6_ n7_ n8_
     (try clear hb)
     (try clear hb2)
     (try clear hk)
     (try clear hi)
     (try clear ho0)
     refine hK.out _ _ ⟨(qg b7.out 0).trans rfl, (qg b7.out 1).trans rfl, (qg b7.out 2).trans rfl, (qg b2.out 0).trans rfl, (qg b2.out 1).trans rfl, (qg b2.out 2).trans rfl⟩ (fun hHeld => ?_)
     clear hK K
     refine norm_ (a' := ?_) ?_ ?_
     rotate_left
     ·show Act.put _ (some 35) _ = _
      simp only [Act.put, sA_, sB_, sC_, i64_w, i32_w]
      rfl
     refine pure_ (i := 4) (N := some 31) (v := ?_) (a' := ?_) #[true, true, true, true, true, false, false, false, false, false] rfl rfl (qv HT_.out (by kernel_rfl)) (fun _ _ _ h => h) (Or.inl ⟨by rfl, ?_⟩) ?_ ?_
     rotate_left
     ·intro w'
      go_simp
      with_reducible rfl
     rotate_left
     ·simp only [Act.put, sA_, sB_, sC_, i64_w, i32_w]
      rfl
     refine pure_ (i := 5) (N := some 36) (v := ?_) (a' := ?_) #[true, true, true, true, true, true, false, false, false, false] rfl rfl (qv HT_.out (by kernel_rfl)) (fun _ _ _ h => h) (Or.inl ⟨by rfl, ?_⟩) ?_ ?_
     rotate_left
     ·intro w'
      go_simp
      with_reducible rfl
     rotate_left
     ·simp only [Act.put, sA_, sB_, sC_, i64_w, i32_w]
      rfl
     refine pure_ (i := 6) (N := some 37) (v := ?_) (a' := ?_) #[true, true, true, true, true, true, true, false, false, false] rfl rfl (qv HT_.out (by kernel_rfl)) (fun _ _ _ h => h) (Or.inl ⟨by rfl, ?_⟩) ?_ ?_
     rotate_left
     ·intro w'
      go_simp
      with_reducible rfl
     rotate_left
     ·simp only [Act.put, sA_, sB_, sC_, i64_w, i32_w]
      rfl
     refine one_ (i := 7) (N := some 9) #[true, true, true, true, true, true, true, true, false, false] rfl rfl (zn HT_.out (by kernel_rfl)) (by decide) (fun K hK => ?_)
     refine box_step ?hg (N := 9) ?hd (cs := #[.int .i64 0, .int .i64 0, .slice none 0 0]) (t := 30) ?hr ?_; (case hd => rfl); (case hg => rfl); (case hr => first | (go_simp; done) | (go_simp; rfl))
     intro b8 hg w46 hbox hb
     have n0_ := qa.mk (Kd.qz (kr_ d9) hb);have n1_ := qa.mk (Kd.qz (kr_ g3) hb);have n2_ := qa.mk (Kd.qz (kr_ m0) hb);have n3_ := qa.mk (Kd.qz (kr_ o5) hb);have n4_ := qa.mk (qk (g := d0) (o := .cells #[.int .i64 a0_0, .int .i64 a0_1, .slice A0_2 l0_2.length c0_2] 24 (0, 0)) (bk_ b1) hb);have n5_ := qa.mk (qk (g := d1) (o := .cells #[.int .i64 a1_0, .int .i64 a1_1, .bool a1_2] 35 (0, 0)) (bk_ b2) hb);have n6_ := qa.mk (qk (g := b9) (o := .cells #[.int .i64 f2, .int .i64 f3, .slice Ao31 d6.length co31] 30 (0, 0)) (bk_ b5) hb);have n7_ := qa.mk (qk (g := d3) (o := .cells #[.int .i64 f9, .int .i64 g0, .slice Ao41 g2.length co41] 30 (0, 0)) (bk_ b7) hb);have n8_ := qa.mk (qn (be4_ HB d4 d5 d7 f4) hb);have n9_ := qa.mk (hbox);have n10_ := qa.mk ((by rw [hg]; exact (qm (be4_ HB d4 d5 d7 f4)) : w.heap.size ≤ b8));have n11_ := qa.mk ((by rw [hg]; exact (qm (be4_ HB d4 d5 d7 f4)) : w.heap.size ≤ b8));have n12_ := qa.mk ((by rw [hg]; exact Nat.ne_of_lt (qr (g := d0) (o := .cells #[.int .i64 a0_0, .int .i64 a0_1, .slice A0_2 l0_2.length c0_2] 24 (0, 0)) (bk_ b1)) : d0 ≠ b8));have n13_ := qa.mk ((by rw [hg]; exact Nat.ne_of_gt (qr (g := d0) (o := .cells #[.int .i64 a0_0, .int .i64 a0_1, .slice A0_2 l0_2.length c0_2] 24 (0, 0)) (bk_ b1)) : b8 ≠ d0));have n14_ := qa.mk ((by rw [hg]; exact Nat.ne_of_lt (qr (g := d1) (o := .cells #[.int .i64 a1_0, .int .i64 a1_1, .bool a1_2] 35 (0, 0)) (bk_ b2)) : d1 ≠ b8));have n15_ := qa.mk ((by rw [hg]; exact Nat.ne_of_gt (qr (g := d1) (o := .cells #[.int .i64 a1_0, .int .i64 a1_1, .bool a1_2] 35 (0, 0)) (bk_ b2)) : b8 ≠ d1));have n16_ := qa.mk ((by rw [hg]; exact Nat.ne_of_lt (qr (g := b9) (o := .cells #[.int .i64 f2, .int .i64 f3, .slice Ao31 d6.length co31] 30 (0, 0)) (bk_ b5)) : b9 ≠ b8));have n17_ := qa.mk ((by rw [hg]; exact Nat.ne_of_gt (qr (g := b9) (o := .cells #[.int .i64 f2, .int .i64 f3, .slice Ao31 d6.length co31] 30 (0, 0)) (bk_ b5)) : b8 ≠ b9));have n18_ := qa.mk ((by rw [hg]; exact Nat.ne_of_lt (qr (g := d3) (o := .cells #[.int .i64 f9, .int .i64 g0, .slice Ao41 g2.length co41] 30 (0, 0)) (bk_ b7)) : d3 ≠ b8))
     have n19_ := qa.mk ((by rw [hg]; exact Nat.ne_of_gt (qr (g := d3) (o := .cells #[.int .i64 f9, .int .i64 g0, .slice Ao41 g2.length co41] 30 (0, 0)) (bk_ b7)) : b8 ≠ d3));clear d9;clear g3;clear m0;clear o5;clear b1;clear b2;clear b5;clear b7;clear HB;have d9 := n0_;have g3 := n1_;have m0 := n2_;have o5 := n3_;have b1 := n4_;have b2 := n5_;have b5 := n6_;have b7 := n7_;have HB := n8_;have b6 := n9_;have D9 := n10_;have f5 := n11_;have g8 := n12_;have m4 := n13_;have f7 := n14_;have m5 := n15_;have g7 := n16_;have m2 := n17_;have f6 := n18_;have m3 := n19_;clear n0_ n1_ n2_ n3_ n4_ n5_ n6_ n7_ n8_ n9_ n10_ n11_ n12_ n13_ n14_ n15_ n16_ n17_ n18_ n19_;clear hb hbox hg
     refine hK.out _ _ ⟨(qg b7.out 0).trans rfl, (qg b7.out 1).trans rfl, (qg b7.out 2).trans rfl, (qg b2.out 0).trans rfl, (qg b2.out 1).trans rfl, (qg b2.out 2).trans rfl⟩ (fun hHeld => ?_)
     clear hK K
     refine norm_ (a' := ?_) ?_ ?_
     rotate_left
     ·show Act.put _ (some 9) _ = _
      simp only [Act.put, sA_, sB_, sC_, i64_w, i32_w]
      rfl
     exact norm_ (by simp only [putAll, Act.put, sA_, sB_, sC_]) (hCont (v259, b8) _ ⟨hHeld, (by (with_reducible repeat (first | apply Kd.qo | apply Kd.qp | apply Kd.qq)); exact Kd.zc d9.out (fun _ hk => ⟨hk.1.1, ⟨hk.1.2, hk.2⟩⟩)), (by (with_reducible repeat (first | apply Kd.qo | apply Kd.qp | apply Kd.qq)); exact Kd.zc g3.out (fun _ hk => ⟨hk.1.1, ⟨hk.1.2, hk.2⟩⟩)), (by (with_reducible repeat (first | apply Kd.qo | apply Kd.qp | apply Kd.qq)); exact Kd.zc m0.out (fun _ hk => ⟨hk.1.1, ⟨hk.1.2, hk.2⟩⟩)), (by (with_reducible repeat (first | apply Kd.qo | apply Kd.qp | apply Kd.qq)); exact Kd.zc o5.out (fun _ hk => ⟨hk.1.1.2, ⟨hk.1.2, hk.2⟩⟩)), (bk_ b1), (bk_ b2), (bk_ b5), (bk_ b7), (bk_ b6), D9.out, f5.out, g8.out, m4.out, f7.out, m5.out, g7.out, m2.out, f6.out, m3.out, (be5_ HB d4 d5 d7 f4 f5)⟩)
    ·skip
     refine box_step ?hg (N := 9) ?hd (cs := #[.int .i64 0, .int .i64 0, .slice none 0 0]) (t := 30) ?hr ?_; (case hd => rfl); (case hg => rfl); (case hr => first | (go_simp; done) | (go_simp; rfl))
     intro b8 hg w45 hbox hb
     have n0_ := qa.mk (Kd.qz (kr_ d9) hb);have n1_ := qa.mk (Kd.qz (kr_ g3) hb);have n2_ := qa.mk (Kd.qz (kr_ m0) hb);have n3_ := qa.mk (qk (g := d0) (o := .cells #[.int .i64 a0_0, .int .i64 a0_1, .slice A0_2 l0_2.length c0_2] 24 (0, 0)) (bk_ b1) hb);have n4_ := qa.mk (qk (g := d1) (o := .cells #[.int .i64 a1_0, .int .i64 a1_1, .bool a1_2] 35 (0, 0)) (bk_ b2) hb);have n5_ := qa.mk (qk (g := b9) (o := .cells #[.int .i64 f2, .int .i64 f3, .slice Ao31 d6.length co31] 30 (0, 0)) (bk_ b5) hb);have n6_ := qa.mk (qk (g := d3) (o := .cells #[.int .i64 f9, .int .i64 g0, .slice Ao41 g2.length co41] 30 (0, 0)) (bk_ b7) hb);have n7_ := qa.mk (qn (be4_ HB d4 d5 d7 f4) hb);have n8_ := qa.mk (hbox);have n9_ := qa.mk ((by rw [hg]; exact (qm (be4_ HB d4 d5 d7 f4)) : w.heap.size ≤ b8));have n10_ := qa.mk ((by rw [hg]; exact (qm (be4_ HB d4 d5 d7 f4)) : w.heap.size ≤ b8));have n11_ := qa.mk ((by rw [hg]; exact Nat.ne_of_lt (qr (g := d0) (o := .cells #[.int .i64 a0_0, .int .i64 a0_1, .slice A0_2 l0_2.length c0_2] 24 (0, 0)) (bk_ b1)) : d0 ≠ b8));have n12_ := qa.mk ((by rw [hg]; exact Nat.ne_of_gt (qr (g := d0) (o := .cells #[.int .i64 a0_0, .int .i64 a0_1, .slice A0_2 l0_2.length c0_2] 24 (0, 0)) (bk_ b1)) : b8 ≠ d0));have n13_ := qa.mk ((by rw [hg]; exact Nat.ne_of_lt (qr (g := d1) (o := .cells #[.int .i64 a1_0, .int .i64 a1_1, .bool a1_2] 35 (0, 0)) (bk_ b2)) : d1 ≠ b8));have n14_ := qa.mk ((by rw [hg]; exact Nat.ne_of_gt (qr (g := d1) (o := .cells #[.int .i64 a1_0, .int .i64 a1_1, .bool a1_2] 35 (0, 0)) (bk_ b2)) : b8 ≠ d1));have n15_ := qa.mk ((by rw [hg]; exact Nat.ne_of_lt (qr (g := b9) (o := .cells #[.int .i64 f2, .int .i64 f3, .slice Ao31 d6.length co31] 30 (0, 0)) (bk_ b5)) : b9 ≠ b8));have n16_ := qa.mk ((by rw [hg]; exact Nat.ne_of_gt (qr (g := b9) (o := .cells #[.int .i64 f2, .int .i64 f3, .slice Ao31 d6.length co31] 30 (0, 0)) (bk_ b5)) : b8 ≠ b9));have n17_ := qa.mk ((by rw [hg]; exact Nat.ne_of_lt (qr (g := d3) (o := .cells #[.int .i64 f9, .int .i64 g0, .slice Ao41 g2.length co41] 30 (0, 0)) (bk_ b7)) : d3 ≠ b8))
     have n18_ := qa.mk ((by rw [hg]; exact Nat.ne_of_gt (qr (g := d3) (o := .cells #[.int .i64 f9, .int .i64 g0, .slice Ao41 g2.length co41] 30 (0, 0)) (bk_ b7)) : b8 ≠ d3));clear d9;clear g3;clear m0;clear b1;clear b2;clear b5;clear b7;clear HB;have d9 := n0_;have g3 := n1_;have m0 := n2_;have b1 := n3_;have b2 := n4_;have b5 := n5_;have b7 := n6_;have HB := n7_;have b6 := n8_;have D9 := n9_;have f5 := n10_;have g8 := n11_;have m4 := n12_;have f7 := n13_;have m5 := n14_;have g7 := n15_;have m2 := n16_;have f6 := n17_;have m3 := n18_;clear n0_ n1_ n2_ n3_ n4_ n5_ n6_ n7_ n8_ n9_ n10_ n11_ n12_ n13_ n14_ n15_ n16_ n17_ n18_;clear hb hbox hg
     refine hK.out _ _ ⟨(qg b7.out 0).trans rfl, (qg b7.out 1).trans rfl, (qg b7.out 2).trans rfl, (qg b2.out 0).trans rfl, (qg b2.out 1).trans rfl, (qg b2.out 2).trans rfl⟩ (fun hHeld => ?_)
     clear hK K
     refine norm_ (a' := ?_) ?_ ?_
     rotate_left
     ·show Act.put _ (some 9) _ = _
      simp only [Act.put, sA_, sB_, sC_, i64_w, i32_w]
      rfl
     refine one_ (i := 3) (N := some 35) #[true, true, true, true, false, false, false, true, false, false] rfl rfl (zn HT_.out (by kernel_rfl)) (by decide) (fun K hK => ?_)
     refine goes_ Try.func25 (by kernel_rfl) rfl #[.agg #[.int .i64 f9, .int .i64 g0, .slice Ao41 g2.length co41], .agg #[.int .i64 D4, .int .i64 D5, .bool D6]] (by rfl) rfl rfl (by (try simp only [List.map_toArray, List.map_cons, List.map_nil]); first | done | rfl | (simp only [List.length_drop, List.length_take]; rfl)) ?_
     with_reducible refine (impl_OpenBlock.calls k f9 g0 _ _ g2 D4 D5 D6 f0 f1 d8 o9 _ ?side1 ?side2 A15.out).mono ?_
     (case side1 => repeat (first | exact (Kd.za m0.out).2.2 | (with_reducible refine Kd.zg ?_ _) | (with_reducible refine Kd.zf ?_ _) | (with_reducible refine Kd.zi ?_)))
     (case side2 => exact (Kd.za m0.out).2.1)
     rintro e w46 ⟨v259, rfl, ho0, hb⟩
     refine ⟨_, rfl, ?_⟩
     have n0_ := qa.mk (Kd.zh (kr_ d9) (Kd.zo ho0) hb);have n1_ := qa.mk (Kd.zh (kr_ g3) (Kd.zo ho0) hb);have n2_ := qa.mk (Kd.zh (kr_ m0) (Kd.zo ho0) hb);have n3_ := qa.mk (Kd.zt (Kd.zp (Kd.zp (Kd.zp ho0 (Kd.R_lt (kr_ d9))) (Kd.R_lt (kr_ g3))) (Kd.R_lt (kr_ m0))) (qm (be5_ HB d4 d5 d7 f4 f5)));have n4_ := qa.mk (qk (g := d0) (o := .cells #[.int .i64 a0_0, .int .i64 a0_1, .slice A0_2 l0_2.length c0_2] 24 (0, 0)) (bk_ b1) hb);have n5_ := qa.mk (qk (g := d1) (o := .cells #[.int .i64 a1_0, .int .i64 a1_1, .bool a1_2] 35 (0, 0)) (bk_ b2) hb);have n6_ := qa.mk (qk (g := b9) (o := .cells #[.int .i64 f2, .int .i64 f3, .slice Ao31 d6.length co31] 30 (0, 0)) (bk_ b5) hb);have n7_ := qa.mk (qk (g := d3) (o := .cells #[.int .i64 f9, .int .i64 g0, .slice Ao41 g2.length co41] 30 (0, 0)) (bk_ b7) hb);have n8_ := qa.mk (qk (g := b8) (o := .cells #[.int .i64 0, .int .i64 0, .slice none 0 0] 30 (0, 0)) (bk_ b6) hb);have n9_ := qa.mk (qn (be5_ HB d4 d5 d7 f4 f5) hb);clear d9;clear g3;clear m0;clear b1;clear b2;clear b5;clear b7;clear b6;clear HB;have d9 := n0_;have g3 := n1_;have m0 := n2_;have o5 := n3_;have b1 := n4_;have b2 := n5_;have b5 := n6_;have b7 := n7_;have b6 := n8_;have HB := n9_;clear n0_ n1_ n2_ n3_ n4_ n5_ n6_ n7_ n8_ n9_
     (try clear hb)
     (try clear hb2)
     (try clear hk)
     (try clear hi)
     (try clear ho0)
     refine hK.out _ _ ⟨(qg b7.out 0).trans rfl, (qg b7.out 1).trans rfl, (qg b7.out 2).trans rfl, (qg b2.out 0).trans rfl, (qg b2.out 1).trans rfl, (qg b2.out 2).trans rfl⟩ (fun hHeld => ?_)
     clear hK K
     refine norm_ (a' := ?_) ?_ ?_
     rotate_left
     ·show Act.put _ (some 35) _ = _
      simp only [Act.put, sA_, sB_, sC_, i64_w, i32_w]
      rfl
     refine pure_ (i := 4) (N := some 31) (v := ?_) (a' := ?_) #[true, true, true, true, true, false, false, true, false, false] rfl rfl (qv HT_.out (by kernel_rfl)) (fun _ _ _ h => h) (Or.inl ⟨by rfl, ?_⟩) ?_ ?_
     rotate_left
     ·intro w'
      go_simp
      with_reducible rfl
     rotate_left
     ·simp only [Act.put, sA_, sB_, sC_, i64_w, i32_w]
      rfl
     refine pure_ (i := 5) (N := some 36) (v := ?_) (a' := ?_) #[true, true, true, true, true, true, false, true, false, false] rfl rfl (qv HT_.out (by kernel_rfl)) (fun _ _ _ h => h) (Or.inl ⟨by rfl, ?_⟩) ?_ ?_
     rotate_left
     ·intro w'
      go_simp
      with_reducible rfl
     rotate_left
     ·simp only [Act.put, sA_, sB_, sC_, i64_w, i32_w]
      rfl
     refine pure_ (i := 6) (N := some 37) (v := ?_) (a' := ?_) #[true, true, true, true, true, true, true, true, false, false] rfl rfl (qv HT_.out (by kernel_rfl)) (fun _ _ _ h => h) (Or.inl ⟨by rfl, ?_⟩) ?_ ?_
     rotate_left
     ·intro w'
      go_simp
      with_reducible rfl
     rotate_left
     ·simp only [Act.put, sA_, sB_, sC_, i64_w, i32_w]
      rfl
     exact norm_ (by simp only [putAll, Act.put, sA_, sB_, sC_]) (hCont (v259, b8) _ ⟨hHeld, (by (with_reducible repeat (first | apply Kd.qo | apply Kd.qp | apply Kd.qq)); exact Kd.zc d9.out (fun _ hk => ⟨hk.1.1, ⟨hk.1.2, hk.2⟩⟩)), (by (with_reducible repeat (first | apply Kd.qo | apply Kd.qp | apply Kd.qq)); exact Kd.zc g3.out (fun _ hk => ⟨hk.1.1, ⟨hk.1.2, hk.2⟩⟩)), (by (with_reducible repeat (first | apply Kd.qo | apply Kd.qp | apply Kd.qq)); exact Kd.zc m0.out (fun _ hk => ⟨hk.1.1, ⟨hk.1.2, hk.2⟩⟩)), (by (with_reducible repeat (first | apply Kd.qo | apply Kd.qp | apply Kd.qq)); exact Kd.zc o5.out (fun _ hk => ⟨hk.1.1.2, ⟨hk.1.2, hk.2⟩⟩)), (bk_ b1), (bk_ b2), (bk_ b5), (bk_ b7), (bk_ b6), D9.out, f5.out, g8.out, m4.out, f7.out, m5.out, g7.out, m2.out, f6.out, m3.out, (be5_ HB d4 d5 d7 f4 f5)⟩)
   ·skip
    refine box_step ?hg (N := 9) ?hd (cs := #[.int .i64 0, .int .i64 0, .slice none 0 0]) (t := 30) ?hr ?_; (case hd => rfl); (case hg => rfl); (case hr => first | (go_simp; done) | (go_simp; rfl))
    intro b8 hg w44 hbox hb
    have n0_ := qa.mk (Kd.qz (kr_ d9) hb);have n1_ := qa.mk (Kd.qz (kr_ g3) hb);have n2_ := qa.mk (Kd.qz (kr_ m0) hb);have n3_ := qa.mk (qk (g := d0) (o := .cells #[.int .i64 a0_0, .int .i64 a0_1, .slice A0_2 l0_2.length c0_2] 24 (0, 0)) (bk_ b1) hb);have n4_ := qa.mk (qk (g := d1) (o := .cells #[.int .i64 a1_0, .int .i64 a1_1, .bool a1_2] 35 (0, 0)) (bk_ b2) hb);have n5_ := qa.mk (qk (g := b9) (o := .cells #[.int .i64 f2, .int .i64 f3, .slice Ao31 d6.length co31] 30 (0, 0)) (bk_ b5) hb);have n6_ := qa.mk (qk (g := d3) (o := .cells #[.int .i64 f9, .int .i64 g0, .slice Ao41 g2.length co41] 30 (0, 0)) (bk_ b7) hb);have n7_ := qa.mk (qn (be4_ HB d4 d5 d7 f4) hb);have n8_ := qa.mk (hbox);have n9_ := qa.mk ((by rw [hg]; exact (qm (be4_ HB d4 d5 d7 f4)) : w.heap.size ≤ b8));have n10_ := qa.mk ((by rw [hg]; exact (qm (be4_ HB d4 d5 d7 f4)) : w.heap.size ≤ b8));have n11_ := qa.mk ((by rw [hg]; exact Nat.ne_of_lt (qr (g := d0) (o := .cells #[.int .i64 a0_0, .int .i64 a0_1, .slice A0_2 l0_2.length c0_2] 24 (0, 0)) (bk_ b1)) : d0 ≠ b8));have n12_ := qa.mk ((by rw [hg]; exact Nat.ne_of_gt (qr (g := d0) (o := .cells #[.int .i64 a0_0, .int .i64 a0_1, .slice A0_2 l0_2.length c0_2] 24 (0, 0)) (bk_ b1)) : b8 ≠ d0));have n13_ := qa.mk ((by rw [hg]; exact Nat.ne_of_lt (qr (g := d1) (o := .cells #[.int .i64 a1_0, .int .i64 a1_1, .bool a1_2] 35 (0, 0)) (bk_ b2)) : d1 ≠ b8));have n14_ := qa.mk ((by rw [hg]; exact Nat.ne_of_gt (qr (g := d1) (o := .cells #[.int .i64 a1_0, .int .i64 a1_1, .bool a1_2] 35 (0, 0)) (bk_ b2)) : b8 ≠ d1));have n15_ := qa.mk ((by rw [hg]; exact Nat.ne_of_lt (qr (g := b9) (o := .cells #[.int .i64 f2, .int .i64 f3, .slice Ao31 d6.length co31] 30 (0, 0)) (bk_ b5)) : b9 ≠ b8));have n16_ := qa.mk ((by rw [hg]; exact Nat.ne_of_gt (qr (g := b9) (o := .cells #[.int .i64 f2, .int .i64 f3, .slice Ao31 d6.length co31] 30 (0, 0)) (bk_ b5)) : b8 ≠ b9));have n17_ := qa.mk ((by rw [hg]; exact Nat.ne_of_lt (qr (g := d3) (o := .cells #[.int .i64 f9, .int .i64 g0, .slice Ao41 g2.length co41] 30 (0, 0)) (bk_ b7)) : d3 ≠ b8))
    have n18_ := qa.mk ((by rw [hg]; exact Nat.ne_of_gt (qr (g := d3) (o := .cells #[.int .i64 f9, .int .i64 g0, .slice Ao41 g2.length co41] 30 (0, 0)) (bk_ b7)) : b8 ≠ d3));clear d9;clear g3;clear m0;clear b1;clear b2;clear b5;clear b7;clear HB;have d9 := n0_;have g3 := n1_;have m0 := n2_;have b1 := n3_;have b2 := n4_;have b5 := n5_;have b7 := n6_;have HB := n7_;have b6 := n8_;have D9 := n9_;have f5 := n10_;have g8 := n11_;have m4 := n12_;have f7 := n13_;have m5 := n14_;have g7 := n15_;have m2 := n16_;have f6 := n17_;have m3 := n18_;clear n0_ n1_ n2_ n3_ n4_ n5_ n6_ n7_ n8_ n9_ n10_ n11_ n12_ n13_ n14_ n15_ n16_ n17_ n18_;clear hb hbox hg
    refine hK.out _ _ ⟨(qg b7.out 0).trans rfl, (qg b7.out 1).trans rfl, (qg b7.out 2).trans rfl, (qg b2.out 0).trans rfl, (qg b2.out 1).trans rfl, (qg b2.out 2).trans rfl⟩ (fun hHeld => ?_)
    clear hK K
    refine norm_ (a' := ?_) ?_ ?_
    rotate_left
    ·show Act.put _ (some 9) _ = _
     simp only [Act.put, sA_, sB_, sC_, i64_w, i32_w]
     rfl
    refine one_ (i := 2) (N := some 34) #[true, true, true, false, false, false, false, true, false, false] rfl rfl (zn HT_.out (by kernel_rfl)) (by decide) (fun K hK => ?_)
    refine goes_ Try.func24 (by kernel_rfl) rfl #[.agg #[.int .i64 a1_0, .int .i64 a1_1, .bool a1_2]] (by rfl) rfl rfl (by (try simp only [List.map_toArray, List.map_cons, List.map_nil]); first | done | rfl | (simp only [List.length_drop, List.length_take]; rfl)) ?_
    with_reducible refine (laws_toBlock.calls a1_0 a1_1 a1_2 D4 D5 D6 _ A14.out).mono ?_
    rintro e w45 ⟨rfl, hb⟩
    refine ⟨_, rfl, ?_⟩
    have n0_ := qa.mk (Kd.qz (kr_ d9) hb);have n1_ := qa.mk (Kd.qz (kr_ g3) hb);have n2_ := qa.mk (Kd.qz (kr_ m0) hb);have n3_ := qa.mk (qk (g := d0) (o := .cells #[.int .i64 a0_0, .int .i64 a0_1, .slice A0_2 l0_2.length c0_2] 24 (0, 0)) (bk_ b1) hb);have n4_ := qa.mk (qk (g := d1) (o := .cells #[.int .i64 a1_0, .int .i64 a1_1, .bool a1_2] 35 (0, 0)) (bk_ b2) hb);have n5_ := qa.mk (qk (g := b9) (o := .cells #[.int .i64 f2, .int .i64 f3, .slice Ao31 d6.length co31] 30 (0, 0)) (bk_ b5) hb);have n6_ := qa.mk (qk (g := d3) (o := .cells #[.int .i64 f9, .int .i64 g0, .slice Ao41 g2.length co41] 30 (0, 0)) (bk_ b7) hb);have n7_ := qa.mk (qk (g := b8) (o := .cells #[.int .i64 0, .int .i64 0, .slice none 0 0] 30 (0, 0)) (bk_ b6) hb);have n8_ := qa.mk (qn (be5_ HB d4 d5 d7 f4 f5) hb);clear d9;clear g3;clear m0;clear b1;clear b2;clear b5;clear b7;clear b6;clear HB;have d9 := n0_;have g3 := n1_;have m0 := n2_;have b1 := n3_;have b2 := n4_;have b5 := n5_;have b7 := n6_;have b6 := n7_;have HB := n8_;clear n0_ n1_ n2_ n3_ n4_ n5_ n6_ n7_ n8_
    (try clear hb)
    (try clear hb2)
    (try clear hk)
    (try clear hi)
    refine hK.out _ _ ⟨(qg b7.out 0).trans rfl, (qg b7.out 1).trans rfl, (qg b7.out 2).trans rfl, (qg b2.out 0).trans rfl, (qg b2.out 1).trans rfl, (qg b2.out 2).trans rfl⟩ (fun hHeld => ?_)
    clear hK K
    refine norm_ (a' := ?_) ?_ ?_
    rotate_left
    ·show Act.put _ (some 34) _ = _
     simp only [Act.put, sA_, sB_, sC_, i64_w, i32_w]
     rfl
    refine one_ (i := 3) (N := some 35) #[true, true, true, true, false, false, false, true, false, false] rfl rfl (zn HT_.out (by kernel_rfl)) (by decide) (fun K hK => ?_)
    refine goes_ Try.func25 (by kernel_rfl) rfl #[.agg #[.int .i64 f9, .int .i64 g0, .slice Ao41 g2.length co41], .agg #[.int .i64 D4, .int .i64 D5, .bool D6]] (by rfl) rfl rfl (by (try simp only [List.map_toArray, List.map_cons, List.map_nil]); first | done | rfl | (simp only [List.length_drop, List.length_take]; rfl)) ?_
    with_reducible refine (impl_OpenBlock.calls k f9 g0 _ _ g2 D4 D5 D6 f0 f1 d8 o9 _ ?side1 ?side2 A15.out).mono ?_
    (case side1 => repeat (first | exact (Kd.za m0.out).2.2 | (with_reducible refine Kd.zg ?_ _) | (with_reducible refine Kd.zf ?_ _) | (with_reducible refine Kd.zi ?_)))
    (case side2 => exact (Kd.za m0.out).2.1)
    rintro e w46 ⟨v259, rfl, ho0, hb⟩
    refine ⟨_, rfl, ?_⟩
    have n0_ := qa.mk (Kd.zh (kr_ d9) (Kd.zo ho0) hb);have n1_ := qa.mk (Kd.zh (kr_ g3) (Kd.zo ho0) hb);have n2_ := qa.mk (Kd.zh (kr_ m0) (Kd.zo ho0) hb);have n3_ := qa.mk (Kd.zt (Kd.zp (Kd.zp (Kd.zp ho0 (Kd.R_lt (kr_ d9))) (Kd.R_lt (kr_ g3))) (Kd.R_lt (kr_ m0))) (qm (be5_ HB d4 d5 d7 f4 f5)));have n4_ := qa.mk (qk (g := d0) (o := .cells #[.int .i64 a0_0, .int .i64 a0_1, .slice A0_2 l0_2.length c0_2] 24 (0, 0)) (bk_ b1) hb);have n5_ := qa.mk (qk (g := d1) (o := .cells #[.int .i64 a1_0, .int .i64 a1_1, .bool a1_2] 35 (0, 0)) (bk_ b2) hb);have n6_ := qa.mk (qk (g := b9) (o := .cells #[.int .i64 f2, .int .i64 f3, .slice Ao31 d6.length co31] 30 (0, 0)) (bk_ b5) hb);have n7_ := qa.mk (qk (g := d3) (o := .cells #[.int .i64 f9, .int .i64 g0, .slice Ao41 g2.length co41] 30 (0, 0)) (bk_ b7) hb);have n8_ := qa.mk (qk (g := b8) (o := .cells #[.int .i64 0, .int .i64 0, .slice none 0 0] 30 (0, 0)) (bk_ b6) hb);have n9_ := qa.mk (qn (be5_ HB d4 d5 d7 f4 f5) hb);clear d9;clear g3;clear m0;clear b1;clear b2;clear b5;clear b7;clear b6;clear HB;have d9 := n0_;have g3 := n1_;have m0 := n2_;have o5 := n3_;have b1 := n4_;have b2 := n5_;have b5 := n6_;have b7 := n7_;have b6 := n8_;have HB := n9_;clear n0_ n1_ n2_ n3_ n4_ n5_ n6_ n7_ n8_ n9_
    (try clear hb)
    (try clear hb2)
    (try clear hk)
    (try clear hi)
    (try clear ho0)
    refine hK.out _ _ ⟨(qg b7.out 0).trans rfl, (qg b7.out 1).trans rfl, (qg b7.out 2).trans rfl, (qg b2.out 0).trans rfl, (qg b2.out 1).trans rfl, (qg b2.out 2).trans rfl⟩ (fun hHeld => ?_)
    clear hK K
    refine norm_ (a' := ?_) ?_ ?_
    rotate_left
    ·show Act.put _ (some 35) _ = _
     simp only [Act.put, sA_, sB_, sC_, i64_w, i32_w]
     rfl
    refine pure_ (i := 4) (N := some 31) (v := ?_) (a' := ?_) #[true, true, true, true, true, false, false, true, false, false] rfl rfl (qv HT_.out (by kernel_rfl)) (fun _ _ _ h => h) (Or.inl ⟨by rfl, ?_⟩) ?_ ?_
    rotate_left
    ·intro w'
     go_simp
     with_reducible rfl
    rotate_left
    ·simp only [Act.put, sA_, sB_, sC_, i64_w, i32_w]
     rfl
    refine pure_ (i := 5) (N := some 36) (v := ?_) (a' := ?_) #[true, true, true, true, true, true, false, true, false, false] rfl rfl (qv HT_.out (by kernel_rfl)) (fun _ _ _ h => h) (Or.inl ⟨by rfl, ?_⟩) ?_ ?_
    rotate_left
    ·intro w'
     go_simp
     with_reducible rfl
    rotate_left
    ·simp only [Act.put, sA_, sB_, sC_, i64_w, i32_w]
     rfl
    refine pure_ (i := 6) (N := some 37) (v := ?_) (a' := ?_) #[true, true, true, true, true, true, true, true, false, false] rfl rfl (qv HT_.out (by kernel_rfl)) (fun _ _ _ h => h) (Or.inl ⟨by rfl, ?_⟩) ?_ ?_
    rotate_left
    ·intro w'
     go_simp
     with_reducible rfl
    rotate_left
    ·simp only [Act.put, sA_, sB_, sC_, i64_w, i32_w]
     rfl
    exact norm_ (by simp only [putAll, Act.put, sA_, sB_, sC_]) (hCont (v259, b8) _ ⟨hHeld, (by (with_reducible repeat (first | apply Kd.qo | apply Kd.qp | apply Kd.qq)); exact Kd.zc d9.out (fun _ hk => ⟨hk.1.1, ⟨hk.1.2, hk.2⟩⟩)), (by (with_reducible repeat (first | apply Kd.qo | apply Kd.qp | apply Kd.qq)); exact Kd.zc g3.out (fun _ hk => ⟨hk.1.1, ⟨hk.1.2, hk.2⟩⟩)), (by (with_reducible repeat (first | apply Kd.qo | apply Kd.qp | apply Kd.qq)); exact Kd.zc m0.out (fun _ hk => ⟨hk.1.1, ⟨hk.1.2, hk.2⟩⟩)), (by (with_reducible repeat (first | apply Kd.qo | apply Kd.qp | apply Kd.qq)); exact Kd.zc o5.out (fun _ hk => ⟨hk.1.1.2, ⟨hk.1.2, hk.2⟩⟩)), (bk_ b1), (bk_ b2), (bk_ b5), (bk_ b7), (bk_ b6), D9.out, f5.out, g8.out, m4.out, f7.out, m5.out, g7.out, m2.out, f6.out, m3.out, (be5_ HB d4 d5 d7 f4 f5)⟩)
  rintro ⟨v259, b8⟩ w47 ⟨hS_, h0_, h1_, h2_, h3_, h4_, h5_, h6_, h7_, h8_, h9_, h10_, h11_, h12_, h13_, h14_, h15_, h16_, h17_, h18_, h19_⟩
  have n0_ : qa (Kd.R k38 38 w47 w.heap.size (fun k_ => some k_ ≠ (.slice Ao31 d6.length co31 : Value).ownBlock ∧ some k_ ≠ (.slice Ao41 g2.length co41 : Value).ownBlock ∧ some k_ ≠ (v259 : Value).ownBlock) v235 p0) := ⟨h0_⟩;have n1_ : qa (Kd.R k38 38 w47 w.heap.size (fun k_ => some k_ ≠ (v235 : Value).ownBlock ∧ some k_ ≠ (.slice Ao41 g2.length co41 : Value).ownBlock ∧ some k_ ≠ (v259 : Value).ownBlock) (.slice Ao31 d6.length co31) d6) := ⟨h1_⟩;have n2_ : qa (Kd.R k38 38 w47 w.heap.size (fun k_ => some k_ ≠ (v235 : Value).ownBlock ∧ some k_ ≠ (.slice Ao31 d6.length co31 : Value).ownBlock ∧ some k_ ≠ (v259 : Value).ownBlock) (.slice Ao41 g2.length co41) g2) := ⟨h2_⟩;have n3_ : qa (Kd.R k38 38 w47 w.heap.size (fun k_ => some k_ ≠ (v235 : Value).ownBlock ∧ some k_ ≠ (.slice Ao31 d6.length co31 : Value).ownBlock ∧ some k_ ≠ (.slice Ao41 g2.length co41 : Value).ownBlock) v259 d8) := ⟨h3_⟩;have n4_ : qa (w47.heap[d0]? = some (.cells #[.int .i64 a0_0, .int .i64 a0_1, .slice A0_2 l0_2.length c0_2] 24 (0, 0))) := ⟨h4_⟩;have n5_ : qa (w47.heap[d1]? = some (.cells #[.int .i64 a1_0, .int .i64 a1_1, .bool a1_2] 35 (0, 0))) := ⟨h5_⟩;have n6_ : qa (w47.heap[b9]? = some (.cells #[.int .i64 f2, .int .i64 f3, .slice Ao31 d6.length co31] 30 (0, 0))) := ⟨h6_⟩;have n7_ : qa (w47.heap[d3]? = some (.cells #[.int .i64 f9, .int .i64 g0, .slice Ao41 g2.length co41] 30 (0, 0))) := ⟨h7_⟩;have n8_ : qa (w47.heap[b8]? = some (.cells #[.int .i64 0, .int .i64 0, .slice none 0 0] 30 (0, 0))) := ⟨h8_⟩;have n9_ : qa (w.heap.size ≤ b8) := ⟨h9_⟩;have n10_ : qa (w.heap.size ≤ b8) := ⟨h10_⟩;have n11_ : qa (d0 ≠ b8) := ⟨h11_⟩;have n12_ : qa (b8 ≠ d0) := ⟨h12_⟩;have n13_ : qa (d1 ≠ b8) := ⟨h13_⟩;have n14_ : qa (b8 ≠ d1) := ⟨h14_⟩;have n15_ : qa (b9 ≠ b8) := ⟨h15_⟩;have n16_ : qa (b8 ≠ b9) := ⟨h16_⟩;have n17_ : qa (d3 ≠ b8) := ⟨h17_⟩;have n18_ : qa (b8 ≠ d3) := ⟨h18_⟩;have n19_ : qa (Below w.heap.size w w47) := ⟨h19_⟩;clear d9;clear g3;clear m0;clear b1;clear b2;clear b5;clear b7;clear HB;clear h0_ h1_ h2_ h3_ h4_ h5_ h6_ h7_ h8_ h9_ h10_ h11_ h12_ h13_ h14_ h15_ h16_ h17_ h18_ h19_
  have d9 := n0_;have g3 := n1_;have m0 := n2_;have o5 := n3_;have b1 := n4_;have b2 := n5_;have b5 := n6_;have b7 := n7_;have b6 := n8_;have D9 := n9_;have f5 := n10_;have g8 := n11_;have m4 := n12_;have f7 := n13_;have m5 := n14_;have g7 := n15_;have m2 := n16_;have f6 := n17_;have m3 := n18_;have HB := n19_;clear n0_ n1_ n2_ n3_ n4_ n5_ n6_ n7_ n8_ n9_ n10_ n11_ n12_ n13_ n14_ n15_ n16_ n17_ n18_ n19_;have hHeld : w47.cell? ⟨d3, 0, none⟩ = some (.int .i64 f9) ∧ w47.cell? ⟨d3, 1, none⟩ = some (.int .i64 g0) ∧ w47.cell? ⟨d3, 2, none⟩ = some (.slice Ao41 g2.length co41) ∧ w47.cell? ⟨d1, 0, none⟩ = some (.int .i64 a1_0) ∧ w47.cell? ⟨d1, 1, none⟩ = some (.int .i64 a1_1) ∧ w47.cell? ⟨d1, 2, none⟩ = some (.bool a1_2) := hS_;obtain ⟨Ao50, co50, eo50⟩ := Kd.zr o5.out
  (first | subst eo50 | (injection eo50 with f1_ f2_ f3_; have f4_ := f1_.symm; have f5_ := f3_.symm; clear f1_ f2_ f3_; subst f4_; subst f5_))
  refine norm_ (a' := ?_) ?_ ?_
  rotate_left
  ·simp only [putAll, Act.put, sA_, sB_, sC_]
   rfl
  refine one_ (i := 8) (N := none) #[true, true, true, true, true, true, true, true, true, false] rfl rfl (zn HT_.out (by kernel_rfl)) (by decide) (fun K hK => ?_)
  have hs48 : w47.cell? ⟨b8, 0, none⟩ = some (.int .i64 0) := (qg b6.out 0).trans rfl;have hfs48 := qj b6.out 0;have hns48_0 := g8.out;have hns48_1 := f7.out;have hns48_2 := g7.out;have hns48_3 := f6.out;have hms48_0 := m4.out;have hms48_1 := m5.out;have hms48_2 := m2.out;have hms48_3 := m3.out;have hs49 : w47.cell? ⟨b8, 1, none⟩ = some (.int .i64 0) := (qg b6.out 1).trans rfl;have hfs49 := qj b6.out 1;have hns49_0 := g8.out;have hns49_1 := f7.out;have hns49_2 := g7.out;have hns49_3 := f6.out;have hms49_0 := m4.out;have hms49_1 := m5.out;have hms49_2 := m2.out;have hms49_3 := m3.out;have hs51 : w47.cell? ⟨b8, 2, none⟩ = some (.slice none 0 0) := (qg b6.out 2).trans rfl;have hfs51 := qj b6.out 2;have hns51_0 := g8.out;have hns51_1 := f7.out;have hns51_2 := g7.out;have hns51_3 := f6.out;have hms51_0 := m4.out;have hms51_1 := m5.out;have hms51_2 := m2.out;have hms51_3 := m3.out
  refine skip_ (w1 := ?_) (by rfl) rfl ?_ ?_
  rotate_left
  ·go_simp
   rfl
  refine hK.out _ _ ⟨((cell_far (p := ⟨b8, _, none⟩) f6.out _).trans (((cell_far (p := ⟨b8, _, none⟩) f6.out _).trans (((cell_far (p := ⟨b8, _, none⟩) f6.out _).trans (hHeld.1)))))), ((cell_far (p := ⟨b8, _, none⟩) f6.out _).trans (((cell_far (p := ⟨b8, _, none⟩) f6.out _).trans (((cell_far (p := ⟨b8, _, none⟩) f6.out _).trans (hHeld.2.1)))))), ((cell_far (p := ⟨b8, _, none⟩) f6.out _).trans (((cell_far (p := ⟨b8, _, none⟩) f6.out _).trans (((cell_far (p := ⟨b8, _, none⟩) f6.out _).trans (hHeld.2.2.1)))))), ((cell_far (p := ⟨b8, _, none⟩) f7.out _).trans (((cell_far (p := ⟨b8, _, none⟩) f7.out _).trans (((cell_far (p := ⟨b8, _, none⟩) f7.out _).trans (hHeld.2.2.2.1)))))), ((cell_far (p := ⟨b8, _, none⟩) f7.out _).trans (((cell_far (p := ⟨b8, _, none⟩) f7.out _).trans (((cell_far (p := ⟨b8, _, none⟩) f7.out _).trans (hHeld.2.2.2.2.1)))))), ((cell_far (p := ⟨b8, _, none⟩) f7.out _).trans (((cell_far (p := ⟨b8, _, none⟩) f7.out _).trans (((cell_far (p := ⟨b8, _, none⟩) f7.out _).trans (hHeld.2.2.2.2.2))))))⟩ (fun hHeld => ?_)
  clear hK K
  refine pure_ (i := 9) (N := some 10) (v := ?_) (a' := ?_) #[true, true, true, true, true, true, true, true, true, true] rfl rfl (qv HT_.out (by kernel_rfl)) (fun _ _ _ h => h) (Or.inl ⟨by rfl, ?_⟩) ?_ ?_
  rotate_left
  ·intro w'
   go_simp
   with_reducible rfl
  rotate_left
  ·simp only [Act.put, sA_, sB_, sC_, i64_w, i32_w]
   rfl
  refine done_ (done_of HT_.out (by kernel_rfl)) ?_
  go_upto_region 8 with (fail)
  go_cut [46] (fun v46 wc => ∃ (kq : Nat) (x46_15 : Bool), v46 = .bool x46_15 ∧ qa (laws_FnExactOpenBlock.j0 kq m9 o9 x46_15 a0_0 a0_1 l0_2 a1_0 a1_1 a1_2 f2 f3 d6 f9 g0 g2 f0 f1 d8 = some r) ∧ qa (kq ≤ k) ∧ qa (Kd.R k38 38 wc w.heap.size (fun k_ => some k_ ≠ ((.slice Ao41 g2.length co41) : Value).ownBlock ∧ some k_ ≠ ((.slice Ao50 d8.length co50) : Value).ownBlock) (.slice Ao31 d6.length co31) d6) ∧ qa (Kd.R k38 38 wc w.heap.size (fun k_ => some k_ ≠ ((.slice Ao31 d6.length co31) : Value).ownBlock ∧ some k_ ≠ ((.slice Ao50 d8.length co50) : Value).ownBlock) (.slice Ao41 g2.length co41) g2) ∧ qa (Kd.R k38 38 wc w.heap.size (fun k_ => some k_ ≠ ((.slice Ao31 d6.length co31) : Value).ownBlock ∧ some k_ ≠ ((.slice Ao41 g2.length co41) : Value).ownBlock) (.slice Ao50 d8.length co50) d8) ∧ qa (wc.heap[d0]? = some (.cells #[.int .i64 a0_0, .int .i64 a0_1, (.slice A0_2 l0_2.length c0_2)] 24 (0, 0))) ∧ qa (wc.heap[d1]? = some (.cells #[.int .i64 a1_0, .int .i64 a1_1, .bool a1_2] 35 (0, 0))) ∧ qa (wc.heap[b9]? = some (.cells #[.int .i64 f2, .int .i64 f3, (.slice Ao31 d6.length co31)] 30 (0, 0))) ∧ qa (wc.heap[d3]? = some (.cells #[.int .i64 f9, .int .i64 g0, (.slice Ao41 g2.length co41)] 30 (0, 0))) ∧ qa (wc.heap[b8]? = some (.cells #[.int .i64 f0, .int .i64 f1, (.slice Ao50 d8.length co50)] 30 (0, 0))) ∧ qa (Below w.heap.size w wc))
  case first =>
   have H := HC16.out;clear HC16;replace H := Option.bind_eq_some_iff.mp H;obtain ⟨p4, A520, H⟩ := H;replace H : (if p4 = true then (laws_FnExactOpenBlock.j0 k m9 o9 (o9 != m9) a0_0 a0_1 l0_2 a1_0 a1_1 a1_2 f2 f3 d6 f9 g0 g2 f0 f1 d8) else (laws_FnExactOpenBlock.j0 k m9 o9 true a0_0 a0_1 l0_2 a1_0 a1_1 a1_2 f2 f3 d6 f9 g0 g2 f0 f1 d8)) = some r := H;have A52 := qa.mk A520;clear A520
   by_cases c53 : p4 = true
   ·subst c53
    have H1 : (laws_FnExactOpenBlock.j0 k m9 o9 (o9 != m9) a0_0 a0_1 l0_2 a1_0 a1_1 a1_2 f2 f3 d6 f9 g0 g2 f0 f1 d8) = some r := by rw [if_pos rfl] at H; exact H
    clear H;have H := H1;clear H1;have H' := qa.mk H;clear H;have hnb54 := m4.out;have hnc54 := g8.out;have hnb55 := m5.out;have hnc55 := f7.out;have hnb56 := m2.out;have hnc56 := g7.out;have hnb57 := m3.out;have hnc57 := f6.out;have hcz58_0 : w47.cell? ⟨b8, 0, none⟩ = some (.int .i64 0) := (qg b6.out 0).trans rfl;have hcz58_1 : w47.cell? ⟨b8, 1, none⟩ = some (.int .i64 0) := (qg b6.out 1).trans rfl;have hcz58_2 : w47.cell? ⟨b8, 2, none⟩ = some (.slice none 0 0) := (qg b6.out 2).trans rfl;have hfz58_0 := qj b6.out 0;have hfz58_1 := qj b6.out 1;have hfz58_2 := qj b6.out 2;have hnb59 := m8.out;have hnc59 := g1.out;have hnb60 := n0.out;have hnc60 := g4.out;have hnb61 := n9.out;have hnc61 := o8.out;have hcz62_0 : w47.cell? ⟨b9, 0, none⟩ = some (.int .i64 f2) := (qg b5.out 0).trans rfl;have hcz62_1 : w47.cell? ⟨b9, 1, none⟩ = some (.int .i64 f3) := (qg b5.out 1).trans rfl;have hcz62_2 : w47.cell? ⟨b9, 2, none⟩ = some (.slice Ao31 d6.length co31) := (qg b5.out 2).trans rfl;have hfz62_0 := qj b5.out 0;have hfz62_1 := qj b5.out 1;have hfz62_2 := qj b5.out 2
    go_wp2_with (first | ((with_reducible refine zb (f := 22) rfl ?_); refine zj (some 40) rfl rfl Try.func22 (by kernel_rfl) rfl #[.agg #[.int .i64 f0, .int .i64 f1, .slice Ao50 d8.length co50], .agg #[.int .i64 f2, .int .i64 f3, .slice Ao31 d6.length co31]] rfl (by (try simp only [List.map_toArray, List.map_cons, List.map_nil]); first | done | rfl | (simp only [List.length_drop, List.length_take]; rfl)) ?_; (with_reducible refine (laws_eqCity.calls k f0 f1 _ _ d8 f2 f3 _ _ d6 true _ ?side1 ?side2 ?side3 ?side4 A52.out).mono ?_); (case side1 => refine (Kd.za (e := 38) (base := w.heap.size) (ok := fun k_ => (some k_ ≠ (v235 : Value).ownBlock ∧ (some k_ ≠ (.slice Ao31 d6.length co31 : Value).ownBlock ∧ some k_ ≠ (.slice Ao41 g2.length co41 : Value).ownBlock))) (n := d8.length) (c := co50) ?_).2.2; exact (by (with_reducible repeat (first | apply Kd.qo | apply Kd.qp | apply Kd.qq)); exact (Kd.zc (Kd.R_far (p := ⟨b8, 2, none⟩) (Kd.R_far (p := ⟨b8, 1, none⟩) (Kd.R_far (p := ⟨b8, 0, none⟩) (Kd.zl o5.out b6.out (by decide)) (fun _ hk => hk.2) (.int .i64 f0)) (fun _ hk => hk.2) (.int .i64 f1)) (fun _ hk => hk.2) (.slice Ao50 d8.length co50)) (fun _ h_ => h_.1)))); (case side2 => exact (Kd.za o5.out).2.1); (case side3 => refine (Kd.za (e := 38) (base := w.heap.size) (ok := fun k_ => (some k_ ≠ (v235 : Value).ownBlock ∧ (some k_ ≠ (.slice Ao41 g2.length co41 : Value).ownBlock ∧ some k_ ≠ (.slice Ao50 d8.length co50 : Value).ownBlock))) (n := d6.length) (c := co31) ?_).2.2; exact (by (with_reducible repeat (first | apply Kd.qo | apply Kd.qp | apply Kd.qq)); exact (Kd.zc (Kd.R_far (p := ⟨b8, 2, none⟩) (Kd.R_far (p := ⟨b8, 1, none⟩) (Kd.R_far (p := ⟨b8, 0, none⟩) (Kd.zl g3.out b6.out (by decide)) (fun _ hk => hk.2) (.int .i64 f0)) (fun _ hk => hk.2) (.int .i64 f1)) (fun _ hk => hk.2) (.slice Ao50 d8.length co50)) (fun _ h_ => h_.1)))); (case side4 => exact (Kd.za g3.out).2.1); rintro e w63 ⟨rfl, hb⟩; refine ⟨_, rfl, ?_⟩; have n0_ := qa.mk (Kd.qz (by (with_reducible repeat (first | apply Kd.qo | apply Kd.qp | apply Kd.qq)); exact (Kd.zc (Kd.R_far (p := ⟨b8, 2, none⟩) (Kd.R_far (p := ⟨b8, 1, none⟩) (Kd.R_far (p := ⟨b8, 0, none⟩) (Kd.zl d9.out b6.out (by decide)) (fun _ hk => hk.2) (.int .i64 f0)) (fun _ hk => hk.2) (.int .i64 f1)) (fun _ hk => hk.2) (.slice Ao50 d8.length co50)) (fun _ h_ => h_.1))) hb); have n1_ := qa.mk (Kd.qz (by (with_reducible repeat (first | apply Kd.qo | apply Kd.qp | apply Kd.qq)); exact (Kd.zc (Kd.R_far (p := ⟨b8, 2, none⟩) (Kd.R_far (p := ⟨b8, 1, none⟩) (Kd.R_far (p := ⟨b8, 0, none⟩) (Kd.zl g3.out b6.out (by decide)) (fun _ hk => hk.2) (.int .i64 f0)) (fun _ hk => hk.2) (.int .i64 f1)) (fun _ hk => hk.2) (.slice Ao50 d8.length co50)) (fun _ h_ => h_.1))) hb); have n2_ := qa.mk (Kd.qz (by (with_reducible repeat (first | apply Kd.qo | apply Kd.qp | apply Kd.qq)); exact (Kd.zc (Kd.R_far (p := ⟨b8, 2, none⟩) (Kd.R_far (p := ⟨b8, 1, none⟩) (Kd.R_far (p := ⟨b8, 0, none⟩) (Kd.zl m0.out b6.out (by decide)) (fun _ hk => hk.2) (.int .i64 f0)) (fun _ hk => hk.2) (.int .i64 f1)) (fun _ hk => hk.2) (.slice Ao50 d8.length co50)) (fun _ h_ => h_.1))) hb); have n3_ := qa.mk (Kd.qz (by (with_reducible repeat (first | apply Kd.qo | apply Kd.qp | apply Kd.qq)); exact (Kd.zc (Kd.R_far (p := ⟨b8, 2, none⟩) (Kd.R_far (p := ⟨b8, 1, none⟩) (Kd.R_far (p := ⟨b8, 0, none⟩) (Kd.zl o5.out b6.out (by decide)) (fun _ hk => hk.2) (.int .i64 f0)) (fun _ hk => hk.2) (.int .i64 f1)) (fun _ hk => hk.2) (.slice Ao50 d8.length co50)) (fun _ h_ => h_.1))) hb); have n4_ := qa.mk (qk (g := d0) (o := .cells #[.int .i64 a0_0, .int .i64 a0_1, .slice A0_2 l0_2.length c0_2] 24 (0, 0)) (by (with_reducible repeat (first | refine qd ?_ _ | refine qf ?_ | refine qc ?_ _)); refine qw ?_ g8.out _; (with_reducible repeat (first | refine qd ?_ _ | refine qf ?_ | refine qc ?_ _)); refine qw ?_ g8.out _; (with_reducible repeat (first | refine qd ?_ _ | refine qf ?_ | refine qc ?_ _)); refine qw ?_ g8.out _; (with_reducible repeat (first | refine qd ?_ _ | refine qf ?_ | refine qc ?_ _)); exact b1.out) hb); have n5_ := qa.mk (qk (g := d1) (o := .cells #[.int .i64 a1_0, .int .i64 a1_1, .bool a1_2] 35 (0, 0)) (by (with_reducible repeat (first | refine qd ?_ _ | refine qf ?_ | refine qc ?_ _)); refine qw ?_ f7.out _; (with_reducible repeat (first | refine qd ?_ _ | refine qf ?_ | refine qc ?_ _)); refine qw ?_ f7.out _; (with_reducible repeat (first | refine qd ?_ _ | refine qf ?_ | refine qc ?_ _)); refine qw ?_ f7.out _; (with_reducible repeat (first | refine qd ?_ _ | refine qf ?_ | refine qc ?_ _)); exact b2.out) hb); have n6_ := qa.mk (qk (g := b9) (o := .cells #[.int .i64 f2, .int .i64 f3, .slice Ao31 d6.length co31] 30 (0, 0)) (by (with_reducible repeat (first | refine qd ?_ _ | refine qf ?_ | refine qc ?_ _)); refine qw ?_ g7.out _; (with_reducible repeat (first | refine qd ?_ _ | refine qf ?_ | refine qc ?_ _)); refine qw ?_ g7.out _; (with_reducible repeat (first | refine qd ?_ _ | refine qf ?_ | refine qc ?_ _)); refine qw ?_ g7.out _; (with_reducible repeat (first | refine qd ?_ _ | refine qf ?_ | refine qc ?_ _)); exact b5.out) hb); have n7_ := qa.mk (qk (g := d3) (o := .cells #[.int .i64 f9, .int .i64 g0, .slice Ao41 g2.length co41] 30 (0, 0)) (by (with_reducible repeat (first | refine qd ?_ _ | refine qf ?_ | refine qc ?_ _)); refine qw ?_ f6.out _; (with_reducible repeat (first | refine qd ?_ _ | refine qf ?_ | refine qc ?_ _)); refine qw ?_ f6.out _; (with_reducible repeat (first | refine qd ?_ _ | refine qf ?_ | refine qc ?_ _)); refine qw ?_ f6.out _; (with_reducible repeat (first | refine qd ?_ _ | refine qf ?_ | refine qc ?_ _)); exact b7.out) hb); have n8_ := qa.mk (qk (g := b8) (o := .cells #[.int .i64 f0, .int .i64 f1, .slice Ao50 d8.length co50] 30 (0, 0)) (by (with_reducible repeat (first | refine qd ?_ _ | refine qf ?_ | refine qc ?_ _)); refine zd (cs := #[.int .i64 f0, .int .i64 f1, .slice none 0 0]) ?_ 2 _ rfl; (with_reducible repeat (first | refine qd ?_ _ | refine qf ?_ | refine qc ?_ _)); refine zd (cs := #[.int .i64 f0, .int .i64 0, .slice none 0 0]) ?_ 1 _ rfl; (with_reducible repeat (first | refine qd ?_ _ | refine qf ?_ | refine qc ?_ _)); refine zd (cs := #[.int .i64 0, .int .i64 0, .slice none 0 0]) ?_ 0 _ rfl; (with_reducible repeat (first | refine qd ?_ _ | refine qf ?_ | refine qc ?_ _)); exact b6.out) hb); have n9_ := qa.mk (qn (be5_ HB d4 d5 d7 f4 f5) hb); clear d9; clear g3; clear m0; clear o5; clear b1; clear b2; clear b5; clear b7; clear b6; clear HB; have d9 := n0_; have g3 := n1_; have m0 := n2_; have o5 := n3_; have b1 := n4_; have b2 := n5_; have b5 := n6_; have b7 := n7_; have b6 := n8_; have HB := n9_; clear n0_ n1_ n2_ n3_ n4_ n5_ n6_ n7_ n8_ n9_; (try clear hb); (try clear hb2); (try clear hk); (try clear hi)))
    go_meet
    case rel => exact ⟨_, ((o9 != m9)), (by first | rfl | (simp; done) | (simp [*]; done)), H', ⟨by first | omega | exact Nat.le_refl _⟩, ⟨by (with_reducible repeat (first | apply Kd.qo | apply Kd.qp | apply Kd.qq)); exact Kd.zc g3.out (fun _ hk => ⟨hk.2.1, hk.2.2⟩)⟩, ⟨by (with_reducible repeat (first | apply Kd.qo | apply Kd.qp | apply Kd.qq)); exact Kd.zc m0.out (fun _ hk => ⟨hk.2.1, hk.2.2⟩)⟩, ⟨by (with_reducible repeat (first | apply Kd.qo | apply Kd.qp | apply Kd.qq)); exact Kd.zc o5.out (fun _ hk => ⟨hk.2.1, hk.2.2⟩)⟩, ⟨bk_ b1⟩, ⟨bk_ b2⟩, ⟨bk_ b5⟩, ⟨bk_ b7⟩, ⟨bk_ b6⟩, ⟨be5_ HB d4 d5 d7 f4 f5⟩⟩
   ·replace c53 := Bool.eq_false_iff.mpr c53
    subst c53;have H1 : (laws_FnExactOpenBlock.j0 k m9 o9 true a0_0 a0_1 l0_2 a1_0 a1_1 a1_2 f2 f3 d6 f9 g0 g2 f0 f1 d8) = some r := by rw [if_neg (show ¬ (false = true) by decide)] at H; exact H
    clear H;have H := H1;clear H1;have H' := qa.mk H;clear H;have hnb64 := m4.out;have hnc64 := g8.out;have hnb65 := m5.out;have hnc65 := f7.out;have hnb66 := m2.out;have hnc66 := g7.out;have hnb67 := m3.out;have hnc67 := f6.out;have hcz68_0 : w47.cell? ⟨b8, 0, none⟩ = some (.int .i64 0) := (qg b6.out 0).trans rfl;have hcz68_1 : w47.cell? ⟨b8, 1, none⟩ = some (.int .i64 0) := (qg b6.out 1).trans rfl;have hcz68_2 : w47.cell? ⟨b8, 2, none⟩ = some (.slice none 0 0) := (qg b6.out 2).trans rfl;have hfz68_0 := qj b6.out 0;have hfz68_1 := qj b6.out 1;have hfz68_2 := qj b6.out 2;have hnb69 := m8.out;have hnc69 := g1.out;have hnb70 := n0.out;have hnc70 := g4.out;have hnb71 := n9.out;have hnc71 := o8.out;have hcz72_0 : w47.cell? ⟨b9, 0, none⟩ = some (.int .i64 f2) := (qg b5.out 0).trans rfl;have hcz72_1 : w47.cell? ⟨b9, 1, none⟩ = some (.int .i64 f3) := (qg b5.out 1).trans rfl;have hcz72_2 : w47.cell? ⟨b9, 2, none⟩ = some (.slice Ao31 d6.length co31) := (qg b5.out 2).trans rfl;have hfz72_0 := qj b5.out 0;have hfz72_1 := qj b5.out 1;have hfz72_2 := qj b5.out 2
    go_wp2_with (first | ((with_reducible refine zb (f := 22) rfl ?_); refine zj (some 40) rfl rfl Try.func22 (by kernel_rfl) rfl #[.agg #[.int .i64 f0, .int .i64 f1, .slice Ao50 d8.length co50], .agg #[.int .i64 f2, .int .i64 f3, .slice Ao31 d6.length co31]] rfl (by (try simp only [List.map_toArray, List.map_cons, List.map_nil]); first | done | rfl | (simp only [List.length_drop, List.length_take]; rfl)) ?_; (with_reducible refine (laws_eqCity.calls k f0 f1 _ _ d8 f2 f3 _ _ d6 false _ ?side1 ?side2 ?side3 ?side4 A52.out).mono ?_); (case side1 => refine (Kd.za (e := 38) (base := w.heap.size) (ok := fun k_ => (some k_ ≠ (v235 : Value).ownBlock ∧ (some k_ ≠ (.slice Ao31 d6.length co31 : Value).ownBlock ∧ some k_ ≠ (.slice Ao41 g2.length co41 : Value).ownBlock))) (n := d8.length) (c := co50) ?_).2.2; exact (by (with_reducible repeat (first | apply Kd.qo | apply Kd.qp | apply Kd.qq)); exact (Kd.zc (Kd.R_far (p := ⟨b8, 2, none⟩) (Kd.R_far (p := ⟨b8, 1, none⟩) (Kd.R_far (p := ⟨b8, 0, none⟩) (Kd.zl o5.out b6.out (by decide)) (fun _ hk => hk.2) (.int .i64 f0)) (fun _ hk => hk.2) (.int .i64 f1)) (fun _ hk => hk.2) (.slice Ao50 d8.length co50)) (fun _ h_ => h_.1)))); (case side2 => exact (Kd.za o5.out).2.1); (case side3 => refine (Kd.za (e := 38) (base := w.heap.size) (ok := fun k_ => (some k_ ≠ (v235 : Value).ownBlock ∧ (some k_ ≠ (.slice Ao41 g2.length co41 : Value).ownBlock ∧ some k_ ≠ (.slice Ao50 d8.length co50 : Value).ownBlock))) (n := d6.length) (c := co31) ?_).2.2; exact (by (with_reducible repeat (first | apply Kd.qo | apply Kd.qp | apply Kd.qq)); exact (Kd.zc (Kd.R_far (p := ⟨b8, 2, none⟩) (Kd.R_far (p := ⟨b8, 1, none⟩) (Kd.R_far (p := ⟨b8, 0, none⟩) (Kd.zl g3.out b6.out (by decide)) (fun _ hk => hk.2) (.int .i64 f0)) (fun _ hk => hk.2) (.int .i64 f1)) (fun _ hk => hk.2) (.slice Ao50 d8.length co50)) (fun _ h_ => h_.1)))); (case side4 => exact (Kd.za g3.out).2.1); rintro e w73 ⟨rfl, hb⟩; refine ⟨_, rfl, ?_⟩; have n0_ := qa.mk (Kd.qz (by (with_reducible repeat (first | apply Kd.qo | apply Kd.qp | apply Kd.qq)); exact (Kd.zc (Kd.R_far (p := ⟨b8, 2, none⟩) (Kd.R_far (p := ⟨b8, 1, none⟩) (Kd.R_far (p := ⟨b8, 0, none⟩) (Kd.zl d9.out b6.out (by decide)) (fun _ hk => hk.2) (.int .i64 f0)) (fun _ hk => hk.2) (.int .i64 f1)) (fun _ hk => hk.2) (.slice Ao50 d8.length co50)) (fun _ h_ => h_.1))) hb); have n1_ := qa.mk (Kd.qz (by (with_reducible repeat (first | apply Kd.qo | apply Kd.qp | apply Kd.qq)); exact (Kd.zc (Kd.R_far (p := ⟨b8, 2, none⟩) (Kd.R_far (p := ⟨b8, 1, none⟩) (Kd.R_far (p := ⟨b8, 0, none⟩) (Kd.zl g3.out b6.out (by decide)) (fun _ hk => hk.2) (.int .i64 f0)) (fun _ hk => hk.2) (.int .i64 f1)) (fun _ hk => hk.2) (.slice Ao50 d8.length co50)) (fun _ h_ => h_.1))) hb); have n2_ := qa.mk (Kd.qz (by (with_reducible repeat (first | apply Kd.qo | apply Kd.qp | apply Kd.qq)); exact (Kd.zc (Kd.R_far (p := ⟨b8, 2, none⟩) (Kd.R_far (p := ⟨b8, 1, none⟩) (Kd.R_far (p := ⟨b8, 0, none⟩) (Kd.zl m0.out b6.out (by decide)) (fun _ hk => hk.2) (.int .i64 f0)) (fun _ hk => hk.2) (.int .i64 f1)) (fun _ hk => hk.2) (.slice Ao50 d8.length co50)) (fun _ h_ => h_.1))) hb); have n3_ := qa.mk (Kd.qz (by (with_reducible repeat (first | apply Kd.qo | apply Kd.qp | apply Kd.qq)); exact (Kd.zc (Kd.R_far (p := ⟨b8, 2, none⟩) (Kd.R_far (p := ⟨b8, 1, none⟩) (Kd.R_far (p := ⟨b8, 0, none⟩) (Kd.zl o5.out b6.out (by decide)) (fun _ hk => hk.2) (.int .i64 f0)) (fun _ hk => hk.2) (.int .i64 f1)) (fun _ hk => hk.2) (.slice Ao50 d8.length co50)) (fun _ h_ => h_.1))) hb); have n4_ := qa.mk (qk (g := d0) (o := .cells #[.int .i64 a0_0, .int .i64 a0_1, .slice A0_2 l0_2.length c0_2] 24 (0, 0)) (by (with_reducible repeat (first | refine qd ?_ _ | refine qf ?_ | refine qc ?_ _)); refine qw ?_ g8.out _; (with_reducible repeat (first | refine qd ?_ _ | refine qf ?_ | refine qc ?_ _)); refine qw ?_ g8.out _; (with_reducible repeat (first | refine qd ?_ _ | refine qf ?_ | refine qc ?_ _)); refine qw ?_ g8.out _; (with_reducible repeat (first | refine qd ?_ _ | refine qf ?_ | refine qc ?_ _)); exact b1.out) hb); have n5_ := qa.mk (qk (g := d1) (o := .cells #[.int .i64 a1_0, .int .i64 a1_1, .bool a1_2] 35 (0, 0)) (by (with_reducible repeat (first | refine qd ?_ _ | refine qf ?_ | refine qc ?_ _)); refine qw ?_ f7.out _; (with_reducible repeat (first | refine qd ?_ _ | refine qf ?_ | refine qc ?_ _)); refine qw ?_ f7.out _; (with_reducible repeat (first | refine qd ?_ _ | refine qf ?_ | refine qc ?_ _)); refine qw ?_ f7.out _; (with_reducible repeat (first | refine qd ?_ _ | refine qf ?_ | refine qc ?_ _)); exact b2.out) hb); have n6_ := qa.mk (qk (g := b9) (o := .cells #[.int .i64 f2, .int .i64 f3, .slice Ao31 d6.length co31] 30 (0, 0)) (by (with_reducible repeat (first | refine qd ?_ _ | refine qf ?_ | refine qc ?_ _)); refine qw ?_ g7.out _; (with_reducible repeat (first | refine qd ?_ _ | refine qf ?_ | refine qc ?_ _)); refine qw ?_ g7.out _; (with_reducible repeat (first | refine qd ?_ _ | refine qf ?_ | refine qc ?_ _)); refine qw ?_ g7.out _; (with_reducible repeat (first | refine qd ?_ _ | refine qf ?_ | refine qc ?_ _)); exact b5.out) hb); have n7_ := qa.mk (qk (g := d3) (o := .cells #[.int .i64 f9, .int .i64 g0, .slice Ao41 g2.length co41] 30 (0, 0)) (by (with_reducible repeat (first | refine qd ?_ _ | refine qf ?_ | refine qc ?_ _)); refine qw ?_ f6.out _; (with_reducible repeat (first | refine qd ?_ _ | refine qf ?_ | refine qc ?_ _)); refine qw ?_ f6.out _; (with_reducible repeat (first | refine qd ?_ _ | refine qf ?_ | refine qc ?_ _)); refine qw ?_ f6.out _; (with_reducible repeat (first | refine qd ?_ _ | refine qf ?_ | refine qc ?_ _)); exact b7.out) hb); have n8_ := qa.mk (qk (g := b8) (o := .cells #[.int .i64 f0, .int .i64 f1, .slice Ao50 d8.length co50] 30 (0, 0)) (by (with_reducible repeat (first | refine qd ?_ _ | refine qf ?_ | refine qc ?_ _)); refine zd (cs := #[.int .i64 f0, .int .i64 f1, .slice none 0 0]) ?_ 2 _ rfl; (with_reducible repeat (first | refine qd ?_ _ | refine qf ?_ | refine qc ?_ _)); refine zd (cs := #[.int .i64 f0, .int .i64 0, .slice none 0 0]) ?_ 1 _ rfl; (with_reducible repeat (first | refine qd ?_ _ | refine qf ?_ | refine qc ?_ _)); refine zd (cs := #[.int .i64 0, .int .i64 0, .slice none 0 0]) ?_ 0 _ rfl; (with_reducible repeat (first | refine qd ?_ _ | refine qf ?_ | refine qc ?_ _)); exact b6.out) hb); have n9_ := qa.mk (qn (be5_ HB d4 d5 d7 f4 f5) hb); clear d9; clear g3; clear m0; clear o5; clear b1; clear b2; clear b5; clear b7; clear b6; clear HB; have d9 := n0_; have g3 := n1_; have m0 := n2_; have o5 := n3_; have b1 := n4_; have b2 := n5_; have b5 := n6_; have b7 := n7_; have b6 := n8_; have HB := n9_; clear n0_ n1_ n2_ n3_ n4_ n5_ n6_ n7_ n8_ n9_; (try clear hb); (try clear hb2); (try clear hk); (try clear hi)))
    go_meet
    case rel => exact ⟨_, (true), (by first | rfl | (simp; done) | (simp [*]; done)), H', ⟨by first | omega | exact Nat.le_refl _⟩, ⟨by (with_reducible repeat (first | apply Kd.qo | apply Kd.qp | apply Kd.qq)); exact Kd.zc g3.out (fun _ hk => ⟨hk.2.1, hk.2.2⟩)⟩, ⟨by (with_reducible repeat (first | apply Kd.qo | apply Kd.qp | apply Kd.qq)); exact Kd.zc m0.out (fun _ hk => ⟨hk.2.1, hk.2.2⟩)⟩, ⟨by (with_reducible repeat (first | apply Kd.qo | apply Kd.qp | apply Kd.qq)); exact Kd.zc o5.out (fun _ hk => ⟨hk.2.1, hk.2.2⟩)⟩, ⟨bk_ b1⟩, ⟨bk_ b2⟩, ⟨bk_ b5⟩, ⟨bk_ b7⟩, ⟨bk_ b6⟩, ⟨be5_ HB d4 d5 d7 f4 f5⟩⟩
  case rest =>
   clear HC16;(try clear c53);(try clear hcz58_0);(try clear hcz58_1);(try clear hcz58_2);(try clear hcz62_0);(try clear hcz62_1);(try clear hcz62_2);(try clear hcz68_0);(try clear hcz68_1);(try clear hcz68_2);(try clear hcz72_0);(try clear hcz72_1);(try clear hcz72_2);(try clear hfz58_0);(try clear hfz58_1);(try clear hfz58_2);(try clear hfz62_0);(try clear hfz62_1);(try clear hfz62_2);(try clear hfz68_0);(try clear hfz68_1);(try clear hfz68_2);(try clear hfz72_0);(try clear hfz72_1);(try clear hfz72_2);obtain ⟨kq, x46_15, rfl, HA, HJ15, b4, b3, b0, b1, b2, b5, b7, b6, HB⟩ := hcut;cases kq with
   | zero => exact absurd HA.out (by simp [laws_FnExactOpenBlock.j0])
   | succ kj15 =>
    have H := HA.out;clear HA
    simp only [laws_FnExactOpenBlock.j0] at H
    by_cases c74 : x46_15 = true
    ·subst c74
     have H1 : (some false) = some r := by rw [if_pos rfl] at H; exact H
     clear H;have H := H1;clear H1;obtain rfl := Option.some.inj H
     go_wp2
     go_ret
     exact ⟨by first | rfl | (simp [qu, qt] <;> rfl) | (simp [*, qu, qt] <;> rfl), be5_ HB d4 d5 d7 f4 f5⟩
    ·replace c74 := Bool.eq_false_iff.mpr c74
     subst c74;have H1 : ((laws_toCity.f kj15 a0_0 a0_1 l0_2).bind fun bt264 => ((laws_eqCity.f kj15 f9 g0 g2 bt264.1 bt264.2.1 bt264.2.2).bind fun E4 => (if E4 = true then ((laws_markCity.f kj15 f9 g0 g2 1).bind fun bt270 => (if bt270.1 < 0 then (laws_FnExactOpenBlock.j1 kj15 m9 true a0_0 a0_1 l0_2 a1_0 a1_1 a1_2 f2 f3 d6 f0 f1 d8) else ((laws_eqCity.f kj15 f0 f1 d8 f2 f3 d6).bind fun D2 => (if D2 = true then (laws_FnExactOpenBlock.j1 kj15 m9 (o9 != m9) a0_0 a0_1 l0_2 a1_0 a1_1 a1_2 f2 f3 d6 f0 f1 d8) else (laws_FnExactOpenBlock.j1 kj15 m9 true a0_0 a0_1 l0_2 a1_0 a1_1 a1_2 f2 f3 d6 f0 f1 d8))))) else (some false)))) = some r := by rw [if_neg (show ¬ (false = true) by decide)] at H; exact H
     clear H;have H := H1;clear H1;replace H := Option.bind_eq_some_iff.mp H;obtain ⟨⟨E2, E3, E0⟩, A750, H⟩ := H;replace H : ((laws_eqCity.f kj15 f9 g0 g2 E2 E3 E0).bind fun E4 => (if E4 = true then ((laws_markCity.f kj15 f9 g0 g2 1).bind fun bt270 => (if bt270.1 < 0 then (laws_FnExactOpenBlock.j1 kj15 m9 true a0_0 a0_1 l0_2 a1_0 a1_1 a1_2 f2 f3 d6 f0 f1 d8) else ((laws_eqCity.f kj15 f0 f1 d8 f2 f3 d6).bind fun D2 => (if D2 = true then (laws_FnExactOpenBlock.j1 kj15 m9 (o9 != m9) a0_0 a0_1 l0_2 a1_0 a1_1 a1_2 f2 f3 d6 f0 f1 d8) else (laws_FnExactOpenBlock.j1 kj15 m9 true a0_0 a0_1 l0_2 a1_0 a1_1 a1_2 f2 f3 d6 f0 f1 d8))))) else (some false))) = some r := H;have A75 := qa.mk A750;clear A750;replace H := Option.bind_eq_some_iff.mp H;obtain ⟨E4, A760, H⟩ := H;replace H : (if E4 = true then ((laws_markCity.f kj15 f9 g0 g2 1).bind fun bt270 => (if bt270.1 < 0 then (laws_FnExactOpenBlock.j1 kj15 m9 true a0_0 a0_1 l0_2 a1_0 a1_1 a1_2 f2 f3 d6 f0 f1 d8) else ((laws_eqCity.f kj15 f0 f1 d8 f2 f3 d6).bind fun D2 => (if D2 = true then (laws_FnExactOpenBlock.j1 kj15 m9 (o9 != m9) a0_0 a0_1 l0_2 a1_0 a1_1 a1_2 f2 f3 d6 f0 f1 d8) else (laws_FnExactOpenBlock.j1 kj15 m9 true a0_0 a0_1 l0_2 a1_0 a1_1 a1_2 f2 f3 d6 f0 f1 d8))))) else (some false)) = some r := H;have A76 := qa.mk A760;clear A760
     by_cases c77 : E4 = true
     ·subst c77
      have H1 : ((laws_markCity.f kj15 f9 g0 g2 1).bind fun bt270 => (if bt270.1 < 0 then (laws_FnExactOpenBlock.j1 kj15 m9 true a0_0 a0_1 l0_2 a1_0 a1_1 a1_2 f2 f3 d6 f0 f1 d8) else ((laws_eqCity.f kj15 f0 f1 d8 f2 f3 d6).bind fun D2 => (if D2 = true then (laws_FnExactOpenBlock.j1 kj15 m9 (o9 != m9) a0_0 a0_1 l0_2 a1_0 a1_1 a1_2 f2 f3 d6 f0 f1 d8) else (laws_FnExactOpenBlock.j1 kj15 m9 true a0_0 a0_1 l0_2 a1_0 a1_1 a1_2 f2 f3 d6 f0 f1 d8))))) = some r := by rw [if_pos rfl] at H; exact H
      clear H;have H := H1;clear H1;replace H := Option.bind_eq_some_iff.mp H;obtain ⟨⟨E5, n2⟩, A780, H⟩ := H;replace H : (if E5 < 0 then (laws_FnExactOpenBlock.j1 kj15 m9 true a0_0 a0_1 l0_2 a1_0 a1_1 a1_2 f2 f3 d6 f0 f1 d8) else ((laws_eqCity.f kj15 f0 f1 d8 f2 f3 d6).bind fun D2 => (if D2 = true then (laws_FnExactOpenBlock.j1 kj15 m9 (o9 != m9) a0_0 a0_1 l0_2 a1_0 a1_1 a1_2 f2 f3 d6 f0 f1 d8) else (laws_FnExactOpenBlock.j1 kj15 m9 true a0_0 a0_1 l0_2 a1_0 a1_1 a1_2 f2 f3 d6 f0 f1 d8)))) = some r := H;have A78 := qa.mk A780;clear A780;have HC79 := qa.mk H;clear H
      try go_wp2
      have n0_ := qa.mk (Kd.qq b4.out);have n1_ := qa.mk (Kd.qq b3.out);have n2_ := qa.mk (Kd.qq b0.out);have n3_ := qa.mk (qf b1.out);have n4_ := qa.mk (qf b2.out);have n5_ := qa.mk (qf b5.out);have n6_ := qa.mk (qf b7.out);have n7_ := qa.mk (qf b6.out);have n8_ := qa.mk (qh HB.out);clear b4;clear b3;clear b0;clear b1;clear b2;clear b5;clear b7;clear b6;clear HB;have b4 := n0_;have b3 := n1_;have b0 := n2_;have b1 := n3_;have b2 := n4_;have b5 := n5_;have b7 := n6_;have b6 := n7_;have HB := n8_;clear n0_ n1_ n2_ n3_ n4_ n5_ n6_ n7_ n8_
      refine start_ (n := 5) (S := fun w' => w'.cell? ⟨d3, 0, none⟩ = some (.int .i64 f9) ∧ w'.cell? ⟨d3, 1, none⟩ = some (.int .i64 g0) ∧ w'.cell? ⟨d3, 2, none⟩ = some (.slice Ao41 g2.length co41) ∧ w'.cell? ⟨d0, 0, none⟩ = some (.int .i64 a0_0) ∧ w'.cell? ⟨d0, 1, none⟩ = some (.int .i64 a0_1) ∧ w'.cell? ⟨d0, 2, none⟩ = some (.slice A0_2 l0_2.length c0_2)) (ds := []) #[false, false, false, false, false] (by kernel_rfl) rfl rfl ⟨(qg b7.out 0).trans rfl, (qg b7.out 1).trans rfl, (qg b7.out 2).trans rfl, (qg b1.out 0).trans rfl, (qg b1.out 1).trans rfl, (qg b1.out 2).trans rfl⟩ (fun hHeld => ?_)
      generalize wc.drew = w80 at b4 b3 b0 b1 b2 b5 b7 b6 HB hHeld ⊢
      refine take_ (i := 0) (N := some 47) (v := ?_) (a' := ?_) #[true, false, false, false, false] rfl rfl (by kernel_rfl) (fun _ _ _ h => h) (Or.inl ⟨by rfl, ?_⟩) hHeld ?_ ?_
      rotate_left
      ·rintro w' ⟨s0, s1, s2, s3, s4, s5⟩
       go_simp
       with_reducible rfl
      rotate_left
      ·simp only [Act.put, sA_, sB_, sC_, i64_w, i32_w]
       rfl
      refine take_ (i := 1) (N := some 48) (v := ?_) (a' := ?_) #[true, true, false, false, false] rfl rfl (by kernel_rfl) (fun _ _ _ h => h) (Or.inl ⟨by rfl, ?_⟩) hHeld ?_ ?_
      rotate_left
      ·rintro w' ⟨s0, s1, s2, s3, s4, s5⟩
       go_simp
       with_reducible rfl
      rotate_left
      ·simp only [Act.put, sA_, sB_, sC_, i64_w, i32_w]
       rfl
      refine one_ (i := 2) (N := some 49) #[true, true, true, false, false] rfl rfl (by kernel_rfl) (by decide) (fun K hK => ?_)
      refine goes_ Try.func20 (by kernel_rfl) rfl #[.agg #[.int .i64 a0_0, .int .i64 a0_1, .slice A0_2 l0_2.length c0_2]] (by rfl) rfl rfl (by (try simp only [List.map_toArray, List.map_cons, List.map_nil]); first | done | rfl | (simp only [List.length_drop, List.length_take]; rfl)) ?_
      with_reducible refine (laws_toCity.calls kj15 a0_0 a0_1 _ _ l0_2 E2 E3 E0 _ ?side1 ?side2 A75.out).mono ?_
      (case side1 => repeat (first | exact (Kd.zm HR0_2.out HB.out) | (with_reducible refine Kd.zg ?_ _) | (with_reducible refine Kd.zf ?_ _) | (with_reducible refine Kd.zi ?_)))
      (case side2 => exact HC0_2.out)
      rintro e w81 ⟨v267, rfl, ho0, hb⟩
      refine ⟨_, rfl, ?_⟩
      have n0_ := qa.mk (Kd.zh (kr_ b4) (Kd.zo ho0) hb);have n1_ := qa.mk (Kd.zh (kr_ b3) (Kd.zo ho0) hb);have n2_ := qa.mk (Kd.zh (kr_ b0) (Kd.zo ho0) hb);have n3_ := qa.mk (Kd.zt (Kd.zp (Kd.zp (Kd.zp ho0 (Kd.R_lt (kr_ b4))) (Kd.R_lt (kr_ b3))) (Kd.R_lt (kr_ b0))) (qm (be5_ HB d4 d5 d7 f4 f5)));have n4_ := qa.mk (qk (g := d0) (o := .cells #[.int .i64 a0_0, .int .i64 a0_1, .slice A0_2 l0_2.length c0_2] 24 (0, 0)) (bk_ b1) hb);have n5_ := qa.mk (qk (g := d1) (o := .cells #[.int .i64 a1_0, .int .i64 a1_1, .bool a1_2] 35 (0, 0)) (bk_ b2) hb);have n6_ := qa.mk (qk (g := b9) (o := .cells #[.int .i64 f2, .int .i64 f3, .slice Ao31 d6.length co31] 30 (0, 0)) (bk_ b5) hb);have n7_ := qa.mk (qk (g := d3) (o := .cells #[.int .i64 f9, .int .i64 g0, .slice Ao41 g2.length co41] 30 (0, 0)) (bk_ b7) hb);have n8_ := qa.mk (qk (g := b8) (o := .cells #[.int .i64 f0, .int .i64 f1, .slice Ao50 d8.length co50] 30 (0, 0)) (bk_ b6) hb);have n9_ := qa.mk (qn (be5_ HB d4 d5 d7 f4 f5) hb);clear b4;clear b3;clear b0;clear b1;clear b2;clear b5;clear b7;clear b6;clear HB;have b4 := n0_;have b3 := n1_;have b0 := n2_;have o6 := n3_;have b1 := n4_;have b2 := n5_;have b5 := n6_;have b7 := n7_;have b6 := n8_;have HB := n9_;clear n0_ n1_ n2_ n3_ n4_ n5_ n6_ n7_ n8_ n9_
      (try clear hb)
      (try clear hb2)
      (try clear hk)
      (try clear hi)
      (try clear ho0)
      obtain ⟨Ao82, co82, eo82⟩ := Kd.zr o6.out
      (first | subst eo82 | (injection eo82 with f1_ f2_ f3_; have f4_ := f1_.symm; have f5_ := f3_.symm; clear f1_ f2_ f3_; subst f4_; subst f5_))
      refine hK.out _ _ ⟨(qg b7.out 0).trans rfl, (qg b7.out 1).trans rfl, (qg b7.out 2).trans rfl, (qg b1.out 0).trans rfl, (qg b1.out 1).trans rfl, (qg b1.out 2).trans rfl⟩ (fun hHeld => ?_)
      clear hK K
      refine norm_ (a' := ?_) ?_ ?_
      rotate_left
      ·show Act.put _ (some 49) _ = _
       simp only [Act.put, sA_, sB_, sC_, i64_w, i32_w]
       rfl
      refine one_ (i := 3) (N := some 50) #[true, true, true, true, false] rfl rfl (by kernel_rfl) (by decide) (fun K hK => ?_)
      refine goes_ Try.func22 (by kernel_rfl) rfl #[.agg #[.int .i64 f9, .int .i64 g0, .slice Ao41 g2.length co41], .agg #[.int .i64 E2, .int .i64 E3, .slice Ao82 E0.length co82]] (by rfl) rfl rfl (by (try simp only [List.map_toArray, List.map_cons, List.map_nil]); first | done | rfl | (simp only [List.length_drop, List.length_take]; rfl)) ?_
      with_reducible refine (laws_eqCity.calls kj15 f9 g0 _ _ g2 E2 E3 _ _ E0 true _ ?side1 ?side2 ?side3 ?side4 A76.out).mono ?_
      (case side1 => repeat (first | exact (Kd.za b3.out).2.2 | (with_reducible refine Kd.zg ?_ _) | (with_reducible refine Kd.zf ?_ _) | (with_reducible refine Kd.zi ?_)))
      (case side2 => exact (Kd.za b3.out).2.1)
      (case side3 => repeat (first | exact (Kd.za o6.out).2.2 | (with_reducible refine Kd.zg ?_ _) | (with_reducible refine Kd.zf ?_ _) | (with_reducible refine Kd.zi ?_)))
      (case side4 => exact (Kd.za o6.out).2.1)
      rintro e w83 ⟨rfl, hb⟩
      refine ⟨_, rfl, ?_⟩
      have n0_ := qa.mk (Kd.qz (kr_ b4) hb);have n1_ := qa.mk (Kd.qz (kr_ b3) hb);have n2_ := qa.mk (Kd.qz (kr_ b0) hb);have n3_ := qa.mk (Kd.qz (kr_ o6) hb);have n4_ := qa.mk (qk (g := d0) (o := .cells #[.int .i64 a0_0, .int .i64 a0_1, .slice A0_2 l0_2.length c0_2] 24 (0, 0)) (bk_ b1) hb);have n5_ := qa.mk (qk (g := d1) (o := .cells #[.int .i64 a1_0, .int .i64 a1_1, .bool a1_2] 35 (0, 0)) (bk_ b2) hb);have n6_ := qa.mk (qk (g := b9) (o := .cells #[.int .i64 f2, .int .i64 f3, .slice Ao31 d6.length co31] 30 (0, 0)) (bk_ b5) hb);have n7_ := qa.mk (qk (g := d3) (o := .cells #[.int .i64 f9, .int .i64 g0, .slice Ao41 g2.length co41] 30 (0, 0)) (bk_ b7) hb);have n8_ := qa.mk (qk (g := b8) (o := .cells #[.int .i64 f0, .int .i64 f1, .slice Ao50 d8.length co50] 30 (0, 0)) (bk_ b6) hb);have n9_ := qa.mk (qn (be5_ HB d4 d5 d7 f4 f5) hb);clear b4;clear b3;clear b0;clear o6;clear b1;clear b2;clear b5;clear b7;clear b6;clear HB;have b4 := n0_;have b3 := n1_;have b0 := n2_;have o6 := n3_;have b1 := n4_;have b2 := n5_;have b5 := n6_;have b7 := n7_;have b6 := n8_;have HB := n9_;clear n0_ n1_ n2_ n3_ n4_ n5_ n6_ n7_ n8_ n9_
      (try clear hb)
      (try clear hb2)
      (try clear hk)
      (try clear hi)
      refine hK.out _ _ ⟨(qg b7.out 0).trans rfl, (qg b7.out 1).trans rfl, (qg b7.out 2).trans rfl, (qg b1.out 0).trans rfl, (qg b1.out 1).trans rfl, (qg b1.out 2).trans rfl⟩ (fun hHeld => ?_)
      clear hK K
      refine norm_ (a' := ?_) ?_ ?_
      rotate_left
      ·show Act.put _ (some 50) _ = _
       simp only [Act.put, sA_, sB_, sC_, i64_w, i32_w]
       rfl
      refine pure_ (i := 4) (N := some 51) (v := ?_) (a' := ?_) #[true, true, true, true, true] rfl rfl (by kernel_rfl) (fun _ _ _ h => h) (Or.inl ⟨by rfl, ?_⟩) ?_ ?_
      rotate_left
      ·intro w'
       go_simp
       with_reducible rfl
      rotate_left
      ·simp only [Act.put, sA_, sB_, sC_, i64_w, i32_w]
       rfl
      refine done_ (by kernel_rfl) ?_
      have hnb84 := D7.out;have hnc84 := p1.out;have hnb85 := D8.out;have hnc85 := p2.out;have hnb86 := o8.out;have hnc86 := n9.out;have hnb87 := f6.out;have hnc87 := m3.out;have hcz88_0 : w83.cell? ⟨d3, 0, none⟩ = some (.int .i64 f9) := (qg b7.out 0).trans rfl;have hcz88_1 : w83.cell? ⟨d3, 1, none⟩ = some (.int .i64 g0) := (qg b7.out 1).trans rfl;have hcz88_2 : w83.cell? ⟨d3, 2, none⟩ = some (.slice Ao41 g2.length co41) := (qg b7.out 2).trans rfl;have hfz88_0 := qj b7.out 0;have hfz88_1 := qj b7.out 1;have hfz88_2 := qj b7.out 2
      go_upto_region 14 with (first | ((with_reducible refine zb (f := 26) rfl ?_); refine zj (some 54) rfl rfl Try.func26 (by kernel_rfl) rfl #[.agg #[.int .i64 f9, .int .i64 g0, .slice Ao41 g2.length co41], .int .i64 1] rfl (by (try simp only [List.map_toArray, List.map_cons, List.map_nil]); first | done | rfl | (simp only [List.length_drop, List.length_take]; rfl)) ?_; (with_reducible refine (laws_markCity.calls kj15 f9 g0 (fun k_ => some k_ = (.slice Ao41 g2.length co41 : Value).ownBlock) (.slice Ao41 g2.length co41) g2 1 E5 n2 w _ ?side1 ?side2 A78.out).mono ?_); (case side1 => repeat (first | (with_reducible first | exact HB.out | apply qi | apply qe | apply qh | refine qb ?_ d4.out | refine qb ?_ d5.out | refine qb ?_ d7.out | refine qb ?_ f4.out | refine qb ?_ f5.out) | exact HB.out)); (case side2 => exact Kd.R_tight rfl b3.out); rintro e w89 ⟨rfl, hy0, hb, hkp⟩; refine ⟨_, rfl, ?_⟩; have n0_ := qa.mk (Kd.zc (ok' := fun k_ => some k_ ≠ (.slice Ao41 g2.length co41 : Value).ownBlock ∧ some k_ ≠ (.slice Ao50 d8.length co50 : Value).ownBlock ∧ some k_ ≠ (.slice Ao82 E0.length co82 : Value).ownBlock) (Kd.R_keptB (b4.out) hkp (fun k_ hk_ hs_ => (hk_.1.1) hs_)) (fun k_ hk_ => ⟨hk_.1.1.1, hk_.1.1.2, hk_.1.2⟩)); have n1_ := qa.mk (Kd.R_reok rfl hy0 (fun k_ e_ => b3.out.1 k_ e_)); have n2_ := qa.mk (Kd.zc (ok' := fun k_ => some k_ ≠ (.slice Ao31 d6.length co31 : Value).ownBlock ∧ some k_ ≠ (.slice Ao41 g2.length co41 : Value).ownBlock ∧ some k_ ≠ (.slice Ao82 E0.length co82 : Value).ownBlock) (Kd.R_keptB (b0.out) hkp (fun k_ hk_ hs_ => (hk_.1.2) hs_)) (fun k_ hk_ => ⟨hk_.1.1.1, hk_.1.1.2, hk_.1.2⟩)); have n3_ := qa.mk (zv (bk_ b1) hkp (fun hs_ => (fun e_ => (Kd.R_ne b3.out b1.out (by decide)) e_) hs_)); have n4_ := qa.mk (zv (bk_ b2) hkp (fun hs_ => (fun e_ => (Kd.R_ne b3.out b2.out (by decide)) e_) hs_)); have n5_ := qa.mk (zv (bk_ b5) hkp (fun hs_ => (fun e_ => (Kd.R_ne b3.out b5.out (by decide)) e_) hs_)); have n6_ := qa.mk (zv (bk_ b7) hkp (fun hs_ => (fun e_ => (Kd.R_ne b3.out b7.out (by decide)) e_) hs_)); have n7_ := qa.mk (zv (bk_ b6) hkp (fun hs_ => (fun e_ => (Kd.R_ne b3.out b6.out (by decide)) e_) hs_)); have n8_ := qa.mk (Kd.zc (ok' := fun k_ => some k_ ≠ (.slice Ao31 d6.length co31 : Value).ownBlock ∧ some k_ ≠ (.slice Ao41 g2.length co41 : Value).ownBlock ∧ some k_ ≠ (.slice Ao50 d8.length co50 : Value).ownBlock) (Kd.R_keptB (o6.out) hkp (fun k_ hk_ hs_ => (hk_.1.2) hs_)) (fun k_ hk_ => ⟨hk_.1.1.1.2, hk_.1.1.2, hk_.1.2⟩)); have n9_ := qa.mk (hb); clear b4; clear b3; clear b0; clear b1; clear b2; clear b5; clear b7; clear b6; clear o6; clear HB; have b4 := n0_; have b3 := n1_; have b0 := n2_; have b1 := n3_; have b2 := n4_; have b5 := n5_; have b7 := n6_; have b6 := n7_; have o6 := n8_; have HB := n9_; clear n0_ n1_ n2_ n3_ n4_ n5_ n6_ n7_ n8_ n9_; (try clear hb); (try clear hkp); (try clear hy0)))
      (try simp only [Act.put, sA_, sB_, sC_])
      go_cut [67] (fun v67 wc => ∃ (kq : Nat) (x67_78 : Bool), v67 = .bool x67_78 ∧ qa (laws_FnExactOpenBlock.j1 kq m9 x67_78 a0_0 a0_1 l0_2 a1_0 a1_1 a1_2 f2 f3 d6 f0 f1 d8 = some r) ∧ qa (kq ≤ kj15) ∧ qa (Kd.R k38 38 wc w.heap.size (fun k_ => some k_ ≠ ((.slice Ao41 g2.length co41) : Value).ownBlock ∧ some k_ ≠ ((.slice Ao50 d8.length co50) : Value).ownBlock) (.slice Ao31 d6.length co31) d6) ∧ qa (Kd.R k38 38 wc w.heap.size (fun k_ => some k_ ≠ ((.slice Ao31 d6.length co31) : Value).ownBlock ∧ some k_ ≠ ((.slice Ao50 d8.length co50) : Value).ownBlock) (.slice Ao41 g2.length co41) n2) ∧ qa (Kd.R k38 38 wc w.heap.size (fun k_ => some k_ ≠ ((.slice Ao31 d6.length co31) : Value).ownBlock ∧ some k_ ≠ ((.slice Ao41 g2.length co41) : Value).ownBlock) (.slice Ao50 d8.length co50) d8) ∧ qa (wc.heap[d0]? = some (.cells #[.int .i64 a0_0, .int .i64 a0_1, (.slice A0_2 l0_2.length c0_2)] 24 (0, 0))) ∧ qa (wc.heap[d1]? = some (.cells #[.int .i64 a1_0, .int .i64 a1_1, .bool a1_2] 35 (0, 0))) ∧ qa (wc.heap[b9]? = some (.cells #[.int .i64 f2, .int .i64 f3, (.slice Ao31 d6.length co31)] 30 (0, 0))) ∧ qa (wc.heap[d3]? = some (.cells #[.int .i64 f9, .int .i64 g0, (.slice Ao41 g2.length co41)] 30 (0, 0))) ∧ qa (wc.heap[b8]? = some (.cells #[.int .i64 f0, .int .i64 f1, (.slice Ao50 d8.length co50)] 30 (0, 0))) ∧ qa (Below w.heap.size w wc))
      case first =>
       have H := HC79.out;clear HC79
       by_cases c90 : E5 < 0
       ·rw [if_pos c90] at H
        have c90b0 : decide (E5 < 0) = true := decide_eq_true c90;clear c90
        (first | rw [c90b0] | (simp only [i64_w, i32_w]; rw [c90b0]) | skip)
        have H' := qa.mk H;clear H
        go_wp2
        go_meet
        case rel => exact ⟨_, (true), (by first | rfl | (simp; done) | (simp [*]; done)), H', ⟨by have := HJ15.out; first | omega | exact Nat.le_refl _⟩, ⟨by (with_reducible repeat (first | apply Kd.qo | apply Kd.qp | apply Kd.qq)); exact Kd.zc b4.out (fun _ hk => ⟨hk.1, hk.2.1⟩)⟩, ⟨by (with_reducible repeat (first | apply Kd.qo | apply Kd.qp | apply Kd.qq)); exact Kd.zc b3.out (fun _ hk => ⟨hk.1.1, hk.1.2⟩)⟩, ⟨by (with_reducible repeat (first | apply Kd.qo | apply Kd.qp | apply Kd.qq)); exact Kd.zc b0.out (fun _ hk => ⟨hk.1, hk.2.1⟩)⟩, ⟨bk_ b1⟩, ⟨bk_ b2⟩, ⟨bk_ b5⟩, ⟨bk_ b7⟩, ⟨bk_ b6⟩, ⟨be5_ HB d4 d5 d7 f4 f5⟩⟩
       ·rw [if_neg c90] at H
        have c90b0 : decide (E5 < 0) = false := decide_eq_false c90;clear c90
        (first | rw [c90b0] | (simp only [i64_w, i32_w]; rw [c90b0]) | skip)
        replace H := Option.bind_eq_some_iff.mp H;obtain ⟨D2, A910, H⟩ := H;replace H : (if D2 = true then (laws_FnExactOpenBlock.j1 kj15 m9 (o9 != m9) a0_0 a0_1 l0_2 a1_0 a1_1 a1_2 f2 f3 d6 f0 f1 d8) else (laws_FnExactOpenBlock.j1 kj15 m9 true a0_0 a0_1 l0_2 a1_0 a1_1 a1_2 f2 f3 d6 f0 f1 d8)) = some r := H;have A91 := qa.mk A910;clear A910
        by_cases c92 : D2 = true
        ·subst c92
         have H1 : (laws_FnExactOpenBlock.j1 kj15 m9 (o9 != m9) a0_0 a0_1 l0_2 a1_0 a1_1 a1_2 f2 f3 d6 f0 f1 d8) = some r := by rw [if_pos rfl] at H; exact H
         clear H;have H := H1;clear H1;have H' := qa.mk H;clear H;have hnb93 := m4.out;have hnc93 := g8.out;have hnb94 := m5.out;have hnc94 := f7.out;have hnb95 := m2.out;have hnc95 := g7.out;have hnb96 := m3.out;have hnc96 := f6.out;have hcz97_0 : w89.cell? ⟨b8, 0, none⟩ = some (.int .i64 f0) := (qg b6.out 0).trans rfl;have hcz97_1 : w89.cell? ⟨b8, 1, none⟩ = some (.int .i64 f1) := (qg b6.out 1).trans rfl;have hcz97_2 : w89.cell? ⟨b8, 2, none⟩ = some (.slice Ao50 d8.length co50) := (qg b6.out 2).trans rfl;have hfz97_0 := qj b6.out 0;have hfz97_1 := qj b6.out 1;have hfz97_2 := qj b6.out 2;have hnb98 := m8.out;have hnc98 := g1.out;have hnb99 := n0.out;have hnc99 := g4.out;have hnb100 := n9.out;have hnc100 := o8.out;have hcz101_0 : w89.cell? ⟨b9, 0, none⟩ = some (.int .i64 f2) := (qg b5.out 0).trans rfl;have hcz101_1 : w89.cell? ⟨b9, 1, none⟩ = some (.int .i64 f3) := (qg b5.out 1).trans rfl;have hcz101_2 : w89.cell? ⟨b9, 2, none⟩ = some (.slice Ao31 d6.length co31) := (qg b5.out 2).trans rfl;have hfz101_0 := qj b5.out 0;have hfz101_1 := qj b5.out 1;have hfz101_2 := qj b5.out 2
         go_wp2_with (first | (go_at_call 22; (with_reducible refine (laws_eqCity.calls kj15 f0 f1 _ _ d8 f2 f3 _ _ d6 true _ ?side1 ?side2 ?side3 ?side4 A91.out).mono ?_); (case side1 => repeat (first | exact (Kd.za b0.out).2.2 | (with_reducible refine Kd.zg ?_ _) | (with_reducible refine Kd.zf ?_ _) | (with_reducible refine Kd.zi ?_))); (case side2 => exact (Kd.za b0.out).2.1); (case side3 => repeat (first | exact (Kd.za b4.out).2.2 | (with_reducible refine Kd.zg ?_ _) | (with_reducible refine Kd.zf ?_ _) | (with_reducible refine Kd.zi ?_))); (case side4 => exact (Kd.za b4.out).2.1); rintro e w102 ⟨rfl, hb⟩; have n0_ := qa.mk (Kd.qz (kr_ b4) hb); have n1_ := qa.mk (Kd.qz (kr_ b3) hb); have n2_ := qa.mk (Kd.qz (kr_ b0) hb); have n3_ := qa.mk (Kd.qz (kr_ o6) hb); have n4_ := qa.mk (qk (g := d0) (o := .cells #[.int .i64 a0_0, .int .i64 a0_1, .slice A0_2 l0_2.length c0_2] 24 (0, 0)) (bk_ b1) hb); have n5_ := qa.mk (qk (g := d1) (o := .cells #[.int .i64 a1_0, .int .i64 a1_1, .bool a1_2] 35 (0, 0)) (bk_ b2) hb); have n6_ := qa.mk (qk (g := b9) (o := .cells #[.int .i64 f2, .int .i64 f3, .slice Ao31 d6.length co31] 30 (0, 0)) (bk_ b5) hb); have n7_ := qa.mk (qk (g := d3) (o := .cells #[.int .i64 f9, .int .i64 g0, .slice Ao41 g2.length co41] 30 (0, 0)) (bk_ b7) hb); have n8_ := qa.mk (qk (g := b8) (o := .cells #[.int .i64 f0, .int .i64 f1, .slice Ao50 d8.length co50] 30 (0, 0)) (bk_ b6) hb); have n9_ := qa.mk (qn (be5_ HB d4 d5 d7 f4 f5) hb); clear b4; clear b3; clear b0; clear o6; clear b1; clear b2; clear b5; clear b7; clear b6; clear HB; have b4 := n0_; have b3 := n1_; have b0 := n2_; have o6 := n3_; have b1 := n4_; have b2 := n5_; have b5 := n6_; have b7 := n7_; have b6 := n8_; have HB := n9_; clear n0_ n1_ n2_ n3_ n4_ n5_ n6_ n7_ n8_ n9_; (try clear hb); (try clear hb2); (try clear hk); (try clear hi)))
         go_meet
         case rel => exact ⟨_, ((o9 != m9)), (by first | rfl | (simp; done) | (simp [*]; done)), H', ⟨by have := HJ15.out; first | omega | exact Nat.le_refl _⟩, ⟨by (with_reducible repeat (first | apply Kd.qo | apply Kd.qp | apply Kd.qq)); exact Kd.zc b4.out (fun _ hk => ⟨hk.1, hk.2.1⟩)⟩, ⟨by (with_reducible repeat (first | apply Kd.qo | apply Kd.qp | apply Kd.qq)); exact Kd.zc b3.out (fun _ hk => ⟨hk.1.1, hk.1.2⟩)⟩, ⟨by (with_reducible repeat (first | apply Kd.qo | apply Kd.qp | apply Kd.qq)); exact Kd.zc b0.out (fun _ hk => ⟨hk.1, hk.2.1⟩)⟩, ⟨bk_ b1⟩, ⟨bk_ b2⟩, ⟨bk_ b5⟩, ⟨bk_ b7⟩, ⟨bk_ b6⟩, ⟨be5_ HB d4 d5 d7 f4 f5⟩⟩
        ·replace c92 := Bool.eq_false_iff.mpr c92
         subst c92;have H1 : (laws_FnExactOpenBlock.j1 kj15 m9 true a0_0 a0_1 l0_2 a1_0 a1_1 a1_2 f2 f3 d6 f0 f1 d8) = some r := by rw [if_neg (show ¬ (false = true) by decide)] at H; exact H
         clear H;have H := H1;clear H1;have H' := qa.mk H;clear H;have hnb103 := m4.out;have hnc103 := g8.out;have hnb104 := m5.out;have hnc104 := f7.out;have hnb105 := m2.out;have hnc105 := g7.out;have hnb106 := m3.out;have hnc106 := f6.out;have hcz107_0 : w89.cell? ⟨b8, 0, none⟩ = some (.int .i64 f0) := (qg b6.out 0).trans rfl;have hcz107_1 : w89.cell? ⟨b8, 1, none⟩ = some (.int .i64 f1) := (qg b6.out 1).trans rfl;have hcz107_2 : w89.cell? ⟨b8, 2, none⟩ = some (.slice Ao50 d8.length co50) := (qg b6.out 2).trans rfl;have hfz107_0 := qj b6.out 0;have hfz107_1 := qj b6.out 1;have hfz107_2 := qj b6.out 2;have hnb108 := m8.out;have hnc108 := g1.out;have hnb109 := n0.out;have hnc109 := g4.out;have hnb110 := n9.out;have hnc110 := o8.out;have hcz111_0 : w89.cell? ⟨b9, 0, none⟩ = some (.int .i64 f2) := (qg b5.out 0).trans rfl;have hcz111_1 : w89.cell? ⟨b9, 1, none⟩ = some (.int .i64 f3) := (qg b5.out 1).trans rfl;have hcz111_2 : w89.cell? ⟨b9, 2, none⟩ = some (.slice Ao31 d6.length co31) := (qg b5.out 2).trans rfl;have hfz111_0 := qj b5.out 0;have hfz111_1 := qj b5.out 1;have hfz111_2 := qj b5.out 2
         go_wp2_with (first | (go_at_call 22; (with_reducible refine (laws_eqCity.calls kj15 f0 f1 _ _ d8 f2 f3 _ _ d6 false _ ?side1 ?side2 ?side3 ?side4 A91.out).mono ?_); (case side1 => repeat (first | exact (Kd.za b0.out).2.2 | (with_reducible refine Kd.zg ?_ _) | (with_reducible refine Kd.zf ?_ _) | (with_reducible refine Kd.zi ?_))); (case side2 => exact (Kd.za b0.out).2.1); (case side3 => repeat (first | exact (Kd.za b4.out).2.2 | (with_reducible refine Kd.zg ?_ _) | (with_reducible refine Kd.zf ?_ _) | (with_reducible refine Kd.zi ?_))); (case side4 => exact (Kd.za b4.out).2.1); rintro e w112 ⟨rfl, hb⟩; have n0_ := qa.mk (Kd.qz (kr_ b4) hb); have n1_ := qa.mk (Kd.qz (kr_ b3) hb); have n2_ := qa.mk (Kd.qz (kr_ b0) hb); have n3_ := qa.mk (Kd.qz (kr_ o6) hb); have n4_ := qa.mk (qk (g := d0) (o := .cells #[.int .i64 a0_0, .int .i64 a0_1, .slice A0_2 l0_2.length c0_2] 24 (0, 0)) (bk_ b1) hb); have n5_ := qa.mk (qk (g := d1) (o := .cells #[.int .i64 a1_0, .int .i64 a1_1, .bool a1_2] 35 (0, 0)) (bk_ b2) hb); have n6_ := qa.mk (qk (g := b9) (o := .cells #[.int .i64 f2, .int .i64 f3, .slice Ao31 d6.length co31] 30 (0, 0)) (bk_ b5) hb); have n7_ := qa.mk (qk (g := d3) (o := .cells #[.int .i64 f9, .int .i64 g0, .slice Ao41 g2.length co41] 30 (0, 0)) (bk_ b7) hb); have n8_ := qa.mk (qk (g := b8) (o := .cells #[.int .i64 f0, .int .i64 f1, .slice Ao50 d8.length co50] 30 (0, 0)) (bk_ b6) hb); have n9_ := qa.mk (qn (be5_ HB d4 d5 d7 f4 f5) hb); clear b4; clear b3; clear b0; clear o6; clear b1; clear b2; clear b5; clear b7; clear b6; clear HB; have b4 := n0_; have b3 := n1_; have b0 := n2_; have o6 := n3_; have b1 := n4_; have b2 := n5_; have b5 := n6_; have b7 := n7_; have b6 := n8_; have HB := n9_; clear n0_ n1_ n2_ n3_ n4_ n5_ n6_ n7_ n8_ n9_; (try clear hb); (try clear hb2); (try clear hk); (try clear hi)))
         go_meet
         case rel => exact ⟨_, (true), (by first | rfl | (simp; done) | (simp [*]; done)), H', ⟨by have := HJ15.out; first | omega | exact Nat.le_refl _⟩, ⟨by (with_reducible repeat (first | apply Kd.qo | apply Kd.qp | apply Kd.qq)); exact Kd.zc b4.out (fun _ hk => ⟨hk.1, hk.2.1⟩)⟩, ⟨by (with_reducible repeat (first | apply Kd.qo | apply Kd.qp | apply Kd.qq)); exact Kd.zc b3.out (fun _ hk => ⟨hk.1.1, hk.1.2⟩)⟩, ⟨by (with_reducible repeat (first | apply Kd.qo | apply Kd.qp | apply Kd.qq)); exact Kd.zc b0.out (fun _ hk => ⟨hk.1, hk.2.1⟩)⟩, ⟨bk_ b1⟩, ⟨bk_ b2⟩, ⟨bk_ b5⟩, ⟨bk_ b7⟩, ⟨bk_ b6⟩, ⟨be5_ HB d4 d5 d7 f4 f5⟩⟩
      case rest =>
       clear HC79;(try clear c53);(try clear c74);(try clear c77);(try clear c90);(try clear c90b0);(try clear c92);(try clear hcz101_0);(try clear hcz101_1);(try clear hcz101_2);(try clear hcz107_0);(try clear hcz107_1);(try clear hcz107_2);(try clear hcz111_0);(try clear hcz111_1);(try clear hcz111_2);(try clear hcz58_0);(try clear hcz58_1);(try clear hcz58_2);(try clear hcz62_0);(try clear hcz62_1);(try clear hcz62_2);(try clear hcz68_0);(try clear hcz68_1);(try clear hcz68_2);(try clear hcz72_0);(try clear hcz72_1);(try clear hcz72_2);(try clear hcz88_0);(try clear hcz88_1);(try clear hcz88_2);(try clear hcz97_0);(try clear hcz97_1);(try clear hcz97_2);(try clear hfz101_0);(try clear hfz101_1);(try clear hfz101_2);(try clear hfz107_0);(try clear hfz107_1);(try clear hfz107_2);(try clear hfz111_0);(try clear hfz111_1);(try clear hfz111_2);(try clear hfz58_0);(try clear hfz58_1);(try clear hfz58_2);(try clear hfz62_0);(try clear hfz62_1);(try clear hfz62_2);(try clear hfz68_0);(try clear hfz68_1);(try clear hfz68_2);(try clear hfz72_0);(try clear hfz72_1);(try clear hfz72_2);(try clear hfz88_0);(try clear hfz88_1);(try clear hfz88_2);(try clear hfz97_0);(try clear hfz97_1);(try clear hfz97_2);obtain ⟨kq, x67_78, rfl, HA, HJ78, b4, b3, b0, b1, b2, b5, b7, b6, HB⟩ := hcut;have hl253002_78 := (Kd.za b3.out).1;rw [hl253002_78] at b3
       (try simp only [hl253002_78])
       (try simp only [hl253002_78] at b1)
       (try simp only [hl253002_78] at b2)
       (try simp only [hl253002_78] at b5)
       (try simp only [hl253002_78] at b7)
       (try simp only [hl253002_78] at b6)
       (try simp only [hl253002_78] at b4)
       (try simp only [hl253002_78] at b0)
       cases kq with
       | zero => exact absurd HA.out (by simp [laws_FnExactOpenBlock.j1])
       | succ kj78 =>
        have H := HA.out;clear HA
        simp only [laws_FnExactOpenBlock.j1] at H
        by_cases c113 : x67_78 = true
        ·subst c113
         have H1 : (some false) = some r := by rw [if_pos rfl] at H; exact H
         clear H;have H := H1;clear H1;obtain rfl := Option.some.inj H
         go_wp2
         go_ret
         exact ⟨by first | rfl | (simp [qu, qt] <;> rfl) | (simp [*, qu, qt] <;> rfl), be5_ HB d4 d5 d7 f4 f5⟩
        ·replace c113 := Bool.eq_false_iff.mpr c113
         subst c113;have H1 : ((laws_markCity.f kj78 f0 f1 d8 1).bind fun bt273 => ((laws_heldCity.f kj78 f0 f1 bt273.2 1).bind fun p3 => (if p3 < 0 then (some false) else (if p3 = bt273.1 then ((laws_toCity.f kj78 a0_0 a0_1 l0_2).bind fun bt276 => ((laws_toBlock.f a1_0 a1_1 a1_2).bind fun bt281 => ((impl_OpenBlock.f kj78 bt276.1 bt276.2.1 bt276.2.2 bt281.1 bt281.2.1 bt281.2.2).bind fun bt284 => ((laws_eqCity.f kj78 bt284.1 bt284.2.1 bt284.2.2.1 f2 f3 d6).bind fun p7 => (if p7 = true then (laws_FnExactOpenBlock.j2 kj78 bt273.1 (bt284.2.2.2 != m9) f0 f1 bt273.2) else (laws_FnExactOpenBlock.j2 kj78 bt273.1 true f0 f1 bt273.2)))))) else (some false))))) = some r := by rw [if_neg (show ¬ (false = true) by decide)] at H; exact H
         clear H;have H := H1;clear H1;replace H := Option.bind_eq_some_iff.mp H;obtain ⟨⟨o7, n8⟩, A1140, H⟩ := H;replace H : ((laws_heldCity.f kj78 f0 f1 n8 1).bind fun p3 => (if p3 < 0 then (some false) else (if p3 = o7 then ((laws_toCity.f kj78 a0_0 a0_1 l0_2).bind fun bt276 => ((laws_toBlock.f a1_0 a1_1 a1_2).bind fun bt281 => ((impl_OpenBlock.f kj78 bt276.1 bt276.2.1 bt276.2.2 bt281.1 bt281.2.1 bt281.2.2).bind fun bt284 => ((laws_eqCity.f kj78 bt284.1 bt284.2.1 bt284.2.2.1 f2 f3 d6).bind fun p7 => (if p7 = true then (laws_FnExactOpenBlock.j2 kj78 o7 (bt284.2.2.2 != m9) f0 f1 n8) else (laws_FnExactOpenBlock.j2 kj78 o7 true f0 f1 n8)))))) else (some false)))) = some r := H;have A114 := qa.mk A1140;clear A1140;replace H := Option.bind_eq_some_iff.mp H;obtain ⟨p3, A1150, H⟩ := H;replace H : (if p3 < 0 then (some false) else (if p3 = o7 then ((laws_toCity.f kj78 a0_0 a0_1 l0_2).bind fun bt276 => ((laws_toBlock.f a1_0 a1_1 a1_2).bind fun bt281 => ((impl_OpenBlock.f kj78 bt276.1 bt276.2.1 bt276.2.2 bt281.1 bt281.2.1 bt281.2.2).bind fun bt284 => ((laws_eqCity.f kj78 bt284.1 bt284.2.1 bt284.2.2.1 f2 f3 d6).bind fun p7 => (if p7 = true then (laws_FnExactOpenBlock.j2 kj78 o7 (bt284.2.2.2 != m9) f0 f1 n8) else (laws_FnExactOpenBlock.j2 kj78 o7 true f0 f1 n8)))))) else (some false))) = some r := H;have A115 := qa.mk A1150;clear A1150
         by_cases c116 : p3 < 0
         ·rw [if_pos c116] at H
          have c116b0 : decide (p3 < 0) = true := decide_eq_true c116;clear c116;obtain rfl := Option.some.inj H;have hnb117 := m4.out;have hnc117 := g8.out;have hnb118 := m5.out;have hnc118 := f7.out;have hnb119 := m2.out;have hnc119 := g7.out;have hnb120 := m3.out;have hnc120 := f6.out;have hcz121_0 : wc.cell? ⟨b8, 0, none⟩ = some (.int .i64 f0) := (qg b6.out 0).trans rfl;have hcz121_1 : wc.cell? ⟨b8, 1, none⟩ = some (.int .i64 f1) := (qg b6.out 1).trans rfl;have hcz121_2 : wc.cell? ⟨b8, 2, none⟩ = some (.slice Ao50 d8.length co50) := (qg b6.out 2).trans rfl;have hfz121_0 := qj b6.out 0;have hfz121_1 := qj b6.out 1;have hfz121_2 := qj b6.out 2
          go_wp2_with (first | ((with_reducible refine zb (f := 26) rfl ?_); refine zj (some 70) rfl rfl Try.func26 (by kernel_rfl) rfl #[.agg #[.int .i64 f0, .int .i64 f1, .slice Ao50 d8.length co50], .int .i64 1] rfl (by (try simp only [List.map_toArray, List.map_cons, List.map_nil]); first | done | rfl | (simp only [List.length_drop, List.length_take]; rfl)) ?_; (with_reducible refine (laws_markCity.calls kj78 f0 f1 (fun k_ => some k_ = (.slice Ao50 d8.length co50 : Value).ownBlock) (.slice Ao50 d8.length co50) d8 1 o7 n8 w _ ?side1 ?side2 A114.out).mono ?_); (case side1 => repeat (first | (with_reducible first | exact HB.out | apply qi | apply qe | apply qh | refine qb ?_ d4.out | refine qb ?_ d5.out | refine qb ?_ d7.out | refine qb ?_ f4.out | refine qb ?_ f5.out) | exact HB.out)); (case side2 => exact Kd.R_tight rfl b0.out); rintro e w122 ⟨rfl, hy0, hb, hkp⟩; refine ⟨_, rfl, ?_⟩; have n0_ := qa.mk (Kd.zc (ok' := fun k_ => some k_ ≠ (.slice Ao41 n2.length co41 : Value).ownBlock ∧ some k_ ≠ (.slice Ao50 d8.length co50 : Value).ownBlock) (Kd.R_keptB (b4.out) hkp (fun k_ hk_ hs_ => (hk_.2) hs_)) (fun k_ hk_ => ⟨hk_.1.1, hk_.1.2⟩)); have n1_ := qa.mk (Kd.zc (ok' := fun k_ => some k_ ≠ (.slice Ao31 d6.length co31 : Value).ownBlock ∧ some k_ ≠ (.slice Ao50 d8.length co50 : Value).ownBlock) (Kd.R_keptB (b3.out) hkp (fun k_ hk_ hs_ => (hk_.2) hs_)) (fun k_ hk_ => ⟨hk_.1.1, hk_.1.2⟩)); have n2_ := qa.mk (Kd.R_reok rfl hy0 (fun k_ e_ => b0.out.1 k_ e_)); have n3_ := qa.mk (zv (bk_ b1) hkp (fun hs_ => (fun e_ => (Kd.R_ne b0.out b1.out (by decide)) e_) hs_)); have n4_ := qa.mk (zv (bk_ b2) hkp (fun hs_ => (fun e_ => (Kd.R_ne b0.out b2.out (by decide)) e_) hs_)); have n5_ := qa.mk (zv (bk_ b5) hkp (fun hs_ => (fun e_ => (Kd.R_ne b0.out b5.out (by decide)) e_) hs_)); have n6_ := qa.mk (zv (bk_ b7) hkp (fun hs_ => (fun e_ => (Kd.R_ne b0.out b7.out (by decide)) e_) hs_)); have n7_ := qa.mk (zv (bk_ b6) hkp (fun hs_ => (fun e_ => (Kd.R_ne b0.out b6.out (by decide)) e_) hs_)); have n8_ := qa.mk (hb); clear b4; clear b3; clear b0; clear b1; clear b2; clear b5; clear b7; clear b6; clear HB; have b4 := n0_; have b3 := n1_; have b0 := n2_; have b1 := n3_; have b2 := n4_; have b5 := n5_; have b7 := n6_; have b6 := n7_; have HB := n8_; clear n0_ n1_ n2_ n3_ n4_ n5_ n6_ n7_ n8_; (try clear hb); (try clear hkp); (try clear hy0); have hcz123_0 : w122.cell? ⟨b8, 0, none⟩ = some (.int .i64 f0) := (qg b6.out 0).trans rfl; have hcz123_1 : w122.cell? ⟨b8, 1, none⟩ = some (.int .i64 f1) := (qg b6.out 1).trans rfl; have hcz123_2 : w122.cell? ⟨b8, 2, none⟩ = some (.slice Ao50 d8.length co50) := (qg b6.out 2).trans rfl; have hfz123_0 := qj b6.out 0; have hfz123_1 := qj b6.out 1; have hfz123_2 := qj b6.out 2) | ((with_reducible refine zb (f := 27) rfl ?_); refine zj (some 73) rfl rfl Try.func27 (by kernel_rfl) rfl #[.agg #[.int .i64 f0, .int .i64 f1, .slice Ao50 n8.length co50], .int .i64 1] rfl (by (try simp only [List.map_toArray, List.map_cons, List.map_nil]); first | done | (rw [show n8.length = d8.length from (Kd.za b0.out).1.symm] <;> rfl) | rfl | (simp only [List.length_drop, List.length_take]; rfl)) ?_; (with_reducible refine (laws_heldCity.calls kj78 f0 f1 _ _ n8 1 p3 _ ?side1 ?side2 A115.out).mono ?_); (case side1 => repeat (first | exact (Kd.za b0.out).2.2 | (with_reducible refine Kd.zg ?_ _) | (with_reducible refine Kd.zf ?_ _) | (with_reducible refine Kd.zi ?_))); (case side2 => rw [show n8.length = d8.length from (Kd.za b0.out).1.symm]; exact (Kd.za b0.out).2.1); rintro e w124 ⟨rfl, hb⟩; refine ⟨_, rfl, ?_⟩; have n0_ := qa.mk (Kd.qz (kr_ b4) hb); have n1_ := qa.mk (Kd.qz (kr_ b3) hb); have n2_ := qa.mk (Kd.qz (kr_ b0) hb); have n3_ := qa.mk (qk (g := d0) (o := .cells #[.int .i64 a0_0, .int .i64 a0_1, .slice A0_2 l0_2.length c0_2] 24 (0, 0)) (bk_ b1) hb); have n4_ := qa.mk (qk (g := d1) (o := .cells #[.int .i64 a1_0, .int .i64 a1_1, .bool a1_2] 35 (0, 0)) (bk_ b2) hb); have n5_ := qa.mk (qk (g := b9) (o := .cells #[.int .i64 f2, .int .i64 f3, .slice Ao31 d6.length co31] 30 (0, 0)) (bk_ b5) hb); have n6_ := qa.mk (qk (g := d3) (o := .cells #[.int .i64 f9, .int .i64 g0, .slice Ao41 n2.length co41] 30 (0, 0)) (bk_ b7) hb); have n7_ := qa.mk (qk (g := b8) (o := .cells #[.int .i64 f0, .int .i64 f1, .slice Ao50 d8.length co50] 30 (0, 0)) (bk_ b6) hb); have n8_ := qa.mk (qn (be5_ HB d4 d5 d7 f4 f5) hb); clear b4; clear b3; clear b0; clear b1; clear b2; clear b5; clear b7; clear b6; clear HB; have b4 := n0_; have b3 := n1_; have b0 := n2_; have b1 := n3_; have b2 := n4_; have b5 := n5_; have b7 := n6_; have b6 := n7_; have HB := n8_; clear n0_ n1_ n2_ n3_ n4_ n5_ n6_ n7_ n8_; (try clear hb); (try clear hb2); (try clear hk); (try clear hi)))
          go_ret
          exact ⟨by first | rfl | (simp [qu, qt] <;> rfl) | (simp [*, qu, qt] <;> rfl), be5_ HB d4 d5 d7 f4 f5⟩
         ·rw [if_neg c116] at H
          have c116b0 : decide (p3 < 0) = false := decide_eq_false c116;clear c116
          by_cases c125 : p3 = o7
          ·rw [if_pos c125] at H
           have c125b0 : (p3 == o7) = true := beq_iff_eq.mpr c125;have c125b1 : (p3 != o7) = false := bne_eq_false_iff_eq.mpr c125;clear c125;replace H := Option.bind_eq_some_iff.mp H;obtain ⟨⟨B5, B6, p5⟩, A1260, H⟩ := H;replace H : ((laws_toBlock.f a1_0 a1_1 a1_2).bind fun bt281 => ((impl_OpenBlock.f kj78 B5 B6 p5 bt281.1 bt281.2.1 bt281.2.2).bind fun bt284 => ((laws_eqCity.f kj78 bt284.1 bt284.2.1 bt284.2.2.1 f2 f3 d6).bind fun p7 => (if p7 = true then (laws_FnExactOpenBlock.j2 kj78 o7 (bt284.2.2.2 != m9) f0 f1 n8) else (laws_FnExactOpenBlock.j2 kj78 o7 true f0 f1 n8))))) = some r := H;have A126 := qa.mk A1260;clear A1260;replace H := Option.bind_eq_some_iff.mp H;obtain ⟨⟨B7, B8, B9⟩, A1270, H⟩ := H;replace H : ((impl_OpenBlock.f kj78 B5 B6 p5 B7 B8 B9).bind fun bt284 => ((laws_eqCity.f kj78 bt284.1 bt284.2.1 bt284.2.2.1 f2 f3 d6).bind fun p7 => (if p7 = true then (laws_FnExactOpenBlock.j2 kj78 o7 (bt284.2.2.2 != m9) f0 f1 n8) else (laws_FnExactOpenBlock.j2 kj78 o7 true f0 f1 n8)))) = some r := H;have A127 := qa.mk A1270;clear A1270;replace H := Option.bind_eq_some_iff.mp H;obtain ⟨⟨o3, o4, o0, D3⟩, A1280, H⟩ := H;replace H : ((laws_eqCity.f kj78 o3 o4 o0 f2 f3 d6).bind fun p7 => (if p7 = true then (laws_FnExactOpenBlock.j2 kj78 o7 (D3 != m9) f0 f1 n8) else (laws_FnExactOpenBlock.j2 kj78 o7 true f0 f1 n8))) = some r := H;have A128 := qa.mk A1280;clear A1280;have HC129 := qa.mk H;clear H;have hnb130 := m4.out;have hnc130 := g8.out;have hnb131 := m5.out;have hnc131 := f7.out;have hnb132 := m2.out;have hnc132 := g7.out;have hnb133 := m3.out;have hnc133 := f6.out;have hcz134_0 : wc.cell? ⟨b8, 0, none⟩ = some (.int .i64 f0) := (qg b6.out 0).trans rfl;have hcz134_1 : wc.cell? ⟨b8, 1, none⟩ = some (.int .i64 f1) := (qg b6.out 1).trans rfl;have hcz134_2 : wc.cell? ⟨b8, 2, none⟩ = some (.slice Ao50 d8.length co50) := (qg b6.out 2).trans rfl;have hfz134_0 := qj b6.out 0;have hfz134_1 := qj b6.out 1;have hfz134_2 := qj b6.out 2
           try go_wp2_with (first | ((with_reducible refine zb (f := 26) rfl ?_); refine zj (some 70) rfl rfl Try.func26 (by kernel_rfl) rfl #[.agg #[.int .i64 f0, .int .i64 f1, .slice Ao50 d8.length co50], .int .i64 1] rfl (by (try simp only [List.map_toArray, List.map_cons, List.map_nil]); first | done | rfl | (simp only [List.length_drop, List.length_take]; rfl)) ?_; (with_reducible refine (laws_markCity.calls kj78 f0 f1 (fun k_ => some k_ = (.slice Ao50 d8.length co50 : Value).ownBlock) (.slice Ao50 d8.length co50) d8 1 o7 n8 w _ ?side1 ?side2 A114.out).mono ?_); (case side1 => repeat (first | (with_reducible first | exact HB.out | apply qi | apply qe | apply qh | refine qb ?_ d4.out | refine qb ?_ d5.out | refine qb ?_ d7.out | refine qb ?_ f4.out | refine qb ?_ f5.out) | exact HB.out)); (case side2 => exact Kd.R_tight rfl b0.out); rintro e w135 ⟨rfl, hy0, hb, hkp⟩; refine ⟨_, rfl, ?_⟩; have n0_ := qa.mk (Kd.zc (ok' := fun k_ => some k_ ≠ (.slice Ao41 n2.length co41 : Value).ownBlock ∧ some k_ ≠ (.slice Ao50 d8.length co50 : Value).ownBlock) (Kd.R_keptB (b4.out) hkp (fun k_ hk_ hs_ => (hk_.2) hs_)) (fun k_ hk_ => ⟨hk_.1.1, hk_.1.2⟩)); have n1_ := qa.mk (Kd.zc (ok' := fun k_ => some k_ ≠ (.slice Ao31 d6.length co31 : Value).ownBlock ∧ some k_ ≠ (.slice Ao50 d8.length co50 : Value).ownBlock) (Kd.R_keptB (b3.out) hkp (fun k_ hk_ hs_ => (hk_.2) hs_)) (fun k_ hk_ => ⟨hk_.1.1, hk_.1.2⟩)); have n2_ := qa.mk (Kd.R_reok rfl hy0 (fun k_ e_ => b0.out.1 k_ e_)); have n3_ := qa.mk (zv (bk_ b1) hkp (fun hs_ => (fun e_ => (Kd.R_ne b0.out b1.out (by decide)) e_) hs_)); have n4_ := qa.mk (zv (bk_ b2) hkp (fun hs_ => (fun e_ => (Kd.R_ne b0.out b2.out (by decide)) e_) hs_)); have n5_ := qa.mk (zv (bk_ b5) hkp (fun hs_ => (fun e_ => (Kd.R_ne b0.out b5.out (by decide)) e_) hs_)); have n6_ := qa.mk (zv (bk_ b7) hkp (fun hs_ => (fun e_ => (Kd.R_ne b0.out b7.out (by decide)) e_) hs_)); have n7_ := qa.mk (zv (bk_ b6) hkp (fun hs_ => (fun e_ => (Kd.R_ne b0.out b6.out (by decide)) e_) hs_)); have n8_ := qa.mk (hb); clear b4; clear b3; clear b0; clear b1; clear b2; clear b5; clear b7; clear b6; clear HB; have b4 := n0_; have b3 := n1_; have b0 := n2_; have b1 := n3_; have b2 := n4_; have b5 := n5_; have b7 := n6_; have b6 := n7_; have HB := n8_; clear n0_ n1_ n2_ n3_ n4_ n5_ n6_ n7_ n8_; (try clear hb); (try clear hkp); (try clear hy0); have hcz136_0 : w135.cell? ⟨b8, 0, none⟩ = some (.int .i64 f0) := (qg b6.out 0).trans rfl; have hcz136_1 : w135.cell? ⟨b8, 1, none⟩ = some (.int .i64 f1) := (qg b6.out 1).trans rfl; have hcz136_2 : w135.cell? ⟨b8, 2, none⟩ = some (.slice Ao50 d8.length co50) := (qg b6.out 2).trans rfl; have hfz136_0 := qj b6.out 0; have hfz136_1 := qj b6.out 1; have hfz136_2 := qj b6.out 2) | ((with_reducible refine zb (f := 27) rfl ?_); refine zj (some 73) rfl rfl Try.func27 (by kernel_rfl) rfl #[.agg #[.int .i64 f0, .int .i64 f1, .slice Ao50 n8.length co50], .int .i64 1] rfl (by (try simp only [List.map_toArray, List.map_cons, List.map_nil]); first | done | (rw [show n8.length = d8.length from (Kd.za b0.out).1.symm] <;> rfl) | rfl | (simp only [List.length_drop, List.length_take]; rfl)) ?_; (with_reducible refine (laws_heldCity.calls kj78 f0 f1 _ _ n8 1 p3 _ ?side1 ?side2 A115.out).mono ?_); (case side1 => repeat (first | exact (Kd.za b0.out).2.2 | (with_reducible refine Kd.zg ?_ _) | (with_reducible refine Kd.zf ?_ _) | (with_reducible refine Kd.zi ?_))); (case side2 => rw [show n8.length = d8.length from (Kd.za b0.out).1.symm]; exact (Kd.za b0.out).2.1); rintro e w137 ⟨rfl, hb⟩; refine ⟨_, rfl, ?_⟩; have n0_ := qa.mk (Kd.qz (kr_ b4) hb); have n1_ := qa.mk (Kd.qz (kr_ b3) hb); have n2_ := qa.mk (Kd.qz (kr_ b0) hb); have n3_ := qa.mk (qk (g := d0) (o := .cells #[.int .i64 a0_0, .int .i64 a0_1, .slice A0_2 l0_2.length c0_2] 24 (0, 0)) (bk_ b1) hb); have n4_ := qa.mk (qk (g := d1) (o := .cells #[.int .i64 a1_0, .int .i64 a1_1, .bool a1_2] 35 (0, 0)) (bk_ b2) hb); have n5_ := qa.mk (qk (g := b9) (o := .cells #[.int .i64 f2, .int .i64 f3, .slice Ao31 d6.length co31] 30 (0, 0)) (bk_ b5) hb); have n6_ := qa.mk (qk (g := d3) (o := .cells #[.int .i64 f9, .int .i64 g0, .slice Ao41 n2.length co41] 30 (0, 0)) (bk_ b7) hb); have n7_ := qa.mk (qk (g := b8) (o := .cells #[.int .i64 f0, .int .i64 f1, .slice Ao50 d8.length co50] 30 (0, 0)) (bk_ b6) hb); have n8_ := qa.mk (qn (be5_ HB d4 d5 d7 f4 f5) hb); clear b4; clear b3; clear b0; clear b1; clear b2; clear b5; clear b7; clear b6; clear HB; have b4 := n0_; have b3 := n1_; have b0 := n2_; have b1 := n3_; have b2 := n4_; have b5 := n5_; have b7 := n6_; have b6 := n7_; have HB := n8_; clear n0_ n1_ n2_ n3_ n4_ n5_ n6_ n7_ n8_; (try clear hb); (try clear hb2); (try clear hk); (try clear hi)))
           have n0_ := qa.mk (Kd.qq b4.out);have n1_ := qa.mk (Kd.qq b3.out);have n2_ := qa.mk (Kd.qq b0.out);have n3_ := qa.mk (qf b1.out);have n4_ := qa.mk (qf b2.out);have n5_ := qa.mk (qf b5.out);have n6_ := qa.mk (qf b7.out);have n7_ := qa.mk (qf b6.out);have n8_ := qa.mk (qh HB.out);clear b4;clear b3;clear b0;clear b1;clear b2;clear b5;clear b7;clear b6;clear HB;have b4 := n0_;have b3 := n1_;have b0 := n2_;have b1 := n3_;have b2 := n4_;have b5 := n5_;have b7 := n6_;have b6 := n7_;have HB := n8_;clear n0_ n1_ n2_ n3_ n4_ n5_ n6_ n7_ n8_
           refine start_ (n := 11) (S := fun w' => w'.cell? ⟨d0, 0, none⟩ = some (.int .i64 a0_0) ∧ w'.cell? ⟨d0, 1, none⟩ = some (.int .i64 a0_1) ∧ w'.cell? ⟨d0, 2, none⟩ = some (.slice A0_2 l0_2.length c0_2) ∧ w'.cell? ⟨d1, 0, none⟩ = some (.int .i64 a1_0) ∧ w'.cell? ⟨d1, 1, none⟩ = some (.int .i64 a1_1) ∧ w'.cell? ⟨d1, 2, none⟩ = some (.bool a1_2)) (ds := []) #[false, false, false, false, false, false, false, false, false, false, false] (by kernel_rfl) rfl rfl ⟨(qg b1.out 0).trans rfl, (qg b1.out 1).trans rfl, (qg b1.out 2).trans rfl, (qg b2.out 0).trans rfl, (qg b2.out 1).trans rfl, (qg b2.out 2).trans rfl⟩ (fun hHeld => ?_); refine with_tabW laws_FnExactOpenBlock.tab24 laws_FnExactOpenBlock.bits24 (fun HT_ HW_ => ?_)
           generalize w137.drew = w138 at b4 b3 b0 b1 b2 b5 b7 b6 HB hHeld ⊢
           refine take_ (i := 0) (N := some 80) (v := ?_) (a' := ?_) #[true, false, false, false, false, false, false, false, false, false, false] rfl rfl (ze HT_.out HW_.out (by kernel_rfl)) (fun _ _ _ h => h) (Or.inl ⟨by rfl, ?_⟩) hHeld ?_ ?_
           rotate_left
           ·rintro w' ⟨s0, s1, s2, s3, s4, s5⟩
            go_simp
            with_reducible rfl
           rotate_left
           ·simp only [Act.put, sA_, sB_, sC_, i64_w, i32_w]
            rfl
           refine take_ (i := 2) (N := some 82) (v := ?_) (a' := ?_) #[true, false, true, false, false, false, false, false, false, false, false] rfl rfl (ze HT_.out HW_.out (by kernel_rfl)) (fun _ _ _ h => h) (Or.inl ⟨by rfl, ?_⟩) hHeld ?_ ?_
           rotate_left
           ·rintro w' ⟨s0, s1, s2, s3, s4, s5⟩
            go_simp
            with_reducible rfl
           rotate_left
           ·simp only [Act.put, sA_, sB_, sC_, i64_w, i32_w]
            rfl
           refine join_ (σ := Value × Value × Nat) 2 #[true, true, true, true, true, true, true, true, true, false, false] (fun s_ => [(81, .agg #[.int .i64 B5, .int .i64 B6, s_.1]), (83, .agg #[.int .i64 B7, .int .i64 B8, .bool B9]), (84, .tuple #[.agg #[.int .i64 o3, .int .i64 o4, s_.2.1], .bool D3]), (14, .pointer (some ⟨s_.2.2, 0, none⟩)), (79, .tuple #[.agg #[.int .i64 o3, .int .i64 o4, s_.2.1], .bool D3]), (85, .agg #[.int .i64 o3, .int .i64 o4, s_.2.1]), (86, .bool D3)]) (fun s_ w' => (w'.cell? ⟨d0, 0, none⟩ = some (.int .i64 a0_0) ∧ w'.cell? ⟨d0, 1, none⟩ = some (.int .i64 a0_1) ∧ w'.cell? ⟨d0, 2, none⟩ = some (.slice A0_2 l0_2.length c0_2) ∧ w'.cell? ⟨d1, 0, none⟩ = some (.int .i64 a1_0) ∧ w'.cell? ⟨d1, 1, none⟩ = some (.int .i64 a1_1) ∧ w'.cell? ⟨d1, 2, none⟩ = some (.bool a1_2)) ∧ (Kd.R k38 38 w' w.heap.size (fun k_ => some k_ ≠ (s_.2.1 : Value).ownBlock ∧ some k_ ≠ (.slice Ao31 d6.length co31 : Value).ownBlock ∧ some k_ ≠ (.slice Ao41 n2.length co41 : Value).ownBlock ∧ some k_ ≠ (.slice Ao50 d8.length co50 : Value).ownBlock) s_.1 p5) ∧ (Kd.R k38 38 w' w.heap.size (fun k_ => some k_ ≠ (s_.1 : Value).ownBlock ∧ some k_ ≠ (.slice Ao31 d6.length co31 : Value).ownBlock ∧ some k_ ≠ (.slice Ao41 n2.length co41 : Value).ownBlock ∧ some k_ ≠ (.slice Ao50 d8.length co50 : Value).ownBlock) s_.2.1 o0) ∧ (Kd.R k38 38 w' w.heap.size (fun k_ => some k_ ≠ (s_.1 : Value).ownBlock ∧ some k_ ≠ (s_.2.1 : Value).ownBlock ∧ some k_ ≠ (.slice Ao41 n2.length co41 : Value).ownBlock ∧ some k_ ≠ (.slice Ao50 d8.length co50 : Value).ownBlock) (.slice Ao31 d6.length co31) d6) ∧ (Kd.R k38 38 w' w.heap.size (fun k_ => some k_ ≠ (s_.1 : Value).ownBlock ∧ some k_ ≠ (s_.2.1 : Value).ownBlock ∧ some k_ ≠ (.slice Ao31 d6.length co31 : Value).ownBlock ∧ some k_ ≠ (.slice Ao50 d8.length co50 : Value).ownBlock) (.slice Ao41 n2.length co41) n2) ∧ (Kd.R k38 38 w' w.heap.size (fun k_ => some k_ ≠ (s_.1 : Value).ownBlock ∧ some k_ ≠ (s_.2.1 : Value).ownBlock ∧ some k_ ≠ (.slice Ao31 d6.length co31 : Value).ownBlock ∧ some k_ ≠ (.slice Ao41 n2.length co41 : Value).ownBlock) (.slice Ao50 d8.length co50) n8) ∧ (w'.heap[d0]? = some (.cells #[.int .i64 a0_0, .int .i64 a0_1, .slice A0_2 l0_2.length c0_2] 24 (0, 0))) ∧ (w'.heap[d1]? = some (.cells #[.int .i64 a1_0, .int .i64 a1_1, .bool a1_2] 35 (0, 0))) ∧ (w'.heap[b9]? = some (.cells #[.int .i64 f2, .int .i64 f3, .slice Ao31 d6.length co31] 30 (0, 0))) ∧ (w'.heap[d3]? = some (.cells #[.int .i64 f9, .int .i64 g0, .slice Ao41 n2.length co41] 30 (0, 0))) ∧ (w'.heap[b8]? = some (.cells #[.int .i64 f0, .int .i64 f1, .slice Ao50 d8.length co50] 30 (0, 0))) ∧ (w'.heap[s_.2.2]? = some (.cells #[.int .i64 0, .int .i64 0, .slice none 0 0] 30 (0, 0))) ∧ (w.heap.size ≤ s_.2.2) ∧ (w.heap.size ≤ s_.2.2) ∧ (d0 ≠ s_.2.2) ∧ (s_.2.2 ≠ d0) ∧ (d1 ≠ s_.2.2) ∧ (s_.2.2 ≠ d1) ∧ (b9 ≠ s_.2.2) ∧ (s_.2.2 ≠ b9) ∧ (d3 ≠ s_.2.2) ∧ (s_.2.2 ≠ d3) ∧ (b8 ≠ s_.2.2) ∧ (s_.2.2 ≠ b8) ∧ (Below w.heap.size w w')) ?_ ?_
           rotate_left
           ·intro hCont
            refine two_ (i := 1) (j := 8) (Ni := some 81) (Nj := some 14) #[true, true, true, false, false, false, false, false, false, false, false] #[true, false, true, false, false, false, false, false, true, false, false] rfl rfl rfl rfl (two_of HT_.out (by kernel_rfl)) (by decide) (by decide) (fun K hK => ?_) (fun K hK => ?_)
            ·skip
             refine goes_ Try.func20 (by kernel_rfl) rfl #[.agg #[.int .i64 a0_0, .int .i64 a0_1, .slice A0_2 l0_2.length c0_2]] (by rfl) rfl rfl (by (try simp only [List.map_toArray, List.map_cons, List.map_nil]); first | done | rfl | (simp only [List.length_drop, List.length_take]; rfl)) ?_
             with_reducible refine (laws_toCity.calls kj78 a0_0 a0_1 _ _ l0_2 B5 B6 p5 _ ?side1 ?side2 A126.out).mono ?_
             (case side1 => repeat (first | exact (Kd.zm HR0_2.out HB.out) | (with_reducible refine Kd.zg ?_ _) | (with_reducible refine Kd.zf ?_ _) | (with_reducible refine Kd.zi ?_)))
             (case side2 => exact HC0_2.out)
             rintro e w139 ⟨v279, rfl, ho0, hb⟩
             refine ⟨_, rfl, ?_⟩
             have n0_ := qa.mk (Kd.zh (kr_ b4) (Kd.zo ho0) hb);have n1_ := qa.mk (Kd.zh (kr_ b3) (Kd.zo ho0) hb);have n2_ := qa.mk (Kd.zh (kr_ b0) (Kd.zo ho0) hb);have n3_ := qa.mk (Kd.zt (Kd.zp (Kd.zp (Kd.zp ho0 (Kd.R_lt (kr_ b4))) (Kd.R_lt (kr_ b3))) (Kd.R_lt (kr_ b0))) (qm (be5_ HB d4 d5 d7 f4 f5)));have n4_ := qa.mk (qk (g := d0) (o := .cells #[.int .i64 a0_0, .int .i64 a0_1, .slice A0_2 l0_2.length c0_2] 24 (0, 0)) (bk_ b1) hb);have n5_ := qa.mk (qk (g := d1) (o := .cells #[.int .i64 a1_0, .int .i64 a1_1, .bool a1_2] 35 (0, 0)) (bk_ b2) hb);have n6_ := qa.mk (qk (g := b9) (o := .cells #[.int .i64 f2, .int .i64 f3, .slice Ao31 d6.length co31] 30 (0, 0)) (bk_ b5) hb);have n7_ := qa.mk (qk (g := d3) (o := .cells #[.int .i64 f9, .int .i64 g0, .slice Ao41 n2.length co41] 30 (0, 0)) (bk_ b7) hb);have n8_ := qa.mk (qk (g := b8) (o := .cells #[.int .i64 f0, .int .i64 f1, .slice Ao50 d8.length co50] 30 (0, 0)) (bk_ b6) hb);have n9_ := qa.mk (qn (be5_ HB d4 d5 d7 f4 f5) hb);clear b4;clear b3;clear b0;clear b1;clear b2;clear b5;clear b7;clear b6;clear HB;have b4 := n0_;have b3 := n1_;have b0 := n2_;have g9 := n3_;have b1 := n4_;have b2 := n5_;have b5 := n6_;have b7 := n7_;have b6 := n8_;have HB := n9_;clear n0_ n1_ n2_ n3_ n4_ n5_ n6_ n7_ n8_ n9_
             (try clear hb)
             (try clear hb2)
             (try clear hk)
             (try clear hi)
             (try clear ho0)
             refine hK.out _ _ ⟨(qg b1.out 0).trans rfl, (qg b1.out 1).trans rfl, (qg b1.out 2).trans rfl, (qg b2.out 0).trans rfl, (qg b2.out 1).trans rfl, (qg b2.out 2).trans rfl⟩ (fun hHeld => ?_)
             clear hK K
             refine norm_ (a' := ?_) ?_ ?_
             rotate_left
             ·show Act.put _ (some 81) _ = _
              simp only [Act.put, sA_, sB_, sC_, i64_w, i32_w]
              rfl
             refine two_ (i := 3) (j := 8) (Ni := some 83) (Nj := some 14) #[true, true, true, true, false, false, false, false, false, false, false] #[true, true, true, false, false, false, false, false, true, false, false] rfl rfl rfl rfl (two_of HT_.out (by kernel_rfl)) (by decide) (by decide) (fun K hK => ?_) (fun K hK => ?_)
             ·skip
              refine goes_ Try.func24 (by kernel_rfl) rfl #[.agg #[.int .i64 a1_0, .int .i64 a1_1, .bool a1_2]] (by rfl) rfl rfl (by (try simp only [List.map_toArray, List.map_cons, List.map_nil]); first | done | rfl | (simp only [List.length_drop, List.length_take]; rfl)) ?_
              with_reducible refine (laws_toBlock.calls a1_0 a1_1 a1_2 B7 B8 B9 _ A127.out).mono ?_
              rintro e w140 ⟨rfl, hb⟩
              refine ⟨_, rfl, ?_⟩
              have n0_ := qa.mk (Kd.qz (kr_ b4) hb);have n1_ := qa.mk (Kd.qz (kr_ b3) hb);have n2_ := qa.mk (Kd.qz (kr_ b0) hb);have n3_ := qa.mk (Kd.qz (kr_ g9) hb);have n4_ := qa.mk (qk (g := d0) (o := .cells #[.int .i64 a0_0, .int .i64 a0_1, .slice A0_2 l0_2.length c0_2] 24 (0, 0)) (bk_ b1) hb);have n5_ := qa.mk (qk (g := d1) (o := .cells #[.int .i64 a1_0, .int .i64 a1_1, .bool a1_2] 35 (0, 0)) (bk_ b2) hb);have n6_ := qa.mk (qk (g := b9) (o := .cells #[.int .i64 f2, .int .i64 f3, .slice Ao31 d6.length co31] 30 (0, 0)) (bk_ b5) hb);have n7_ := qa.mk (qk (g := d3) (o := .cells #[.int .i64 f9, .int .i64 g0, .slice Ao41 n2.length co41] 30 (0, 0)) (bk_ b7) hb);have n8_ := qa.mk (qk (g := b8) (o := .cells #[.int .i64 f0, .int .i64 f1, .slice Ao50 d8.length co50] 30 (0, 0)) (bk_ b6) hb);have n9_ := qa.mk (qn (be5_ HB d4 d5 d7 f4 f5) hb);clear b4;clear b3;clear b0;clear g9;clear b1;clear b2;clear b5;clear b7;clear b6;clear HB;have b4 := n0_;have b3 := n1_;have b0 := n2_;have g9 := n3_;have b1 := n4_;have b2 := n5_;have b5 := n6_;have b7 := n7_;have b6 := n8_;have HB := n9_;clear n0_ n1_ n2_ n3_ n4_ n5_ n6_ n7_ n8_ n9_
              (try clear hb)
              (try clear hb2)
              (try clear hk)
              (try clear hi)
              obtain ⟨Ao141, co141, eo141⟩ := Kd.zr g9.out
              (first | subst eo141 | (injection eo141 with f1_ f2_ f3_; have f4_ := f1_.symm; have f5_ := f3_.symm; clear f1_ f2_ f3_; subst f4_; subst f5_))
              refine hK.out _ _ ⟨(qg b1.out 0).trans rfl, (qg b1.out 1).trans rfl, (qg b1.out 2).trans rfl, (qg b2.out 0).trans rfl, (qg b2.out 1).trans rfl, (qg b2.out 2).trans rfl⟩ (fun hHeld => ?_)
              clear hK K
              refine norm_ (a' := ?_) ?_ ?_
              rotate_left
              ·show Act.put _ (some 83) _ = _
               simp only [Act.put, sA_, sB_, sC_, i64_w, i32_w]
               rfl
              refine two_ (i := 4) (j := 8) (Ni := some 84) (Nj := some 14) #[true, true, true, true, true, false, false, false, false, false, false] #[true, true, true, true, false, false, false, false, true, false, false] rfl rfl rfl rfl (two_of HT_.out (by kernel_rfl)) (by decide) (by decide) (fun K hK => ?_) (fun K hK => ?_)
              ·skip
               refine goes_ Try.func25 (by kernel_rfl) rfl #[.agg #[.int .i64 B5, .int .i64 B6, .slice Ao141 p5.length co141], .agg #[.int .i64 B7, .int .i64 B8, .bool B9]] (by rfl) rfl rfl (by (try simp only [List.map_toArray, List.map_cons, List.map_nil]); first | done | rfl | (simp only [List.length_drop, List.length_take]; rfl)) ?_
               with_reducible refine (impl_OpenBlock.calls kj78 B5 B6 _ _ p5 B7 B8 B9 o3 o4 o0 D3 _ ?side1 ?side2 A128.out).mono ?_
               (case side1 => repeat (first | exact (Kd.za g9.out).2.2 | (with_reducible refine Kd.zg ?_ _) | (with_reducible refine Kd.zf ?_ _) | (with_reducible refine Kd.zi ?_)))
               (case side2 => exact (Kd.za g9.out).2.1)
               rintro e w142 ⟨v287, rfl, ho0, hb⟩
               refine ⟨_, rfl, ?_⟩
               have n0_ := qa.mk (Kd.zh (kr_ b4) (Kd.zo ho0) hb);have n1_ := qa.mk (Kd.zh (kr_ b3) (Kd.zo ho0) hb);have n2_ := qa.mk (Kd.zh (kr_ b0) (Kd.zo ho0) hb);have n3_ := qa.mk (Kd.zh (kr_ g9) (Kd.zo ho0) hb);have n4_ := qa.mk (Kd.zt (Kd.zp (Kd.zp (Kd.zp (Kd.zp ho0 (Kd.R_lt (kr_ b4))) (Kd.R_lt (kr_ b3))) (Kd.R_lt (kr_ b0))) (Kd.R_lt (kr_ g9))) (qm (be5_ HB d4 d5 d7 f4 f5)));have n5_ := qa.mk (qk (g := d0) (o := .cells #[.int .i64 a0_0, .int .i64 a0_1, .slice A0_2 l0_2.length c0_2] 24 (0, 0)) (bk_ b1) hb);have n6_ := qa.mk (qk (g := d1) (o := .cells #[.int .i64 a1_0, .int .i64 a1_1, .bool a1_2] 35 (0, 0)) (bk_ b2) hb);have n7_ := qa.mk (qk (g := b9) (o := .cells #[.int .i64 f2, .int .i64 f3, .slice Ao31 d6.length co31] 30 (0, 0)) (bk_ b5) hb);have n8_ := qa.mk (qk (g := d3) (o := .cells #[.int .i64 f9, .int .i64 g0, .slice Ao41 n2.length co41] 30 (0, 0)) (bk_ b7) hb);have n9_ := qa.mk (qk (g := b8) (o := .cells #[.int .i64 f0, .int .i64 f1, .slice Ao50 d8.length co50] 30 (0, 0)) (bk_ b6) hb);have n10_ := qa.mk (qn (be5_ HB d4 d5 d7 f4 f5) hb);clear b4;clear b3;clear b0;clear g9;clear b1;clear b2;clear b5;clear b7;clear b6;clear HB;have b4 := n0_;have b3 := n1_;have b0 := n2_;have g9 := n3_;have o2 := n4_;have b1 := n5_;have b2 := n6_;have b5 := n7_;have b7 := n8_;have b6 := n9_;have HB := n10_;clear n0_ n1_ n2_ n3_ n4_ n5_ n6_ n7_ n8_ n9_ n10_
               (try clear hb)
               (try clear hb2)
               (try clear hk)
               (try clear hi)
               (try clear ho0)
               refine hK.out _ _ ⟨(qg b1.out 0).trans rfl, (qg b1.out 1).trans rfl, (qg b1.out 2).trans rfl, (qg b2.out 0).trans rfl, (qg b2.out 1).trans rfl, (qg b2.out 2).trans rfl⟩ (fun hHeld => ?_)
               clear hK K
               refine norm_ (a' := ?_) ?_ ?_
               rotate_left
               ·show Act.put _ (some 84) _ = _
                simp only [Act.put, sA_, sB_, sC_, i64_w, i32_w]
                rfl
               refine pure_ (i := 5) (N := some 79) (v := ?_) (a' := ?_) #[true, true, true, true, true, true, false, false, false, false, false] rfl rfl (qv HT_.out (by kernel_rfl)) (fun _ _ _ h => h) (Or.inl ⟨by rfl, ?_⟩) ?_ ?_
               rotate_left
               ·intro w'
                go_simp
                with_reducible rfl
               rotate_left
               ·simp only [Act.put, sA_, sB_, sC_, i64_w, i32_w]
                rfl
               refine pure_ (i := 6) (N := some 85) (v := ?_) (a' := ?_) #[true, true, true, true, true, true, true, false, false, false, false] rfl rfl (qv HT_.out (by kernel_rfl)) (fun _ _ _ h => h) (Or.inl ⟨by rfl, ?_⟩) ?_ ?_
               rotate_left
               ·intro w'
                go_simp
                with_reducible rfl
               rotate_left
               ·simp only [Act.put, sA_, sB_, sC_, i64_w, i32_w]
                rfl
               refine pure_ (i := 7) (N := some 86) (v := ?_) (a' := ?_) #[true, true, true, true, true, true, true, true, false, false, false] rfl rfl (qv HT_.out (by kernel_rfl)) (fun _ _ _ h => h) (Or.inl ⟨by rfl, ?_⟩) ?_ ?_
               rotate_left
               ·intro w'
                go_simp
                with_reducible rfl
               rotate_left
               ·simp only [Act.put, sA_, sB_, sC_, i64_w, i32_w]
                rfl
               refine one_ (i := 8) (N := some 14) #[true, true, true, true, true, true, true, true, true, false, false] rfl rfl (zn HT_.out (by kernel_rfl)) (by decide) (fun K hK => ?_)
               refine box_step ?hg (N := 14) ?hd (cs := #[.int .i64 0, .int .i64 0, .slice none 0 0]) (t := 30) ?hr ?_; (case hd => rfl); (case hg => rfl); (case hr => first | (go_simp; done) | (go_simp; rfl))
               intro d2 hg w143 hbox hb
               have n0_ := qa.mk (Kd.qz (kr_ b4) hb);have n1_ := qa.mk (Kd.qz (kr_ b3) hb);have n2_ := qa.mk (Kd.qz (kr_ b0) hb);have n3_ := qa.mk (Kd.qz (kr_ g9) hb);have n4_ := qa.mk (Kd.qz (kr_ o2) hb);have n5_ := qa.mk (qk (g := d0) (o := .cells #[.int .i64 a0_0, .int .i64 a0_1, .slice A0_2 l0_2.length c0_2] 24 (0, 0)) (bk_ b1) hb);have n6_ := qa.mk (qk (g := d1) (o := .cells #[.int .i64 a1_0, .int .i64 a1_1, .bool a1_2] 35 (0, 0)) (bk_ b2) hb);have n7_ := qa.mk (qk (g := b9) (o := .cells #[.int .i64 f2, .int .i64 f3, .slice Ao31 d6.length co31] 30 (0, 0)) (bk_ b5) hb);have n8_ := qa.mk (qk (g := d3) (o := .cells #[.int .i64 f9, .int .i64 g0, .slice Ao41 n2.length co41] 30 (0, 0)) (bk_ b7) hb);have n9_ := qa.mk (qk (g := b8) (o := .cells #[.int .i64 f0, .int .i64 f1, .slice Ao50 d8.length co50] 30 (0, 0)) (bk_ b6) hb);have n10_ := qa.mk (qn (be5_ HB d4 d5 d7 f4 f5) hb);have n11_ := qa.mk (hbox);have n12_ := qa.mk ((by rw [hg]; exact (qm (be5_ HB d4 d5 d7 f4 f5)) : w.heap.size ≤ d2));have n13_ := qa.mk ((by rw [hg]; exact (qm (be5_ HB d4 d5 d7 f4 f5)) : w.heap.size ≤ d2));have n14_ := qa.mk ((by rw [hg]; exact Nat.ne_of_lt (qr (g := d0) (o := .cells #[.int .i64 a0_0, .int .i64 a0_1, .slice A0_2 l0_2.length c0_2] 24 (0, 0)) (bk_ b1)) : d0 ≠ d2));have n15_ := qa.mk ((by rw [hg]; exact Nat.ne_of_gt (qr (g := d0) (o := .cells #[.int .i64 a0_0, .int .i64 a0_1, .slice A0_2 l0_2.length c0_2] 24 (0, 0)) (bk_ b1)) : d2 ≠ d0));have n16_ := qa.mk ((by rw [hg]; exact Nat.ne_of_lt (qr (g := d1) (o := .cells #[.int .i64 a1_0, .int .i64 a1_1, .bool a1_2] 35 (0, 0)) (bk_ b2)) : d1 ≠ d2));have n17_ := qa.mk ((by rw [hg]; exact Nat.ne_of_gt (qr (g := d1) (o := .cells #[.int .i64 a1_0, .int .i64 a1_1, .bool a1_2] 35 (0, 0)) (bk_ b2)) : d2 ≠ d1));have n18_ := qa.mk ((by rw [hg]; exact Nat.ne_of_lt (qr (g := b9) (o := .cells #[.int .i64 f2, .int .i64 f3, .slice Ao31 d6.length co31] 30 (0, 0)) (bk_ b5)) : b9 ≠ d2));have n19_ := qa.mk ((by rw [hg]; exact Nat.ne_of_gt (qr (g := b9) (o := .cells #[.int .i64 f2, .int .i64 f3, .slice Ao31 d6.length co31] 30 (0, 0)) (bk_ b5)) : d2 ≠ b9))
               have n20_ := qa.mk ((by rw [hg]; exact Nat.ne_of_lt (qr (g := d3) (o := .cells #[.int .i64 f9, .int .i64 g0, .slice Ao41 n2.length co41] 30 (0, 0)) (bk_ b7)) : d3 ≠ d2));have n21_ := qa.mk ((by rw [hg]; exact Nat.ne_of_gt (qr (g := d3) (o := .cells #[.int .i64 f9, .int .i64 g0, .slice Ao41 n2.length co41] 30 (0, 0)) (bk_ b7)) : d2 ≠ d3));have n22_ := qa.mk ((by rw [hg]; exact Nat.ne_of_lt (qr (g := b8) (o := .cells #[.int .i64 f0, .int .i64 f1, .slice Ao50 d8.length co50] 30 (0, 0)) (bk_ b6)) : b8 ≠ d2));have n23_ := qa.mk ((by rw [hg]; exact Nat.ne_of_gt (qr (g := b8) (o := .cells #[.int .i64 f0, .int .i64 f1, .slice Ao50 d8.length co50] 30 (0, 0)) (bk_ b6)) : d2 ≠ b8));clear b4;clear b3;clear b0;clear g9;clear o2;clear b1;clear b2;clear b5;clear b7;clear b6;clear HB;have b4 := n0_;have b3 := n1_;have b0 := n2_;have g9 := n3_;have o2 := n4_;have b1 := n5_;have b2 := n6_;have b5 := n7_;have b7 := n8_;have b6 := n9_;have HB := n10_;have f8 := n11_;have D1 := n12_;have n3 := n13_;have g5 := n14_;have n4 := n15_;have g6 := n16_;have n5 := n17_;have m6 := n18_;have n6 := n19_;have m7 := n20_;have n7 := n21_;have m1 := n22_;have n1 := n23_;clear n0_ n1_ n2_ n3_ n4_ n5_ n6_ n7_ n8_ n9_ n10_ n11_ n12_ n13_ n14_ n15_ n16_ n17_ n18_ n19_ n20_ n21_ n22_ n23_;clear hb hbox hg
               refine hK.out _ _ ⟨(qg b1.out 0).trans rfl, (qg b1.out 1).trans rfl, (qg b1.out 2).trans rfl, (qg b2.out 0).trans rfl, (qg b2.out 1).trans rfl, (qg b2.out 2).trans rfl⟩ (fun hHeld => ?_)
               clear hK K
               refine norm_ (a' := ?_) ?_ ?_
               rotate_left
               ·show Act.put _ (some 14) _ = _
                simp only [Act.put, sA_, sB_, sC_, i64_w, i32_w]
                rfl
               exact norm_ (by simp only [putAll, Act.put, sA_, sB_, sC_]) (hCont (.slice Ao141 p5.length co141, v287, d2) _ ⟨hHeld, (by (with_reducible repeat (first | apply Kd.qo | apply Kd.qp | apply Kd.qq)); exact Kd.zc g9.out (fun _ hk => ⟨hk.2, ⟨hk.1.1.1.2, ⟨hk.1.1.2, hk.1.2⟩⟩⟩)), (by (with_reducible repeat (first | apply Kd.qo | apply Kd.qp | apply Kd.qq)); exact Kd.zc o2.out (fun _ hk => ⟨hk.2, ⟨hk.1.1.1.2, ⟨hk.1.1.2, hk.1.2⟩⟩⟩)), (by (with_reducible repeat (first | apply Kd.qo | apply Kd.qp | apply Kd.qq)); exact Kd.zc b4.out (fun _ hk => ⟨hk.1.2, ⟨hk.2, ⟨hk.1.1.1, hk.1.1.2⟩⟩⟩)), (by (with_reducible repeat (first | apply Kd.qo | apply Kd.qp | apply Kd.qq)); exact Kd.zc b3.out (fun _ hk => ⟨hk.1.2, ⟨hk.2, ⟨hk.1.1.1, hk.1.1.2⟩⟩⟩)), (by (with_reducible repeat (first | apply Kd.qo | apply Kd.qp | apply Kd.qq)); exact Kd.zc b0.out (fun _ hk => ⟨hk.1.2, ⟨hk.2, ⟨hk.1.1.1, hk.1.1.2⟩⟩⟩)), (bk_ b1), (bk_ b2), (bk_ b5), (bk_ b7), (bk_ b6), (bk_ f8), D1.out, n3.out, g5.out, n4.out, g6.out, n5.out, m6.out, n6.out, m7.out, n7.out, m1.out, n1.out, (be6_ HB d4 d5 d7 f4 f5 n3)⟩)
              ·skip
               refine box_step ?hg (N := 14) ?hd (cs := #[.int .i64 0, .int .i64 0, .slice none 0 0]) (t := 30) ?hr ?_; (case hd => rfl); (case hg => rfl); (case hr => first | (go_simp; done) | (go_simp; rfl))
               intro d2 hg w141 hbox hb
               have n0_ := qa.mk (Kd.qz (kr_ b4) hb);have n1_ := qa.mk (Kd.qz (kr_ b3) hb);have n2_ := qa.mk (Kd.qz (kr_ b0) hb);have n3_ := qa.mk (Kd.qz (kr_ g9) hb);have n4_ := qa.mk (qk (g := d0) (o := .cells #[.int .i64 a0_0, .int .i64 a0_1, .slice A0_2 l0_2.length c0_2] 24 (0, 0)) (bk_ b1) hb);have n5_ := qa.mk (qk (g := d1) (o := .cells #[.int .i64 a1_0, .int .i64 a1_1, .bool a1_2] 35 (0, 0)) (bk_ b2) hb);have n6_ := qa.mk (qk (g := b9) (o := .cells #[.int .i64 f2, .int .i64 f3, .slice Ao31 d6.length co31] 30 (0, 0)) (bk_ b5) hb);have n7_ := qa.mk (qk (g := d3) (o := .cells #[.int .i64 f9, .int .i64 g0, .slice Ao41 n2.length co41] 30 (0, 0)) (bk_ b7) hb);have n8_ := qa.mk (qk (g := b8) (o := .cells #[.int .i64 f0, .int .i64 f1, .slice Ao50 d8.length co50] 30 (0, 0)) (bk_ b6) hb);have n9_ := qa.mk (qn (be5_ HB d4 d5 d7 f4 f5) hb);have n10_ := qa.mk (hbox);have n11_ := qa.mk ((by rw [hg]; exact (qm (be5_ HB d4 d5 d7 f4 f5)) : w.heap.size ≤ d2));have n12_ := qa.mk ((by rw [hg]; exact (qm (be5_ HB d4 d5 d7 f4 f5)) : w.heap.size ≤ d2));have n13_ := qa.mk ((by rw [hg]; exact Nat.ne_of_lt (qr (g := d0) (o := .cells #[.int .i64 a0_0, .int .i64 a0_1, .slice A0_2 l0_2.length c0_2] 24 (0, 0)) (bk_ b1)) : d0 ≠ d2));have n14_ := qa.mk ((by rw [hg]; exact Nat.ne_of_gt (qr (g := d0) (o := .cells #[.int .i64 a0_0, .int .i64 a0_1, .slice A0_2 l0_2.length c0_2] 24 (0, 0)) (bk_ b1)) : d2 ≠ d0));have n15_ := qa.mk ((by rw [hg]; exact Nat.ne_of_lt (qr (g := d1) (o := .cells #[.int .i64 a1_0, .int .i64 a1_1, .bool a1_2] 35 (0, 0)) (bk_ b2)) : d1 ≠ d2));have n16_ := qa.mk ((by rw [hg]; exact Nat.ne_of_gt (qr (g := d1) (o := .cells #[.int .i64 a1_0, .int .i64 a1_1, .bool a1_2] 35 (0, 0)) (bk_ b2)) : d2 ≠ d1));have n17_ := qa.mk ((by rw [hg]; exact Nat.ne_of_lt (qr (g := b9) (o := .cells #[.int .i64 f2, .int .i64 f3, .slice Ao31 d6.length co31] 30 (0, 0)) (bk_ b5)) : b9 ≠ d2));have n18_ := qa.mk ((by rw [hg]; exact Nat.ne_of_gt (qr (g := b9) (o := .cells #[.int .i64 f2, .int .i64 f3, .slice Ao31 d6.length co31] 30 (0, 0)) (bk_ b5)) : d2 ≠ b9))
               have n19_ := qa.mk ((by rw [hg]; exact Nat.ne_of_lt (qr (g := d3) (o := .cells #[.int .i64 f9, .int .i64 g0, .slice Ao41 n2.length co41] 30 (0, 0)) (bk_ b7)) : d3 ≠ d2));have n20_ := qa.mk ((by rw [hg]; exact Nat.ne_of_gt (qr (g := d3) (o := .cells #[.int .i64 f9, .int .i64 g0, .slice Ao41 n2.length co41] 30 (0, 0)) (bk_ b7)) : d2 ≠ d3));have n21_ := qa.mk ((by rw [hg]; exact Nat.ne_of_lt (qr (g := b8) (o := .cells #[.int .i64 f0, .int .i64 f1, .slice Ao50 d8.length co50] 30 (0, 0)) (bk_ b6)) : b8 ≠ d2));have n22_ := qa.mk ((by rw [hg]; exact Nat.ne_of_gt (qr (g := b8) (o := .cells #[.int .i64 f0, .int .i64 f1, .slice Ao50 d8.length co50] 30 (0, 0)) (bk_ b6)) : d2 ≠ b8));clear b4;clear b3;clear b0;clear g9;clear b1;clear b2;clear b5;clear b7;clear b6;clear HB;have b4 := n0_;have b3 := n1_;have b0 := n2_;have g9 := n3_;have b1 := n4_;have b2 := n5_;have b5 := n6_;have b7 := n7_;have b6 := n8_;have HB := n9_;have f8 := n10_;have D1 := n11_;have n3 := n12_;have g5 := n13_;have n4 := n14_;have g6 := n15_;have n5 := n16_;have m6 := n17_;have n6 := n18_;have m7 := n19_;have n7 := n20_;have m1 := n21_;have n1 := n22_;clear n0_ n1_ n2_ n3_ n4_ n5_ n6_ n7_ n8_ n9_ n10_ n11_ n12_ n13_ n14_ n15_ n16_ n17_ n18_ n19_ n20_ n21_ n22_;clear hb hbox hg;obtain ⟨Ao142, co142, eo142⟩ := Kd.zr g9.out
               (first | subst eo142 | (injection eo142 with f1_ f2_ f3_; have f4_ := f1_.symm; have f5_ := f3_.symm; clear f1_ f2_ f3_; subst f4_; subst f5_))
               refine hK.out _ _ ⟨(qg b1.out 0).trans rfl, (qg b1.out 1).trans rfl, (qg b1.out 2).trans rfl, (qg b2.out 0).trans rfl, (qg b2.out 1).trans rfl, (qg b2.out 2).trans rfl⟩ (fun hHeld => ?_)
               clear hK K
               refine norm_ (a' := ?_) ?_ ?_
               rotate_left
               ·show Act.put _ (some 14) _ = _
                simp only [Act.put, sA_, sB_, sC_, i64_w, i32_w]
                rfl
               refine one_ (i := 4) (N := some 84) #[true, true, true, true, true, false, false, false, true, false, false] rfl rfl (zn HT_.out (by kernel_rfl)) (by decide) (fun K hK => ?_)
               refine goes_ Try.func25 (by kernel_rfl) rfl #[.agg #[.int .i64 B5, .int .i64 B6, .slice Ao142 p5.length co142], .agg #[.int .i64 B7, .int .i64 B8, .bool B9]] (by rfl) rfl rfl (by (try simp only [List.map_toArray, List.map_cons, List.map_nil]); first | done | rfl | (simp only [List.length_drop, List.length_take]; rfl)) ?_
               with_reducible refine (impl_OpenBlock.calls kj78 B5 B6 _ _ p5 B7 B8 B9 o3 o4 o0 D3 _ ?side1 ?side2 A128.out).mono ?_
               (case side1 => repeat (first | exact (Kd.za g9.out).2.2 | (with_reducible refine Kd.zg ?_ _) | (with_reducible refine Kd.zf ?_ _) | (with_reducible refine Kd.zi ?_)))
               (case side2 => exact (Kd.za g9.out).2.1)
               rintro e w143 ⟨v287, rfl, ho0, hb⟩
               refine ⟨_, rfl, ?_⟩
               have n0_ := qa.mk (Kd.zh (kr_ b4) (Kd.zo ho0) hb);have n1_ := qa.mk (Kd.zh (kr_ b3) (Kd.zo ho0) hb);have n2_ := qa.mk (Kd.zh (kr_ b0) (Kd.zo ho0) hb);have n3_ := qa.mk (Kd.zh (kr_ g9) (Kd.zo ho0) hb);have n4_ := qa.mk (Kd.zt (Kd.zp (Kd.zp (Kd.zp (Kd.zp ho0 (Kd.R_lt (kr_ b4))) (Kd.R_lt (kr_ b3))) (Kd.R_lt (kr_ b0))) (Kd.R_lt (kr_ g9))) (qm (be6_ HB d4 d5 d7 f4 f5 n3)));have n5_ := qa.mk (qk (g := d0) (o := .cells #[.int .i64 a0_0, .int .i64 a0_1, .slice A0_2 l0_2.length c0_2] 24 (0, 0)) (bk_ b1) hb);have n6_ := qa.mk (qk (g := d1) (o := .cells #[.int .i64 a1_0, .int .i64 a1_1, .bool a1_2] 35 (0, 0)) (bk_ b2) hb);have n7_ := qa.mk (qk (g := b9) (o := .cells #[.int .i64 f2, .int .i64 f3, .slice Ao31 d6.length co31] 30 (0, 0)) (bk_ b5) hb);have n8_ := qa.mk (qk (g := d3) (o := .cells #[.int .i64 f9, .int .i64 g0, .slice Ao41 n2.length co41] 30 (0, 0)) (bk_ b7) hb);have n9_ := qa.mk (qk (g := b8) (o := .cells #[.int .i64 f0, .int .i64 f1, .slice Ao50 d8.length co50] 30 (0, 0)) (bk_ b6) hb);have n10_ := qa.mk (qk (g := d2) (o := .cells #[.int .i64 0, .int .i64 0, .slice none 0 0] 30 (0, 0)) (bk_ f8) hb);have n11_ := qa.mk (qn (be6_ HB d4 d5 d7 f4 f5 n3) hb);clear b4;clear b3;clear b0;clear g9;clear b1;clear b2;clear b5;clear b7;clear b6;clear f8;clear HB;have b4 := n0_;have b3 := n1_;have b0 := n2_;have g9 := n3_;have o2 := n4_;have b1 := n5_;have b2 := n6_;have b5 := n7_;have b7 := n8_;have b6 := n9_;have f8 := n10_;have HB := n11_;clear n0_ n1_ n2_ n3_ n4_ n5_ n6_ n7_ n8_ n9_ n10_ n11_
               (try clear hb)
               (try clear hb2)
               (try clear hk)
               (try clear hi)
               (try clear ho0)
               refine hK.out _ _ ⟨(qg b1.out 0).trans rfl, (qg b1.out 1).trans rfl, (qg b1.out 2).trans rfl, (qg b2.out 0).trans rfl, (qg b2.out 1).trans rfl, (qg b2.out 2).trans rfl⟩ (fun hHeld => ?_)
               clear hK K
               refine norm_ (a' := ?_) ?_ ?_
               rotate_left
               ·show Act.put _ (some 84) _ = _
                simp only [Act.put, sA_, sB_, sC_, i64_w, i32_w]
                rfl
               refine pure_ (i := 5) (N := some 79) (v := ?_) (a' := ?_) #[true, true, true, true, true, true, false, false, true, false, false] rfl rfl (qv HT_.out (by kernel_rfl)) (fun _ _ _ h => h) (Or.inl ⟨by rfl, ?_⟩) ?_ ?_
               rotate_left
               ·intro w'
                go_simp
                with_reducible rfl
               rotate_left
               ·simp only [Act.put, sA_, sB_, sC_, i64_w, i32_w]
                rfl
               refine pure_ (i := 6) (N := some 85) (v := ?_) (a' := ?_) #[true, true, true, true, true, true, true, false, true, false, false] rfl rfl (qv HT_.out (by kernel_rfl)) (fun _ _ _ h => h) (Or.inl ⟨by rfl, ?_⟩) ?_ ?_
               rotate_left
               ·intro w'
                go_simp
                with_reducible rfl
               rotate_left
               ·simp only [Act.put, sA_, sB_, sC_, i64_w, i32_w]
                rfl
               refine pure_ (i := 7) (N := some 86) (v := ?_) (a' := ?_) #[true, true, true, true, true, true, true, true, true, false, false] rfl rfl (qv HT_.out (by kernel_rfl)) (fun _ _ _ h => h) (Or.inl ⟨by rfl, ?_⟩) ?_ ?_
               rotate_left
               ·intro w'
                go_simp
                with_reducible rfl
               rotate_left
               ·simp only [Act.put, sA_, sB_, sC_, i64_w, i32_w]
                rfl
               exact norm_ (by simp only [putAll, Act.put, sA_, sB_, sC_]) (hCont (.slice Ao142 p5.length co142, v287, d2) _ ⟨hHeld, (by (with_reducible repeat (first | apply Kd.qo | apply Kd.qp | apply Kd.qq)); exact Kd.zc g9.out (fun _ hk => ⟨hk.2, ⟨hk.1.1.1.2, ⟨hk.1.1.2, hk.1.2⟩⟩⟩)), (by (with_reducible repeat (first | apply Kd.qo | apply Kd.qp | apply Kd.qq)); exact Kd.zc o2.out (fun _ hk => ⟨hk.2, ⟨hk.1.1.1.2, ⟨hk.1.1.2, hk.1.2⟩⟩⟩)), (by (with_reducible repeat (first | apply Kd.qo | apply Kd.qp | apply Kd.qq)); exact Kd.zc b4.out (fun _ hk => ⟨hk.1.2, ⟨hk.2, ⟨hk.1.1.1, hk.1.1.2⟩⟩⟩)), (by (with_reducible repeat (first | apply Kd.qo | apply Kd.qp | apply Kd.qq)); exact Kd.zc b3.out (fun _ hk => ⟨hk.1.2, ⟨hk.2, ⟨hk.1.1.1, hk.1.1.2⟩⟩⟩)), (by (with_reducible repeat (first | apply Kd.qo | apply Kd.qp | apply Kd.qq)); exact Kd.zc b0.out (fun _ hk => ⟨hk.1.2, ⟨hk.2, ⟨hk.1.1.1, hk.1.1.2⟩⟩⟩)), (bk_ b1), (bk_ b2), (bk_ b5), (bk_ b7), (bk_ b6), (bk_ f8), D1.out, n3.out, g5.out, n4.out, g6.out, n5.out, m6.out, n6.out, m7.out, n7.out, m1.out, n1.out, (be6_ HB d4 d5 d7 f4 f5 n3)⟩)
             ·skip
              refine box_step ?hg (N := 14) ?hd (cs := #[.int .i64 0, .int .i64 0, .slice none 0 0]) (t := 30) ?hr ?_; (case hd => rfl); (case hg => rfl); (case hr => first | (go_simp; done) | (go_simp; rfl))
              intro d2 hg w140 hbox hb
              have n0_ := qa.mk (Kd.qz (kr_ b4) hb);have n1_ := qa.mk (Kd.qz (kr_ b3) hb);have n2_ := qa.mk (Kd.qz (kr_ b0) hb);have n3_ := qa.mk (Kd.qz (kr_ g9) hb);have n4_ := qa.mk (qk (g := d0) (o := .cells #[.int .i64 a0_0, .int .i64 a0_1, .slice A0_2 l0_2.length c0_2] 24 (0, 0)) (bk_ b1) hb);have n5_ := qa.mk (qk (g := d1) (o := .cells #[.int .i64 a1_0, .int .i64 a1_1, .bool a1_2] 35 (0, 0)) (bk_ b2) hb);have n6_ := qa.mk (qk (g := b9) (o := .cells #[.int .i64 f2, .int .i64 f3, .slice Ao31 d6.length co31] 30 (0, 0)) (bk_ b5) hb);have n7_ := qa.mk (qk (g := d3) (o := .cells #[.int .i64 f9, .int .i64 g0, .slice Ao41 n2.length co41] 30 (0, 0)) (bk_ b7) hb);have n8_ := qa.mk (qk (g := b8) (o := .cells #[.int .i64 f0, .int .i64 f1, .slice Ao50 d8.length co50] 30 (0, 0)) (bk_ b6) hb);have n9_ := qa.mk (qn (be5_ HB d4 d5 d7 f4 f5) hb);have n10_ := qa.mk (hbox);have n11_ := qa.mk ((by rw [hg]; exact (qm (be5_ HB d4 d5 d7 f4 f5)) : w.heap.size ≤ d2));have n12_ := qa.mk ((by rw [hg]; exact (qm (be5_ HB d4 d5 d7 f4 f5)) : w.heap.size ≤ d2));have n13_ := qa.mk ((by rw [hg]; exact Nat.ne_of_lt (qr (g := d0) (o := .cells #[.int .i64 a0_0, .int .i64 a0_1, .slice A0_2 l0_2.length c0_2] 24 (0, 0)) (bk_ b1)) : d0 ≠ d2));have n14_ := qa.mk ((by rw [hg]; exact Nat.ne_of_gt (qr (g := d0) (o := .cells #[.int .i64 a0_0, .int .i64 a0_1, .slice A0_2 l0_2.length c0_2] 24 (0, 0)) (bk_ b1)) : d2 ≠ d0));have n15_ := qa.mk ((by rw [hg]; exact Nat.ne_of_lt (qr (g := d1) (o := .cells #[.int .i64 a1_0, .int .i64 a1_1, .bool a1_2] 35 (0, 0)) (bk_ b2)) : d1 ≠ d2));have n16_ := qa.mk ((by rw [hg]; exact Nat.ne_of_gt (qr (g := d1) (o := .cells #[.int .i64 a1_0, .int .i64 a1_1, .bool a1_2] 35 (0, 0)) (bk_ b2)) : d2 ≠ d1));have n17_ := qa.mk ((by rw [hg]; exact Nat.ne_of_lt (qr (g := b9) (o := .cells #[.int .i64 f2, .int .i64 f3, .slice Ao31 d6.length co31] 30 (0, 0)) (bk_ b5)) : b9 ≠ d2));have n18_ := qa.mk ((by rw [hg]; exact Nat.ne_of_gt (qr (g := b9) (o := .cells #[.int .i64 f2, .int .i64 f3, .slice Ao31 d6.length co31] 30 (0, 0)) (bk_ b5)) : d2 ≠ b9))
              have n19_ := qa.mk ((by rw [hg]; exact Nat.ne_of_lt (qr (g := d3) (o := .cells #[.int .i64 f9, .int .i64 g0, .slice Ao41 n2.length co41] 30 (0, 0)) (bk_ b7)) : d3 ≠ d2));have n20_ := qa.mk ((by rw [hg]; exact Nat.ne_of_gt (qr (g := d3) (o := .cells #[.int .i64 f9, .int .i64 g0, .slice Ao41 n2.length co41] 30 (0, 0)) (bk_ b7)) : d2 ≠ d3));have n21_ := qa.mk ((by rw [hg]; exact Nat.ne_of_lt (qr (g := b8) (o := .cells #[.int .i64 f0, .int .i64 f1, .slice Ao50 d8.length co50] 30 (0, 0)) (bk_ b6)) : b8 ≠ d2));have n22_ := qa.mk ((by rw [hg]; exact Nat.ne_of_gt (qr (g := b8) (o := .cells #[.int .i64 f0, .int .i64 f1, .slice Ao50 d8.length co50] 30 (0, 0)) (bk_ b6)) : d2 ≠ b8));clear b4;clear b3;clear b0;clear g9;clear b1;clear b2;clear b5;clear b7;clear b6;clear HB;have b4 := n0_;have b3 := n1_;have b0 := n2_;have g9 := n3_;have b1 := n4_;have b2 := n5_;have b5 := n6_;have b7 := n7_;have b6 := n8_;have HB := n9_;have f8 := n10_;have D1 := n11_;have n3 := n12_;have g5 := n13_;have n4 := n14_;have g6 := n15_;have n5 := n16_;have m6 := n17_;have n6 := n18_;have m7 := n19_;have n7 := n20_;have m1 := n21_;have n1 := n22_;clear n0_ n1_ n2_ n3_ n4_ n5_ n6_ n7_ n8_ n9_ n10_ n11_ n12_ n13_ n14_ n15_ n16_ n17_ n18_ n19_ n20_ n21_ n22_;clear hb hbox hg
              refine hK.out _ _ ⟨(qg b1.out 0).trans rfl, (qg b1.out 1).trans rfl, (qg b1.out 2).trans rfl, (qg b2.out 0).trans rfl, (qg b2.out 1).trans rfl, (qg b2.out 2).trans rfl⟩ (fun hHeld => ?_)
              clear hK K
              refine norm_ (a' := ?_) ?_ ?_
              rotate_left
              ·show Act.put _ (some 14) _ = _
               simp only [Act.put, sA_, sB_, sC_, i64_w, i32_w]
               rfl
              refine one_ (i := 3) (N := some 83) #[true, true, true, true, false, false, false, false, true, false, false] rfl rfl (zn HT_.out (by kernel_rfl)) (by decide) (fun K hK => ?_)
              refine goes_ Try.func24 (by kernel_rfl) rfl #[.agg #[.int .i64 a1_0, .int .i64 a1_1, .bool a1_2]] (by rfl) rfl rfl (by (try simp only [List.map_toArray, List.map_cons, List.map_nil]); first | done | rfl | (simp only [List.length_drop, List.length_take]; rfl)) ?_
              with_reducible refine (laws_toBlock.calls a1_0 a1_1 a1_2 B7 B8 B9 _ A127.out).mono ?_
              rintro e w141 ⟨rfl, hb⟩
              refine ⟨_, rfl, ?_⟩
              have n0_ := qa.mk (Kd.qz (kr_ b4) hb);have n1_ := qa.mk (Kd.qz (kr_ b3) hb);have n2_ := qa.mk (Kd.qz (kr_ b0) hb);have n3_ := qa.mk (Kd.qz (kr_ g9) hb);have n4_ := qa.mk (qk (g := d0) (o := .cells #[.int .i64 a0_0, .int .i64 a0_1, .slice A0_2 l0_2.length c0_2] 24 (0, 0)) (bk_ b1) hb);have n5_ := qa.mk (qk (g := d1) (o := .cells #[.int .i64 a1_0, .int .i64 a1_1, .bool a1_2] 35 (0, 0)) (bk_ b2) hb);have n6_ := qa.mk (qk (g := b9) (o := .cells #[.int .i64 f2, .int .i64 f3, .slice Ao31 d6.length co31] 30 (0, 0)) (bk_ b5) hb);have n7_ := qa.mk (qk (g := d3) (o := .cells #[.int .i64 f9, .int .i64 g0, .slice Ao41 n2.length co41] 30 (0, 0)) (bk_ b7) hb);have n8_ := qa.mk (qk (g := b8) (o := .cells #[.int .i64 f0, .int .i64 f1, .slice Ao50 d8.length co50] 30 (0, 0)) (bk_ b6) hb);have n9_ := qa.mk (qk (g := d2) (o := .cells #[.int .i64 0, .int .i64 0, .slice none 0 0] 30 (0, 0)) (bk_ f8) hb);have n10_ := qa.mk (qn (be6_ HB d4 d5 d7 f4 f5 n3) hb);clear b4;clear b3;clear b0;clear g9;clear b1;clear b2;clear b5;clear b7;clear b6;clear f8;clear HB;have b4 := n0_;have b3 := n1_;have b0 := n2_;have g9 := n3_;have b1 := n4_;have b2 := n5_;have b5 := n6_;have b7 := n7_;have b6 := n8_;have f8 := n9_;have HB := n10_;clear n0_ n1_ n2_ n3_ n4_ n5_ n6_ n7_ n8_ n9_ n10_
              (try clear hb)
              (try clear hb2)
              (try clear hk)
              (try clear hi)
              obtain ⟨Ao142, co142, eo142⟩ := Kd.zr g9.out
              (first | subst eo142 | (injection eo142 with f1_ f2_ f3_; have f4_ := f1_.symm; have f5_ := f3_.symm; clear f1_ f2_ f3_; subst f4_; subst f5_))
              refine hK.out _ _ ⟨(qg b1.out 0).trans rfl, (qg b1.out 1).trans rfl, (qg b1.out 2).trans rfl, (qg b2.out 0).trans rfl, (qg b2.out 1).trans rfl, (qg b2.out 2).trans rfl⟩ (fun hHeld => ?_)
              clear hK K
              refine norm_ (a' := ?_) ?_ ?_
              rotate_left
              ·show Act.put _ (some 83) _ = _
               simp only [Act.put, sA_, sB_, sC_, i64_w, i32_w]
               rfl
              refine one_ (i := 4) (N := some 84) #[true, true, true, true, true, false, false, false, true, false, false] rfl rfl (zn HT_.out (by kernel_rfl)) (by decide) (fun K hK => ?_)
              refine goes_ Try.func25 (by kernel_rfl) rfl #[.agg #[.int .i64 B5, .int .i64 B6, .slice Ao142 p5.length co142], .agg #[.int .i64 B7, .int .i64 B8, .bool B9]] (by rfl) rfl rfl (by (try simp only [List.map_toArray, List.map_cons, List.map_nil]); first | done | rfl | (simp only [List.length_drop, List.length_take]; rfl)) ?_
              with_reducible refine (impl_OpenBlock.calls kj78 B5 B6 _ _ p5 B7 B8 B9 o3 o4 o0 D3 _ ?side1 ?side2 A128.out).mono ?_
              (case side1 => repeat (first | exact (Kd.za g9.out).2.2 | (with_reducible refine Kd.zg ?_ _) | (with_reducible refine Kd.zf ?_ _) | (with_reducible refine Kd.zi ?_)))
              (case side2 => exact (Kd.za g9.out).2.1)
              rintro e w143 ⟨v287, rfl, ho0, hb⟩
              refine ⟨_, rfl, ?_⟩
              have n0_ := qa.mk (Kd.zh (kr_ b4) (Kd.zo ho0) hb);have n1_ := qa.mk (Kd.zh (kr_ b3) (Kd.zo ho0) hb);have n2_ := qa.mk (Kd.zh (kr_ b0) (Kd.zo ho0) hb);have n3_ := qa.mk (Kd.zh (kr_ g9) (Kd.zo ho0) hb);have n4_ := qa.mk (Kd.zt (Kd.zp (Kd.zp (Kd.zp (Kd.zp ho0 (Kd.R_lt (kr_ b4))) (Kd.R_lt (kr_ b3))) (Kd.R_lt (kr_ b0))) (Kd.R_lt (kr_ g9))) (qm (be6_ HB d4 d5 d7 f4 f5 n3)));have n5_ := qa.mk (qk (g := d0) (o := .cells #[.int .i64 a0_0, .int .i64 a0_1, .slice A0_2 l0_2.length c0_2] 24 (0, 0)) (bk_ b1) hb);have n6_ := qa.mk (qk (g := d1) (o := .cells #[.int .i64 a1_0, .int .i64 a1_1, .bool a1_2] 35 (0, 0)) (bk_ b2) hb);have n7_ := qa.mk (qk (g := b9) (o := .cells #[.int .i64 f2, .int .i64 f3, .slice Ao31 d6.length co31] 30 (0, 0)) (bk_ b5) hb);have n8_ := qa.mk (qk (g := d3) (o := .cells #[.int .i64 f9, .int .i64 g0, .slice Ao41 n2.length co41] 30 (0, 0)) (bk_ b7) hb);have n9_ := qa.mk (qk (g := b8) (o := .cells #[.int .i64 f0, .int .i64 f1, .slice Ao50 d8.length co50] 30 (0, 0)) (bk_ b6) hb);have n10_ := qa.mk (qk (g := d2) (o := .cells #[.int .i64 0, .int .i64 0, .slice none 0 0] 30 (0, 0)) (bk_ f8) hb);have n11_ := qa.mk (qn (be6_ HB d4 d5 d7 f4 f5 n3) hb);clear b4;clear b3;clear b0;clear g9;clear b1;clear b2;clear b5;clear b7;clear b6;clear f8;clear HB;have b4 := n0_;have b3 := n1_;have b0 := n2_;have g9 := n3_;have o2 := n4_;have b1 := n5_;have b2 := n6_;have b5 := n7_;have b7 := n8_;have b6 := n9_;have f8 := n10_;have HB := n11_;clear n0_ n1_ n2_ n3_ n4_ n5_ n6_ n7_ n8_ n9_ n10_ n11_
              (try clear hb)
              (try clear hb2)
              (try clear hk)
              (try clear hi)
              (try clear ho0)
              refine hK.out _ _ ⟨(qg b1.out 0).trans rfl, (qg b1.out 1).trans rfl, (qg b1.out 2).trans rfl, (qg b2.out 0).trans rfl, (qg b2.out 1).trans rfl, (qg b2.out 2).trans rfl⟩ (fun hHeld => ?_)
              clear hK K
              refine norm_ (a' := ?_) ?_ ?_
              rotate_left
              ·show Act.put _ (some 84) _ = _
               simp only [Act.put, sA_, sB_, sC_, i64_w, i32_w]
               rfl
              refine pure_ (i := 5) (N := some 79) (v := ?_) (a' := ?_) #[true, true, true, true, true, true, false, false, true, false, false] rfl rfl (qv HT_.out (by kernel_rfl)) (fun _ _ _ h => h) (Or.inl ⟨by rfl, ?_⟩) ?_ ?_
              rotate_left
              ·intro w'
               go_simp
               with_reducible rfl
              rotate_left
              ·simp only [Act.put, sA_, sB_, sC_, i64_w, i32_w]
               rfl
              refine pure_ (i := 6) (N := some 85) (v := ?_) (a' := ?_) #[true, true, true, true, true, true, true, false, true, false, false] rfl rfl (qv HT_.out (by kernel_rfl)) (fun _ _ _ h => h) (Or.inl ⟨by rfl, ?_⟩) ?_ ?_
              rotate_left
              ·intro w'
               go_simp
               with_reducible rfl
              rotate_left
              ·simp only [Act.put, sA_, sB_, sC_, i64_w, i32_w]
               rfl
              refine pure_ (i := 7) (N := some 86) (v := ?_) (a' := ?_) #[true, true, true, true, true, true, true, true, true, false, false] rfl rfl (qv HT_.out (by kernel_rfl)) (fun _ _ _ h => h) (Or.inl ⟨by rfl, ?_⟩) ?_ ?_
              rotate_left
              ·intro w'
               go_simp
               with_reducible rfl
              rotate_left
              ·simp only [Act.put, sA_, sB_, sC_, i64_w, i32_w]
               rfl
              exact norm_ (by simp only [putAll, Act.put, sA_, sB_, sC_]) (hCont (.slice Ao142 p5.length co142, v287, d2) _ ⟨hHeld, (by (with_reducible repeat (first | apply Kd.qo | apply Kd.qp | apply Kd.qq)); exact Kd.zc g9.out (fun _ hk => ⟨hk.2, ⟨hk.1.1.1.2, ⟨hk.1.1.2, hk.1.2⟩⟩⟩)), (by (with_reducible repeat (first | apply Kd.qo | apply Kd.qp | apply Kd.qq)); exact Kd.zc o2.out (fun _ hk => ⟨hk.2, ⟨hk.1.1.1.2, ⟨hk.1.1.2, hk.1.2⟩⟩⟩)), (by (with_reducible repeat (first | apply Kd.qo | apply Kd.qp | apply Kd.qq)); exact Kd.zc b4.out (fun _ hk => ⟨hk.1.2, ⟨hk.2, ⟨hk.1.1.1, hk.1.1.2⟩⟩⟩)), (by (with_reducible repeat (first | apply Kd.qo | apply Kd.qp | apply Kd.qq)); exact Kd.zc b3.out (fun _ hk => ⟨hk.1.2, ⟨hk.2, ⟨hk.1.1.1, hk.1.1.2⟩⟩⟩)), (by (with_reducible repeat (first | apply Kd.qo | apply Kd.qp | apply Kd.qq)); exact Kd.zc b0.out (fun _ hk => ⟨hk.1.2, ⟨hk.2, ⟨hk.1.1.1, hk.1.1.2⟩⟩⟩)), (bk_ b1), (bk_ b2), (bk_ b5), (bk_ b7), (bk_ b6), (bk_ f8), D1.out, n3.out, g5.out, n4.out, g6.out, n5.out, m6.out, n6.out, m7.out, n7.out, m1.out, n1.out, (be6_ HB d4 d5 d7 f4 f5 n3)⟩)
            ·skip
             refine box_step ?hg (N := 14) ?hd (cs := #[.int .i64 0, .int .i64 0, .slice none 0 0]) (t := 30) ?hr ?_; (case hd => rfl); (case hg => rfl); (case hr => first | (go_simp; done) | (go_simp; rfl))
             intro d2 hg w139 hbox hb
             have n0_ := qa.mk (Kd.qz (kr_ b4) hb);have n1_ := qa.mk (Kd.qz (kr_ b3) hb);have n2_ := qa.mk (Kd.qz (kr_ b0) hb);have n3_ := qa.mk (qk (g := d0) (o := .cells #[.int .i64 a0_0, .int .i64 a0_1, .slice A0_2 l0_2.length c0_2] 24 (0, 0)) (bk_ b1) hb);have n4_ := qa.mk (qk (g := d1) (o := .cells #[.int .i64 a1_0, .int .i64 a1_1, .bool a1_2] 35 (0, 0)) (bk_ b2) hb);have n5_ := qa.mk (qk (g := b9) (o := .cells #[.int .i64 f2, .int .i64 f3, .slice Ao31 d6.length co31] 30 (0, 0)) (bk_ b5) hb);have n6_ := qa.mk (qk (g := d3) (o := .cells #[.int .i64 f9, .int .i64 g0, .slice Ao41 n2.length co41] 30 (0, 0)) (bk_ b7) hb);have n7_ := qa.mk (qk (g := b8) (o := .cells #[.int .i64 f0, .int .i64 f1, .slice Ao50 d8.length co50] 30 (0, 0)) (bk_ b6) hb);have n8_ := qa.mk (qn (be5_ HB d4 d5 d7 f4 f5) hb);have n9_ := qa.mk (hbox);have n10_ := qa.mk ((by rw [hg]; exact (qm (be5_ HB d4 d5 d7 f4 f5)) : w.heap.size ≤ d2));have n11_ := qa.mk ((by rw [hg]; exact (qm (be5_ HB d4 d5 d7 f4 f5)) : w.heap.size ≤ d2));have n12_ := qa.mk ((by rw [hg]; exact Nat.ne_of_lt (qr (g := d0) (o := .cells #[.int .i64 a0_0, .int .i64 a0_1, .slice A0_2 l0_2.length c0_2] 24 (0, 0)) (bk_ b1)) : d0 ≠ d2));have n13_ := qa.mk ((by rw [hg]; exact Nat.ne_of_gt (qr (g := d0) (o := .cells #[.int .i64 a0_0, .int .i64 a0_1, .slice A0_2 l0_2.length c0_2] 24 (0, 0)) (bk_ b1)) : d2 ≠ d0));have n14_ := qa.mk ((by rw [hg]; exact Nat.ne_of_lt (qr (g := d1) (o := .cells #[.int .i64 a1_0, .int .i64 a1_1, .bool a1_2] 35 (0, 0)) (bk_ b2)) : d1 ≠ d2));have n15_ := qa.mk ((by rw [hg]; exact Nat.ne_of_gt (qr (g := d1) (o := .cells #[.int .i64 a1_0, .int .i64 a1_1, .bool a1_2] 35 (0, 0)) (bk_ b2)) : d2 ≠ d1));have n16_ := qa.mk ((by rw [hg]; exact Nat.ne_of_lt (qr (g := b9) (o := .cells #[.int .i64 f2, .int .i64 f3, .slice Ao31 d6.length co31] 30 (0, 0)) (bk_ b5)) : b9 ≠ d2));have n17_ := qa.mk ((by rw [hg]; exact Nat.ne_of_gt (qr (g := b9) (o := .cells #[.int .i64 f2, .int .i64 f3, .slice Ao31 d6.length co31] 30 (0, 0)) (bk_ b5)) : d2 ≠ b9))
             have n18_ := qa.mk ((by rw [hg]; exact Nat.ne_of_lt (qr (g := d3) (o := .cells #[.int .i64 f9, .int .i64 g0, .slice Ao41 n2.length co41] 30 (0, 0)) (bk_ b7)) : d3 ≠ d2));have n19_ := qa.mk ((by rw [hg]; exact Nat.ne_of_gt (qr (g := d3) (o := .cells #[.int .i64 f9, .int .i64 g0, .slice Ao41 n2.length co41] 30 (0, 0)) (bk_ b7)) : d2 ≠ d3));have n20_ := qa.mk ((by rw [hg]; exact Nat.ne_of_lt (qr (g := b8) (o := .cells #[.int .i64 f0, .int .i64 f1, .slice Ao50 d8.length co50] 30 (0, 0)) (bk_ b6)) : b8 ≠ d2));have n21_ := qa.mk ((by rw [hg]; exact Nat.ne_of_gt (qr (g := b8) (o := .cells #[.int .i64 f0, .int .i64 f1, .slice Ao50 d8.length co50] 30 (0, 0)) (bk_ b6)) : d2 ≠ b8));clear b4;clear b3;clear b0;clear b1;clear b2;clear b5;clear b7;clear b6;clear HB;have b4 := n0_;have b3 := n1_;have b0 := n2_;have b1 := n3_;have b2 := n4_;have b5 := n5_;have b7 := n6_;have b6 := n7_;have HB := n8_;have f8 := n9_;have D1 := n10_;have n3 := n11_;have g5 := n12_;have n4 := n13_;have g6 := n14_;have n5 := n15_;have m6 := n16_;have n6 := n17_;have m7 := n18_;have n7 := n19_;have m1 := n20_;have n1 := n21_;clear n0_ n1_ n2_ n3_ n4_ n5_ n6_ n7_ n8_ n9_ n10_ n11_ n12_ n13_ n14_ n15_ n16_ n17_ n18_ n19_ n20_ n21_;clear hb hbox hg
             refine hK.out _ _ ⟨(qg b1.out 0).trans rfl, (qg b1.out 1).trans rfl, (qg b1.out 2).trans rfl, (qg b2.out 0).trans rfl, (qg b2.out 1).trans rfl, (qg b2.out 2).trans rfl⟩ (fun hHeld => ?_)
             clear hK K
             refine norm_ (a' := ?_) ?_ ?_
             rotate_left
             ·show Act.put _ (some 14) _ = _
              simp only [Act.put, sA_, sB_, sC_, i64_w, i32_w]
              rfl
             refine one_ (i := 1) (N := some 81) #[true, true, true, false, false, false, false, false, true, false, false] rfl rfl (zn HT_.out (by kernel_rfl)) (by decide) (fun K hK => ?_)
             refine goes_ Try.func20 (by kernel_rfl) rfl #[.agg #[.int .i64 a0_0, .int .i64 a0_1, .slice A0_2 l0_2.length c0_2]] (by rfl) rfl rfl (by (try simp only [List.map_toArray, List.map_cons, List.map_nil]); first | done | rfl | (simp only [List.length_drop, List.length_take]; rfl)) ?_
             with_reducible refine (laws_toCity.calls kj78 a0_0 a0_1 _ _ l0_2 B5 B6 p5 _ ?side1 ?side2 A126.out).mono ?_
             (case side1 => repeat (first | exact (Kd.zm HR0_2.out HB.out) | (with_reducible refine Kd.zg ?_ _) | (with_reducible refine Kd.zf ?_ _) | (with_reducible refine Kd.zi ?_)))
             (case side2 => exact HC0_2.out)
             rintro e w140 ⟨v279, rfl, ho0, hb⟩
             refine ⟨_, rfl, ?_⟩
             have n0_ := qa.mk (Kd.zh (kr_ b4) (Kd.zo ho0) hb);have n1_ := qa.mk (Kd.zh (kr_ b3) (Kd.zo ho0) hb);have n2_ := qa.mk (Kd.zh (kr_ b0) (Kd.zo ho0) hb);have n3_ := qa.mk (Kd.zt (Kd.zp (Kd.zp (Kd.zp ho0 (Kd.R_lt (kr_ b4))) (Kd.R_lt (kr_ b3))) (Kd.R_lt (kr_ b0))) (qm (be6_ HB d4 d5 d7 f4 f5 n3)));have n4_ := qa.mk (qk (g := d0) (o := .cells #[.int .i64 a0_0, .int .i64 a0_1, .slice A0_2 l0_2.length c0_2] 24 (0, 0)) (bk_ b1) hb);have n5_ := qa.mk (qk (g := d1) (o := .cells #[.int .i64 a1_0, .int .i64 a1_1, .bool a1_2] 35 (0, 0)) (bk_ b2) hb);have n6_ := qa.mk (qk (g := b9) (o := .cells #[.int .i64 f2, .int .i64 f3, .slice Ao31 d6.length co31] 30 (0, 0)) (bk_ b5) hb);have n7_ := qa.mk (qk (g := d3) (o := .cells #[.int .i64 f9, .int .i64 g0, .slice Ao41 n2.length co41] 30 (0, 0)) (bk_ b7) hb);have n8_ := qa.mk (qk (g := b8) (o := .cells #[.int .i64 f0, .int .i64 f1, .slice Ao50 d8.length co50] 30 (0, 0)) (bk_ b6) hb);have n9_ := qa.mk (qk (g := d2) (o := .cells #[.int .i64 0, .int .i64 0, .slice none 0 0] 30 (0, 0)) (bk_ f8) hb);have n10_ := qa.mk (qn (be6_ HB d4 d5 d7 f4 f5 n3) hb);clear b4;clear b3;clear b0;clear b1;clear b2;clear b5;clear b7;clear b6;clear f8;clear HB;have b4 := n0_;have b3 := n1_;have b0 := n2_;have g9 := n3_;have b1 := n4_;have b2 := n5_;have b5 := n6_;have b7 := n7_;have b6 := n8_;have f8 := n9_;have HB := n10_;clear n0_ n1_ n2_ n3_ n4_ n5_ n6_ n7_ n8_ n9_ n10_
             (try clear hb)
             (try clear hb2)
             (try clear hk)
             (try clear hi)
             (try clear ho0)
             refine hK.out _ _ ⟨(qg b1.out 0).trans rfl, (qg b1.out 1).trans rfl, (qg b1.out 2).trans rfl, (qg b2.out 0).trans rfl, (qg b2.out 1).trans rfl, (qg b2.out 2).trans rfl⟩ (fun hHeld => ?_)
             clear hK K
             refine norm_ (a' := ?_) ?_ ?_
             rotate_left
             ·show Act.put _ (some 81) _ = _
              simp only [Act.put, sA_, sB_, sC_, i64_w, i32_w]
              rfl
             refine one_ (i := 3) (N := some 83) #[true, true, true, true, false, false, false, false, true, false, false] rfl rfl (zn HT_.out (by kernel_rfl)) (by decide) (fun K hK => ?_)
             refine goes_ Try.func24 (by kernel_rfl) rfl #[.agg #[.int .i64 a1_0, .int .i64 a1_1, .bool a1_2]] (by rfl) rfl rfl (by (try simp only [List.map_toArray, List.map_cons, List.map_nil]); first | done | rfl | (simp only [List.length_drop, List.length_take]; rfl)) ?_
             with_reducible refine (laws_toBlock.calls a1_0 a1_1 a1_2 B7 B8 B9 _ A127.out).mono ?_
             rintro e w141 ⟨rfl, hb⟩
             refine ⟨_, rfl, ?_⟩
             have n0_ := qa.mk (Kd.qz (kr_ b4) hb);have n1_ := qa.mk (Kd.qz (kr_ b3) hb);have n2_ := qa.mk (Kd.qz (kr_ b0) hb);have n3_ := qa.mk (Kd.qz (kr_ g9) hb);have n4_ := qa.mk (qk (g := d0) (o := .cells #[.int .i64 a0_0, .int .i64 a0_1, .slice A0_2 l0_2.length c0_2] 24 (0, 0)) (bk_ b1) hb);have n5_ := qa.mk (qk (g := d1) (o := .cells #[.int .i64 a1_0, .int .i64 a1_1, .bool a1_2] 35 (0, 0)) (bk_ b2) hb);have n6_ := qa.mk (qk (g := b9) (o := .cells #[.int .i64 f2, .int .i64 f3, .slice Ao31 d6.length co31] 30 (0, 0)) (bk_ b5) hb);have n7_ := qa.mk (qk (g := d3) (o := .cells #[.int .i64 f9, .int .i64 g0, .slice Ao41 n2.length co41] 30 (0, 0)) (bk_ b7) hb);have n8_ := qa.mk (qk (g := b8) (o := .cells #[.int .i64 f0, .int .i64 f1, .slice Ao50 d8.length co50] 30 (0, 0)) (bk_ b6) hb);have n9_ := qa.mk (qk (g := d2) (o := .cells #[.int .i64 0, .int .i64 0, .slice none 0 0] 30 (0, 0)) (bk_ f8) hb);have n10_ := qa.mk (qn (be6_ HB d4 d5 d7 f4 f5 n3) hb);clear b4;clear b3;clear b0;clear g9;clear b1;clear b2;clear b5;clear b7;clear b6;clear f8;clear HB;have b4 := n0_;have b3 := n1_;have b0 := n2_;have g9 := n3_;have b1 := n4_;have b2 := n5_;have b5 := n6_;have b7 := n7_;have b6 := n8_;have f8 := n9_;have HB := n10_;clear n0_ n1_ n2_ n3_ n4_ n5_ n6_ n7_ n8_ n9_ n10_
             (try clear hb)
             (try clear hb2)
             (try clear hk)
             (try clear hi)
             obtain ⟨Ao142, co142, eo142⟩ := Kd.zr g9.out
             (first | subst eo142 | (injection eo142 with f1_ f2_ f3_; have f4_ := f1_.symm; have f5_ := f3_.symm; clear f1_ f2_ f3_; subst f4_; subst f5_))
             refine hK.out _ _ ⟨(qg b1.out 0).trans rfl, (qg b1.out 1).trans rfl, (qg b1.out 2).trans rfl, (qg b2.out 0).trans rfl, (qg b2.out 1).trans rfl, (qg b2.out 2).trans rfl⟩ (fun hHeld => ?_)
             clear hK K
             refine norm_ (a' := ?_) ?_ ?_
             rotate_left
             ·show Act.put _ (some 83) _ = _
              simp only [Act.put, sA_, sB_, sC_, i64_w, i32_w]
              rfl
             refine one_ (i := 4) (N := some 84) #[true, true, true, true, true, false, false, false, true, false, false] rfl rfl (zn HT_.out (by kernel_rfl)) (by decide) (fun K hK => ?_)
             refine goes_ Try.func25 (by kernel_rfl) rfl #[.agg #[.int .i64 B5, .int .i64 B6, .slice Ao142 p5.length co142], .agg #[.int .i64 B7, .int .i64 B8, .bool B9]] (by rfl) rfl rfl (by (try simp only [List.map_toArray, List.map_cons, List.map_nil]); first | done | rfl | (simp only [List.length_drop, List.length_take]; rfl)) ?_
             with_reducible refine (impl_OpenBlock.calls kj78 B5 B6 _ _ p5 B7 B8 B9 o3 o4 o0 D3 _ ?side1 ?side2 A128.out).mono ?_
             (case side1 => repeat (first | exact (Kd.za g9.out).2.2 | (with_reducible refine Kd.zg ?_ _) | (with_reducible refine Kd.zf ?_ _) | (with_reducible refine Kd.zi ?_)))
             (case side2 => exact (Kd.za g9.out).2.1)
             rintro e w143 ⟨v287, rfl, ho0, hb⟩
             refine ⟨_, rfl, ?_⟩
             have n0_ := qa.mk (Kd.zh (kr_ b4) (Kd.zo ho0) hb);have n1_ := qa.mk (Kd.zh (kr_ b3) (Kd.zo ho0) hb);have n2_ := qa.mk (Kd.zh (kr_ b0) (Kd.zo ho0) hb);have n3_ := qa.mk (Kd.zh (kr_ g9) (Kd.zo ho0) hb);have n4_ := qa.mk (Kd.zt (Kd.zp (Kd.zp (Kd.zp (Kd.zp ho0 (Kd.R_lt (kr_ b4))) (Kd.R_lt (kr_ b3))) (Kd.R_lt (kr_ b0))) (Kd.R_lt (kr_ g9))) (qm (be6_ HB d4 d5 d7 f4 f5 n3)));have n5_ := qa.mk (qk (g := d0) (o := .cells #[.int .i64 a0_0, .int .i64 a0_1, .slice A0_2 l0_2.length c0_2] 24 (0, 0)) (bk_ b1) hb);have n6_ := qa.mk (qk (g := d1) (o := .cells #[.int .i64 a1_0, .int .i64 a1_1, .bool a1_2] 35 (0, 0)) (bk_ b2) hb);have n7_ := qa.mk (qk (g := b9) (o := .cells #[.int .i64 f2, .int .i64 f3, .slice Ao31 d6.length co31] 30 (0, 0)) (bk_ b5) hb);have n8_ := qa.mk (qk (g := d3) (o := .cells #[.int .i64 f9, .int .i64 g0, .slice Ao41 n2.length co41] 30 (0, 0)) (bk_ b7) hb);have n9_ := qa.mk (qk (g := b8) (o := .cells #[.int .i64 f0, .int .i64 f1, .slice Ao50 d8.length co50] 30 (0, 0)) (bk_ b6) hb);have n10_ := qa.mk (qk (g := d2) (o := .cells #[.int .i64 0, .int .i64 0, .slice none 0 0] 30 (0, 0)) (bk_ f8) hb);have n11_ := qa.mk (qn (be6_ HB d4 d5 d7 f4 f5 n3) hb);clear b4;clear b3;clear b0;clear g9;clear b1;clear b2;clear b5;clear b7;clear b6;clear f8;clear HB;have b4 := n0_;have b3 := n1_;have b0 := n2_;have g9 := n3_;have o2 := n4_;have b1 := n5_;have b2 := n6_;have b5 := n7_;have b7 := n8_;have b6 := n9_;have f8 := n10_;have HB := n11_;clear n0_ n1_ n2_ n3_ n4_ n5_ n6_ n7_ n8_ n9_ n10_ n11_
             (try clear hb)
             (try clear hb2)
             (try clear hk)
             (try clear hi)
             (try clear ho0)
             refine hK.out _ _ ⟨(qg b1.out 0).trans rfl, (qg b1.out 1).trans rfl, (qg b1.out 2).trans rfl, (qg b2.out 0).trans rfl, (qg b2.out 1).trans rfl, (qg b2.out 2).trans rfl⟩ (fun hHeld => ?_)
             clear hK K
             refine norm_ (a' := ?_) ?_ ?_
             rotate_left
             ·show Act.put _ (some 84) _ = _
              simp only [Act.put, sA_, sB_, sC_, i64_w, i32_w]
              rfl
             refine pure_ (i := 5) (N := some 79) (v := ?_) (a' := ?_) #[true, true, true, true, true, true, false, false, true, false, false] rfl rfl (qv HT_.out (by kernel_rfl)) (fun _ _ _ h => h) (Or.inl ⟨by rfl, ?_⟩) ?_ ?_
             rotate_left
             ·intro w'
              go_simp
              with_reducible rfl
             rotate_left
             ·simp only [Act.put, sA_, sB_, sC_, i64_w, i32_w]
              rfl
             refine pure_ (i := 6) (N := some 85) (v := ?_) (a' := ?_) #[true, true, true, true, true, true, true, false, true, false, false] rfl rfl (qv HT_.out (by kernel_rfl)) (fun _ _ _ h => h) (Or.inl ⟨by rfl, ?_⟩) ?_ ?_
             rotate_left
             ·intro w'
              go_simp
              with_reducible rfl
             rotate_left
             ·simp only [Act.put, sA_, sB_, sC_, i64_w, i32_w]
              rfl
             refine pure_ (i := 7) (N := some 86) (v := ?_) (a' := ?_) #[true, true, true, true, true, true, true, true, true, false, false] rfl rfl (qv HT_.out (by kernel_rfl)) (fun _ _ _ h => h) (Or.inl ⟨by rfl, ?_⟩) ?_ ?_
             rotate_left
             ·intro w'
              go_simp
              with_reducible rfl
             rotate_left
             ·simp only [Act.put, sA_, sB_, sC_, i64_w, i32_w]
              rfl
             exact norm_ (by simp only [putAll, Act.put, sA_, sB_, sC_]) (hCont (.slice Ao142 p5.length co142, v287, d2) _ ⟨hHeld, (by (with_reducible repeat (first | apply Kd.qo | apply Kd.qp | apply Kd.qq)); exact Kd.zc g9.out (fun _ hk => ⟨hk.2, ⟨hk.1.1.1.2, ⟨hk.1.1.2, hk.1.2⟩⟩⟩)), (by (with_reducible repeat (first | apply Kd.qo | apply Kd.qp | apply Kd.qq)); exact Kd.zc o2.out (fun _ hk => ⟨hk.2, ⟨hk.1.1.1.2, ⟨hk.1.1.2, hk.1.2⟩⟩⟩)), (by (with_reducible repeat (first | apply Kd.qo | apply Kd.qp | apply Kd.qq)); exact Kd.zc b4.out (fun _ hk => ⟨hk.1.2, ⟨hk.2, ⟨hk.1.1.1, hk.1.1.2⟩⟩⟩)), (by (with_reducible repeat (first | apply Kd.qo | apply Kd.qp | apply Kd.qq)); exact Kd.zc b3.out (fun _ hk => ⟨hk.1.2, ⟨hk.2, ⟨hk.1.1.1, hk.1.1.2⟩⟩⟩)), (by (with_reducible repeat (first | apply Kd.qo | apply Kd.qp | apply Kd.qq)); exact Kd.zc b0.out (fun _ hk => ⟨hk.1.2, ⟨hk.2, ⟨hk.1.1.1, hk.1.1.2⟩⟩⟩)), (bk_ b1), (bk_ b2), (bk_ b5), (bk_ b7), (bk_ b6), (bk_ f8), D1.out, n3.out, g5.out, n4.out, g6.out, n5.out, m6.out, n6.out, m7.out, n7.out, m1.out, n1.out, (be6_ HB d4 d5 d7 f4 f5 n3)⟩)
           rintro ⟨v279, v287, d2⟩ w144 ⟨hS_, h0_, h1_, h2_, h3_, h4_, h5_, h6_, h7_, h8_, h9_, h10_, h11_, h12_, h13_, h14_, h15_, h16_, h17_, h18_, h19_, h20_, h21_, h22_, h23_⟩
           have n0_ : qa (Kd.R k38 38 w144 w.heap.size (fun k_ => some k_ ≠ (v287 : Value).ownBlock ∧ some k_ ≠ (.slice Ao31 d6.length co31 : Value).ownBlock ∧ some k_ ≠ (.slice Ao41 n2.length co41 : Value).ownBlock ∧ some k_ ≠ (.slice Ao50 d8.length co50 : Value).ownBlock) v279 p5) := ⟨h0_⟩;have n1_ : qa (Kd.R k38 38 w144 w.heap.size (fun k_ => some k_ ≠ (v279 : Value).ownBlock ∧ some k_ ≠ (.slice Ao31 d6.length co31 : Value).ownBlock ∧ some k_ ≠ (.slice Ao41 n2.length co41 : Value).ownBlock ∧ some k_ ≠ (.slice Ao50 d8.length co50 : Value).ownBlock) v287 o0) := ⟨h1_⟩;have n2_ : qa (Kd.R k38 38 w144 w.heap.size (fun k_ => some k_ ≠ (v279 : Value).ownBlock ∧ some k_ ≠ (v287 : Value).ownBlock ∧ some k_ ≠ (.slice Ao41 n2.length co41 : Value).ownBlock ∧ some k_ ≠ (.slice Ao50 d8.length co50 : Value).ownBlock) (.slice Ao31 d6.length co31) d6) := ⟨h2_⟩;have n3_ : qa (Kd.R k38 38 w144 w.heap.size (fun k_ => some k_ ≠ (v279 : Value).ownBlock ∧ some k_ ≠ (v287 : Value).ownBlock ∧ some k_ ≠ (.slice Ao31 d6.length co31 : Value).ownBlock ∧ some k_ ≠ (.slice Ao50 d8.length co50 : Value).ownBlock) (.slice Ao41 n2.length co41) n2) := ⟨h3_⟩;have n4_ : qa (Kd.R k38 38 w144 w.heap.size (fun k_ => some k_ ≠ (v279 : Value).ownBlock ∧ some k_ ≠ (v287 : Value).ownBlock ∧ some k_ ≠ (.slice Ao31 d6.length co31 : Value).ownBlock ∧ some k_ ≠ (.slice Ao41 n2.length co41 : Value).ownBlock) (.slice Ao50 d8.length co50) n8) := ⟨h4_⟩;have n5_ : qa (w144.heap[d0]? = some (.cells #[.int .i64 a0_0, .int .i64 a0_1, .slice A0_2 l0_2.length c0_2] 24 (0, 0))) := ⟨h5_⟩;have n6_ : qa (w144.heap[d1]? = some (.cells #[.int .i64 a1_0, .int .i64 a1_1, .bool a1_2] 35 (0, 0))) := ⟨h6_⟩;have n7_ : qa (w144.heap[b9]? = some (.cells #[.int .i64 f2, .int .i64 f3, .slice Ao31 d6.length co31] 30 (0, 0))) := ⟨h7_⟩;have n8_ : qa (w144.heap[d3]? = some (.cells #[.int .i64 f9, .int .i64 g0, .slice Ao41 n2.length co41] 30 (0, 0))) := ⟨h8_⟩;have n9_ : qa (w144.heap[b8]? = some (.cells #[.int .i64 f0, .int .i64 f1, .slice Ao50 d8.length co50] 30 (0, 0))) := ⟨h9_⟩
           have n10_ : qa (w144.heap[d2]? = some (.cells #[.int .i64 0, .int .i64 0, .slice none 0 0] 30 (0, 0))) := ⟨h10_⟩;have n11_ : qa (w.heap.size ≤ d2) := ⟨h11_⟩;have n12_ : qa (w.heap.size ≤ d2) := ⟨h12_⟩;have n13_ : qa (d0 ≠ d2) := ⟨h13_⟩;have n14_ : qa (d2 ≠ d0) := ⟨h14_⟩;have n15_ : qa (d1 ≠ d2) := ⟨h15_⟩;have n16_ : qa (d2 ≠ d1) := ⟨h16_⟩;have n17_ : qa (b9 ≠ d2) := ⟨h17_⟩;have n18_ : qa (d2 ≠ b9) := ⟨h18_⟩;have n19_ : qa (d3 ≠ d2) := ⟨h19_⟩;have n20_ : qa (d2 ≠ d3) := ⟨h20_⟩;have n21_ : qa (b8 ≠ d2) := ⟨h21_⟩;have n22_ : qa (d2 ≠ b8) := ⟨h22_⟩;have n23_ : qa (Below w.heap.size w w144) := ⟨h23_⟩;clear b4;clear b3;clear b0;clear b1;clear b2;clear b5;clear b7;clear b6;clear HB;clear h0_ h1_ h2_ h3_ h4_ h5_ h6_ h7_ h8_ h9_ h10_ h11_ h12_ h13_ h14_ h15_ h16_ h17_ h18_ h19_ h20_ h21_ h22_ h23_;have g9 := n0_;have o2 := n1_;have b4 := n2_;have b3 := n3_;have b0 := n4_;have b1 := n5_;have b2 := n6_;have b5 := n7_;have b7 := n8_;have b6 := n9_;have f8 := n10_;have D1 := n11_;have n3 := n12_;have g5 := n13_;have n4 := n14_;have g6 := n15_;have n5 := n16_;have m6 := n17_;have n6 := n18_;have m7 := n19_;have n7 := n20_;have m1 := n21_;have n1 := n22_;have HB := n23_;clear n0_ n1_ n2_ n3_ n4_ n5_ n6_ n7_ n8_ n9_ n10_ n11_ n12_ n13_ n14_ n15_ n16_ n17_ n18_ n19_ n20_ n21_ n22_ n23_;have hHeld : w144.cell? ⟨d0, 0, none⟩ = some (.int .i64 a0_0) ∧ w144.cell? ⟨d0, 1, none⟩ = some (.int .i64 a0_1) ∧ w144.cell? ⟨d0, 2, none⟩ = some (.slice A0_2 l0_2.length c0_2) ∧ w144.cell? ⟨d1, 0, none⟩ = some (.int .i64 a1_0) ∧ w144.cell? ⟨d1, 1, none⟩ = some (.int .i64 a1_1) ∧ w144.cell? ⟨d1, 2, none⟩ = some (.bool a1_2) := hS_;obtain ⟨Ao147, co147, eo147⟩ := Kd.zr o2.out
           (first | subst eo147 | (injection eo147 with f1_ f2_ f3_; have f4_ := f1_.symm; have f5_ := f3_.symm; clear f1_ f2_ f3_; subst f4_; subst f5_))
           refine norm_ (a' := ?_) ?_ ?_
           rotate_left
           ·simp only [putAll, Act.put, sA_, sB_, sC_]
            rfl
           refine one_ (i := 9) (N := none) #[true, true, true, true, true, true, true, true, true, true, false] rfl rfl (zn HT_.out (by kernel_rfl)) (by decide) (fun K hK => ?_)
           have hs145 : w144.cell? ⟨d2, 0, none⟩ = some (.int .i64 0) := (qg f8.out 0).trans rfl;have hfs145 := qj f8.out 0;have hns145_0 := g5.out;have hns145_1 := g6.out;have hns145_2 := m6.out;have hns145_3 := m7.out;have hns145_4 := m1.out;have hms145_0 := n4.out;have hms145_1 := n5.out;have hms145_2 := n6.out;have hms145_3 := n7.out;have hms145_4 := n1.out;have hs146 : w144.cell? ⟨d2, 1, none⟩ = some (.int .i64 0) := (qg f8.out 1).trans rfl;have hfs146 := qj f8.out 1;have hns146_0 := g5.out;have hns146_1 := g6.out;have hns146_2 := m6.out;have hns146_3 := m7.out;have hns146_4 := m1.out;have hms146_0 := n4.out;have hms146_1 := n5.out;have hms146_2 := n6.out;have hms146_3 := n7.out;have hms146_4 := n1.out;have hs148 : w144.cell? ⟨d2, 2, none⟩ = some (.slice none 0 0) := (qg f8.out 2).trans rfl;have hfs148 := qj f8.out 2;have hns148_0 := g5.out;have hns148_1 := g6.out;have hns148_2 := m6.out;have hns148_3 := m7.out;have hns148_4 := m1.out;have hms148_0 := n4.out;have hms148_1 := n5.out;have hms148_2 := n6.out;have hms148_3 := n7.out;have hms148_4 := n1.out
           refine skip_ (w1 := ?_) (by rfl) rfl ?_ ?_
           rotate_left
           ·go_simp
            rfl
           refine hK.out _ _ ⟨((cell_far (p := ⟨d2, _, none⟩) g5.out _).trans (((cell_far (p := ⟨d2, _, none⟩) g5.out _).trans (((cell_far (p := ⟨d2, _, none⟩) g5.out _).trans (hHeld.1)))))), ((cell_far (p := ⟨d2, _, none⟩) g5.out _).trans (((cell_far (p := ⟨d2, _, none⟩) g5.out _).trans (((cell_far (p := ⟨d2, _, none⟩) g5.out _).trans (hHeld.2.1)))))), ((cell_far (p := ⟨d2, _, none⟩) g5.out _).trans (((cell_far (p := ⟨d2, _, none⟩) g5.out _).trans (((cell_far (p := ⟨d2, _, none⟩) g5.out _).trans (hHeld.2.2.1)))))), ((cell_far (p := ⟨d2, _, none⟩) g6.out _).trans (((cell_far (p := ⟨d2, _, none⟩) g6.out _).trans (((cell_far (p := ⟨d2, _, none⟩) g6.out _).trans (hHeld.2.2.2.1)))))), ((cell_far (p := ⟨d2, _, none⟩) g6.out _).trans (((cell_far (p := ⟨d2, _, none⟩) g6.out _).trans (((cell_far (p := ⟨d2, _, none⟩) g6.out _).trans (hHeld.2.2.2.2.1)))))), ((cell_far (p := ⟨d2, _, none⟩) g6.out _).trans (((cell_far (p := ⟨d2, _, none⟩) g6.out _).trans (((cell_far (p := ⟨d2, _, none⟩) g6.out _).trans (hHeld.2.2.2.2.2))))))⟩ (fun hHeld => ?_)
           clear hK K
           refine pure_ (i := 10) (N := some 15) (v := ?_) (a' := ?_) #[true, true, true, true, true, true, true, true, true, true, true] rfl rfl (qv HT_.out (by kernel_rfl)) (fun _ _ _ h => h) (Or.inl ⟨by rfl, ?_⟩) ?_ ?_
           rotate_left
           ·intro w'
            go_simp
            with_reducible rfl
           rotate_left
           ·simp only [Act.put, sA_, sB_, sC_, i64_w, i32_w]
            rfl
           refine done_ (done_of HT_.out (by kernel_rfl)) ?_
           go_upto_region 25 with (fail)
           go_cut [95] (fun v95 wc => ∃ (kq : Nat) (x95_128 : Bool), v95 = .bool x95_128 ∧ qa (laws_FnExactOpenBlock.j2 kq o7 x95_128 f0 f1 n8 = some r) ∧ qa (kq ≤ kj78) ∧ qa (Kd.R k38 38 wc w.heap.size (fun k_ => some k_ ≠ ((.slice Ao41 n2.length co41) : Value).ownBlock ∧ some k_ ≠ ((.slice Ao50 d8.length co50) : Value).ownBlock ∧ some k_ ≠ ((.slice Ao147 o0.length co147) : Value).ownBlock) (.slice Ao31 d6.length co31) d6) ∧ qa (Kd.R k38 38 wc w.heap.size (fun k_ => some k_ ≠ ((.slice Ao31 d6.length co31) : Value).ownBlock ∧ some k_ ≠ ((.slice Ao50 d8.length co50) : Value).ownBlock ∧ some k_ ≠ ((.slice Ao147 o0.length co147) : Value).ownBlock) (.slice Ao41 n2.length co41) n2) ∧ qa (Kd.R k38 38 wc w.heap.size (fun k_ => some k_ ≠ ((.slice Ao31 d6.length co31) : Value).ownBlock ∧ some k_ ≠ ((.slice Ao41 n2.length co41) : Value).ownBlock ∧ some k_ ≠ ((.slice Ao147 o0.length co147) : Value).ownBlock) (.slice Ao50 d8.length co50) n8) ∧ qa (Kd.R k38 38 wc w.heap.size (fun k_ => some k_ ≠ ((.slice Ao31 d6.length co31) : Value).ownBlock ∧ some k_ ≠ ((.slice Ao41 n2.length co41) : Value).ownBlock ∧ some k_ ≠ ((.slice Ao50 d8.length co50) : Value).ownBlock) (.slice Ao147 o0.length co147) o0) ∧ qa (wc.heap[d0]? = some (.cells #[.int .i64 a0_0, .int .i64 a0_1, (.slice A0_2 l0_2.length c0_2)] 24 (0, 0))) ∧ qa (wc.heap[d1]? = some (.cells #[.int .i64 a1_0, .int .i64 a1_1, .bool a1_2] 35 (0, 0))) ∧ qa (wc.heap[b9]? = some (.cells #[.int .i64 f2, .int .i64 f3, (.slice Ao31 d6.length co31)] 30 (0, 0))) ∧ qa (wc.heap[d3]? = some (.cells #[.int .i64 f9, .int .i64 g0, (.slice Ao41 n2.length co41)] 30 (0, 0))) ∧ qa (wc.heap[b8]? = some (.cells #[.int .i64 f0, .int .i64 f1, (.slice Ao50 d8.length co50)] 30 (0, 0))) ∧ qa (wc.heap[d2]? = some (.cells #[.int .i64 o3, .int .i64 o4, (.slice Ao147 o0.length co147)] 30 (0, 0))) ∧ qa (Below w.heap.size w wc))
           case first =>
            have H := HC129.out;clear HC129;replace H := Option.bind_eq_some_iff.mp H;obtain ⟨p7, A1490, H⟩ := H;replace H : (if p7 = true then (laws_FnExactOpenBlock.j2 kj78 o7 (D3 != m9) f0 f1 n8) else (laws_FnExactOpenBlock.j2 kj78 o7 true f0 f1 n8)) = some r := H;have A149 := qa.mk A1490;clear A1490
            by_cases c150 : p7 = true
            ·subst c150
             have H1 : (laws_FnExactOpenBlock.j2 kj78 o7 (D3 != m9) f0 f1 n8) = some r := by rw [if_pos rfl] at H; exact H
             clear H;have H := H1;clear H1;have H' := qa.mk H;clear H;have hnb151 := n4.out;have hnc151 := g5.out;have hnb152 := n5.out;have hnc152 := g6.out;have hnb153 := n6.out;have hnc153 := m6.out;have hnb154 := n7.out;have hnc154 := m7.out;have hnb155 := n1.out;have hnc155 := m1.out;have hcz156_0 : w144.cell? ⟨d2, 0, none⟩ = some (.int .i64 0) := (qg f8.out 0).trans rfl;have hcz156_1 : w144.cell? ⟨d2, 1, none⟩ = some (.int .i64 0) := (qg f8.out 1).trans rfl;have hcz156_2 : w144.cell? ⟨d2, 2, none⟩ = some (.slice none 0 0) := (qg f8.out 2).trans rfl;have hfz156_0 := qj f8.out 0;have hfz156_1 := qj f8.out 1;have hfz156_2 := qj f8.out 2;have hnb157 := m8.out;have hnc157 := g1.out;have hnb158 := n0.out;have hnc158 := g4.out;have hnb159 := n9.out;have hnc159 := o8.out;have hnb160 := g7.out;have hnc160 := m2.out;have hcz161_0 : w144.cell? ⟨b9, 0, none⟩ = some (.int .i64 f2) := (qg b5.out 0).trans rfl;have hcz161_1 : w144.cell? ⟨b9, 1, none⟩ = some (.int .i64 f3) := (qg b5.out 1).trans rfl;have hcz161_2 : w144.cell? ⟨b9, 2, none⟩ = some (.slice Ao31 d6.length co31) := (qg b5.out 2).trans rfl;have hfz161_0 := qj b5.out 0;have hfz161_1 := qj b5.out 1;have hfz161_2 := qj b5.out 2
             go_wp2_with (first | ((with_reducible refine zb (f := 22) rfl ?_); refine zj (some 89) rfl rfl Try.func22 (by kernel_rfl) rfl #[.agg #[.int .i64 o3, .int .i64 o4, .slice Ao147 o0.length co147], .agg #[.int .i64 f2, .int .i64 f3, .slice Ao31 d6.length co31]] rfl (by (try simp only [List.map_toArray, List.map_cons, List.map_nil]); first | done | rfl | (simp only [List.length_drop, List.length_take]; rfl)) ?_; (with_reducible refine (laws_eqCity.calls kj78 o3 o4 _ _ o0 f2 f3 _ _ d6 true _ ?side1 ?side2 ?side3 ?side4 A149.out).mono ?_); (case side1 => refine (Kd.za (e := 38) (base := w.heap.size) (ok := fun k_ => (some k_ ≠ (v279 : Value).ownBlock ∧ (some k_ ≠ (.slice Ao31 d6.length co31 : Value).ownBlock ∧ (some k_ ≠ (.slice Ao41 n2.length co41 : Value).ownBlock ∧ some k_ ≠ (.slice Ao50 d8.length co50 : Value).ownBlock)))) (n := o0.length) (c := co147) ?_).2.2; exact (by (with_reducible repeat (first | apply Kd.qo | apply Kd.qp | apply Kd.qq)); exact (Kd.zc (Kd.R_far (p := ⟨d2, 2, none⟩) (Kd.R_far (p := ⟨d2, 1, none⟩) (Kd.R_far (p := ⟨d2, 0, none⟩) (Kd.zl o2.out f8.out (by decide)) (fun _ hk => hk.2) (.int .i64 o3)) (fun _ hk => hk.2) (.int .i64 o4)) (fun _ hk => hk.2) (.slice Ao147 o0.length co147)) (fun _ h_ => h_.1)))); (case side2 => exact (Kd.za o2.out).2.1); (case side3 => refine (Kd.za (e := 38) (base := w.heap.size) (ok := fun k_ => (some k_ ≠ (v279 : Value).ownBlock ∧ (some k_ ≠ (.slice Ao147 o0.length co147 : Value).ownBlock ∧ (some k_ ≠ (.slice Ao41 n2.length co41 : Value).ownBlock ∧ some k_ ≠ (.slice Ao50 d8.length co50 : Value).ownBlock)))) (n := d6.length) (c := co31) ?_).2.2; exact (by (with_reducible repeat (first | apply Kd.qo | apply Kd.qp | apply Kd.qq)); exact (Kd.zc (Kd.R_far (p := ⟨d2, 2, none⟩) (Kd.R_far (p := ⟨d2, 1, none⟩) (Kd.R_far (p := ⟨d2, 0, none⟩) (Kd.zl b4.out f8.out (by decide)) (fun _ hk => hk.2) (.int .i64 o3)) (fun _ hk => hk.2) (.int .i64 o4)) (fun _ hk => hk.2) (.slice Ao147 o0.length co147)) (fun _ h_ => h_.1)))); (case side4 => exact (Kd.za b4.out).2.1); rintro e w162 ⟨rfl, hb⟩; refine ⟨_, rfl, ?_⟩; have n0_ := qa.mk (Kd.qz (by (with_reducible repeat (first | apply Kd.qo | apply Kd.qp | apply Kd.qq)); exact (Kd.zc (Kd.R_far (p := ⟨d2, 2, none⟩) (Kd.R_far (p := ⟨d2, 1, none⟩) (Kd.R_far (p := ⟨d2, 0, none⟩) (Kd.zl b4.out f8.out (by decide)) (fun _ hk => hk.2) (.int .i64 o3)) (fun _ hk => hk.2) (.int .i64 o4)) (fun _ hk => hk.2) (.slice Ao147 o0.length co147)) (fun _ h_ => h_.1))) hb); have n1_ := qa.mk (Kd.qz (by (with_reducible repeat (first | apply Kd.qo | apply Kd.qp | apply Kd.qq)); exact (Kd.zc (Kd.R_far (p := ⟨d2, 2, none⟩) (Kd.R_far (p := ⟨d2, 1, none⟩) (Kd.R_far (p := ⟨d2, 0, none⟩) (Kd.zl b3.out f8.out (by decide)) (fun _ hk => hk.2) (.int .i64 o3)) (fun _ hk => hk.2) (.int .i64 o4)) (fun _ hk => hk.2) (.slice Ao147 o0.length co147)) (fun _ h_ => h_.1))) hb); have n2_ := qa.mk (Kd.qz (by (with_reducible repeat (first | apply Kd.qo | apply Kd.qp | apply Kd.qq)); exact (Kd.zc (Kd.R_far (p := ⟨d2, 2, none⟩) (Kd.R_far (p := ⟨d2, 1, none⟩) (Kd.R_far (p := ⟨d2, 0, none⟩) (Kd.zl b0.out f8.out (by decide)) (fun _ hk => hk.2) (.int .i64 o3)) (fun _ hk => hk.2) (.int .i64 o4)) (fun _ hk => hk.2) (.slice Ao147 o0.length co147)) (fun _ h_ => h_.1))) hb); have n3_ := qa.mk (Kd.qz (by (with_reducible repeat (first | apply Kd.qo | apply Kd.qp | apply Kd.qq)); exact (Kd.zc (Kd.R_far (p := ⟨d2, 2, none⟩) (Kd.R_far (p := ⟨d2, 1, none⟩) (Kd.R_far (p := ⟨d2, 0, none⟩) (Kd.zl g9.out f8.out (by decide)) (fun _ hk => hk.2) (.int .i64 o3)) (fun _ hk => hk.2) (.int .i64 o4)) (fun _ hk => hk.2) (.slice Ao147 o0.length co147)) (fun _ h_ => h_.1))) hb); have n4_ := qa.mk (Kd.qz (by (with_reducible repeat (first | apply Kd.qo | apply Kd.qp | apply Kd.qq)); exact (Kd.zc (Kd.R_far (p := ⟨d2, 2, none⟩) (Kd.R_far (p := ⟨d2, 1, none⟩) (Kd.R_far (p := ⟨d2, 0, none⟩) (Kd.zl o2.out f8.out (by decide)) (fun _ hk => hk.2) (.int .i64 o3)) (fun _ hk => hk.2) (.int .i64 o4)) (fun _ hk => hk.2) (.slice Ao147 o0.length co147)) (fun _ h_ => h_.1))) hb); have n5_ := qa.mk (qk (g := d0) (o := .cells #[.int .i64 a0_0, .int .i64 a0_1, .slice A0_2 l0_2.length c0_2] 24 (0, 0)) (by (with_reducible repeat (first | refine qd ?_ _ | refine qf ?_ | refine qc ?_ _)); refine qw ?_ g5.out _; (with_reducible repeat (first | refine qd ?_ _ | refine qf ?_ | refine qc ?_ _)); refine qw ?_ g5.out _; (with_reducible repeat (first | refine qd ?_ _ | refine qf ?_ | refine qc ?_ _)); refine qw ?_ g5.out _; (with_reducible repeat (first | refine qd ?_ _ | refine qf ?_ | refine qc ?_ _)); exact b1.out) hb); have n6_ := qa.mk (qk (g := d1) (o := .cells #[.int .i64 a1_0, .int .i64 a1_1, .bool a1_2] 35 (0, 0)) (by (with_reducible repeat (first | refine qd ?_ _ | refine qf ?_ | refine qc ?_ _)); refine qw ?_ g6.out _; (with_reducible repeat (first | refine qd ?_ _ | refine qf ?_ | refine qc ?_ _)); refine qw ?_ g6.out _; (with_reducible repeat (first | refine qd ?_ _ | refine qf ?_ | refine qc ?_ _)); refine qw ?_ g6.out _; (with_reducible repeat (first | refine qd ?_ _ | refine qf ?_ | refine qc ?_ _)); exact b2.out) hb); have n7_ := qa.mk (qk (g := b9) (o := .cells #[.int .i64 f2, .int .i64 f3, .slice Ao31 d6.length co31] 30 (0, 0)) (by (with_reducible repeat (first | refine qd ?_ _ | refine qf ?_ | refine qc ?_ _)); refine qw ?_ m6.out _; (with_reducible repeat (first | refine qd ?_ _ | refine qf ?_ | refine qc ?_ _)); refine qw ?_ m6.out _; (with_reducible repeat (first | refine qd ?_ _ | refine qf ?_ | refine qc ?_ _)); refine qw ?_ m6.out _; (with_reducible repeat (first | refine qd ?_ _ | refine qf ?_ | refine qc ?_ _)); exact b5.out) hb); have n8_ := qa.mk (qk (g := d3) (o := .cells #[.int .i64 f9, .int .i64 g0, .slice Ao41 n2.length co41] 30 (0, 0)) (by (with_reducible repeat (first | refine qd ?_ _ | refine qf ?_ | refine qc ?_ _)); refine qw ?_ m7.out _; (with_reducible repeat (first | refine qd ?_ _ | refine qf ?_ | refine qc ?_ _)); refine qw ?_ m7.out _; (with_reducible repeat (first | refine qd ?_ _ | refine qf ?_ | refine qc ?_ _)); refine qw ?_ m7.out _; (with_reducible repeat (first | refine qd ?_ _ | refine qf ?_ | refine qc ?_ _)); exact b7.out) hb); have n9_ := qa.mk (qk (g := b8) (o := .cells #[.int .i64 f0, .int .i64 f1, .slice Ao50 d8.length co50] 30 (0, 0)) (by (with_reducible repeat (first | refine qd ?_ _ | refine qf ?_ | refine qc ?_ _)); refine qw ?_ m1.out _; (with_reducible repeat (first | refine qd ?_ _ | refine qf ?_ | refine qc ?_ _)); refine qw ?_ m1.out _; (with_reducible repeat (first | refine qd ?_ _ | refine qf ?_ | refine qc ?_ _)); refine qw ?_ m1.out _; (with_reducible repeat (first | refine qd ?_ _ | refine qf ?_ | refine qc ?_ _)); exact b6.out) hb); have n10_ := qa.mk (qk (g := d2) (o := .cells #[.int .i64 o3, .int .i64 o4, .slice Ao147 o0.length co147] 30 (0, 0)) (by (with_reducible repeat (first | refine qd ?_ _ | refine qf ?_ | refine qc ?_ _)); refine zd (cs := #[.int .i64 o3, .int .i64 o4, .slice none 0 0]) ?_ 2 _ rfl; (with_reducible repeat (first | refine qd ?_ _ | refine qf ?_ | refine qc ?_ _)); refine zd (cs := #[.int .i64 o3, .int .i64 0, .slice none 0 0]) ?_ 1 _ rfl; (with_reducible repeat (first | refine qd ?_ _ | refine qf ?_ | refine qc ?_ _)); refine zd (cs := #[.int .i64 0, .int .i64 0, .slice none 0 0]) ?_ 0 _ rfl; (with_reducible repeat (first | refine qd ?_ _ | refine qf ?_ | refine qc ?_ _)); exact f8.out) hb); have n11_ := qa.mk (qn (be6_ HB d4 d5 d7 f4 f5 n3) hb); clear b4; clear b3; clear b0; clear g9; clear o2; clear b1; clear b2; clear b5; clear b7; clear b6; clear f8; clear HB; have b4 := n0_; have b3 := n1_; have b0 := n2_; have g9 := n3_; have o2 := n4_; have b1 := n5_; have b2 := n6_; have b5 := n7_; have b7 := n8_; have b6 := n9_; have f8 := n10_; have HB := n11_; clear n0_ n1_ n2_ n3_ n4_ n5_ n6_ n7_ n8_ n9_ n10_ n11_; (try clear hb); (try clear hb2); (try clear hk); (try clear hi)))
             go_meet
             case rel => exact ⟨_, ((D3 != m9)), (by first | rfl | (simp; done) | (simp [*]; done)), H', ⟨by have := HJ15.out; have := HJ78.out; first | omega | exact Nat.le_refl _⟩, ⟨by (try simp only [hl253002_78]); (with_reducible repeat (first | apply Kd.qo | apply Kd.qp | apply Kd.qq)); exact Kd.zc b4.out (fun _ hk => ⟨hk.2.2.1, ⟨hk.2.2.2, hk.2.1⟩⟩)⟩, ⟨by (try simp only [hl253002_78]); (with_reducible repeat (first | apply Kd.qo | apply Kd.qp | apply Kd.qq)); exact Kd.zc b3.out (fun _ hk => ⟨hk.2.2.1, ⟨hk.2.2.2, hk.2.1⟩⟩)⟩, ⟨by (try simp only [hl253002_78]); (with_reducible repeat (first | apply Kd.qo | apply Kd.qp | apply Kd.qq)); exact Kd.zc b0.out (fun _ hk => ⟨hk.2.2.1, ⟨hk.2.2.2, hk.2.1⟩⟩)⟩, ⟨by (try simp only [hl253002_78]); (with_reducible repeat (first | apply Kd.qo | apply Kd.qp | apply Kd.qq)); exact Kd.zc o2.out (fun _ hk => ⟨hk.2.1, ⟨hk.2.2.1, hk.2.2.2⟩⟩)⟩, ⟨by (try simp only [hl253002_78]); (with_reducible repeat (first | refine qd ?_ _ | refine qf ?_ | refine qc ?_ _)); exact b1.out⟩, ⟨by (try simp only [hl253002_78]); (with_reducible repeat (first | refine qd ?_ _ | refine qf ?_ | refine qc ?_ _)); exact b2.out⟩, ⟨by (try simp only [hl253002_78]); (with_reducible repeat (first | refine qd ?_ _ | refine qf ?_ | refine qc ?_ _)); exact b5.out⟩, ⟨by (try simp only [hl253002_78]); (with_reducible repeat (first | refine qd ?_ _ | refine qf ?_ | refine qc ?_ _)); exact b7.out⟩, ⟨by (try simp only [hl253002_78]); (with_reducible repeat (first | refine qd ?_ _ | refine qf ?_ | refine qc ?_ _)); exact b6.out⟩, ⟨by (try simp only [hl253002_78]); (with_reducible repeat (first | refine qd ?_ _ | refine qf ?_ | refine qc ?_ _)); exact f8.out⟩, ⟨be6_ HB d4 d5 d7 f4 f5 n3⟩⟩
            ·replace c150 := Bool.eq_false_iff.mpr c150
             subst c150;have H1 : (laws_FnExactOpenBlock.j2 kj78 o7 true f0 f1 n8) = some r := by rw [if_neg (show ¬ (false = true) by decide)] at H; exact H
             clear H;have H := H1;clear H1;have H' := qa.mk H;clear H;have hnb163 := n4.out;have hnc163 := g5.out;have hnb164 := n5.out;have hnc164 := g6.out;have hnb165 := n6.out;have hnc165 := m6.out;have hnb166 := n7.out;have hnc166 := m7.out;have hnb167 := n1.out;have hnc167 := m1.out;have hcz168_0 : w144.cell? ⟨d2, 0, none⟩ = some (.int .i64 0) := (qg f8.out 0).trans rfl;have hcz168_1 : w144.cell? ⟨d2, 1, none⟩ = some (.int .i64 0) := (qg f8.out 1).trans rfl;have hcz168_2 : w144.cell? ⟨d2, 2, none⟩ = some (.slice none 0 0) := (qg f8.out 2).trans rfl;have hfz168_0 := qj f8.out 0;have hfz168_1 := qj f8.out 1;have hfz168_2 := qj f8.out 2;have hnb169 := m8.out;have hnc169 := g1.out;have hnb170 := n0.out;have hnc170 := g4.out;have hnb171 := n9.out;have hnc171 := o8.out;have hnb172 := g7.out;have hnc172 := m2.out;have hcz173_0 : w144.cell? ⟨b9, 0, none⟩ = some (.int .i64 f2) := (qg b5.out 0).trans rfl;have hcz173_1 : w144.cell? ⟨b9, 1, none⟩ = some (.int .i64 f3) := (qg b5.out 1).trans rfl;have hcz173_2 : w144.cell? ⟨b9, 2, none⟩ = some (.slice Ao31 d6.length co31) := (qg b5.out 2).trans rfl;have hfz173_0 := qj b5.out 0;have hfz173_1 := qj b5.out 1;have hfz173_2 := qj b5.out 2
             go_wp2_with (first | ((with_reducible refine zb (f := 22) rfl ?_); refine zj (some 89) rfl rfl Try.func22 (by kernel_rfl) rfl #[.agg #[.int .i64 o3, .int .i64 o4, .slice Ao147 o0.length co147], .agg #[.int .i64 f2, .int .i64 f3, .slice Ao31 d6.length co31]] rfl (by (try simp only [List.map_toArray, List.map_cons, List.map_nil]); first | done | rfl | (simp only [List.length_drop, List.length_take]; rfl)) ?_; (with_reducible refine (laws_eqCity.calls kj78 o3 o4 _ _ o0 f2 f3 _ _ d6 false _ ?side1 ?side2 ?side3 ?side4 A149.out).mono ?_); (case side1 => refine (Kd.za (e := 38) (base := w.heap.size) (ok := fun k_ => (some k_ ≠ (v279 : Value).ownBlock ∧ (some k_ ≠ (.slice Ao31 d6.length co31 : Value).ownBlock ∧ (some k_ ≠ (.slice Ao41 n2.length co41 : Value).ownBlock ∧ some k_ ≠ (.slice Ao50 d8.length co50 : Value).ownBlock)))) (n := o0.length) (c := co147) ?_).2.2; exact (by (with_reducible repeat (first | apply Kd.qo | apply Kd.qp | apply Kd.qq)); exact (Kd.zc (Kd.R_far (p := ⟨d2, 2, none⟩) (Kd.R_far (p := ⟨d2, 1, none⟩) (Kd.R_far (p := ⟨d2, 0, none⟩) (Kd.zl o2.out f8.out (by decide)) (fun _ hk => hk.2) (.int .i64 o3)) (fun _ hk => hk.2) (.int .i64 o4)) (fun _ hk => hk.2) (.slice Ao147 o0.length co147)) (fun _ h_ => h_.1)))); (case side2 => exact (Kd.za o2.out).2.1); (case side3 => refine (Kd.za (e := 38) (base := w.heap.size) (ok := fun k_ => (some k_ ≠ (v279 : Value).ownBlock ∧ (some k_ ≠ (.slice Ao147 o0.length co147 : Value).ownBlock ∧ (some k_ ≠ (.slice Ao41 n2.length co41 : Value).ownBlock ∧ some k_ ≠ (.slice Ao50 d8.length co50 : Value).ownBlock)))) (n := d6.length) (c := co31) ?_).2.2; exact (by (with_reducible repeat (first | apply Kd.qo | apply Kd.qp | apply Kd.qq)); exact (Kd.zc (Kd.R_far (p := ⟨d2, 2, none⟩) (Kd.R_far (p := ⟨d2, 1, none⟩) (Kd.R_far (p := ⟨d2, 0, none⟩) (Kd.zl b4.out f8.out (by decide)) (fun _ hk => hk.2) (.int .i64 o3)) (fun _ hk => hk.2) (.int .i64 o4)) (fun _ hk => hk.2) (.slice Ao147 o0.length co147)) (fun _ h_ => h_.1)))); (case side4 => exact (Kd.za b4.out).2.1); rintro e w174 ⟨rfl, hb⟩; refine ⟨_, rfl, ?_⟩; have n0_ := qa.mk (Kd.qz (by (with_reducible repeat (first | apply Kd.qo | apply Kd.qp | apply Kd.qq)); exact (Kd.zc (Kd.R_far (p := ⟨d2, 2, none⟩) (Kd.R_far (p := ⟨d2, 1, none⟩) (Kd.R_far (p := ⟨d2, 0, none⟩) (Kd.zl b4.out f8.out (by decide)) (fun _ hk => hk.2) (.int .i64 o3)) (fun _ hk => hk.2) (.int .i64 o4)) (fun _ hk => hk.2) (.slice Ao147 o0.length co147)) (fun _ h_ => h_.1))) hb); have n1_ := qa.mk (Kd.qz (by (with_reducible repeat (first | apply Kd.qo | apply Kd.qp | apply Kd.qq)); exact (Kd.zc (Kd.R_far (p := ⟨d2, 2, none⟩) (Kd.R_far (p := ⟨d2, 1, none⟩) (Kd.R_far (p := ⟨d2, 0, none⟩) (Kd.zl b3.out f8.out (by decide)) (fun _ hk => hk.2) (.int .i64 o3)) (fun _ hk => hk.2) (.int .i64 o4)) (fun _ hk => hk.2) (.slice Ao147 o0.length co147)) (fun _ h_ => h_.1))) hb); have n2_ := qa.mk (Kd.qz (by (with_reducible repeat (first | apply Kd.qo | apply Kd.qp | apply Kd.qq)); exact (Kd.zc (Kd.R_far (p := ⟨d2, 2, none⟩) (Kd.R_far (p := ⟨d2, 1, none⟩) (Kd.R_far (p := ⟨d2, 0, none⟩) (Kd.zl b0.out f8.out (by decide)) (fun _ hk => hk.2) (.int .i64 o3)) (fun _ hk => hk.2) (.int .i64 o4)) (fun _ hk => hk.2) (.slice Ao147 o0.length co147)) (fun _ h_ => h_.1))) hb); have n3_ := qa.mk (Kd.qz (by (with_reducible repeat (first | apply Kd.qo | apply Kd.qp | apply Kd.qq)); exact (Kd.zc (Kd.R_far (p := ⟨d2, 2, none⟩) (Kd.R_far (p := ⟨d2, 1, none⟩) (Kd.R_far (p := ⟨d2, 0, none⟩) (Kd.zl g9.out f8.out (by decide)) (fun _ hk => hk.2) (.int .i64 o3)) (fun _ hk => hk.2) (.int .i64 o4)) (fun _ hk => hk.2) (.slice Ao147 o0.length co147)) (fun _ h_ => h_.1))) hb); have n4_ := qa.mk (Kd.qz (by (with_reducible repeat (first | apply Kd.qo | apply Kd.qp | apply Kd.qq)); exact (Kd.zc (Kd.R_far (p := ⟨d2, 2, none⟩) (Kd.R_far (p := ⟨d2, 1, none⟩) (Kd.R_far (p := ⟨d2, 0, none⟩) (Kd.zl o2.out f8.out (by decide)) (fun _ hk => hk.2) (.int .i64 o3)) (fun _ hk => hk.2) (.int .i64 o4)) (fun _ hk => hk.2) (.slice Ao147 o0.length co147)) (fun _ h_ => h_.1))) hb); have n5_ := qa.mk (qk (g := d0) (o := .cells #[.int .i64 a0_0, .int .i64 a0_1, .slice A0_2 l0_2.length c0_2] 24 (0, 0)) (by (with_reducible repeat (first | refine qd ?_ _ | refine qf ?_ | refine qc ?_ _)); refine qw ?_ g5.out _; (with_reducible repeat (first | refine qd ?_ _ | refine qf ?_ | refine qc ?_ _)); refine qw ?_ g5.out _; (with_reducible repeat (first | refine qd ?_ _ | refine qf ?_ | refine qc ?_ _)); refine qw ?_ g5.out _; (with_reducible repeat (first | refine qd ?_ _ | refine qf ?_ | refine qc ?_ _)); exact b1.out) hb); have n6_ := qa.mk (qk (g := d1) (o := .cells #[.int .i64 a1_0, .int .i64 a1_1, .bool a1_2] 35 (0, 0)) (by (with_reducible repeat (first | refine qd ?_ _ | refine qf ?_ | refine qc ?_ _)); refine qw ?_ g6.out _; (with_reducible repeat (first | refine qd ?_ _ | refine qf ?_ | refine qc ?_ _)); refine qw ?_ g6.out _; (with_reducible repeat (first | refine qd ?_ _ | refine qf ?_ | refine qc ?_ _)); refine qw ?_ g6.out _; (with_reducible repeat (first | refine qd ?_ _ | refine qf ?_ | refine qc ?_ _)); exact b2.out) hb); have n7_ := qa.mk (qk (g := b9) (o := .cells #[.int .i64 f2, .int .i64 f3, .slice Ao31 d6.length co31] 30 (0, 0)) (by (with_reducible repeat (first | refine qd ?_ _ | refine qf ?_ | refine qc ?_ _)); refine qw ?_ m6.out _; (with_reducible repeat (first | refine qd ?_ _ | refine qf ?_ | refine qc ?_ _)); refine qw ?_ m6.out _; (with_reducible repeat (first | refine qd ?_ _ | refine qf ?_ | refine qc ?_ _)); refine qw ?_ m6.out _; (with_reducible repeat (first | refine qd ?_ _ | refine qf ?_ | refine qc ?_ _)); exact b5.out) hb); have n8_ := qa.mk (qk (g := d3) (o := .cells #[.int .i64 f9, .int .i64 g0, .slice Ao41 n2.length co41] 30 (0, 0)) (by (with_reducible repeat (first | refine qd ?_ _ | refine qf ?_ | refine qc ?_ _)); refine qw ?_ m7.out _; (with_reducible repeat (first | refine qd ?_ _ | refine qf ?_ | refine qc ?_ _)); refine qw ?_ m7.out _; (with_reducible repeat (first | refine qd ?_ _ | refine qf ?_ | refine qc ?_ _)); refine qw ?_ m7.out _; (with_reducible repeat (first | refine qd ?_ _ | refine qf ?_ | refine qc ?_ _)); exact b7.out) hb); have n9_ := qa.mk (qk (g := b8) (o := .cells #[.int .i64 f0, .int .i64 f1, .slice Ao50 d8.length co50] 30 (0, 0)) (by (with_reducible repeat (first | refine qd ?_ _ | refine qf ?_ | refine qc ?_ _)); refine qw ?_ m1.out _; (with_reducible repeat (first | refine qd ?_ _ | refine qf ?_ | refine qc ?_ _)); refine qw ?_ m1.out _; (with_reducible repeat (first | refine qd ?_ _ | refine qf ?_ | refine qc ?_ _)); refine qw ?_ m1.out _; (with_reducible repeat (first | refine qd ?_ _ | refine qf ?_ | refine qc ?_ _)); exact b6.out) hb); have n10_ := qa.mk (qk (g := d2) (o := .cells #[.int .i64 o3, .int .i64 o4, .slice Ao147 o0.length co147] 30 (0, 0)) (by (with_reducible repeat (first | refine qd ?_ _ | refine qf ?_ | refine qc ?_ _)); refine zd (cs := #[.int .i64 o3, .int .i64 o4, .slice none 0 0]) ?_ 2 _ rfl; (with_reducible repeat (first | refine qd ?_ _ | refine qf ?_ | refine qc ?_ _)); refine zd (cs := #[.int .i64 o3, .int .i64 0, .slice none 0 0]) ?_ 1 _ rfl; (with_reducible repeat (first | refine qd ?_ _ | refine qf ?_ | refine qc ?_ _)); refine zd (cs := #[.int .i64 0, .int .i64 0, .slice none 0 0]) ?_ 0 _ rfl; (with_reducible repeat (first | refine qd ?_ _ | refine qf ?_ | refine qc ?_ _)); exact f8.out) hb); have n11_ := qa.mk (qn (be6_ HB d4 d5 d7 f4 f5 n3) hb); clear b4; clear b3; clear b0; clear g9; clear o2; clear b1; clear b2; clear b5; clear b7; clear b6; clear f8; clear HB; have b4 := n0_; have b3 := n1_; have b0 := n2_; have g9 := n3_; have o2 := n4_; have b1 := n5_; have b2 := n6_; have b5 := n7_; have b7 := n8_; have b6 := n9_; have f8 := n10_; have HB := n11_; clear n0_ n1_ n2_ n3_ n4_ n5_ n6_ n7_ n8_ n9_ n10_ n11_; (try clear hb); (try clear hb2); (try clear hk); (try clear hi)))
             go_meet
             case rel => exact ⟨_, (true), (by first | rfl | (simp; done) | (simp [*]; done)), H', ⟨by have := HJ15.out; have := HJ78.out; first | omega | exact Nat.le_refl _⟩, ⟨by (try simp only [hl253002_78]); (with_reducible repeat (first | apply Kd.qo | apply Kd.qp | apply Kd.qq)); exact Kd.zc b4.out (fun _ hk => ⟨hk.2.2.1, ⟨hk.2.2.2, hk.2.1⟩⟩)⟩, ⟨by (try simp only [hl253002_78]); (with_reducible repeat (first | apply Kd.qo | apply Kd.qp | apply Kd.qq)); exact Kd.zc b3.out (fun _ hk => ⟨hk.2.2.1, ⟨hk.2.2.2, hk.2.1⟩⟩)⟩, ⟨by (try simp only [hl253002_78]); (with_reducible repeat (first | apply Kd.qo | apply Kd.qp | apply Kd.qq)); exact Kd.zc b0.out (fun _ hk => ⟨hk.2.2.1, ⟨hk.2.2.2, hk.2.1⟩⟩)⟩, ⟨by (try simp only [hl253002_78]); (with_reducible repeat (first | apply Kd.qo | apply Kd.qp | apply Kd.qq)); exact Kd.zc o2.out (fun _ hk => ⟨hk.2.1, ⟨hk.2.2.1, hk.2.2.2⟩⟩)⟩, ⟨by (try simp only [hl253002_78]); (with_reducible repeat (first | refine qd ?_ _ | refine qf ?_ | refine qc ?_ _)); exact b1.out⟩, ⟨by (try simp only [hl253002_78]); (with_reducible repeat (first | refine qd ?_ _ | refine qf ?_ | refine qc ?_ _)); exact b2.out⟩, ⟨by (try simp only [hl253002_78]); (with_reducible repeat (first | refine qd ?_ _ | refine qf ?_ | refine qc ?_ _)); exact b5.out⟩, ⟨by (try simp only [hl253002_78]); (with_reducible repeat (first | refine qd ?_ _ | refine qf ?_ | refine qc ?_ _)); exact b7.out⟩, ⟨by (try simp only [hl253002_78]); (with_reducible repeat (first | refine qd ?_ _ | refine qf ?_ | refine qc ?_ _)); exact b6.out⟩, ⟨by (try simp only [hl253002_78]); (with_reducible repeat (first | refine qd ?_ _ | refine qf ?_ | refine qc ?_ _)); exact f8.out⟩, ⟨be6_ HB d4 d5 d7 f4 f5 n3⟩⟩
           case rest =>
            clear HC129;(try clear c150);(try clear hcz156_0);(try clear hcz156_1);(try clear hcz156_2);(try clear hcz161_0);(try clear hcz161_1);(try clear hcz161_2);(try clear hcz168_0);(try clear hcz168_1);(try clear hcz168_2);(try clear hcz173_0);(try clear hcz173_1);(try clear hcz173_2);(try clear hfz156_0);(try clear hfz156_1);(try clear hfz156_2);(try clear hfz161_0);(try clear hfz161_1);(try clear hfz161_2);(try clear hfz168_0);(try clear hfz168_1);(try clear hfz168_2);(try clear hfz173_0);(try clear hfz173_1);(try clear hfz173_2);obtain ⟨kq, x95_128, rfl, HA, HJ128, b4, b3, b0, o1, b1, b2, b5, b7, b6, f8, HB⟩ := hcut;have hl263002_128 := (Kd.za b0.out).1;rw [hl263002_128] at b0
            (try simp only [hl263002_128])
            (try simp only [hl263002_128] at b1)
            (try simp only [hl263002_128] at b2)
            (try simp only [hl263002_128] at b5)
            (try simp only [hl263002_128] at b7)
            (try simp only [hl263002_128] at b6)
            (try simp only [hl263002_128] at f8)
            (try simp only [hl263002_128] at b4)
            (try simp only [hl263002_128] at b3)
            (try simp only [hl263002_128] at o1)
            cases kq with
            | zero => exact absurd HA.out (by simp [laws_FnExactOpenBlock.j2])
            | succ kj128 =>
             have H := HA.out;clear HA
             simp only [laws_FnExactOpenBlock.j2] at H
             by_cases c175 : x95_128 = true
             ·subst c175
              have H1 : (some false) = some r := by rw [if_pos rfl] at H; exact H
              clear H;have H := H1;clear H1;obtain rfl := Option.some.inj H
              go_wp2
              go_ret
              exact ⟨by first | rfl | (simp [qu, qt] <;> rfl) | (simp [*, qu, qt] <;> rfl), be6_ HB d4 d5 d7 f4 f5 n3⟩
             ·replace c175 := Bool.eq_false_iff.mpr c175
              subst c175;have H1 : ((laws_heldCity.f kj128 f0 f1 n8 1).bind fun p6 => (if p6 < 0 then (some false) else (if p6 = o7 then (some true) else (some false)))) = some r := by rw [if_neg (show ¬ (false = true) by decide)] at H; exact H
              clear H;have H := H1;clear H1;replace H := Option.bind_eq_some_iff.mp H;obtain ⟨p6, A1760, H⟩ := H;replace H : (if p6 < 0 then (some false) else (if p6 = o7 then (some true) else (some false))) = some r := H;have A176 := qa.mk A1760;clear A1760
              by_cases c177 : p6 < 0
              ·rw [if_pos c177] at H
               have c177b0 : decide (p6 < 0) = true := decide_eq_true c177;clear c177;obtain rfl := Option.some.inj H;have hnb178 := m4.out;have hnc178 := g8.out;have hnb179 := m5.out;have hnc179 := f7.out;have hnb180 := m2.out;have hnc180 := g7.out;have hnb181 := m3.out;have hnc181 := f6.out;have hnb182 := m1.out;have hnc182 := n1.out;have hcz183_0 : wc.cell? ⟨b8, 0, none⟩ = some (.int .i64 f0) := (qg b6.out 0).trans rfl;have hcz183_1 : wc.cell? ⟨b8, 1, none⟩ = some (.int .i64 f1) := (qg b6.out 1).trans rfl;have hcz183_2 : wc.cell? ⟨b8, 2, none⟩ = some (.slice Ao50 n8.length co50) := (qg b6.out 2).trans rfl;have hfz183_0 := qj b6.out 0;have hfz183_1 := qj b6.out 1;have hfz183_2 := qj b6.out 2
               go_wp2_with (first | ((with_reducible refine zb (f := 27) rfl ?_); refine zj (some 98) rfl rfl Try.func27 (by kernel_rfl) rfl #[.agg #[.int .i64 f0, .int .i64 f1, .slice Ao50 n8.length co50], .int .i64 1] rfl (by (try simp only [List.map_toArray, List.map_cons, List.map_nil]); first | done | rfl | (simp only [List.length_drop, List.length_take]; rfl)) ?_; (with_reducible refine (laws_heldCity.calls kj128 f0 f1 _ _ n8 1 p6 _ ?side1 ?side2 A176.out).mono ?_); (case side1 => repeat (first | exact (Kd.za b0.out).2.2 | (with_reducible refine Kd.zg ?_ _) | (with_reducible refine Kd.zf ?_ _) | (with_reducible refine Kd.zi ?_))); (case side2 => exact (Kd.za b0.out).2.1); rintro e w184 ⟨rfl, hb⟩; refine ⟨_, rfl, ?_⟩; have n0_ := qa.mk (Kd.qz (kr_ b4) hb); have n1_ := qa.mk (Kd.qz (kr_ b3) hb); have n2_ := qa.mk (Kd.qz (kr_ b0) hb); have n3_ := qa.mk (Kd.qz (kr_ o1) hb); have n4_ := qa.mk (qk (g := d0) (o := .cells #[.int .i64 a0_0, .int .i64 a0_1, .slice A0_2 l0_2.length c0_2] 24 (0, 0)) (bk_ b1) hb); have n5_ := qa.mk (qk (g := d1) (o := .cells #[.int .i64 a1_0, .int .i64 a1_1, .bool a1_2] 35 (0, 0)) (bk_ b2) hb); have n6_ := qa.mk (qk (g := b9) (o := .cells #[.int .i64 f2, .int .i64 f3, .slice Ao31 d6.length co31] 30 (0, 0)) (bk_ b5) hb); have n7_ := qa.mk (qk (g := d3) (o := .cells #[.int .i64 f9, .int .i64 g0, .slice Ao41 n2.length co41] 30 (0, 0)) (bk_ b7) hb); have n8_ := qa.mk (qk (g := b8) (o := .cells #[.int .i64 f0, .int .i64 f1, .slice Ao50 n8.length co50] 30 (0, 0)) (bk_ b6) hb); have n9_ := qa.mk (qk (g := d2) (o := .cells #[.int .i64 o3, .int .i64 o4, .slice Ao147 o0.length co147] 30 (0, 0)) (bk_ f8) hb); have n10_ := qa.mk (qn (be6_ HB d4 d5 d7 f4 f5 n3) hb); clear b4; clear b3; clear b0; clear o1; clear b1; clear b2; clear b5; clear b7; clear b6; clear f8; clear HB; have b4 := n0_; have b3 := n1_; have b0 := n2_; have o1 := n3_; have b1 := n4_; have b2 := n5_; have b5 := n6_; have b7 := n7_; have b6 := n8_; have f8 := n9_; have HB := n10_; clear n0_ n1_ n2_ n3_ n4_ n5_ n6_ n7_ n8_ n9_ n10_; (try clear hb); (try clear hb2); (try clear hk); (try clear hi)))
               go_ret
               exact ⟨by first | rfl | (simp [qu, qt] <;> rfl) | (simp [*, qu, qt] <;> rfl), be6_ HB d4 d5 d7 f4 f5 n3⟩
              ·rw [if_neg c177] at H
               have c177b0 : decide (p6 < 0) = false := decide_eq_false c177;clear c177
               by_cases c185 : p6 = o7
               ·rw [if_pos c185] at H
                have c185b0 : (p6 == o7) = true := beq_iff_eq.mpr c185;have c185b1 : (p6 != o7) = false := bne_eq_false_iff_eq.mpr c185;clear c185;obtain rfl := Option.some.inj H;have hnb186 := m4.out;have hnc186 := g8.out;have hnb187 := m5.out;have hnc187 := f7.out;have hnb188 := m2.out;have hnc188 := g7.out;have hnb189 := m3.out;have hnc189 := f6.out;have hnb190 := m1.out;have hnc190 := n1.out;have hcz191_0 : wc.cell? ⟨b8, 0, none⟩ = some (.int .i64 f0) := (qg b6.out 0).trans rfl;have hcz191_1 : wc.cell? ⟨b8, 1, none⟩ = some (.int .i64 f1) := (qg b6.out 1).trans rfl;have hcz191_2 : wc.cell? ⟨b8, 2, none⟩ = some (.slice Ao50 n8.length co50) := (qg b6.out 2).trans rfl;have hfz191_0 := qj b6.out 0;have hfz191_1 := qj b6.out 1;have hfz191_2 := qj b6.out 2
                go_wp2_with (first | ((with_reducible refine zb (f := 27) rfl ?_); refine zj (some 98) rfl rfl Try.func27 (by kernel_rfl) rfl #[.agg #[.int .i64 f0, .int .i64 f1, .slice Ao50 n8.length co50], .int .i64 1] rfl (by (try simp only [List.map_toArray, List.map_cons, List.map_nil]); first | done | rfl | (simp only [List.length_drop, List.length_take]; rfl)) ?_; (with_reducible refine (laws_heldCity.calls kj128 f0 f1 _ _ n8 1 p6 _ ?side1 ?side2 A176.out).mono ?_); (case side1 => repeat (first | exact (Kd.za b0.out).2.2 | (with_reducible refine Kd.zg ?_ _) | (with_reducible refine Kd.zf ?_ _) | (with_reducible refine Kd.zi ?_))); (case side2 => exact (Kd.za b0.out).2.1); rintro e w192 ⟨rfl, hb⟩; refine ⟨_, rfl, ?_⟩; have n0_ := qa.mk (Kd.qz (kr_ b4) hb); have n1_ := qa.mk (Kd.qz (kr_ b3) hb); have n2_ := qa.mk (Kd.qz (kr_ b0) hb); have n3_ := qa.mk (Kd.qz (kr_ o1) hb); have n4_ := qa.mk (qk (g := d0) (o := .cells #[.int .i64 a0_0, .int .i64 a0_1, .slice A0_2 l0_2.length c0_2] 24 (0, 0)) (bk_ b1) hb); have n5_ := qa.mk (qk (g := d1) (o := .cells #[.int .i64 a1_0, .int .i64 a1_1, .bool a1_2] 35 (0, 0)) (bk_ b2) hb); have n6_ := qa.mk (qk (g := b9) (o := .cells #[.int .i64 f2, .int .i64 f3, .slice Ao31 d6.length co31] 30 (0, 0)) (bk_ b5) hb); have n7_ := qa.mk (qk (g := d3) (o := .cells #[.int .i64 f9, .int .i64 g0, .slice Ao41 n2.length co41] 30 (0, 0)) (bk_ b7) hb); have n8_ := qa.mk (qk (g := b8) (o := .cells #[.int .i64 f0, .int .i64 f1, .slice Ao50 n8.length co50] 30 (0, 0)) (bk_ b6) hb); have n9_ := qa.mk (qk (g := d2) (o := .cells #[.int .i64 o3, .int .i64 o4, .slice Ao147 o0.length co147] 30 (0, 0)) (bk_ f8) hb); have n10_ := qa.mk (qn (be6_ HB d4 d5 d7 f4 f5 n3) hb); clear b4; clear b3; clear b0; clear o1; clear b1; clear b2; clear b5; clear b7; clear b6; clear f8; clear HB; have b4 := n0_; have b3 := n1_; have b0 := n2_; have o1 := n3_; have b1 := n4_; have b2 := n5_; have b5 := n6_; have b7 := n7_; have b6 := n8_; have f8 := n9_; have HB := n10_; clear n0_ n1_ n2_ n3_ n4_ n5_ n6_ n7_ n8_ n9_ n10_; (try clear hb); (try clear hb2); (try clear hk); (try clear hi)))
                go_ret
                exact ⟨by first | rfl | (simp [qu, qt] <;> rfl) | (simp [*, qu, qt] <;> rfl), be6_ HB d4 d5 d7 f4 f5 n3⟩
               ·rw [if_neg c185] at H
                have c185b0 : (p6 == o7) = false := beq_eq_false_iff_ne.mpr c185;have c185b1 : (p6 != o7) = true := bne_iff_ne.mpr c185;obtain rfl := Option.some.inj H;have hnb193 := m4.out;have hnc193 := g8.out;have hnb194 := m5.out;have hnc194 := f7.out;have hnb195 := m2.out;have hnc195 := g7.out;have hnb196 := m3.out;have hnc196 := f6.out;have hnb197 := m1.out;have hnc197 := n1.out;have hcz198_0 : wc.cell? ⟨b8, 0, none⟩ = some (.int .i64 f0) := (qg b6.out 0).trans rfl;have hcz198_1 : wc.cell? ⟨b8, 1, none⟩ = some (.int .i64 f1) := (qg b6.out 1).trans rfl;have hcz198_2 : wc.cell? ⟨b8, 2, none⟩ = some (.slice Ao50 n8.length co50) := (qg b6.out 2).trans rfl;have hfz198_0 := qj b6.out 0;have hfz198_1 := qj b6.out 1;have hfz198_2 := qj b6.out 2
                go_wp2_with (first | ((with_reducible refine zb (f := 27) rfl ?_); refine zj (some 98) rfl rfl Try.func27 (by kernel_rfl) rfl #[.agg #[.int .i64 f0, .int .i64 f1, .slice Ao50 n8.length co50], .int .i64 1] rfl (by (try simp only [List.map_toArray, List.map_cons, List.map_nil]); first | done | rfl | (simp only [List.length_drop, List.length_take]; rfl)) ?_; (with_reducible refine (laws_heldCity.calls kj128 f0 f1 _ _ n8 1 p6 _ ?side1 ?side2 A176.out).mono ?_); (case side1 => repeat (first | exact (Kd.za b0.out).2.2 | (with_reducible refine Kd.zg ?_ _) | (with_reducible refine Kd.zf ?_ _) | (with_reducible refine Kd.zi ?_))); (case side2 => exact (Kd.za b0.out).2.1); rintro e w199 ⟨rfl, hb⟩; refine ⟨_, rfl, ?_⟩; have n0_ := qa.mk (Kd.qz (kr_ b4) hb); have n1_ := qa.mk (Kd.qz (kr_ b3) hb); have n2_ := qa.mk (Kd.qz (kr_ b0) hb); have n3_ := qa.mk (Kd.qz (kr_ o1) hb); have n4_ := qa.mk (qk (g := d0) (o := .cells #[.int .i64 a0_0, .int .i64 a0_1, .slice A0_2 l0_2.length c0_2] 24 (0, 0)) (bk_ b1) hb); have n5_ := qa.mk (qk (g := d1) (o := .cells #[.int .i64 a1_0, .int .i64 a1_1, .bool a1_2] 35 (0, 0)) (bk_ b2) hb); have n6_ := qa.mk (qk (g := b9) (o := .cells #[.int .i64 f2, .int .i64 f3, .slice Ao31 d6.length co31] 30 (0, 0)) (bk_ b5) hb); have n7_ := qa.mk (qk (g := d3) (o := .cells #[.int .i64 f9, .int .i64 g0, .slice Ao41 n2.length co41] 30 (0, 0)) (bk_ b7) hb); have n8_ := qa.mk (qk (g := b8) (o := .cells #[.int .i64 f0, .int .i64 f1, .slice Ao50 n8.length co50] 30 (0, 0)) (bk_ b6) hb); have n9_ := qa.mk (qk (g := d2) (o := .cells #[.int .i64 o3, .int .i64 o4, .slice Ao147 o0.length co147] 30 (0, 0)) (bk_ f8) hb); have n10_ := qa.mk (qn (be6_ HB d4 d5 d7 f4 f5 n3) hb); clear b4; clear b3; clear b0; clear o1; clear b1; clear b2; clear b5; clear b7; clear b6; clear f8; clear HB; have b4 := n0_; have b3 := n1_; have b0 := n2_; have o1 := n3_; have b1 := n4_; have b2 := n5_; have b5 := n6_; have b7 := n7_; have b6 := n8_; have f8 := n9_; have HB := n10_; clear n0_ n1_ n2_ n3_ n4_ n5_ n6_ n7_ n8_ n9_ n10_; (try clear hb); (try clear hb2); (try clear hk); (try clear hi)))
                go_ret
                exact ⟨by first | rfl | (simp [qu, qt] <;> rfl) | (simp [*, qu, qt] <;> rfl), be6_ HB d4 d5 d7 f4 f5 n3⟩
          ·rw [if_neg c125] at H
           have c125b0 : (p3 == o7) = false := beq_eq_false_iff_ne.mpr c125;have c125b1 : (p3 != o7) = true := bne_iff_ne.mpr c125;obtain rfl := Option.some.inj H;have hnb200 := m4.out;have hnc200 := g8.out;have hnb201 := m5.out;have hnc201 := f7.out;have hnb202 := m2.out;have hnc202 := g7.out;have hnb203 := m3.out;have hnc203 := f6.out;have hcz204_0 : wc.cell? ⟨b8, 0, none⟩ = some (.int .i64 f0) := (qg b6.out 0).trans rfl;have hcz204_1 : wc.cell? ⟨b8, 1, none⟩ = some (.int .i64 f1) := (qg b6.out 1).trans rfl;have hcz204_2 : wc.cell? ⟨b8, 2, none⟩ = some (.slice Ao50 d8.length co50) := (qg b6.out 2).trans rfl;have hfz204_0 := qj b6.out 0;have hfz204_1 := qj b6.out 1;have hfz204_2 := qj b6.out 2
           go_wp2_with (first | ((with_reducible refine zb (f := 26) rfl ?_); refine zj (some 70) rfl rfl Try.func26 (by kernel_rfl) rfl #[.agg #[.int .i64 f0, .int .i64 f1, .slice Ao50 d8.length co50], .int .i64 1] rfl (by (try simp only [List.map_toArray, List.map_cons, List.map_nil]); first | done | rfl | (simp only [List.length_drop, List.length_take]; rfl)) ?_; (with_reducible refine (laws_markCity.calls kj78 f0 f1 (fun k_ => some k_ = (.slice Ao50 d8.length co50 : Value).ownBlock) (.slice Ao50 d8.length co50) d8 1 o7 n8 w _ ?side1 ?side2 A114.out).mono ?_); (case side1 => repeat (first | (with_reducible first | exact HB.out | apply qi | apply qe | apply qh | refine qb ?_ d4.out | refine qb ?_ d5.out | refine qb ?_ d7.out | refine qb ?_ f4.out | refine qb ?_ f5.out) | exact HB.out)); (case side2 => exact Kd.R_tight rfl b0.out); rintro e w205 ⟨rfl, hy0, hb, hkp⟩; refine ⟨_, rfl, ?_⟩; have n0_ := qa.mk (Kd.zc (ok' := fun k_ => some k_ ≠ (.slice Ao41 n2.length co41 : Value).ownBlock ∧ some k_ ≠ (.slice Ao50 d8.length co50 : Value).ownBlock) (Kd.R_keptB (b4.out) hkp (fun k_ hk_ hs_ => (hk_.2) hs_)) (fun k_ hk_ => ⟨hk_.1.1, hk_.1.2⟩)); have n1_ := qa.mk (Kd.zc (ok' := fun k_ => some k_ ≠ (.slice Ao31 d6.length co31 : Value).ownBlock ∧ some k_ ≠ (.slice Ao50 d8.length co50 : Value).ownBlock) (Kd.R_keptB (b3.out) hkp (fun k_ hk_ hs_ => (hk_.2) hs_)) (fun k_ hk_ => ⟨hk_.1.1, hk_.1.2⟩)); have n2_ := qa.mk (Kd.R_reok rfl hy0 (fun k_ e_ => b0.out.1 k_ e_)); have n3_ := qa.mk (zv (bk_ b1) hkp (fun hs_ => (fun e_ => (Kd.R_ne b0.out b1.out (by decide)) e_) hs_)); have n4_ := qa.mk (zv (bk_ b2) hkp (fun hs_ => (fun e_ => (Kd.R_ne b0.out b2.out (by decide)) e_) hs_)); have n5_ := qa.mk (zv (bk_ b5) hkp (fun hs_ => (fun e_ => (Kd.R_ne b0.out b5.out (by decide)) e_) hs_)); have n6_ := qa.mk (zv (bk_ b7) hkp (fun hs_ => (fun e_ => (Kd.R_ne b0.out b7.out (by decide)) e_) hs_)); have n7_ := qa.mk (zv (bk_ b6) hkp (fun hs_ => (fun e_ => (Kd.R_ne b0.out b6.out (by decide)) e_) hs_)); have n8_ := qa.mk (hb); clear b4; clear b3; clear b0; clear b1; clear b2; clear b5; clear b7; clear b6; clear HB; have b4 := n0_; have b3 := n1_; have b0 := n2_; have b1 := n3_; have b2 := n4_; have b5 := n5_; have b7 := n6_; have b6 := n7_; have HB := n8_; clear n0_ n1_ n2_ n3_ n4_ n5_ n6_ n7_ n8_; (try clear hb); (try clear hkp); (try clear hy0); have hcz206_0 : w205.cell? ⟨b8, 0, none⟩ = some (.int .i64 f0) := (qg b6.out 0).trans rfl; have hcz206_1 : w205.cell? ⟨b8, 1, none⟩ = some (.int .i64 f1) := (qg b6.out 1).trans rfl; have hcz206_2 : w205.cell? ⟨b8, 2, none⟩ = some (.slice Ao50 d8.length co50) := (qg b6.out 2).trans rfl; have hfz206_0 := qj b6.out 0; have hfz206_1 := qj b6.out 1; have hfz206_2 := qj b6.out 2) | ((with_reducible refine zb (f := 27) rfl ?_); refine zj (some 73) rfl rfl Try.func27 (by kernel_rfl) rfl #[.agg #[.int .i64 f0, .int .i64 f1, .slice Ao50 n8.length co50], .int .i64 1] rfl (by (try simp only [List.map_toArray, List.map_cons, List.map_nil]); first | done | (rw [show n8.length = d8.length from (Kd.za b0.out).1.symm] <;> rfl) | rfl | (simp only [List.length_drop, List.length_take]; rfl)) ?_; (with_reducible refine (laws_heldCity.calls kj78 f0 f1 _ _ n8 1 p3 _ ?side1 ?side2 A115.out).mono ?_); (case side1 => repeat (first | exact (Kd.za b0.out).2.2 | (with_reducible refine Kd.zg ?_ _) | (with_reducible refine Kd.zf ?_ _) | (with_reducible refine Kd.zi ?_))); (case side2 => rw [show n8.length = d8.length from (Kd.za b0.out).1.symm]; exact (Kd.za b0.out).2.1); rintro e w207 ⟨rfl, hb⟩; refine ⟨_, rfl, ?_⟩; have n0_ := qa.mk (Kd.qz (kr_ b4) hb); have n1_ := qa.mk (Kd.qz (kr_ b3) hb); have n2_ := qa.mk (Kd.qz (kr_ b0) hb); have n3_ := qa.mk (qk (g := d0) (o := .cells #[.int .i64 a0_0, .int .i64 a0_1, .slice A0_2 l0_2.length c0_2] 24 (0, 0)) (bk_ b1) hb); have n4_ := qa.mk (qk (g := d1) (o := .cells #[.int .i64 a1_0, .int .i64 a1_1, .bool a1_2] 35 (0, 0)) (bk_ b2) hb); have n5_ := qa.mk (qk (g := b9) (o := .cells #[.int .i64 f2, .int .i64 f3, .slice Ao31 d6.length co31] 30 (0, 0)) (bk_ b5) hb); have n6_ := qa.mk (qk (g := d3) (o := .cells #[.int .i64 f9, .int .i64 g0, .slice Ao41 n2.length co41] 30 (0, 0)) (bk_ b7) hb); have n7_ := qa.mk (qk (g := b8) (o := .cells #[.int .i64 f0, .int .i64 f1, .slice Ao50 d8.length co50] 30 (0, 0)) (bk_ b6) hb); have n8_ := qa.mk (qn (be5_ HB d4 d5 d7 f4 f5) hb); clear b4; clear b3; clear b0; clear b1; clear b2; clear b5; clear b7; clear b6; clear HB; have b4 := n0_; have b3 := n1_; have b0 := n2_; have b1 := n3_; have b2 := n4_; have b5 := n5_; have b7 := n6_; have b6 := n7_; have HB := n8_; clear n0_ n1_ n2_ n3_ n4_ n5_ n6_ n7_ n8_; (try clear hb); (try clear hb2); (try clear hk); (try clear hi)))
           go_ret
           exact ⟨by first | rfl | (simp [qu, qt] <;> rfl) | (simp [*, qu, qt] <;> rfl), be5_ HB d4 d5 d7 f4 f5⟩
     ·replace c77 := Bool.eq_false_iff.mpr c77
      subst c77;have H1 : (some false) = some r := by rw [if_neg (show ¬ (false = true) by decide)] at H; exact H
      clear H;have H := H1;clear H1;obtain rfl := Option.some.inj H
      try go_wp2
      have n0_ := qa.mk (Kd.qq b4.out);have n1_ := qa.mk (Kd.qq b3.out);have n2_ := qa.mk (Kd.qq b0.out);have n3_ := qa.mk (qf b1.out);have n4_ := qa.mk (qf b2.out);have n5_ := qa.mk (qf b5.out);have n6_ := qa.mk (qf b7.out);have n7_ := qa.mk (qf b6.out);have n8_ := qa.mk (qh HB.out);clear b4;clear b3;clear b0;clear b1;clear b2;clear b5;clear b7;clear b6;clear HB;have b4 := n0_;have b3 := n1_;have b0 := n2_;have b1 := n3_;have b2 := n4_;have b5 := n5_;have b7 := n6_;have b6 := n7_;have HB := n8_;clear n0_ n1_ n2_ n3_ n4_ n5_ n6_ n7_ n8_
      refine start_ (n := 5) (S := fun w' => w'.cell? ⟨d3, 0, none⟩ = some (.int .i64 f9) ∧ w'.cell? ⟨d3, 1, none⟩ = some (.int .i64 g0) ∧ w'.cell? ⟨d3, 2, none⟩ = some (.slice Ao41 g2.length co41) ∧ w'.cell? ⟨d0, 0, none⟩ = some (.int .i64 a0_0) ∧ w'.cell? ⟨d0, 1, none⟩ = some (.int .i64 a0_1) ∧ w'.cell? ⟨d0, 2, none⟩ = some (.slice A0_2 l0_2.length c0_2)) (ds := []) #[false, false, false, false, false] (by kernel_rfl) rfl rfl ⟨(qg b7.out 0).trans rfl, (qg b7.out 1).trans rfl, (qg b7.out 2).trans rfl, (qg b1.out 0).trans rfl, (qg b1.out 1).trans rfl, (qg b1.out 2).trans rfl⟩ (fun hHeld => ?_)
      generalize wc.drew = w208 at b4 b3 b0 b1 b2 b5 b7 b6 HB hHeld ⊢
      refine take_ (i := 0) (N := some 47) (v := ?_) (a' := ?_) #[true, false, false, false, false] rfl rfl (by kernel_rfl) (fun _ _ _ h => h) (Or.inl ⟨by rfl, ?_⟩) hHeld ?_ ?_
      rotate_left
      ·rintro w' ⟨s0, s1, s2, s3, s4, s5⟩
       go_simp
       with_reducible rfl
      rotate_left
      ·simp only [Act.put, sA_, sB_, sC_, i64_w, i32_w]
       rfl
      refine take_ (i := 1) (N := some 48) (v := ?_) (a' := ?_) #[true, true, false, false, false] rfl rfl (by kernel_rfl) (fun _ _ _ h => h) (Or.inl ⟨by rfl, ?_⟩) hHeld ?_ ?_
      rotate_left
      ·rintro w' ⟨s0, s1, s2, s3, s4, s5⟩
       go_simp
       with_reducible rfl
      rotate_left
      ·simp only [Act.put, sA_, sB_, sC_, i64_w, i32_w]
       rfl
      refine one_ (i := 2) (N := some 49) #[true, true, true, false, false] rfl rfl (by kernel_rfl) (by decide) (fun K hK => ?_)
      refine goes_ Try.func20 (by kernel_rfl) rfl #[.agg #[.int .i64 a0_0, .int .i64 a0_1, .slice A0_2 l0_2.length c0_2]] (by rfl) rfl rfl (by (try simp only [List.map_toArray, List.map_cons, List.map_nil]); first | done | rfl | (simp only [List.length_drop, List.length_take]; rfl)) ?_
      with_reducible refine (laws_toCity.calls kj15 a0_0 a0_1 _ _ l0_2 E2 E3 E0 _ ?side1 ?side2 A75.out).mono ?_
      (case side1 => repeat (first | exact (Kd.zm HR0_2.out HB.out) | (with_reducible refine Kd.zg ?_ _) | (with_reducible refine Kd.zf ?_ _) | (with_reducible refine Kd.zi ?_)))
      (case side2 => exact HC0_2.out)
      rintro e w209 ⟨v267, rfl, ho0, hb⟩
      refine ⟨_, rfl, ?_⟩
      have n0_ := qa.mk (Kd.zh (kr_ b4) (Kd.zo ho0) hb);have n1_ := qa.mk (Kd.zh (kr_ b3) (Kd.zo ho0) hb);have n2_ := qa.mk (Kd.zh (kr_ b0) (Kd.zo ho0) hb);have n3_ := qa.mk (Kd.zt (Kd.zp (Kd.zp (Kd.zp ho0 (Kd.R_lt (kr_ b4))) (Kd.R_lt (kr_ b3))) (Kd.R_lt (kr_ b0))) (qm (be5_ HB d4 d5 d7 f4 f5)));have n4_ := qa.mk (qk (g := d0) (o := .cells #[.int .i64 a0_0, .int .i64 a0_1, .slice A0_2 l0_2.length c0_2] 24 (0, 0)) (bk_ b1) hb);have n5_ := qa.mk (qk (g := d1) (o := .cells #[.int .i64 a1_0, .int .i64 a1_1, .bool a1_2] 35 (0, 0)) (bk_ b2) hb);have n6_ := qa.mk (qk (g := b9) (o := .cells #[.int .i64 f2, .int .i64 f3, .slice Ao31 d6.length co31] 30 (0, 0)) (bk_ b5) hb);have n7_ := qa.mk (qk (g := d3) (o := .cells #[.int .i64 f9, .int .i64 g0, .slice Ao41 g2.length co41] 30 (0, 0)) (bk_ b7) hb);have n8_ := qa.mk (qk (g := b8) (o := .cells #[.int .i64 f0, .int .i64 f1, .slice Ao50 d8.length co50] 30 (0, 0)) (bk_ b6) hb);have n9_ := qa.mk (qn (be5_ HB d4 d5 d7 f4 f5) hb);clear b4;clear b3;clear b0;clear b1;clear b2;clear b5;clear b7;clear b6;clear HB;have b4 := n0_;have b3 := n1_;have b0 := n2_;have o6 := n3_;have b1 := n4_;have b2 := n5_;have b5 := n6_;have b7 := n7_;have b6 := n8_;have HB := n9_;clear n0_ n1_ n2_ n3_ n4_ n5_ n6_ n7_ n8_ n9_
      (try clear hb)
      (try clear hb2)
      (try clear hk)
      (try clear hi)
      (try clear ho0)
      obtain ⟨Ao210, co210, eo210⟩ := Kd.zr o6.out
      (first | subst eo210 | (injection eo210 with f1_ f2_ f3_; have f4_ := f1_.symm; have f5_ := f3_.symm; clear f1_ f2_ f3_; subst f4_; subst f5_))
      refine hK.out _ _ ⟨(qg b7.out 0).trans rfl, (qg b7.out 1).trans rfl, (qg b7.out 2).trans rfl, (qg b1.out 0).trans rfl, (qg b1.out 1).trans rfl, (qg b1.out 2).trans rfl⟩ (fun hHeld => ?_)
      clear hK K
      refine norm_ (a' := ?_) ?_ ?_
      rotate_left
      ·show Act.put _ (some 49) _ = _
       simp only [Act.put, sA_, sB_, sC_, i64_w, i32_w]
       rfl
      refine one_ (i := 3) (N := some 50) #[true, true, true, true, false] rfl rfl (by kernel_rfl) (by decide) (fun K hK => ?_)
      refine goes_ Try.func22 (by kernel_rfl) rfl #[.agg #[.int .i64 f9, .int .i64 g0, .slice Ao41 g2.length co41], .agg #[.int .i64 E2, .int .i64 E3, .slice Ao210 E0.length co210]] (by rfl) rfl rfl (by (try simp only [List.map_toArray, List.map_cons, List.map_nil]); first | done | rfl | (simp only [List.length_drop, List.length_take]; rfl)) ?_
      with_reducible refine (laws_eqCity.calls kj15 f9 g0 _ _ g2 E2 E3 _ _ E0 false _ ?side1 ?side2 ?side3 ?side4 A76.out).mono ?_
      (case side1 => repeat (first | exact (Kd.za b3.out).2.2 | (with_reducible refine Kd.zg ?_ _) | (with_reducible refine Kd.zf ?_ _) | (with_reducible refine Kd.zi ?_)))
      (case side2 => exact (Kd.za b3.out).2.1)
      (case side3 => repeat (first | exact (Kd.za o6.out).2.2 | (with_reducible refine Kd.zg ?_ _) | (with_reducible refine Kd.zf ?_ _) | (with_reducible refine Kd.zi ?_)))
      (case side4 => exact (Kd.za o6.out).2.1)
      rintro e w211 ⟨rfl, hb⟩
      refine ⟨_, rfl, ?_⟩
      have n0_ := qa.mk (Kd.qz (kr_ b4) hb);have n1_ := qa.mk (Kd.qz (kr_ b3) hb);have n2_ := qa.mk (Kd.qz (kr_ b0) hb);have n3_ := qa.mk (Kd.qz (kr_ o6) hb);have n4_ := qa.mk (qk (g := d0) (o := .cells #[.int .i64 a0_0, .int .i64 a0_1, .slice A0_2 l0_2.length c0_2] 24 (0, 0)) (bk_ b1) hb);have n5_ := qa.mk (qk (g := d1) (o := .cells #[.int .i64 a1_0, .int .i64 a1_1, .bool a1_2] 35 (0, 0)) (bk_ b2) hb);have n6_ := qa.mk (qk (g := b9) (o := .cells #[.int .i64 f2, .int .i64 f3, .slice Ao31 d6.length co31] 30 (0, 0)) (bk_ b5) hb);have n7_ := qa.mk (qk (g := d3) (o := .cells #[.int .i64 f9, .int .i64 g0, .slice Ao41 g2.length co41] 30 (0, 0)) (bk_ b7) hb);have n8_ := qa.mk (qk (g := b8) (o := .cells #[.int .i64 f0, .int .i64 f1, .slice Ao50 d8.length co50] 30 (0, 0)) (bk_ b6) hb);have n9_ := qa.mk (qn (be5_ HB d4 d5 d7 f4 f5) hb);clear b4;clear b3;clear b0;clear o6;clear b1;clear b2;clear b5;clear b7;clear b6;clear HB;have b4 := n0_;have b3 := n1_;have b0 := n2_;have o6 := n3_;have b1 := n4_;have b2 := n5_;have b5 := n6_;have b7 := n7_;have b6 := n8_;have HB := n9_;clear n0_ n1_ n2_ n3_ n4_ n5_ n6_ n7_ n8_ n9_
      (try clear hb)
      (try clear hb2)
      (try clear hk)
      (try clear hi)
      refine hK.out _ _ ⟨(qg b7.out 0).trans rfl, (qg b7.out 1).trans rfl, (qg b7.out 2).trans rfl, (qg b1.out 0).trans rfl, (qg b1.out 1).trans rfl, (qg b1.out 2).trans rfl⟩ (fun hHeld => ?_)
      clear hK K
      refine norm_ (a' := ?_) ?_ ?_
      rotate_left
      ·show Act.put _ (some 50) _ = _
       simp only [Act.put, sA_, sB_, sC_, i64_w, i32_w]
       rfl
      refine pure_ (i := 4) (N := some 51) (v := ?_) (a' := ?_) #[true, true, true, true, true] rfl rfl (by kernel_rfl) (fun _ _ _ h => h) (Or.inl ⟨by rfl, ?_⟩) ?_ ?_
      rotate_left
      ·intro w'
       go_simp
       with_reducible rfl
      rotate_left
      ·simp only [Act.put, sA_, sB_, sC_, i64_w, i32_w]
       rfl
      refine done_ (by kernel_rfl) ?_
      try go_wp2
      go_ret
      exact ⟨by first | rfl | (simp [qu, qt] <;> rfl) | (simp [*, qu, qt] <;> rfl), be5_ HB d4 d5 d7 f4 f5⟩
end Go.Proofs.Ytohpaddcfcgmbaa.PFnExactOpenBlock
