/- Cut by wip/cut.py out of the texts of this claim (printed by the kit's printer, or this session's own): what the row's theorem does not reach is struck. Not trusted: Lean checks it. -/
import Derived.Test.YtbnbdaommbnecacDoorZFnExactParseCityPx0
import Derived.Test.YtbnbdaommbnecacDoorZFnExactParseCityPx6
import Derived.Test.YtbnbdaommbnecacDoorZFnExactParseCityPx9
import Derived.Test.YtbnbdaommbnecacDoorZFnExactParseCityPx10
namespace Go.Proofs.YtbnbdaommbnecacDoor.PFnExactParseCity
open Go.RowKit Go.Proofs.YtbnbdaommbnecacDoorW.PrintWords Go.Proofs.YtbnbdaommbnecacDoorW.PrintLast Go.Proofs.YtbnbdaommbnecacDoorW.PrintMore
attribute [local go_sem] max2_int min2_int max_two min_two max_three min_three max_four min_four
set_option linter.unusedVariables false
set_option linter.unusedSimpArgs false
mutual
def impl_ParseCity.j0 : Nat → ByteArray → ByteArray → List Int → Bool → Option (Int × Int × (List (S39)) × Bool)
 | 0, _, _, _, _ => none
 | k + 1, x0, x5, x7, x32 => if x32 = true then (some (0, 0, ([] : List (S39)), false)) else (if 0 < (x7.length : Int) then (if 1 < (x7.length : Int) then ((strings_Split.f x5 (⟨#[44]⟩ : ByteArray)).bind fun t237 => (impl_ParseCity.l0 k x0 x5 t237 (t237.length : Int) 0 (rd x7 0) (rd x7 1) ([] : List (S39)))) else (none)) else (none))
def impl_ParseCity.j2 : Nat → ByteArray → Int → Int → List (S39) → Option (Int × Int × (List (S39)) × Bool)
 | 0, _, _, _, _ => none
 | k + 1, x0, x237000, x237001, x237002 => (impl_IsCity.f k x237000 x237001 x237002).bind fun t260 => (if t260 = true then ((impl_cityText.f x237000 x237001 x237002).bind fun t261 => (if t261.toList = x0.toList then (some (x237000, x237001, x237002, true)) else (some (0, 0, ([] : List (S39)), false)))) else (some (0, 0, ([] : List (S39)), false)))
def impl_ParseCity.l0 : Nat → ByteArray → ByteArray → List ByteArray → Int → Int → Int → Int → List (S39) → Option (Int × Int × (List (S39)) × Bool)
 | 0, _, _, _, _, _, _, _, _ => none
 | k + 1, x0, x5, x42, x43, x44, x237000, x237001, x237002 => if x44 < x43 then (if 0 ≤ x44 then (if x44 < (x42.length : Int) then (if x5.toList = ([] : List UInt8) then (impl_ParseCity.j2 k x0 x237000 x237001 x237002) else ((strings_Contains.f (rdOf ByteArray.empty x42 x44) (⟨#[124]⟩ : ByteArray)).bind fun t241 => (if t241 = true then ((impl_readNumbers.f k (rdOf ByteArray.empty x42 x44) (⟨#[124]⟩ : ByteArray)).bind fun bt242 => (if bt242.2 = true then (if (bt242.1.length : Int) = 2 then (if 0 < (bt242.1.length : Int) then (if 1 < (bt242.1.length : Int) then (if x237002.length < 5864062014805 then (impl_ParseCity.l0 k x0 x5 x42 x43 (wrap64 (x44 + 1)) x237000 x237001 (x237002 ++ [(⟨rd bt242.1 0, rd bt242.1 1, (([124] : List UInt8) == ([124] : List UInt8))⟩ : S39)])) else (none)) else (none)) else (none)) else (some (0, 0, ([] : List (S39)), false))) else (some (0, 0, ([] : List (S39)), false)))) else ((impl_readNumbers.f k (rdOf ByteArray.empty x42 x44) (⟨#[45]⟩ : ByteArray)).bind fun bt251 => (if bt251.2 = true then (if (bt251.1.length : Int) = 2 then (if 0 < (bt251.1.length : Int) then (if 1 < (bt251.1.length : Int) then (if x237002.length < 5864062014805 then (impl_ParseCity.l0 k x0 x5 x42 x43 (wrap64 (x44 + 1)) x237000 x237001 (x237002 ++ [(⟨rd bt251.1 0, rd bt251.1 1, (([45] : List UInt8) == ([124] : List UInt8))⟩ : S39)])) else (none)) else (none)) else (none)) else (some (0, 0, ([] : List (S39)), false))) else (some (0, 0, ([] : List (S39)), false))))))) else (none)) else (none)) else (impl_ParseCity.j2 k x0 x237000 x237001 x237002)
end
def impl_ParseCity.f (k : Nat) (a0 : ByteArray) : Option (Int × Int × (List (S39)) × Bool) := (strings_Cut.f a0 (⟨#[58]⟩ : ByteArray)).bind fun bt227 => ((impl_readNumbers.f k bt227.1 (⟨#[120]⟩ : ByteArray)).bind fun bt230 => (if bt230.2 = true then (impl_ParseCity.j0 k a0 bt227.2.1 bt230.1 ((bt230.1.length : Int) != 2)) else (impl_ParseCity.j0 k a0 bt227.2.1 bt230.1 true)))
theorem impl_ParseCity.zn : ∀ k, (∀ y0 y1 y2 y3, LeO (impl_ParseCity.j0 k y0 y1 y2 y3) (impl_ParseCity.j0 (k + 1) y0 y1 y2 y3)) ∧ (∀ y0 y1 y2 y3, LeO (impl_ParseCity.j2 k y0 y1 y2 y3) (impl_ParseCity.j2 (k + 1) y0 y1 y2 y3)) ∧ (∀ y0 y1 y2 y3 y4 y5 y6 y7, LeO (impl_ParseCity.l0 k y0 y1 y2 y3 y4 y5 y6 y7) (impl_ParseCity.l0 (k + 1) y0 y1 y2 y3 y4 y5 y6 y7))
 | 0 => ⟨fun _ _ _ _ r h => by simp [impl_ParseCity.j0] at h, fun _ _ _ _ r h => by simp [impl_ParseCity.j2] at h, fun _ _ _ _ _ _ _ _ r h => by simp [impl_ParseCity.l0] at h⟩
 | k + 1 => by
  obtain ⟨ih0, ih1, ih2⟩ := impl_ParseCity.zn k
  refine ⟨?_, ?_, ?_⟩
  all_goals first | (intro y0 y1 y2 y3; unfold impl_ParseCity.j0) | (intro y0 y1 y2 y3; unfold impl_ParseCity.j2) | (intro y0 y1 y2 y3 y4 y5 y6 y7; unfold impl_ParseCity.l0)
  all_goals (repeat' first | (with_reducible first | exact ih0 _ _ _ _ | exact ih1 _ _ _ _ | exact ih2 _ _ _ _ _ _ _ _ | exact impl_IsCity.mono _ _ _ _ | exact impl_readNumbers.mono _ _ _ | exact LeO.refl _ | exact LeO.none _ | refine LeO.ite ?_ ?_ | refine LeO.bind ?_ (fun _ => ?_)) | exact ih0 _ _ _ _ | exact ih1 _ _ _ _ | exact ih2 _ _ _ _ _ _ _ _ | exact impl_IsCity.mono _ _ _ _ | exact impl_readNumbers.mono _ _ _ | exact LeO.none _ | refine LeO.ite ?_ ?_ | refine LeO.bind ?_ (fun _ => ?_))
theorem impl_ParseCity.mono : ∀ a0 k, LeO (impl_ParseCity.f k a0) (impl_ParseCity.f (k + 1) a0) := by
 intro a0 k
 obtain ⟨ih0, ih1, ih2⟩ := impl_ParseCity.zn k
 unfold impl_ParseCity.f
 repeat' first | (with_reducible first | exact ih0 _ _ _ _ | exact ih1 _ _ _ _ | exact ih2 _ _ _ _ _ _ _ _ | exact impl_IsCity.mono _ _ _ _ | exact impl_readNumbers.mono _ _ _ | exact LeO.refl _ | exact LeO.none _ | refine LeO.ite ?_ ?_ | refine LeO.bind ?_ (fun _ => ?_)) | exact ih0 _ _ _ _ | exact ih1 _ _ _ _ | exact ih2 _ _ _ _ _ _ _ _ | exact impl_IsCity.mono _ _ _ _ | exact impl_readNumbers.mono _ _ _ | exact LeO.none _ | refine LeO.ite ?_ ?_ | refine LeO.bind ?_ (fun _ => ?_)
def impl_ParseCity.T5 : Bool × List (List Nat × List Nat) := (true, [([], []), ([0], [0]), ([1], [1]), ([], []), ([3], [3]), ([4], [4]), ([2, 5], [2, 5]), ([], []), ([7, 6, 0, 1, 2, 3, 4, 5, 6, 7], [6, 7])])
def impl_ParseCity.B5 : List Nat := [0, 1, 3, 0, 8, 24, 63, 0, 255]
theorem impl_ParseCity.tab5 : rtab .any (opsOf Tryd.f5 5) = impl_ParseCity.T5 := by kernel_rfl
theorem impl_ParseCity.bits5 : waitsOk impl_ParseCity.T5.2 impl_ParseCity.B5 = true := by kernel_rfl
def impl_ParseCity.T16 : Bool × List (List Nat × List Nat) := (true, [([], []), ([0], [0]), ([], []), ([2], [2]), ([3], [3]), ([], []), ([5], [5]), ([6], [6]), ([], []), ([8], [8]), ([4, 7, 9], [4, 7, 9]), ([10], [10]), ([1, 11], [1, 11]), ([0, 1, 2, 3, 4, 5, 6, 7, 8, 9, 10, 11, 12], []), ([13, 12, 12, 0, 1, 2, 3, 4, 5, 6, 7, 8, 9, 10, 11, 12], [12, 13])])
def impl_ParseCity.B16 : List Nat := [0, 1, 0, 4, 12, 0, 32, 96, 0, 256, 1020, 2044, 4095, 8191, 16383]
theorem impl_ParseCity.tab16 : rtab .any (opsOf Tryd.f5 16) = impl_ParseCity.T16 := by kernel_rfl
theorem impl_ParseCity.bits16 : waitsOk impl_ParseCity.T16.2 impl_ParseCity.B16 = true := by kernel_rfl
set_option maxHeartbeats 8000000 in
set_option maxRecDepth 100000 in
theorem impl_ParseCity.calls (k : Nat) (a0 : ByteArray) (r1 : Int) (r2 : Int) (r3 : List (S39)) (r4 : Bool) (w : World) (hlaid : Laid w) (h : impl_ParseCity.f k a0 = some (r1, r2, r3, r4)) :
  Calls Tryd.prog 5 #[.string a0] w fun e w' => ∃ v2_ : Value, e = .returned (.tuple #[.agg #[.int .i64 r1, .int .i64 r2, v2_], .bool r4]) ∧ Kd.R k39 39 w' w.heap.size (fun _ => True) v2_ r3 ∧ Below w.heap.size w w' := by
 have HLD := qb.mk hlaid
 clear hlaid
 have hu24 := Tryd.underlying24
 have hu39 := Tryd.underlying39
 have HB := qb.mk (Below.refl w.heap.size w)
 have H : ((strings_Cut.f a0 (⟨#[58]⟩ : ByteArray)).bind fun bt227 => ((impl_readNumbers.f k bt227.1 (⟨#[120]⟩ : ByteArray)).bind fun bt230 => (if bt230.2 = true then (impl_ParseCity.j0 k a0 bt227.2.1 bt230.1 ((bt230.1.length : Int) != 2)) else (impl_ParseCity.j0 k a0 bt227.2.1 bt230.1 true)))) = some (r1, r2, r3, r4) := h
 clear h
 replace H := Option.bind_eq_some_iff.mp H
 obtain ⟨⟨t227, t228, t229⟩, A20, H⟩ := H
 replace H : ((impl_readNumbers.f k t227 (⟨#[120]⟩ : ByteArray)).bind fun bt230 => (if bt230.2 = true then (impl_ParseCity.j0 k a0 t228 bt230.1 ((bt230.1.length : Int) != 2)) else (impl_ParseCity.j0 k a0 t228 bt230.1 true))) = some (r1, r2, r3, r4) := H
 have A2 := qb.mk A20
 clear A20
 replace H := Option.bind_eq_some_iff.mp H
 obtain ⟨⟨t230, t231⟩, A30, H⟩ := H
 replace H : (if t231 = true then (impl_ParseCity.j0 k a0 t228 t230 ((t230.length : Int) != 2)) else (impl_ParseCity.j0 k a0 t228 t230 true)) = some (r1, r2, r3, r4) := H
 have A3 := qb.mk A30
 clear A30
 have HC4 := qb.mk H
 clear H
 go_enter Tryd.func5, Tryd.ntmps5
 go_upto_region 3 with (first | ((with_reducible refine zc (N := 2) rfl ?_); (try (refine gate_guard (by rfl) ?_; dsimp only)); refine zb ?hg (N := 2) ?hd (cs := #[.int .i64 0, .int .i64 0, .slice none 0 0]) (t := 24) ?hr ?_; (case hd => rfl); (case hg => rfl); (case hr => first | (go_simp; done) | (go_simp; rfl)); intro gb226 hg w5 hbox hb; have n0_ := qb.mk (qm (be0_ HB) hb); have n1_ := qb.mk (hbox); have n2_ := qb.mk ((by rw [hg]; exact (ql (be0_ HB)) : w.heap.size ≤ gb226)); have n3_ := qb.mk ((by rw [hg]; exact (ql (be0_ HB)) : w.heap.size ≤ gb226)); clear HB; have HB := n0_; have BK226 := n1_; have GW226 := n2_; have GE226 := n3_; clear n0_ n1_ n2_ n3_; clear hb hbox hg) | ((with_reducible refine qv (f := 10) rfl ?_); refine zf (some 17) rfl rfl Tryd.func10 (by kernel_rfl) rfl #[.string a0, .string (⟨#[58]⟩ : ByteArray)] rfl al_ ?_; (with_reducible refine (strings_Cut.calls a0 (⟨#[58]⟩ : ByteArray) t227 t228 t229 _ (HLD.out.below (by repeat (first | (with_reducible first | exact HB.out | apply qd | apply qa | apply qc | refine qh ?_ (qb.out (by assumption))) | exact HB.out)) (Nat.le_refl _)) A2.out).mono ?_); rintro e w' ⟨rfl, ⟨nd, rfl⟩⟩; refine ⟨_, rfl, ?_⟩) | ((with_reducible refine qv (f := 11) rfl ?_); refine zf (some 23) rfl rfl Tryd.func11 (by kernel_rfl) rfl #[.string t227, .string (⟨#[120]⟩ : ByteArray)] rfl al_ ?_; (with_reducible refine (impl_readNumbers.calls k t227 (⟨#[120]⟩ : ByteArray) t230 t231 _ (HLD.out.below (by repeat (first | (with_reducible first | exact HB.out | apply qd | apply qa | apply qc | refine qh ?_ (qb.out (by assumption))) | exact HB.out)) (Nat.le_refl _)) A3.out).mono ?_); rintro e w6 ⟨v232, rfl, ho0, hb⟩; refine ⟨_, rfl, ?_⟩; have n0_ := qb.mk (Kd.zr ho0 (ql (be1_ HB GE226))); have n1_ := qb.mk (qn (g := gb226) (o := .cells #[.int .i64 0, .int .i64 0, .slice none 0 0] 24 (0, 0)) (bk_ BK226) hb); have n2_ := qb.mk (qm (be1_ HB GE226) hb); clear BK226; clear HB; have HO233 := n0_; have BK226 := n1_; have HB := n2_; clear n0_ n1_ n2_; (try clear hb); (try clear hb2); (try clear hk); (try clear hi); (try clear ho0)))
 (try simp only [Act.put, sA_, sB_, sC_])
 go_cut [32] (fun v32 wc => ∃ (kq : Nat) (x32_3 : Bool), v32 = .bool x32_3 ∧ qb (impl_ParseCity.j0 kq a0 t228 t230 x32_3 = some (r1, r2, r3, r4)) ∧ qb (kq ≤ k) ∧ qb (Kd.R (Kd.int .i64) 3 wc w.heap.size (fun _ => True) v232 t230) ∧ qb (wc.heap[gb226]? = some (.cells #[.int .i64 0, .int .i64 0, (.slice none 0 0)] 24 (0, 0))) ∧ qb (Below w.heap.size w wc))
 case first =>
  have H := HC4.out
  clear HC4
  by_cases c7 : t231 = true
  ·subst c7
   have H1 : (impl_ParseCity.j0 k a0 t228 t230 ((t230.length : Int) != 2)) = some (r1, r2, r3, r4) := by rw [if_pos rfl] at H; exact H
   clear H
   have H := H1
   clear H1
   have H' := qb.mk H
   clear H
   obtain ⟨Ao8, co8, eo8⟩ := Kd.zj HO233.out
   subst eo8
   go_wp2
   go_meet
   case rel => exact ⟨_, (((t230.length : Int) != 2)), es_, H', ⟨by first | omega | exact Nat.le_refl _⟩, ⟨kr_ HO233⟩, ⟨bk_ BK226⟩, ⟨be1_ HB GE226⟩⟩
  ·replace c7 := Bool.eq_false_iff.mpr c7
   subst c7
   have H1 : (impl_ParseCity.j0 k a0 t228 t230 true) = some (r1, r2, r3, r4) := by rw [if_neg (show ¬ (false = true) by decide)] at H; exact H
   clear H
   have H := H1
   clear H1
   have H' := qb.mk H
   clear H
   go_wp2
   go_meet
   case rel => exact ⟨_, (true), es_, H', ⟨by first | omega | exact Nat.le_refl _⟩, ⟨kr_ HO233⟩, ⟨bk_ BK226⟩, ⟨be1_ HB GE226⟩⟩
 case rest =>
  clear HC4
  try clear c7
  obtain ⟨kq, x32_3, rfl, HA, HJ3, HO_7, BK226, HB⟩ := hcut
  cases kq with
  | zero => exact absurd HA.out (by simp [impl_ParseCity.j0])
  | succ kj3 =>
   have H := HA.out
   clear HA
   simp only [impl_ParseCity.j0] at H
   by_cases c9 : x32_3 = true
   ·subst c9
    have H1 : (some (0, 0, ([] : List (S39)), false)) = some (r1, r2, r3, r4) := by rw [if_pos rfl] at H; exact H
    clear H
    have H := H1
    clear H1
    simp only [Option.some.injEq, Prod.mk.injEq] at H
    obtain ⟨rfl, rfl, rfl, rfl⟩ := H
    have hcz10_0 : wc.cell? ⟨gb226, 0, none⟩ = some (.int .i64 0) := (qg BK226.out 0).trans rfl
    have hcz10_1 : wc.cell? ⟨gb226, 1, none⟩ = some (.int .i64 0) := (qg BK226.out 1).trans rfl
    have hcz10_2 : wc.cell? ⟨gb226, 2, none⟩ = some (.slice none 0 0) := (qg BK226.out 2).trans rfl
    have hfz10_0 := qj BK226.out 0
    have hfz10_1 := qj BK226.out 1
    have hfz10_2 := qj BK226.out 2
    go_wp2
    refine bodyPost_ret (results_ct rfl _ _ gb226 24 #[.int .i64 0, .int .i64 0, .slice none 0 0] (0, 0) _ rfl (by (with_reducible repeat (first | refine qf ?_ _ | refine qi ?_ | refine qe ?_ _)); refine qx (cs := #[.int .i64 0, .int .i64 0, .slice none 0 0]) ?_ 2 _ rfl; (with_reducible repeat (first | refine qf ?_ _ | refine qi ?_ | refine qe ?_ _)); refine qx (cs := #[.int .i64 0, .int .i64 0, .slice none 0 0]) ?_ 1 _ rfl; (with_reducible repeat (first | refine qf ?_ _ | refine qi ?_ | refine qe ?_ _)); refine qx (cs := #[.int .i64 0, .int .i64 0, .slice none 0 0]) ?_ 0 _ rfl; (with_reducible repeat (first | refine qf ?_ _ | refine qi ?_ | refine qe ?_ _)); exact BK226.out) Tryd.underlying24 rfl (by kernel_rfl)) rfl ?_
    exact ⟨_, er_, by first | exact Kd.R_nil _ _ _ _ _ | exact Kd.N_nil _ _ _ _ _ | exact Kd.V_nil _ _ _ _ _ | exact Kd.Q_nil _ _ _ _ _ | exact Kd.S_nil _ _ _ _ _, be1_ HB GE226⟩
   ·replace c9 := Bool.eq_false_iff.mpr c9
    subst c9
    have H1 : (if 0 < (t230.length : Int) then (if 1 < (t230.length : Int) then ((strings_Split.f t228 (⟨#[44]⟩ : ByteArray)).bind fun t237 => (impl_ParseCity.l0 kj3 a0 t228 t237 (t237.length : Int) 0 (rd t230 0) (rd t230 1) ([] : List (S39)))) else (none)) else (none)) = some (r1, r2, r3, r4) := by rw [if_neg (show ¬ (false = true) by decide)] at H; exact H
    clear H
    have H := H1
    clear H1
    by_cases c11 : 0 < (t230.length : Int)
    ·rw [if_pos c11] at H
     have c11b0 : decide (0 < (t230.length : Int)) = true := decide_eq_true c11
     have c11b1 : decide (0 < t230.length) = true := decide_eq_true (by omega)
     clear c11
     by_cases c12 : 1 < (t230.length : Int)
     ·rw [if_pos c12] at H
      have c12b0 : decide (1 < (t230.length : Int)) = true := decide_eq_true c12
      have c12b1 : decide (1 < t230.length) = true := decide_eq_true (by omega)
      clear c12
      replace H := Option.bind_eq_some_iff.mp H
      obtain ⟨t237, A130, H⟩ := H
      replace H : (impl_ParseCity.l0 kj3 a0 t228 t237 (t237.length : Int) 0 (rd t230 0) (rd t230 1) ([] : List (S39))) = some (r1, r2, r3, r4) := H
      have A13 := qb.mk A130
      clear A130
      have HC14 := qb.mk H
      clear H
      try go_wp2
      have n0_ := qb.mk (Kd.qu HO_7.out)
      have n1_ := qb.mk (qi BK226.out)
      have n2_ := qb.mk (qc HB.out)
      clear HO_7
      clear BK226
      clear HB
      have HO_7 := n0_
      have BK226 := n1_
      have HB := n2_
      clear n0_ n1_ n2_
      obtain ⟨Ao16, co16, eo16⟩ := Kd.zj HO_7.out
      (first | subst eo16 | (injection eo16 with f1_ f2_ f3_; have f4_ := f1_.symm; have f5_ := f3_.symm; clear f1_ f2_ f3_; subst f4_; subst f5_))
      have p234 : 0 ≤ (0 : Int) := (by omega)
      have q234 : 0 < (t230.length : Int) := od_
      obtain ⟨ad234, e234, hx234_0⟩ := Kd.at_int (Kd.qw HO_7.out).2.2 0 p234 q234
      cases e234
      have qi234 : (0 < t230.length) = True := eq_true (by omega)
      (try rw [show ((0 : Int)).toNat = 0 from rfl] at hx234_0)
      (try rw [Addr.add_zero'] at hx234_0)
      replace p234 := eq_true p234
      replace q234 := eq_true q234
      have p235 : 0 ≤ (1 : Int) := (by omega)
      have q235 : 1 < (t230.length : Int) := od_
      obtain ⟨ad235, e235, hx235_0⟩ := Kd.at_int (Kd.qw HO_7.out).2.2 1 p235 q235
      obtain rfl : ad234 = ad235 := (by injection e235)
      (try simp only [show (1 : Int).toNat = 1 from rfl, Nat.reduceMul, Nat.reduceEqDiff, Go.Addr.add, ↓reduceIte] at hx235_0)
      have qi235 : (1 < t230.length) = True := eq_true (by omega)
      (try rw [show ((1 : Int)).toNat = 1 from rfl] at hx235_0)
      replace p235 := eq_true p235
      replace q235 := eq_true q235
      refine zu (n := 9) (S := fun w' => w'.cell? ad234 = some (.int .i64 (rd t230 0)) ∧ w'.cell? ⟨ad234.block, ad234.off + 1, none⟩ = some (.int .i64 (rd t230 1))) (ds := []) #[false, false, false, false, false, false, false, false, false] (by kernel_rfl) rfl rfl ⟨hx234_0, hx235_0⟩ (fun hHeld => ?_); refine zl impl_ParseCity.tab5 impl_ParseCity.bits5 (fun HT_ HW_ => ?_)
      generalize wc.drew = w15 at HO_7 BK226 HB hx234_0 hx235_0 hHeld ⊢
      refine pure_ (i := 0) (N := some 34) (v := ?_) (a' := ?_) #[true, false, false, false, false, false, false, false, false] rfl rfl (qq HT_.out (by kernel_rfl)) (fun _ _ _ h => h) (Or.inl ⟨by rfl, ?_⟩) ?_ ?_
      rotate_left
      ·intro w'
       go_simp
       with_reducible rfl
      rotate_left
      ·simp only [Act.put, sA_, sB_, sC_, i64_w, i32_w]
       rfl
      refine pure_ (i := 1) (N := some 35) (v := ?_) (a' := ?_) #[true, true, false, false, false, false, false, false, false] rfl rfl (qq HT_.out (by kernel_rfl)) (fun _ _ _ h => h) (Or.inl ⟨by rfl, ?_⟩) ?_ ?_
      rotate_left
      ·intro w'
       go_simp
       with_reducible rfl
      rotate_left
      ·simp only [Act.put, sA_, sB_, sC_, i64_w, i32_w]
       rfl
      refine pure_ (i := 3) (N := some 37) (v := ?_) (a' := ?_) #[true, true, false, true, false, false, false, false, false] rfl rfl (qq HT_.out (by kernel_rfl)) (fun _ _ _ h => h) (Or.inl ⟨by rfl, ?_⟩) ?_ ?_
      rotate_left
      ·intro w'
       go_simp
       with_reducible rfl
      rotate_left
      ·simp only [Act.put, sA_, sB_, sC_, i64_w, i32_w]
       rfl
      refine pure_ (i := 4) (N := some 38) (v := ?_) (a' := ?_) #[true, true, false, true, true, false, false, false, false] rfl rfl (qq HT_.out (by kernel_rfl)) (fun _ _ _ h => h) (Or.inl ⟨by rfl, ?_⟩) ?_ ?_
      rotate_left
      ·intro w'
       go_simp
       with_reducible rfl
      rotate_left
      ·simp only [Act.put, sA_, sB_, sC_, i64_w, i32_w]
       rfl
      refine take_ (i := 2) (N := some 36) (v := ?_) (a' := ?_) #[true, true, true, true, true, false, false, false, false] rfl rfl (qz HT_.out HW_.out (by kernel_rfl)) (fun _ _ _ h => h) (Or.inl ⟨by rfl, ?_⟩) hHeld ?_ ?_
      rotate_left
      ·rintro w' ⟨s0, s1⟩
       go_simp
       with_reducible rfl
      rotate_left
      ·simp only [Act.put, sA_, sB_, sC_, i64_w, i32_w]
       rfl
      refine take_ (i := 5) (N := some 39) (v := ?_) (a' := ?_) #[true, true, true, true, true, true, false, false, false] rfl rfl (qz HT_.out HW_.out (by kernel_rfl)) (fun _ _ _ h => h) (Or.inl ⟨by rfl, ?_⟩) hHeld ?_ ?_
      rotate_left
      ·rintro w' ⟨s0, s1⟩
       go_simp
       with_reducible rfl
      rotate_left
      ·simp only [Act.put, sA_, sB_, sC_, i64_w, i32_w]
       rfl
      refine pure_ (i := 6) (N := some 40) (v := ?_) (a' := ?_) #[true, true, true, true, true, true, true, false, false] rfl rfl (qq HT_.out (by kernel_rfl)) (fun _ _ _ h => h) (Or.inl ⟨by rfl, ?_⟩) ?_ ?_
      rotate_left
      ·intro w'
       go_simp
       with_reducible rfl
      rotate_left
      ·simp only [Act.put, sA_, sB_, sC_, i64_w, i32_w]
       rfl
      refine one_ (i := 7) (N := some 9) #[true, true, true, true, true, true, true, true, false] rfl rfl (zh HT_.out (by kernel_rfl)) (by decide) (fun K hK => ?_)
      refine box_step ?hg (N := 9) ?hd (cs := #[.int .i64 0, .int .i64 0, .slice none 0 0]) (t := 24) ?hr ?_; (case hd => rfl); (case hg => rfl); (case hr => first | (go_simp; done) | (go_simp; rfl))
      intro gb236 hg w17 hbox hb
      have HS0_ := (hb.cell (World.block_lt_of_cell? _ _ (hHeld.1))).trans (hHeld.1)
      have HS1_ := (hb.cell (World.block_lt_of_cell? _ _ (hHeld.2))).trans (hHeld.2)
      have n0_ := qb.mk (Kd.za (kr_ HO_7) hb)
      have n1_ := qb.mk (qn (g := gb226) (o := .cells #[.int .i64 0, .int .i64 0, .slice none 0 0] 24 (0, 0)) (bk_ BK226) hb)
      have n2_ := qb.mk (qm (be1_ HB GE226) hb)
      have n3_ := qb.mk (hbox)
      have n4_ := qb.mk ((by rw [hg]; exact (ql (be1_ HB GE226)) : w.heap.size ≤ gb236))
      have n5_ := qb.mk ((by rw [hg]; exact (ql (be1_ HB GE226)) : w.heap.size ≤ gb236))
      have n6_ := qb.mk ((by rw [hg]; exact Nat.ne_of_lt (zd (g := gb226) (o := .cells #[.int .i64 0, .int .i64 0, .slice none 0 0] 24 (0, 0)) (bk_ BK226)) : gb226 ≠ gb236))
      have n7_ := qb.mk ((by rw [hg]; exact Nat.ne_of_gt (zd (g := gb226) (o := .cells #[.int .i64 0, .int .i64 0, .slice none 0 0] 24 (0, 0)) (bk_ BK226)) : gb236 ≠ gb226))
      clear HO_7
      clear BK226
      clear HB
      have HO_7 := n0_
      have BK226 := n1_
      have HB := n2_
      have BK236 := n3_
      have GW236 := n4_
      have GE236 := n5_
      have NB226_236 := n6_
      have NB236_226 := n7_
      clear n0_ n1_ n2_ n3_ n4_ n5_ n6_ n7_
      clear hb hbox hg
      refine hK.out _ _ ⟨HS0_, HS1_⟩ (fun hHeld => ?_)
      clear hK K
      refine norm_ (a' := ?_) ?_ ?_
      rotate_left
      ·show Act.put _ (some 9) _ = _
       simp only [Act.put, sA_, sB_, sC_, i64_w, i32_w]
       rfl
      refine one_ (i := 8) (N := none) #[true, true, true, true, true, true, true, true, true] rfl rfl (zh HT_.out (by kernel_rfl)) (by decide) (fun K hK => ?_)
      have hs18 : w17.cell? ⟨gb236, 0, none⟩ = some (.int .i64 0) := (qg BK236.out 0).trans rfl
      have hfs18 := qj BK236.out 0
      have hns18_0 := NB226_236.out
      have hms18_0 := NB236_226.out
      have hs19 : w17.cell? ⟨gb236, 1, none⟩ = some (.int .i64 0) := (qg BK236.out 1).trans rfl
      have hfs19 := qj BK236.out 1
      have hns19_0 := NB226_236.out
      have hms19_0 := NB236_226.out
      have hs20 : w17.cell? ⟨gb236, 2, none⟩ = some (.slice none 0 0) := (qg BK236.out 2).trans rfl
      have hfs20 := qj BK236.out 2
      have hns20_0 := NB226_236.out
      have hms20_0 := NB236_226.out
      refine skip_ (w1 := ?_) (by rfl) rfl ?_ ?_
      rotate_left
      ·go_simp
       rfl
      refine hK.out _ _ ⟨((cell_far (p := ⟨gb236, _, none⟩) (by first | exact Kd.qy (Kd.R_ne HO_7.out BK236.out (by decide)) | (rw [add_block]; exact Kd.qy (Kd.R_ne HO_7.out BK236.out (by decide))) | (show (Addr.add _ _).block ≠ _; rw [add_block]; exact Kd.qy (Kd.R_ne HO_7.out BK236.out (by decide))) | (dsimp only; exact Kd.qy (Kd.R_ne HO_7.out BK236.out (by decide)))) _).trans (((cell_far (p := ⟨gb236, _, none⟩) (by first | exact Kd.qy (Kd.R_ne HO_7.out BK236.out (by decide)) | (rw [add_block]; exact Kd.qy (Kd.R_ne HO_7.out BK236.out (by decide))) | (show (Addr.add _ _).block ≠ _; rw [add_block]; exact Kd.qy (Kd.R_ne HO_7.out BK236.out (by decide))) | (dsimp only; exact Kd.qy (Kd.R_ne HO_7.out BK236.out (by decide)))) _).trans (((cell_far (p := ⟨gb236, _, none⟩) (by first | exact Kd.qy (Kd.R_ne HO_7.out BK236.out (by decide)) | (rw [add_block]; exact Kd.qy (Kd.R_ne HO_7.out BK236.out (by decide))) | (show (Addr.add _ _).block ≠ _; rw [add_block]; exact Kd.qy (Kd.R_ne HO_7.out BK236.out (by decide))) | (dsimp only; exact Kd.qy (Kd.R_ne HO_7.out BK236.out (by decide)))) _).trans (hHeld.1)))))), ((cell_far (p := ⟨gb236, _, none⟩) (by first | exact Kd.qy (Kd.R_ne HO_7.out BK236.out (by decide)) | (rw [add_block]; exact Kd.qy (Kd.R_ne HO_7.out BK236.out (by decide))) | (show (Addr.add _ _).block ≠ _; rw [add_block]; exact Kd.qy (Kd.R_ne HO_7.out BK236.out (by decide))) | (dsimp only; exact Kd.qy (Kd.R_ne HO_7.out BK236.out (by decide)))) _).trans (((cell_far (p := ⟨gb236, _, none⟩) (by first | exact Kd.qy (Kd.R_ne HO_7.out BK236.out (by decide)) | (rw [add_block]; exact Kd.qy (Kd.R_ne HO_7.out BK236.out (by decide))) | (show (Addr.add _ _).block ≠ _; rw [add_block]; exact Kd.qy (Kd.R_ne HO_7.out BK236.out (by decide))) | (dsimp only; exact Kd.qy (Kd.R_ne HO_7.out BK236.out (by decide)))) _).trans (((cell_far (p := ⟨gb236, _, none⟩) (by first | exact Kd.qy (Kd.R_ne HO_7.out BK236.out (by decide)) | (rw [add_block]; exact Kd.qy (Kd.R_ne HO_7.out BK236.out (by decide))) | (show (Addr.add _ _).block ≠ _; rw [add_block]; exact Kd.qy (Kd.R_ne HO_7.out BK236.out (by decide))) | (dsimp only; exact Kd.qy (Kd.R_ne HO_7.out BK236.out (by decide)))) _).trans (hHeld.2))))))⟩ (fun hHeld => ?_)
      clear hK K
      refine done_ (zq HT_.out (by kernel_rfl)) ?_
      go_upto_block 0 with (first | ((with_reducible refine qv (f := 12) rfl ?_); refine zf (some 42) rfl rfl Tryd.func12 (by kernel_rfl) rfl #[.string t228, .string (⟨#[44]⟩ : ByteArray)] rfl al_ ?_; (with_reducible refine (strings_Split.calls t228 (⟨#[44]⟩ : ByteArray) t237 _ (HLD.out.below (by repeat (first | (with_reducible first | exact HB.out | apply qd | apply qa | apply qc | refine qh ?_ (qb.out (by assumption))) | exact HB.out)) (Nat.le_refl _)) A13.out).mono ?_); rintro e w21 ⟨v238, rfl, ho0, hb⟩; refine ⟨_, rfl, ?_⟩; have n0_ := qb.mk (Kd.za (by (with_reducible repeat (first | apply Kd.qo | apply Kd.qp | apply Kd.qu)); exact (Kd.zi (Kd.R_far (p := ⟨gb236, 2, none⟩) (Kd.R_far (p := ⟨gb236, 1, none⟩) (Kd.R_far (p := ⟨gb236, 0, none⟩) (Kd.zk HO_7.out BK236.out (by decide)) (fun _ hk => hk.2) (.int .i64 (rd t230 0))) (fun _ hk => hk.2) (.int .i64 (rd t230 1))) (fun _ hk => hk.2) (.slice none 0 0)) (fun _ h_ => h_.1))) hb); have n1_ := qb.mk (Kd.zr ho0 (ql (be2_ HB GE226 GE236))); have n2_ := qb.mk (qn (g := gb226) (o := .cells #[.int .i64 0, .int .i64 0, .slice none 0 0] 24 (0, 0)) (by (with_reducible repeat (first | refine qf ?_ _ | refine qi ?_ | refine qe ?_ _)); refine ze ?_ NB226_236.out _; (with_reducible repeat (first | refine qf ?_ _ | refine qi ?_ | refine qe ?_ _)); refine ze ?_ NB226_236.out _; (with_reducible repeat (first | refine qf ?_ _ | refine qi ?_ | refine qe ?_ _)); refine ze ?_ NB226_236.out _; (with_reducible repeat (first | refine qf ?_ _ | refine qi ?_ | refine qe ?_ _)); exact BK226.out) hb); have n3_ := qb.mk (qn (g := gb236) (o := .cells #[.int .i64 (rd t230 0), .int .i64 (rd t230 1), .slice none 0 0] 24 (0, 0)) (by (with_reducible repeat (first | refine qf ?_ _ | refine qi ?_ | refine qe ?_ _)); refine qx (cs := #[.int .i64 (rd t230 0), .int .i64 (rd t230 1), .slice none 0 0]) ?_ 2 _ rfl; (with_reducible repeat (first | refine qf ?_ _ | refine qi ?_ | refine qe ?_ _)); refine qx (cs := #[.int .i64 (rd t230 0), .int .i64 0, .slice none 0 0]) ?_ 1 _ rfl; (with_reducible repeat (first | refine qf ?_ _ | refine qi ?_ | refine qe ?_ _)); refine qx (cs := #[.int .i64 0, .int .i64 0, .slice none 0 0]) ?_ 0 _ rfl; (with_reducible repeat (first | refine qf ?_ _ | refine qi ?_ | refine qe ?_ _)); exact BK236.out) hb); have n4_ := qb.mk (qm (be2_ HB GE226 GE236) hb); clear HO_7; clear BK226; clear BK236; clear HB; have HO_7 := n0_; have HO239 := n1_; have BK226 := n2_; have BK236 := n3_; have HB := n4_; clear n0_ n1_ n2_ n3_ n4_; (try clear hb); (try clear hb2); (try clear hk); (try clear hi); (try clear ho0); obtain ⟨Ao22, co22, eo22⟩ := Kd.zj HO239.out; subst eo22))
      (try simp only [Act.put, sA_, sB_, sC_])
      go_cut [] (fun wc => ∃ (kq : Nat) (x227000_13 : Int) (x227001_13 : Int) (x237002_13 : List (S39)) (u237002 : Value), qb (impl_ParseCity.j2 kq a0 (rd t230 0) (rd t230 1) x237002_13 = some (r1, r2, r3, r4)) ∧ qb (kq ≤ kj3) ∧ qb (Kd.R k39 39 wc w.heap.size (fun _ => True) u237002 x237002_13) ∧ qb (wc.heap[gb226]? = some (.cells #[.int .i64 x227000_13, .int .i64 x227001_13, (.slice none 0 0)] 24 (0, 0))) ∧ qb (wc.heap[gb236]? = some (.cells #[.int .i64 (rd t230 0), .int .i64 (rd t230 1), u237002] 24 (0, 0))) ∧ qb (Below w.heap.size w wc))
      case first =>
       have H := HC14.out
       clear HC14
       have H' := qb.mk H
       clear H
       go_wp2
       go_loopg [44] kj3 (fun kq v44 w' => ∃ (x44_2 : Int) (x227000_2 : Int) (x227001_2 : Int) (x237002_2 : List (S39)) (u237002 : Value), v44 = .int .i64 x44_2 ∧ qb (impl_ParseCity.l0 kq a0 t228 t237 (t237.length : Int) x44_2 (rd t230 0) (rd t230 1) x237002_2 = some (r1, r2, r3, r4)) ∧ qb (kq ≤ kj3) ∧ qb (Kd.R Kd.string 9 w' w.heap.size (fun _ => True) (.slice Ao22 t237.length co22) t237) ∧ qb (Kd.R k39 39 w' w.heap.size (fun _ => True) u237002 x237002_2) ∧ qb (w'.heap[gb226]? = some (.cells #[.int .i64 x227000_2, .int .i64 x227001_2, (.slice none 0 0)] 24 (0, 0))) ∧ qb (w'.heap[gb236]? = some (.cells #[.int .i64 (rd t230 0), .int .i64 (rd t230 1), u237002] 24 (0, 0))) ∧ qb (Below w.heap.size w w'))
       case atStart => exact ⟨(0), (0), (0), (([] : List (S39))), (.slice none 0 0), es_, H', ⟨Nat.le_refl _⟩, ⟨kr_ HO239⟩, ⟨by first | exact Kd.R_nil _ _ _ _ _ | exact Kd.N_nil _ _ _ _ _ | exact Kd.V_nil _ _ _ _ _ | exact Kd.Q_nil _ _ _ _ _ | exact Kd.S_nil _ _ _ _ _⟩, ⟨bk_ BK226⟩, ⟨bk_ BK236⟩, ⟨be2_ HB GE226 GE236⟩⟩
       case round =>
        clear H'
        try clear c7
        try clear c9
        try clear c11
        try clear c11b0
        try clear c11b1
        try clear c12
        try clear c12b0
        try clear c12b1
        try clear hcz10_0
        try clear hcz10_1
        try clear hcz10_2
        try clear hfz10_0
        try clear hfz10_1
        try clear hfz10_2
        try clear hx234_0
        try clear hx235_0
        try clear p234
        try clear p235
        try clear q234
        try clear q235
        obtain ⟨x44_2, x227000_2, x227001_2, x237002_2, u237002, rfl, HA, HK2, HO_42, HO_237002, BK226, BK236, HB⟩ := hrel
        cases gk with
        | zero => exact absurd HA.out (by simp [impl_ParseCity.l0])
        | succ k2 =>
         have H := HA.out
         clear HA
         simp only [impl_ParseCity.l0] at H
         by_cases c23 : x44_2 < (t237.length : Int)
         ·rw [if_pos c23] at H
          have c23b0 : decide (x44_2 < (t237.length : Int)) = true := decide_eq_true c23
          clear c23
          (first | rw [c23b0] | (simp only [i64_w, i32_w]; rw [c23b0]) | skip)
          by_cases c24 : 0 ≤ x44_2
          ·rw [if_pos c24] at H
           have c24b0 : decide (0 ≤ x44_2) = true := decide_eq_true c24
           clear c24
           by_cases c25 : x44_2 < (t237.length : Int)
           ·rw [if_pos c25] at H
            have c25b0 : decide (x44_2 < (t237.length : Int)) = true := decide_eq_true c25
            clear c25
            by_cases c26 : t228.toList = ([] : List UInt8)
            ·rw [if_pos c26] at H
             have c26b0 : (t228.toList == ([] : List UInt8)) = true := beq_iff_eq.mpr c26
             have c26b1 : (t228.toList != ([] : List UInt8)) = false := bne_eq_false_iff_eq.mpr c26
             clear c26
             have H' := qb.mk H
             clear H
             have p240 : 0 ≤ (x44_2 : Int) := od_
             have q240 : x44_2 < (t237.length : Int) := od_
             obtain ⟨ad240, e240, hx240_0⟩ := Kd.zm (Kd.qw HO_42.out).2.2 x44_2 p240 q240
             cases e240
             replace p240 := eq_true p240
             replace q240 := eq_true q240
             go_wp2
             go_meet
             case rel => exact ⟨_, (x227000_2), (x227001_2), (x237002_2), (u237002), H', ⟨by have := HJ3.out; have := HK2.out; first | omega | exact Nat.le_refl _⟩, ⟨kr_ HO_237002⟩, ⟨bk_ BK226⟩, ⟨bk_ BK236⟩, ⟨be2_ HB GE226 GE236⟩⟩
            ·rw [if_neg c26] at H
             have c26b0 : (t228.toList == ([] : List UInt8)) = false := beq_eq_false_iff_ne.mpr c26
             have c26b1 : (t228.toList != ([] : List UInt8)) = true := bne_iff_ne.mpr c26
             replace H := Option.bind_eq_some_iff.mp H
             obtain ⟨t241, A270, H⟩ := H
             replace H : (if t241 = true then ((impl_readNumbers.f k2 (rdOf ByteArray.empty t237 x44_2) (⟨#[124]⟩ : ByteArray)).bind fun bt242 => (if bt242.2 = true then (if (bt242.1.length : Int) = 2 then (if 0 < (bt242.1.length : Int) then (if 1 < (bt242.1.length : Int) then (if x237002_2.length < 5864062014805 then (impl_ParseCity.l0 k2 a0 t228 t237 (t237.length : Int) (wrap64 (x44_2 + 1)) (rd t230 0) (rd t230 1) (x237002_2 ++ [(⟨rd bt242.1 0, rd bt242.1 1, (([124] : List UInt8) == ([124] : List UInt8))⟩ : S39)])) else (none)) else (none)) else (none)) else (some (0, 0, ([] : List (S39)), false))) else (some (0, 0, ([] : List (S39)), false)))) else ((impl_readNumbers.f k2 (rdOf ByteArray.empty t237 x44_2) (⟨#[45]⟩ : ByteArray)).bind fun bt251 => (if bt251.2 = true then (if (bt251.1.length : Int) = 2 then (if 0 < (bt251.1.length : Int) then (if 1 < (bt251.1.length : Int) then (if x237002_2.length < 5864062014805 then (impl_ParseCity.l0 k2 a0 t228 t237 (t237.length : Int) (wrap64 (x44_2 + 1)) (rd t230 0) (rd t230 1) (x237002_2 ++ [(⟨rd bt251.1 0, rd bt251.1 1, (([45] : List UInt8) == ([124] : List UInt8))⟩ : S39)])) else (none)) else (none)) else (none)) else (some (0, 0, ([] : List (S39)), false))) else (some (0, 0, ([] : List (S39)), false))))) = some (r1, r2, r3, r4) := H
             have A27 := qb.mk A270
             clear A270
             by_cases c28 : t241 = true
             ·subst c28
              have H1 : ((impl_readNumbers.f k2 (rdOf ByteArray.empty t237 x44_2) (⟨#[124]⟩ : ByteArray)).bind fun bt242 => (if bt242.2 = true then (if (bt242.1.length : Int) = 2 then (if 0 < (bt242.1.length : Int) then (if 1 < (bt242.1.length : Int) then (if x237002_2.length < 5864062014805 then (impl_ParseCity.l0 k2 a0 t228 t237 (t237.length : Int) (wrap64 (x44_2 + 1)) (rd t230 0) (rd t230 1) (x237002_2 ++ [(⟨rd bt242.1 0, rd bt242.1 1, (([124] : List UInt8) == ([124] : List UInt8))⟩ : S39)])) else (none)) else (none)) else (none)) else (some (0, 0, ([] : List (S39)), false))) else (some (0, 0, ([] : List (S39)), false)))) = some (r1, r2, r3, r4) := by rw [if_pos rfl] at H; exact H
              clear H
              have H := H1
              clear H1
              replace H := Option.bind_eq_some_iff.mp H
              obtain ⟨⟨t242, t243⟩, A290, H⟩ := H
              replace H : (if t243 = true then (if (t242.length : Int) = 2 then (if 0 < (t242.length : Int) then (if 1 < (t242.length : Int) then (if x237002_2.length < 5864062014805 then (impl_ParseCity.l0 k2 a0 t228 t237 (t237.length : Int) (wrap64 (x44_2 + 1)) (rd t230 0) (rd t230 1) (x237002_2 ++ [(⟨rd t242 0, rd t242 1, (([124] : List UInt8) == ([124] : List UInt8))⟩ : S39)])) else (none)) else (none)) else (none)) else (some (0, 0, ([] : List (S39)), false))) else (some (0, 0, ([] : List (S39)), false))) = some (r1, r2, r3, r4) := H
              have A29 := qb.mk A290
              clear A290
              by_cases c30 : t243 = true
              ·subst c30
               have H1 : (if (t242.length : Int) = 2 then (if 0 < (t242.length : Int) then (if 1 < (t242.length : Int) then (if x237002_2.length < 5864062014805 then (impl_ParseCity.l0 k2 a0 t228 t237 (t237.length : Int) (wrap64 (x44_2 + 1)) (rd t230 0) (rd t230 1) (x237002_2 ++ [(⟨rd t242 0, rd t242 1, (([124] : List UInt8) == ([124] : List UInt8))⟩ : S39)])) else (none)) else (none)) else (none)) else (some (0, 0, ([] : List (S39)), false))) = some (r1, r2, r3, r4) := by rw [if_pos rfl] at H; exact H
               clear H
               have H := H1
               clear H1
               by_cases c31 : (t242.length : Int) = 2
               ·rw [if_pos c31] at H
                have c31b0 : ((t242.length : Int) == 2) = true := beq_iff_eq.mpr c31
                have c31b1 : ((t242.length : Int) != 2) = false := bne_eq_false_iff_eq.mpr c31
                clear c31
                by_cases c32 : 0 < (t242.length : Int)
                ·rw [if_pos c32] at H
                 have c32b0 : decide (0 < (t242.length : Int)) = true := decide_eq_true c32
                 have c32b1 : decide (0 < t242.length) = true := decide_eq_true (by omega)
                 clear c32
                 by_cases c33 : 1 < (t242.length : Int)
                 ·rw [if_pos c33] at H
                  have c33b0 : decide (1 < (t242.length : Int)) = true := decide_eq_true c33
                  have c33b1 : decide (1 < t242.length) = true := decide_eq_true (by omega)
                  clear c33
                  by_cases c34 : x237002_2.length < 5864062014805
                  ·rw [if_pos c34] at H
                   have LMc34 := qb.mk c34
                   clear c34
                   obtain ⟨y248, hy248⟩ : ∃ y_ : List (S39), y_ = (x237002_2 ++ [(⟨rd t242 0, rd t242 1, (([124] : List UInt8) == ([124] : List UInt8))⟩ : S39)]) := ⟨_, rfl⟩
                   replace H : (impl_ParseCity.l0 k2 a0 t228 t237 (t237.length : Int) (wrap64 (x44_2 + 1)) (rd t230 0) (rd t230 1) y248) = some (r1, r2, r3, r4) := by first | (rw [hy248]; with_reducible exact H) | (have H2_ := (Option.bind_some _ _).symm.trans H; rw [hy248]; with_reducible exact H2_) | (have H2_ := (Option.bind_some _ _).symm.trans H; with_reducible exact H2_) | with_reducible exact H | (rw [hy248]; exact H) | exact H
                   have Ny248 := qb.mk hy248
                   clear hy248
                   have H' := qb.mk H
                   clear H
                   have p240 : 0 ≤ (x44_2 : Int) := od_
                   have q240 : x44_2 < (t237.length : Int) := od_
                   obtain ⟨ad240, e240, hx240_0⟩ := Kd.zm (Kd.qw HO_42.out).2.2 x44_2 p240 q240
                   cases e240
                   replace p240 := eq_true p240
                   replace q240 := eq_true q240
                   try go_wp2_with (first | ((with_reducible refine qv (f := 13) rfl ?_); refine zf (some 51) rfl rfl Tryd.func13 (by kernel_rfl) rfl #[.string (rdOf ByteArray.empty t237 x44_2), .string (⟨#[124]⟩ : ByteArray)] rfl al_ ?_; (with_reducible refine (strings_Contains.calls (rdOf ByteArray.empty t237 x44_2) (⟨#[124]⟩ : ByteArray) true _ (HLD.out.below (by repeat (first | (with_reducible first | exact HB.out | apply qd | apply qa | apply qc | refine qh ?_ (qb.out (by assumption))) | exact HB.out)) (Nat.le_refl _)) A27.out).mono ?_); rintro e w' ⟨rfl, ⟨nd, rfl⟩⟩; refine ⟨_, rfl, ?_⟩; (try (rw [drewN_self wr]; generalize hq_ : World.drewN wr _ = wr; have n0_ : qb (Kd.R k39 39 wr w.heap.size (fun _ => True) u237002 x237002_2) := ⟨by rw [← hq_]; exact (kr_ HO_237002)⟩; have n1_ : qb (Kd.R Kd.string 9 wr w.heap.size (fun _ => True) (.slice (some ad240) t237.length co22) t237) := ⟨by rw [← hq_]; exact (kr_ HO_42)⟩; have n2_ : qb (wr.heap[gb226]? = some (.cells #[.int .i64 x227000_2, .int .i64 x227001_2, .slice none 0 0] 24 (0, 0))) := ⟨by rw [← hq_]; exact (bk_ BK226)⟩; have n3_ : qb (wr.heap[gb236]? = some (.cells #[.int .i64 (rd t230 0), .int .i64 (rd t230 1), u237002] 24 (0, 0))) := ⟨by rw [← hq_]; exact (bk_ BK236)⟩; have n4_ : qb (Below w.heap.size w wr) := ⟨by rw [← hq_]; exact (be2_ HB GE226 GE236)⟩; clear HO_237002 HO_42 BK226 BK236 HB hq_; have HO_237002 := n0_; have HO_42 := n1_; have BK226 := n2_; have BK236 := n3_; have HB := n4_; clear n0_ n1_ n2_ n3_ n4_))) | ((with_reducible refine qv (f := 11) rfl ?_); refine zf (some 55) rfl rfl Tryd.func11 (by kernel_rfl) rfl #[.string (rdOf ByteArray.empty t237 x44_2), .string (⟨#[124]⟩ : ByteArray)] rfl al_ ?_; (with_reducible refine (impl_readNumbers.calls k2 (rdOf ByteArray.empty t237 x44_2) (⟨#[124]⟩ : ByteArray) t242 true _ (HLD.out.below (by repeat (first | (with_reducible first | exact HB.out | apply qd | apply qa | apply qc | refine qh ?_ (qb.out (by assumption))) | exact HB.out)) (Nat.le_refl _)) A29.out).mono ?_); rintro e w35 ⟨v244, rfl, ho0, hb⟩; refine ⟨_, rfl, ?_⟩; have n0_ := qb.mk (Kd.za (kr_ HO_42) hb); have n1_ := qb.mk (Kd.za (kr_ HO_237002) hb); have n2_ := qb.mk (Kd.zr ho0 (ql (be2_ HB GE226 GE236))); have n3_ := qb.mk (qn (g := gb226) (o := .cells #[.int .i64 x227000_2, .int .i64 x227001_2, .slice none 0 0] 24 (0, 0)) (bk_ BK226) hb); have n4_ := qb.mk (qn (g := gb236) (o := .cells #[.int .i64 (rd t230 0), .int .i64 (rd t230 1), u237002] 24 (0, 0)) (bk_ BK236) hb); have n5_ := qb.mk (qm (be2_ HB GE226 GE236) hb); clear HO_42; clear HO_237002; clear BK226; clear BK236; clear HB; have HO_42 := n0_; have HO_237002 := n1_; have HO245 := n2_; have BK226 := n3_; have BK236 := n4_; have HB := n5_; clear n0_ n1_ n2_ n3_ n4_ n5_; (try clear hb); (try clear hb2); (try clear hk); (try clear hi); (try clear ho0); obtain ⟨Ao36, co36, eo36⟩ := Kd.zj HO245.out; subst eo36))
                   have n0_ := qb.mk (Kd.qu HO_42.out)
                   have n1_ := qb.mk (Kd.qu HO_237002.out)
                   have n2_ := qb.mk (Kd.qu HO245.out)
                   have n3_ := qb.mk (qi BK226.out)
                   have n4_ := qb.mk (qi BK236.out)
                   have n5_ := qb.mk (qc HB.out)
                   clear HO_42
                   clear HO_237002
                   clear HO245
                   clear BK226
                   clear BK236
                   clear HB
                   have HO_42 := n0_
                   have HO_237002 := n1_
                   have HO245 := n2_
                   have BK226 := n3_
                   have BK236 := n4_
                   have HB := n5_
                   clear n0_ n1_ n2_ n3_ n4_ n5_
                   have p246 : 0 ≤ (0 : Int) := (by omega)
                   have q246 : 0 < (t242.length : Int) := od_
                   obtain ⟨ad246, e246, hx246_0⟩ := Kd.at_int (Kd.qw HO245.out).2.2 0 p246 q246
                   cases e246
                   have qi246 : (0 < t242.length) = True := eq_true (by omega)
                   (try rw [show ((0 : Int)).toNat = 0 from rfl] at hx246_0)
                   (try rw [Addr.add_zero'] at hx246_0)
                   replace p246 := eq_true p246
                   replace q246 := eq_true q246
                   have p247 : 0 ≤ (1 : Int) := (by omega)
                   have q247 : 1 < (t242.length : Int) := od_
                   obtain ⟨ad247, e247, hx247_0⟩ := Kd.at_int (Kd.qw HO245.out).2.2 1 p247 q247
                   obtain rfl : ad246 = ad247 := (by injection e247)
                   (try simp only [show (1 : Int).toNat = 1 from rfl, Nat.reduceMul, Nat.reduceEqDiff, Go.Addr.add, ↓reduceIte] at hx247_0)
                   have qi247 : (1 < t242.length) = True := eq_true (by omega)
                   (try rw [show ((1 : Int)).toNat = 1 from rfl] at hx247_0)
                   replace p247 := eq_true p247
                   replace q247 := eq_true q247
                   refine zu (n := 15) (S := fun w' => w'.cell? ⟨gb236, 0, none⟩ = some (.int .i64 (rd t230 0)) ∧ w'.cell? ⟨gb236, 1, none⟩ = some (.int .i64 (rd t230 1)) ∧ w'.cell? ⟨gb236, 2, none⟩ = some (u237002) ∧ w'.cell? ad246 = some (.int .i64 (rd t242 0)) ∧ w'.cell? ⟨ad246.block, ad246.off + 1, none⟩ = some (.int .i64 (rd t242 1))) (ds := [12, 14]) #[false, false, false, false, false, false, false, false, false, false, false, false, false, false, false] (by kernel_rfl) rfl rfl ⟨(qg BK236.out 0).trans rfl, (qg BK236.out 1).trans rfl, (qg BK236.out 2).trans rfl, hx246_0, hx247_0⟩ (fun hHeld => ?_); refine zl impl_ParseCity.tab16 impl_ParseCity.bits16 (fun HT_ HW_ => ?_)
                   generalize w35.drew = w37 at HO_42 HO_237002 HO245 BK226 BK236 HB hx246_0 hx247_0 hHeld ⊢
                   refine pure_ (i := 0) (N := some 66) (v := ?_) (a' := ?_) #[true, false, false, false, false, false, false, false, false, false, false, false, false, false, false] rfl rfl (qq HT_.out (by kernel_rfl)) (fun _ _ _ h => h) (Or.inl ⟨by rfl, ?_⟩) ?_ ?_
                   rotate_left
                   ·intro w'
                    go_simp
                    with_reducible rfl
                   rotate_left
                   ·simp only [Act.put, sA_, sB_, sC_, i64_w, i32_w]
                    rfl
                   refine pure_ (i := 2) (N := some 68) (v := ?_) (a' := ?_) #[true, false, true, false, false, false, false, false, false, false, false, false, false, false, false] rfl rfl (qq HT_.out (by kernel_rfl)) (fun _ _ _ h => h) (Or.inl ⟨by rfl, ?_⟩) ?_ ?_
                   rotate_left
                   ·intro w'
                    go_simp
                    with_reducible rfl
                   rotate_left
                   ·simp only [Act.put, sA_, sB_, sC_, i64_w, i32_w]
                    rfl
                   refine pure_ (i := 3) (N := some 69) (v := ?_) (a' := ?_) #[true, false, true, true, false, false, false, false, false, false, false, false, false, false, false] rfl rfl (qq HT_.out (by kernel_rfl)) (fun _ _ _ h => h) (Or.inl ⟨by rfl, ?_⟩) ?_ ?_
                   rotate_left
                   ·intro w'
                    go_simp
                    with_reducible rfl
                   rotate_left
                   ·simp only [Act.put, sA_, sB_, sC_, i64_w, i32_w]
                    rfl
                   refine pure_ (i := 5) (N := some 71) (v := ?_) (a' := ?_) #[true, false, true, true, false, true, false, false, false, false, false, false, false, false, false] rfl rfl (qq HT_.out (by kernel_rfl)) (fun _ _ _ h => h) (Or.inl ⟨by rfl, ?_⟩) ?_ ?_
                   rotate_left
                   ·intro w'
                    go_simp
                    with_reducible rfl
                   rotate_left
                   ·simp only [Act.put, sA_, sB_, sC_, i64_w, i32_w]
                    rfl
                   refine pure_ (i := 6) (N := some 72) (v := ?_) (a' := ?_) #[true, false, true, true, false, true, true, false, false, false, false, false, false, false, false] rfl rfl (qq HT_.out (by kernel_rfl)) (fun _ _ _ h => h) (Or.inl ⟨by rfl, ?_⟩) ?_ ?_
                   rotate_left
                   ·intro w'
                    go_simp
                    with_reducible rfl
                   rotate_left
                   ·simp only [Act.put, sA_, sB_, sC_, i64_w, i32_w]
                    rfl
                   refine pure_ (i := 8) (N := some 74) (v := ?_) (a' := ?_) #[true, false, true, true, false, true, true, false, true, false, false, false, false, false, false] rfl rfl (qq HT_.out (by kernel_rfl)) (fun _ _ _ h => h) (Or.inl ⟨by rfl, ?_⟩) ?_ ?_
                   rotate_left
                   ·intro w'
                    go_simp
                    with_reducible rfl
                   rotate_left
                   ·simp only [Act.put, sA_, sB_, sC_, i64_w, i32_w]
                    rfl
                   refine pure_ (i := 9) (N := some 75) (v := ?_) (a' := ?_) #[true, false, true, true, false, true, true, false, true, true, false, false, false, false, false] rfl rfl (qq HT_.out (by kernel_rfl)) (fun _ _ _ h => h) (Or.inl ⟨by rfl, ?_⟩) ?_ ?_
                   rotate_left
                   ·intro w'
                    go_simp
                    with_reducible rfl
                   rotate_left
                   ·simp only [Act.put, sA_, sB_, sC_, i64_w, i32_w]
                    rfl
                   refine take_ (i := 1) (N := some 67) (v := ?_) (a' := ?_) #[true, true, true, true, false, true, true, false, true, true, false, false, false, false, false] rfl rfl (qz HT_.out HW_.out (by kernel_rfl)) (fun _ _ _ h => h) (Or.inl ⟨by rfl, ?_⟩) hHeld ?_ ?_
                   rotate_left
                   ·rintro w' ⟨s0, s1, s2, s3, s4⟩
                    go_simp
                    with_reducible rfl
                   rotate_left
                   ·simp only [Act.put, sA_, sB_, sC_, i64_w, i32_w]
                    rfl
                   refine take_ (i := 4) (N := some 70) (v := ?_) (a' := ?_) #[true, true, true, true, true, true, true, false, true, true, false, false, false, false, false] rfl rfl (qz HT_.out HW_.out (by kernel_rfl)) (fun _ _ _ h => h) (Or.inl ⟨by rfl, ?_⟩) hHeld ?_ ?_
                   rotate_left
                   ·rintro w' ⟨s0, s1, s2, s3, s4⟩
                    go_simp
                    with_reducible rfl
                   rotate_left
                   ·simp only [Act.put, sA_, sB_, sC_, i64_w, i32_w]
                    rfl
                   refine take_ (i := 7) (N := some 73) (v := ?_) (a' := ?_) #[true, true, true, true, true, true, true, true, true, true, false, false, false, false, false] rfl rfl (qz HT_.out HW_.out (by kernel_rfl)) (fun _ _ _ h => h) (Or.inl ⟨by rfl, ?_⟩) hHeld ?_ ?_
                   rotate_left
                   ·rintro w' ⟨s0, s1, s2, s3, s4⟩
                    go_simp
                    with_reducible rfl
                   rotate_left
                   ·simp only [Act.put, sA_, sB_, sC_, i64_w, i32_w]
                    rfl
                   refine pure_ (i := 10) (N := some 76) (v := ?_) (a' := ?_) #[true, true, true, true, true, true, true, true, true, true, true, false, false, false, false] rfl rfl (qq HT_.out (by kernel_rfl)) (fun _ _ _ h => h) (Or.inl ⟨by rfl, ?_⟩) ?_ ?_
                   rotate_left
                   ·intro w'
                    go_simp
                    with_reducible rfl
                   rotate_left
                   ·simp only [Act.put, sA_, sB_, sC_, i64_w, i32_w]
                    rfl
                   refine one_ (i := 11) (N := some 77) #[true, true, true, true, true, true, true, true, true, true, true, true, false, false, false] rfl rfl (zh HT_.out (by kernel_rfl)) (by decide) (fun K hK => ?_)
                   refine value_ (w1 := ?_) (v := ?_) (by rfl) rfl ?_ ?_
                   rotate_left 2
                   ·go_simp
                    constructor
                    ·rfl
                    ·rfl
                   refine hK.out _ _ ⟨(qg (qe BK236.out _) 0).trans rfl, (qg (qe BK236.out _) 1).trans rfl, (qg (qe BK236.out _) 2).trans rfl, (World.cell?_alloc_lt _ _ _ (World.block_lt_of_cell? _ _ (hHeld.2.2.2.1))).trans (hHeld.2.2.2.1), (World.cell?_alloc_lt _ _ _ (World.block_lt_of_cell? _ _ (hHeld.2.2.2.2))).trans (hHeld.2.2.2.2)⟩ (fun hHeld => ?_)
                   clear hK K
                   refine norm_ (a' := ?_) ?_ ?_
                   rotate_left
                   ·show Act.put _ (some 77) _ = _
                    simp only [Act.put, sA_, sB_, sC_, i64_w, i32_w]
                    rfl
                   refine last_ (i := 12) (N := some 78) #[true, true, true, true, true, true, true, true, true, true, true, true, true, false, false] rfl rfl (zh HT_.out (by kernel_rfl)) (by decide) (fun K hK => ?_)
                   refine Kd.R_append_step k39 (w0 := w) w.heap.size (by rfl) (.tmp 67) (.tmp 77) 22 39 (.agg #[(.int .i64 0), (.int .i64 0), (.bool false)]) 24 rfl Tryd.underlying22 info39 rfl (by decide) (by omega) u237002 x237002_2 (⟨rd t242 0, rd t242 1, (([124] : List UInt8) == ([124] : List UInt8))⟩ : S39) [.int .i64 (rd t242 0), .int .i64 (rd t242 1), .bool (([124] : List UInt8) == ([124] : List UInt8))] (fun _ => True) (fun _ => False) rfl rfl ?aP (fun _ hk => hk.elim) ?aF ?aO ?aB ?aS ?aL ?_
                   (case aP => exact k39_mkM _ _ _ (⟨rd t242 0, rd t242 1, (([124] : List UInt8) == ([124] : List UInt8))⟩ : S39))
                   (case aB => exact (be2_ HB GE226 GE236))
                   (case aF => exact (fun _ _ => trivial))
                   (case aO => exact (kr_ HO_237002))
                   (case aS => exact (ql (be2_ HB GE226 GE236)))
                   (case aL => have := LMc34.out; omega)
                   intro v249 w38 ho hb hg hat
                   rw [← Ny248.out] at ho
                   have n0_ := qb.mk (Kd.R_over' (kr_ HO_42) (Kd.R_typed (kr_ HO_237002)) (by decide) hg)
                   have n1_ := qb.mk (blk_grown (g := gb226) (o := .cells #[.int .i64 x227000_2, .int .i64 x227001_2, .slice none 0 0] 24 (0, 0)) (bk_ BK226) hg (Kd.R_ne HO_237002.out BK226.out (by decide)))
                   have n2_ := qb.mk (blk_grown (g := gb236) (o := .cells #[.int .i64 (rd t230 0), .int .i64 (rd t230 1), u237002] 24 (0, 0)) (bk_ BK236) hg (Kd.R_ne HO_237002.out BK236.out (by decide)))
                   have n3_ := qb.mk (Kd.R_over' (kr_ HO245) (Kd.R_typed (kr_ HO_237002)) (by decide) hg)
                   have n4_ := qb.mk (hb)
                   have n5_ := qb.mk (ho)
                   clear HO_42
                   clear BK226
                   clear BK236
                   clear HO245
                   clear HB
                   clear HO_237002
                   have HO_42 := n0_
                   have BK226 := n1_
                   have BK236 := n2_
                   have HO245 := n3_
                   have HB := n4_
                   have HO250 := n5_
                   clear n0_ n1_ n2_ n3_ n4_ n5_
                   clear ho hb hg hat
                   obtain ⟨Ao39, co39, eo39⟩ := Kd.zj HO250.out
                   (first | subst eo39 | (injection eo39 with f1_ f2_ f3_; have f4_ := f1_.symm; have f5_ := f3_.symm; clear f1_ f2_ f3_; subst f4_; subst f5_))
                   refine hK.out _ _ ?_
                   clear hK K
                   refine norm_ (a' := ?_) ?_ ?_
                   rotate_left
                   ·show Act.put _ (some 78) _ = _
                    simp only [Act.put, sA_, sB_, sC_, i64_w, i32_w]
                    rfl
                   refine pure_ (i := 13) (N := some 79) (v := ?_) (a' := ?_) #[true, true, true, true, true, true, true, true, true, true, true, true, true, true, false] rfl rfl (qq HT_.out (by kernel_rfl)) (fun _ _ _ h => h) (Or.inl ⟨by rfl, ?_⟩) ?_ ?_
                   rotate_left
                   ·intro w'
                    go_simp
                    with_reducible rfl
                   rotate_left
                   ·simp only [Act.put, sA_, sB_, sC_, i64_w, i32_w]
                    rfl
                   refine last_ (i := 14) (N := none) #[true, true, true, true, true, true, true, true, true, true, true, true, true, true, true] rfl rfl (zh HT_.out (by kernel_rfl)) (by decide) (fun K hK => ?_)
                   have hs40 : w38.cell? ⟨gb236, 2, none⟩ = some (u237002) := (qg BK236.out 2).trans rfl
                   have hfs40 := qj BK236.out 2
                   have hns40_0 := NB226_236.out
                   have hms40_0 := NB236_226.out
                   refine skip_ (w1 := ?_) (by rfl) rfl ?_ ?_
                   rotate_left
                   ·go_simp
                    rfl
                   refine hK.out _ _ ?_
                   clear hK K
                   refine done_ (zq HT_.out (by kernel_rfl)) ?_
                   try go_wp2
                   go_roundg k2
                   case measure => have := HJ3.out; have := HK2.out; omega
                   case rel => exact ⟨(wrap64 (x44_2 + 1)), (x227000_2), (x227001_2), (y248), (.slice Ao39 y248.length co39), es_, H', ⟨by have := HJ3.out; have := HK2.out; omega⟩, ⟨by (with_reducible repeat (first | apply Kd.qo | apply Kd.qp | apply Kd.qu)); exact Kd.zi (Kd.R_far (p := ⟨gb236, 2, none⟩) (Kd.zk HO_42.out BK236.out (by decide)) (fun _ hk => hk.2) (.slice Ao39 y248.length co39)) (fun _ hk => trivial)⟩, ⟨by (with_reducible repeat (first | apply Kd.qo | apply Kd.qp | apply Kd.qu)); exact Kd.zi (Kd.R_far (p := ⟨gb236, 2, none⟩) (Kd.zk HO250.out BK236.out (by decide)) (fun _ hk => hk.2) (.slice Ao39 y248.length co39)) (fun _ hk => trivial)⟩, ⟨by (with_reducible repeat (first | refine qf ?_ _ | refine qi ?_ | refine qe ?_ _)); refine ze ?_ NB226_236.out _; (with_reducible repeat (first | refine qf ?_ _ | refine qi ?_ | refine qe ?_ _)); exact BK226.out⟩, ⟨by (with_reducible repeat (first | refine qf ?_ _ | refine qi ?_ | refine qe ?_ _)); refine qx (cs := #[.int .i64 (rd t230 0), .int .i64 (rd t230 1), u237002]) ?_ 2 _ rfl; (with_reducible repeat (first | refine qf ?_ _ | refine qi ?_ | refine qe ?_ _)); exact BK236.out⟩, ⟨be2_ HB GE226 GE236⟩⟩
                  ·rw [if_neg c34] at H
                   exact absurd H (by simp)
                 ·rw [if_neg c33] at H
                  exact absurd H (by simp)
                ·rw [if_neg c32] at H
                 exact absurd H (by simp)
               ·rw [if_neg c31] at H
                have c31b0 : ((t242.length : Int) == 2) = false := beq_eq_false_iff_ne.mpr c31
                have c31b1 : ((t242.length : Int) != 2) = true := bne_iff_ne.mpr c31
                simp only [Option.some.injEq, Prod.mk.injEq] at H
                obtain ⟨rfl, rfl, rfl, rfl⟩ := H
                have p240 : 0 ≤ (x44_2 : Int) := od_
                have q240 : x44_2 < (t237.length : Int) := od_
                obtain ⟨ad240, e240, hx240_0⟩ := Kd.zm (Kd.qw HO_42.out).2.2 x44_2 p240 q240
                cases e240
                replace p240 := eq_true p240
                replace q240 := eq_true q240
                go_wp2_with (first | ((with_reducible refine qv (f := 13) rfl ?_); refine zf (some 51) rfl rfl Tryd.func13 (by kernel_rfl) rfl #[.string (rdOf ByteArray.empty t237 x44_2), .string (⟨#[124]⟩ : ByteArray)] rfl al_ ?_; (with_reducible refine (strings_Contains.calls (rdOf ByteArray.empty t237 x44_2) (⟨#[124]⟩ : ByteArray) true _ (HLD.out.below (by repeat (first | (with_reducible first | exact HB.out | apply qd | apply qa | apply qc | refine qh ?_ (qb.out (by assumption))) | exact HB.out)) (Nat.le_refl _)) A27.out).mono ?_); rintro e w' ⟨rfl, ⟨nd, rfl⟩⟩; refine ⟨_, rfl, ?_⟩; (try (rw [drewN_self wr]; generalize hq_ : World.drewN wr _ = wr; have n0_ : qb (Kd.R k39 39 wr w.heap.size (fun _ => True) u237002 x237002_2) := ⟨by rw [← hq_]; exact (kr_ HO_237002)⟩; have n1_ : qb (Kd.R Kd.string 9 wr w.heap.size (fun _ => True) (.slice (some ad240) t237.length co22) t237) := ⟨by rw [← hq_]; exact (kr_ HO_42)⟩; have n2_ : qb (wr.heap[gb226]? = some (.cells #[.int .i64 x227000_2, .int .i64 x227001_2, .slice none 0 0] 24 (0, 0))) := ⟨by rw [← hq_]; exact (bk_ BK226)⟩; have n3_ : qb (wr.heap[gb236]? = some (.cells #[.int .i64 (rd t230 0), .int .i64 (rd t230 1), u237002] 24 (0, 0))) := ⟨by rw [← hq_]; exact (bk_ BK236)⟩; have n4_ : qb (Below w.heap.size w wr) := ⟨by rw [← hq_]; exact (be2_ HB GE226 GE236)⟩; clear HO_237002 HO_42 BK226 BK236 HB hq_; have HO_237002 := n0_; have HO_42 := n1_; have BK226 := n2_; have BK236 := n3_; have HB := n4_; clear n0_ n1_ n2_ n3_ n4_))) | ((with_reducible refine qv (f := 11) rfl ?_); refine zf (some 55) rfl rfl Tryd.func11 (by kernel_rfl) rfl #[.string (rdOf ByteArray.empty t237 x44_2), .string (⟨#[124]⟩ : ByteArray)] rfl al_ ?_; (with_reducible refine (impl_readNumbers.calls k2 (rdOf ByteArray.empty t237 x44_2) (⟨#[124]⟩ : ByteArray) t242 true _ (HLD.out.below (by repeat (first | (with_reducible first | exact HB.out | apply qd | apply qa | apply qc | refine qh ?_ (qb.out (by assumption))) | exact HB.out)) (Nat.le_refl _)) A29.out).mono ?_); rintro e w41 ⟨v244, rfl, ho0, hb⟩; refine ⟨_, rfl, ?_⟩; have n0_ := qb.mk (Kd.za (kr_ HO_42) hb); have n1_ := qb.mk (Kd.za (kr_ HO_237002) hb); have n2_ := qb.mk (Kd.zr ho0 (ql (be2_ HB GE226 GE236))); have n3_ := qb.mk (qn (g := gb226) (o := .cells #[.int .i64 x227000_2, .int .i64 x227001_2, .slice none 0 0] 24 (0, 0)) (bk_ BK226) hb); have n4_ := qb.mk (qn (g := gb236) (o := .cells #[.int .i64 (rd t230 0), .int .i64 (rd t230 1), u237002] 24 (0, 0)) (bk_ BK236) hb); have n5_ := qb.mk (qm (be2_ HB GE226 GE236) hb); clear HO_42; clear HO_237002; clear BK226; clear BK236; clear HB; have HO_42 := n0_; have HO_237002 := n1_; have HO245 := n2_; have BK226 := n3_; have BK236 := n4_; have HB := n5_; clear n0_ n1_ n2_ n3_ n4_ n5_; (try clear hb); (try clear hb2); (try clear hk); (try clear hi); (try clear ho0); obtain ⟨Ao42, co42, eo42⟩ := Kd.zj HO245.out; subst eo42; have hnb43 := NB226_236.out; have hnc43 := NB236_226.out; have hcz44_0 : w41.cell? ⟨gb226, 0, none⟩ = some (.int .i64 x227000_2) := (qg BK226.out 0).trans rfl; have hcz44_1 : w41.cell? ⟨gb226, 1, none⟩ = some (.int .i64 x227001_2) := (qg BK226.out 1).trans rfl; have hcz44_2 : w41.cell? ⟨gb226, 2, none⟩ = some (.slice none 0 0) := (qg BK226.out 2).trans rfl; have hfz44_0 := qj BK226.out 0; have hfz44_1 := qj BK226.out 1; have hfz44_2 := qj BK226.out 2))
                refine bodyPost_ret (results_ct rfl _ _ gb226 24 #[.int .i64 0, .int .i64 0, .slice none 0 0] (0, 0) _ rfl (by (with_reducible repeat (first | refine qf ?_ _ | refine qi ?_ | refine qe ?_ _)); refine qx (cs := #[.int .i64 0, .int .i64 0, .slice none 0 0]) ?_ 2 _ rfl; (with_reducible repeat (first | refine qf ?_ _ | refine qi ?_ | refine qe ?_ _)); refine qx (cs := #[.int .i64 0, .int .i64 x227001_2, .slice none 0 0]) ?_ 1 _ rfl; (with_reducible repeat (first | refine qf ?_ _ | refine qi ?_ | refine qe ?_ _)); refine qx (cs := #[.int .i64 x227000_2, .int .i64 x227001_2, .slice none 0 0]) ?_ 0 _ rfl; (with_reducible repeat (first | refine qf ?_ _ | refine qi ?_ | refine qe ?_ _)); exact BK226.out) Tryd.underlying24 rfl (by kernel_rfl)) rfl ?_
                exact ⟨_, er_, by first | exact Kd.R_nil _ _ _ _ _ | exact Kd.N_nil _ _ _ _ _ | exact Kd.V_nil _ _ _ _ _ | exact Kd.Q_nil _ _ _ _ _ | exact Kd.S_nil _ _ _ _ _, be2_ HB GE226 GE236⟩
              ·replace c30 := Bool.eq_false_iff.mpr c30
               subst c30
               have H1 : (some (0, 0, ([] : List (S39)), false)) = some (r1, r2, r3, r4) := by rw [if_neg (show ¬ (false = true) by decide)] at H; exact H
               clear H
               have H := H1
               clear H1
               simp only [Option.some.injEq, Prod.mk.injEq] at H
               obtain ⟨rfl, rfl, rfl, rfl⟩ := H
               have p240 : 0 ≤ (x44_2 : Int) := od_
               have q240 : x44_2 < (t237.length : Int) := od_
               obtain ⟨ad240, e240, hx240_0⟩ := Kd.zm (Kd.qw HO_42.out).2.2 x44_2 p240 q240
               cases e240
               replace p240 := eq_true p240
               replace q240 := eq_true q240
               go_wp2_with (first | ((with_reducible refine qv (f := 13) rfl ?_); refine zf (some 51) rfl rfl Tryd.func13 (by kernel_rfl) rfl #[.string (rdOf ByteArray.empty t237 x44_2), .string (⟨#[124]⟩ : ByteArray)] rfl al_ ?_; (with_reducible refine (strings_Contains.calls (rdOf ByteArray.empty t237 x44_2) (⟨#[124]⟩ : ByteArray) true _ (HLD.out.below (by repeat (first | (with_reducible first | exact HB.out | apply qd | apply qa | apply qc | refine qh ?_ (qb.out (by assumption))) | exact HB.out)) (Nat.le_refl _)) A27.out).mono ?_); rintro e w' ⟨rfl, ⟨nd, rfl⟩⟩; refine ⟨_, rfl, ?_⟩; (try (rw [drewN_self wr]; generalize hq_ : World.drewN wr _ = wr; have n0_ : qb (Kd.R k39 39 wr w.heap.size (fun _ => True) u237002 x237002_2) := ⟨by rw [← hq_]; exact (kr_ HO_237002)⟩; have n1_ : qb (Kd.R Kd.string 9 wr w.heap.size (fun _ => True) (.slice (some ad240) t237.length co22) t237) := ⟨by rw [← hq_]; exact (kr_ HO_42)⟩; have n2_ : qb (wr.heap[gb226]? = some (.cells #[.int .i64 x227000_2, .int .i64 x227001_2, .slice none 0 0] 24 (0, 0))) := ⟨by rw [← hq_]; exact (bk_ BK226)⟩; have n3_ : qb (wr.heap[gb236]? = some (.cells #[.int .i64 (rd t230 0), .int .i64 (rd t230 1), u237002] 24 (0, 0))) := ⟨by rw [← hq_]; exact (bk_ BK236)⟩; have n4_ : qb (Below w.heap.size w wr) := ⟨by rw [← hq_]; exact (be2_ HB GE226 GE236)⟩; clear HO_237002 HO_42 BK226 BK236 HB hq_; have HO_237002 := n0_; have HO_42 := n1_; have BK226 := n2_; have BK236 := n3_; have HB := n4_; clear n0_ n1_ n2_ n3_ n4_))) | ((with_reducible refine qv (f := 11) rfl ?_); refine zf (some 55) rfl rfl Tryd.func11 (by kernel_rfl) rfl #[.string (rdOf ByteArray.empty t237 x44_2), .string (⟨#[124]⟩ : ByteArray)] rfl al_ ?_; (with_reducible refine (impl_readNumbers.calls k2 (rdOf ByteArray.empty t237 x44_2) (⟨#[124]⟩ : ByteArray) t242 false _ (HLD.out.below (by repeat (first | (with_reducible first | exact HB.out | apply qd | apply qa | apply qc | refine qh ?_ (qb.out (by assumption))) | exact HB.out)) (Nat.le_refl _)) A29.out).mono ?_); rintro e w45 ⟨v244, rfl, ho0, hb⟩; refine ⟨_, rfl, ?_⟩; have n0_ := qb.mk (Kd.za (kr_ HO_42) hb); have n1_ := qb.mk (Kd.za (kr_ HO_237002) hb); have n2_ := qb.mk (Kd.zr ho0 (ql (be2_ HB GE226 GE236))); have n3_ := qb.mk (qn (g := gb226) (o := .cells #[.int .i64 x227000_2, .int .i64 x227001_2, .slice none 0 0] 24 (0, 0)) (bk_ BK226) hb); have n4_ := qb.mk (qn (g := gb236) (o := .cells #[.int .i64 (rd t230 0), .int .i64 (rd t230 1), u237002] 24 (0, 0)) (bk_ BK236) hb); have n5_ := qb.mk (qm (be2_ HB GE226 GE236) hb); clear HO_42; clear HO_237002; clear BK226; clear BK236; clear HB; have HO_42 := n0_; have HO_237002 := n1_; have HO245 := n2_; have BK226 := n3_; have BK236 := n4_; have HB := n5_; clear n0_ n1_ n2_ n3_ n4_ n5_; (try clear hb); (try clear hb2); (try clear hk); (try clear hi); (try clear ho0); have hnb46 := NB226_236.out; have hnc46 := NB236_226.out; have hcz47_0 : w45.cell? ⟨gb226, 0, none⟩ = some (.int .i64 x227000_2) := (qg BK226.out 0).trans rfl; have hcz47_1 : w45.cell? ⟨gb226, 1, none⟩ = some (.int .i64 x227001_2) := (qg BK226.out 1).trans rfl; have hcz47_2 : w45.cell? ⟨gb226, 2, none⟩ = some (.slice none 0 0) := (qg BK226.out 2).trans rfl; have hfz47_0 := qj BK226.out 0; have hfz47_1 := qj BK226.out 1; have hfz47_2 := qj BK226.out 2))
               refine bodyPost_ret (results_ct rfl _ _ gb226 24 #[.int .i64 0, .int .i64 0, .slice none 0 0] (0, 0) _ rfl (by (with_reducible repeat (first | refine qf ?_ _ | refine qi ?_ | refine qe ?_ _)); refine qx (cs := #[.int .i64 0, .int .i64 0, .slice none 0 0]) ?_ 2 _ rfl; (with_reducible repeat (first | refine qf ?_ _ | refine qi ?_ | refine qe ?_ _)); refine qx (cs := #[.int .i64 0, .int .i64 x227001_2, .slice none 0 0]) ?_ 1 _ rfl; (with_reducible repeat (first | refine qf ?_ _ | refine qi ?_ | refine qe ?_ _)); refine qx (cs := #[.int .i64 x227000_2, .int .i64 x227001_2, .slice none 0 0]) ?_ 0 _ rfl; (with_reducible repeat (first | refine qf ?_ _ | refine qi ?_ | refine qe ?_ _)); exact BK226.out) Tryd.underlying24 rfl (by kernel_rfl)) rfl ?_
               exact ⟨_, er_, by first | exact Kd.R_nil _ _ _ _ _ | exact Kd.N_nil _ _ _ _ _ | exact Kd.V_nil _ _ _ _ _ | exact Kd.Q_nil _ _ _ _ _ | exact Kd.S_nil _ _ _ _ _, be2_ HB GE226 GE236⟩
             ·replace c28 := Bool.eq_false_iff.mpr c28
              subst c28
              have H1 : ((impl_readNumbers.f k2 (rdOf ByteArray.empty t237 x44_2) (⟨#[45]⟩ : ByteArray)).bind fun bt251 => (if bt251.2 = true then (if (bt251.1.length : Int) = 2 then (if 0 < (bt251.1.length : Int) then (if 1 < (bt251.1.length : Int) then (if x237002_2.length < 5864062014805 then (impl_ParseCity.l0 k2 a0 t228 t237 (t237.length : Int) (wrap64 (x44_2 + 1)) (rd t230 0) (rd t230 1) (x237002_2 ++ [(⟨rd bt251.1 0, rd bt251.1 1, (([45] : List UInt8) == ([124] : List UInt8))⟩ : S39)])) else (none)) else (none)) else (none)) else (some (0, 0, ([] : List (S39)), false))) else (some (0, 0, ([] : List (S39)), false)))) = some (r1, r2, r3, r4) := by rw [if_neg (show ¬ (false = true) by decide)] at H; exact H
              clear H
              have H := H1
              clear H1
              replace H := Option.bind_eq_some_iff.mp H
              obtain ⟨⟨t251, t252⟩, A480, H⟩ := H
              replace H : (if t252 = true then (if (t251.length : Int) = 2 then (if 0 < (t251.length : Int) then (if 1 < (t251.length : Int) then (if x237002_2.length < 5864062014805 then (impl_ParseCity.l0 k2 a0 t228 t237 (t237.length : Int) (wrap64 (x44_2 + 1)) (rd t230 0) (rd t230 1) (x237002_2 ++ [(⟨rd t251 0, rd t251 1, (([45] : List UInt8) == ([124] : List UInt8))⟩ : S39)])) else (none)) else (none)) else (none)) else (some (0, 0, ([] : List (S39)), false))) else (some (0, 0, ([] : List (S39)), false))) = some (r1, r2, r3, r4) := H
              have A48 := qb.mk A480
              clear A480
              by_cases c49 : t252 = true
              ·subst c49
               have H1 : (if (t251.length : Int) = 2 then (if 0 < (t251.length : Int) then (if 1 < (t251.length : Int) then (if x237002_2.length < 5864062014805 then (impl_ParseCity.l0 k2 a0 t228 t237 (t237.length : Int) (wrap64 (x44_2 + 1)) (rd t230 0) (rd t230 1) (x237002_2 ++ [(⟨rd t251 0, rd t251 1, (([45] : List UInt8) == ([124] : List UInt8))⟩ : S39)])) else (none)) else (none)) else (none)) else (some (0, 0, ([] : List (S39)), false))) = some (r1, r2, r3, r4) := by rw [if_pos rfl] at H; exact H
               clear H
               have H := H1
               clear H1
               by_cases c50 : (t251.length : Int) = 2
               ·rw [if_pos c50] at H
                have c50b0 : ((t251.length : Int) == 2) = true := beq_iff_eq.mpr c50
                have c50b1 : ((t251.length : Int) != 2) = false := bne_eq_false_iff_eq.mpr c50
                clear c50
                by_cases c51 : 0 < (t251.length : Int)
                ·rw [if_pos c51] at H
                 have c51b0 : decide (0 < (t251.length : Int)) = true := decide_eq_true c51
                 have c51b1 : decide (0 < t251.length) = true := decide_eq_true (by omega)
                 clear c51
                 by_cases c52 : 1 < (t251.length : Int)
                 ·rw [if_pos c52] at H
                  have c52b0 : decide (1 < (t251.length : Int)) = true := decide_eq_true c52
                  have c52b1 : decide (1 < t251.length) = true := decide_eq_true (by omega)
                  clear c52
                  by_cases c53 : x237002_2.length < 5864062014805
                  ·rw [if_pos c53] at H
                   have LMc53 := qb.mk c53
                   clear c53
                   obtain ⟨y257, hy257⟩ : ∃ y_ : List (S39), y_ = (x237002_2 ++ [(⟨rd t251 0, rd t251 1, (([45] : List UInt8) == ([124] : List UInt8))⟩ : S39)]) := ⟨_, rfl⟩
                   replace H : (impl_ParseCity.l0 k2 a0 t228 t237 (t237.length : Int) (wrap64 (x44_2 + 1)) (rd t230 0) (rd t230 1) y257) = some (r1, r2, r3, r4) := by first | (rw [hy257]; with_reducible exact H) | (have H2_ := (Option.bind_some _ _).symm.trans H; rw [hy257]; with_reducible exact H2_) | (have H2_ := (Option.bind_some _ _).symm.trans H; with_reducible exact H2_) | with_reducible exact H | (rw [hy257]; exact H) | exact H
                   have Ny257 := qb.mk hy257
                   clear hy257
                   have H' := qb.mk H
                   clear H
                   have p240 : 0 ≤ (x44_2 : Int) := od_
                   have q240 : x44_2 < (t237.length : Int) := od_
                   obtain ⟨ad240, e240, hx240_0⟩ := Kd.zm (Kd.qw HO_42.out).2.2 x44_2 p240 q240
                   cases e240
                   replace p240 := eq_true p240
                   replace q240 := eq_true q240
                   try go_wp2_with (first | ((with_reducible refine qv (f := 13) rfl ?_); refine zf (some 51) rfl rfl Tryd.func13 (by kernel_rfl) rfl #[.string (rdOf ByteArray.empty t237 x44_2), .string (⟨#[124]⟩ : ByteArray)] rfl al_ ?_; (with_reducible refine (strings_Contains.calls (rdOf ByteArray.empty t237 x44_2) (⟨#[124]⟩ : ByteArray) false _ (HLD.out.below (by repeat (first | (with_reducible first | exact HB.out | apply qd | apply qa | apply qc | refine qh ?_ (qb.out (by assumption))) | exact HB.out)) (Nat.le_refl _)) A27.out).mono ?_); rintro e w' ⟨rfl, ⟨nd, rfl⟩⟩; refine ⟨_, rfl, ?_⟩; (try (rw [drewN_self wr]; generalize hq_ : World.drewN wr _ = wr; have n0_ : qb (Kd.R k39 39 wr w.heap.size (fun _ => True) u237002 x237002_2) := ⟨by rw [← hq_]; exact (kr_ HO_237002)⟩; have n1_ : qb (Kd.R Kd.string 9 wr w.heap.size (fun _ => True) (.slice (some ad240) t237.length co22) t237) := ⟨by rw [← hq_]; exact (kr_ HO_42)⟩; have n2_ : qb (wr.heap[gb226]? = some (.cells #[.int .i64 x227000_2, .int .i64 x227001_2, .slice none 0 0] 24 (0, 0))) := ⟨by rw [← hq_]; exact (bk_ BK226)⟩; have n3_ : qb (wr.heap[gb236]? = some (.cells #[.int .i64 (rd t230 0), .int .i64 (rd t230 1), u237002] 24 (0, 0))) := ⟨by rw [← hq_]; exact (bk_ BK236)⟩; have n4_ : qb (Below w.heap.size w wr) := ⟨by rw [← hq_]; exact (be2_ HB GE226 GE236)⟩; clear HO_237002 HO_42 BK226 BK236 HB hq_; have HO_237002 := n0_; have HO_42 := n1_; have BK226 := n2_; have BK236 := n3_; have HB := n4_; clear n0_ n1_ n2_ n3_ n4_))) | ((with_reducible refine qv (f := 11) rfl ?_); refine zf (some 55) rfl rfl Tryd.func11 (by kernel_rfl) rfl #[.string (rdOf ByteArray.empty t237 x44_2), .string (⟨#[45]⟩ : ByteArray)] rfl al_ ?_; (with_reducible refine (impl_readNumbers.calls k2 (rdOf ByteArray.empty t237 x44_2) (⟨#[45]⟩ : ByteArray) t251 true _ (HLD.out.below (by repeat (first | (with_reducible first | exact HB.out | apply qd | apply qa | apply qc | refine qh ?_ (qb.out (by assumption))) | exact HB.out)) (Nat.le_refl _)) A48.out).mono ?_); rintro e w54 ⟨v253, rfl, ho0, hb⟩; refine ⟨_, rfl, ?_⟩; have n0_ := qb.mk (Kd.za (kr_ HO_42) hb); have n1_ := qb.mk (Kd.za (kr_ HO_237002) hb); have n2_ := qb.mk (Kd.zr ho0 (ql (be2_ HB GE226 GE236))); have n3_ := qb.mk (qn (g := gb226) (o := .cells #[.int .i64 x227000_2, .int .i64 x227001_2, .slice none 0 0] 24 (0, 0)) (bk_ BK226) hb); have n4_ := qb.mk (qn (g := gb236) (o := .cells #[.int .i64 (rd t230 0), .int .i64 (rd t230 1), u237002] 24 (0, 0)) (bk_ BK236) hb); have n5_ := qb.mk (qm (be2_ HB GE226 GE236) hb); clear HO_42; clear HO_237002; clear BK226; clear BK236; clear HB; have HO_42 := n0_; have HO_237002 := n1_; have HO254 := n2_; have BK226 := n3_; have BK236 := n4_; have HB := n5_; clear n0_ n1_ n2_ n3_ n4_ n5_; (try clear hb); (try clear hb2); (try clear hk); (try clear hi); (try clear ho0); obtain ⟨Ao55, co55, eo55⟩ := Kd.zj HO254.out; subst eo55))
                   have n0_ := qb.mk (Kd.qu HO_42.out)
                   have n1_ := qb.mk (Kd.qu HO_237002.out)
                   have n2_ := qb.mk (Kd.qu HO254.out)
                   have n3_ := qb.mk (qi BK226.out)
                   have n4_ := qb.mk (qi BK236.out)
                   have n5_ := qb.mk (qc HB.out)
                   clear HO_42
                   clear HO_237002
                   clear HO254
                   clear BK226
                   clear BK236
                   clear HB
                   have HO_42 := n0_
                   have HO_237002 := n1_
                   have HO254 := n2_
                   have BK226 := n3_
                   have BK236 := n4_
                   have HB := n5_
                   clear n0_ n1_ n2_ n3_ n4_ n5_
                   have p255 : 0 ≤ (0 : Int) := (by omega)
                   have q255 : 0 < (t251.length : Int) := od_
                   obtain ⟨ad255, e255, hx255_0⟩ := Kd.at_int (Kd.qw HO254.out).2.2 0 p255 q255
                   cases e255
                   have qi255 : (0 < t251.length) = True := eq_true (by omega)
                   (try rw [show ((0 : Int)).toNat = 0 from rfl] at hx255_0)
                   (try rw [Addr.add_zero'] at hx255_0)
                   replace p255 := eq_true p255
                   replace q255 := eq_true q255
                   have p256 : 0 ≤ (1 : Int) := (by omega)
                   have q256 : 1 < (t251.length : Int) := od_
                   obtain ⟨ad256, e256, hx256_0⟩ := Kd.at_int (Kd.qw HO254.out).2.2 1 p256 q256
                   obtain rfl : ad255 = ad256 := (by injection e256)
                   (try simp only [show (1 : Int).toNat = 1 from rfl, Nat.reduceMul, Nat.reduceEqDiff, Go.Addr.add, ↓reduceIte] at hx256_0)
                   have qi256 : (1 < t251.length) = True := eq_true (by omega)
                   (try rw [show ((1 : Int)).toNat = 1 from rfl] at hx256_0)
                   replace p256 := eq_true p256
                   replace q256 := eq_true q256
                   refine zu (n := 15) (S := fun w' => w'.cell? ⟨gb236, 0, none⟩ = some (.int .i64 (rd t230 0)) ∧ w'.cell? ⟨gb236, 1, none⟩ = some (.int .i64 (rd t230 1)) ∧ w'.cell? ⟨gb236, 2, none⟩ = some (u237002) ∧ w'.cell? ad255 = some (.int .i64 (rd t251 0)) ∧ w'.cell? ⟨ad255.block, ad255.off + 1, none⟩ = some (.int .i64 (rd t251 1))) (ds := [12, 14]) #[false, false, false, false, false, false, false, false, false, false, false, false, false, false, false] (by kernel_rfl) rfl rfl ⟨(qg BK236.out 0).trans rfl, (qg BK236.out 1).trans rfl, (qg BK236.out 2).trans rfl, hx255_0, hx256_0⟩ (fun hHeld => ?_); refine zl impl_ParseCity.tab16 impl_ParseCity.bits16 (fun HT_ HW_ => ?_)
                   generalize w54.drew = w56 at HO_42 HO_237002 HO254 BK226 BK236 HB hx255_0 hx256_0 hHeld ⊢
                   refine pure_ (i := 0) (N := some 66) (v := ?_) (a' := ?_) #[true, false, false, false, false, false, false, false, false, false, false, false, false, false, false] rfl rfl (qq HT_.out (by kernel_rfl)) (fun _ _ _ h => h) (Or.inl ⟨by rfl, ?_⟩) ?_ ?_
                   rotate_left
                   ·intro w'
                    go_simp
                    with_reducible rfl
                   rotate_left
                   ·simp only [Act.put, sA_, sB_, sC_, i64_w, i32_w]
                    rfl
                   refine pure_ (i := 2) (N := some 68) (v := ?_) (a' := ?_) #[true, false, true, false, false, false, false, false, false, false, false, false, false, false, false] rfl rfl (qq HT_.out (by kernel_rfl)) (fun _ _ _ h => h) (Or.inl ⟨by rfl, ?_⟩) ?_ ?_
                   rotate_left
                   ·intro w'
                    go_simp
                    with_reducible rfl
                   rotate_left
                   ·simp only [Act.put, sA_, sB_, sC_, i64_w, i32_w]
                    rfl
                   refine pure_ (i := 3) (N := some 69) (v := ?_) (a' := ?_) #[true, false, true, true, false, false, false, false, false, false, false, false, false, false, false] rfl rfl (qq HT_.out (by kernel_rfl)) (fun _ _ _ h => h) (Or.inl ⟨by rfl, ?_⟩) ?_ ?_
                   rotate_left
                   ·intro w'
                    go_simp
                    with_reducible rfl
                   rotate_left
                   ·simp only [Act.put, sA_, sB_, sC_, i64_w, i32_w]
                    rfl
                   refine pure_ (i := 5) (N := some 71) (v := ?_) (a' := ?_) #[true, false, true, true, false, true, false, false, false, false, false, false, false, false, false] rfl rfl (qq HT_.out (by kernel_rfl)) (fun _ _ _ h => h) (Or.inl ⟨by rfl, ?_⟩) ?_ ?_
                   rotate_left
                   ·intro w'
                    go_simp
                    with_reducible rfl
                   rotate_left
                   ·simp only [Act.put, sA_, sB_, sC_, i64_w, i32_w]
                    rfl
                   refine pure_ (i := 6) (N := some 72) (v := ?_) (a' := ?_) #[true, false, true, true, false, true, true, false, false, false, false, false, false, false, false] rfl rfl (qq HT_.out (by kernel_rfl)) (fun _ _ _ h => h) (Or.inl ⟨by rfl, ?_⟩) ?_ ?_
                   rotate_left
                   ·intro w'
                    go_simp
                    with_reducible rfl
                   rotate_left
                   ·simp only [Act.put, sA_, sB_, sC_, i64_w, i32_w]
                    rfl
                   refine pure_ (i := 8) (N := some 74) (v := ?_) (a' := ?_) #[true, false, true, true, false, true, true, false, true, false, false, false, false, false, false] rfl rfl (qq HT_.out (by kernel_rfl)) (fun _ _ _ h => h) (Or.inl ⟨by rfl, ?_⟩) ?_ ?_
                   rotate_left
                   ·intro w'
                    go_simp
                    with_reducible rfl
                   rotate_left
                   ·simp only [Act.put, sA_, sB_, sC_, i64_w, i32_w]
                    rfl
                   refine pure_ (i := 9) (N := some 75) (v := ?_) (a' := ?_) #[true, false, true, true, false, true, true, false, true, true, false, false, false, false, false] rfl rfl (qq HT_.out (by kernel_rfl)) (fun _ _ _ h => h) (Or.inl ⟨by rfl, ?_⟩) ?_ ?_
                   rotate_left
                   ·intro w'
                    go_simp
                    with_reducible rfl
                   rotate_left
                   ·simp only [Act.put, sA_, sB_, sC_, i64_w, i32_w]
                    rfl
                   refine take_ (i := 1) (N := some 67) (v := ?_) (a' := ?_) #[true, true, true, true, false, true, true, false, true, true, false, false, false, false, false] rfl rfl (qz HT_.out HW_.out (by kernel_rfl)) (fun _ _ _ h => h) (Or.inl ⟨by rfl, ?_⟩) hHeld ?_ ?_
                   rotate_left
                   ·rintro w' ⟨s0, s1, s2, s3, s4⟩
                    go_simp
                    with_reducible rfl
                   rotate_left
                   ·simp only [Act.put, sA_, sB_, sC_, i64_w, i32_w]
                    rfl
                   refine take_ (i := 4) (N := some 70) (v := ?_) (a' := ?_) #[true, true, true, true, true, true, true, false, true, true, false, false, false, false, false] rfl rfl (qz HT_.out HW_.out (by kernel_rfl)) (fun _ _ _ h => h) (Or.inl ⟨by rfl, ?_⟩) hHeld ?_ ?_
                   rotate_left
                   ·rintro w' ⟨s0, s1, s2, s3, s4⟩
                    go_simp
                    with_reducible rfl
                   rotate_left
                   ·simp only [Act.put, sA_, sB_, sC_, i64_w, i32_w]
                    rfl
                   refine take_ (i := 7) (N := some 73) (v := ?_) (a' := ?_) #[true, true, true, true, true, true, true, true, true, true, false, false, false, false, false] rfl rfl (qz HT_.out HW_.out (by kernel_rfl)) (fun _ _ _ h => h) (Or.inl ⟨by rfl, ?_⟩) hHeld ?_ ?_
                   rotate_left
                   ·rintro w' ⟨s0, s1, s2, s3, s4⟩
                    go_simp
                    with_reducible rfl
                   rotate_left
                   ·simp only [Act.put, sA_, sB_, sC_, i64_w, i32_w]
                    rfl
                   refine pure_ (i := 10) (N := some 76) (v := ?_) (a' := ?_) #[true, true, true, true, true, true, true, true, true, true, true, false, false, false, false] rfl rfl (qq HT_.out (by kernel_rfl)) (fun _ _ _ h => h) (Or.inl ⟨by rfl, ?_⟩) ?_ ?_
                   rotate_left
                   ·intro w'
                    go_simp
                    with_reducible rfl
                   rotate_left
                   ·simp only [Act.put, sA_, sB_, sC_, i64_w, i32_w]
                    rfl
                   refine one_ (i := 11) (N := some 77) #[true, true, true, true, true, true, true, true, true, true, true, true, false, false, false] rfl rfl (zh HT_.out (by kernel_rfl)) (by decide) (fun K hK => ?_)
                   refine value_ (w1 := ?_) (v := ?_) (by rfl) rfl ?_ ?_
                   rotate_left 2
                   ·go_simp
                    constructor
                    ·rfl
                    ·rfl
                   refine hK.out _ _ ⟨(qg (qe BK236.out _) 0).trans rfl, (qg (qe BK236.out _) 1).trans rfl, (qg (qe BK236.out _) 2).trans rfl, (World.cell?_alloc_lt _ _ _ (World.block_lt_of_cell? _ _ (hHeld.2.2.2.1))).trans (hHeld.2.2.2.1), (World.cell?_alloc_lt _ _ _ (World.block_lt_of_cell? _ _ (hHeld.2.2.2.2))).trans (hHeld.2.2.2.2)⟩ (fun hHeld => ?_)
                   clear hK K
                   refine norm_ (a' := ?_) ?_ ?_
                   rotate_left
                   ·show Act.put _ (some 77) _ = _
                    simp only [Act.put, sA_, sB_, sC_, i64_w, i32_w]
                    rfl
                   refine last_ (i := 12) (N := some 78) #[true, true, true, true, true, true, true, true, true, true, true, true, true, false, false] rfl rfl (zh HT_.out (by kernel_rfl)) (by decide) (fun K hK => ?_)
                   refine Kd.R_append_step k39 (w0 := w) w.heap.size (by rfl) (.tmp 67) (.tmp 77) 22 39 (.agg #[(.int .i64 0), (.int .i64 0), (.bool false)]) 24 rfl Tryd.underlying22 info39 rfl (by decide) (by omega) u237002 x237002_2 (⟨rd t251 0, rd t251 1, (([45] : List UInt8) == ([124] : List UInt8))⟩ : S39) [.int .i64 (rd t251 0), .int .i64 (rd t251 1), .bool (([45] : List UInt8) == ([124] : List UInt8))] (fun _ => True) (fun _ => False) rfl rfl ?aP (fun _ hk => hk.elim) ?aF ?aO ?aB ?aS ?aL ?_
                   (case aP => exact k39_mkM _ _ _ (⟨rd t251 0, rd t251 1, (([45] : List UInt8) == ([124] : List UInt8))⟩ : S39))
                   (case aB => exact (be2_ HB GE226 GE236))
                   (case aF => exact (fun _ _ => trivial))
                   (case aO => exact (kr_ HO_237002))
                   (case aS => exact (ql (be2_ HB GE226 GE236)))
                   (case aL => have := LMc53.out; omega)
                   intro v258 w57 ho hb hg hat
                   rw [← Ny257.out] at ho
                   have n0_ := qb.mk (Kd.R_over' (kr_ HO_42) (Kd.R_typed (kr_ HO_237002)) (by decide) hg)
                   have n1_ := qb.mk (blk_grown (g := gb226) (o := .cells #[.int .i64 x227000_2, .int .i64 x227001_2, .slice none 0 0] 24 (0, 0)) (bk_ BK226) hg (Kd.R_ne HO_237002.out BK226.out (by decide)))
                   have n2_ := qb.mk (blk_grown (g := gb236) (o := .cells #[.int .i64 (rd t230 0), .int .i64 (rd t230 1), u237002] 24 (0, 0)) (bk_ BK236) hg (Kd.R_ne HO_237002.out BK236.out (by decide)))
                   have n3_ := qb.mk (Kd.R_over' (kr_ HO254) (Kd.R_typed (kr_ HO_237002)) (by decide) hg)
                   have n4_ := qb.mk (hb)
                   have n5_ := qb.mk (ho)
                   clear HO_42
                   clear BK226
                   clear BK236
                   clear HO254
                   clear HB
                   clear HO_237002
                   have HO_42 := n0_
                   have BK226 := n1_
                   have BK236 := n2_
                   have HO254 := n3_
                   have HB := n4_
                   have HO259 := n5_
                   clear n0_ n1_ n2_ n3_ n4_ n5_
                   clear ho hb hg hat
                   obtain ⟨Ao58, co58, eo58⟩ := Kd.zj HO259.out
                   (first | subst eo58 | (injection eo58 with f1_ f2_ f3_; have f4_ := f1_.symm; have f5_ := f3_.symm; clear f1_ f2_ f3_; subst f4_; subst f5_))
                   refine hK.out _ _ ?_
                   clear hK K
                   refine norm_ (a' := ?_) ?_ ?_
                   rotate_left
                   ·show Act.put _ (some 78) _ = _
                    simp only [Act.put, sA_, sB_, sC_, i64_w, i32_w]
                    rfl
                   refine pure_ (i := 13) (N := some 79) (v := ?_) (a' := ?_) #[true, true, true, true, true, true, true, true, true, true, true, true, true, true, false] rfl rfl (qq HT_.out (by kernel_rfl)) (fun _ _ _ h => h) (Or.inl ⟨by rfl, ?_⟩) ?_ ?_
                   rotate_left
                   ·intro w'
                    go_simp
                    with_reducible rfl
                   rotate_left
                   ·simp only [Act.put, sA_, sB_, sC_, i64_w, i32_w]
                    rfl
                   refine last_ (i := 14) (N := none) #[true, true, true, true, true, true, true, true, true, true, true, true, true, true, true] rfl rfl (zh HT_.out (by kernel_rfl)) (by decide) (fun K hK => ?_)
                   have hs59 : w57.cell? ⟨gb236, 2, none⟩ = some (u237002) := (qg BK236.out 2).trans rfl
                   have hfs59 := qj BK236.out 2
                   have hns59_0 := NB226_236.out
                   have hms59_0 := NB236_226.out
                   refine skip_ (w1 := ?_) (by rfl) rfl ?_ ?_
                   rotate_left
                   ·go_simp
                    rfl
                   refine hK.out _ _ ?_
                   clear hK K
                   refine done_ (zq HT_.out (by kernel_rfl)) ?_
                   try go_wp2
                   go_roundg k2
                   case measure => have := HJ3.out; have := HK2.out; omega
                   case rel => exact ⟨(wrap64 (x44_2 + 1)), (x227000_2), (x227001_2), (y257), (.slice Ao58 y257.length co58), es_, H', ⟨by have := HJ3.out; have := HK2.out; omega⟩, ⟨by (with_reducible repeat (first | apply Kd.qo | apply Kd.qp | apply Kd.qu)); exact Kd.zi (Kd.R_far (p := ⟨gb236, 2, none⟩) (Kd.zk HO_42.out BK236.out (by decide)) (fun _ hk => hk.2) (.slice Ao58 y257.length co58)) (fun _ hk => trivial)⟩, ⟨by (with_reducible repeat (first | apply Kd.qo | apply Kd.qp | apply Kd.qu)); exact Kd.zi (Kd.R_far (p := ⟨gb236, 2, none⟩) (Kd.zk HO259.out BK236.out (by decide)) (fun _ hk => hk.2) (.slice Ao58 y257.length co58)) (fun _ hk => trivial)⟩, ⟨by (with_reducible repeat (first | refine qf ?_ _ | refine qi ?_ | refine qe ?_ _)); refine ze ?_ NB226_236.out _; (with_reducible repeat (first | refine qf ?_ _ | refine qi ?_ | refine qe ?_ _)); exact BK226.out⟩, ⟨by (with_reducible repeat (first | refine qf ?_ _ | refine qi ?_ | refine qe ?_ _)); refine qx (cs := #[.int .i64 (rd t230 0), .int .i64 (rd t230 1), u237002]) ?_ 2 _ rfl; (with_reducible repeat (first | refine qf ?_ _ | refine qi ?_ | refine qe ?_ _)); exact BK236.out⟩, ⟨be2_ HB GE226 GE236⟩⟩
                  ·rw [if_neg c53] at H
                   exact absurd H (by simp)
                 ·rw [if_neg c52] at H
                  exact absurd H (by simp)
                ·rw [if_neg c51] at H
                 exact absurd H (by simp)
               ·rw [if_neg c50] at H
                have c50b0 : ((t251.length : Int) == 2) = false := beq_eq_false_iff_ne.mpr c50
                have c50b1 : ((t251.length : Int) != 2) = true := bne_iff_ne.mpr c50
                simp only [Option.some.injEq, Prod.mk.injEq] at H
                obtain ⟨rfl, rfl, rfl, rfl⟩ := H
                have p240 : 0 ≤ (x44_2 : Int) := od_
                have q240 : x44_2 < (t237.length : Int) := od_
                obtain ⟨ad240, e240, hx240_0⟩ := Kd.zm (Kd.qw HO_42.out).2.2 x44_2 p240 q240
                cases e240
                replace p240 := eq_true p240
                replace q240 := eq_true q240
                go_wp2_with (first | ((with_reducible refine qv (f := 13) rfl ?_); refine zf (some 51) rfl rfl Tryd.func13 (by kernel_rfl) rfl #[.string (rdOf ByteArray.empty t237 x44_2), .string (⟨#[124]⟩ : ByteArray)] rfl al_ ?_; (with_reducible refine (strings_Contains.calls (rdOf ByteArray.empty t237 x44_2) (⟨#[124]⟩ : ByteArray) false _ (HLD.out.below (by repeat (first | (with_reducible first | exact HB.out | apply qd | apply qa | apply qc | refine qh ?_ (qb.out (by assumption))) | exact HB.out)) (Nat.le_refl _)) A27.out).mono ?_); rintro e w' ⟨rfl, ⟨nd, rfl⟩⟩; refine ⟨_, rfl, ?_⟩; (try (rw [drewN_self wr]; generalize hq_ : World.drewN wr _ = wr; have n0_ : qb (Kd.R k39 39 wr w.heap.size (fun _ => True) u237002 x237002_2) := ⟨by rw [← hq_]; exact (kr_ HO_237002)⟩; have n1_ : qb (Kd.R Kd.string 9 wr w.heap.size (fun _ => True) (.slice (some ad240) t237.length co22) t237) := ⟨by rw [← hq_]; exact (kr_ HO_42)⟩; have n2_ : qb (wr.heap[gb226]? = some (.cells #[.int .i64 x227000_2, .int .i64 x227001_2, .slice none 0 0] 24 (0, 0))) := ⟨by rw [← hq_]; exact (bk_ BK226)⟩; have n3_ : qb (wr.heap[gb236]? = some (.cells #[.int .i64 (rd t230 0), .int .i64 (rd t230 1), u237002] 24 (0, 0))) := ⟨by rw [← hq_]; exact (bk_ BK236)⟩; have n4_ : qb (Below w.heap.size w wr) := ⟨by rw [← hq_]; exact (be2_ HB GE226 GE236)⟩; clear HO_237002 HO_42 BK226 BK236 HB hq_; have HO_237002 := n0_; have HO_42 := n1_; have BK226 := n2_; have BK236 := n3_; have HB := n4_; clear n0_ n1_ n2_ n3_ n4_))) | ((with_reducible refine qv (f := 11) rfl ?_); refine zf (some 55) rfl rfl Tryd.func11 (by kernel_rfl) rfl #[.string (rdOf ByteArray.empty t237 x44_2), .string (⟨#[45]⟩ : ByteArray)] rfl al_ ?_; (with_reducible refine (impl_readNumbers.calls k2 (rdOf ByteArray.empty t237 x44_2) (⟨#[45]⟩ : ByteArray) t251 true _ (HLD.out.below (by repeat (first | (with_reducible first | exact HB.out | apply qd | apply qa | apply qc | refine qh ?_ (qb.out (by assumption))) | exact HB.out)) (Nat.le_refl _)) A48.out).mono ?_); rintro e w60 ⟨v253, rfl, ho0, hb⟩; refine ⟨_, rfl, ?_⟩; have n0_ := qb.mk (Kd.za (kr_ HO_42) hb); have n1_ := qb.mk (Kd.za (kr_ HO_237002) hb); have n2_ := qb.mk (Kd.zr ho0 (ql (be2_ HB GE226 GE236))); have n3_ := qb.mk (qn (g := gb226) (o := .cells #[.int .i64 x227000_2, .int .i64 x227001_2, .slice none 0 0] 24 (0, 0)) (bk_ BK226) hb); have n4_ := qb.mk (qn (g := gb236) (o := .cells #[.int .i64 (rd t230 0), .int .i64 (rd t230 1), u237002] 24 (0, 0)) (bk_ BK236) hb); have n5_ := qb.mk (qm (be2_ HB GE226 GE236) hb); clear HO_42; clear HO_237002; clear BK226; clear BK236; clear HB; have HO_42 := n0_; have HO_237002 := n1_; have HO254 := n2_; have BK226 := n3_; have BK236 := n4_; have HB := n5_; clear n0_ n1_ n2_ n3_ n4_ n5_; (try clear hb); (try clear hb2); (try clear hk); (try clear hi); (try clear ho0); obtain ⟨Ao61, co61, eo61⟩ := Kd.zj HO254.out; subst eo61; have hnb62 := NB226_236.out; have hnc62 := NB236_226.out; have hcz63_0 : w60.cell? ⟨gb226, 0, none⟩ = some (.int .i64 x227000_2) := (qg BK226.out 0).trans rfl; have hcz63_1 : w60.cell? ⟨gb226, 1, none⟩ = some (.int .i64 x227001_2) := (qg BK226.out 1).trans rfl; have hcz63_2 : w60.cell? ⟨gb226, 2, none⟩ = some (.slice none 0 0) := (qg BK226.out 2).trans rfl; have hfz63_0 := qj BK226.out 0; have hfz63_1 := qj BK226.out 1; have hfz63_2 := qj BK226.out 2))
                refine bodyPost_ret (results_ct rfl _ _ gb226 24 #[.int .i64 0, .int .i64 0, .slice none 0 0] (0, 0) _ rfl (by (with_reducible repeat (first | refine qf ?_ _ | refine qi ?_ | refine qe ?_ _)); refine qx (cs := #[.int .i64 0, .int .i64 0, .slice none 0 0]) ?_ 2 _ rfl; (with_reducible repeat (first | refine qf ?_ _ | refine qi ?_ | refine qe ?_ _)); refine qx (cs := #[.int .i64 0, .int .i64 x227001_2, .slice none 0 0]) ?_ 1 _ rfl; (with_reducible repeat (first | refine qf ?_ _ | refine qi ?_ | refine qe ?_ _)); refine qx (cs := #[.int .i64 x227000_2, .int .i64 x227001_2, .slice none 0 0]) ?_ 0 _ rfl; (with_reducible repeat (first | refine qf ?_ _ | refine qi ?_ | refine qe ?_ _)); exact BK226.out) Tryd.underlying24 rfl (by kernel_rfl)) rfl ?_
                exact ⟨_, er_, by first | exact Kd.R_nil _ _ _ _ _ | exact Kd.N_nil _ _ _ _ _ | exact Kd.V_nil _ _ _ _ _ | exact Kd.Q_nil _ _ _ _ _ | exact Kd.S_nil _ _ _ _ _, be2_ HB GE226 GE236⟩
              ·replace c49 := Bool.eq_false_iff.mpr c49
               subst c49
               have H1 : (some (0, 0, ([] : List (S39)), false)) = some (r1, r2, r3, r4) := by rw [if_neg (show ¬ (false = true) by decide)] at H; exact H
               clear H
               have H := H1
               clear H1
               simp only [Option.some.injEq, Prod.mk.injEq] at H
               obtain ⟨rfl, rfl, rfl, rfl⟩ := H
               have p240 : 0 ≤ (x44_2 : Int) := od_
               have q240 : x44_2 < (t237.length : Int) := od_
               obtain ⟨ad240, e240, hx240_0⟩ := Kd.zm (Kd.qw HO_42.out).2.2 x44_2 p240 q240
               cases e240
               replace p240 := eq_true p240
               replace q240 := eq_true q240
               go_wp2_with (first | ((with_reducible refine qv (f := 13) rfl ?_); refine zf (some 51) rfl rfl Tryd.func13 (by kernel_rfl) rfl #[.string (rdOf ByteArray.empty t237 x44_2), .string (⟨#[124]⟩ : ByteArray)] rfl al_ ?_; (with_reducible refine (strings_Contains.calls (rdOf ByteArray.empty t237 x44_2) (⟨#[124]⟩ : ByteArray) false _ (HLD.out.below (by repeat (first | (with_reducible first | exact HB.out | apply qd | apply qa | apply qc | refine qh ?_ (qb.out (by assumption))) | exact HB.out)) (Nat.le_refl _)) A27.out).mono ?_); rintro e w' ⟨rfl, ⟨nd, rfl⟩⟩; refine ⟨_, rfl, ?_⟩; (try (rw [drewN_self wr]; generalize hq_ : World.drewN wr _ = wr; have n0_ : qb (Kd.R k39 39 wr w.heap.size (fun _ => True) u237002 x237002_2) := ⟨by rw [← hq_]; exact (kr_ HO_237002)⟩; have n1_ : qb (Kd.R Kd.string 9 wr w.heap.size (fun _ => True) (.slice (some ad240) t237.length co22) t237) := ⟨by rw [← hq_]; exact (kr_ HO_42)⟩; have n2_ : qb (wr.heap[gb226]? = some (.cells #[.int .i64 x227000_2, .int .i64 x227001_2, .slice none 0 0] 24 (0, 0))) := ⟨by rw [← hq_]; exact (bk_ BK226)⟩; have n3_ : qb (wr.heap[gb236]? = some (.cells #[.int .i64 (rd t230 0), .int .i64 (rd t230 1), u237002] 24 (0, 0))) := ⟨by rw [← hq_]; exact (bk_ BK236)⟩; have n4_ : qb (Below w.heap.size w wr) := ⟨by rw [← hq_]; exact (be2_ HB GE226 GE236)⟩; clear HO_237002 HO_42 BK226 BK236 HB hq_; have HO_237002 := n0_; have HO_42 := n1_; have BK226 := n2_; have BK236 := n3_; have HB := n4_; clear n0_ n1_ n2_ n3_ n4_))) | ((with_reducible refine qv (f := 11) rfl ?_); refine zf (some 55) rfl rfl Tryd.func11 (by kernel_rfl) rfl #[.string (rdOf ByteArray.empty t237 x44_2), .string (⟨#[45]⟩ : ByteArray)] rfl al_ ?_; (with_reducible refine (impl_readNumbers.calls k2 (rdOf ByteArray.empty t237 x44_2) (⟨#[45]⟩ : ByteArray) t251 false _ (HLD.out.below (by repeat (first | (with_reducible first | exact HB.out | apply qd | apply qa | apply qc | refine qh ?_ (qb.out (by assumption))) | exact HB.out)) (Nat.le_refl _)) A48.out).mono ?_); rintro e w64 ⟨v253, rfl, ho0, hb⟩; refine ⟨_, rfl, ?_⟩; have n0_ := qb.mk (Kd.za (kr_ HO_42) hb); have n1_ := qb.mk (Kd.za (kr_ HO_237002) hb); have n2_ := qb.mk (Kd.zr ho0 (ql (be2_ HB GE226 GE236))); have n3_ := qb.mk (qn (g := gb226) (o := .cells #[.int .i64 x227000_2, .int .i64 x227001_2, .slice none 0 0] 24 (0, 0)) (bk_ BK226) hb); have n4_ := qb.mk (qn (g := gb236) (o := .cells #[.int .i64 (rd t230 0), .int .i64 (rd t230 1), u237002] 24 (0, 0)) (bk_ BK236) hb); have n5_ := qb.mk (qm (be2_ HB GE226 GE236) hb); clear HO_42; clear HO_237002; clear BK226; clear BK236; clear HB; have HO_42 := n0_; have HO_237002 := n1_; have HO254 := n2_; have BK226 := n3_; have BK236 := n4_; have HB := n5_; clear n0_ n1_ n2_ n3_ n4_ n5_; (try clear hb); (try clear hb2); (try clear hk); (try clear hi); (try clear ho0); have hnb65 := NB226_236.out; have hnc65 := NB236_226.out; have hcz66_0 : w64.cell? ⟨gb226, 0, none⟩ = some (.int .i64 x227000_2) := (qg BK226.out 0).trans rfl; have hcz66_1 : w64.cell? ⟨gb226, 1, none⟩ = some (.int .i64 x227001_2) := (qg BK226.out 1).trans rfl; have hcz66_2 : w64.cell? ⟨gb226, 2, none⟩ = some (.slice none 0 0) := (qg BK226.out 2).trans rfl; have hfz66_0 := qj BK226.out 0; have hfz66_1 := qj BK226.out 1; have hfz66_2 := qj BK226.out 2))
               refine bodyPost_ret (results_ct rfl _ _ gb226 24 #[.int .i64 0, .int .i64 0, .slice none 0 0] (0, 0) _ rfl (by (with_reducible repeat (first | refine qf ?_ _ | refine qi ?_ | refine qe ?_ _)); refine qx (cs := #[.int .i64 0, .int .i64 0, .slice none 0 0]) ?_ 2 _ rfl; (with_reducible repeat (first | refine qf ?_ _ | refine qi ?_ | refine qe ?_ _)); refine qx (cs := #[.int .i64 0, .int .i64 x227001_2, .slice none 0 0]) ?_ 1 _ rfl; (with_reducible repeat (first | refine qf ?_ _ | refine qi ?_ | refine qe ?_ _)); refine qx (cs := #[.int .i64 x227000_2, .int .i64 x227001_2, .slice none 0 0]) ?_ 0 _ rfl; (with_reducible repeat (first | refine qf ?_ _ | refine qi ?_ | refine qe ?_ _)); exact BK226.out) Tryd.underlying24 rfl (by kernel_rfl)) rfl ?_
               exact ⟨_, er_, by first | exact Kd.R_nil _ _ _ _ _ | exact Kd.N_nil _ _ _ _ _ | exact Kd.V_nil _ _ _ _ _ | exact Kd.Q_nil _ _ _ _ _ | exact Kd.S_nil _ _ _ _ _, be2_ HB GE226 GE236⟩
           ·rw [if_neg c25] at H
            exact absurd H (by simp)
          ·rw [if_neg c24] at H
           exact absurd H (by simp)
         ·rw [if_neg c23] at H
          have c23b0 : decide (x44_2 < (t237.length : Int)) = false := decide_eq_false c23
          clear c23
          (first | rw [c23b0] | (simp only [i64_w, i32_w]; rw [c23b0]) | skip)
          have H' := qb.mk H
          clear H
          go_wp2
          go_meet
          case rel => exact ⟨_, (x227000_2), (x227001_2), (x237002_2), (u237002), H', ⟨by have := HJ3.out; have := HK2.out; first | omega | exact Nat.le_refl _⟩, ⟨kr_ HO_237002⟩, ⟨bk_ BK226⟩, ⟨bk_ BK236⟩, ⟨be2_ HB GE226 GE236⟩⟩
      case rest =>
       clear HC14
       try clear c11
       try clear c23
       try clear c23b0
       try clear c24
       try clear c25
       try clear c28
       try clear c30
       try clear c31
       try clear c31b0
       try clear c31b1
       try clear c32
       try clear c32b0
       try clear c32b1
       try clear c33
       try clear c33b0
       try clear c33b1
       try clear c34
       try clear c49
       try clear c50
       try clear c50b0
       try clear c50b1
       try clear c51
       try clear c51b0
       try clear c51b1
       try clear c52
       try clear c52b0
       try clear c52b1
       try clear c53
       try clear hcz44_0
       try clear hcz44_1
       try clear hcz44_2
       try clear hcz47_0
       try clear hcz47_1
       try clear hcz47_2
       try clear hcz63_0
       try clear hcz63_1
       try clear hcz63_2
       try clear hcz66_0
       try clear hcz66_1
       try clear hcz66_2
       try clear hfz44_0
       try clear hfz44_1
       try clear hfz44_2
       try clear hfz47_0
       try clear hfz47_1
       try clear hfz47_2
       try clear hfz63_0
       try clear hfz63_1
       try clear hfz63_2
       try clear hfz66_0
       try clear hfz66_1
       try clear hfz66_2
       try clear hx240_0
       try clear hx246_0
       try clear hx247_0
       try clear hx255_0
       try clear hx256_0
       try clear p240
       try clear p246
       try clear p247
       try clear p255
       try clear p256
       try clear q240
       try clear q246
       try clear q247
       try clear q255
       try clear q256
       obtain ⟨kq, x227000_13, x227001_13, x237002_13, u237002, HA, HJ13, HO_237002, BK226, BK236, HB⟩ := hcut
       cases kq with
       | zero => exact absurd HA.out (by simp [impl_ParseCity.j2])
       | succ kj13 =>
        have H := HA.out
        clear HA
        simp only [impl_ParseCity.j2] at H
        replace H := Option.bind_eq_some_iff.mp H
        obtain ⟨t260, A670, H⟩ := H
        replace H : (if t260 = true then ((impl_cityText.f (rd t230 0) (rd t230 1) x237002_13).bind fun t261 => (if t261.toList = a0.toList then (some ((rd t230 0), (rd t230 1), x237002_13, true)) else (some (0, 0, ([] : List (S39)), false)))) else (some (0, 0, ([] : List (S39)), false))) = some (r1, r2, r3, r4) := H
        have A67 := qb.mk A670
        clear A670
        by_cases c68 : t260 = true
        ·subst c68
         have H1 : ((impl_cityText.f (rd t230 0) (rd t230 1) x237002_13).bind fun t261 => (if t261.toList = a0.toList then (some ((rd t230 0), (rd t230 1), x237002_13, true)) else (some (0, 0, ([] : List (S39)), false)))) = some (r1, r2, r3, r4) := by rw [if_pos rfl] at H; exact H
         clear H
         have H := H1
         clear H1
         replace H := Option.bind_eq_some_iff.mp H
         obtain ⟨t261, A690, H⟩ := H
         replace H : (if t261.toList = a0.toList then (some ((rd t230 0), (rd t230 1), x237002_13, true)) else (some (0, 0, ([] : List (S39)), false))) = some (r1, r2, r3, r4) := H
         have A69 := qb.mk A690
         clear A690
         by_cases c70 : t261.toList = a0.toList
         ·rw [if_pos c70] at H
          have c70b0 : (t261.toList == a0.toList) = true := beq_iff_eq.mpr c70
          have c70b1 : (t261.toList != a0.toList) = false := bne_eq_false_iff_eq.mpr c70
          clear c70
          simp only [Option.some.injEq, Prod.mk.injEq] at H
          obtain ⟨rfl, rfl, rfl, rfl⟩ := H
          have hnb71 := NB236_226.out
          have hnc71 := NB226_236.out
          have hcz72_0 : wc.cell? ⟨gb236, 0, none⟩ = some (.int .i64 (rd t230 0)) := (qg BK236.out 0).trans rfl
          have hcz72_1 : wc.cell? ⟨gb236, 1, none⟩ = some (.int .i64 (rd t230 1)) := (qg BK236.out 1).trans rfl
          have hcz72_2 : wc.cell? ⟨gb236, 2, none⟩ = some (u237002) := (qg BK236.out 2).trans rfl
          have hfz72_0 := qj BK236.out 0
          have hfz72_1 := qj BK236.out 1
          have hfz72_2 := qj BK236.out 2
          obtain ⟨Ao73, co73, eo73⟩ := Kd.zj HO_237002.out
          subst eo73
          go_wp2_with (first | ((with_reducible refine qv (f := 14) rfl ?_); refine zf (some 82) rfl rfl Tryd.func14 (by kernel_rfl) rfl #[.agg #[.int .i64 (rd t230 0), .int .i64 (rd t230 1), .slice Ao73 x237002_13.length co73]] rfl al_ ?_; (with_reducible refine (impl_IsCity.calls kj13 (rd t230 0) (rd t230 1) _ _ x237002_13 true _ ?side1 ?side2 A67.out).mono ?_); (case side1 => repeat (first | exact (Kd.qw HO_237002.out).2.2 | (with_reducible refine Kd.zp ?_ _) | (with_reducible refine Kd.zo ?_ _) | (with_reducible refine Kd.zt ?_))); (case side2 => exact (Kd.qw HO_237002.out).2.1); rintro e w74 ⟨rfl, hb⟩; refine ⟨_, rfl, ?_⟩; have n0_ := qb.mk (Kd.za (kr_ HO_237002) hb); have n1_ := qb.mk (qn (g := gb226) (o := .cells #[.int .i64 x227000_13, .int .i64 x227001_13, .slice none 0 0] 24 (0, 0)) (bk_ BK226) hb); have n2_ := qb.mk (qn (g := gb236) (o := .cells #[.int .i64 (rd t230 0), .int .i64 (rd t230 1), .slice Ao73 x237002_13.length co73] 24 (0, 0)) (bk_ BK236) hb); have n3_ := qb.mk (qm (be2_ HB GE226 GE236) hb); clear HO_237002; clear BK226; clear BK236; clear HB; have HO_237002 := n0_; have BK226 := n1_; have BK236 := n2_; have HB := n3_; clear n0_ n1_ n2_ n3_; (try clear hb); (try clear hb2); (try clear hk); (try clear hi); have hcz75_0 : w74.cell? ⟨gb236, 0, none⟩ = some (.int .i64 (rd t230 0)) := (qg BK236.out 0).trans rfl; have hcz75_1 : w74.cell? ⟨gb236, 1, none⟩ = some (.int .i64 (rd t230 1)) := (qg BK236.out 1).trans rfl; have hcz75_2 : w74.cell? ⟨gb236, 2, none⟩ = some (.slice Ao73 x237002_13.length co73) := (qg BK236.out 2).trans rfl; have hfz75_0 := qj BK236.out 0; have hfz75_1 := qj BK236.out 1; have hfz75_2 := qj BK236.out 2) | (go_at_call 15; (with_reducible refine (impl_cityText.calls (rd t230 0) (rd t230 1) _ _ x237002_13 t261 _ ?side1 ?side2 A69.out).mono ?_); (case side1 => repeat (first | exact (Kd.qw HO_237002.out).2.2 | (with_reducible refine Kd.zp ?_ _) | (with_reducible refine Kd.zo ?_ _) | (with_reducible refine Kd.zt ?_))); (case side2 => exact (Kd.qw HO_237002.out).2.1); rintro e w76 ⟨rfl, hb⟩; have n0_ := qb.mk (Kd.za (kr_ HO_237002) hb); have n1_ := qb.mk (qn (g := gb226) (o := .cells #[.int .i64 x227000_13, .int .i64 x227001_13, .slice none 0 0] 24 (0, 0)) (bk_ BK226) hb); have n2_ := qb.mk (qn (g := gb236) (o := .cells #[.int .i64 (rd t230 0), .int .i64 (rd t230 1), .slice Ao73 x237002_13.length co73] 24 (0, 0)) (bk_ BK236) hb); have n3_ := qb.mk (qm (be2_ HB GE226 GE236) hb); clear HO_237002; clear BK226; clear BK236; clear HB; have HO_237002 := n0_; have BK226 := n1_; have BK236 := n2_; have HB := n3_; clear n0_ n1_ n2_ n3_; (try clear hb); (try clear hb2); (try clear hk); (try clear hi); have hcz77_0 : w76.cell? ⟨gb236, 0, none⟩ = some (.int .i64 (rd t230 0)) := (qg BK236.out 0).trans rfl; have hcz77_1 : w76.cell? ⟨gb236, 1, none⟩ = some (.int .i64 (rd t230 1)) := (qg BK236.out 1).trans rfl; have hcz77_2 : w76.cell? ⟨gb236, 2, none⟩ = some (.slice Ao73 x237002_13.length co73) := (qg BK236.out 2).trans rfl; have hfz77_0 := qj BK236.out 0; have hfz77_1 := qj BK236.out 1; have hfz77_2 := qj BK236.out 2; have hcz78_0 : w76.cell? ⟨gb226, 0, none⟩ = some (.int .i64 x227000_13) := (qg BK226.out 0).trans rfl; have hcz78_1 : w76.cell? ⟨gb226, 1, none⟩ = some (.int .i64 x227001_13) := (qg BK226.out 1).trans rfl; have hcz78_2 : w76.cell? ⟨gb226, 2, none⟩ = some (.slice none 0 0) := (qg BK226.out 2).trans rfl; have hfz78_0 := qj BK226.out 0; have hfz78_1 := qj BK226.out 1; have hfz78_2 := qj BK226.out 2))
          refine bodyPost_ret (results_ct rfl _ _ gb226 24 #[.int .i64 (rd t230 0), .int .i64 (rd t230 1), .slice Ao73 x237002_13.length co73] (0, 0) _ rfl (by (with_reducible repeat (first | refine qf ?_ _ | refine qi ?_ | refine qe ?_ _)); refine qx (cs := #[.int .i64 (rd t230 0), .int .i64 (rd t230 1), .slice none 0 0]) ?_ 2 _ rfl; (with_reducible repeat (first | refine qf ?_ _ | refine qi ?_ | refine qe ?_ _)); refine qx (cs := #[.int .i64 (rd t230 0), .int .i64 x227001_13, .slice none 0 0]) ?_ 1 _ rfl; (with_reducible repeat (first | refine qf ?_ _ | refine qi ?_ | refine qe ?_ _)); refine qx (cs := #[.int .i64 x227000_13, .int .i64 x227001_13, .slice none 0 0]) ?_ 0 _ rfl; (with_reducible repeat (first | refine qf ?_ _ | refine qi ?_ | refine qe ?_ _)); exact BK226.out) Tryd.underlying24 rfl (by kernel_rfl)) rfl ?_
          exact ⟨_, er_, by (with_reducible repeat (first | apply Kd.qo | apply Kd.qp | apply Kd.qu)); exact Kd.zi (Kd.R_far (p := ⟨gb226, 2, none⟩) (Kd.R_far (p := ⟨gb226, 1, none⟩) (Kd.R_far (p := ⟨gb226, 0, none⟩) (Kd.zk HO_237002.out BK226.out (by decide)) (fun _ hk => hk.2) (.int .i64 (rd t230 0))) (fun _ hk => hk.2) (.int .i64 (rd t230 1))) (fun _ hk => hk.2) (.slice Ao73 x237002_13.length co73)) (fun _ hk => trivial), be2_ HB GE226 GE236⟩
         ·rw [if_neg c70] at H
          have c70b0 : (t261.toList == a0.toList) = false := beq_eq_false_iff_ne.mpr c70
          have c70b1 : (t261.toList != a0.toList) = true := bne_iff_ne.mpr c70
          simp only [Option.some.injEq, Prod.mk.injEq] at H
          obtain ⟨rfl, rfl, rfl, rfl⟩ := H
          have hnb79 := NB236_226.out
          have hnc79 := NB226_236.out
          have hcz80_0 : wc.cell? ⟨gb236, 0, none⟩ = some (.int .i64 (rd t230 0)) := (qg BK236.out 0).trans rfl
          have hcz80_1 : wc.cell? ⟨gb236, 1, none⟩ = some (.int .i64 (rd t230 1)) := (qg BK236.out 1).trans rfl
          have hcz80_2 : wc.cell? ⟨gb236, 2, none⟩ = some (u237002) := (qg BK236.out 2).trans rfl
          have hfz80_0 := qj BK236.out 0
          have hfz80_1 := qj BK236.out 1
          have hfz80_2 := qj BK236.out 2
          obtain ⟨Ao81, co81, eo81⟩ := Kd.zj HO_237002.out
          subst eo81
          go_wp2_with (first | ((with_reducible refine qv (f := 14) rfl ?_); refine zf (some 82) rfl rfl Tryd.func14 (by kernel_rfl) rfl #[.agg #[.int .i64 (rd t230 0), .int .i64 (rd t230 1), .slice Ao81 x237002_13.length co81]] rfl al_ ?_; (with_reducible refine (impl_IsCity.calls kj13 (rd t230 0) (rd t230 1) _ _ x237002_13 true _ ?side1 ?side2 A67.out).mono ?_); (case side1 => repeat (first | exact (Kd.qw HO_237002.out).2.2 | (with_reducible refine Kd.zp ?_ _) | (with_reducible refine Kd.zo ?_ _) | (with_reducible refine Kd.zt ?_))); (case side2 => exact (Kd.qw HO_237002.out).2.1); rintro e w82 ⟨rfl, hb⟩; refine ⟨_, rfl, ?_⟩; have n0_ := qb.mk (Kd.za (kr_ HO_237002) hb); have n1_ := qb.mk (qn (g := gb226) (o := .cells #[.int .i64 x227000_13, .int .i64 x227001_13, .slice none 0 0] 24 (0, 0)) (bk_ BK226) hb); have n2_ := qb.mk (qn (g := gb236) (o := .cells #[.int .i64 (rd t230 0), .int .i64 (rd t230 1), .slice Ao81 x237002_13.length co81] 24 (0, 0)) (bk_ BK236) hb); have n3_ := qb.mk (qm (be2_ HB GE226 GE236) hb); clear HO_237002; clear BK226; clear BK236; clear HB; have HO_237002 := n0_; have BK226 := n1_; have BK236 := n2_; have HB := n3_; clear n0_ n1_ n2_ n3_; (try clear hb); (try clear hb2); (try clear hk); (try clear hi); have hcz83_0 : w82.cell? ⟨gb236, 0, none⟩ = some (.int .i64 (rd t230 0)) := (qg BK236.out 0).trans rfl; have hcz83_1 : w82.cell? ⟨gb236, 1, none⟩ = some (.int .i64 (rd t230 1)) := (qg BK236.out 1).trans rfl; have hcz83_2 : w82.cell? ⟨gb236, 2, none⟩ = some (.slice Ao81 x237002_13.length co81) := (qg BK236.out 2).trans rfl; have hfz83_0 := qj BK236.out 0; have hfz83_1 := qj BK236.out 1; have hfz83_2 := qj BK236.out 2) | (go_at_call 15; (with_reducible refine (impl_cityText.calls (rd t230 0) (rd t230 1) _ _ x237002_13 t261 _ ?side1 ?side2 A69.out).mono ?_); (case side1 => repeat (first | exact (Kd.qw HO_237002.out).2.2 | (with_reducible refine Kd.zp ?_ _) | (with_reducible refine Kd.zo ?_ _) | (with_reducible refine Kd.zt ?_))); (case side2 => exact (Kd.qw HO_237002.out).2.1); rintro e w84 ⟨rfl, hb⟩; have n0_ := qb.mk (Kd.za (kr_ HO_237002) hb); have n1_ := qb.mk (qn (g := gb226) (o := .cells #[.int .i64 x227000_13, .int .i64 x227001_13, .slice none 0 0] 24 (0, 0)) (bk_ BK226) hb); have n2_ := qb.mk (qn (g := gb236) (o := .cells #[.int .i64 (rd t230 0), .int .i64 (rd t230 1), .slice Ao81 x237002_13.length co81] 24 (0, 0)) (bk_ BK236) hb); have n3_ := qb.mk (qm (be2_ HB GE226 GE236) hb); clear HO_237002; clear BK226; clear BK236; clear HB; have HO_237002 := n0_; have BK226 := n1_; have BK236 := n2_; have HB := n3_; clear n0_ n1_ n2_ n3_; (try clear hb); (try clear hb2); (try clear hk); (try clear hi); have hcz85_0 : w84.cell? ⟨gb226, 0, none⟩ = some (.int .i64 x227000_13) := (qg BK226.out 0).trans rfl; have hcz85_1 : w84.cell? ⟨gb226, 1, none⟩ = some (.int .i64 x227001_13) := (qg BK226.out 1).trans rfl; have hcz85_2 : w84.cell? ⟨gb226, 2, none⟩ = some (.slice none 0 0) := (qg BK226.out 2).trans rfl; have hfz85_0 := qj BK226.out 0; have hfz85_1 := qj BK226.out 1; have hfz85_2 := qj BK226.out 2))
          refine bodyPost_ret (results_ct rfl _ _ gb226 24 #[.int .i64 0, .int .i64 0, .slice none 0 0] (0, 0) _ rfl (by (with_reducible repeat (first | refine qf ?_ _ | refine qi ?_ | refine qe ?_ _)); refine qx (cs := #[.int .i64 0, .int .i64 0, .slice none 0 0]) ?_ 2 _ rfl; (with_reducible repeat (first | refine qf ?_ _ | refine qi ?_ | refine qe ?_ _)); refine qx (cs := #[.int .i64 0, .int .i64 x227001_13, .slice none 0 0]) ?_ 1 _ rfl; (with_reducible repeat (first | refine qf ?_ _ | refine qi ?_ | refine qe ?_ _)); refine qx (cs := #[.int .i64 x227000_13, .int .i64 x227001_13, .slice none 0 0]) ?_ 0 _ rfl; (with_reducible repeat (first | refine qf ?_ _ | refine qi ?_ | refine qe ?_ _)); exact BK226.out) Tryd.underlying24 rfl (by kernel_rfl)) rfl ?_
          exact ⟨_, er_, by first | exact Kd.R_nil _ _ _ _ _ | exact Kd.N_nil _ _ _ _ _ | exact Kd.V_nil _ _ _ _ _ | exact Kd.Q_nil _ _ _ _ _ | exact Kd.S_nil _ _ _ _ _, be2_ HB GE226 GE236⟩
        ·replace c68 := Bool.eq_false_iff.mpr c68
         subst c68
         have H1 : (some (0, 0, ([] : List (S39)), false)) = some (r1, r2, r3, r4) := by rw [if_neg (show ¬ (false = true) by decide)] at H; exact H
         clear H
         have H := H1
         clear H1
         simp only [Option.some.injEq, Prod.mk.injEq] at H
         obtain ⟨rfl, rfl, rfl, rfl⟩ := H
         have hnb86 := NB236_226.out
         have hnc86 := NB226_236.out
         have hcz87_0 : wc.cell? ⟨gb236, 0, none⟩ = some (.int .i64 (rd t230 0)) := (qg BK236.out 0).trans rfl
         have hcz87_1 : wc.cell? ⟨gb236, 1, none⟩ = some (.int .i64 (rd t230 1)) := (qg BK236.out 1).trans rfl
         have hcz87_2 : wc.cell? ⟨gb236, 2, none⟩ = some (u237002) := (qg BK236.out 2).trans rfl
         have hfz87_0 := qj BK236.out 0
         have hfz87_1 := qj BK236.out 1
         have hfz87_2 := qj BK236.out 2
         obtain ⟨Ao88, co88, eo88⟩ := Kd.zj HO_237002.out
         subst eo88
         go_wp2_with (first | ((with_reducible refine qv (f := 14) rfl ?_); refine zf (some 82) rfl rfl Tryd.func14 (by kernel_rfl) rfl #[.agg #[.int .i64 (rd t230 0), .int .i64 (rd t230 1), .slice Ao88 x237002_13.length co88]] rfl al_ ?_; (with_reducible refine (impl_IsCity.calls kj13 (rd t230 0) (rd t230 1) _ _ x237002_13 false _ ?side1 ?side2 A67.out).mono ?_); (case side1 => repeat (first | exact (Kd.qw HO_237002.out).2.2 | (with_reducible refine Kd.zp ?_ _) | (with_reducible refine Kd.zo ?_ _) | (with_reducible refine Kd.zt ?_))); (case side2 => exact (Kd.qw HO_237002.out).2.1); rintro e w89 ⟨rfl, hb⟩; refine ⟨_, rfl, ?_⟩; have n0_ := qb.mk (Kd.za (kr_ HO_237002) hb); have n1_ := qb.mk (qn (g := gb226) (o := .cells #[.int .i64 x227000_13, .int .i64 x227001_13, .slice none 0 0] 24 (0, 0)) (bk_ BK226) hb); have n2_ := qb.mk (qn (g := gb236) (o := .cells #[.int .i64 (rd t230 0), .int .i64 (rd t230 1), .slice Ao88 x237002_13.length co88] 24 (0, 0)) (bk_ BK236) hb); have n3_ := qb.mk (qm (be2_ HB GE226 GE236) hb); clear HO_237002; clear BK226; clear BK236; clear HB; have HO_237002 := n0_; have BK226 := n1_; have BK236 := n2_; have HB := n3_; clear n0_ n1_ n2_ n3_; (try clear hb); (try clear hb2); (try clear hk); (try clear hi); have hcz90_0 : w89.cell? ⟨gb226, 0, none⟩ = some (.int .i64 x227000_13) := (qg BK226.out 0).trans rfl; have hcz90_1 : w89.cell? ⟨gb226, 1, none⟩ = some (.int .i64 x227001_13) := (qg BK226.out 1).trans rfl; have hcz90_2 : w89.cell? ⟨gb226, 2, none⟩ = some (.slice none 0 0) := (qg BK226.out 2).trans rfl; have hfz90_0 := qj BK226.out 0; have hfz90_1 := qj BK226.out 1; have hfz90_2 := qj BK226.out 2))
         refine bodyPost_ret (results_ct rfl _ _ gb226 24 #[.int .i64 0, .int .i64 0, .slice none 0 0] (0, 0) _ rfl (by (with_reducible repeat (first | refine qf ?_ _ | refine qi ?_ | refine qe ?_ _)); refine qx (cs := #[.int .i64 0, .int .i64 0, .slice none 0 0]) ?_ 2 _ rfl; (with_reducible repeat (first | refine qf ?_ _ | refine qi ?_ | refine qe ?_ _)); refine qx (cs := #[.int .i64 0, .int .i64 x227001_13, .slice none 0 0]) ?_ 1 _ rfl; (with_reducible repeat (first | refine qf ?_ _ | refine qi ?_ | refine qe ?_ _)); refine qx (cs := #[.int .i64 x227000_13, .int .i64 x227001_13, .slice none 0 0]) ?_ 0 _ rfl; (with_reducible repeat (first | refine qf ?_ _ | refine qi ?_ | refine qe ?_ _)); exact BK226.out) Tryd.underlying24 rfl (by kernel_rfl)) rfl ?_
         exact ⟨_, er_, by first | exact Kd.R_nil _ _ _ _ _ | exact Kd.N_nil _ _ _ _ _ | exact Kd.V_nil _ _ _ _ _ | exact Kd.Q_nil _ _ _ _ _ | exact Kd.S_nil _ _ _ _ _, be2_ HB GE226 GE236⟩
     ·rw [if_neg c12] at H
      exact absurd H (by simp)
    ·rw [if_neg c11] at H
     exact absurd H (by simp)
end Go.Proofs.YtbnbdaommbnecacDoor.PFnExactParseCity
