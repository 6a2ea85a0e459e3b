/- Cut by wip/cut.py out of the texts of this claim (printed by the kit's printer, or this session's own): what the row's theorem does not reach is struck. Not trusted: Lean checks it. -/
import Derived.Test.YtpopeedfgenebaaDoorZFnPostCrossesPx0
import Derived.Test.YtpopeedfgenebaaDoorZFnPostCrossesPx2
import Derived.Test.YtpopeedfgenebaaDoorZFnPostCrossesPx3
import Derived.Test.YtpopeedfgenebaaDoorZFnPostCrossesPx4
namespace Go.Proofs.YtpopeedfgenebaaDoor.PFnPostCrosses
open Go.RowKit Go.Proofs.YtpopeedfgenebaaDoorW.PrintWords Go.Proofs.YtpopeedfgenebaaDoorW.PrintLast Go.Proofs.YtpopeedfgenebaaDoorW.PrintMore
attribute [local go_sem] zb qz zf ze qw qv za qy
set_option linter.unusedVariables false
set_option linter.unusedSimpArgs false
def impl_FewestCrossings.f (k : Nat) (a0 : ByteArray) (a1 : Int) : Option (Int × Bool) := (impl_isDelivered.f k a0 a1).bind fun t204 => (if t204 = true then ((impl_bestRoute.f a0 a1).bind fun bt205 => (some (bt205.1, true))) else (some (0, false)))
theorem impl_FewestCrossings.mono : ∀ a0 a1 k, LeO (impl_FewestCrossings.f k a0 a1) (impl_FewestCrossings.f (k + 1) a0 a1) := by
 intro a0 a1 k
 unfold impl_FewestCrossings.f
 exact l4_
set_option maxHeartbeats 8000000 in
set_option maxRecDepth 100000 in
theorem impl_FewestCrossings.calls (k : Nat) (a0 : ByteArray) (a1 : Int) (r1 : Int) (r2 : Bool) (w : World) (h : impl_FewestCrossings.f k a0 a1 = some (r1, r2)) :
  Calls Tryd.prog 14 #[.string a0, .int .i64 a1] w fun e w' => e = .returned (.tuple #[.int .i64 r1, .bool r2]) ∧ Below w.heap.size w w' := by
 have HB := qa.mk (Below.refl w.heap.size w)
 have H := h; clear h; unfold impl_FewestCrossings.f at H
 replace H := bX_ H; obtain ⟨t204, A3, H⟩ := H
 replace H := iB_ H; obtain ⟨rfl, H⟩ | ⟨rfl, H⟩ := H
 ·replace H := bX_ H; obtain ⟨⟨t205, t206, t207⟩, A5, H⟩ := H; (try dsimp only at H)
  simp only [Option.some.injEq, Prod.mk.injEq] at H
  obtain ⟨rfl, rfl⟩ := H
  go_enter Tryd.func14, Tryd.ntmps14
  go_wp2_with (first | (refine gL_ 11 Tryd.func32 #[.string a0, .int .i64 a1] ?_; refine (impl_isDelivered.calls k a0 a1 true _ A3.out).mono ?_; rintro e w' ⟨rfl, ⟨nd, rfl⟩⟩; refine ⟨_, rfl, ?_⟩) | (refine gL_ 16 Tryd.func40 #[.string a0, .int .i64 a1] ?_; refine (impl_bestRoute.calls a0 a1 t205 t206 t207 _ A5.out).mono ?_; rintro e w6 ⟨v208, rfl, ho0, hb⟩; refine ⟨_, rfl, ?_⟩; have HO209 := qa.mk ap_; replace HB := qa.mk a5_; (try clear hb ho0)))
  exact l5_
 ·simp only [Option.some.injEq, Prod.mk.injEq] at H
  obtain ⟨rfl, rfl⟩ := H
  go_enter Tryd.func14, Tryd.ntmps14
  exact ls_
def spec_FewestCrossings.f (k : Nat) (a0 : ByteArray) (a1 : Int) : Option (Int × Bool) := (spec_poAsked.f k a0 a1).bind fun t210 => (if t210 = true then ((spec_poTable.f a0 a1).bind fun bt211 => (if 0 < (bt211.1.length : Int) then (if 0 < ((rd_L4 bt211.1 0).length : Int) then (some (rd (rd_L4 bt211.1 0) 0, true)) else (none)) else (none))) else (some (0, false)))
theorem spec_FewestCrossings.mono : ∀ a0 a1 k, LeO (spec_FewestCrossings.f k a0 a1) (spec_FewestCrossings.f (k + 1) a0 a1) := by
 intro a0 a1 k
 unfold spec_FewestCrossings.f
 exact l8_
set_option maxHeartbeats 8000000 in
set_option maxRecDepth 100000 in
theorem spec_FewestCrossings.calls (k : Nat) (a0 : ByteArray) (a1 : Int) (r1 : Int) (r2 : Bool) (w : World) (h : spec_FewestCrossings.f k a0 a1 = some (r1, r2)) :
  Calls Tryd.prog 15 #[.string a0, .int .i64 a1] w fun e w' => e = .returned (.tuple #[.int .i64 r1, .bool r2]) ∧ Below w.heap.size w w' := by
 have HB := qa.mk (Below.refl w.heap.size w)
 have H := h; clear h; unfold spec_FewestCrossings.f at H
 replace H := bX_ H; obtain ⟨t210, A3, H⟩ := H
 replace H := iB_ H; obtain ⟨rfl, H⟩ | ⟨rfl, H⟩ := H
 ·replace H := bX_ H; obtain ⟨⟨t211, t212⟩, A5, H⟩ := H; (try dsimp only at H)
  replace H := iC_ H; obtain ⟨c6, H⟩ | ⟨c6, H⟩ := H
  ·have c6b0 : decide (0 < (t211.length : Int)) = true := decide_eq_true c6
   have c6b1 : decide (0 < t211.length) = true := decide_eq_true (by omega)
   clear c6
   replace H := iC_ H; obtain ⟨c7, H⟩ | ⟨c7, H⟩ := H
   ·have c7b0 : decide (0 < ((rd_L4 t211 0).length : Int)) = true := decide_eq_true c7
    have c7b1 : decide (0 < (rd_L4 t211 0).length) = true := decide_eq_true (by omega)
    clear c7
    simp only [Option.some.injEq, Prod.mk.injEq] at H
    obtain ⟨rfl, rfl⟩ := H
    go_enter Tryd.func15, Tryd.ntmps15
    go_wp2_with (first | (refine gL_ 10 Tryd.func38 #[.string a0, .int .i64 a1] ?_; refine (spec_poAsked.calls k a0 a1 true _ A3.out).mono ?_; rintro e w' ⟨rfl, ⟨nd, rfl⟩⟩; refine ⟨_, rfl, ?_⟩) | (refine gL_ 15 Tryd.func39 #[.string a0, .int .i64 a1] ?_; refine (spec_poTable.calls a0 a1 t211 t212 _ A5.out).mono ?_; rintro e w8 ⟨v213, v215, rfl, ho0, ho1, hb⟩; refine ⟨_, rfl, ?_⟩; have HO214 := qa.mk (Kd.S_lower ho0 a9_); have HO216 := qa.mk (Kd.S_lower ho1 a9_); replace HB := qa.mk a5_; (try clear hb ho0 ho1); obtain ⟨Ao9, co9, eo9⟩ := Kd.S_slice HO214.out; subst eo9; have p217 : 0 ≤ (0 : Int) := (by omega); have q217 : 0 < (t211.length : Int) := od_; obtain ⟨ad217, A217_0, c217_0, e217, hx217_0, hl217_0, hi217_0⟩ := at_L4 (Kd.zd HO214.out).2.2 0 p217 q217; cases e217; obtain ⟨ce217, hce217, hMe217, hcc217⟩ := Kd.S_get HO214.out [] 0 p217 (by first | exact q217 | exact od_ | (have e_ := (Kd.zd HO214.out).1; omega)); obtain ⟨ve217_0, rfl, ge217_0⟩ := hMe217; have hv217_0 := hcc217 0 _ rfl; rw [Nat.add_zero, show ((Kd.slice 3 (Kd.int .i64))).sz = 1 from rfl, Nat.mul_one] at hv217_0; replace hv217_0 := Option.some.inj (hv217_0.symm.trans hx217_0); rw [hv217_0] at ge217_0; have HL217_0 := qa.mk (show Kd.R (Kd.int .i64) 3 _ _ _ _ (rd_L4 t211 0) from ge217_0); clear hv217_0 ge217_0; clear hcc217 hce217; have qi217 : (0 < t211.length) = True := eq_true (by omega); (try rw [show ((0 : Int)).toNat = 0 from rfl] at hx217_0); (try rw [Addr.add_zero'] at hx217_0); have HR217_0 := qa.mk hi217_0; have HC217_0 := qa.mk hl217_0; clear hi217_0 hl217_0; replace p217 := eq_true p217; replace q217 := eq_true q217; have p218 : 0 ≤ (0 : Int) := (by omega); have q218 : 0 < ((rd_L4 t211 0).length : Int) := od_; obtain ⟨ad218, e218, hx218_0⟩ := Kd.zj (by repeat (first | (with_reducible exact HR217_0.out) | (with_reducible refine Kd.zh ?_ _) | (with_reducible refine Kd.zg ?_ _) | (with_reducible refine Kd.zk ?_) | exact HR217_0.out)) 0 p218 q218; cases e218; have qi218 : (0 < (rd_L4 t211 0).length) = True := eq_true (by omega); (try rw [show ((0 : Int)).toNat = 0 from rfl] at hx218_0); (try rw [Addr.add_zero'] at hx218_0); replace p218 := eq_true p218; replace q218 := eq_true q218))
    exact l5_
   ·cases H
  ·cases H
 ·simp only [Option.some.injEq, Prod.mk.injEq] at H
  obtain ⟨rfl, rfl⟩ := H
  go_enter Tryd.func15, Tryd.ntmps15
  exact lt_
def impl_RouteSides.f (k : Nat) (a0 : ByteArray) (a1 : Int) : Option (List Int × Bool) := (impl_isDelivered.f k a0 a1).bind fun t219 => (if t219 = true then ((impl_bestRoute.f a0 a1).bind fun bt220 => (some (bt220.2.1, true))) else (some (([] : List Int), false)))
theorem impl_RouteSides.mono : ∀ a0 a1 k, LeO (impl_RouteSides.f k a0 a1) (impl_RouteSides.f (k + 1) a0 a1) := by
 intro a0 a1 k
 unfold impl_RouteSides.f
 exact l4_
set_option maxHeartbeats 8000000 in
set_option maxRecDepth 100000 in
theorem impl_RouteSides.calls (k : Nat) (a0 : ByteArray) (a1 : Int) (r1 : List Int) (r2 : Bool) (w : World) (h : impl_RouteSides.f k a0 a1 = some (r1, r2)) :
  Calls Tryd.prog 16 #[.string a0, .int .i64 a1] w fun e w' => ∃ v0_ : Value, e = .returned (.tuple #[v0_, .bool r2]) ∧ Kd.R (Kd.int .i64) 3 w' w.heap.size (fun _ => True) v0_ r1 ∧ Below w.heap.size w w' := by
 have HB := qa.mk (Below.refl w.heap.size w)
 have H := h; clear h; unfold impl_RouteSides.f at H
 replace H := bX_ H; obtain ⟨t219, A3, H⟩ := H
 replace H := iB_ H; obtain ⟨rfl, H⟩ | ⟨rfl, H⟩ := H
 ·replace H := bX_ H; obtain ⟨⟨t220, t221, t222⟩, A5, H⟩ := H; (try dsimp only at H)
  simp only [Option.some.injEq, Prod.mk.injEq] at H
  obtain ⟨rfl, rfl⟩ := H
  go_enter Tryd.func16, Tryd.ntmps16
  go_wp2_with (first | (refine gL_ 11 Tryd.func32 #[.string a0, .int .i64 a1] ?_; refine (impl_isDelivered.calls k a0 a1 true _ A3.out).mono ?_; rintro e w' ⟨rfl, ⟨nd, rfl⟩⟩; refine ⟨_, rfl, ?_⟩) | (refine gL_ 16 Tryd.func40 #[.string a0, .int .i64 a1] ?_; refine (impl_bestRoute.calls a0 a1 t220 t221 t222 _ A5.out).mono ?_; rintro e w6 ⟨v223, rfl, ho0, hb⟩; refine ⟨_, rfl, ?_⟩; have HO224 := qa.mk ap_; replace HB := qa.mk a5_; (try clear hb ho0)))
  go_ret2
  exact ⟨_, er_, kr_ HO224, be0_ HB⟩
 ·simp only [Option.some.injEq, Prod.mk.injEq] at H
  obtain ⟨rfl, rfl⟩ := H
  go_enter Tryd.func16, Tryd.ntmps16
  go_wp2_with (first | (refine gL_ 11 Tryd.func32 #[.string a0, .int .i64 a1] ?_; refine (impl_isDelivered.calls k a0 a1 false _ A3.out).mono ?_; rintro e w' ⟨rfl, ⟨nd, rfl⟩⟩; refine ⟨_, rfl, ?_⟩))
  go_ret2
  exact ⟨_, er_, af_, be0_ HB⟩
end Go.Proofs.YtpopeedfgenebaaDoor.PFnPostCrosses
