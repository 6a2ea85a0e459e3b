/- Cut by wip/cut.py out of the texts of this claim (printed by the kit's printer, or this session's own): what the row's theorem does not reach is struck. Not trusted: Lean checks it. -/
import Derived.Test.YtpopeedfgenebaaDoorZFnPostCrossesPx0
import Derived.Test.YtpopeedfgenebaaDoorZFnPostCrossesPx1
import Derived.Test.YtpopeedfgenebaaDoorZFnPostCrossesPx2
import Derived.Test.YtpopeedfgenebaaDoorZFnPostCrossesPx3
import Derived.Test.YtpopeedfgenebaaDoorZFnPostCrossesPx4
import Derived.Test.YtpopeedfgenebaaDoorZFnPostCrossesPx7
namespace Go.Proofs.YtpopeedfgenebaaDoor.PFnPostCrosses
open Go.RowKit Go.Proofs.YtpopeedfgenebaaDoorW.PrintWords Go.Proofs.YtpopeedfgenebaaDoorW.PrintLast Go.Proofs.YtpopeedfgenebaaDoorW.PrintMore
attribute [local go_sem] zb qz zf ze qw qv za qy
set_option linter.unusedVariables false
set_option linter.unusedSimpArgs false
def spec_RouteSides.f (k : Nat) (a0 : ByteArray) (a1 : Int) : Option (List Int × Bool) := (spec_poAsked.f k a0 a1).bind fun t247 => (if t247 = true then ((spec_poSides.f k a0 a1).bind fun t248 => (some (t248, true))) else (some (([] : List Int), false)))
theorem spec_RouteSides.mono : ∀ a0 a1 k, LeO (spec_RouteSides.f k a0 a1) (spec_RouteSides.f (k + 1) a0 a1) := by
 intro a0 a1 k
 unfold spec_RouteSides.f
 repeat' first | (with_reducible first | exact spec_poAsked.mono _ _ _ | exact spec_poSides.mono _ _ _ | exact LeO.refl _ | exact LeO.none _ | refine LeO.ite ?_ ?_ | refine LeO.bind ?_ (fun _ => ?_)) | exact spec_poAsked.mono _ _ _ | exact spec_poSides.mono _ _ _ | exact LeO.none _ | refine LeO.ite ?_ ?_ | refine LeO.bind ?_ (fun _ => ?_)
set_option maxHeartbeats 8000000 in
set_option maxRecDepth 100000 in
theorem spec_RouteSides.calls (k : Nat) (a0 : ByteArray) (a1 : Int) (r1 : List Int) (r2 : Bool) (w : World) (h : spec_RouteSides.f k a0 a1 = some (r1, r2)) :
  Calls Tryd.prog 17 #[.string a0, .int .i64 a1] w fun e w' => ∃ v0_ : Value, e = .returned (.tuple #[v0_, .bool r2]) ∧ Kd.R (Kd.int .i64) 3 w' w.heap.size (fun _ => True) v0_ r1 ∧ Below w.heap.size w w' := by
 have HB := qa.mk (Below.refl w.heap.size w)
 have H := h; clear h; unfold spec_RouteSides.f at H
 replace H := bX_ H; obtain ⟨t247, A3, H⟩ := H
 replace H := iB_ H; obtain ⟨rfl, H⟩ | ⟨rfl, H⟩ := H
 ·replace H := bX_ H; obtain ⟨t248, A5, H⟩ := H
  simp only [Option.some.injEq, Prod.mk.injEq] at H
  obtain ⟨rfl, rfl⟩ := H
  go_enter Tryd.func17, Tryd.ntmps17
  go_wp2_with (first | (refine gL_ 8 Tryd.func38 #[.string a0, .int .i64 a1] ?_; refine (spec_poAsked.calls k a0 a1 true _ A3.out).mono ?_; rintro e w' ⟨rfl, ⟨nd, rfl⟩⟩; refine ⟨_, rfl, ?_⟩) | (refine gL_ 12 Tryd.func41 #[.string a0, .int .i64 a1] ?_; refine (spec_poSides.calls k a0 a1 t248 _ A5.out).mono ?_; rintro e w6 ⟨v249, rfl, ho0, hb⟩; refine ⟨_, rfl, ?_⟩; have HO250 := qa.mk ap_; replace HB := qa.mk a5_; (try clear hb ho0)))
  go_ret2
  exact ⟨_, er_, kr_ HO250, be0_ HB⟩
 ·simp only [Option.some.injEq, Prod.mk.injEq] at H
  obtain ⟨rfl, rfl⟩ := H
  go_enter Tryd.func17, Tryd.ntmps17
  go_wp2_with (first | (refine gL_ 8 Tryd.func38 #[.string a0, .int .i64 a1] ?_; refine (spec_poAsked.calls k a0 a1 false _ A3.out).mono ?_; rintro e w' ⟨rfl, ⟨nd, rfl⟩⟩; refine ⟨_, rfl, ?_⟩))
  go_ret2
  exact ⟨_, er_, af_, be0_ HB⟩
def impl_CountRoutes.f (k : Nat) (a0 : ByteArray) (a1 : Int) : Option (Int × Bool) := (impl_isDelivered.f k a0 a1).bind fun t251 => (if t251 = true then ((impl_bestRoute.f a0 a1).bind fun bt252 => (if bt252.2.2 > 1000000000000000 then (some (0, false)) else (some (bt252.2.2, true)))) else (some (0, false)))
theorem impl_CountRoutes.mono : ∀ a0 a1 k, LeO (impl_CountRoutes.f k a0 a1) (impl_CountRoutes.f (k + 1) a0 a1) := by
 intro a0 a1 k
 unfold impl_CountRoutes.f
 exact l4_
set_option maxHeartbeats 8000000 in
set_option maxRecDepth 100000 in
theorem impl_CountRoutes.calls (k : Nat) (a0 : ByteArray) (a1 : Int) (r1 : Int) (r2 : Bool) (w : World) (h : impl_CountRoutes.f k a0 a1 = some (r1, r2)) :
  Calls Tryd.prog 18 #[.string a0, .int .i64 a1] w fun e w' => e = .returned (.tuple #[.int .i64 r1, .bool r2]) ∧ Below w.heap.size w w' := by
 have HB := qa.mk (Below.refl w.heap.size w)
 have H := h; clear h; unfold impl_CountRoutes.f at H
 replace H := bX_ H; obtain ⟨t251, A3, H⟩ := H
 replace H := iB_ H; obtain ⟨rfl, H⟩ | ⟨rfl, H⟩ := H
 ·replace H := bX_ H; obtain ⟨⟨t252, t253, t254⟩, A5, H⟩ := H; (try dsimp only at H)
  replace H := iC_ H; obtain ⟨c6, H⟩ | ⟨c6, H⟩ := H
  ·have c6b0 : decide (1000000000000000 < t254) = true := decide_eq_true c6
   clear c6
   simp only [Option.some.injEq, Prod.mk.injEq] at H
   obtain ⟨rfl, rfl⟩ := H
   go_enter Tryd.func18, Tryd.ntmps18
   go_wp2_with (first | (refine gL_ 11 Tryd.func32 #[.string a0, .int .i64 a1] ?_; refine (impl_isDelivered.calls k a0 a1 true _ A3.out).mono ?_; rintro e w' ⟨rfl, ⟨nd, rfl⟩⟩; refine ⟨_, rfl, ?_⟩) | (refine gL_ 16 Tryd.func40 #[.string a0, .int .i64 a1] ?_; refine (impl_bestRoute.calls a0 a1 t252 t253 t254 _ A5.out).mono ?_; rintro e w7 ⟨v255, rfl, ho0, hb⟩; refine ⟨_, rfl, ?_⟩; have HO256 := qa.mk ap_; replace HB := qa.mk a5_; (try clear hb ho0)))
   exact l5_
  ·have c6b0 : decide (1000000000000000 < t254) = false := decide_eq_false c6
   clear c6
   simp only [Option.some.injEq, Prod.mk.injEq] at H
   obtain ⟨rfl, rfl⟩ := H
   go_enter Tryd.func18, Tryd.ntmps18
   go_wp2_with (first | (refine gL_ 11 Tryd.func32 #[.string a0, .int .i64 a1] ?_; refine (impl_isDelivered.calls k a0 a1 true _ A3.out).mono ?_; rintro e w' ⟨rfl, ⟨nd, rfl⟩⟩; refine ⟨_, rfl, ?_⟩) | (refine gL_ 16 Tryd.func40 #[.string a0, .int .i64 a1] ?_; refine (impl_bestRoute.calls a0 a1 t252 t253 t254 _ A5.out).mono ?_; rintro e w8 ⟨v255, rfl, ho0, hb⟩; refine ⟨_, rfl, ?_⟩; have HO256 := qa.mk ap_; replace HB := qa.mk a5_; (try clear hb ho0)))
   exact l5_
 ·simp only [Option.some.injEq, Prod.mk.injEq] at H
  obtain ⟨rfl, rfl⟩ := H
  go_enter Tryd.func18, Tryd.ntmps18
  exact ls_
def spec_CountRoutes.f (k : Nat) (a0 : ByteArray) (a1 : Int) : Option (Int × Bool) := (spec_poAsked.f k a0 a1).bind fun t257 => (if t257 = true then ((spec_poTable.f a0 a1).bind fun bt258 => (if 0 < (bt258.2.length : Int) then (if 0 < ((rd_L4 bt258.2 0).length : Int) then (if (rd (rd_L4 bt258.2 0) 0) > 1000000000000000 then (some (0, false)) else (some (rd (rd_L4 bt258.2 0) 0, true))) else (none)) else (none))) else (some (0, false)))
theorem spec_CountRoutes.mono : ∀ a0 a1 k, LeO (spec_CountRoutes.f k a0 a1) (spec_CountRoutes.f (k + 1) a0 a1) := by
 intro a0 a1 k
 unfold spec_CountRoutes.f
 exact l8_
set_option maxHeartbeats 8000000 in
set_option maxRecDepth 100000 in
theorem spec_CountRoutes.calls (k : Nat) (a0 : ByteArray) (a1 : Int) (r1 : Int) (r2 : Bool) (w : World) (h : spec_CountRoutes.f k a0 a1 = some (r1, r2)) :
  Calls Tryd.prog 19 #[.string a0, .int .i64 a1] w fun e w' => e = .returned (.tuple #[.int .i64 r1, .bool r2]) ∧ Below w.heap.size w w' := by
 have HB := qa.mk (Below.refl w.heap.size w)
 have H := h; clear h; unfold spec_CountRoutes.f at H
 replace H := bX_ H; obtain ⟨t257, A3, H⟩ := H
 replace H := iB_ H; obtain ⟨rfl, H⟩ | ⟨rfl, H⟩ := H
 ·replace H := bX_ H; obtain ⟨⟨t258, t259⟩, A5, H⟩ := H; (try dsimp only at H)
  replace H := iC_ H; obtain ⟨c6, H⟩ | ⟨c6, H⟩ := H
  ·have c6b0 : decide (0 < (t259.length : Int)) = true := decide_eq_true c6
   have c6b1 : decide (0 < t259.length) = true := decide_eq_true (by omega)
   clear c6
   replace H := iC_ H; obtain ⟨c7, H⟩ | ⟨c7, H⟩ := H
   ·have c7b0 : decide (0 < ((rd_L4 t259 0).length : Int)) = true := decide_eq_true c7
    have c7b1 : decide (0 < (rd_L4 t259 0).length) = true := decide_eq_true (by omega)
    clear c7
    replace H := iC_ H; obtain ⟨c8, H⟩ | ⟨c8, H⟩ := H
    ·have c8b0 : decide (1000000000000000 < (rd (rd_L4 t259 0) 0)) = true := decide_eq_true c8
     clear c8
     simp only [Option.some.injEq, Prod.mk.injEq] at H
     obtain ⟨rfl, rfl⟩ := H
     go_enter Tryd.func19, Tryd.ntmps19
     go_wp2_with (first | (refine gL_ 10 Tryd.func38 #[.string a0, .int .i64 a1] ?_; refine (spec_poAsked.calls k a0 a1 true _ A3.out).mono ?_; rintro e w' ⟨rfl, ⟨nd, rfl⟩⟩; refine ⟨_, rfl, ?_⟩) | (refine gL_ 15 Tryd.func39 #[.string a0, .int .i64 a1] ?_; refine (spec_poTable.calls a0 a1 t258 t259 _ A5.out).mono ?_; rintro e w9 ⟨v260, v262, rfl, ho0, ho1, hb⟩; refine ⟨_, rfl, ?_⟩; have HO261 := qa.mk (Kd.S_lower ho0 a9_); have HO263 := qa.mk (Kd.S_lower ho1 a9_); replace HB := qa.mk a5_; (try clear hb ho0 ho1); obtain ⟨Ao10, co10, eo10⟩ := Kd.S_slice HO263.out; subst eo10; have p264 : 0 ≤ (0 : Int) := (by omega); have q264 : 0 < (t259.length : Int) := od_; obtain ⟨ad264, A264_0, c264_0, e264, hx264_0, hl264_0, hi264_0⟩ := at_L4 (Kd.zd HO263.out).2.2 0 p264 q264; cases e264; obtain ⟨ce264, hce264, hMe264, hcc264⟩ := Kd.S_get HO263.out [] 0 p264 (by first | exact q264 | exact od_ | (have e_ := (Kd.zd HO263.out).1; omega)); obtain ⟨ve264_0, rfl, ge264_0⟩ := hMe264; have hv264_0 := hcc264 0 _ rfl; rw [Nat.add_zero, show ((Kd.slice 3 (Kd.int .i64))).sz = 1 from rfl, Nat.mul_one] at hv264_0; replace hv264_0 := Option.some.inj (hv264_0.symm.trans hx264_0); rw [hv264_0] at ge264_0; have HL264_0 := qa.mk (show Kd.R (Kd.int .i64) 3 _ _ _ _ (rd_L4 t259 0) from ge264_0); clear hv264_0 ge264_0; clear hcc264 hce264; have qi264 : (0 < t259.length) = True := eq_true (by omega); (try rw [show ((0 : Int)).toNat = 0 from rfl] at hx264_0); (try rw [Addr.add_zero'] at hx264_0); have HR264_0 := qa.mk hi264_0; have HC264_0 := qa.mk hl264_0; clear hi264_0 hl264_0; replace p264 := eq_true p264; replace q264 := eq_true q264; have p265 : 0 ≤ (0 : Int) := (by omega); have q265 : 0 < ((rd_L4 t259 0).length : Int) := od_; obtain ⟨ad265, e265, hx265_0⟩ := Kd.zj (by repeat (first | (with_reducible exact HR264_0.out) | (with_reducible refine Kd.zh ?_ _) | (with_reducible refine Kd.zg ?_ _) | (with_reducible refine Kd.zk ?_) | exact HR264_0.out)) 0 p265 q265; cases e265; have qi265 : (0 < (rd_L4 t259 0).length) = True := eq_true (by omega); (try rw [show ((0 : Int)).toNat = 0 from rfl] at hx265_0); (try rw [Addr.add_zero'] at hx265_0); replace p265 := eq_true p265; replace q265 := eq_true q265))
     exact l5_
    ·have c8b0 : decide (1000000000000000 < (rd (rd_L4 t259 0) 0)) = false := decide_eq_false c8
     clear c8
     simp only [Option.some.injEq, Prod.mk.injEq] at H
     obtain ⟨rfl, rfl⟩ := H
     go_enter Tryd.func19, Tryd.ntmps19
     go_wp2_with (first | (refine gL_ 10 Tryd.func38 #[.string a0, .int .i64 a1] ?_; refine (spec_poAsked.calls k a0 a1 true _ A3.out).mono ?_; rintro e w' ⟨rfl, ⟨nd, rfl⟩⟩; refine ⟨_, rfl, ?_⟩) | (refine gL_ 15 Tryd.func39 #[.string a0, .int .i64 a1] ?_; refine (spec_poTable.calls a0 a1 t258 t259 _ A5.out).mono ?_; rintro e w11 ⟨v260, v262, rfl, ho0, ho1, hb⟩; refine ⟨_, rfl, ?_⟩; have HO261 := qa.mk (Kd.S_lower ho0 a9_); have HO263 := qa.mk (Kd.S_lower ho1 a9_); replace HB := qa.mk a5_; (try clear hb ho0 ho1); obtain ⟨Ao12, co12, eo12⟩ := Kd.S_slice HO263.out; subst eo12; have p264 : 0 ≤ (0 : Int) := (by omega); have q264 : 0 < (t259.length : Int) := od_; obtain ⟨ad264, A264_0, c264_0, e264, hx264_0, hl264_0, hi264_0⟩ := at_L4 (Kd.zd HO263.out).2.2 0 p264 q264; cases e264; obtain ⟨ce264, hce264, hMe264, hcc264⟩ := Kd.S_get HO263.out [] 0 p264 (by first | exact q264 | exact od_ | (have e_ := (Kd.zd HO263.out).1; omega)); obtain ⟨ve264_0, rfl, ge264_0⟩ := hMe264; have hv264_0 := hcc264 0 _ rfl; rw [Nat.add_zero, show ((Kd.slice 3 (Kd.int .i64))).sz = 1 from rfl, Nat.mul_one] at hv264_0; replace hv264_0 := Option.some.inj (hv264_0.symm.trans hx264_0); rw [hv264_0] at ge264_0; have HL264_0 := qa.mk (show Kd.R (Kd.int .i64) 3 _ _ _ _ (rd_L4 t259 0) from ge264_0); clear hv264_0 ge264_0; clear hcc264 hce264; have qi264 : (0 < t259.length) = True := eq_true (by omega); (try rw [show ((0 : Int)).toNat = 0 from rfl] at hx264_0); (try rw [Addr.add_zero'] at hx264_0); have HR264_0 := qa.mk hi264_0; have HC264_0 := qa.mk hl264_0; clear hi264_0 hl264_0; replace p264 := eq_true p264; replace q264 := eq_true q264; have p265 : 0 ≤ (0 : Int) := (by omega); have q265 : 0 < ((rd_L4 t259 0).length : Int) := od_; obtain ⟨ad265, e265, hx265_0⟩ := Kd.zj (by repeat (first | (with_reducible exact HR264_0.out) | (with_reducible refine Kd.zh ?_ _) | (with_reducible refine Kd.zg ?_ _) | (with_reducible refine Kd.zk ?_) | exact HR264_0.out)) 0 p265 q265; cases e265; have qi265 : (0 < (rd_L4 t259 0).length) = True := eq_true (by omega); (try rw [show ((0 : Int)).toNat = 0 from rfl] at hx265_0); (try rw [Addr.add_zero'] at hx265_0); replace p265 := eq_true p265; replace q265 := eq_true q265; have p266 : 0 ≤ (0 : Int) := (by omega); have q266 : 0 < (t259.length : Int) := od_; obtain ⟨ad266, A266_0, c266_0, e266, hx266_0, hl266_0, hi266_0⟩ := at_L4 (Kd.zd HO263.out).2.2 0 p266 q266; obtain rfl : ad264 = ad266 := (by injection e266); obtain ⟨ce266, hce266, hMe266, hcc266⟩ := Kd.S_get HO263.out [] 0 p266 (by first | exact q266 | exact od_ | (have e_ := (Kd.zd HO263.out).1; omega)); obtain ⟨ve266_0, rfl, ge266_0⟩ := hMe266; have hv266_0 := hcc266 0 _ rfl; rw [Nat.add_zero, show ((Kd.slice 3 (Kd.int .i64))).sz = 1 from rfl, Nat.mul_one] at hv266_0; replace hv266_0 := Option.some.inj (hv266_0.symm.trans hx266_0); rw [hv266_0] at ge266_0; have HL266_0 := qa.mk (show Kd.R (Kd.int .i64) 3 _ _ _ _ (rd_L4 t259 0) from ge266_0); clear hv266_0 ge266_0; clear hcc266 hce266; have qi266 : (0 < t259.length) = True := eq_true (by omega); (try rw [show ((0 : Int)).toNat = 0 from rfl] at hx266_0); (try rw [Addr.add_zero'] at hx266_0); have HR266_0 := qa.mk hi266_0; have HC266_0 := qa.mk hl266_0; clear hi266_0 hl266_0; replace p266 := eq_true p266; replace q266 := eq_true q266; have ea_ := Option.some.inj (hx264_0.symm.trans hx266_0); injection ea_ with ea_ en_ ec_; subst ea_; subst ec_; clear en_; have p267 : 0 ≤ (0 : Int) := (by omega); have q267 : 0 < ((rd_L4 t259 0).length : Int) := od_; obtain ⟨ad267, e267, hx267_0⟩ := Kd.zj (by repeat (first | (with_reducible exact HR266_0.out) | (with_reducible refine Kd.zh ?_ _) | (with_reducible refine Kd.zg ?_ _) | (with_reducible refine Kd.zk ?_) | exact HR266_0.out)) 0 p267 q267; cases e267; have qi267 : (0 < (rd_L4 t259 0).length) = True := eq_true (by omega); (try rw [show ((0 : Int)).toNat = 0 from rfl] at hx267_0); (try rw [Addr.add_zero'] at hx267_0); replace p267 := eq_true p267; replace q267 := eq_true q267))
     exact l5_
   ·cases H
  ·cases H
 ·simp only [Option.some.injEq, Prod.mk.injEq] at H
  obtain ⟨rfl, rfl⟩ := H
  go_enter Tryd.func19, Tryd.ntmps19
  exact lt_
def laws_zSame.l0 : Nat → List Int → List Int → Int → Int → Option (Bool)
 | 0, _, _, _, _ => none
 | k + 1, x0, x1, x12, x13 => if x13 < x12 then (if 0 ≤ x13 then (if x13 < (x0.length : Int) then (if x13 < (x1.length : Int) then (if (rd x0 x13) = (rd x1 x13) then (laws_zSame.l0 k x0 x1 x12 (wrap64 (x13 + 1))) else (some false)) else (none)) else (none)) else (none)) else (some true)
def laws_zSame.f (k : Nat) (l0 : List Int) (l1 : List Int) : Option (Bool) := if (l0.length : Int) = (l1.length : Int) then (laws_zSame.l0 k l0 l1 (l0.length : Int) 0) else (some false)
theorem laws_zSame.zc : ∀ k, (∀ y0 y1 y2 y3, LeO (laws_zSame.l0 k y0 y1 y2 y3) (laws_zSame.l0 (k + 1) y0 y1 y2 y3))
 | 0 => fun _ _ _ _ r h => by simp [laws_zSame.l0] at h
 | k + 1 => by
  have ih0 := laws_zSame.zc k
  intro y0 y1 y2 y3
  unfold laws_zSame.l0
  exact lm_
theorem laws_zSame.mono : ∀ a0 a1 k, LeO (laws_zSame.f k a0 a1) (laws_zSame.f (k + 1) a0 a1) := by
 intro a0 a1 k
 have ih0 := laws_zSame.zc k
 unfold laws_zSame.f
 exact lm_
set_option maxHeartbeats 8000000 in
set_option maxRecDepth 100000 in
theorem laws_zSame.calls (k : Nat) (A0 : Option Addr) (c0 : Nat) (l0 : List Int) (A1 : Option Addr) (c1 : Nat) (l1 : List Int) (r : Bool) (w : World) (hr0 : Kd.C (Kd.int .i64) w A0 l0.length l0) (hc0 : l0.length ≤ c0) (hr1 : Kd.C (Kd.int .i64) w A1 l1.length l1) (hc1 : l1.length ≤ c1) (h : laws_zSame.f k l0 l1 = some r) :
  Calls Tryd.prog 20 #[.slice A0 l0.length c0, .slice A1 l1.length c1] w fun e w' => e = .returned (.bool r) ∧ qg w w' := by
 have HR0 := qa.mk hr0
 have HC0 := qa.mk hc0
 clear hr0 hc0
 have HR1 := qa.mk hr1
 have HC1 := qa.mk hc1
 clear hr1 hc1
 have H := h; clear h; unfold laws_zSame.f at H
 replace H := iC_ H; obtain ⟨c3, H⟩ | ⟨c3, H⟩ := H
 ·have c3b0 := beq_iff_eq.mpr c3
  have c3b1 := bne_eq_false_iff_eq.mpr c3
  have c3b2 : (l0.length == l1.length) = true := by first | simpa using c3 | (simp at c3 ⊢; omega)
  clear c3
  have H' := qa.mk H
  clear H
  go_enter Tryd.func20, Tryd.ntmps20
  go_wp2
  repeat (go_quiet (fail); try go_wp2)
  go_loopg [13] k (fun kq v13 w' => ∃ (x13_1 : Int), v13 = .int .i64 x13_1 ∧ qa (laws_zSame.l0 kq l0 l1 (l0.length : Int) x13_1 = some r) ∧ qa (kq ≤ k) ∧ qg w w')
  case atStart => exact ⟨(0), es_, H', ⟨Nat.le_refl _⟩, a1_⟩
  case round =>
   clear H'
   try clear c1
   try clear c3
   try clear c3b0
   try clear c3b1
   try clear c3b2
   obtain ⟨x13_1, rfl, HA, HK1, ⟨m1, rfl⟩⟩ := hrel
   cases gk with
   | zero => exact absurd HA.out (by simp [laws_zSame.l0])
   | succ k1 =>
    have H := HA.out
    clear HA
    simp only [laws_zSame.l0] at H
    replace H := iD_ H; obtain ⟨c4b0, H⟩ | ⟨c4b0, H⟩ := H
    ·replace H := iD_ H; obtain ⟨c5b0, H⟩ | ⟨c5b0, H⟩ := H
     ·replace H := iD_ H; obtain ⟨c6b0, H⟩ | ⟨c6b0, H⟩ := H
      ·replace H := iD_ H; obtain ⟨c7b0, H⟩ | ⟨c7b0, H⟩ := H
       ·replace H := iE_ H; obtain ⟨c8b0, c8b1, H⟩ | ⟨c8, c8b0, c8b1, H⟩ := H
        ·have H' := qa.mk H
         clear H
         have p268 : 0 ≤ (x13_1 : Int) := od_
         have q268 : x13_1 < (l0.length : Int) := od_
         obtain ⟨ad268, e268, hx268_0⟩ := Kd.zj HR0.out x13_1 p268 q268
         cases e268
         replace p268 := eq_true p268
         replace q268 := eq_true q268
         have p269 : 0 ≤ (x13_1 : Int) := od_
         have q269 : x13_1 < (l1.length : Int) := od_
         obtain ⟨ad269, e269, hx269_0⟩ := Kd.zj HR1.out x13_1 p269 q269
         cases e269
         replace p269 := eq_true p269
         replace q269 := eq_true q269
         go_wp2
         repeat (go_quiet (fail); try go_wp2)
         go_roundg k1
         case measure => have := HK1.out; omega
         case rel => exact ⟨(wrap64 (x13_1 + 1)), es_, H', ⟨by have := HK1.out; omega⟩, a1_⟩
        ·obtain rfl := Option.some.inj H
         have p268 : 0 ≤ (x13_1 : Int) := od_
         have q268 : x13_1 < (l0.length : Int) := od_
         obtain ⟨ad268, e268, hx268_0⟩ := Kd.zj HR0.out x13_1 p268 q268
         cases e268
         replace p268 := eq_true p268
         replace q268 := eq_true q268
         have p269 : 0 ≤ (x13_1 : Int) := od_
         have q269 : x13_1 < (l1.length : Int) := od_
         obtain ⟨ad269, e269, hx269_0⟩ := Kd.zj HR1.out x13_1 p269 q269
         cases e269
         replace p269 := eq_true p269
         replace q269 := eq_true q269
         exact lF_
       ·cases H
      ·cases H
     ·cases H
    ·obtain rfl := Option.some.inj H
     exact lF_
 ·have c3b0 := beq_eq_false_iff_ne.mpr c3
  have c3b1 := bne_iff_ne.mpr c3
  have c3b2 : (l0.length == l1.length) = false := by first | simpa using c3 | (simp at c3 ⊢; omega)
  obtain rfl := Option.some.inj H
  go_enter Tryd.func20, Tryd.ntmps20
  exact lF_
def spec_AreDeliveries.f (k : Nat) (a0 : ByteArray) : Option (Bool) := (spec_poGood.f k a0).bind fun t270 => (some t270)
theorem spec_AreDeliveries.mono : ∀ a0 k, LeO (spec_AreDeliveries.f k a0) (spec_AreDeliveries.f (k + 1) a0) := by
 intro a0 k
 unfold spec_AreDeliveries.f
 exact lh_
set_option maxHeartbeats 8000000 in
set_option maxRecDepth 100000 in
theorem spec_AreDeliveries.calls (k : Nat) (a0 : ByteArray) (r : Bool) (w : World) (h : spec_AreDeliveries.f k a0 = some r) :
  Calls Tryd.prog 22 #[.string a0] w fun e w' => e = .returned (.bool r) ∧ qg w w' := by
 have H := h; clear h; unfold spec_AreDeliveries.f at H
 replace H := bX_ H; obtain ⟨t270, A2, H⟩ := H
 obtain rfl := Option.some.inj H
 go_enter Tryd.func22, Tryd.ntmps22
 go_wp2_with (first | (refine gL_ 4 Tryd.func27 #[.string a0] ?_; refine (spec_poGood.calls k a0 t270 _ A2.out).mono ?_; rintro e w' ⟨rfl, ⟨nd, rfl⟩⟩; refine ⟨_, rfl, ?_⟩))
 go_ret
 exact ⟨es_, a1_⟩
def impl_allWithin.l0 : Nat → Int → Int → List Int → Int → Int → Option (Bool)
 | 0, _, _, _, _, _ => none
 | k + 1, x1, x2, x9, x10, x11 => if x11 < x10 then (if 0 ≤ x11 then (if x11 < (x9.length : Int) then ((impl_within.f (rd x9 x11) x1 x2).bind fun t272 => (if t272 = true then (impl_allWithin.l0 k x1 x2 x9 x10 (wrap64 (x11 + 1))) else (some false))) else (none)) else (none)) else (some true)
def impl_allWithin.f (k : Nat) (l0 : List Int) (a1 : Int) (a2 : Int) : Option (Bool) := impl_allWithin.l0 k a1 a2 l0 (l0.length : Int) 0
theorem impl_allWithin.zc : ∀ k, (∀ y0 y1 y2 y3 y4, LeO (impl_allWithin.l0 k y0 y1 y2 y3 y4) (impl_allWithin.l0 (k + 1) y0 y1 y2 y3 y4))
 | 0 => fun _ _ _ _ _ r h => by simp [impl_allWithin.l0] at h
 | k + 1 => by
  have ih0 := impl_allWithin.zc k
  intro y0 y1 y2 y3 y4
  unfold impl_allWithin.l0
  exact l0_
theorem impl_allWithin.mono : ∀ a0 a1 a2 k, LeO (impl_allWithin.f k a0 a1 a2) (impl_allWithin.f (k + 1) a0 a1 a2) := by
 intro a0 a1 a2 k
 have ih0 := impl_allWithin.zc k
 unfold impl_allWithin.f
 exact l0_
set_option maxHeartbeats 8000000 in
set_option maxRecDepth 100000 in
theorem impl_allWithin.calls (k : Nat) (A0 : Option Addr) (c0 : Nat) (l0 : List Int) (a1 : Int) (a2 : Int) (r : Bool) (w : World) (hr0 : Kd.C (Kd.int .i64) w A0 l0.length l0) (hc0 : l0.length ≤ c0) (h : impl_allWithin.f k l0 a1 a2 = some r) :
  Calls Tryd.prog 44 #[.slice A0 l0.length c0, .int .i64 a1, .int .i64 a2] w fun e w' => e = .returned (.bool r) ∧ qg w w' := by
 have HR0 := qa.mk hr0
 have HC0 := qa.mk hc0
 clear hr0 hc0
 have H := h; clear h; unfold impl_allWithin.f at H
 have H' := qa.mk H
 clear H
 go_enter Tryd.func44, Tryd.ntmps44
 go_wp2
 go_loopg [11] k (fun kq v11 w' => ∃ (x11_1 : Int), v11 = .int .i64 x11_1 ∧ qa (impl_allWithin.l0 kq a1 a2 l0 (l0.length : Int) x11_1 = some r) ∧ qa (kq ≤ k) ∧ qg w w')
 case atStart => exact ⟨(0), es_, H', ⟨Nat.le_refl _⟩, a1_⟩
 case round =>
  clear H'
  obtain ⟨x11_1, rfl, HA, HK1, ⟨m1, rfl⟩⟩ := hrel
  cases gk with
  | zero => exact absurd HA.out (by simp [impl_allWithin.l0])
  | succ k1 =>
   have H := HA.out
   clear HA
   simp only [impl_allWithin.l0] at H
   replace H := iD_ H; obtain ⟨c4b0, H⟩ | ⟨c4b0, H⟩ := H
   ·replace H := iD_ H; obtain ⟨c5b0, H⟩ | ⟨c5b0, H⟩ := H
    ·replace H := iD_ H; obtain ⟨c6b0, H⟩ | ⟨c6b0, H⟩ := H
     ·replace H := bX_ H; obtain ⟨t272, A7, H⟩ := H
      replace H := iB_ H; obtain ⟨rfl, H⟩ | ⟨rfl, H⟩ := H
      ·have H' := qa.mk H
       clear H
       have p271 : 0 ≤ (x11_1 : Int) := od_
       have q271 : x11_1 < (l0.length : Int) := od_
       obtain ⟨ad271, e271, hx271_0⟩ := Kd.zj HR0.out x11_1 p271 q271
       cases e271
       replace p271 := eq_true p271
       replace q271 := eq_true q271
       go_wp2_with (first | (refine gL_ 18 Tryd.func43 #[.int .i64 (rd l0 x11_1), .int .i64 a1, .int .i64 a2] ?_; refine (impl_within.calls (rd l0 x11_1) a1 a2 true _ A7.out).mono ?_; rintro e w' ⟨rfl, ⟨nd, rfl⟩⟩; refine ⟨_, rfl, ?_⟩))
       exact lC_
      ·obtain rfl := Option.some.inj H
       have p271 : 0 ≤ (x11_1 : Int) := od_
       have q271 : x11_1 < (l0.length : Int) := od_
       obtain ⟨ad271, e271, hx271_0⟩ := Kd.zj HR0.out x11_1 p271 q271
       cases e271
       replace p271 := eq_true p271
       replace q271 := eq_true q271
       go_wp2_with (first | (refine gL_ 18 Tryd.func43 #[.int .i64 (rd l0 x11_1), .int .i64 a1, .int .i64 a2] ?_; refine (impl_within.calls (rd l0 x11_1) a1 a2 false _ A7.out).mono ?_; rintro e w' ⟨rfl, ⟨nd, rfl⟩⟩; refine ⟨_, rfl, ?_⟩))
       go_ret
       exact ⟨es_, a1_⟩
     ·cases H
    ·cases H
   ·exact lD_
mutual
def impl_RouteCrossings.j0 : Nat → ByteArray → List Int → Bool → Option (Int × Bool)
 | 0, _, _, _ => none
 | k + 1, x0, x1, x24 => if x24 = true then (some (0, false)) else (impl_RouteCrossings.l0 k x0 0 0 x1 (x1.length : Int) 0)
def impl_RouteCrossings.l0 : Nat → ByteArray → Int → Int → List Int → Int → Int → Option (Int × Bool)
 | 0, _, _, _, _, _, _ => none
 | k + 1, x0, x6, x7, x25, x26, x27 => if x27 < x26 then (if 0 ≤ x27 then (if x27 < (x25.length : Int) then (if x27 < (x0.size : Int) then ((impl_crossingsAt.f (bt x0 x27) x7 (rd x25 x27)).bind fun t276 => (impl_RouteCrossings.l0 k x0 (wrap64 (x6 + t276)) (rd x25 x27) x25 x26 (wrap64 (x27 + 1)))) else (none)) else (none)) else (none)) else (some (x6, true))
end
def impl_RouteCrossings.f (k : Nat) (a0 : ByteArray) (l1 : List Int) : Option (Int × Bool) := (impl_AreDeliveries.f k a0).bind fun t273 => (if t273 = true then (if (l1.length : Int) = (a0.size : Int) then ((impl_allWithin.f k l1 0 1).bind fun t274 => (impl_RouteCrossings.j0 k a0 l1 (!t274))) else (impl_RouteCrossings.j0 k a0 l1 true)) else (impl_RouteCrossings.j0 k a0 l1 true))
theorem impl_RouteCrossings.zc : ∀ k, (∀ y0 y1 y2, LeO (impl_RouteCrossings.j0 k y0 y1 y2) (impl_RouteCrossings.j0 (k + 1) y0 y1 y2)) ∧ (∀ y0 y1 y2 y3 y4 y5, LeO (impl_RouteCrossings.l0 k y0 y1 y2 y3 y4 y5) (impl_RouteCrossings.l0 (k + 1) y0 y1 y2 y3 y4 y5))
 | 0 => ⟨fun _ _ _ r h => by simp [impl_RouteCrossings.j0] at h, fun _ _ _ _ _ _ r h => by simp [impl_RouteCrossings.l0] at h⟩
 | k + 1 => by
  obtain ⟨ih0, ih1⟩ := impl_RouteCrossings.zc k
  refine ⟨?_, ?_⟩
  all_goals first | (intro y0 y1 y2; unfold impl_RouteCrossings.j0) | (intro y0 y1 y2 y3 y4 y5; unfold impl_RouteCrossings.l0)
  all_goals (repeat' first | (with_reducible first | exact ih0 _ _ _ | exact ih1 _ _ _ _ _ _ | exact impl_AreDeliveries.mono _ _ | exact impl_allWithin.mono _ _ _ _ | exact LeO.refl _ | exact LeO.none _ | refine LeO.ite ?_ ?_ | refine LeO.bind ?_ (fun _ => ?_)) | exact ih0 _ _ _ | exact ih1 _ _ _ _ _ _ | exact impl_AreDeliveries.mono _ _ | exact impl_allWithin.mono _ _ _ _ | exact LeO.none _ | refine LeO.ite ?_ ?_ | refine LeO.bind ?_ (fun _ => ?_))
theorem impl_RouteCrossings.mono : ∀ a0 a1 k, LeO (impl_RouteCrossings.f k a0 a1) (impl_RouteCrossings.f (k + 1) a0 a1) := by
 intro a0 a1 k
 obtain ⟨ih0, ih1⟩ := impl_RouteCrossings.zc k
 unfold impl_RouteCrossings.f
 repeat' first | (with_reducible first | exact ih0 _ _ _ | exact ih1 _ _ _ _ _ _ | exact impl_AreDeliveries.mono _ _ | exact impl_allWithin.mono _ _ _ _ | exact LeO.refl _ | exact LeO.none _ | refine LeO.ite ?_ ?_ | refine LeO.bind ?_ (fun _ => ?_)) | exact ih0 _ _ _ | exact ih1 _ _ _ _ _ _ | exact impl_AreDeliveries.mono _ _ | exact impl_allWithin.mono _ _ _ _ | exact LeO.none _ | refine LeO.ite ?_ ?_ | refine LeO.bind ?_ (fun _ => ?_)
set_option maxHeartbeats 8000000 in
set_option maxRecDepth 100000 in
theorem impl_RouteCrossings.calls (k : Nat) (a0 : ByteArray) (A1 : Option Addr) (c1 : Nat) (l1 : List Int) (r1 : Int) (r2 : Bool) (w : World) (hr1 : Kd.C (Kd.int .i64) w A1 l1.length l1) (hc1 : l1.length ≤ c1) (h : impl_RouteCrossings.f k a0 l1 = some (r1, r2)) :
  Calls Tryd.prog 23 #[.string a0, .slice A1 l1.length c1] w fun e w' => e = .returned (.tuple #[.int .i64 r1, .bool r2]) ∧ qg w w' := by
 have HR1 := qa.mk hr1
 have HC1 := qa.mk hc1
 clear hr1 hc1
 have H := h; clear h; unfold impl_RouteCrossings.f at H
 have HC3 := qa.mk H
 clear H
 go_enter Tryd.func23, Tryd.ntmps23
 go_upto_region 1 with (fail)
 go_cut [24] (fun v24 wc => ∃ (kq : Nat) (x24_2 : Bool), v24 = .bool x24_2 ∧ qa (impl_RouteCrossings.j0 kq a0 l1 x24_2 = some (r1, r2)) ∧ qa (kq ≤ k) ∧ qg w wc)
 case first =>
  have H := HC3.out
  clear HC3
  replace H := bX_ H; obtain ⟨t273, A4, H⟩ := H
  replace H := iB_ H; obtain ⟨rfl, H⟩ | ⟨rfl, H⟩ := H
  ·replace H := iC_ H; obtain ⟨c6, H⟩ | ⟨c6, H⟩ := H
   ·have c6b0 := beq_iff_eq.mpr c6
    have c6b1 := bne_eq_false_iff_eq.mpr c6
    have c6b2 : (l1.length == a0.size) = true := by first | simpa using c6 | (simp at c6 ⊢; omega)
    clear c6
    (first | rw [c6b0] | (simp only [i64_w, i32_w]; rw [c6b0]) | skip)
    replace H := bX_ H; obtain ⟨t274, A7, H⟩ := H
    have H' := qa.mk H
    clear H
    go_wp2_with (first | (refine gL_ 11 Tryd.func21 #[.string a0] ?_; refine (impl_AreDeliveries.calls k a0 true _ A4.out).mono ?_; rintro e w' ⟨rfl, ⟨nd, rfl⟩⟩; refine ⟨_, rfl, ?_⟩) | (go_at_call 44; refine (impl_allWithin.calls k _ _ l1 0 1 t274 _ (by repeat (first | exact HR1.out | (with_reducible refine Kd.zh ?_ _) | (with_reducible refine Kd.zg ?_ _) | (with_reducible refine Kd.zk ?_))) HC1.out A7.out).mono ?_; rintro e w' ⟨rfl, ⟨nd, rfl⟩⟩))
    go_meet
    case rel => exact ⟨_, (!t274), es_, H', ⟨by first | omega | exact Nat.le_refl _⟩, a1_⟩
   ·have c6b0 := beq_eq_false_iff_ne.mpr c6
    have c6b1 := bne_iff_ne.mpr c6
    have c6b2 : (l1.length == a0.size) = false := by first | simpa using c6 | (simp at c6 ⊢; omega)
    (first | rw [c6b0] | (simp only [i64_w, i32_w]; rw [c6b0]) | skip)
    have H' := qa.mk H
    clear H
    go_wp2_with (first | (refine gL_ 11 Tryd.func21 #[.string a0] ?_; refine (impl_AreDeliveries.calls k a0 true _ A4.out).mono ?_; rintro e w' ⟨rfl, ⟨nd, rfl⟩⟩; refine ⟨_, rfl, ?_⟩))
    exact le_
  ·have H' := qa.mk H
   clear H
   go_wp2_with (first | (refine gL_ 11 Tryd.func21 #[.string a0] ?_; refine (impl_AreDeliveries.calls k a0 false _ A4.out).mono ?_; rintro e w' ⟨rfl, ⟨nd, rfl⟩⟩; refine ⟨_, rfl, ?_⟩))
   exact le_
 case rest =>
  clear HC3
  try clear c1
  try clear c6
  try clear c6b0
  try clear c6b1
  try clear c6b2
  obtain ⟨kq, x24_2, rfl, HA, HJ2, ⟨mc2, rfl⟩⟩ := hcut
  cases kq with
  | zero => exact absurd HA.out (by simp [impl_RouteCrossings.j0])
  | succ kj2 =>
   have H := HA.out
   clear HA
   simp only [impl_RouteCrossings.j0] at H
   replace H := iB_ H; obtain ⟨rfl, H⟩ | ⟨rfl, H⟩ := H
   ·exact ld_
   ·have H' := qa.mk H
    clear H
    go_wp2
    go_loopg [6, 7, 27] kj2 (fun kq v6 v7 v27 w' => ∃ (x6_2 : Int) (x7_2 : Int) (x27_2 : Int), v6 = .int .i64 x6_2 ∧ v7 = .int .i64 x7_2 ∧ v27 = .int .i64 x27_2 ∧ qa (impl_RouteCrossings.l0 kq a0 x6_2 x7_2 l1 (l1.length : Int) x27_2 = some (r1, r2)) ∧ qa (kq ≤ kj2) ∧ qg w w')
    case atStart => exact ⟨(0), (0), (0), es_, es_, es_, H', ⟨Nat.le_refl _⟩, a1_⟩
    case round =>
     clear H'
     try clear c1
     try clear c6
     try clear c6b0
     try clear c6b1
     try clear c6b2
     obtain ⟨x6_2, x7_2, x27_2, rfl, rfl, rfl, HA, HK2, ⟨m2, rfl⟩⟩ := hrel
     cases gk with
     | zero => exact absurd HA.out (by simp [impl_RouteCrossings.l0])
     | succ k2 =>
      have H := HA.out
      clear HA
      simp only [impl_RouteCrossings.l0] at H
      replace H := iD_ H; obtain ⟨c9b0, H⟩ | ⟨c9b0, H⟩ := H
      ·replace H := iD_ H; obtain ⟨c10b0, H⟩ | ⟨c10b0, H⟩ := H
       ·replace H := iD_ H; obtain ⟨c11b0, H⟩ | ⟨c11b0, H⟩ := H
        ·replace H := iD_ H; obtain ⟨c12b0, H⟩ | ⟨c12b0, H⟩ := H
         ·replace H := bX_ H; obtain ⟨t276, A14, H⟩ := H
          have H' := qa.mk H
          clear H
          have p275 : 0 ≤ (x27_2 : Int) := od_
          have q275 : x27_2 < (l1.length : Int) := od_
          obtain ⟨ad275, e275, hx275_0⟩ := Kd.zj HR1.out x27_2 p275 q275
          cases e275
          replace p275 := eq_true p275
          replace q275 := eq_true q275
          have p13 : 0 ≤ (x27_2 : Int) := od_
          have q13 : x27_2 < (a0.size : Int) := od_
          have hx13 := bt_at a0 x27_2
          replace p13 := eq_true p13
          replace q13 := eq_true q13
          go_wp2_with (first | (refine gL_ 38 Tryd.func45 #[.int .u8 (bt a0 x27_2), .int .i64 x7_2, .int .i64 (rd l1 x27_2)] ?_; refine (impl_crossingsAt.calls (bt a0 x27_2) x7_2 (rd l1 x27_2) t276 _ A14.out).mono ?_; rintro e w' ⟨rfl, ⟨nd, rfl⟩⟩; refine ⟨_, rfl, ?_⟩))
          go_roundg k2
          case measure => have := HJ2.out; have := HK2.out; omega
          case rel => exact ⟨(wrap64 (x6_2 + t276)), (rd l1 x27_2), (wrap64 (x27_2 + 1)), es_, es_, es_, H', ⟨by have := HJ2.out; have := HK2.out; omega⟩, a1_⟩
         ·cases H
        ·cases H
       ·cases H
      ·exact ld_
end Go.Proofs.YtpopeedfgenebaaDoor.PFnPostCrosses
