/- Cut by wip/cut.py out of the texts of this claim (printed by the kit's printer, or this session's own): what the row's theorem does not reach is struck. Not trusted: Lean checks it. -/
import Derived.Test.YtbnbdaommbnecacDoorZFnExactParseCityPx0
import Derived.Test.YtbnbdaommbnecacDoorZFnExactParseCityPx6
import Derived.Test.YtbnbdaommbnecacDoorZFnExactParseCityPx11
import Derived.Test.YtbnbdaommbnecacDoorZFnExactParseCityPx12
namespace Go.Proofs.YtbnbdaommbnecacDoor.PFnExactParseCity
open Go.RowKit Go.Proofs.YtbnbdaommbnecacDoorW.PrintWords Go.Proofs.YtbnbdaommbnecacDoorW.PrintLast Go.Proofs.YtbnbdaommbnecacDoorW.PrintMore
attribute [local go_sem] max2_int min2_int max_two min_two max_three min_three max_four min_four
set_option linter.unusedVariables false
set_option linter.unusedSimpArgs false
def laws_heldCity.f (k : Nat) (a0_0 : Int) (a0_1 : Int) (l0_2 : List (S39)) (a1 : Int) : Option (Int) := (laws_heldBlockS.f k l0_2 a1).bind fun t280 => (if t280 < 0 then (some (-1)) else (some t280))
theorem laws_heldCity.mono : ∀ a0 a1 a2 a3 k, LeO (laws_heldCity.f k a0 a1 a2 a3) (laws_heldCity.f (k + 1) a0 a1 a2 a3) := by
 intro a0 a1 a2 a3 k
 unfold laws_heldCity.f
 repeat' first | (with_reducible first | exact laws_heldBlockS.mono _ _ _ | exact LeO.refl _ | exact LeO.none _ | refine LeO.ite ?_ ?_ | refine LeO.bind ?_ (fun _ => ?_)) | exact laws_heldBlockS.mono _ _ _ | exact LeO.none _ | refine LeO.ite ?_ ?_ | refine LeO.bind ?_ (fun _ => ?_)
set_option maxHeartbeats 8000000 in
set_option maxRecDepth 100000 in
theorem laws_heldCity.calls (k : Nat) (a0_0 : Int) (a0_1 : Int) (A0_2 : Option Addr) (c0_2 : Nat) (l0_2 : List (S39)) (a1 : Int) (r : Int) (w : World) (hr0_2 : Kd.C k39 w A0_2 l0_2.length l0_2) (hc0_2 : l0_2.length ≤ c0_2) (h : laws_heldCity.f k a0_0 a0_1 l0_2 a1 = some r) :
  Calls Tryd.prog 8 #[.agg #[.int .i64 a0_0, .int .i64 a0_1, .slice A0_2 l0_2.length c0_2], .int .i64 a1] w fun e w' => e = .returned (.int .i64 r) ∧ Below w.heap.size w w' := by
 have hu24 := Tryd.underlying24
 have HR0_2 := qb.mk hr0_2
 have HC0_2 := qb.mk hc0_2
 clear hr0_2 hc0_2
 have HB := qb.mk (Below.refl w.heap.size w)
 have H : ((laws_heldBlockS.f k l0_2 a1).bind fun t280 => (if t280 < 0 then (some (-1)) else (some t280))) = some r := h
 clear h
 replace H := Option.bind_eq_some_iff.mp H
 obtain ⟨t280, A30, H⟩ := H
 replace H : (if t280 < 0 then (some (-1)) else (some t280)) = some r := H
 have A3 := qb.mk A30
 clear A30
 by_cases c4 : t280 < 0
 ·rw [if_pos c4] at H
  have c4b0 : decide (t280 < 0) = true := decide_eq_true c4
  clear c4
  obtain rfl := Option.some.inj H
  go_enter Tryd.func8, Tryd.ntmps8
  go_wp2_with (first | ((with_reducible refine zc (N := 2) rfl ?_); refine zb ?hg (N := 2) ?hd (cs := #[.int .i64 a0_0, .int .i64 a0_1, .slice A0_2 l0_2.length c0_2]) (t := 24) ?hr ?_; (case hd => rfl); (case hg => rfl); (case hr => first | (go_simp; done) | (go_simp; rfl)); intro gb279 hg w5 hbox hb; have n0_ := qb.mk (qm (be0_ HB) hb); have n1_ := qb.mk (hbox); have n2_ := qb.mk ((by rw [hg]; exact (ql (be0_ HB)) : w.heap.size ≤ gb279)); have n3_ := qb.mk ((by rw [hg]; exact (ql (be0_ HB)) : w.heap.size ≤ gb279)); clear HB; have HB := n0_; have BK279 := n1_; have GW279 := n2_; have GE279 := n3_; clear n0_ n1_ n2_ n3_; clear hb hbox hg; have hcz6_0 : w5.cell? ⟨gb279, 0, none⟩ = some (.int .i64 a0_0) := (qg BK279.out 0).trans rfl; have hcz6_1 : w5.cell? ⟨gb279, 1, none⟩ = some (.int .i64 a0_1) := (qg BK279.out 1).trans rfl; have hcz6_2 : w5.cell? ⟨gb279, 2, none⟩ = some (.slice A0_2 l0_2.length c0_2) := (qg BK279.out 2).trans rfl; have hfz6_0 := qj BK279.out 0; have hfz6_1 := qj BK279.out 1; have hfz6_2 := qj BK279.out 2) | ((with_reducible refine qv (f := 18) rfl ?_); refine zf (some 8) rfl rfl Tryd.func18 (by kernel_rfl) rfl #[.slice A0_2 l0_2.length c0_2, .int .i64 a1] rfl al_ ?_; (with_reducible refine (laws_heldBlockS.calls k _ _ l0_2 a1 t280 _ ?side1 ?side2 A3.out).mono ?_); (case side1 => repeat (first | exact (Kd.C_below HR0_2.out HB.out) | (with_reducible refine Kd.zp ?_ _) | (with_reducible refine Kd.zo ?_ _) | (with_reducible refine Kd.zt ?_))); (case side2 => exact HC0_2.out); rintro e w' ⟨rfl, ⟨nd, rfl⟩⟩; refine ⟨_, rfl, ?_⟩))
  go_ret
  exact ⟨er_, be1_ HB GE279⟩
 ·rw [if_neg c4] at H
  have c4b0 : decide (t280 < 0) = false := decide_eq_false c4
  clear c4
  obtain rfl := Option.some.inj H
  go_enter Tryd.func8, Tryd.ntmps8
  go_wp2_with (first | ((with_reducible refine zc (N := 2) rfl ?_); refine zb ?hg (N := 2) ?hd (cs := #[.int .i64 a0_0, .int .i64 a0_1, .slice A0_2 l0_2.length c0_2]) (t := 24) ?hr ?_; (case hd => rfl); (case hg => rfl); (case hr => first | (go_simp; done) | (go_simp; rfl)); intro gb279 hg w7 hbox hb; have n0_ := qb.mk (qm (be0_ HB) hb); have n1_ := qb.mk (hbox); have n2_ := qb.mk ((by rw [hg]; exact (ql (be0_ HB)) : w.heap.size ≤ gb279)); have n3_ := qb.mk ((by rw [hg]; exact (ql (be0_ HB)) : w.heap.size ≤ gb279)); clear HB; have HB := n0_; have BK279 := n1_; have GW279 := n2_; have GE279 := n3_; clear n0_ n1_ n2_ n3_; clear hb hbox hg; have hcz8_0 : w7.cell? ⟨gb279, 0, none⟩ = some (.int .i64 a0_0) := (qg BK279.out 0).trans rfl; have hcz8_1 : w7.cell? ⟨gb279, 1, none⟩ = some (.int .i64 a0_1) := (qg BK279.out 1).trans rfl; have hcz8_2 : w7.cell? ⟨gb279, 2, none⟩ = some (.slice A0_2 l0_2.length c0_2) := (qg BK279.out 2).trans rfl; have hfz8_0 := qj BK279.out 0; have hfz8_1 := qj BK279.out 1; have hfz8_2 := qj BK279.out 2) | ((with_reducible refine qv (f := 18) rfl ?_); refine zf (some 8) rfl rfl Tryd.func18 (by kernel_rfl) rfl #[.slice A0_2 l0_2.length c0_2, .int .i64 a1] rfl al_ ?_; (with_reducible refine (laws_heldBlockS.calls k _ _ l0_2 a1 t280 _ ?side1 ?side2 A3.out).mono ?_); (case side1 => repeat (first | exact (Kd.C_below HR0_2.out HB.out) | (with_reducible refine Kd.zp ?_ _) | (with_reducible refine Kd.zo ?_ _) | (with_reducible refine Kd.zt ?_))); (case side2 => exact HC0_2.out); rintro e w' ⟨rfl, ⟨nd, rfl⟩⟩; refine ⟨_, rfl, ?_⟩))
  go_ret
  exact ⟨er_, be1_ HB GE279⟩
mutual
def laws_FnExactParseCity.j0 : Nat → ByteArray → Bool → Bool → Int → Int → List (S39) → Int → Int → List (S39) → Option (Bool)
 | 0, _, _, _, _, _, _, _, _, _ => none
 | k + 1, x0, x4, x32, x288000, x288001, x288002, x295000, x295001, x295002 => if x32 = true then (some false) else ((laws_markCity.f k x295000 x295001 x295002 1).bind fun bt296 => ((laws_heldCity.f k x295000 x295001 bt296.2 1).bind fun t298 => (if t298 < 0 then (some false) else (if t298 = bt296.1 then ((impl_ParseCity.f k x0).bind fun bt299 => ((laws_eqCity.f k bt299.1 bt299.2.1 bt299.2.2.1 x288000 x288001 x288002).bind fun t306 => (if t306 = true then (laws_FnExactParseCity.j1 k bt296.1 (bt299.2.2.2 != x4) x295000 x295001 bt296.2) else (laws_FnExactParseCity.j1 k bt296.1 true x295000 x295001 bt296.2)))) else (some false)))))
def laws_FnExactParseCity.j1 : Nat → Int → Bool → Int → Int → List (S39) → Option (Bool)
 | 0, _, _, _, _, _ => none
 | k + 1, x7, x57, x295000, x295001, x295002 => if x57 = true then (some false) else ((laws_heldCity.f k x295000 x295001 x295002 1).bind fun t307 => (if t307 < 0 then (some false) else (if t307 = x7 then (some true) else (some false))))
end
def laws_FnExactParseCity.f (k : Nat) (a0 : ByteArray) : Option (Bool) := if (a0.size : Int) > 1048576 then (some true) else ((spec_ParseCity.f k a0).bind fun bt281 => ((impl_ParseCity.f k a0).bind fun bt288 => ((laws_eqCity.f k bt288.1 bt288.2.1 bt288.2.2.1 bt281.1 bt281.2.1 bt281.2.2.1).bind fun t295 => (if t295 = true then (laws_FnExactParseCity.j0 k a0 bt281.2.2.2 (bt288.2.2.2 != bt281.2.2.2) bt281.1 bt281.2.1 bt281.2.2.1 bt288.1 bt288.2.1 bt288.2.2.1) else (laws_FnExactParseCity.j0 k a0 bt281.2.2.2 true bt281.1 bt281.2.1 bt281.2.2.1 bt288.1 bt288.2.1 bt288.2.2.1)))))
theorem laws_FnExactParseCity.zn : ∀ k, (∀ y0 y1 y2 y3 y4 y5 y6 y7 y8, LeO (laws_FnExactParseCity.j0 k y0 y1 y2 y3 y4 y5 y6 y7 y8) (laws_FnExactParseCity.j0 (k + 1) y0 y1 y2 y3 y4 y5 y6 y7 y8)) ∧ (∀ y0 y1 y2 y3 y4, LeO (laws_FnExactParseCity.j1 k y0 y1 y2 y3 y4) (laws_FnExactParseCity.j1 (k + 1) y0 y1 y2 y3 y4))
 | 0 => ⟨fun _ _ _ _ _ _ _ _ _ r h => by simp [laws_FnExactParseCity.j0] at h, fun _ _ _ _ _ r h => by simp [laws_FnExactParseCity.j1] at h⟩
 | k + 1 => by
  obtain ⟨ih0, ih1⟩ := laws_FnExactParseCity.zn k
  refine ⟨?_, ?_⟩
  all_goals first | (intro y0 y1 y2 y3 y4 y5 y6 y7 y8; unfold laws_FnExactParseCity.j0) | (intro y0 y1 y2 y3 y4; unfold laws_FnExactParseCity.j1)
  all_goals (repeat' first | (with_reducible first | exact ih0 _ _ _ _ _ _ _ _ _ | exact ih1 _ _ _ _ _ | exact impl_ParseCity.mono _ _ | exact laws_eqCity.mono _ _ _ _ _ _ _ | exact laws_heldCity.mono _ _ _ _ _ | exact laws_markCity.mono _ _ _ _ _ | exact spec_ParseCity.mono _ _ | exact LeO.refl _ | exact LeO.none _ | refine LeO.ite ?_ ?_ | refine LeO.bind ?_ (fun _ => ?_)) | exact ih0 _ _ _ _ _ _ _ _ _ | exact ih1 _ _ _ _ _ | exact impl_ParseCity.mono _ _ | exact laws_eqCity.mono _ _ _ _ _ _ _ | exact laws_heldCity.mono _ _ _ _ _ | exact laws_markCity.mono _ _ _ _ _ | exact spec_ParseCity.mono _ _ | exact LeO.none _ | refine LeO.ite ?_ ?_ | refine LeO.bind ?_ (fun _ => ?_))
theorem laws_FnExactParseCity.mono : ∀ a0 k, LeO (laws_FnExactParseCity.f k a0) (laws_FnExactParseCity.f (k + 1) a0) := by
 intro a0 k
 obtain ⟨ih0, ih1⟩ := laws_FnExactParseCity.zn k
 unfold laws_FnExactParseCity.f
 repeat' first | (with_reducible first | exact ih0 _ _ _ _ _ _ _ _ _ | exact ih1 _ _ _ _ _ | exact impl_ParseCity.mono _ _ | exact laws_eqCity.mono _ _ _ _ _ _ _ | exact laws_heldCity.mono _ _ _ _ _ | exact laws_markCity.mono _ _ _ _ _ | exact spec_ParseCity.mono _ _ | exact LeO.refl _ | exact LeO.none _ | refine LeO.ite ?_ ?_ | refine LeO.bind ?_ (fun _ => ?_)) | exact ih0 _ _ _ _ _ _ _ _ _ | exact ih1 _ _ _ _ _ | exact impl_ParseCity.mono _ _ | exact laws_eqCity.mono _ _ _ _ _ _ _ | exact laws_heldCity.mono _ _ _ _ _ | exact laws_markCity.mono _ _ _ _ _ | exact spec_ParseCity.mono _ _ | exact LeO.none _ | refine LeO.ite ?_ ?_ | refine LeO.bind ?_ (fun _ => ?_)
set_option maxHeartbeats 8000000 in
set_option maxRecDepth 100000 in
theorem laws_FnExactParseCity.calls (k : Nat) (a0 : ByteArray) (r : Bool) (w : World) (hlaid : Laid w) (h : laws_FnExactParseCity.f k a0 = some r) :
  Calls Tryd.prog 3 #[.string a0] w fun e w' => e = .returned (.bool r) ∧ Below w.heap.size w w' := by
 have HLD := qb.mk hlaid
 clear hlaid
 have hu24 := Tryd.underlying24
 have HB := qb.mk (Below.refl w.heap.size w)
 have H : (if (a0.size : Int) > 1048576 then (some true) else ((spec_ParseCity.f k a0).bind fun bt281 => ((impl_ParseCity.f k a0).bind fun bt288 => ((laws_eqCity.f k bt288.1 bt288.2.1 bt288.2.2.1 bt281.1 bt281.2.1 bt281.2.2.1).bind fun t295 => (if t295 = true then (laws_FnExactParseCity.j0 k a0 bt281.2.2.2 (bt288.2.2.2 != bt281.2.2.2) bt281.1 bt281.2.1 bt281.2.2.1 bt288.1 bt288.2.1 bt288.2.2.1) else (laws_FnExactParseCity.j0 k a0 bt281.2.2.2 true bt281.1 bt281.2.1 bt281.2.2.1 bt288.1 bt288.2.1 bt288.2.2.1)))))) = some r := h
 clear h
 by_cases c2 : (a0.size : Int) > 1048576
 ·rw [if_pos c2] at H
  have c2b0 : decide (1048576 < (a0.size : Int)) = true := decide_eq_true c2
  have c2b1 : decide (1048576 < a0.size) = true := decide_eq_true (by omega)
  clear c2
  obtain rfl := Option.some.inj H
  go_enter Tryd.func3, Tryd.ntmps3
  go_wp2
  go_ret
  exact ⟨er_, be0_ HB⟩
 ·rw [if_neg c2] at H
  have c2b0 : decide (1048576 < (a0.size : Int)) = false := decide_eq_false c2
  have c2b1 : decide (1048576 < a0.size) = false := decide_eq_false (by omega)
  clear c2
  replace H := Option.bind_eq_some_iff.mp H
  obtain ⟨⟨t281, t282, t283, t286⟩, A30, H⟩ := H
  replace H : ((impl_ParseCity.f k a0).bind fun bt288 => ((laws_eqCity.f k bt288.1 bt288.2.1 bt288.2.2.1 t281 t282 t283).bind fun t295 => (if t295 = true then (laws_FnExactParseCity.j0 k a0 t286 (bt288.2.2.2 != t286) t281 t282 t283 bt288.1 bt288.2.1 bt288.2.2.1) else (laws_FnExactParseCity.j0 k a0 t286 true t281 t282 t283 bt288.1 bt288.2.1 bt288.2.2.1)))) = some r := H
  have A3 := qb.mk A30
  clear A30
  replace H := Option.bind_eq_some_iff.mp H
  obtain ⟨⟨t288, t289, t290, t293⟩, A40, H⟩ := H
  replace H : ((laws_eqCity.f k t288 t289 t290 t281 t282 t283).bind fun t295 => (if t295 = true then (laws_FnExactParseCity.j0 k a0 t286 (t293 != t286) t281 t282 t283 t288 t289 t290) else (laws_FnExactParseCity.j0 k a0 t286 true t281 t282 t283 t288 t289 t290))) = some r := H
  have A4 := qb.mk A40
  clear A40
  have HC5 := qb.mk H
  clear H
  go_enter Tryd.func3, Tryd.ntmps3
  go_upto_region 5 with (first | ((with_reducible refine qv (f := 4) rfl ?_); refine zf (some 16) rfl rfl Tryd.func4 (by kernel_rfl) rfl #[.string a0] rfl al_ ?_; (with_reducible refine (spec_ParseCity.calls k a0 t281 t282 t283 t286 _ A3.out).mono ?_); rintro e w6 ⟨v284, rfl, ho0, hb⟩; refine ⟨_, rfl, ?_⟩; have n0_ := qb.mk (Kd.zr ho0 (ql (be0_ HB))); have n1_ := qb.mk (qm (be0_ HB) hb); clear HB; have HO285 := n0_; have HB := n1_; clear n0_ n1_; (try clear hb); (try clear hb2); (try clear hk); (try clear hi); (try clear ho0)) | ((with_reducible refine zc (N := 3) rfl ?_); refine zb ?hg (N := 3) ?hd (cs := #[.int .i64 0, .int .i64 0, .slice none 0 0]) (t := 24) ?hr ?_; (case hd => rfl); (case hg => rfl); (case hr => first | (go_simp; done) | (go_simp; rfl)); intro gb287 hg w7 hbox hb; have n0_ := qb.mk (Kd.za (kr_ HO285) hb); have n1_ := qb.mk (qm (be0_ HB) hb); have n2_ := qb.mk (hbox); have n3_ := qb.mk ((by rw [hg]; exact (ql (be0_ HB)) : w.heap.size ≤ gb287)); have n4_ := qb.mk ((by rw [hg]; exact (ql (be0_ HB)) : w.heap.size ≤ gb287)); clear HO285; clear HB; have HO285 := n0_; have HB := n1_; have BK287 := n2_; have GW287 := n3_; have GE287 := n4_; clear n0_ n1_ n2_ n3_ n4_; clear hb hbox hg; have hcz8_0 : w7.cell? ⟨gb287, 0, none⟩ = some (.int .i64 0) := (qg BK287.out 0).trans rfl; have hcz8_1 : w7.cell? ⟨gb287, 1, none⟩ = some (.int .i64 0) := (qg BK287.out 1).trans rfl; have hcz8_2 : w7.cell? ⟨gb287, 2, none⟩ = some (.slice none 0 0) := (qg BK287.out 2).trans rfl; have hfz8_0 := qj BK287.out 0; have hfz8_1 := qj BK287.out 1; have hfz8_2 := qj BK287.out 2; obtain ⟨Ao9, co9, eo9⟩ := Kd.zj HO285.out; subst eo9) | ((with_reducible refine qv (f := 5) rfl ?_); refine zf (some 21) rfl rfl Tryd.func5 (by kernel_rfl) rfl #[.string a0] rfl al_ ?_; (with_reducible refine (impl_ParseCity.calls k a0 t288 t289 t290 t293 _ (HLD.out.below (by repeat (first | (with_reducible first | exact HB.out | apply qd | apply qa | apply qc | refine qh ?_ (qb.out (by assumption))) | exact HB.out)) (Nat.le_refl _)) A4.out).mono ?_); rintro e w10 ⟨v291, rfl, ho0, hb⟩; refine ⟨_, rfl, ?_⟩; have n0_ := qb.mk (Kd.R_elder' (by (with_reducible repeat (first | apply Kd.qo | apply Kd.qp | apply Kd.qu)); exact (Kd.zi (Kd.R_far (p := ⟨gb287, 2, none⟩) (Kd.R_far (p := ⟨gb287, 1, none⟩) (Kd.R_far (p := ⟨gb287, 0, none⟩) (Kd.zk HO285.out BK287.out (by decide)) (fun _ hk => hk.2) (.int .i64 t281)) (fun _ hk => hk.2) (.int .i64 t282)) (fun _ hk => hk.2) (.slice Ao9 t283.length co9)) (fun _ h_ => h_.1))) (Kd.R_base ho0) hb); have n1_ := qb.mk (Kd.zr (Kd.R_new' ho0 (Kd.R_lt (by (with_reducible repeat (first | apply Kd.qo | apply Kd.qp | apply Kd.qu)); exact (Kd.zi (Kd.R_far (p := ⟨gb287, 2, none⟩) (Kd.R_far (p := ⟨gb287, 1, none⟩) (Kd.R_far (p := ⟨gb287, 0, none⟩) (Kd.zk HO285.out BK287.out (by decide)) (fun _ hk => hk.2) (.int .i64 t281)) (fun _ hk => hk.2) (.int .i64 t282)) (fun _ hk => hk.2) (.slice Ao9 t283.length co9)) (fun _ h_ => h_.1))))) (ql (be1_ HB GE287))); have n2_ := qb.mk (qn (g := gb287) (o := .cells #[.int .i64 t281, .int .i64 t282, .slice Ao9 t283.length co9] 24 (0, 0)) (by (with_reducible repeat (first | refine qf ?_ _ | refine qi ?_ | refine qe ?_ _)); refine qx (cs := #[.int .i64 t281, .int .i64 t282, .slice none 0 0]) ?_ 2 _ rfl; (with_reducible repeat (first | refine qf ?_ _ | refine qi ?_ | refine qe ?_ _)); refine qx (cs := #[.int .i64 t281, .int .i64 0, .slice none 0 0]) ?_ 1 _ rfl; (with_reducible repeat (first | refine qf ?_ _ | refine qi ?_ | refine qe ?_ _)); refine qx (cs := #[.int .i64 0, .int .i64 0, .slice none 0 0]) ?_ 0 _ rfl; (with_reducible repeat (first | refine qf ?_ _ | refine qi ?_ | refine qe ?_ _)); exact BK287.out) hb); have n3_ := qb.mk (qm (be1_ HB GE287) hb); clear HO285; clear BK287; clear HB; have HO285 := n0_; have HO292 := n1_; have BK287 := n2_; have HB := n3_; clear n0_ n1_ n2_ n3_; (try clear hb); (try clear hb2); (try clear hk); (try clear hi); (try clear ho0)) | ((with_reducible refine zc (N := 5) rfl ?_); refine zb ?hg (N := 5) ?hd (cs := #[.int .i64 0, .int .i64 0, .slice none 0 0]) (t := 24) ?hr ?_; (case hd => rfl); (case hg => rfl); (case hr => first | (go_simp; done) | (go_simp; rfl)); intro gb294 hg w11 hbox hb; have n0_ := qb.mk (Kd.za (kr_ HO285) hb); have n1_ := qb.mk (Kd.za (kr_ HO292) hb); have n2_ := qb.mk (qn (g := gb287) (o := .cells #[.int .i64 t281, .int .i64 t282, .slice Ao9 t283.length co9] 24 (0, 0)) (bk_ BK287) hb); have n3_ := qb.mk (qm (be1_ HB GE287) hb); have n4_ := qb.mk (hbox); have n5_ := qb.mk ((by rw [hg]; exact (ql (be1_ HB GE287)) : w.heap.size ≤ gb294)); have n6_ := qb.mk ((by rw [hg]; exact (ql (be1_ HB GE287)) : w.heap.size ≤ gb294)); have n7_ := qb.mk ((by rw [hg]; exact Nat.ne_of_lt (zd (g := gb287) (o := .cells #[.int .i64 t281, .int .i64 t282, .slice Ao9 t283.length co9] 24 (0, 0)) (bk_ BK287)) : gb287 ≠ gb294)); have n8_ := qb.mk ((by rw [hg]; exact Nat.ne_of_gt (zd (g := gb287) (o := .cells #[.int .i64 t281, .int .i64 t282, .slice Ao9 t283.length co9] 24 (0, 0)) (bk_ BK287)) : gb294 ≠ gb287)); clear HO285; clear HO292; clear BK287; clear HB; have HO285 := n0_; have HO292 := n1_; have BK287 := n2_; have HB := n3_; have BK294 := n4_; have GW294 := n5_; have GE294 := n6_; have NB287_294 := n7_; have NB294_287 := n8_; clear n0_ n1_ n2_ n3_ n4_ n5_ n6_ n7_ n8_; clear hb hbox hg; have hnb12 := NB294_287.out; have hnc12 := NB287_294.out; have hcz13_0 : w11.cell? ⟨gb294, 0, none⟩ = some (.int .i64 0) := (qg BK294.out 0).trans rfl; have hcz13_1 : w11.cell? ⟨gb294, 1, none⟩ = some (.int .i64 0) := (qg BK294.out 1).trans rfl; have hcz13_2 : w11.cell? ⟨gb294, 2, none⟩ = some (.slice none 0 0) := (qg BK294.out 2).trans rfl; have hfz13_0 := qj BK294.out 0; have hfz13_1 := qj BK294.out 1; have hfz13_2 := qj BK294.out 2; obtain ⟨Ao14, co14, eo14⟩ := Kd.zj HO292.out; subst eo14))
  (try simp only [Act.put, sA_, sB_, sC_])
  go_cut [32] (fun v32 wc => ∃ (kq : Nat) (x32_4 : Bool), v32 = .bool x32_4 ∧ qb (laws_FnExactParseCity.j0 kq a0 t286 x32_4 t281 t282 t283 t288 t289 t290 = some r) ∧ qb (kq ≤ k) ∧ qb (Kd.R k39 39 wc w.heap.size (fun k_ => some k_ ≠ ((.slice Ao14 t290.length co14) : Value).ownBlock) (.slice Ao9 t283.length co9) t283) ∧ qb (Kd.R k39 39 wc w.heap.size (fun k_ => some k_ ≠ ((.slice Ao9 t283.length co9) : Value).ownBlock) (.slice Ao14 t290.length co14) t290) ∧ qb (wc.heap[gb287]? = some (.cells #[.int .i64 t281, .int .i64 t282, (.slice Ao9 t283.length co9)] 24 (0, 0))) ∧ qb (wc.heap[gb294]? = some (.cells #[.int .i64 t288, .int .i64 t289, (.slice Ao14 t290.length co14)] 24 (0, 0))) ∧ qb (Below w.heap.size w wc))
  case first =>
   have H := HC5.out
   clear HC5
   replace H := Option.bind_eq_some_iff.mp H
   obtain ⟨t295, A150, H⟩ := H
   replace H : (if t295 = true then (laws_FnExactParseCity.j0 k a0 t286 (t293 != t286) t281 t282 t283 t288 t289 t290) else (laws_FnExactParseCity.j0 k a0 t286 true t281 t282 t283 t288 t289 t290)) = some r := H
   have A15 := qb.mk A150
   clear A150
   by_cases c16 : t295 = true
   ·subst c16
    have H1 : (laws_FnExactParseCity.j0 k a0 t286 (t293 != t286) t281 t282 t283 t288 t289 t290) = some r := by rw [if_pos rfl] at H; exact H
    clear H
    have H := H1
    clear H1
    have H' := qb.mk H
    clear H
    have hnb17 := NB294_287.out
    have hnc17 := NB287_294.out
    have hcz18_0 : w11.cell? ⟨gb294, 0, none⟩ = some (.int .i64 0) := (qg BK294.out 0).trans rfl
    have hcz18_1 : w11.cell? ⟨gb294, 1, none⟩ = some (.int .i64 0) := (qg BK294.out 1).trans rfl
    have hcz18_2 : w11.cell? ⟨gb294, 2, none⟩ = some (.slice none 0 0) := (qg BK294.out 2).trans rfl
    have hfz18_0 := qj BK294.out 0
    have hfz18_1 := qj BK294.out 1
    have hfz18_2 := qj BK294.out 2
    have hcz19_0 : w11.cell? ⟨gb287, 0, none⟩ = some (.int .i64 t281) := (qg BK287.out 0).trans rfl
    have hcz19_1 : w11.cell? ⟨gb287, 1, none⟩ = some (.int .i64 t282) := (qg BK287.out 1).trans rfl
    have hcz19_2 : w11.cell? ⟨gb287, 2, none⟩ = some (.slice Ao9 t283.length co9) := (qg BK287.out 2).trans rfl
    have hfz19_0 := qj BK287.out 0
    have hfz19_1 := qj BK287.out 1
    have hfz19_2 := qj BK287.out 2
    go_wp2_with (first | ((with_reducible refine qv (f := 6) rfl ?_); refine zf (some 26) rfl rfl Tryd.func6 (by kernel_rfl) rfl #[.agg #[.int .i64 t288, .int .i64 t289, .slice Ao14 t290.length co14], .agg #[.int .i64 t281, .int .i64 t282, .slice Ao9 t283.length co9]] rfl al_ ?_; (with_reducible refine (laws_eqCity.calls k t288 t289 _ _ t290 t281 t282 _ _ t283 true _ ?side1 ?side2 ?side3 ?side4 A15.out).mono ?_); (case side1 => refine (Kd.qw (e := 39) (base := w.heap.size) (ok := fun k_ => (True ∧ some k_ ≠ (.slice Ao9 t283.length co9 : Value).ownBlock)) (n := t290.length) (c := co14) ?_).2.2; exact (by (with_reducible repeat (first | apply Kd.qo | apply Kd.qp | apply Kd.qu)); exact (Kd.zi (Kd.R_far (p := ⟨gb294, 2, none⟩) (Kd.R_far (p := ⟨gb294, 1, none⟩) (Kd.R_far (p := ⟨gb294, 0, none⟩) (Kd.zk HO292.out BK294.out (by decide)) (fun _ hk => hk.2) (.int .i64 t288)) (fun _ hk => hk.2) (.int .i64 t289)) (fun _ hk => hk.2) (.slice Ao14 t290.length co14)) (fun _ h_ => h_.1)))); (case side2 => exact (Kd.qw HO292.out).2.1); (case side3 => refine (Kd.qw (e := 39) (base := w.heap.size) (ok := fun k_ => (True ∧ some k_ ≠ (.slice Ao14 t290.length co14 : Value).ownBlock)) (n := t283.length) (c := co9) ?_).2.2; exact (by (with_reducible repeat (first | apply Kd.qo | apply Kd.qp | apply Kd.qu)); exact (Kd.zi (Kd.R_far (p := ⟨gb294, 2, none⟩) (Kd.R_far (p := ⟨gb294, 1, none⟩) (Kd.R_far (p := ⟨gb294, 0, none⟩) (Kd.zk HO285.out BK294.out (by decide)) (fun _ hk => hk.2) (.int .i64 t288)) (fun _ hk => hk.2) (.int .i64 t289)) (fun _ hk => hk.2) (.slice Ao14 t290.length co14)) (fun _ h_ => h_.1)))); (case side4 => exact (Kd.qw HO285.out).2.1); rintro e w20 ⟨rfl, hb⟩; refine ⟨_, rfl, ?_⟩; have n0_ := qb.mk (Kd.za (by (with_reducible repeat (first | apply Kd.qo | apply Kd.qp | apply Kd.qu)); exact (Kd.zi (Kd.R_far (p := ⟨gb294, 2, none⟩) (Kd.R_far (p := ⟨gb294, 1, none⟩) (Kd.R_far (p := ⟨gb294, 0, none⟩) (Kd.zk HO285.out BK294.out (by decide)) (fun _ hk => hk.2) (.int .i64 t288)) (fun _ hk => hk.2) (.int .i64 t289)) (fun _ hk => hk.2) (.slice Ao14 t290.length co14)) (fun _ h_ => h_.1))) hb); have n1_ := qb.mk (Kd.za (by (with_reducible repeat (first | apply Kd.qo | apply Kd.qp | apply Kd.qu)); exact (Kd.zi (Kd.R_far (p := ⟨gb294, 2, none⟩) (Kd.R_far (p := ⟨gb294, 1, none⟩) (Kd.R_far (p := ⟨gb294, 0, none⟩) (Kd.zk HO292.out BK294.out (by decide)) (fun _ hk => hk.2) (.int .i64 t288)) (fun _ hk => hk.2) (.int .i64 t289)) (fun _ hk => hk.2) (.slice Ao14 t290.length co14)) (fun _ h_ => h_.1))) hb); have n2_ := qb.mk (qn (g := gb287) (o := .cells #[.int .i64 t281, .int .i64 t282, .slice Ao9 t283.length co9] 24 (0, 0)) (by (with_reducible repeat (first | refine qf ?_ _ | refine qi ?_ | refine qe ?_ _)); refine ze ?_ NB287_294.out _; (with_reducible repeat (first | refine qf ?_ _ | refine qi ?_ | refine qe ?_ _)); refine ze ?_ NB287_294.out _; (with_reducible repeat (first | refine qf ?_ _ | refine qi ?_ | refine qe ?_ _)); refine ze ?_ NB287_294.out _; (with_reducible repeat (first | refine qf ?_ _ | refine qi ?_ | refine qe ?_ _)); exact BK287.out) hb); have n3_ := qb.mk (qn (g := gb294) (o := .cells #[.int .i64 t288, .int .i64 t289, .slice Ao14 t290.length co14] 24 (0, 0)) (by (with_reducible repeat (first | refine qf ?_ _ | refine qi ?_ | refine qe ?_ _)); refine qx (cs := #[.int .i64 t288, .int .i64 t289, .slice none 0 0]) ?_ 2 _ rfl; (with_reducible repeat (first | refine qf ?_ _ | refine qi ?_ | refine qe ?_ _)); refine qx (cs := #[.int .i64 t288, .int .i64 0, .slice none 0 0]) ?_ 1 _ rfl; (with_reducible repeat (first | refine qf ?_ _ | refine qi ?_ | refine qe ?_ _)); refine qx (cs := #[.int .i64 0, .int .i64 0, .slice none 0 0]) ?_ 0 _ rfl; (with_reducible repeat (first | refine qf ?_ _ | refine qi ?_ | refine qe ?_ _)); exact BK294.out) hb); have n4_ := qb.mk (qm (be2_ HB GE287 GE294) hb); clear HO285; clear HO292; clear BK287; clear BK294; clear HB; have HO285 := n0_; have HO292 := n1_; have BK287 := n2_; have BK294 := n3_; have HB := n4_; clear n0_ n1_ n2_ n3_ n4_; (try clear hb); (try clear hb2); (try clear hk); (try clear hi)))
    go_meet
    case rel => exact ⟨_, ((t293 != t286)), es_, H', ⟨by first | omega | exact Nat.le_refl _⟩, ⟨by (with_reducible repeat (first | apply Kd.qo | apply Kd.qp | apply Kd.qu)); exact Kd.zi HO285.out (fun _ hk => hk.2)⟩, ⟨by (with_reducible repeat (first | apply Kd.qo | apply Kd.qp | apply Kd.qu)); exact Kd.zi HO292.out (fun _ hk => hk.2)⟩, ⟨bk_ BK287⟩, ⟨bk_ BK294⟩, ⟨be2_ HB GE287 GE294⟩⟩
   ·replace c16 := Bool.eq_false_iff.mpr c16
    subst c16
    have H1 : (laws_FnExactParseCity.j0 k a0 t286 true t281 t282 t283 t288 t289 t290) = some r := by rw [if_neg (show ¬ (false = true) by decide)] at H; exact H
    clear H
    have H := H1
    clear H1
    have H' := qb.mk H
    clear H
    have hnb21 := NB294_287.out
    have hnc21 := NB287_294.out
    have hcz22_0 : w11.cell? ⟨gb294, 0, none⟩ = some (.int .i64 0) := (qg BK294.out 0).trans rfl
    have hcz22_1 : w11.cell? ⟨gb294, 1, none⟩ = some (.int .i64 0) := (qg BK294.out 1).trans rfl
    have hcz22_2 : w11.cell? ⟨gb294, 2, none⟩ = some (.slice none 0 0) := (qg BK294.out 2).trans rfl
    have hfz22_0 := qj BK294.out 0
    have hfz22_1 := qj BK294.out 1
    have hfz22_2 := qj BK294.out 2
    have hcz23_0 : w11.cell? ⟨gb287, 0, none⟩ = some (.int .i64 t281) := (qg BK287.out 0).trans rfl
    have hcz23_1 : w11.cell? ⟨gb287, 1, none⟩ = some (.int .i64 t282) := (qg BK287.out 1).trans rfl
    have hcz23_2 : w11.cell? ⟨gb287, 2, none⟩ = some (.slice Ao9 t283.length co9) := (qg BK287.out 2).trans rfl
    have hfz23_0 := qj BK287.out 0
    have hfz23_1 := qj BK287.out 1
    have hfz23_2 := qj BK287.out 2
    go_wp2_with (first | ((with_reducible refine qv (f := 6) rfl ?_); refine zf (some 26) rfl rfl Tryd.func6 (by kernel_rfl) rfl #[.agg #[.int .i64 t288, .int .i64 t289, .slice Ao14 t290.length co14], .agg #[.int .i64 t281, .int .i64 t282, .slice Ao9 t283.length co9]] rfl al_ ?_; (with_reducible refine (laws_eqCity.calls k t288 t289 _ _ t290 t281 t282 _ _ t283 false _ ?side1 ?side2 ?side3 ?side4 A15.out).mono ?_); (case side1 => refine (Kd.qw (e := 39) (base := w.heap.size) (ok := fun k_ => (True ∧ some k_ ≠ (.slice Ao9 t283.length co9 : Value).ownBlock)) (n := t290.length) (c := co14) ?_).2.2; exact (by (with_reducible repeat (first | apply Kd.qo | apply Kd.qp | apply Kd.qu)); exact (Kd.zi (Kd.R_far (p := ⟨gb294, 2, none⟩) (Kd.R_far (p := ⟨gb294, 1, none⟩) (Kd.R_far (p := ⟨gb294, 0, none⟩) (Kd.zk HO292.out BK294.out (by decide)) (fun _ hk => hk.2) (.int .i64 t288)) (fun _ hk => hk.2) (.int .i64 t289)) (fun _ hk => hk.2) (.slice Ao14 t290.length co14)) (fun _ h_ => h_.1)))); (case side2 => exact (Kd.qw HO292.out).2.1); (case side3 => refine (Kd.qw (e := 39) (base := w.heap.size) (ok := fun k_ => (True ∧ some k_ ≠ (.slice Ao14 t290.length co14 : Value).ownBlock)) (n := t283.length) (c := co9) ?_).2.2; exact (by (with_reducible repeat (first | apply Kd.qo | apply Kd.qp | apply Kd.qu)); exact (Kd.zi (Kd.R_far (p := ⟨gb294, 2, none⟩) (Kd.R_far (p := ⟨gb294, 1, none⟩) (Kd.R_far (p := ⟨gb294, 0, none⟩) (Kd.zk HO285.out BK294.out (by decide)) (fun _ hk => hk.2) (.int .i64 t288)) (fun _ hk => hk.2) (.int .i64 t289)) (fun _ hk => hk.2) (.slice Ao14 t290.length co14)) (fun _ h_ => h_.1)))); (case side4 => exact (Kd.qw HO285.out).2.1); rintro e w24 ⟨rfl, hb⟩; refine ⟨_, rfl, ?_⟩; have n0_ := qb.mk (Kd.za (by (with_reducible repeat (first | apply Kd.qo | apply Kd.qp | apply Kd.qu)); exact (Kd.zi (Kd.R_far (p := ⟨gb294, 2, none⟩) (Kd.R_far (p := ⟨gb294, 1, none⟩) (Kd.R_far (p := ⟨gb294, 0, none⟩) (Kd.zk HO285.out BK294.out (by decide)) (fun _ hk => hk.2) (.int .i64 t288)) (fun _ hk => hk.2) (.int .i64 t289)) (fun _ hk => hk.2) (.slice Ao14 t290.length co14)) (fun _ h_ => h_.1))) hb); have n1_ := qb.mk (Kd.za (by (with_reducible repeat (first | apply Kd.qo | apply Kd.qp | apply Kd.qu)); exact (Kd.zi (Kd.R_far (p := ⟨gb294, 2, none⟩) (Kd.R_far (p := ⟨gb294, 1, none⟩) (Kd.R_far (p := ⟨gb294, 0, none⟩) (Kd.zk HO292.out BK294.out (by decide)) (fun _ hk => hk.2) (.int .i64 t288)) (fun _ hk => hk.2) (.int .i64 t289)) (fun _ hk => hk.2) (.slice Ao14 t290.length co14)) (fun _ h_ => h_.1))) hb); have n2_ := qb.mk (qn (g := gb287) (o := .cells #[.int .i64 t281, .int .i64 t282, .slice Ao9 t283.length co9] 24 (0, 0)) (by (with_reducible repeat (first | refine qf ?_ _ | refine qi ?_ | refine qe ?_ _)); refine ze ?_ NB287_294.out _; (with_reducible repeat (first | refine qf ?_ _ | refine qi ?_ | refine qe ?_ _)); refine ze ?_ NB287_294.out _; (with_reducible repeat (first | refine qf ?_ _ | refine qi ?_ | refine qe ?_ _)); refine ze ?_ NB287_294.out _; (with_reducible repeat (first | refine qf ?_ _ | refine qi ?_ | refine qe ?_ _)); exact BK287.out) hb); have n3_ := qb.mk (qn (g := gb294) (o := .cells #[.int .i64 t288, .int .i64 t289, .slice Ao14 t290.length co14] 24 (0, 0)) (by (with_reducible repeat (first | refine qf ?_ _ | refine qi ?_ | refine qe ?_ _)); refine qx (cs := #[.int .i64 t288, .int .i64 t289, .slice none 0 0]) ?_ 2 _ rfl; (with_reducible repeat (first | refine qf ?_ _ | refine qi ?_ | refine qe ?_ _)); refine qx (cs := #[.int .i64 t288, .int .i64 0, .slice none 0 0]) ?_ 1 _ rfl; (with_reducible repeat (first | refine qf ?_ _ | refine qi ?_ | refine qe ?_ _)); refine qx (cs := #[.int .i64 0, .int .i64 0, .slice none 0 0]) ?_ 0 _ rfl; (with_reducible repeat (first | refine qf ?_ _ | refine qi ?_ | refine qe ?_ _)); exact BK294.out) hb); have n4_ := qb.mk (qm (be2_ HB GE287 GE294) hb); clear HO285; clear HO292; clear BK287; clear BK294; clear HB; have HO285 := n0_; have HO292 := n1_; have BK287 := n2_; have BK294 := n3_; have HB := n4_; clear n0_ n1_ n2_ n3_ n4_; (try clear hb); (try clear hb2); (try clear hk); (try clear hi)))
    go_meet
    case rel => exact ⟨_, (true), es_, H', ⟨by first | omega | exact Nat.le_refl _⟩, ⟨by (with_reducible repeat (first | apply Kd.qo | apply Kd.qp | apply Kd.qu)); exact Kd.zi HO285.out (fun _ hk => hk.2)⟩, ⟨by (with_reducible repeat (first | apply Kd.qo | apply Kd.qp | apply Kd.qu)); exact Kd.zi HO292.out (fun _ hk => hk.2)⟩, ⟨bk_ BK287⟩, ⟨bk_ BK294⟩, ⟨be2_ HB GE287 GE294⟩⟩
  case rest =>
   clear HC5
   try clear c2
   try clear c2b0
   try clear c2b1
   try clear c16
   try clear hcz13_0
   try clear hcz13_1
   try clear hcz13_2
   try clear hcz18_0
   try clear hcz18_1
   try clear hcz18_2
   try clear hcz19_0
   try clear hcz19_1
   try clear hcz19_2
   try clear hcz22_0
   try clear hcz22_1
   try clear hcz22_2
   try clear hcz23_0
   try clear hcz23_1
   try clear hcz23_2
   try clear hcz8_0
   try clear hcz8_1
   try clear hcz8_2
   try clear hfz13_0
   try clear hfz13_1
   try clear hfz13_2
   try clear hfz18_0
   try clear hfz18_1
   try clear hfz18_2
   try clear hfz19_0
   try clear hfz19_1
   try clear hfz19_2
   try clear hfz22_0
   try clear hfz22_1
   try clear hfz22_2
   try clear hfz23_0
   try clear hfz23_1
   try clear hfz23_2
   try clear hfz8_0
   try clear hfz8_1
   try clear hfz8_2
   obtain ⟨kq, x32_4, rfl, HA, HJ4, HO_288002, HO_295002, BK287, BK294, HB⟩ := hcut
   cases kq with
   | zero => exact absurd HA.out (by simp [laws_FnExactParseCity.j0])
   | succ kj4 =>
    have H := HA.out
    clear HA
    simp only [laws_FnExactParseCity.j0] at H
    by_cases c25 : x32_4 = true
    ·subst c25
     have H1 : (some false) = some r := by rw [if_pos rfl] at H; exact H
     clear H
     have H := H1
     clear H1
     obtain rfl := Option.some.inj H
     go_wp2
     go_ret
     exact ⟨er_, be2_ HB GE287 GE294⟩
    ·replace c25 := Bool.eq_false_iff.mpr c25
     subst c25
     have H1 : ((laws_markCity.f kj4 t288 t289 t290 1).bind fun bt296 => ((laws_heldCity.f kj4 t288 t289 bt296.2 1).bind fun t298 => (if t298 < 0 then (some false) else (if t298 = bt296.1 then ((impl_ParseCity.f kj4 a0).bind fun bt299 => ((laws_eqCity.f kj4 bt299.1 bt299.2.1 bt299.2.2.1 t281 t282 t283).bind fun t306 => (if t306 = true then (laws_FnExactParseCity.j1 kj4 bt296.1 (bt299.2.2.2 != t286) t288 t289 bt296.2) else (laws_FnExactParseCity.j1 kj4 bt296.1 true t288 t289 bt296.2)))) else (some false))))) = some r := by rw [if_neg (show ¬ (false = true) by decide)] at H; exact H
     clear H
     have H := H1
     clear H1
     replace H := Option.bind_eq_some_iff.mp H
     obtain ⟨⟨t296, t297⟩, A260, H⟩ := H
     replace H : ((laws_heldCity.f kj4 t288 t289 t297 1).bind fun t298 => (if t298 < 0 then (some false) else (if t298 = t296 then ((impl_ParseCity.f kj4 a0).bind fun bt299 => ((laws_eqCity.f kj4 bt299.1 bt299.2.1 bt299.2.2.1 t281 t282 t283).bind fun t306 => (if t306 = true then (laws_FnExactParseCity.j1 kj4 t296 (bt299.2.2.2 != t286) t288 t289 t297) else (laws_FnExactParseCity.j1 kj4 t296 true t288 t289 t297)))) else (some false)))) = some r := H
     have A26 := qb.mk A260
     clear A260
     replace H := Option.bind_eq_some_iff.mp H
     obtain ⟨t298, A270, H⟩ := H
     replace H : (if t298 < 0 then (some false) else (if t298 = t296 then ((impl_ParseCity.f kj4 a0).bind fun bt299 => ((laws_eqCity.f kj4 bt299.1 bt299.2.1 bt299.2.2.1 t281 t282 t283).bind fun t306 => (if t306 = true then (laws_FnExactParseCity.j1 kj4 t296 (bt299.2.2.2 != t286) t288 t289 t297) else (laws_FnExactParseCity.j1 kj4 t296 true t288 t289 t297)))) else (some false))) = some r := H
     have A27 := qb.mk A270
     clear A270
     by_cases c28 : t298 < 0
     ·rw [if_pos c28] at H
      have c28b0 : decide (t298 < 0) = true := decide_eq_true c28
      clear c28
      obtain rfl := Option.some.inj H
      have hnb29 := NB294_287.out
      have hnc29 := NB287_294.out
      have hcz30_0 : wc.cell? ⟨gb294, 0, none⟩ = some (.int .i64 t288) := (qg BK294.out 0).trans rfl
      have hcz30_1 : wc.cell? ⟨gb294, 1, none⟩ = some (.int .i64 t289) := (qg BK294.out 1).trans rfl
      have hcz30_2 : wc.cell? ⟨gb294, 2, none⟩ = some (.slice Ao14 t290.length co14) := (qg BK294.out 2).trans rfl
      have hfz30_0 := qj BK294.out 0
      have hfz30_1 := qj BK294.out 1
      have hfz30_2 := qj BK294.out 2
      go_wp2_with (first | ((with_reducible refine qv (f := 7) rfl ?_); refine zf (some 35) rfl rfl Tryd.func7 (by kernel_rfl) rfl #[.agg #[.int .i64 t288, .int .i64 t289, .slice Ao14 t290.length co14], .int .i64 1] rfl al_ ?_; (with_reducible refine (laws_markCity.calls kj4 t288 t289 (fun k_ => some k_ = (.slice Ao14 t290.length co14 : Value).ownBlock) (.slice Ao14 t290.length co14) t290 1 t296 t297 w _ ?side1 ?side2 A26.out).mono ?_); (case side1 => repeat (first | (with_reducible first | exact HB.out | apply qd | apply qa | apply qc | refine qh ?_ GE287.out | refine qh ?_ GE294.out) | exact HB.out)); (case side2 => exact Kd.R_tight rfl HO_295002.out); rintro e w31 ⟨rfl, hy0, hb, hkp⟩; refine ⟨_, rfl, ?_⟩; have n0_ := qb.mk (Kd.zi (ok' := fun k_ => some k_ ≠ (.slice Ao14 t290.length co14 : Value).ownBlock) (Kd.R_keptB (HO_288002.out) hkp (fun k_ hk_ hs_ => (hk_) hs_)) (fun k_ hk_ => hk_.1)); have n1_ := qb.mk (Kd.R_reok rfl hy0 (fun k_ e_ => HO_295002.out.1 k_ e_)); have n2_ := qb.mk (blk_kept (bk_ BK287) hkp (fun hs_ => (fun e_ => (Kd.R_ne HO_295002.out BK287.out (by decide)) e_) hs_)); have n3_ := qb.mk (blk_kept (bk_ BK294) hkp (fun hs_ => (fun e_ => (Kd.R_ne HO_295002.out BK294.out (by decide)) e_) hs_)); have n4_ := qb.mk (hb); clear HO_288002; clear HO_295002; clear BK287; clear BK294; clear HB; have HO_288002 := n0_; have HO_295002 := n1_; have BK287 := n2_; have BK294 := n3_; have HB := n4_; clear n0_ n1_ n2_ n3_ n4_; (try clear hb); (try clear hkp); (try clear hy0); have hcz32_0 : w31.cell? ⟨gb294, 0, none⟩ = some (.int .i64 t288) := (qg BK294.out 0).trans rfl; have hcz32_1 : w31.cell? ⟨gb294, 1, none⟩ = some (.int .i64 t289) := (qg BK294.out 1).trans rfl; have hcz32_2 : w31.cell? ⟨gb294, 2, none⟩ = some (.slice Ao14 t290.length co14) := (qg BK294.out 2).trans rfl; have hfz32_0 := qj BK294.out 0; have hfz32_1 := qj BK294.out 1; have hfz32_2 := qj BK294.out 2) | ((with_reducible refine qv (f := 8) rfl ?_); refine zf (some 38) rfl rfl Tryd.func8 (by kernel_rfl) rfl #[.agg #[.int .i64 t288, .int .i64 t289, .slice Ao14 t297.length co14], .int .i64 1] rfl (by (try simp only [List.map_toArray, List.map_cons, List.map_nil]); first | done | (rw [show t297.length = t290.length from (Kd.qw HO_295002.out).1.symm] <;> rfl) | rfl | (simp only [List.length_drop, List.length_take]; rfl)) ?_; (with_reducible refine (laws_heldCity.calls kj4 t288 t289 _ _ t297 1 t298 _ ?side1 ?side2 A27.out).mono ?_); (case side1 => repeat (first | exact (Kd.qw HO_295002.out).2.2 | (with_reducible refine Kd.zp ?_ _) | (with_reducible refine Kd.zo ?_ _) | (with_reducible refine Kd.zt ?_))); (case side2 => rw [show t297.length = t290.length from (Kd.qw HO_295002.out).1.symm]; exact (Kd.qw HO_295002.out).2.1); rintro e w33 ⟨rfl, hb⟩; refine ⟨_, rfl, ?_⟩; have n0_ := qb.mk (Kd.za (kr_ HO_288002) hb); have n1_ := qb.mk (Kd.za (kr_ HO_295002) hb); have n2_ := qb.mk (qn (g := gb287) (o := .cells #[.int .i64 t281, .int .i64 t282, .slice Ao9 t283.length co9] 24 (0, 0)) (bk_ BK287) hb); have n3_ := qb.mk (qn (g := gb294) (o := .cells #[.int .i64 t288, .int .i64 t289, .slice Ao14 t290.length co14] 24 (0, 0)) (bk_ BK294) hb); have n4_ := qb.mk (qm (be2_ HB GE287 GE294) hb); clear HO_288002; clear HO_295002; clear BK287; clear BK294; clear HB; have HO_288002 := n0_; have HO_295002 := n1_; have BK287 := n2_; have BK294 := n3_; have HB := n4_; clear n0_ n1_ n2_ n3_ n4_; (try clear hb); (try clear hb2); (try clear hk); (try clear hi)))
      go_ret
      exact ⟨er_, be2_ HB GE287 GE294⟩
     ·rw [if_neg c28] at H
      have c28b0 : decide (t298 < 0) = false := decide_eq_false c28
      clear c28
      by_cases c34 : t298 = t296
      ·rw [if_pos c34] at H
       have c34b0 : (t298 == t296) = true := beq_iff_eq.mpr c34
       have c34b1 : (t298 != t296) = false := bne_eq_false_iff_eq.mpr c34
       clear c34
       replace H := Option.bind_eq_some_iff.mp H
       obtain ⟨⟨t299, t300, t301, t304⟩, A350, H⟩ := H
       replace H : ((laws_eqCity.f kj4 t299 t300 t301 t281 t282 t283).bind fun t306 => (if t306 = true then (laws_FnExactParseCity.j1 kj4 t296 (t304 != t286) t288 t289 t297) else (laws_FnExactParseCity.j1 kj4 t296 true t288 t289 t297))) = some r := H
       have A35 := qb.mk A350
       clear A350
       have HC36 := qb.mk H
       clear H
       have hnb37 := NB294_287.out
       have hnc37 := NB287_294.out
       have hcz38_0 : wc.cell? ⟨gb294, 0, none⟩ = some (.int .i64 t288) := (qg BK294.out 0).trans rfl
       have hcz38_1 : wc.cell? ⟨gb294, 1, none⟩ = some (.int .i64 t289) := (qg BK294.out 1).trans rfl
       have hcz38_2 : wc.cell? ⟨gb294, 2, none⟩ = some (.slice Ao14 t290.length co14) := (qg BK294.out 2).trans rfl
       have hfz38_0 := qj BK294.out 0
       have hfz38_1 := qj BK294.out 1
       have hfz38_2 := qj BK294.out 2
       go_upto_region 16 with (first | ((with_reducible refine qv (f := 7) rfl ?_); refine zf (some 35) rfl rfl Tryd.func7 (by kernel_rfl) rfl #[.agg #[.int .i64 t288, .int .i64 t289, .slice Ao14 t290.length co14], .int .i64 1] rfl al_ ?_; (with_reducible refine (laws_markCity.calls kj4 t288 t289 (fun k_ => some k_ = (.slice Ao14 t290.length co14 : Value).ownBlock) (.slice Ao14 t290.length co14) t290 1 t296 t297 w _ ?side1 ?side2 A26.out).mono ?_); (case side1 => repeat (first | (with_reducible first | exact HB.out | apply qd | apply qa | apply qc | refine qh ?_ GE287.out | refine qh ?_ GE294.out) | exact HB.out)); (case side2 => exact Kd.R_tight rfl HO_295002.out); rintro e w39 ⟨rfl, hy0, hb, hkp⟩; refine ⟨_, rfl, ?_⟩; have n0_ := qb.mk (Kd.zi (ok' := fun k_ => some k_ ≠ (.slice Ao14 t290.length co14 : Value).ownBlock) (Kd.R_keptB (HO_288002.out) hkp (fun k_ hk_ hs_ => (hk_) hs_)) (fun k_ hk_ => hk_.1)); have n1_ := qb.mk (Kd.R_reok rfl hy0 (fun k_ e_ => HO_295002.out.1 k_ e_)); have n2_ := qb.mk (blk_kept (bk_ BK287) hkp (fun hs_ => (fun e_ => (Kd.R_ne HO_295002.out BK287.out (by decide)) e_) hs_)); have n3_ := qb.mk (blk_kept (bk_ BK294) hkp (fun hs_ => (fun e_ => (Kd.R_ne HO_295002.out BK294.out (by decide)) e_) hs_)); have n4_ := qb.mk (hb); clear HO_288002; clear HO_295002; clear BK287; clear BK294; clear HB; have HO_288002 := n0_; have HO_295002 := n1_; have BK287 := n2_; have BK294 := n3_; have HB := n4_; clear n0_ n1_ n2_ n3_ n4_; (try clear hb); (try clear hkp); (try clear hy0); have hcz40_0 : w39.cell? ⟨gb294, 0, none⟩ = some (.int .i64 t288) := (qg BK294.out 0).trans rfl; have hcz40_1 : w39.cell? ⟨gb294, 1, none⟩ = some (.int .i64 t289) := (qg BK294.out 1).trans rfl; have hcz40_2 : w39.cell? ⟨gb294, 2, none⟩ = some (.slice Ao14 t290.length co14) := (qg BK294.out 2).trans rfl; have hfz40_0 := qj BK294.out 0; have hfz40_1 := qj BK294.out 1; have hfz40_2 := qj BK294.out 2) | ((with_reducible refine qv (f := 8) rfl ?_); refine zf (some 38) rfl rfl Tryd.func8 (by kernel_rfl) rfl #[.agg #[.int .i64 t288, .int .i64 t289, .slice Ao14 t297.length co14], .int .i64 1] rfl (by (try simp only [List.map_toArray, List.map_cons, List.map_nil]); first | done | (rw [show t297.length = t290.length from (Kd.qw HO_295002.out).1.symm] <;> rfl) | rfl | (simp only [List.length_drop, List.length_take]; rfl)) ?_; (with_reducible refine (laws_heldCity.calls kj4 t288 t289 _ _ t297 1 t298 _ ?side1 ?side2 A27.out).mono ?_); (case side1 => repeat (first | exact (Kd.qw HO_295002.out).2.2 | (with_reducible refine Kd.zp ?_ _) | (with_reducible refine Kd.zo ?_ _) | (with_reducible refine Kd.zt ?_))); (case side2 => rw [show t297.length = t290.length from (Kd.qw HO_295002.out).1.symm]; exact (Kd.qw HO_295002.out).2.1); rintro e w41 ⟨rfl, hb⟩; refine ⟨_, rfl, ?_⟩; have n0_ := qb.mk (Kd.za (kr_ HO_288002) hb); have n1_ := qb.mk (Kd.za (kr_ HO_295002) hb); have n2_ := qb.mk (qn (g := gb287) (o := .cells #[.int .i64 t281, .int .i64 t282, .slice Ao9 t283.length co9] 24 (0, 0)) (bk_ BK287) hb); have n3_ := qb.mk (qn (g := gb294) (o := .cells #[.int .i64 t288, .int .i64 t289, .slice Ao14 t290.length co14] 24 (0, 0)) (bk_ BK294) hb); have n4_ := qb.mk (qm (be2_ HB GE287 GE294) hb); clear HO_288002; clear HO_295002; clear BK287; clear BK294; clear HB; have HO_288002 := n0_; have HO_295002 := n1_; have BK287 := n2_; have BK294 := n3_; have HB := n4_; clear n0_ n1_ n2_ n3_ n4_; (try clear hb); (try clear hb2); (try clear hk); (try clear hi)) | ((with_reducible refine qv (f := 5) rfl ?_); refine zf (some 46) rfl rfl Tryd.func5 (by kernel_rfl) rfl #[.string a0] rfl al_ ?_; (with_reducible refine (impl_ParseCity.calls kj4 a0 t299 t300 t301 t304 _ (HLD.out.below (by repeat (first | (with_reducible first | exact HB.out | apply qd | apply qa | apply qc | refine qh ?_ (qb.out (by assumption))) | exact HB.out)) (Nat.le_refl _)) A35.out).mono ?_); rintro e w42 ⟨v302, rfl, ho0, hb⟩; refine ⟨_, rfl, ?_⟩; have n0_ := qb.mk (Kd.R_elder' (kr_ HO_288002) (Kd.R_base ho0) hb); have n1_ := qb.mk (Kd.R_elder' (kr_ HO_295002) (Kd.R_base ho0) hb); have n2_ := qb.mk (Kd.zr (Kd.R_new' (Kd.R_new' ho0 (Kd.R_lt (kr_ HO_288002))) (Kd.R_lt (kr_ HO_295002))) (ql (be2_ HB GE287 GE294))); have n3_ := qb.mk (qn (g := gb287) (o := .cells #[.int .i64 t281, .int .i64 t282, .slice Ao9 t283.length co9] 24 (0, 0)) (bk_ BK287) hb); have n4_ := qb.mk (qn (g := gb294) (o := .cells #[.int .i64 t288, .int .i64 t289, .slice Ao14 t290.length co14] 24 (0, 0)) (bk_ BK294) hb); have n5_ := qb.mk (qm (be2_ HB GE287 GE294) hb); clear HO_288002; clear HO_295002; clear BK287; clear BK294; clear HB; have HO_288002 := n0_; have HO_295002 := n1_; have HO303 := n2_; have BK287 := n3_; have BK294 := n4_; have HB := n5_; clear n0_ n1_ n2_ n3_ n4_ n5_; (try clear hb); (try clear hb2); (try clear hk); (try clear hi); (try clear ho0)) | ((with_reducible refine zc (N := 9) rfl ?_); refine zb ?hg (N := 9) ?hd (cs := #[.int .i64 0, .int .i64 0, .slice none 0 0]) (t := 24) ?hr ?_; (case hd => rfl); (case hg => rfl); (case hr => first | (go_simp; done) | (go_simp; rfl)); intro gb305 hg w43 hbox hb; have n0_ := qb.mk (Kd.za (kr_ HO_288002) hb); have n1_ := qb.mk (Kd.za (kr_ HO_295002) hb); have n2_ := qb.mk (Kd.za (kr_ HO303) hb); have n3_ := qb.mk (qn (g := gb287) (o := .cells #[.int .i64 t281, .int .i64 t282, .slice Ao9 t283.length co9] 24 (0, 0)) (bk_ BK287) hb); have n4_ := qb.mk (qn (g := gb294) (o := .cells #[.int .i64 t288, .int .i64 t289, .slice Ao14 t290.length co14] 24 (0, 0)) (bk_ BK294) hb); have n5_ := qb.mk (qm (be2_ HB GE287 GE294) hb); have n6_ := qb.mk (hbox); have n7_ := qb.mk ((by rw [hg]; exact (ql (be2_ HB GE287 GE294)) : w.heap.size ≤ gb305)); have n8_ := qb.mk ((by rw [hg]; exact (ql (be2_ HB GE287 GE294)) : w.heap.size ≤ gb305)); have n9_ := qb.mk ((by rw [hg]; exact Nat.ne_of_lt (zd (g := gb287) (o := .cells #[.int .i64 t281, .int .i64 t282, .slice Ao9 t283.length co9] 24 (0, 0)) (bk_ BK287)) : gb287 ≠ gb305)); have n10_ := qb.mk ((by rw [hg]; exact Nat.ne_of_gt (zd (g := gb287) (o := .cells #[.int .i64 t281, .int .i64 t282, .slice Ao9 t283.length co9] 24 (0, 0)) (bk_ BK287)) : gb305 ≠ gb287)); have n11_ := qb.mk ((by rw [hg]; exact Nat.ne_of_lt (zd (g := gb294) (o := .cells #[.int .i64 t288, .int .i64 t289, .slice Ao14 t290.length co14] 24 (0, 0)) (bk_ BK294)) : gb294 ≠ gb305)); have n12_ := qb.mk ((by rw [hg]; exact Nat.ne_of_gt (zd (g := gb294) (o := .cells #[.int .i64 t288, .int .i64 t289, .slice Ao14 t290.length co14] 24 (0, 0)) (bk_ BK294)) : gb305 ≠ gb294)); clear HO_288002; clear HO_295002; clear HO303; clear BK287; clear BK294; clear HB; have HO_288002 := n0_; have HO_295002 := n1_; have HO303 := n2_; have BK287 := n3_; have BK294 := n4_; have HB := n5_; have BK305 := n6_; have GW305 := n7_; have GE305 := n8_; have NB287_305 := n9_; have NB305_287 := n10_; have NB294_305 := n11_; have NB305_294 := n12_; clear n0_ n1_ n2_ n3_ n4_ n5_ n6_ n7_ n8_ n9_ n10_ n11_ n12_; clear hb hbox hg; have hnb44 := NB305_287.out; have hnc44 := NB287_305.out; have hnb45 := NB305_294.out; have hnc45 := NB294_305.out; have hcz46_0 : w43.cell? ⟨gb305, 0, none⟩ = some (.int .i64 0) := (qg BK305.out 0).trans rfl; have hcz46_1 : w43.cell? ⟨gb305, 1, none⟩ = some (.int .i64 0) := (qg BK305.out 1).trans rfl; have hcz46_2 : w43.cell? ⟨gb305, 2, none⟩ = some (.slice none 0 0) := (qg BK305.out 2).trans rfl; have hfz46_0 := qj BK305.out 0; have hfz46_1 := qj BK305.out 1; have hfz46_2 := qj BK305.out 2; obtain ⟨Ao47, co47, eo47⟩ := Kd.zj HO303.out; subst eo47))
       (try simp only [Act.put, sA_, sB_, sC_])
       go_cut [57] (fun v57 wc => ∃ (kq : Nat) (x57_35 : Bool), v57 = .bool x57_35 ∧ qb (laws_FnExactParseCity.j1 kq t296 x57_35 t288 t289 t297 = some r) ∧ qb (kq ≤ kj4) ∧ qb (Kd.R k39 39 wc w.heap.size (fun k_ => some k_ ≠ ((.slice Ao14 t290.length co14) : Value).ownBlock ∧ some k_ ≠ ((.slice Ao47 t301.length co47) : Value).ownBlock) (.slice Ao9 t283.length co9) t283) ∧ qb (Kd.R k39 39 wc w.heap.size (fun k_ => some k_ ≠ ((.slice Ao9 t283.length co9) : Value).ownBlock ∧ some k_ ≠ ((.slice Ao47 t301.length co47) : Value).ownBlock) (.slice Ao14 t290.length co14) t297) ∧ qb (Kd.R k39 39 wc w.heap.size (fun k_ => some k_ ≠ ((.slice Ao9 t283.length co9) : Value).ownBlock ∧ some k_ ≠ ((.slice Ao14 t290.length co14) : Value).ownBlock) (.slice Ao47 t301.length co47) t301) ∧ qb (wc.heap[gb287]? = some (.cells #[.int .i64 t281, .int .i64 t282, (.slice Ao9 t283.length co9)] 24 (0, 0))) ∧ qb (wc.heap[gb294]? = some (.cells #[.int .i64 t288, .int .i64 t289, (.slice Ao14 t290.length co14)] 24 (0, 0))) ∧ qb (wc.heap[gb305]? = some (.cells #[.int .i64 t299, .int .i64 t300, (.slice Ao47 t301.length co47)] 24 (0, 0))) ∧ qb (Below w.heap.size w wc))
       case first =>
        have H := HC36.out
        clear HC36
        replace H := Option.bind_eq_some_iff.mp H
        obtain ⟨t306, A480, H⟩ := H
        replace H : (if t306 = true then (laws_FnExactParseCity.j1 kj4 t296 (t304 != t286) t288 t289 t297) else (laws_FnExactParseCity.j1 kj4 t296 true t288 t289 t297)) = some r := H
        have A48 := qb.mk A480
        clear A480
        by_cases c49 : t306 = true
        ·subst c49
         have H1 : (laws_FnExactParseCity.j1 kj4 t296 (t304 != t286) t288 t289 t297) = some r := by rw [if_pos rfl] at H; exact H
         clear H
         have H := H1
         clear H1
         have H' := qb.mk H
         clear H
         have hnb50 := NB305_287.out
         have hnc50 := NB287_305.out
         have hnb51 := NB305_294.out
         have hnc51 := NB294_305.out
         have hcz52_0 : w43.cell? ⟨gb305, 0, none⟩ = some (.int .i64 0) := (qg BK305.out 0).trans rfl
         have hcz52_1 : w43.cell? ⟨gb305, 1, none⟩ = some (.int .i64 0) := (qg BK305.out 1).trans rfl
         have hcz52_2 : w43.cell? ⟨gb305, 2, none⟩ = some (.slice none 0 0) := (qg BK305.out 2).trans rfl
         have hfz52_0 := qj BK305.out 0
         have hfz52_1 := qj BK305.out 1
         have hfz52_2 := qj BK305.out 2
         have hnb53 := NB287_294.out
         have hnc53 := NB294_287.out
         have hcz54_0 : w43.cell? ⟨gb287, 0, none⟩ = some (.int .i64 t281) := (qg BK287.out 0).trans rfl
         have hcz54_1 : w43.cell? ⟨gb287, 1, none⟩ = some (.int .i64 t282) := (qg BK287.out 1).trans rfl
         have hcz54_2 : w43.cell? ⟨gb287, 2, none⟩ = some (.slice Ao9 t283.length co9) := (qg BK287.out 2).trans rfl
         have hfz54_0 := qj BK287.out 0
         have hfz54_1 := qj BK287.out 1
         have hfz54_2 := qj BK287.out 2
         go_wp2_with (first | ((with_reducible refine qv (f := 6) rfl ?_); refine zf (some 51) rfl rfl Tryd.func6 (by kernel_rfl) rfl #[.agg #[.int .i64 t299, .int .i64 t300, .slice Ao47 t301.length co47], .agg #[.int .i64 t281, .int .i64 t282, .slice Ao9 t283.length co9]] rfl al_ ?_; (with_reducible refine (laws_eqCity.calls kj4 t299 t300 _ _ t301 t281 t282 _ _ t283 true _ ?side1 ?side2 ?side3 ?side4 A48.out).mono ?_); (case side1 => refine (Kd.qw (e := 39) (base := w.heap.size) (ok := fun k_ => ((True ∧ some k_ ≠ (.slice Ao9 t283.length co9 : Value).ownBlock) ∧ some k_ ≠ (.slice Ao14 t290.length co14 : Value).ownBlock)) (n := t301.length) (c := co47) ?_).2.2; exact (by (with_reducible repeat (first | apply Kd.qo | apply Kd.qp | apply Kd.qu)); exact (Kd.zi (Kd.R_far (p := ⟨gb305, 2, none⟩) (Kd.R_far (p := ⟨gb305, 1, none⟩) (Kd.R_far (p := ⟨gb305, 0, none⟩) (Kd.zk HO303.out BK305.out (by decide)) (fun _ hk => hk.2) (.int .i64 t299)) (fun _ hk => hk.2) (.int .i64 t300)) (fun _ hk => hk.2) (.slice Ao47 t301.length co47)) (fun _ h_ => h_.1)))); (case side2 => exact (Kd.qw HO303.out).2.1); (case side3 => refine (Kd.qw (e := 39) (base := w.heap.size) (ok := fun k_ => (some k_ ≠ (.slice Ao14 t290.length co14 : Value).ownBlock ∧ some k_ ≠ (.slice Ao47 t301.length co47 : Value).ownBlock)) (n := t283.length) (c := co9) ?_).2.2; exact (by (with_reducible repeat (first | apply Kd.qo | apply Kd.qp | apply Kd.qu)); exact (Kd.zi (Kd.R_far (p := ⟨gb305, 2, none⟩) (Kd.R_far (p := ⟨gb305, 1, none⟩) (Kd.R_far (p := ⟨gb305, 0, none⟩) (Kd.zk HO_288002.out BK305.out (by decide)) (fun _ hk => hk.2) (.int .i64 t299)) (fun _ hk => hk.2) (.int .i64 t300)) (fun _ hk => hk.2) (.slice Ao47 t301.length co47)) (fun _ h_ => h_.1)))); (case side4 => exact (Kd.qw HO_288002.out).2.1); rintro e w55 ⟨rfl, hb⟩; refine ⟨_, rfl, ?_⟩; have n0_ := qb.mk (Kd.za (by (with_reducible repeat (first | apply Kd.qo | apply Kd.qp | apply Kd.qu)); exact (Kd.zi (Kd.R_far (p := ⟨gb305, 2, none⟩) (Kd.R_far (p := ⟨gb305, 1, none⟩) (Kd.R_far (p := ⟨gb305, 0, none⟩) (Kd.zk HO_288002.out BK305.out (by decide)) (fun _ hk => hk.2) (.int .i64 t299)) (fun _ hk => hk.2) (.int .i64 t300)) (fun _ hk => hk.2) (.slice Ao47 t301.length co47)) (fun _ h_ => h_.1))) hb); have n1_ := qb.mk (Kd.za (by (with_reducible repeat (first | apply Kd.qo | apply Kd.qp | apply Kd.qu)); exact (Kd.zi (Kd.R_far (p := ⟨gb305, 2, none⟩) (Kd.R_far (p := ⟨gb305, 1, none⟩) (Kd.R_far (p := ⟨gb305, 0, none⟩) (Kd.zk HO_295002.out BK305.out (by decide)) (fun _ hk => hk.2) (.int .i64 t299)) (fun _ hk => hk.2) (.int .i64 t300)) (fun _ hk => hk.2) (.slice Ao47 t301.length co47)) (fun _ h_ => h_.1))) hb); have n2_ := qb.mk (Kd.za (by (with_reducible repeat (first | apply Kd.qo | apply Kd.qp | apply Kd.qu)); exact (Kd.zi (Kd.R_far (p := ⟨gb305, 2, none⟩) (Kd.R_far (p := ⟨gb305, 1, none⟩) (Kd.R_far (p := ⟨gb305, 0, none⟩) (Kd.zk HO303.out BK305.out (by decide)) (fun _ hk => hk.2) (.int .i64 t299)) (fun _ hk => hk.2) (.int .i64 t300)) (fun _ hk => hk.2) (.slice Ao47 t301.length co47)) (fun _ h_ => h_.1))) hb); have n3_ := qb.mk (qn (g := gb287) (o := .cells #[.int .i64 t281, .int .i64 t282, .slice Ao9 t283.length co9] 24 (0, 0)) (by (with_reducible repeat (first | refine qf ?_ _ | refine qi ?_ | refine qe ?_ _)); refine ze ?_ NB287_305.out _; (with_reducible repeat (first | refine qf ?_ _ | refine qi ?_ | refine qe ?_ _)); refine ze ?_ NB287_305.out _; (with_reducible repeat (first | refine qf ?_ _ | refine qi ?_ | refine qe ?_ _)); refine ze ?_ NB287_305.out _; (with_reducible repeat (first | refine qf ?_ _ | refine qi ?_ | refine qe ?_ _)); exact BK287.out) hb); have n4_ := qb.mk (qn (g := gb294) (o := .cells #[.int .i64 t288, .int .i64 t289, .slice Ao14 t290.length co14] 24 (0, 0)) (by (with_reducible repeat (first | refine qf ?_ _ | refine qi ?_ | refine qe ?_ _)); refine ze ?_ NB294_305.out _; (with_reducible repeat (first | refine qf ?_ _ | refine qi ?_ | refine qe ?_ _)); refine ze ?_ NB294_305.out _; (with_reducible repeat (first | refine qf ?_ _ | refine qi ?_ | refine qe ?_ _)); refine ze ?_ NB294_305.out _; (with_reducible repeat (first | refine qf ?_ _ | refine qi ?_ | refine qe ?_ _)); exact BK294.out) hb); have n5_ := qb.mk (qn (g := gb305) (o := .cells #[.int .i64 t299, .int .i64 t300, .slice Ao47 t301.length co47] 24 (0, 0)) (by (with_reducible repeat (first | refine qf ?_ _ | refine qi ?_ | refine qe ?_ _)); refine qx (cs := #[.int .i64 t299, .int .i64 t300, .slice none 0 0]) ?_ 2 _ rfl; (with_reducible repeat (first | refine qf ?_ _ | refine qi ?_ | refine qe ?_ _)); refine qx (cs := #[.int .i64 t299, .int .i64 0, .slice none 0 0]) ?_ 1 _ rfl; (with_reducible repeat (first | refine qf ?_ _ | refine qi ?_ | refine qe ?_ _)); refine qx (cs := #[.int .i64 0, .int .i64 0, .slice none 0 0]) ?_ 0 _ rfl; (with_reducible repeat (first | refine qf ?_ _ | refine qi ?_ | refine qe ?_ _)); exact BK305.out) hb); have n6_ := qb.mk (qm (be3_ HB GE287 GE294 GE305) hb); clear HO_288002; clear HO_295002; clear HO303; clear BK287; clear BK294; clear BK305; clear HB; have HO_288002 := n0_; have HO_295002 := n1_; have HO303 := n2_; have BK287 := n3_; have BK294 := n4_; have BK305 := n5_; have HB := n6_; clear n0_ n1_ n2_ n3_ n4_ n5_ n6_; (try clear hb); (try clear hb2); (try clear hk); (try clear hi)))
         go_meet
         case rel => exact ⟨_, ((t304 != t286)), es_, H', ⟨by have := HJ4.out; first | omega | exact Nat.le_refl _⟩, ⟨kr_ HO_288002⟩, ⟨kr_ HO_295002⟩, ⟨by (with_reducible repeat (first | apply Kd.qo | apply Kd.qp | apply Kd.qu)); exact Kd.zi HO303.out (fun _ hk => ⟨hk.1.2, hk.2⟩)⟩, ⟨bk_ BK287⟩, ⟨bk_ BK294⟩, ⟨bk_ BK305⟩, ⟨be3_ HB GE287 GE294 GE305⟩⟩
        ·replace c49 := Bool.eq_false_iff.mpr c49
         subst c49
         have H1 : (laws_FnExactParseCity.j1 kj4 t296 true t288 t289 t297) = some r := by rw [if_neg (show ¬ (false = true) by decide)] at H; exact H
         clear H
         have H := H1
         clear H1
         have H' := qb.mk H
         clear H
         have hnb56 := NB305_287.out
         have hnc56 := NB287_305.out
         have hnb57 := NB305_294.out
         have hnc57 := NB294_305.out
         have hcz58_0 : w43.cell? ⟨gb305, 0, none⟩ = some (.int .i64 0) := (qg BK305.out 0).trans rfl
         have hcz58_1 : w43.cell? ⟨gb305, 1, none⟩ = some (.int .i64 0) := (qg BK305.out 1).trans rfl
         have hcz58_2 : w43.cell? ⟨gb305, 2, none⟩ = some (.slice none 0 0) := (qg BK305.out 2).trans rfl
         have hfz58_0 := qj BK305.out 0
         have hfz58_1 := qj BK305.out 1
         have hfz58_2 := qj BK305.out 2
         have hnb59 := NB287_294.out
         have hnc59 := NB294_287.out
         have hcz60_0 : w43.cell? ⟨gb287, 0, none⟩ = some (.int .i64 t281) := (qg BK287.out 0).trans rfl
         have hcz60_1 : w43.cell? ⟨gb287, 1, none⟩ = some (.int .i64 t282) := (qg BK287.out 1).trans rfl
         have hcz60_2 : w43.cell? ⟨gb287, 2, none⟩ = some (.slice Ao9 t283.length co9) := (qg BK287.out 2).trans rfl
         have hfz60_0 := qj BK287.out 0
         have hfz60_1 := qj BK287.out 1
         have hfz60_2 := qj BK287.out 2
         go_wp2_with (first | ((with_reducible refine qv (f := 6) rfl ?_); refine zf (some 51) rfl rfl Tryd.func6 (by kernel_rfl) rfl #[.agg #[.int .i64 t299, .int .i64 t300, .slice Ao47 t301.length co47], .agg #[.int .i64 t281, .int .i64 t282, .slice Ao9 t283.length co9]] rfl al_ ?_; (with_reducible refine (laws_eqCity.calls kj4 t299 t300 _ _ t301 t281 t282 _ _ t283 false _ ?side1 ?side2 ?side3 ?side4 A48.out).mono ?_); (case side1 => refine (Kd.qw (e := 39) (base := w.heap.size) (ok := fun k_ => ((True ∧ some k_ ≠ (.slice Ao9 t283.length co9 : Value).ownBlock) ∧ some k_ ≠ (.slice Ao14 t290.length co14 : Value).ownBlock)) (n := t301.length) (c := co47) ?_).2.2; exact (by (with_reducible repeat (first | apply Kd.qo | apply Kd.qp | apply Kd.qu)); exact (Kd.zi (Kd.R_far (p := ⟨gb305, 2, none⟩) (Kd.R_far (p := ⟨gb305, 1, none⟩) (Kd.R_far (p := ⟨gb305, 0, none⟩) (Kd.zk HO303.out BK305.out (by decide)) (fun _ hk => hk.2) (.int .i64 t299)) (fun _ hk => hk.2) (.int .i64 t300)) (fun _ hk => hk.2) (.slice Ao47 t301.length co47)) (fun _ h_ => h_.1)))); (case side2 => exact (Kd.qw HO303.out).2.1); (case side3 => refine (Kd.qw (e := 39) (base := w.heap.size) (ok := fun k_ => (some k_ ≠ (.slice Ao14 t290.length co14 : Value).ownBlock ∧ some k_ ≠ (.slice Ao47 t301.length co47 : Value).ownBlock)) (n := t283.length) (c := co9) ?_).2.2; exact (by (with_reducible repeat (first | apply Kd.qo | apply Kd.qp | apply Kd.qu)); exact (Kd.zi (Kd.R_far (p := ⟨gb305, 2, none⟩) (Kd.R_far (p := ⟨gb305, 1, none⟩) (Kd.R_far (p := ⟨gb305, 0, none⟩) (Kd.zk HO_288002.out BK305.out (by decide)) (fun _ hk => hk.2) (.int .i64 t299)) (fun _ hk => hk.2) (.int .i64 t300)) (fun _ hk => hk.2) (.slice Ao47 t301.length co47)) (fun _ h_ => h_.1)))); (case side4 => exact (Kd.qw HO_288002.out).2.1); rintro e w61 ⟨rfl, hb⟩; refine ⟨_, rfl, ?_⟩; have n0_ := qb.mk (Kd.za (by (with_reducible repeat (first | apply Kd.qo | apply Kd.qp | apply Kd.qu)); exact (Kd.zi (Kd.R_far (p := ⟨gb305, 2, none⟩) (Kd.R_far (p := ⟨gb305, 1, none⟩) (Kd.R_far (p := ⟨gb305, 0, none⟩) (Kd.zk HO_288002.out BK305.out (by decide)) (fun _ hk => hk.2) (.int .i64 t299)) (fun _ hk => hk.2) (.int .i64 t300)) (fun _ hk => hk.2) (.slice Ao47 t301.length co47)) (fun _ h_ => h_.1))) hb); have n1_ := qb.mk (Kd.za (by (with_reducible repeat (first | apply Kd.qo | apply Kd.qp | apply Kd.qu)); exact (Kd.zi (Kd.R_far (p := ⟨gb305, 2, none⟩) (Kd.R_far (p := ⟨gb305, 1, none⟩) (Kd.R_far (p := ⟨gb305, 0, none⟩) (Kd.zk HO_295002.out BK305.out (by decide)) (fun _ hk => hk.2) (.int .i64 t299)) (fun _ hk => hk.2) (.int .i64 t300)) (fun _ hk => hk.2) (.slice Ao47 t301.length co47)) (fun _ h_ => h_.1))) hb); have n2_ := qb.mk (Kd.za (by (with_reducible repeat (first | apply Kd.qo | apply Kd.qp | apply Kd.qu)); exact (Kd.zi (Kd.R_far (p := ⟨gb305, 2, none⟩) (Kd.R_far (p := ⟨gb305, 1, none⟩) (Kd.R_far (p := ⟨gb305, 0, none⟩) (Kd.zk HO303.out BK305.out (by decide)) (fun _ hk => hk.2) (.int .i64 t299)) (fun _ hk => hk.2) (.int .i64 t300)) (fun _ hk => hk.2) (.slice Ao47 t301.length co47)) (fun _ h_ => h_.1))) hb); have n3_ := qb.mk (qn (g := gb287) (o := .cells #[.int .i64 t281, .int .i64 t282, .slice Ao9 t283.length co9] 24 (0, 0)) (by (with_reducible repeat (first | refine qf ?_ _ | refine qi ?_ | refine qe ?_ _)); refine ze ?_ NB287_305.out _; (with_reducible repeat (first | refine qf ?_ _ | refine qi ?_ | refine qe ?_ _)); refine ze ?_ NB287_305.out _; (with_reducible repeat (first | refine qf ?_ _ | refine qi ?_ | refine qe ?_ _)); refine ze ?_ NB287_305.out _; (with_reducible repeat (first | refine qf ?_ _ | refine qi ?_ | refine qe ?_ _)); exact BK287.out) hb); have n4_ := qb.mk (qn (g := gb294) (o := .cells #[.int .i64 t288, .int .i64 t289, .slice Ao14 t290.length co14] 24 (0, 0)) (by (with_reducible repeat (first | refine qf ?_ _ | refine qi ?_ | refine qe ?_ _)); refine ze ?_ NB294_305.out _; (with_reducible repeat (first | refine qf ?_ _ | refine qi ?_ | refine qe ?_ _)); refine ze ?_ NB294_305.out _; (with_reducible repeat (first | refine qf ?_ _ | refine qi ?_ | refine qe ?_ _)); refine ze ?_ NB294_305.out _; (with_reducible repeat (first | refine qf ?_ _ | refine qi ?_ | refine qe ?_ _)); exact BK294.out) hb); have n5_ := qb.mk (qn (g := gb305) (o := .cells #[.int .i64 t299, .int .i64 t300, .slice Ao47 t301.length co47] 24 (0, 0)) (by (with_reducible repeat (first | refine qf ?_ _ | refine qi ?_ | refine qe ?_ _)); refine qx (cs := #[.int .i64 t299, .int .i64 t300, .slice none 0 0]) ?_ 2 _ rfl; (with_reducible repeat (first | refine qf ?_ _ | refine qi ?_ | refine qe ?_ _)); refine qx (cs := #[.int .i64 t299, .int .i64 0, .slice none 0 0]) ?_ 1 _ rfl; (with_reducible repeat (first | refine qf ?_ _ | refine qi ?_ | refine qe ?_ _)); refine qx (cs := #[.int .i64 0, .int .i64 0, .slice none 0 0]) ?_ 0 _ rfl; (with_reducible repeat (first | refine qf ?_ _ | refine qi ?_ | refine qe ?_ _)); exact BK305.out) hb); have n6_ := qb.mk (qm (be3_ HB GE287 GE294 GE305) hb); clear HO_288002; clear HO_295002; clear HO303; clear BK287; clear BK294; clear BK305; clear HB; have HO_288002 := n0_; have HO_295002 := n1_; have HO303 := n2_; have BK287 := n3_; have BK294 := n4_; have BK305 := n5_; have HB := n6_; clear n0_ n1_ n2_ n3_ n4_ n5_ n6_; (try clear hb); (try clear hb2); (try clear hk); (try clear hi)))
         go_meet
         case rel => exact ⟨_, (true), es_, H', ⟨by have := HJ4.out; first | omega | exact Nat.le_refl _⟩, ⟨kr_ HO_288002⟩, ⟨kr_ HO_295002⟩, ⟨by (with_reducible repeat (first | apply Kd.qo | apply Kd.qp | apply Kd.qu)); exact Kd.zi HO303.out (fun _ hk => ⟨hk.1.2, hk.2⟩)⟩, ⟨bk_ BK287⟩, ⟨bk_ BK294⟩, ⟨bk_ BK305⟩, ⟨be3_ HB GE287 GE294 GE305⟩⟩
       case rest =>
        clear HC36
        try clear c2
        try clear c2b0
        try clear c2b1
        try clear c16
        try clear c25
        try clear c28
        try clear c28b0
        try clear c34
        try clear c34b0
        try clear c34b1
        try clear c49
        try clear hcz13_0
        try clear hcz13_1
        try clear hcz13_2
        try clear hcz18_0
        try clear hcz18_1
        try clear hcz18_2
        try clear hcz19_0
        try clear hcz19_1
        try clear hcz19_2
        try clear hcz22_0
        try clear hcz22_1
        try clear hcz22_2
        try clear hcz23_0
        try clear hcz23_1
        try clear hcz23_2
        try clear hcz30_0
        try clear hcz30_1
        try clear hcz30_2
        try clear hcz32_0
        try clear hcz32_1
        try clear hcz32_2
        try clear hcz38_0
        try clear hcz38_1
        try clear hcz38_2
        try clear hcz40_0
        try clear hcz40_1
        try clear hcz40_2
        try clear hcz46_0
        try clear hcz46_1
        try clear hcz46_2
        try clear hcz52_0
        try clear hcz52_1
        try clear hcz52_2
        try clear hcz54_0
        try clear hcz54_1
        try clear hcz54_2
        try clear hcz58_0
        try clear hcz58_1
        try clear hcz58_2
        try clear hcz60_0
        try clear hcz60_1
        try clear hcz60_2
        try clear hcz8_0
        try clear hcz8_1
        try clear hcz8_2
        try clear hfz13_0
        try clear hfz13_1
        try clear hfz13_2
        try clear hfz18_0
        try clear hfz18_1
        try clear hfz18_2
        try clear hfz19_0
        try clear hfz19_1
        try clear hfz19_2
        try clear hfz22_0
        try clear hfz22_1
        try clear hfz22_2
        try clear hfz23_0
        try clear hfz23_1
        try clear hfz23_2
        try clear hfz30_0
        try clear hfz30_1
        try clear hfz30_2
        try clear hfz32_0
        try clear hfz32_1
        try clear hfz32_2
        try clear hfz38_0
        try clear hfz38_1
        try clear hfz38_2
        try clear hfz40_0
        try clear hfz40_1
        try clear hfz40_2
        try clear hfz46_0
        try clear hfz46_1
        try clear hfz46_2
        try clear hfz52_0
        try clear hfz52_1
        try clear hfz52_2
        try clear hfz54_0
        try clear hfz54_1
        try clear hfz54_2
        try clear hfz58_0
        try clear hfz58_1
        try clear hfz58_2
        try clear hfz60_0
        try clear hfz60_1
        try clear hfz60_2
        try clear hfz8_0
        try clear hfz8_1
        try clear hfz8_2
        obtain ⟨kq, x57_35, rfl, HA, HJ35, HO_288002, HO_295002, HO_306002, BK287, BK294, BK305, HB⟩ := hcut
        have hl295002_35 := (Kd.qw HO_295002.out).1
        rw [hl295002_35] at HO_295002
        (try simp only [hl295002_35])
        (try simp only [hl295002_35] at BK287)
        (try simp only [hl295002_35] at BK294)
        (try simp only [hl295002_35] at BK305)
        (try simp only [hl295002_35] at HO_288002)
        (try simp only [hl295002_35] at HO_306002)
        cases kq with
        | zero => exact absurd HA.out (by simp [laws_FnExactParseCity.j1])
        | succ kj35 =>
         have H := HA.out
         clear HA
         simp only [laws_FnExactParseCity.j1] at H
         by_cases c62 : x57_35 = true
         ·subst c62
          have H1 : (some false) = some r := by rw [if_pos rfl] at H; exact H
          clear H
          have H := H1
          clear H1
          obtain rfl := Option.some.inj H
          go_wp2
          go_ret
          exact ⟨er_, be3_ HB GE287 GE294 GE305⟩
         ·replace c62 := Bool.eq_false_iff.mpr c62
          subst c62
          have H1 : ((laws_heldCity.f kj35 t288 t289 t297 1).bind fun t307 => (if t307 < 0 then (some false) else (if t307 = t296 then (some true) else (some false)))) = some r := by rw [if_neg (show ¬ (false = true) by decide)] at H; exact H
          clear H
          have H := H1
          clear H1
          replace H := Option.bind_eq_some_iff.mp H
          obtain ⟨t307, A630, H⟩ := H
          replace H : (if t307 < 0 then (some false) else (if t307 = t296 then (some true) else (some false))) = some r := H
          have A63 := qb.mk A630
          clear A630
          by_cases c64 : t307 < 0
          ·rw [if_pos c64] at H
           have c64b0 : decide (t307 < 0) = true := decide_eq_true c64
           clear c64
           obtain rfl := Option.some.inj H
           have hnb65 := NB294_287.out
           have hnc65 := NB287_294.out
           have hnb66 := NB294_305.out
           have hnc66 := NB305_294.out
           have hcz67_0 : wc.cell? ⟨gb294, 0, none⟩ = some (.int .i64 t288) := (qg BK294.out 0).trans rfl
           have hcz67_1 : wc.cell? ⟨gb294, 1, none⟩ = some (.int .i64 t289) := (qg BK294.out 1).trans rfl
           have hcz67_2 : wc.cell? ⟨gb294, 2, none⟩ = some (.slice Ao14 t297.length co14) := (qg BK294.out 2).trans rfl
           have hfz67_0 := qj BK294.out 0
           have hfz67_1 := qj BK294.out 1
           have hfz67_2 := qj BK294.out 2
           go_wp2_with (first | ((with_reducible refine qv (f := 8) rfl ?_); refine zf (some 60) rfl rfl Tryd.func8 (by kernel_rfl) rfl #[.agg #[.int .i64 t288, .int .i64 t289, .slice Ao14 t297.length co14], .int .i64 1] rfl al_ ?_; (with_reducible refine (laws_heldCity.calls kj35 t288 t289 _ _ t297 1 t307 _ ?side1 ?side2 A63.out).mono ?_); (case side1 => repeat (first | exact (Kd.qw HO_295002.out).2.2 | (with_reducible refine Kd.zp ?_ _) | (with_reducible refine Kd.zo ?_ _) | (with_reducible refine Kd.zt ?_))); (case side2 => exact (Kd.qw HO_295002.out).2.1); rintro e w68 ⟨rfl, hb⟩; refine ⟨_, rfl, ?_⟩; have n0_ := qb.mk (Kd.za (kr_ HO_288002) hb); have n1_ := qb.mk (Kd.za (kr_ HO_295002) hb); have n2_ := qb.mk (Kd.za (kr_ HO_306002) hb); have n3_ := qb.mk (qn (g := gb287) (o := .cells #[.int .i64 t281, .int .i64 t282, .slice Ao9 t283.length co9] 24 (0, 0)) (bk_ BK287) hb); have n4_ := qb.mk (qn (g := gb294) (o := .cells #[.int .i64 t288, .int .i64 t289, .slice Ao14 t297.length co14] 24 (0, 0)) (bk_ BK294) hb); have n5_ := qb.mk (qn (g := gb305) (o := .cells #[.int .i64 t299, .int .i64 t300, .slice Ao47 t301.length co47] 24 (0, 0)) (bk_ BK305) hb); have n6_ := qb.mk (qm (be3_ HB GE287 GE294 GE305) hb); clear HO_288002; clear HO_295002; clear HO_306002; clear BK287; clear BK294; clear BK305; clear HB; have HO_288002 := n0_; have HO_295002 := n1_; have HO_306002 := n2_; have BK287 := n3_; have BK294 := n4_; have BK305 := n5_; have HB := n6_; clear n0_ n1_ n2_ n3_ n4_ n5_ n6_; (try clear hb); (try clear hb2); (try clear hk); (try clear hi)))
           go_ret
           exact ⟨er_, be3_ HB GE287 GE294 GE305⟩
          ·rw [if_neg c64] at H
           have c64b0 : decide (t307 < 0) = false := decide_eq_false c64
           clear c64
           by_cases c69 : t307 = t296
           ·rw [if_pos c69] at H
            have c69b0 : (t307 == t296) = true := beq_iff_eq.mpr c69
            have c69b1 : (t307 != t296) = false := bne_eq_false_iff_eq.mpr c69
            clear c69
            obtain rfl := Option.some.inj H
            have hnb70 := NB294_287.out
            have hnc70 := NB287_294.out
            have hnb71 := NB294_305.out
            have hnc71 := NB305_294.out
            have hcz72_0 : wc.cell? ⟨gb294, 0, none⟩ = some (.int .i64 t288) := (qg BK294.out 0).trans rfl
            have hcz72_1 : wc.cell? ⟨gb294, 1, none⟩ = some (.int .i64 t289) := (qg BK294.out 1).trans rfl
            have hcz72_2 : wc.cell? ⟨gb294, 2, none⟩ = some (.slice Ao14 t297.length co14) := (qg BK294.out 2).trans rfl
            have hfz72_0 := qj BK294.out 0
            have hfz72_1 := qj BK294.out 1
            have hfz72_2 := qj BK294.out 2
            go_wp2_with (first | ((with_reducible refine qv (f := 8) rfl ?_); refine zf (some 60) rfl rfl Tryd.func8 (by kernel_rfl) rfl #[.agg #[.int .i64 t288, .int .i64 t289, .slice Ao14 t297.length co14], .int .i64 1] rfl al_ ?_; (with_reducible refine (laws_heldCity.calls kj35 t288 t289 _ _ t297 1 t307 _ ?side1 ?side2 A63.out).mono ?_); (case side1 => repeat (first | exact (Kd.qw HO_295002.out).2.2 | (with_reducible refine Kd.zp ?_ _) | (with_reducible refine Kd.zo ?_ _) | (with_reducible refine Kd.zt ?_))); (case side2 => exact (Kd.qw HO_295002.out).2.1); rintro e w73 ⟨rfl, hb⟩; refine ⟨_, rfl, ?_⟩; have n0_ := qb.mk (Kd.za (kr_ HO_288002) hb); have n1_ := qb.mk (Kd.za (kr_ HO_295002) hb); have n2_ := qb.mk (Kd.za (kr_ HO_306002) hb); have n3_ := qb.mk (qn (g := gb287) (o := .cells #[.int .i64 t281, .int .i64 t282, .slice Ao9 t283.length co9] 24 (0, 0)) (bk_ BK287) hb); have n4_ := qb.mk (qn (g := gb294) (o := .cells #[.int .i64 t288, .int .i64 t289, .slice Ao14 t297.length co14] 24 (0, 0)) (bk_ BK294) hb); have n5_ := qb.mk (qn (g := gb305) (o := .cells #[.int .i64 t299, .int .i64 t300, .slice Ao47 t301.length co47] 24 (0, 0)) (bk_ BK305) hb); have n6_ := qb.mk (qm (be3_ HB GE287 GE294 GE305) hb); clear HO_288002; clear HO_295002; clear HO_306002; clear BK287; clear BK294; clear BK305; clear HB; have HO_288002 := n0_; have HO_295002 := n1_; have HO_306002 := n2_; have BK287 := n3_; have BK294 := n4_; have BK305 := n5_; have HB := n6_; clear n0_ n1_ n2_ n3_ n4_ n5_ n6_; (try clear hb); (try clear hb2); (try clear hk); (try clear hi)))
            go_ret
            exact ⟨er_, be3_ HB GE287 GE294 GE305⟩
           ·rw [if_neg c69] at H
            have c69b0 : (t307 == t296) = false := beq_eq_false_iff_ne.mpr c69
            have c69b1 : (t307 != t296) = true := bne_iff_ne.mpr c69
            obtain rfl := Option.some.inj H
            have hnb74 := NB294_287.out
            have hnc74 := NB287_294.out
            have hnb75 := NB294_305.out
            have hnc75 := NB305_294.out
            have hcz76_0 : wc.cell? ⟨gb294, 0, none⟩ = some (.int .i64 t288) := (qg BK294.out 0).trans rfl
            have hcz76_1 : wc.cell? ⟨gb294, 1, none⟩ = some (.int .i64 t289) := (qg BK294.out 1).trans rfl
            have hcz76_2 : wc.cell? ⟨gb294, 2, none⟩ = some (.slice Ao14 t297.length co14) := (qg BK294.out 2).trans rfl
            have hfz76_0 := qj BK294.out 0
            have hfz76_1 := qj BK294.out 1
            have hfz76_2 := qj BK294.out 2
            go_wp2_with (first | ((with_reducible refine qv (f := 8) rfl ?_); refine zf (some 60) rfl rfl Tryd.func8 (by kernel_rfl) rfl #[.agg #[.int .i64 t288, .int .i64 t289, .slice Ao14 t297.length co14], .int .i64 1] rfl al_ ?_; (with_reducible refine (laws_heldCity.calls kj35 t288 t289 _ _ t297 1 t307 _ ?side1 ?side2 A63.out).mono ?_); (case side1 => repeat (first | exact (Kd.qw HO_295002.out).2.2 | (with_reducible refine Kd.zp ?_ _) | (with_reducible refine Kd.zo ?_ _) | (with_reducible refine Kd.zt ?_))); (case side2 => exact (Kd.qw HO_295002.out).2.1); rintro e w77 ⟨rfl, hb⟩; refine ⟨_, rfl, ?_⟩; have n0_ := qb.mk (Kd.za (kr_ HO_288002) hb); have n1_ := qb.mk (Kd.za (kr_ HO_295002) hb); have n2_ := qb.mk (Kd.za (kr_ HO_306002) hb); have n3_ := qb.mk (qn (g := gb287) (o := .cells #[.int .i64 t281, .int .i64 t282, .slice Ao9 t283.length co9] 24 (0, 0)) (bk_ BK287) hb); have n4_ := qb.mk (qn (g := gb294) (o := .cells #[.int .i64 t288, .int .i64 t289, .slice Ao14 t297.length co14] 24 (0, 0)) (bk_ BK294) hb); have n5_ := qb.mk (qn (g := gb305) (o := .cells #[.int .i64 t299, .int .i64 t300, .slice Ao47 t301.length co47] 24 (0, 0)) (bk_ BK305) hb); have n6_ := qb.mk (qm (be3_ HB GE287 GE294 GE305) hb); clear HO_288002; clear HO_295002; clear HO_306002; clear BK287; clear BK294; clear BK305; clear HB; have HO_288002 := n0_; have HO_295002 := n1_; have HO_306002 := n2_; have BK287 := n3_; have BK294 := n4_; have BK305 := n5_; have HB := n6_; clear n0_ n1_ n2_ n3_ n4_ n5_ n6_; (try clear hb); (try clear hb2); (try clear hk); (try clear hi)))
            go_ret
            exact ⟨er_, be3_ HB GE287 GE294 GE305⟩
      ·rw [if_neg c34] at H
       have c34b0 : (t298 == t296) = false := beq_eq_false_iff_ne.mpr c34
       have c34b1 : (t298 != t296) = true := bne_iff_ne.mpr c34
       obtain rfl := Option.some.inj H
       have hnb78 := NB294_287.out
       have hnc78 := NB287_294.out
       have hcz79_0 : wc.cell? ⟨gb294, 0, none⟩ = some (.int .i64 t288) := (qg BK294.out 0).trans rfl
       have hcz79_1 : wc.cell? ⟨gb294, 1, none⟩ = some (.int .i64 t289) := (qg BK294.out 1).trans rfl
       have hcz79_2 : wc.cell? ⟨gb294, 2, none⟩ = some (.slice Ao14 t290.length co14) := (qg BK294.out 2).trans rfl
       have hfz79_0 := qj BK294.out 0
       have hfz79_1 := qj BK294.out 1
       have hfz79_2 := qj BK294.out 2
       go_wp2_with (first | ((with_reducible refine qv (f := 7) rfl ?_); refine zf (some 35) rfl rfl Tryd.func7 (by kernel_rfl) rfl #[.agg #[.int .i64 t288, .int .i64 t289, .slice Ao14 t290.length co14], .int .i64 1] rfl al_ ?_; (with_reducible refine (laws_markCity.calls kj4 t288 t289 (fun k_ => some k_ = (.slice Ao14 t290.length co14 : Value).ownBlock) (.slice Ao14 t290.length co14) t290 1 t296 t297 w _ ?side1 ?side2 A26.out).mono ?_); (case side1 => repeat (first | (with_reducible first | exact HB.out | apply qd | apply qa | apply qc | refine qh ?_ GE287.out | refine qh ?_ GE294.out) | exact HB.out)); (case side2 => exact Kd.R_tight rfl HO_295002.out); rintro e w80 ⟨rfl, hy0, hb, hkp⟩; refine ⟨_, rfl, ?_⟩; have n0_ := qb.mk (Kd.zi (ok' := fun k_ => some k_ ≠ (.slice Ao14 t290.length co14 : Value).ownBlock) (Kd.R_keptB (HO_288002.out) hkp (fun k_ hk_ hs_ => (hk_) hs_)) (fun k_ hk_ => hk_.1)); have n1_ := qb.mk (Kd.R_reok rfl hy0 (fun k_ e_ => HO_295002.out.1 k_ e_)); have n2_ := qb.mk (blk_kept (bk_ BK287) hkp (fun hs_ => (fun e_ => (Kd.R_ne HO_295002.out BK287.out (by decide)) e_) hs_)); have n3_ := qb.mk (blk_kept (bk_ BK294) hkp (fun hs_ => (fun e_ => (Kd.R_ne HO_295002.out BK294.out (by decide)) e_) hs_)); have n4_ := qb.mk (hb); clear HO_288002; clear HO_295002; clear BK287; clear BK294; clear HB; have HO_288002 := n0_; have HO_295002 := n1_; have BK287 := n2_; have BK294 := n3_; have HB := n4_; clear n0_ n1_ n2_ n3_ n4_; (try clear hb); (try clear hkp); (try clear hy0); have hcz81_0 : w80.cell? ⟨gb294, 0, none⟩ = some (.int .i64 t288) := (qg BK294.out 0).trans rfl; have hcz81_1 : w80.cell? ⟨gb294, 1, none⟩ = some (.int .i64 t289) := (qg BK294.out 1).trans rfl; have hcz81_2 : w80.cell? ⟨gb294, 2, none⟩ = some (.slice Ao14 t290.length co14) := (qg BK294.out 2).trans rfl; have hfz81_0 := qj BK294.out 0; have hfz81_1 := qj BK294.out 1; have hfz81_2 := qj BK294.out 2) | ((with_reducible refine qv (f := 8) rfl ?_); refine zf (some 38) rfl rfl Tryd.func8 (by kernel_rfl) rfl #[.agg #[.int .i64 t288, .int .i64 t289, .slice Ao14 t297.length co14], .int .i64 1] rfl (by (try simp only [List.map_toArray, List.map_cons, List.map_nil]); first | done | (rw [show t297.length = t290.length from (Kd.qw HO_295002.out).1.symm] <;> rfl) | rfl | (simp only [List.length_drop, List.length_take]; rfl)) ?_; (with_reducible refine (laws_heldCity.calls kj4 t288 t289 _ _ t297 1 t298 _ ?side1 ?side2 A27.out).mono ?_); (case side1 => repeat (first | exact (Kd.qw HO_295002.out).2.2 | (with_reducible refine Kd.zp ?_ _) | (with_reducible refine Kd.zo ?_ _) | (with_reducible refine Kd.zt ?_))); (case side2 => rw [show t297.length = t290.length from (Kd.qw HO_295002.out).1.symm]; exact (Kd.qw HO_295002.out).2.1); rintro e w82 ⟨rfl, hb⟩; refine ⟨_, rfl, ?_⟩; have n0_ := qb.mk (Kd.za (kr_ HO_288002) hb); have n1_ := qb.mk (Kd.za (kr_ HO_295002) hb); have n2_ := qb.mk (qn (g := gb287) (o := .cells #[.int .i64 t281, .int .i64 t282, .slice Ao9 t283.length co9] 24 (0, 0)) (bk_ BK287) hb); have n3_ := qb.mk (qn (g := gb294) (o := .cells #[.int .i64 t288, .int .i64 t289, .slice Ao14 t290.length co14] 24 (0, 0)) (bk_ BK294) hb); have n4_ := qb.mk (qm (be2_ HB GE287 GE294) hb); clear HO_288002; clear HO_295002; clear BK287; clear BK294; clear HB; have HO_288002 := n0_; have HO_295002 := n1_; have BK287 := n2_; have BK294 := n3_; have HB := n4_; clear n0_ n1_ n2_ n3_ n4_; (try clear hb); (try clear hb2); (try clear hk); (try clear hi)))
       go_ret
       exact ⟨er_, be2_ HB GE287 GE294⟩
def laws_FnExactParseCity.Pure : Prop := ∀ (a0 : ByteArray), a0.size ≤ 140737488351232 → ∃ k, laws_FnExactParseCity.f k a0 = some true
theorem laws_FnExactParseCity.walk (P : laws_FnExactParseCity.Pure) (a0 : ByteArray) (w : World) (hlaid : Laid w) (w0 : a0.size ≤ 140737488351232) :
  Calls Tryd.prog 3 #[.string a0] w fun e w' => e = .returned (.bool true) ∧ Below w.heap.size w w' := by
 obtain ⟨k, h⟩ := P a0 w0
 refine (laws_FnExactParseCity.calls k a0 true w hlaid h).mono ?_
 rintro e w' ⟨rfl, hd⟩
 exact ⟨rfl, hd⟩
end Go.Proofs.YtbnbdaommbnecacDoor.PFnExactParseCity
