/- Cut by wip/cut.py out of the texts of this claim (printed by the kit's printer, or this session's own): what the row's theorem does not reach is struck. Not trusted: Lean checks it. -/
import Derived.Test.YtohpaddcfcgmbaaZFnExactBestToOpenPx0
import Derived.Test.YtohpaddcfcgmbaaZFnExactBestToOpenPx2
import Derived.Test.YtohpaddcfcgmbaaZFnExactBestToOpenPx3
import Derived.Test.YtohpaddcfcgmbaaZFnExactBestToOpenPx6
import Derived.Test.YtohpaddcfcgmbaaZFnExactBestToOpenPx13
namespace Go.Proofs.Ytohpaddcfcgmbaa.PFnExactBestToOpen
open Go.RowKit Go.Proofs.YtohpaddcfcgmbaaW.PrintWords Go.Proofs.YtohpaddcfcgmbaaW.PrintLast Go.Proofs.YtohpaddcfcgmbaaW.PrintMore
attribute [local go_sem] max2_int min2_int max_two min_two max_three min_three max_four min_four
set_option linter.unusedVariables false
set_option linter.unusedSimpArgs false
def laws_FnExactBestToOpen.j0 : Nat → List Int → List Int → List Int → List Int → Bool → Int → Int → List (S35) → Int → Int → List (S38) → Option (Bool)
 | 0, _, _, _, _, _, _, _, _, _, _, _ => none
 | k + 1, x1, x2, x12, x13, x66, x274000, x274001, x274002, x298000, x298001, x298002 => if x66 = true then (some false) else ((laws_toCity.f k x274000 x274001 x274002).bind fun bt311 => ((laws_eqCity.f k x298000 x298001 x298002 bt311.1 bt311.2.1 bt311.2.2).bind fun t316 => (if t316 = true then ((laws_toIntS.f k x1).bind fun t317 => ((laws_eqIntS.f k x12 t317).bind fun t320 => (if t320 = true then ((laws_toIntS.f k x2).bind fun t321 => ((laws_eqIntS.f k x13 t321).bind fun t324 => (if t324 = true then (some true) else (some false)))) else (some false)))) else (some false))))
def laws_FnExactBestToOpen.f (k : Nat) (a0_0 : Int) (a0_1 : Int) (l0_2 : List (S35)) (l1 : List Int) (l2 : List Int) : Option (Bool) := if (l1.length : Int) > 1048576 then (some true) else (if (l2.length : Int) > 1048576 then (some true) else ((laws_szCity.f a0_0 a0_1 l0_2 1048576).bind fun t274 => (if t274 < 0 then (some true) else ((laws_toCity.f k a0_0 a0_1 l0_2).bind fun bt275 => ((laws_toIntS.f k l1).bind fun t280 => ((laws_toIntS.f k l2).bind fun t283 => ((spec_BestToOpen.f k bt275.1 bt275.2.1 bt275.2.2 t280 t283).bind fun bt286 => ((laws_toCity.f k a0_0 a0_1 l0_2).bind fun bt292 => ((laws_toIntS.f k l1).bind fun t298 => ((laws_toIntS.f k l2).bind fun t301 => ((impl_BestToOpen.f k bt292.1 bt292.2.1 bt292.2.2 t298 t301).bind fun bt304 => ((laws_eqBlock.f bt304.1 bt304.2.1 bt304.2.2.1 bt286.1 bt286.2.1 bt286.2.2.1).bind fun t310 => (if t310 = true then (if bt304.2.2.2.1 = bt286.2.2.2.1 then (laws_FnExactBestToOpen.j0 k l1 l2 t298 t301 (bt304.2.2.2.2 != bt286.2.2.2.2) a0_0 a0_1 l0_2 bt292.1 bt292.2.1 bt292.2.2) else (laws_FnExactBestToOpen.j0 k l1 l2 t298 t301 true a0_0 a0_1 l0_2 bt292.1 bt292.2.1 bt292.2.2)) else (laws_FnExactBestToOpen.j0 k l1 l2 t298 t301 true a0_0 a0_1 l0_2 bt292.1 bt292.2.1 bt292.2.2))))))))))))))
theorem laws_FnExactBestToOpen.zu : ∀ k, (∀ y0 y1 y2 y3 y4 y5 y6 y7 y8 y9 y10, LeO (laws_FnExactBestToOpen.j0 k y0 y1 y2 y3 y4 y5 y6 y7 y8 y9 y10) (laws_FnExactBestToOpen.j0 (k + 1) y0 y1 y2 y3 y4 y5 y6 y7 y8 y9 y10))
 | 0 => fun _ _ _ _ _ _ _ _ _ _ _ r h => by simp [laws_FnExactBestToOpen.j0] at h
 | k + 1 => by
  have ih0 := laws_FnExactBestToOpen.zu k
  ·intro y0 y1 y2 y3 y4 y5 y6 y7 y8 y9 y10
   unfold laws_FnExactBestToOpen.j0
   repeat' first
   | (with_reducible exact ih0 _ _ _ _ _ _ _ _ _ _ _)
   | (with_reducible exact impl_BestToOpen.mono _ _ _ _ _ _)
   | (with_reducible exact laws_eqCity.mono _ _ _ _ _ _ _)
   | (with_reducible exact laws_eqIntS.mono _ _ _)
   | (with_reducible exact laws_toCity.mono _ _ _ _)
   | (with_reducible exact laws_toIntS.mono _ _)
   | (with_reducible exact spec_BestToOpen.mono _ _ _ _ _ _)
   | (with_reducible exact LeO.refl _)
   | (with_reducible exact LeO.none _)
   | (with_reducible refine LeO.ite ?_ ?_)
   | (with_reducible refine LeO.bind ?_ (fun _ => ?_))
   | exact ih0 _ _ _ _ _ _ _ _ _ _ _
   | exact impl_BestToOpen.mono _ _ _ _ _ _
   | exact laws_eqCity.mono _ _ _ _ _ _ _
   | exact laws_eqIntS.mono _ _ _
   | exact laws_toCity.mono _ _ _ _
   | exact laws_toIntS.mono _ _
   | exact spec_BestToOpen.mono _ _ _ _ _ _
   | exact LeO.none _
   | refine LeO.ite ?_ ?_
   | refine LeO.bind ?_ (fun _ => ?_)
theorem laws_FnExactBestToOpen.mono : ∀ a0 a1 a2 a3 a4 k, LeO (laws_FnExactBestToOpen.f k a0 a1 a2 a3 a4) (laws_FnExactBestToOpen.f (k + 1) a0 a1 a2 a3 a4) := by
 intro a0 a1 a2 a3 a4 k
 have ih0 := laws_FnExactBestToOpen.zu k
 unfold laws_FnExactBestToOpen.f
 repeat' first
   | (with_reducible exact ih0 _ _ _ _ _ _ _ _ _ _ _)
   | (with_reducible exact impl_BestToOpen.mono _ _ _ _ _ _)
   | (with_reducible exact laws_eqCity.mono _ _ _ _ _ _ _)
   | (with_reducible exact laws_eqIntS.mono _ _ _)
   | (with_reducible exact laws_toCity.mono _ _ _ _)
   | (with_reducible exact laws_toIntS.mono _ _)
   | (with_reducible exact spec_BestToOpen.mono _ _ _ _ _ _)
   | (with_reducible exact LeO.refl _)
   | (with_reducible exact LeO.none _)
   | (with_reducible refine LeO.ite ?_ ?_)
   | (with_reducible refine LeO.bind ?_ (fun _ => ?_))
   | exact ih0 _ _ _ _ _ _ _ _ _ _ _
   | exact impl_BestToOpen.mono _ _ _ _ _ _
   | exact laws_eqCity.mono _ _ _ _ _ _ _
   | exact laws_eqIntS.mono _ _ _
   | exact laws_toCity.mono _ _ _ _
   | exact laws_toIntS.mono _ _
   | exact spec_BestToOpen.mono _ _ _ _ _ _
   | exact LeO.none _
   | refine LeO.ite ?_ ?_
   | refine LeO.bind ?_ (fun _ => ?_)
set_option maxHeartbeats 8000000 in
set_option maxRecDepth 100000 in
theorem laws_FnExactBestToOpen.calls (k : Nat) (a0_0 : Int) (a0_1 : Int) (A0_2 : Option Addr) (c0_2 : Nat) (l0_2 : List (S35)) (A1 : Option Addr) (c1 : Nat) (l1 : List Int) (A2 : Option Addr) (c2 : Nat) (l2 : List Int) (r : Bool) (w : World) (hr0_2 : Kd.C k35 w A0_2 l0_2.length l0_2) (hc0_2 : l0_2.length ≤ c0_2) (hr1 : Kd.C (Kd.int .i64) w A1 l1.length l1) (hc1 : l1.length ≤ c1) (hr2 : Kd.C (Kd.int .i64) w A2 l2.length l2) (hc2 : l2.length ≤ c2) (h : laws_FnExactBestToOpen.f k a0_0 a0_1 l0_2 l1 l2 = some r) :
  Calls Try.prog 12 #[.agg #[.int .i64 a0_0, .int .i64 a0_1, .slice A0_2 l0_2.length c0_2], .slice A1 l1.length c1, .slice A2 l2.length c2] w fun e w' => e = .returned (.bool r) ∧ Below w.heap.size w w' := by
 have hu24 := Try.underlying24
 have hu38 := Try.underlying38
 have hu30 := Try.underlying30
 have HR0_2 := qd.mk hr0_2
 have HC0_2 := qd.mk hc0_2
 clear hr0_2 hc0_2
 have HR1 := qd.mk hr1
 have HC1 := qd.mk hc1
 clear hr1 hc1
 have HR2 := qd.mk hr2
 have HC2 := qd.mk hc2
 clear hr2 hc2
 have HB := qd.mk (Below.refl w.heap.size w)
 have H : (if (l1.length : Int) > 1048576 then (some true) else (if (l2.length : Int) > 1048576 then (some true) else ((laws_szCity.f a0_0 a0_1 l0_2 1048576).bind fun t274 => (if t274 < 0 then (some true) else ((laws_toCity.f k a0_0 a0_1 l0_2).bind fun bt275 => ((laws_toIntS.f k l1).bind fun t280 => ((laws_toIntS.f k l2).bind fun t283 => ((spec_BestToOpen.f k bt275.1 bt275.2.1 bt275.2.2 t280 t283).bind fun bt286 => ((laws_toCity.f k a0_0 a0_1 l0_2).bind fun bt292 => ((laws_toIntS.f k l1).bind fun t298 => ((laws_toIntS.f k l2).bind fun t301 => ((impl_BestToOpen.f k bt292.1 bt292.2.1 bt292.2.2 t298 t301).bind fun bt304 => ((laws_eqBlock.f bt304.1 bt304.2.1 bt304.2.2.1 bt286.1 bt286.2.1 bt286.2.2.1).bind fun t310 => (if t310 = true then (if bt304.2.2.2.1 = bt286.2.2.2.1 then (laws_FnExactBestToOpen.j0 k l1 l2 t298 t301 (bt304.2.2.2.2 != bt286.2.2.2.2) a0_0 a0_1 l0_2 bt292.1 bt292.2.1 bt292.2.2) else (laws_FnExactBestToOpen.j0 k l1 l2 t298 t301 true a0_0 a0_1 l0_2 bt292.1 bt292.2.1 bt292.2.2)) else (laws_FnExactBestToOpen.j0 k l1 l2 t298 t301 true a0_0 a0_1 l0_2 bt292.1 bt292.2.1 bt292.2.2))))))))))))))) = some r := h
 clear h
 by_cases c4 : (l1.length : Int) > 1048576
 ·rw [if_pos c4] at H
  have c4b0 : decide (1048576 < (l1.length : Int)) = true := decide_eq_true c4
  have c4b1 : decide (1048576 < l1.length) = true := decide_eq_true (by omega)
  clear c4
  obtain rfl := Option.some.inj H
  go_enter Try.func12, Try.ntmps12
  go_wp2_with (first | ((with_reducible refine za (N := 3) rfl ?_); refine qy ?hg (N := 3) ?hd (cs := #[.int .i64 a0_0, .int .i64 a0_1, .slice A0_2 l0_2.length c0_2]) (t := 24) ?hr ?_; (case hd => rfl); (case hg => rfl); (case hr => first | (go_simp; done) | (go_simp; rfl)); intro gb273 hg w5 hbox hb; have n0_ := qd.mk (qn (be0_ HB) hb); have n1_ := qd.mk (hbox); have n2_ := qd.mk ((by rw [hg]; exact (qm (be0_ HB)) : w.heap.size ≤ gb273)); have n3_ := qd.mk ((by rw [hg]; exact (qm (be0_ HB)) : w.heap.size ≤ gb273)); clear HB; have HB := n0_; have BK273 := n1_; have GW273 := n2_; have GE273 := n3_; clear n0_ n1_ n2_ n3_; clear hb hbox hg))
  go_ret
  exact ⟨by first | rfl | (simp [qq, qp] <;> rfl) | (simp [*, qq, qp] <;> rfl), be1_ HB GE273⟩
 ·rw [if_neg c4] at H
  have c4b0 : decide (1048576 < (l1.length : Int)) = false := decide_eq_false c4
  have c4b1 : decide (1048576 < l1.length) = false := decide_eq_false (by omega)
  clear c4
  by_cases c6 : (l2.length : Int) > 1048576
  ·rw [if_pos c6] at H
   have c6b0 : decide (1048576 < (l2.length : Int)) = true := decide_eq_true c6
   have c6b1 : decide (1048576 < l2.length) = true := decide_eq_true (by omega)
   clear c6
   obtain rfl := Option.some.inj H
   go_enter Try.func12, Try.ntmps12
   go_wp2_with (first | ((with_reducible refine za (N := 3) rfl ?_); refine qy ?hg (N := 3) ?hd (cs := #[.int .i64 a0_0, .int .i64 a0_1, .slice A0_2 l0_2.length c0_2]) (t := 24) ?hr ?_; (case hd => rfl); (case hg => rfl); (case hr => first | (go_simp; done) | (go_simp; rfl)); intro gb273 hg w7 hbox hb; have n0_ := qd.mk (qn (be0_ HB) hb); have n1_ := qd.mk (hbox); have n2_ := qd.mk ((by rw [hg]; exact (qm (be0_ HB)) : w.heap.size ≤ gb273)); have n3_ := qd.mk ((by rw [hg]; exact (qm (be0_ HB)) : w.heap.size ≤ gb273)); clear HB; have HB := n0_; have BK273 := n1_; have GW273 := n2_; have GE273 := n3_; clear n0_ n1_ n2_ n3_; clear hb hbox hg))
   go_ret
   exact ⟨by first | rfl | (simp [qq, qp] <;> rfl) | (simp [*, qq, qp] <;> rfl), be1_ HB GE273⟩
  ·rw [if_neg c6] at H
   have c6b0 : decide (1048576 < (l2.length : Int)) = false := decide_eq_false c6
   have c6b1 : decide (1048576 < l2.length) = false := decide_eq_false (by omega)
   clear c6
   replace H := Option.bind_eq_some_iff.mp H
   obtain ⟨t274, A80, H⟩ := H
   replace H : (if t274 < 0 then (some true) else ((laws_toCity.f k a0_0 a0_1 l0_2).bind fun bt275 => ((laws_toIntS.f k l1).bind fun t280 => ((laws_toIntS.f k l2).bind fun t283 => ((spec_BestToOpen.f k bt275.1 bt275.2.1 bt275.2.2 t280 t283).bind fun bt286 => ((laws_toCity.f k a0_0 a0_1 l0_2).bind fun bt292 => ((laws_toIntS.f k l1).bind fun t298 => ((laws_toIntS.f k l2).bind fun t301 => ((impl_BestToOpen.f k bt292.1 bt292.2.1 bt292.2.2 t298 t301).bind fun bt304 => ((laws_eqBlock.f bt304.1 bt304.2.1 bt304.2.2.1 bt286.1 bt286.2.1 bt286.2.2.1).bind fun t310 => (if t310 = true then (if bt304.2.2.2.1 = bt286.2.2.2.1 then (laws_FnExactBestToOpen.j0 k l1 l2 t298 t301 (bt304.2.2.2.2 != bt286.2.2.2.2) a0_0 a0_1 l0_2 bt292.1 bt292.2.1 bt292.2.2) else (laws_FnExactBestToOpen.j0 k l1 l2 t298 t301 true a0_0 a0_1 l0_2 bt292.1 bt292.2.1 bt292.2.2)) else (laws_FnExactBestToOpen.j0 k l1 l2 t298 t301 true a0_0 a0_1 l0_2 bt292.1 bt292.2.1 bt292.2.2)))))))))))) = some r := H
   have A8 := qd.mk A80
   clear A80
   by_cases c9 : t274 < 0
   ·rw [if_pos c9] at H
    have c9b0 : decide (t274 < 0) = true := decide_eq_true c9
    clear c9
    obtain rfl := Option.some.inj H
    go_enter Try.func12, Try.ntmps12
    go_wp2_with (first | ((with_reducible refine za (N := 3) rfl ?_); refine qy ?hg (N := 3) ?hd (cs := #[.int .i64 a0_0, .int .i64 a0_1, .slice A0_2 l0_2.length c0_2]) (t := 24) ?hr ?_; (case hd => rfl); (case hg => rfl); (case hr => first | (go_simp; done) | (go_simp; rfl)); intro gb273 hg w10 hbox hb; have n0_ := qd.mk (qn (be0_ HB) hb); have n1_ := qd.mk (hbox); have n2_ := qd.mk ((by rw [hg]; exact (qm (be0_ HB)) : w.heap.size ≤ gb273)); have n3_ := qd.mk ((by rw [hg]; exact (qm (be0_ HB)) : w.heap.size ≤ gb273)); clear HB; have HB := n0_; have BK273 := n1_; have GW273 := n2_; have GE273 := n3_; clear n0_ n1_ n2_ n3_; clear hb hbox hg; have hcz11_0 : w10.cell? ⟨gb273, 0, none⟩ = some (.int .i64 a0_0) := (qi BK273.out 0).trans rfl; have hcz11_1 : w10.cell? ⟨gb273, 1, none⟩ = some (.int .i64 a0_1) := (qi BK273.out 1).trans rfl; have hcz11_2 : w10.cell? ⟨gb273, 2, none⟩ = some (.slice A0_2 l0_2.length c0_2) := (qi BK273.out 2).trans rfl; have hfz11_0 := qj BK273.out 0; have hfz11_1 := qj BK273.out 1; have hfz11_2 := qj BK273.out 2) | ((with_reducible refine qw (f := 18) rfl ?_); refine zj (some 25) rfl rfl Try.func18 (by kernel_rfl) rfl #[.agg #[.int .i64 a0_0, .int .i64 a0_1, .slice A0_2 l0_2.length c0_2], .int .i64 1048576] rfl (by (try simp only [List.map_toArray, List.map_cons, List.map_nil]); first | done | rfl | (simp only [List.length_drop, List.length_take]; rfl)) ?_; (with_reducible refine (laws_szCity.calls a0_0 a0_1 _ _ l0_2 1048576 t274 _ ?side1 ?side2 A8.out).mono ?_); (case side1 => repeat (first | exact (Kd.zf HR0_2.out HB.out) | (with_reducible refine Kd.ze ?_ _) | (with_reducible refine Kd.zd ?_ _) | (with_reducible refine Kd.zh ?_))); (case side2 => exact HC0_2.out); rintro e w12 ⟨rfl, hb⟩; refine ⟨_, rfl, ?_⟩; have n0_ := qd.mk (ql (g := gb273) (o := .cells #[.int .i64 a0_0, .int .i64 a0_1, .slice A0_2 l0_2.length c0_2] 24 (0, 0)) (bk_ BK273) hb); have n1_ := qd.mk (qn (be1_ HB GE273) hb); clear BK273; clear HB; have BK273 := n0_; have HB := n1_; clear n0_ n1_; (try clear hb); (try clear hb2); (try clear hk); (try clear hi)))
    go_ret
    exact ⟨by first | rfl | (simp [qq, qp] <;> rfl) | (simp [*, qq, qp] <;> rfl), be1_ HB GE273⟩
   ·rw [if_neg c9] at H
    have c9b0 : decide (t274 < 0) = false := decide_eq_false c9
    clear c9
    replace H := Option.bind_eq_some_iff.mp H
    obtain ⟨⟨t275, t276, t277⟩, A130, H⟩ := H
    replace H : ((laws_toIntS.f k l1).bind fun t280 => ((laws_toIntS.f k l2).bind fun t283 => ((spec_BestToOpen.f k t275 t276 t277 t280 t283).bind fun bt286 => ((laws_toCity.f k a0_0 a0_1 l0_2).bind fun bt292 => ((laws_toIntS.f k l1).bind fun t298 => ((laws_toIntS.f k l2).bind fun t301 => ((impl_BestToOpen.f k bt292.1 bt292.2.1 bt292.2.2 t298 t301).bind fun bt304 => ((laws_eqBlock.f bt304.1 bt304.2.1 bt304.2.2.1 bt286.1 bt286.2.1 bt286.2.2.1).bind fun t310 => (if t310 = true then (if bt304.2.2.2.1 = bt286.2.2.2.1 then (laws_FnExactBestToOpen.j0 k l1 l2 t298 t301 (bt304.2.2.2.2 != bt286.2.2.2.2) a0_0 a0_1 l0_2 bt292.1 bt292.2.1 bt292.2.2) else (laws_FnExactBestToOpen.j0 k l1 l2 t298 t301 true a0_0 a0_1 l0_2 bt292.1 bt292.2.1 bt292.2.2)) else (laws_FnExactBestToOpen.j0 k l1 l2 t298 t301 true a0_0 a0_1 l0_2 bt292.1 bt292.2.1 bt292.2.2)))))))))) = some r := H
    have A13 := qd.mk A130
    clear A130
    replace H := Option.bind_eq_some_iff.mp H
    obtain ⟨t280, A140, H⟩ := H
    replace H : ((laws_toIntS.f k l2).bind fun t283 => ((spec_BestToOpen.f k t275 t276 t277 t280 t283).bind fun bt286 => ((laws_toCity.f k a0_0 a0_1 l0_2).bind fun bt292 => ((laws_toIntS.f k l1).bind fun t298 => ((laws_toIntS.f k l2).bind fun t301 => ((impl_BestToOpen.f k bt292.1 bt292.2.1 bt292.2.2 t298 t301).bind fun bt304 => ((laws_eqBlock.f bt304.1 bt304.2.1 bt304.2.2.1 bt286.1 bt286.2.1 bt286.2.2.1).bind fun t310 => (if t310 = true then (if bt304.2.2.2.1 = bt286.2.2.2.1 then (laws_FnExactBestToOpen.j0 k l1 l2 t298 t301 (bt304.2.2.2.2 != bt286.2.2.2.2) a0_0 a0_1 l0_2 bt292.1 bt292.2.1 bt292.2.2) else (laws_FnExactBestToOpen.j0 k l1 l2 t298 t301 true a0_0 a0_1 l0_2 bt292.1 bt292.2.1 bt292.2.2)) else (laws_FnExactBestToOpen.j0 k l1 l2 t298 t301 true a0_0 a0_1 l0_2 bt292.1 bt292.2.1 bt292.2.2))))))))) = some r := H
    have A14 := qd.mk A140
    clear A140
    replace H := Option.bind_eq_some_iff.mp H
    obtain ⟨t283, A150, H⟩ := H
    replace H : ((spec_BestToOpen.f k t275 t276 t277 t280 t283).bind fun bt286 => ((laws_toCity.f k a0_0 a0_1 l0_2).bind fun bt292 => ((laws_toIntS.f k l1).bind fun t298 => ((laws_toIntS.f k l2).bind fun t301 => ((impl_BestToOpen.f k bt292.1 bt292.2.1 bt292.2.2 t298 t301).bind fun bt304 => ((laws_eqBlock.f bt304.1 bt304.2.1 bt304.2.2.1 bt286.1 bt286.2.1 bt286.2.2.1).bind fun t310 => (if t310 = true then (if bt304.2.2.2.1 = bt286.2.2.2.1 then (laws_FnExactBestToOpen.j0 k l1 l2 t298 t301 (bt304.2.2.2.2 != bt286.2.2.2.2) a0_0 a0_1 l0_2 bt292.1 bt292.2.1 bt292.2.2) else (laws_FnExactBestToOpen.j0 k l1 l2 t298 t301 true a0_0 a0_1 l0_2 bt292.1 bt292.2.1 bt292.2.2)) else (laws_FnExactBestToOpen.j0 k l1 l2 t298 t301 true a0_0 a0_1 l0_2 bt292.1 bt292.2.1 bt292.2.2)))))))) = some r := H
    have A15 := qd.mk A150
    clear A150
    replace H := Option.bind_eq_some_iff.mp H
    obtain ⟨⟨t286, t287, t288, t289, t290⟩, A160, H⟩ := H
    replace H : ((laws_toCity.f k a0_0 a0_1 l0_2).bind fun bt292 => ((laws_toIntS.f k l1).bind fun t298 => ((laws_toIntS.f k l2).bind fun t301 => ((impl_BestToOpen.f k bt292.1 bt292.2.1 bt292.2.2 t298 t301).bind fun bt304 => ((laws_eqBlock.f bt304.1 bt304.2.1 bt304.2.2.1 t286 t287 t288).bind fun t310 => (if t310 = true then (if bt304.2.2.2.1 = t289 then (laws_FnExactBestToOpen.j0 k l1 l2 t298 t301 (bt304.2.2.2.2 != t290) a0_0 a0_1 l0_2 bt292.1 bt292.2.1 bt292.2.2) else (laws_FnExactBestToOpen.j0 k l1 l2 t298 t301 true a0_0 a0_1 l0_2 bt292.1 bt292.2.1 bt292.2.2)) else (laws_FnExactBestToOpen.j0 k l1 l2 t298 t301 true a0_0 a0_1 l0_2 bt292.1 bt292.2.1 bt292.2.2))))))) = some r := H
    have A16 := qd.mk A160
    clear A160
    replace H := Option.bind_eq_some_iff.mp H
    obtain ⟨⟨t292, t293, t294⟩, A170, H⟩ := H
    replace H : ((laws_toIntS.f k l1).bind fun t298 => ((laws_toIntS.f k l2).bind fun t301 => ((impl_BestToOpen.f k t292 t293 t294 t298 t301).bind fun bt304 => ((laws_eqBlock.f bt304.1 bt304.2.1 bt304.2.2.1 t286 t287 t288).bind fun t310 => (if t310 = true then (if bt304.2.2.2.1 = t289 then (laws_FnExactBestToOpen.j0 k l1 l2 t298 t301 (bt304.2.2.2.2 != t290) a0_0 a0_1 l0_2 t292 t293 t294) else (laws_FnExactBestToOpen.j0 k l1 l2 t298 t301 true a0_0 a0_1 l0_2 t292 t293 t294)) else (laws_FnExactBestToOpen.j0 k l1 l2 t298 t301 true a0_0 a0_1 l0_2 t292 t293 t294)))))) = some r := H
    have A17 := qd.mk A170
    clear A170
    replace H := Option.bind_eq_some_iff.mp H
    obtain ⟨t298, A180, H⟩ := H
    replace H : ((laws_toIntS.f k l2).bind fun t301 => ((impl_BestToOpen.f k t292 t293 t294 t298 t301).bind fun bt304 => ((laws_eqBlock.f bt304.1 bt304.2.1 bt304.2.2.1 t286 t287 t288).bind fun t310 => (if t310 = true then (if bt304.2.2.2.1 = t289 then (laws_FnExactBestToOpen.j0 k l1 l2 t298 t301 (bt304.2.2.2.2 != t290) a0_0 a0_1 l0_2 t292 t293 t294) else (laws_FnExactBestToOpen.j0 k l1 l2 t298 t301 true a0_0 a0_1 l0_2 t292 t293 t294)) else (laws_FnExactBestToOpen.j0 k l1 l2 t298 t301 true a0_0 a0_1 l0_2 t292 t293 t294))))) = some r := H
    have A18 := qd.mk A180
    clear A180
    replace H := Option.bind_eq_some_iff.mp H
    obtain ⟨t301, A190, H⟩ := H
    replace H : ((impl_BestToOpen.f k t292 t293 t294 t298 t301).bind fun bt304 => ((laws_eqBlock.f bt304.1 bt304.2.1 bt304.2.2.1 t286 t287 t288).bind fun t310 => (if t310 = true then (if bt304.2.2.2.1 = t289 then (laws_FnExactBestToOpen.j0 k l1 l2 t298 t301 (bt304.2.2.2.2 != t290) a0_0 a0_1 l0_2 t292 t293 t294) else (laws_FnExactBestToOpen.j0 k l1 l2 t298 t301 true a0_0 a0_1 l0_2 t292 t293 t294)) else (laws_FnExactBestToOpen.j0 k l1 l2 t298 t301 true a0_0 a0_1 l0_2 t292 t293 t294)))) = some r := H
    have A19 := qd.mk A190
    clear A190
    replace H := Option.bind_eq_some_iff.mp H
    obtain ⟨⟨t304, t305, t306, t307, t308⟩, A200, H⟩ := H
    replace H : ((laws_eqBlock.f t304 t305 t306 t286 t287 t288).bind fun t310 => (if t310 = true then (if t307 = t289 then (laws_FnExactBestToOpen.j0 k l1 l2 t298 t301 (t308 != t290) a0_0 a0_1 l0_2 t292 t293 t294) else (laws_FnExactBestToOpen.j0 k l1 l2 t298 t301 true a0_0 a0_1 l0_2 t292 t293 t294)) else (laws_FnExactBestToOpen.j0 k l1 l2 t298 t301 true a0_0 a0_1 l0_2 t292 t293 t294))) = some r := H
    have A20 := qd.mk A200
    clear A200
    have HC21 := qd.mk H
    clear H
    go_enter Try.func12, Try.ntmps12
    go_upto_region 14 with (first | ((with_reducible refine za (N := 3) rfl ?_); refine qy ?hg (N := 3) ?hd (cs := #[.int .i64 a0_0, .int .i64 a0_1, .slice A0_2 l0_2.length c0_2]) (t := 24) ?hr ?_; (case hd => rfl); (case hg => rfl); (case hr => first | (go_simp; done) | (go_simp; rfl)); intro gb273 hg w22 hbox hb; have n0_ := qd.mk (qn (be0_ HB) hb); have n1_ := qd.mk (hbox); have n2_ := qd.mk ((by rw [hg]; exact (qm (be0_ HB)) : w.heap.size ≤ gb273)); have n3_ := qd.mk ((by rw [hg]; exact (qm (be0_ HB)) : w.heap.size ≤ gb273)); clear HB; have HB := n0_; have BK273 := n1_; have GW273 := n2_; have GE273 := n3_; clear n0_ n1_ n2_ n3_; clear hb hbox hg; have hcz23_0 : w22.cell? ⟨gb273, 0, none⟩ = some (.int .i64 a0_0) := (qi BK273.out 0).trans rfl; have hcz23_1 : w22.cell? ⟨gb273, 1, none⟩ = some (.int .i64 a0_1) := (qi BK273.out 1).trans rfl; have hcz23_2 : w22.cell? ⟨gb273, 2, none⟩ = some (.slice A0_2 l0_2.length c0_2) := (qi BK273.out 2).trans rfl; have hfz23_0 := qj BK273.out 0; have hfz23_1 := qj BK273.out 1; have hfz23_2 := qj BK273.out 2) | ((with_reducible refine qw (f := 18) rfl ?_); refine zj (some 25) rfl rfl Try.func18 (by kernel_rfl) rfl #[.agg #[.int .i64 a0_0, .int .i64 a0_1, .slice A0_2 l0_2.length c0_2], .int .i64 1048576] rfl (by (try simp only [List.map_toArray, List.map_cons, List.map_nil]); first | done | rfl | (simp only [List.length_drop, List.length_take]; rfl)) ?_; (with_reducible refine (laws_szCity.calls a0_0 a0_1 _ _ l0_2 1048576 t274 _ ?side1 ?side2 A8.out).mono ?_); (case side1 => repeat (first | exact (Kd.zf HR0_2.out HB.out) | (with_reducible refine Kd.ze ?_ _) | (with_reducible refine Kd.zd ?_ _) | (with_reducible refine Kd.zh ?_))); (case side2 => exact HC0_2.out); rintro e w24 ⟨rfl, hb⟩; refine ⟨_, rfl, ?_⟩; have n0_ := qd.mk (ql (g := gb273) (o := .cells #[.int .i64 a0_0, .int .i64 a0_1, .slice A0_2 l0_2.length c0_2] 24 (0, 0)) (bk_ BK273) hb); have n1_ := qd.mk (qn (be1_ HB GE273) hb); clear BK273; clear HB; have BK273 := n0_; have HB := n1_; clear n0_ n1_; (try clear hb); (try clear hb2); (try clear hk); (try clear hi); have hcz25_0 : w24.cell? ⟨gb273, 0, none⟩ = some (.int .i64 a0_0) := (qi BK273.out 0).trans rfl; have hcz25_1 : w24.cell? ⟨gb273, 1, none⟩ = some (.int .i64 a0_1) := (qi BK273.out 1).trans rfl; have hcz25_2 : w24.cell? ⟨gb273, 2, none⟩ = some (.slice A0_2 l0_2.length c0_2) := (qi BK273.out 2).trans rfl; have hfz25_0 := qj BK273.out 0; have hfz25_1 := qj BK273.out 1; have hfz25_2 := qj BK273.out 2) | ((with_reducible refine qw (f := 20) rfl ?_); refine zj (some 30) rfl rfl Try.func20 (by kernel_rfl) rfl #[.agg #[.int .i64 a0_0, .int .i64 a0_1, .slice A0_2 l0_2.length c0_2]] rfl (by (try simp only [List.map_toArray, List.map_cons, List.map_nil]); first | done | rfl | (simp only [List.length_drop, List.length_take]; rfl)) ?_; (with_reducible refine (laws_toCity.calls k a0_0 a0_1 _ _ l0_2 t275 t276 t277 _ ?side1 ?side2 A13.out).mono ?_); (case side1 => repeat (first | exact (Kd.zf HR0_2.out HB.out) | (with_reducible refine Kd.ze ?_ _) | (with_reducible refine Kd.zd ?_ _) | (with_reducible refine Kd.zh ?_))); (case side2 => exact HC0_2.out); rintro e w26 ⟨v278, rfl, ho0, hb⟩; refine ⟨_, rfl, ?_⟩; have n0_ := qd.mk (Kd.zq ho0 (qm (be1_ HB GE273))); have n1_ := qd.mk (ql (g := gb273) (o := .cells #[.int .i64 a0_0, .int .i64 a0_1, .slice A0_2 l0_2.length c0_2] 24 (0, 0)) (bk_ BK273) hb); have n2_ := qd.mk (qn (be1_ HB GE273) hb); clear BK273; clear HB; have HO279 := n0_; have BK273 := n1_; have HB := n2_; clear n0_ n1_ n2_; (try clear hb); (try clear hb2); (try clear hk); (try clear hi); (try clear ho0)) | ((with_reducible refine qw (f := 29) rfl ?_); refine zj (some 32) rfl rfl Try.func29 (by kernel_rfl) rfl #[.slice A1 l1.length c1] rfl (by (try simp only [List.map_toArray, List.map_cons, List.map_nil]); first | done | rfl | (simp only [List.length_drop, List.length_take]; rfl)) ?_; (with_reducible refine (laws_toIntS.calls k _ _ l1 t280 _ ?side1 ?side2 A14.out).mono ?_); (case side1 => repeat (first | exact (Kd.zf HR1.out HB.out) | (with_reducible refine Kd.ze ?_ _) | (with_reducible refine Kd.zd ?_ _) | (with_reducible refine Kd.zh ?_))); (case side2 => exact HC1.out); rintro e w27 ⟨v281, rfl, ho0, hb⟩; refine ⟨_, rfl, ?_⟩; have n0_ := qd.mk (Kd.zc (kr_ HO279) hb); have n1_ := qd.mk (Kd.zq ho0 (qm (be1_ HB GE273))); have n2_ := qd.mk (ql (g := gb273) (o := .cells #[.int .i64 a0_0, .int .i64 a0_1, .slice A0_2 l0_2.length c0_2] 24 (0, 0)) (bk_ BK273) hb); have n3_ := qd.mk (qn (be1_ HB GE273) hb); clear HO279; clear BK273; clear HB; have HO279 := n0_; have HO282 := n1_; have BK273 := n2_; have HB := n3_; clear n0_ n1_ n2_ n3_; (try clear hb); (try clear hb2); (try clear hk); (try clear hi); (try clear ho0)) | ((with_reducible refine qw (f := 29) rfl ?_); refine zj (some 34) rfl rfl Try.func29 (by kernel_rfl) rfl #[.slice A2 l2.length c2] rfl (by (try simp only [List.map_toArray, List.map_cons, List.map_nil]); first | done | rfl | (simp only [List.length_drop, List.length_take]; rfl)) ?_; (with_reducible refine (laws_toIntS.calls k _ _ l2 t283 _ ?side1 ?side2 A15.out).mono ?_); (case side1 => repeat (first | exact (Kd.zf HR2.out HB.out) | (with_reducible refine Kd.ze ?_ _) | (with_reducible refine Kd.zd ?_ _) | (with_reducible refine Kd.zh ?_))); (case side2 => exact HC2.out); rintro e w28 ⟨v284, rfl, ho0, hb⟩; refine ⟨_, rfl, ?_⟩; have n0_ := qd.mk (Kd.zc (kr_ HO279) hb); have n1_ := qd.mk (Kd.zw (kr_ HO282) (Kd.zx ho0) hb); have n2_ := qd.mk (Kd.zq (Kd.jh ho0 (Kd.R_lt (kr_ HO282))) (qm (be1_ HB GE273))); have n3_ := qd.mk (ql (g := gb273) (o := .cells #[.int .i64 a0_0, .int .i64 a0_1, .slice A0_2 l0_2.length c0_2] 24 (0, 0)) (bk_ BK273) hb); have n4_ := qd.mk (qn (be1_ HB GE273) hb); clear HO279; clear HO282; clear BK273; clear HB; have HO279 := n0_; have HO282 := n1_; have HO285 := n2_; have BK273 := n3_; have HB := n4_; clear n0_ n1_ n2_ n3_ n4_; (try clear hb); (try clear hb2); (try clear hk); (try clear hi); (try clear ho0); obtain ⟨Ao29, co29, eo29⟩ := Kd.zr HO279.out; subst eo29; obtain ⟨Ao30, co30, eo30⟩ := Kd.zr HO282.out; subst eo30; obtain ⟨Ao31, co31, eo31⟩ := Kd.zr HO285.out; subst eo31) | ((with_reducible refine qw (f := 46) rfl ?_); refine zj (some 35) rfl rfl Try.func46 (by kernel_rfl) rfl #[.agg #[.int .i64 t275, .int .i64 t276, .slice Ao29 t277.length co29], .slice Ao30 t280.length co30, .slice Ao31 t283.length co31] rfl (by (try simp only [List.map_toArray, List.map_cons, List.map_nil]); first | done | rfl | (simp only [List.length_drop, List.length_take]; rfl)) ?_; (with_reducible refine (spec_BestToOpen.calls k t275 t276 _ _ t277 _ _ t280 _ _ t283 t286 t287 t288 t289 t290 _ ?side1 ?side2 ?side3 ?side4 ?side5 ?side6 A16.out).mono ?_); (case side1 => repeat (first | exact (Kd.zb HO279.out).2.2 | (with_reducible refine Kd.ze ?_ _) | (with_reducible refine Kd.zd ?_ _) | (with_reducible refine Kd.zh ?_))); (case side2 => exact (Kd.zb HO279.out).2.1); (case side3 => repeat (first | exact (Kd.zb HO282.out).2.2 | (with_reducible refine Kd.ze ?_ _) | (with_reducible refine Kd.zd ?_ _) | (with_reducible refine Kd.zh ?_))); (case side4 => exact (Kd.zb HO282.out).2.1); (case side5 => repeat (first | exact (Kd.zb HO285.out).2.2 | (with_reducible refine Kd.ze ?_ _) | (with_reducible refine Kd.zd ?_ _) | (with_reducible refine Kd.zh ?_))); (case side6 => exact (Kd.zb HO285.out).2.1); rintro e w32 ⟨rfl, hb⟩; refine ⟨_, rfl, ?_⟩; have n0_ := qd.mk (Kd.zc (kr_ HO279) hb); have n1_ := qd.mk (Kd.zc (kr_ HO282) hb); have n2_ := qd.mk (Kd.zc (kr_ HO285) hb); have n3_ := qd.mk (ql (g := gb273) (o := .cells #[.int .i64 a0_0, .int .i64 a0_1, .slice A0_2 l0_2.length c0_2] 24 (0, 0)) (bk_ BK273) hb); have n4_ := qd.mk (qn (be1_ HB GE273) hb); clear HO279; clear HO282; clear HO285; clear BK273; clear HB; have HO279 := n0_; have HO282 := n1_; have HO285 := n2_; have BK273 := n3_; have HB := n4_; clear n0_ n1_ n2_ n3_ n4_; (try clear hb); (try clear hb2); (try clear hk); (try clear hi)) | ((with_reducible refine za (N := 8) rfl ?_); refine qy ?hg (N := 8) ?hd (cs := #[.int .i64 0, .int .i64 0, .bool false]) (t := 38) ?hr ?_; (case hd => rfl); (case hg => rfl); (case hr => first | (go_simp; done) | (go_simp; rfl)); intro gb291 hg w33 hbox hb; have n0_ := qd.mk (Kd.zc (Kd.R_elderB (kr_ HO279) gb291 (Nat.le_of_eq hg.symm)) hb); have n1_ := qd.mk (Kd.zc (kr_ HO282) hb); have n2_ := qd.mk (Kd.zc (kr_ HO285) hb); have n3_ := qd.mk (ql (g := gb273) (o := .cells #[.int .i64 a0_0, .int .i64 a0_1, .slice A0_2 l0_2.length c0_2] 24 (0, 0)) (bk_ BK273) hb); have n4_ := qd.mk (qn (be1_ HB GE273) hb); have n5_ := qd.mk (hbox); have n6_ := qd.mk ((by rw [hg]; exact (qm (be1_ HB GE273)) : w.heap.size ≤ gb291)); have n7_ := qd.mk ((by rw [hg]; exact (qm (be1_ HB GE273)) : w.heap.size ≤ gb291)); have n8_ := qd.mk ((by rw [hg]; exact Nat.ne_of_lt (qr (g := gb273) (o := .cells #[.int .i64 a0_0, .int .i64 a0_1, .slice A0_2 l0_2.length c0_2] 24 (0, 0)) (bk_ BK273)) : gb273 ≠ gb291)); have n9_ := qd.mk ((by rw [hg]; exact Nat.ne_of_gt (qr (g := gb273) (o := .cells #[.int .i64 a0_0, .int .i64 a0_1, .slice A0_2 l0_2.length c0_2] 24 (0, 0)) (bk_ BK273)) : gb291 ≠ gb273)); clear HO279; clear HO282; clear HO285; clear BK273; clear HB; have HO279 := n0_; have HO282 := n1_; have HO285 := n2_; have BK273 := n3_; have HB := n4_; have BK291 := n5_; have GW291 := n6_; have GE291 := n7_; have NB273_291 := n8_; have NB291_273 := n9_; clear n0_ n1_ n2_ n3_ n4_ n5_ n6_ n7_ n8_ n9_; clear hb hbox hg; have hnb34 := NB291_273.out; have hnc34 := NB273_291.out; have hcz35_0 : w33.cell? ⟨gb291, 0, none⟩ = some (.int .i64 0) := (qi BK291.out 0).trans rfl; have hcz35_1 : w33.cell? ⟨gb291, 1, none⟩ = some (.int .i64 0) := (qi BK291.out 1).trans rfl; have hcz35_2 : w33.cell? ⟨gb291, 2, none⟩ = some (.bool false) := (qi BK291.out 2).trans rfl; have hfz35_0 := qj BK291.out 0; have hfz35_1 := qj BK291.out 1; have hfz35_2 := qj BK291.out 2; have hcz36_0 : w33.cell? ⟨gb273, 0, none⟩ = some (.int .i64 a0_0) := (qi BK273.out 0).trans rfl; have hcz36_1 : w33.cell? ⟨gb273, 1, none⟩ = some (.int .i64 a0_1) := (qi BK273.out 1).trans rfl; have hcz36_2 : w33.cell? ⟨gb273, 2, none⟩ = some (.slice A0_2 l0_2.length c0_2) := (qi BK273.out 2).trans rfl; have hfz36_0 := qj BK273.out 0; have hfz36_1 := qj BK273.out 1; have hfz36_2 := qj BK273.out 2) | ((with_reducible refine qw (f := 20) rfl ?_); refine zj (some 40) rfl rfl Try.func20 (by kernel_rfl) rfl #[.agg #[.int .i64 a0_0, .int .i64 a0_1, .slice A0_2 l0_2.length c0_2]] rfl (by (try simp only [List.map_toArray, List.map_cons, List.map_nil]); first | done | rfl | (simp only [List.length_drop, List.length_take]; rfl)) ?_; (with_reducible refine (laws_toCity.calls k a0_0 a0_1 _ _ l0_2 t292 t293 t294 _ ?side1 ?side2 A17.out).mono ?_); (case side1 => exact Kd.zf HR0_2.out (be2_ HB GE273 GE291)); (case side2 => exact HC0_2.out); rintro e w37 ⟨v295, rfl, ho0, hb⟩; refine ⟨_, rfl, ?_⟩; have n0_ := qd.mk (Kd.zw (by (with_reducible repeat (first | apply Kd.qt | apply Kd.qu | apply Kd.qx)); exact (Kd.zm (Kd.R_far (p := ⟨gb291, 2, none⟩) (Kd.R_far (p := ⟨gb291, 1, none⟩) (Kd.R_far (p := ⟨gb291, 0, none⟩) (Kd.zm HO279.out (fun k_ hk => (⟨hk, hk.2⟩ : _ ∧ k_ ≠ gb291))) (fun _ hk => hk.2) (.int .i64 t286)) (fun _ hk => hk.2) (.int .i64 t287)) (fun _ hk => hk.2) (.bool t288)) (fun _ h_ => h_.1))) (Kd.zx ho0) hb); have n1_ := qd.mk (Kd.zc (by (with_reducible repeat (first | apply Kd.qt | apply Kd.qu | apply Kd.qx)); exact (Kd.zm (Kd.R_far (p := ⟨gb291, 2, none⟩) (Kd.R_far (p := ⟨gb291, 1, none⟩) (Kd.R_far (p := ⟨gb291, 0, none⟩) (Kd.zz HO282.out BK291.out (by decide)) (fun _ hk => hk.2) (.int .i64 t286)) (fun _ hk => hk.2) (.int .i64 t287)) (fun _ hk => hk.2) (.bool t288)) (fun _ h_ => h_.1))) hb); have n2_ := qd.mk (Kd.zc (by (with_reducible repeat (first | apply Kd.qt | apply Kd.qu | apply Kd.qx)); exact (Kd.zm (Kd.R_far (p := ⟨gb291, 2, none⟩) (Kd.R_far (p := ⟨gb291, 1, none⟩) (Kd.R_far (p := ⟨gb291, 0, none⟩) (Kd.zz HO285.out BK291.out (by decide)) (fun _ hk => hk.2) (.int .i64 t286)) (fun _ hk => hk.2) (.int .i64 t287)) (fun _ hk => hk.2) (.bool t288)) (fun _ h_ => h_.1))) hb); have n3_ := qd.mk (Kd.zq (Kd.jg (Kd.jh ho0 (Kd.R_lt (by (with_reducible repeat (first | apply Kd.qt | apply Kd.qu | apply Kd.qx)); exact (Kd.zm (Kd.R_far (p := ⟨gb291, 2, none⟩) (Kd.R_far (p := ⟨gb291, 1, none⟩) (Kd.R_far (p := ⟨gb291, 0, none⟩) (Kd.zm HO279.out (fun k_ hk => (⟨hk, hk.2⟩ : _ ∧ k_ ≠ gb291))) (fun _ hk => hk.2) (.int .i64 t286)) (fun _ hk => hk.2) (.int .i64 t287)) (fun _ hk => hk.2) (.bool t288)) (fun _ h_ => h_.1))))) (g := gb291) (o := .cells #[.int .i64 t286, .int .i64 t287, .bool t288] 38 (0, 0)) (by (with_reducible repeat (first | refine qc ?_ _ | refine qe ?_ | refine qb ?_ _)); refine qv (cs := #[.int .i64 t286, .int .i64 t287, .bool false]) ?_ 2 _ rfl; (with_reducible repeat (first | refine qc ?_ _ | refine qe ?_ | refine qb ?_ _)); refine qv (cs := #[.int .i64 t286, .int .i64 0, .bool false]) ?_ 1 _ rfl; (with_reducible repeat (first | refine qc ?_ _ | refine qe ?_ | refine qb ?_ _)); refine qv (cs := #[.int .i64 0, .int .i64 0, .bool false]) ?_ 0 _ rfl; (with_reducible repeat (first | refine qc ?_ _ | refine qe ?_ | refine qb ?_ _)); exact BK291.out)) (qm (be2_ HB GE273 GE291))); have n4_ := qd.mk (ql (g := gb273) (o := .cells #[.int .i64 a0_0, .int .i64 a0_1, .slice A0_2 l0_2.length c0_2] 24 (0, 0)) (by (with_reducible repeat (first | refine qc ?_ _ | refine qe ?_ | refine qb ?_ _)); refine qo ?_ NB273_291.out _; (with_reducible repeat (first | refine qc ?_ _ | refine qe ?_ | refine qb ?_ _)); refine qo ?_ NB273_291.out _; (with_reducible repeat (first | refine qc ?_ _ | refine qe ?_ | refine qb ?_ _)); refine qo ?_ NB273_291.out _; (with_reducible repeat (first | refine qc ?_ _ | refine qe ?_ | refine qb ?_ _)); exact BK273.out) hb); have n5_ := qd.mk (ql (g := gb291) (o := .cells #[.int .i64 t286, .int .i64 t287, .bool t288] 38 (0, 0)) (by (with_reducible repeat (first | refine qc ?_ _ | refine qe ?_ | refine qb ?_ _)); refine qv (cs := #[.int .i64 t286, .int .i64 t287, .bool false]) ?_ 2 _ rfl; (with_reducible repeat (first | refine qc ?_ _ | refine qe ?_ | refine qb ?_ _)); refine qv (cs := #[.int .i64 t286, .int .i64 0, .bool false]) ?_ 1 _ rfl; (with_reducible repeat (first | refine qc ?_ _ | refine qe ?_ | refine qb ?_ _)); refine qv (cs := #[.int .i64 0, .int .i64 0, .bool false]) ?_ 0 _ rfl; (with_reducible repeat (first | refine qc ?_ _ | refine qe ?_ | refine qb ?_ _)); exact BK291.out) hb); have n6_ := qd.mk (qn (be2_ HB GE273 GE291) hb); clear HO279; clear HO282; clear HO285; clear BK273; clear BK291; clear HB; have HO279 := n0_; have HO282 := n1_; have HO285 := n2_; have HO296 := n3_; have BK273 := n4_; have BK291 := n5_; have HB := n6_; clear n0_ n1_ n2_ n3_ n4_ n5_ n6_; (try clear hb); (try clear hb2); (try clear hk); (try clear hi); (try clear ho0)) | ((with_reducible refine za (N := 11) rfl ?_); refine qy ?hg (N := 11) ?hd (cs := #[.int .i64 0, .int .i64 0, .slice none 0 0]) (t := 30) ?hr ?_; (case hd => rfl); (case hg => rfl); (case hr => first | (go_simp; done) | (go_simp; rfl)); intro gb297 hg w38 hbox hb; have n0_ := qd.mk (Kd.zc (kr_ HO279) hb); have n1_ := qd.mk (Kd.zc (kr_ HO282) hb); have n2_ := qd.mk (Kd.zc (kr_ HO285) hb); have n3_ := qd.mk (Kd.zc (kr_ HO296) hb); have n4_ := qd.mk (ql (g := gb273) (o := .cells #[.int .i64 a0_0, .int .i64 a0_1, .slice A0_2 l0_2.length c0_2] 24 (0, 0)) (bk_ BK273) hb); have n5_ := qd.mk (ql (g := gb291) (o := .cells #[.int .i64 t286, .int .i64 t287, .bool t288] 38 (0, 0)) (bk_ BK291) hb); have n6_ := qd.mk (qn (be2_ HB GE273 GE291) hb); have n7_ := qd.mk (hbox); have n8_ := qd.mk ((by rw [hg]; exact (qm (be2_ HB GE273 GE291)) : w.heap.size ≤ gb297)); have n9_ := qd.mk ((by rw [hg]; exact (qm (be2_ HB GE273 GE291)) : w.heap.size ≤ gb297)); have n10_ := qd.mk ((by rw [hg]; exact Nat.ne_of_lt (qr (g := gb273) (o := .cells #[.int .i64 a0_0, .int .i64 a0_1, .slice A0_2 l0_2.length c0_2] 24 (0, 0)) (bk_ BK273)) : gb273 ≠ gb297)); have n11_ := qd.mk ((by rw [hg]; exact Nat.ne_of_gt (qr (g := gb273) (o := .cells #[.int .i64 a0_0, .int .i64 a0_1, .slice A0_2 l0_2.length c0_2] 24 (0, 0)) (bk_ BK273)) : gb297 ≠ gb273)); have n12_ := qd.mk ((by rw [hg]; exact Nat.ne_of_lt (qr (g := gb291) (o := .cells #[.int .i64 t286, .int .i64 t287, .bool t288] 38 (0, 0)) (bk_ BK291)) : gb291 ≠ gb297)); have n13_ := qd.mk ((by rw [hg]; exact Nat.ne_of_gt (qr (g := gb291) (o := .cells #[.int .i64 t286, .int .i64 t287, .bool t288] 38 (0, 0)) (bk_ BK291)) : gb297 ≠ gb291)); clear HO279; clear HO282; clear HO285; clear HO296; clear BK273; clear BK291; clear HB; have HO279 := n0_; have HO282 := n1_; have HO285 := n2_; have HO296 := n3_; have BK273 := n4_; have BK291 := n5_; have HB := n6_; have BK297 := n7_; have GW297 := n8_; have GE297 := n9_; have NB273_297 := n10_; have NB297_273 := n11_; have NB291_297 := n12_; have NB297_291 := n13_; clear n0_ n1_ n2_ n3_ n4_ n5_ n6_ n7_ n8_ n9_ n10_ n11_ n12_ n13_; clear hb hbox hg; have hnb39 := NB297_273.out; have hnc39 := NB273_297.out; have hnb40 := NB297_291.out; have hnc40 := NB291_297.out; have hcz41_0 : w38.cell? ⟨gb297, 0, none⟩ = some (.int .i64 0) := (qi BK297.out 0).trans rfl; have hcz41_1 : w38.cell? ⟨gb297, 1, none⟩ = some (.int .i64 0) := (qi BK297.out 1).trans rfl; have hcz41_2 : w38.cell? ⟨gb297, 2, none⟩ = some (.slice none 0 0) := (qi BK297.out 2).trans rfl; have hfz41_0 := qj BK297.out 0; have hfz41_1 := qj BK297.out 1; have hfz41_2 := qj BK297.out 2; obtain ⟨Ao42, co42, eo42⟩ := Kd.zr HO296.out; subst eo42) | ((with_reducible refine qw (f := 29) rfl ?_); refine zj (some 42) rfl rfl Try.func29 (by kernel_rfl) rfl #[.slice A1 l1.length c1] rfl (by (try simp only [List.map_toArray, List.map_cons, List.map_nil]); first | done | rfl | (simp only [List.length_drop, List.length_take]; rfl)) ?_; (with_reducible refine (laws_toIntS.calls k _ _ l1 t298 _ ?side1 ?side2 A18.out).mono ?_); (case side1 => exact Kd.zf HR1.out (be3_ HB GE273 GE291 GE297)); (case side2 => exact HC1.out); rintro e w43 ⟨v299, rfl, ho0, hb⟩; refine ⟨_, rfl, ?_⟩; have n0_ := qd.mk (Kd.zc (by (with_reducible repeat (first | apply Kd.qt | apply Kd.qu | apply Kd.qx)); exact (Kd.zm (Kd.R_far (p := ⟨gb297, 2, none⟩) (Kd.R_far (p := ⟨gb297, 1, none⟩) (Kd.R_far (p := ⟨gb297, 0, none⟩) (Kd.zz HO279.out BK297.out (by decide)) (fun _ hk => hk.2) (.int .i64 t292)) (fun _ hk => hk.2) (.int .i64 t293)) (fun _ hk => hk.2) (.slice Ao42 t294.length co42)) (fun _ h_ => h_.1))) hb); have n1_ := qd.mk (Kd.zw (by (with_reducible repeat (first | apply Kd.qt | apply Kd.qu | apply Kd.qx)); exact (Kd.zm (Kd.R_far (p := ⟨gb297, 2, none⟩) (Kd.R_far (p := ⟨gb297, 1, none⟩) (Kd.R_far (p := ⟨gb297, 0, none⟩) (Kd.zz HO282.out BK297.out (by decide)) (fun _ hk => hk.2) (.int .i64 t292)) (fun _ hk => hk.2) (.int .i64 t293)) (fun _ hk => hk.2) (.slice Ao42 t294.length co42)) (fun _ h_ => h_.1))) (Kd.zx ho0) hb); have n2_ := qd.mk (Kd.zw (by (with_reducible repeat (first | apply Kd.qt | apply Kd.qu | apply Kd.qx)); exact (Kd.zm (Kd.R_far (p := ⟨gb297, 2, none⟩) (Kd.R_far (p := ⟨gb297, 1, none⟩) (Kd.R_far (p := ⟨gb297, 0, none⟩) (Kd.zz HO285.out BK297.out (by decide)) (fun _ hk => hk.2) (.int .i64 t292)) (fun _ hk => hk.2) (.int .i64 t293)) (fun _ hk => hk.2) (.slice Ao42 t294.length co42)) (fun _ h_ => h_.1))) (Kd.zx ho0) hb); have n3_ := qd.mk (Kd.zc (by (with_reducible repeat (first | apply Kd.qt | apply Kd.qu | apply Kd.qx)); exact (Kd.zm (Kd.R_far (p := ⟨gb297, 2, none⟩) (Kd.R_far (p := ⟨gb297, 1, none⟩) (Kd.R_far (p := ⟨gb297, 0, none⟩) (Kd.zz HO296.out BK297.out (by decide)) (fun _ hk => hk.2) (.int .i64 t292)) (fun _ hk => hk.2) (.int .i64 t293)) (fun _ hk => hk.2) (.slice Ao42 t294.length co42)) (fun _ h_ => h_.1))) hb); have n4_ := qd.mk (Kd.zq (Kd.jh (Kd.jh ho0 (Kd.R_lt (by (with_reducible repeat (first | apply Kd.qt | apply Kd.qu | apply Kd.qx)); exact (Kd.zm (Kd.R_far (p := ⟨gb297, 2, none⟩) (Kd.R_far (p := ⟨gb297, 1, none⟩) (Kd.R_far (p := ⟨gb297, 0, none⟩) (Kd.zz HO282.out BK297.out (by decide)) (fun _ hk => hk.2) (.int .i64 t292)) (fun _ hk => hk.2) (.int .i64 t293)) (fun _ hk => hk.2) (.slice Ao42 t294.length co42)) (fun _ h_ => h_.1))))) (Kd.R_lt (by (with_reducible repeat (first | apply Kd.qt | apply Kd.qu | apply Kd.qx)); exact (Kd.zm (Kd.R_far (p := ⟨gb297, 2, none⟩) (Kd.R_far (p := ⟨gb297, 1, none⟩) (Kd.R_far (p := ⟨gb297, 0, none⟩) (Kd.zz HO285.out BK297.out (by decide)) (fun _ hk => hk.2) (.int .i64 t292)) (fun _ hk => hk.2) (.int .i64 t293)) (fun _ hk => hk.2) (.slice Ao42 t294.length co42)) (fun _ h_ => h_.1))))) (qm (be3_ HB GE273 GE291 GE297))); have n5_ := qd.mk (ql (g := gb273) (o := .cells #[.int .i64 a0_0, .int .i64 a0_1, .slice A0_2 l0_2.length c0_2] 24 (0, 0)) (by (with_reducible repeat (first | refine qc ?_ _ | refine qe ?_ | refine qb ?_ _)); refine qo ?_ NB273_297.out _; (with_reducible repeat (first | refine qc ?_ _ | refine qe ?_ | refine qb ?_ _)); refine qo ?_ NB273_297.out _; (with_reducible repeat (first | refine qc ?_ _ | refine qe ?_ | refine qb ?_ _)); refine qo ?_ NB273_297.out _; (with_reducible repeat (first | refine qc ?_ _ | refine qe ?_ | refine qb ?_ _)); exact BK273.out) hb); have n6_ := qd.mk (ql (g := gb291) (o := .cells #[.int .i64 t286, .int .i64 t287, .bool t288] 38 (0, 0)) (by (with_reducible repeat (first | refine qc ?_ _ | refine qe ?_ | refine qb ?_ _)); refine qo ?_ NB291_297.out _; (with_reducible repeat (first | refine qc ?_ _ | refine qe ?_ | refine qb ?_ _)); refine qo ?_ NB291_297.out _; (with_reducible repeat (first | refine qc ?_ _ | refine qe ?_ | refine qb ?_ _)); refine qo ?_ NB291_297.out _; (with_reducible repeat (first | refine qc ?_ _ | refine qe ?_ | refine qb ?_ _)); exact BK291.out) hb); have n7_ := qd.mk (ql (g := gb297) (o := .cells #[.int .i64 t292, .int .i64 t293, .slice Ao42 t294.length co42] 30 (0, 0)) (by (with_reducible repeat (first | refine qc ?_ _ | refine qe ?_ | refine qb ?_ _)); refine qv (cs := #[.int .i64 t292, .int .i64 t293, .slice none 0 0]) ?_ 2 _ rfl; (with_reducible repeat (first | refine qc ?_ _ | refine qe ?_ | refine qb ?_ _)); refine qv (cs := #[.int .i64 t292, .int .i64 0, .slice none 0 0]) ?_ 1 _ rfl; (with_reducible repeat (first | refine qc ?_ _ | refine qe ?_ | refine qb ?_ _)); refine qv (cs := #[.int .i64 0, .int .i64 0, .slice none 0 0]) ?_ 0 _ rfl; (with_reducible repeat (first | refine qc ?_ _ | refine qe ?_ | refine qb ?_ _)); exact BK297.out) hb); have n8_ := qd.mk (qn (be3_ HB GE273 GE291 GE297) hb); clear HO279; clear HO282; clear HO285; clear HO296; clear BK273; clear BK291; clear BK297; clear HB; have HO279 := n0_; have HO282 := n1_; have HO285 := n2_; have HO296 := n3_; have HO300 := n4_; have BK273 := n5_; have BK291 := n6_; have BK297 := n7_; have HB := n8_; clear n0_ n1_ n2_ n3_ n4_ n5_ n6_ n7_ n8_; (try clear hb); (try clear hb2); (try clear hk); (try clear hi); (try clear ho0)) | ((with_reducible refine qw (f := 29) rfl ?_); refine zj (some 44) rfl rfl Try.func29 (by kernel_rfl) rfl #[.slice A2 l2.length c2] rfl (by (try simp only [List.map_toArray, List.map_cons, List.map_nil]); first | done | rfl | (simp only [List.length_drop, List.length_take]; rfl)) ?_; (with_reducible refine (laws_toIntS.calls k _ _ l2 t301 _ ?side1 ?side2 A19.out).mono ?_); (case side1 => repeat (first | exact (Kd.zf HR2.out HB.out) | (with_reducible refine Kd.ze ?_ _) | (with_reducible refine Kd.zd ?_ _) | (with_reducible refine Kd.zh ?_))); (case side2 => exact HC2.out); rintro e w44 ⟨v302, rfl, ho0, hb⟩; refine ⟨_, rfl, ?_⟩; have n0_ := qd.mk (Kd.zc (kr_ HO279) hb); have n1_ := qd.mk (Kd.zw (kr_ HO282) (Kd.zx ho0) hb); have n2_ := qd.mk (Kd.zw (kr_ HO285) (Kd.zx ho0) hb); have n3_ := qd.mk (Kd.zc (kr_ HO296) hb); have n4_ := qd.mk (Kd.zw (kr_ HO300) (Kd.zx ho0) hb); have n5_ := qd.mk (Kd.zq (Kd.jh (Kd.jh (Kd.jh ho0 (Kd.R_lt (kr_ HO282))) (Kd.R_lt (kr_ HO285))) (Kd.R_lt (kr_ HO300))) (qm (be3_ HB GE273 GE291 GE297))); have n6_ := qd.mk (ql (g := gb273) (o := .cells #[.int .i64 a0_0, .int .i64 a0_1, .slice A0_2 l0_2.length c0_2] 24 (0, 0)) (bk_ BK273) hb); have n7_ := qd.mk (ql (g := gb291) (o := .cells #[.int .i64 t286, .int .i64 t287, .bool t288] 38 (0, 0)) (bk_ BK291) hb); have n8_ := qd.mk (ql (g := gb297) (o := .cells #[.int .i64 t292, .int .i64 t293, .slice Ao42 t294.length co42] 30 (0, 0)) (bk_ BK297) hb); have n9_ := qd.mk (qn (be3_ HB GE273 GE291 GE297) hb); clear HO279; clear HO282; clear HO285; clear HO296; clear HO300; clear BK273; clear BK291; clear BK297; clear HB; have HO279 := n0_; have HO282 := n1_; have HO285 := n2_; have HO296 := n3_; have HO300 := n4_; have HO303 := n5_; have BK273 := n6_; have BK291 := n7_; have BK297 := n8_; have HB := n9_; clear n0_ n1_ n2_ n3_ n4_ n5_ n6_ n7_ n8_ n9_; (try clear hb); (try clear hb2); (try clear hk); (try clear hi); (try clear ho0); have hcz45_0 : w44.cell? ⟨gb297, 0, none⟩ = some (.int .i64 t292) := (qi BK297.out 0).trans rfl; have hcz45_1 : w44.cell? ⟨gb297, 1, none⟩ = some (.int .i64 t293) := (qi BK297.out 1).trans rfl; have hcz45_2 : w44.cell? ⟨gb297, 2, none⟩ = some (.slice Ao42 t294.length co42) := (qi BK297.out 2).trans rfl; have hfz45_0 := qj BK297.out 0; have hfz45_1 := qj BK297.out 1; have hfz45_2 := qj BK297.out 2; obtain ⟨Ao46, co46, eo46⟩ := Kd.zr HO300.out; subst eo46; obtain ⟨Ao47, co47, eo47⟩ := Kd.zr HO303.out; subst eo47) | ((with_reducible refine qw (f := 47) rfl ?_); refine zj (some 49) rfl rfl Try.func47 (by kernel_rfl) rfl #[.agg #[.int .i64 t292, .int .i64 t293, .slice Ao42 t294.length co42], .slice Ao46 t298.length co46, .slice Ao47 t301.length co47] rfl (by (try simp only [List.map_toArray, List.map_cons, List.map_nil]); first | done | rfl | (simp only [List.length_drop, List.length_take]; rfl)) ?_; (with_reducible refine (impl_BestToOpen.calls k t292 t293 _ _ t294 (fun k_ => some k_ = (.slice Ao46 t298.length co46 : Value).ownBlock) _ _ t298 (fun k_ => some k_ = (.slice Ao47 t301.length co47 : Value).ownBlock) _ _ t301 t304 t305 t306 t307 t308 _ ?side1 ?side2 ?side3 ?side4 A20.out).mono ?_); (case side1 => repeat (first | exact (Kd.zb HO296.out).2.2 | (with_reducible refine Kd.ze ?_ _) | (with_reducible refine Kd.zd ?_ _) | (with_reducible refine Kd.zh ?_))); (case side2 => exact (Kd.zb HO296.out).2.1); (case side3 => exact Kd.R_V (Kd.R_tight rfl (Kd.zz (Kd.zz (Kd.zz (Kd.R_apart' (Kd.R_apart' (HO300.out) (Kd.R_typed HO279.out) (by decide)) (Kd.R_typed HO296.out) (by decide)) BK273.out (by decide)) BK291.out (by decide)) BK297.out (by decide)))); (case side4 => exact Kd.R_V (Kd.R_tight rfl (Kd.zz (Kd.zz (Kd.zz (Kd.R_apart' (Kd.R_apart' (HO303.out) (Kd.R_typed HO279.out) (by decide)) (Kd.R_typed HO296.out) (by decide)) BK273.out (by decide)) BK291.out (by decide)) BK297.out (by decide)))); rintro e w48 ⟨rfl, hb⟩; refine ⟨_, rfl, ?_⟩; have n0_ := qd.mk (Kd.zc (kr_ HO279) hb); have n1_ := qd.mk (Kd.zc (kr_ HO282) hb); have n2_ := qd.mk (Kd.zc (kr_ HO285) hb); have n3_ := qd.mk (Kd.zc (kr_ HO296) hb); have n4_ := qd.mk (Kd.zc (kr_ HO300) hb); have n5_ := qd.mk (Kd.zc (kr_ HO303) hb); have n6_ := qd.mk (ql (g := gb273) (o := .cells #[.int .i64 a0_0, .int .i64 a0_1, .slice A0_2 l0_2.length c0_2] 24 (0, 0)) (bk_ BK273) hb); have n7_ := qd.mk (ql (g := gb291) (o := .cells #[.int .i64 t286, .int .i64 t287, .bool t288] 38 (0, 0)) (bk_ BK291) hb); have n8_ := qd.mk (ql (g := gb297) (o := .cells #[.int .i64 t292, .int .i64 t293, .slice Ao42 t294.length co42] 30 (0, 0)) (bk_ BK297) hb); have n9_ := qd.mk (qn (be3_ HB GE273 GE291 GE297) hb); clear HO279; clear HO282; clear HO285; clear HO296; clear HO300; clear HO303; clear BK273; clear BK291; clear BK297; clear HB; have HO279 := n0_; have HO282 := n1_; have HO285 := n2_; have HO296 := n3_; have HO300 := n4_; have HO303 := n5_; have BK273 := n6_; have BK291 := n7_; have BK297 := n8_; have HB := n9_; clear n0_ n1_ n2_ n3_ n4_ n5_ n6_ n7_ n8_ n9_; (try clear hb); (try clear hb2); (try clear hk); (try clear hi)) | ((with_reducible refine za (N := 14) rfl ?_); refine qy ?hg (N := 14) ?hd (cs := #[.int .i64 0, .int .i64 0, .bool false]) (t := 38) ?hr ?_; (case hd => rfl); (case hg => rfl); (case hr => first | (go_simp; done) | (go_simp; rfl)); intro gb309 hg w49 hbox hb; have n0_ := qd.mk (Kd.zc (Kd.R_elderB (kr_ HO279) gb309 (Nat.le_of_eq hg.symm)) hb); have n1_ := qd.mk (Kd.zc (kr_ HO282) hb); have n2_ := qd.mk (Kd.zc (kr_ HO285) hb); have n3_ := qd.mk (Kd.zc (Kd.R_elderB (kr_ HO296) gb309 (Nat.le_of_eq hg.symm)) hb); have n4_ := qd.mk (Kd.zc (kr_ HO300) hb); have n5_ := qd.mk (Kd.zc (kr_ HO303) hb); have n6_ := qd.mk (ql (g := gb273) (o := .cells #[.int .i64 a0_0, .int .i64 a0_1, .slice A0_2 l0_2.length c0_2] 24 (0, 0)) (bk_ BK273) hb); have n7_ := qd.mk (ql (g := gb291) (o := .cells #[.int .i64 t286, .int .i64 t287, .bool t288] 38 (0, 0)) (bk_ BK291) hb); have n8_ := qd.mk (ql (g := gb297) (o := .cells #[.int .i64 t292, .int .i64 t293, .slice Ao42 t294.length co42] 30 (0, 0)) (bk_ BK297) hb); have n9_ := qd.mk (qn (be3_ HB GE273 GE291 GE297) hb); have n10_ := qd.mk (hbox); have n11_ := qd.mk ((by rw [hg]; exact (qm (be3_ HB GE273 GE291 GE297)) : w.heap.size ≤ gb309)); have n12_ := qd.mk ((by rw [hg]; exact (qm (be3_ HB GE273 GE291 GE297)) : w.heap.size ≤ gb309)); have n13_ := qd.mk ((by rw [hg]; exact Nat.ne_of_lt (qr (g := gb273) (o := .cells #[.int .i64 a0_0, .int .i64 a0_1, .slice A0_2 l0_2.length c0_2] 24 (0, 0)) (bk_ BK273)) : gb273 ≠ gb309)); have n14_ := qd.mk ((by rw [hg]; exact Nat.ne_of_gt (qr (g := gb273) (o := .cells #[.int .i64 a0_0, .int .i64 a0_1, .slice A0_2 l0_2.length c0_2] 24 (0, 0)) (bk_ BK273)) : gb309 ≠ gb273)); have n15_ := qd.mk ((by rw [hg]; exact Nat.ne_of_lt (qr (g := gb291) (o := .cells #[.int .i64 t286, .int .i64 t287, .bool t288] 38 (0, 0)) (bk_ BK291)) : gb291 ≠ gb309)); have n16_ := qd.mk ((by rw [hg]; exact Nat.ne_of_gt (qr (g := gb291) (o := .cells #[.int .i64 t286, .int .i64 t287, .bool t288] 38 (0, 0)) (bk_ BK291)) : gb309 ≠ gb291)); have n17_ := qd.mk ((by rw [hg]; exact Nat.ne_of_lt (qr (g := gb297) (o := .cells #[.int .i64 t292, .int .i64 t293, .slice Ao42 t294.length co42] 30 (0, 0)) (bk_ BK297)) : gb297 ≠ gb309)); have n18_ := qd.mk ((by rw [hg]; exact Nat.ne_of_gt (qr (g := gb297) (o := .cells #[.int .i64 t292, .int .i64 t293, .slice Ao42 t294.length co42] 30 (0, 0)) (bk_ BK297)) : gb309 ≠ gb297)); clear HO279; clear HO282; clear HO285; clear HO296; clear HO300; clear HO303; clear BK273; clear BK291; clear BK297; clear HB; have HO279 := n0_; have HO282 := n1_; have HO285 := n2_; have HO296 := n3_; have HO300 := n4_; have HO303 := n5_; have BK273 := n6_; have BK291 := n7_; have BK297 := n8_; have HB := n9_; have BK309 := n10_; have GW309 := n11_; have GE309 := n12_; have NB273_309 := n13_; have NB309_273 := n14_; have NB291_309 := n15_; have NB309_291 := n16_; have NB297_309 := n17_; have NB309_297 := n18_; clear n0_ n1_ n2_ n3_ n4_ n5_ n6_ n7_ n8_ n9_ n10_ n11_ n12_ n13_ n14_ n15_ n16_ n17_ n18_; clear hb hbox hg; have hnb50 := NB309_273.out; have hnc50 := NB273_309.out; have hnb51 := NB309_291.out; have hnc51 := NB291_309.out; have hnb52 := NB309_297.out; have hnc52 := NB297_309.out; have hcz53_0 : w49.cell? ⟨gb309, 0, none⟩ = some (.int .i64 0) := (qi BK309.out 0).trans rfl; have hcz53_1 : w49.cell? ⟨gb309, 1, none⟩ = some (.int .i64 0) := (qi BK309.out 1).trans rfl; have hcz53_2 : w49.cell? ⟨gb309, 2, none⟩ = some (.bool false) := (qi BK309.out 2).trans rfl; have hfz53_0 := qj BK309.out 0; have hfz53_1 := qj BK309.out 1; have hfz53_2 := qj BK309.out 2))
    (try simp only [Act.put, sA_, sB_, sC_])
    go_cut [66] (fun v66 wc => ∃ (kq : Nat) (x66_20 : Bool), v66 = .bool x66_20 ∧ qd (laws_FnExactBestToOpen.j0 kq l1 l2 t298 t301 x66_20 a0_0 a0_1 l0_2 t292 t293 t294 = some r) ∧ qd (kq ≤ k) ∧ qd (Kd.R (Kd.int .i64) 3 wc w.heap.size (fun k_ => some k_ ≠ ((.slice Ao47 t301.length co47) : Value).ownBlock) (.slice Ao46 t298.length co46) t298) ∧ qd (Kd.R (Kd.int .i64) 3 wc w.heap.size (fun k_ => some k_ ≠ ((.slice Ao46 t298.length co46) : Value).ownBlock) (.slice Ao47 t301.length co47) t301) ∧ qd (Kd.R k38 38 wc w.heap.size (fun k_ => k_ ≠ gb291 ∧ k_ ≠ gb309) (.slice Ao42 t294.length co42) t294) ∧ qd (wc.heap[gb273]? = some (.cells #[.int .i64 a0_0, .int .i64 a0_1, (.slice A0_2 l0_2.length c0_2)] 24 (0, 0))) ∧ qd (wc.heap[gb291]? = some (.cells #[.int .i64 t286, .int .i64 t287, .bool t288] 38 (0, 0))) ∧ qd (wc.heap[gb297]? = some (.cells #[.int .i64 t292, .int .i64 t293, (.slice Ao42 t294.length co42)] 30 (0, 0))) ∧ qd (wc.heap[gb309]? = some (.cells #[.int .i64 t304, .int .i64 t305, .bool t306] 38 (0, 0))) ∧ qd (Below w.heap.size w wc))
    case first =>
     have H := HC21.out
     clear HC21
     replace H := Option.bind_eq_some_iff.mp H
     obtain ⟨t310, A540, H⟩ := H
     replace H : (if t310 = true then (if t307 = t289 then (laws_FnExactBestToOpen.j0 k l1 l2 t298 t301 (t308 != t290) a0_0 a0_1 l0_2 t292 t293 t294) else (laws_FnExactBestToOpen.j0 k l1 l2 t298 t301 true a0_0 a0_1 l0_2 t292 t293 t294)) else (laws_FnExactBestToOpen.j0 k l1 l2 t298 t301 true a0_0 a0_1 l0_2 t292 t293 t294)) = some r := H
     have A54 := qd.mk A540
     clear A540
     by_cases c55 : t310 = true
     ·subst c55
      have H1 : (if t307 = t289 then (laws_FnExactBestToOpen.j0 k l1 l2 t298 t301 (t308 != t290) a0_0 a0_1 l0_2 t292 t293 t294) else (laws_FnExactBestToOpen.j0 k l1 l2 t298 t301 true a0_0 a0_1 l0_2 t292 t293 t294)) = some r := by rw [if_pos rfl] at H; exact H
      clear H
      have H := H1
      clear H1
      by_cases c56 : t307 = t289
      ·rw [if_pos c56] at H
       have c56b0 : (t307 == t289) = true := beq_iff_eq.mpr c56
       have c56b1 : (t307 != t289) = false := bne_eq_false_iff_eq.mpr c56
       clear c56
       (first | rw [c56b0] | (simp only [i64_w, i32_w]; rw [c56b0]) | skip)
       have H' := qd.mk H
       clear H
       have hnb57 := NB309_273.out
       have hnc57 := NB273_309.out
       have hnb58 := NB309_291.out
       have hnc58 := NB291_309.out
       have hnb59 := NB309_297.out
       have hnc59 := NB297_309.out
       have hcz60_0 : w49.cell? ⟨gb309, 0, none⟩ = some (.int .i64 0) := (qi BK309.out 0).trans rfl
       have hcz60_1 : w49.cell? ⟨gb309, 1, none⟩ = some (.int .i64 0) := (qi BK309.out 1).trans rfl
       have hcz60_2 : w49.cell? ⟨gb309, 2, none⟩ = some (.bool false) := (qi BK309.out 2).trans rfl
       have hfz60_0 := qj BK309.out 0
       have hfz60_1 := qj BK309.out 1
       have hfz60_2 := qj BK309.out 2
       have hnb61 := NB291_273.out
       have hnc61 := NB273_291.out
       have hnb62 := NB291_297.out
       have hnc62 := NB297_291.out
       have hcz63_0 : w49.cell? ⟨gb291, 0, none⟩ = some (.int .i64 t286) := (qi BK291.out 0).trans rfl
       have hcz63_1 : w49.cell? ⟨gb291, 1, none⟩ = some (.int .i64 t287) := (qi BK291.out 1).trans rfl
       have hcz63_2 : w49.cell? ⟨gb291, 2, none⟩ = some (.bool t288) := (qi BK291.out 2).trans rfl
       have hfz63_0 := qj BK291.out 0
       have hfz63_1 := qj BK291.out 1
       have hfz63_2 := qj BK291.out 2
       go_wp2_with (first | ((with_reducible refine qw (f := 48) rfl ?_); refine zj (some 55) rfl rfl Try.func48 (by kernel_rfl) rfl #[.agg #[.int .i64 t304, .int .i64 t305, .bool t306], .agg #[.int .i64 t286, .int .i64 t287, .bool t288]] rfl (by (try simp only [List.map_toArray, List.map_cons, List.map_nil]); first | done | rfl | (simp only [List.length_drop, List.length_take]; rfl)) ?_; (with_reducible refine (laws_eqBlock.calls t304 t305 t306 t286 t287 t288 true _ A54.out).mono ?_); rintro e w64 ⟨rfl, hb⟩; refine ⟨_, rfl, ?_⟩; have n0_ := qd.mk (Kd.zc (by (with_reducible repeat (first | apply Kd.qt | apply Kd.qu | apply Kd.qx)); exact (Kd.zm (Kd.R_far (p := ⟨gb309, 2, none⟩) (Kd.R_far (p := ⟨gb309, 1, none⟩) (Kd.R_far (p := ⟨gb309, 0, none⟩) (Kd.zm HO279.out (fun k_ hk => (⟨hk, hk.2⟩ : _ ∧ k_ ≠ gb309))) (fun _ hk => hk.2) (.int .i64 t304)) (fun _ hk => hk.2) (.int .i64 t305)) (fun _ hk => hk.2) (.bool t306)) (fun _ h_ => h_.1))) hb); have n1_ := qd.mk (Kd.zc (by (with_reducible repeat (first | apply Kd.qt | apply Kd.qu | apply Kd.qx)); exact (Kd.zm (Kd.R_far (p := ⟨gb309, 2, none⟩) (Kd.R_far (p := ⟨gb309, 1, none⟩) (Kd.R_far (p := ⟨gb309, 0, none⟩) (Kd.zz HO282.out BK309.out (by decide)) (fun _ hk => hk.2) (.int .i64 t304)) (fun _ hk => hk.2) (.int .i64 t305)) (fun _ hk => hk.2) (.bool t306)) (fun _ h_ => h_.1))) hb); have n2_ := qd.mk (Kd.zc (by (with_reducible repeat (first | apply Kd.qt | apply Kd.qu | apply Kd.qx)); exact (Kd.zm (Kd.R_far (p := ⟨gb309, 2, none⟩) (Kd.R_far (p := ⟨gb309, 1, none⟩) (Kd.R_far (p := ⟨gb309, 0, none⟩) (Kd.zz HO285.out BK309.out (by decide)) (fun _ hk => hk.2) (.int .i64 t304)) (fun _ hk => hk.2) (.int .i64 t305)) (fun _ hk => hk.2) (.bool t306)) (fun _ h_ => h_.1))) hb); have n3_ := qd.mk (Kd.zc (by (with_reducible repeat (first | apply Kd.qt | apply Kd.qu | apply Kd.qx)); exact (Kd.zm (Kd.R_far (p := ⟨gb309, 2, none⟩) (Kd.R_far (p := ⟨gb309, 1, none⟩) (Kd.R_far (p := ⟨gb309, 0, none⟩) (Kd.zm HO296.out (fun k_ hk => (⟨hk, hk.2⟩ : _ ∧ k_ ≠ gb309))) (fun _ hk => hk.2) (.int .i64 t304)) (fun _ hk => hk.2) (.int .i64 t305)) (fun _ hk => hk.2) (.bool t306)) (fun _ h_ => h_.1))) hb); have n4_ := qd.mk (Kd.zc (by (with_reducible repeat (first | apply Kd.qt | apply Kd.qu | apply Kd.qx)); exact (Kd.zm (Kd.R_far (p := ⟨gb309, 2, none⟩) (Kd.R_far (p := ⟨gb309, 1, none⟩) (Kd.R_far (p := ⟨gb309, 0, none⟩) (Kd.zz HO300.out BK309.out (by decide)) (fun _ hk => hk.2) (.int .i64 t304)) (fun _ hk => hk.2) (.int .i64 t305)) (fun _ hk => hk.2) (.bool t306)) (fun _ h_ => h_.1))) hb); have n5_ := qd.mk (Kd.zc (by (with_reducible repeat (first | apply Kd.qt | apply Kd.qu | apply Kd.qx)); exact (Kd.zm (Kd.R_far (p := ⟨gb309, 2, none⟩) (Kd.R_far (p := ⟨gb309, 1, none⟩) (Kd.R_far (p := ⟨gb309, 0, none⟩) (Kd.zz HO303.out BK309.out (by decide)) (fun _ hk => hk.2) (.int .i64 t304)) (fun _ hk => hk.2) (.int .i64 t305)) (fun _ hk => hk.2) (.bool t306)) (fun _ h_ => h_.1))) hb); have n6_ := qd.mk (ql (g := gb273) (o := .cells #[.int .i64 a0_0, .int .i64 a0_1, .slice A0_2 l0_2.length c0_2] 24 (0, 0)) (by (with_reducible repeat (first | refine qc ?_ _ | refine qe ?_ | refine qb ?_ _)); refine qo ?_ NB273_309.out _; (with_reducible repeat (first | refine qc ?_ _ | refine qe ?_ | refine qb ?_ _)); refine qo ?_ NB273_309.out _; (with_reducible repeat (first | refine qc ?_ _ | refine qe ?_ | refine qb ?_ _)); refine qo ?_ NB273_309.out _; (with_reducible repeat (first | refine qc ?_ _ | refine qe ?_ | refine qb ?_ _)); exact BK273.out) hb); have n7_ := qd.mk (ql (g := gb291) (o := .cells #[.int .i64 t286, .int .i64 t287, .bool t288] 38 (0, 0)) (by (with_reducible repeat (first | refine qc ?_ _ | refine qe ?_ | refine qb ?_ _)); refine qo ?_ NB291_309.out _; (with_reducible repeat (first | refine qc ?_ _ | refine qe ?_ | refine qb ?_ _)); refine qo ?_ NB291_309.out _; (with_reducible repeat (first | refine qc ?_ _ | refine qe ?_ | refine qb ?_ _)); refine qo ?_ NB291_309.out _; (with_reducible repeat (first | refine qc ?_ _ | refine qe ?_ | refine qb ?_ _)); exact BK291.out) hb); have n8_ := qd.mk (ql (g := gb297) (o := .cells #[.int .i64 t292, .int .i64 t293, .slice Ao42 t294.length co42] 30 (0, 0)) (by (with_reducible repeat (first | refine qc ?_ _ | refine qe ?_ | refine qb ?_ _)); refine qo ?_ NB297_309.out _; (with_reducible repeat (first | refine qc ?_ _ | refine qe ?_ | refine qb ?_ _)); refine qo ?_ NB297_309.out _; (with_reducible repeat (first | refine qc ?_ _ | refine qe ?_ | refine qb ?_ _)); refine qo ?_ NB297_309.out _; (with_reducible repeat (first | refine qc ?_ _ | refine qe ?_ | refine qb ?_ _)); exact BK297.out) hb); have n9_ := qd.mk (ql (g := gb309) (o := .cells #[.int .i64 t304, .int .i64 t305, .bool t306] 38 (0, 0)) (by (with_reducible repeat (first | refine qc ?_ _ | refine qe ?_ | refine qb ?_ _)); refine qv (cs := #[.int .i64 t304, .int .i64 t305, .bool false]) ?_ 2 _ rfl; (with_reducible repeat (first | refine qc ?_ _ | refine qe ?_ | refine qb ?_ _)); refine qv (cs := #[.int .i64 t304, .int .i64 0, .bool false]) ?_ 1 _ rfl; (with_reducible repeat (first | refine qc ?_ _ | refine qe ?_ | refine qb ?_ _)); refine qv (cs := #[.int .i64 0, .int .i64 0, .bool false]) ?_ 0 _ rfl; (with_reducible repeat (first | refine qc ?_ _ | refine qe ?_ | refine qb ?_ _)); exact BK309.out) hb); have n10_ := qd.mk (qn (be4_ HB GE273 GE291 GE297 GE309) hb); clear HO279; clear HO282; clear HO285; clear HO296; clear HO300; clear HO303; clear BK273; clear BK291; clear BK297; clear BK309; clear HB; have HO279 := n0_; have HO282 := n1_; have HO285 := n2_; have HO296 := n3_; have HO300 := n4_; have HO303 := n5_; have BK273 := n6_; have BK291 := n7_; have BK297 := n8_; have BK309 := n9_; have HB := n10_; clear n0_ n1_ n2_ n3_ n4_ n5_ n6_ n7_ n8_ n9_ n10_; (try clear hb); (try clear hb2); (try clear hk); (try clear hi)))
       go_meet
       case rel => exact ⟨_, ((t308 != t290)), (by first | rfl | (simp; done) | (simp [*]; done)), H', ⟨by first | omega | exact Nat.le_refl _⟩, ⟨by (with_reducible repeat (first | apply Kd.qt | apply Kd.qu | apply Kd.qx)); exact Kd.zm HO300.out (fun _ hk => hk.2)⟩, ⟨by (with_reducible repeat (first | apply Kd.qt | apply Kd.qu | apply Kd.qx)); exact Kd.zm HO303.out (fun _ hk => hk.2)⟩, ⟨by (with_reducible repeat (first | apply Kd.qt | apply Kd.qu | apply Kd.qx)); exact Kd.zm HO296.out (fun _ hk => ⟨hk.1.2, hk.2⟩)⟩, ⟨bk_ BK273⟩, ⟨bk_ BK291⟩, ⟨bk_ BK297⟩, ⟨bk_ BK309⟩, ⟨be4_ HB GE273 GE291 GE297 GE309⟩⟩
      ·rw [if_neg c56] at H
       have c56b0 : (t307 == t289) = false := beq_eq_false_iff_ne.mpr c56
       have c56b1 : (t307 != t289) = true := bne_iff_ne.mpr c56
       (first | rw [c56b0] | (simp only [i64_w, i32_w]; rw [c56b0]) | skip)
       have H' := qd.mk H
       clear H
       have hnb65 := NB309_273.out
       have hnc65 := NB273_309.out
       have hnb66 := NB309_291.out
       have hnc66 := NB291_309.out
       have hnb67 := NB309_297.out
       have hnc67 := NB297_309.out
       have hcz68_0 : w49.cell? ⟨gb309, 0, none⟩ = some (.int .i64 0) := (qi BK309.out 0).trans rfl
       have hcz68_1 : w49.cell? ⟨gb309, 1, none⟩ = some (.int .i64 0) := (qi BK309.out 1).trans rfl
       have hcz68_2 : w49.cell? ⟨gb309, 2, none⟩ = some (.bool false) := (qi BK309.out 2).trans rfl
       have hfz68_0 := qj BK309.out 0
       have hfz68_1 := qj BK309.out 1
       have hfz68_2 := qj BK309.out 2
       have hnb69 := NB291_273.out
       have hnc69 := NB273_291.out
       have hnb70 := NB291_297.out
       have hnc70 := NB297_291.out
       have hcz71_0 : w49.cell? ⟨gb291, 0, none⟩ = some (.int .i64 t286) := (qi BK291.out 0).trans rfl
       have hcz71_1 : w49.cell? ⟨gb291, 1, none⟩ = some (.int .i64 t287) := (qi BK291.out 1).trans rfl
       have hcz71_2 : w49.cell? ⟨gb291, 2, none⟩ = some (.bool t288) := (qi BK291.out 2).trans rfl
       have hfz71_0 := qj BK291.out 0
       have hfz71_1 := qj BK291.out 1
       have hfz71_2 := qj BK291.out 2
       go_wp2_with (first | ((with_reducible refine qw (f := 48) rfl ?_); refine zj (some 55) rfl rfl Try.func48 (by kernel_rfl) rfl #[.agg #[.int .i64 t304, .int .i64 t305, .bool t306], .agg #[.int .i64 t286, .int .i64 t287, .bool t288]] rfl (by (try simp only [List.map_toArray, List.map_cons, List.map_nil]); first | done | rfl | (simp only [List.length_drop, List.length_take]; rfl)) ?_; (with_reducible refine (laws_eqBlock.calls t304 t305 t306 t286 t287 t288 true _ A54.out).mono ?_); rintro e w72 ⟨rfl, hb⟩; refine ⟨_, rfl, ?_⟩; have n0_ := qd.mk (Kd.zc (by (with_reducible repeat (first | apply Kd.qt | apply Kd.qu | apply Kd.qx)); exact (Kd.zm (Kd.R_far (p := ⟨gb309, 2, none⟩) (Kd.R_far (p := ⟨gb309, 1, none⟩) (Kd.R_far (p := ⟨gb309, 0, none⟩) (Kd.zm HO279.out (fun k_ hk => (⟨hk, hk.2⟩ : _ ∧ k_ ≠ gb309))) (fun _ hk => hk.2) (.int .i64 t304)) (fun _ hk => hk.2) (.int .i64 t305)) (fun _ hk => hk.2) (.bool t306)) (fun _ h_ => h_.1))) hb); have n1_ := qd.mk (Kd.zc (by (with_reducible repeat (first | apply Kd.qt | apply Kd.qu | apply Kd.qx)); exact (Kd.zm (Kd.R_far (p := ⟨gb309, 2, none⟩) (Kd.R_far (p := ⟨gb309, 1, none⟩) (Kd.R_far (p := ⟨gb309, 0, none⟩) (Kd.zz HO282.out BK309.out (by decide)) (fun _ hk => hk.2) (.int .i64 t304)) (fun _ hk => hk.2) (.int .i64 t305)) (fun _ hk => hk.2) (.bool t306)) (fun _ h_ => h_.1))) hb); have n2_ := qd.mk (Kd.zc (by (with_reducible repeat (first | apply Kd.qt | apply Kd.qu | apply Kd.qx)); exact (Kd.zm (Kd.R_far (p := ⟨gb309, 2, none⟩) (Kd.R_far (p := ⟨gb309, 1, none⟩) (Kd.R_far (p := ⟨gb309, 0, none⟩) (Kd.zz HO285.out BK309.out (by decide)) (fun _ hk => hk.2) (.int .i64 t304)) (fun _ hk => hk.2) (.int .i64 t305)) (fun _ hk => hk.2) (.bool t306)) (fun _ h_ => h_.1))) hb); have n3_ := qd.mk (Kd.zc (by (with_reducible repeat (first | apply Kd.qt | apply Kd.qu | apply Kd.qx)); exact (Kd.zm (Kd.R_far (p := ⟨gb309, 2, none⟩) (Kd.R_far (p := ⟨gb309, 1, none⟩) (Kd.R_far (p := ⟨gb309, 0, none⟩) (Kd.zm HO296.out (fun k_ hk => (⟨hk, hk.2⟩ : _ ∧ k_ ≠ gb309))) (fun _ hk => hk.2) (.int .i64 t304)) (fun _ hk => hk.2) (.int .i64 t305)) (fun _ hk => hk.2) (.bool t306)) (fun _ h_ => h_.1))) hb); have n4_ := qd.mk (Kd.zc (by (with_reducible repeat (first | apply Kd.qt | apply Kd.qu | apply Kd.qx)); exact (Kd.zm (Kd.R_far (p := ⟨gb309, 2, none⟩) (Kd.R_far (p := ⟨gb309, 1, none⟩) (Kd.R_far (p := ⟨gb309, 0, none⟩) (Kd.zz HO300.out BK309.out (by decide)) (fun _ hk => hk.2) (.int .i64 t304)) (fun _ hk => hk.2) (.int .i64 t305)) (fun _ hk => hk.2) (.bool t306)) (fun _ h_ => h_.1))) hb); have n5_ := qd.mk (Kd.zc (by (with_reducible repeat (first | apply Kd.qt | apply Kd.qu | apply Kd.qx)); exact (Kd.zm (Kd.R_far (p := ⟨gb309, 2, none⟩) (Kd.R_far (p := ⟨gb309, 1, none⟩) (Kd.R_far (p := ⟨gb309, 0, none⟩) (Kd.zz HO303.out BK309.out (by decide)) (fun _ hk => hk.2) (.int .i64 t304)) (fun _ hk => hk.2) (.int .i64 t305)) (fun _ hk => hk.2) (.bool t306)) (fun _ h_ => h_.1))) hb); have n6_ := qd.mk (ql (g := gb273) (o := .cells #[.int .i64 a0_0, .int .i64 a0_1, .slice A0_2 l0_2.length c0_2] 24 (0, 0)) (by (with_reducible repeat (first | refine qc ?_ _ | refine qe ?_ | refine qb ?_ _)); refine qo ?_ NB273_309.out _; (with_reducible repeat (first | refine qc ?_ _ | refine qe ?_ | refine qb ?_ _)); refine qo ?_ NB273_309.out _; (with_reducible repeat (first | refine qc ?_ _ | refine qe ?_ | refine qb ?_ _)); refine qo ?_ NB273_309.out _; (with_reducible repeat (first | refine qc ?_ _ | refine qe ?_ | refine qb ?_ _)); exact BK273.out) hb); have n7_ := qd.mk (ql (g := gb291) (o := .cells #[.int .i64 t286, .int .i64 t287, .bool t288] 38 (0, 0)) (by (with_reducible repeat (first | refine qc ?_ _ | refine qe ?_ | refine qb ?_ _)); refine qo ?_ NB291_309.out _; (with_reducible repeat (first | refine qc ?_ _ | refine qe ?_ | refine qb ?_ _)); refine qo ?_ NB291_309.out _; (with_reducible repeat (first | refine qc ?_ _ | refine qe ?_ | refine qb ?_ _)); refine qo ?_ NB291_309.out _; (with_reducible repeat (first | refine qc ?_ _ | refine qe ?_ | refine qb ?_ _)); exact BK291.out) hb); have n8_ := qd.mk (ql (g := gb297) (o := .cells #[.int .i64 t292, .int .i64 t293, .slice Ao42 t294.length co42] 30 (0, 0)) (by (with_reducible repeat (first | refine qc ?_ _ | refine qe ?_ | refine qb ?_ _)); refine qo ?_ NB297_309.out _; (with_reducible repeat (first | refine qc ?_ _ | refine qe ?_ | refine qb ?_ _)); refine qo ?_ NB297_309.out _; (with_reducible repeat (first | refine qc ?_ _ | refine qe ?_ | refine qb ?_ _)); refine qo ?_ NB297_309.out _; (with_reducible repeat (first | refine qc ?_ _ | refine qe ?_ | refine qb ?_ _)); exact BK297.out) hb); have n9_ := qd.mk (ql (g := gb309) (o := .cells #[.int .i64 t304, .int .i64 t305, .bool t306] 38 (0, 0)) (by (with_reducible repeat (first | refine qc ?_ _ | refine qe ?_ | refine qb ?_ _)); refine qv (cs := #[.int .i64 t304, .int .i64 t305, .bool false]) ?_ 2 _ rfl; (with_reducible repeat (first | refine qc ?_ _ | refine qe ?_ | refine qb ?_ _)); refine qv (cs := #[.int .i64 t304, .int .i64 0, .bool false]) ?_ 1 _ rfl; (with_reducible repeat (first | refine qc ?_ _ | refine qe ?_ | refine qb ?_ _)); refine qv (cs := #[.int .i64 0, .int .i64 0, .bool false]) ?_ 0 _ rfl; (with_reducible repeat (first | refine qc ?_ _ | refine qe ?_ | refine qb ?_ _)); exact BK309.out) hb); have n10_ := qd.mk (qn (be4_ HB GE273 GE291 GE297 GE309) hb); clear HO279; clear HO282; clear HO285; clear HO296; clear HO300; clear HO303; clear BK273; clear BK291; clear BK297; clear BK309; clear HB; have HO279 := n0_; have HO282 := n1_; have HO285 := n2_; have HO296 := n3_; have HO300 := n4_; have HO303 := n5_; have BK273 := n6_; have BK291 := n7_; have BK297 := n8_; have BK309 := n9_; have HB := n10_; clear n0_ n1_ n2_ n3_ n4_ n5_ n6_ n7_ n8_ n9_ n10_; (try clear hb); (try clear hb2); (try clear hk); (try clear hi)))
       go_meet
       case rel => exact ⟨_, (true), (by first | rfl | (simp; done) | (simp [*]; done)), H', ⟨by first | omega | exact Nat.le_refl _⟩, ⟨by (with_reducible repeat (first | apply Kd.qt | apply Kd.qu | apply Kd.qx)); exact Kd.zm HO300.out (fun _ hk => hk.2)⟩, ⟨by (with_reducible repeat (first | apply Kd.qt | apply Kd.qu | apply Kd.qx)); exact Kd.zm HO303.out (fun _ hk => hk.2)⟩, ⟨by (with_reducible repeat (first | apply Kd.qt | apply Kd.qu | apply Kd.qx)); exact Kd.zm HO296.out (fun _ hk => ⟨hk.1.2, hk.2⟩)⟩, ⟨bk_ BK273⟩, ⟨bk_ BK291⟩, ⟨bk_ BK297⟩, ⟨bk_ BK309⟩, ⟨be4_ HB GE273 GE291 GE297 GE309⟩⟩
     ·replace c55 := Bool.eq_false_iff.mpr c55
      subst c55
      have H1 : (laws_FnExactBestToOpen.j0 k l1 l2 t298 t301 true a0_0 a0_1 l0_2 t292 t293 t294) = some r := by rw [if_neg (show ¬ (false = true) by decide)] at H; exact H
      clear H
      have H := H1
      clear H1
      have H' := qd.mk H
      clear H
      have hnb73 := NB309_273.out
      have hnc73 := NB273_309.out
      have hnb74 := NB309_291.out
      have hnc74 := NB291_309.out
      have hnb75 := NB309_297.out
      have hnc75 := NB297_309.out
      have hcz76_0 : w49.cell? ⟨gb309, 0, none⟩ = some (.int .i64 0) := (qi BK309.out 0).trans rfl
      have hcz76_1 : w49.cell? ⟨gb309, 1, none⟩ = some (.int .i64 0) := (qi BK309.out 1).trans rfl
      have hcz76_2 : w49.cell? ⟨gb309, 2, none⟩ = some (.bool false) := (qi BK309.out 2).trans rfl
      have hfz76_0 := qj BK309.out 0
      have hfz76_1 := qj BK309.out 1
      have hfz76_2 := qj BK309.out 2
      have hnb77 := NB291_273.out
      have hnc77 := NB273_291.out
      have hnb78 := NB291_297.out
      have hnc78 := NB297_291.out
      have hcz79_0 : w49.cell? ⟨gb291, 0, none⟩ = some (.int .i64 t286) := (qi BK291.out 0).trans rfl
      have hcz79_1 : w49.cell? ⟨gb291, 1, none⟩ = some (.int .i64 t287) := (qi BK291.out 1).trans rfl
      have hcz79_2 : w49.cell? ⟨gb291, 2, none⟩ = some (.bool t288) := (qi BK291.out 2).trans rfl
      have hfz79_0 := qj BK291.out 0
      have hfz79_1 := qj BK291.out 1
      have hfz79_2 := qj BK291.out 2
      go_wp2_with (first | ((with_reducible refine qw (f := 48) rfl ?_); refine zj (some 55) rfl rfl Try.func48 (by kernel_rfl) rfl #[.agg #[.int .i64 t304, .int .i64 t305, .bool t306], .agg #[.int .i64 t286, .int .i64 t287, .bool t288]] rfl (by (try simp only [List.map_toArray, List.map_cons, List.map_nil]); first | done | rfl | (simp only [List.length_drop, List.length_take]; rfl)) ?_; (with_reducible refine (laws_eqBlock.calls t304 t305 t306 t286 t287 t288 false _ A54.out).mono ?_); rintro e w80 ⟨rfl, hb⟩; refine ⟨_, rfl, ?_⟩; have n0_ := qd.mk (Kd.zc (by (with_reducible repeat (first | apply Kd.qt | apply Kd.qu | apply Kd.qx)); exact (Kd.zm (Kd.R_far (p := ⟨gb309, 2, none⟩) (Kd.R_far (p := ⟨gb309, 1, none⟩) (Kd.R_far (p := ⟨gb309, 0, none⟩) (Kd.zm HO279.out (fun k_ hk => (⟨hk, hk.2⟩ : _ ∧ k_ ≠ gb309))) (fun _ hk => hk.2) (.int .i64 t304)) (fun _ hk => hk.2) (.int .i64 t305)) (fun _ hk => hk.2) (.bool t306)) (fun _ h_ => h_.1))) hb); have n1_ := qd.mk (Kd.zc (by (with_reducible repeat (first | apply Kd.qt | apply Kd.qu | apply Kd.qx)); exact (Kd.zm (Kd.R_far (p := ⟨gb309, 2, none⟩) (Kd.R_far (p := ⟨gb309, 1, none⟩) (Kd.R_far (p := ⟨gb309, 0, none⟩) (Kd.zz HO282.out BK309.out (by decide)) (fun _ hk => hk.2) (.int .i64 t304)) (fun _ hk => hk.2) (.int .i64 t305)) (fun _ hk => hk.2) (.bool t306)) (fun _ h_ => h_.1))) hb); have n2_ := qd.mk (Kd.zc (by (with_reducible repeat (first | apply Kd.qt | apply Kd.qu | apply Kd.qx)); exact (Kd.zm (Kd.R_far (p := ⟨gb309, 2, none⟩) (Kd.R_far (p := ⟨gb309, 1, none⟩) (Kd.R_far (p := ⟨gb309, 0, none⟩) (Kd.zz HO285.out BK309.out (by decide)) (fun _ hk => hk.2) (.int .i64 t304)) (fun _ hk => hk.2) (.int .i64 t305)) (fun _ hk => hk.2) (.bool t306)) (fun _ h_ => h_.1))) hb); have n3_ := qd.mk (Kd.zc (by (with_reducible repeat (first | apply Kd.qt | apply Kd.qu | apply Kd.qx)); exact (Kd.zm (Kd.R_far (p := ⟨gb309, 2, none⟩) (Kd.R_far (p := ⟨gb309, 1, none⟩) (Kd.R_far (p := ⟨gb309, 0, none⟩) (Kd.zm HO296.out (fun k_ hk => (⟨hk, hk.2⟩ : _ ∧ k_ ≠ gb309))) (fun _ hk => hk.2) (.int .i64 t304)) (fun _ hk => hk.2) (.int .i64 t305)) (fun _ hk => hk.2) (.bool t306)) (fun _ h_ => h_.1))) hb); have n4_ := qd.mk (Kd.zc (by (with_reducible repeat (first | apply Kd.qt | apply Kd.qu | apply Kd.qx)); exact (Kd.zm (Kd.R_far (p := ⟨gb309, 2, none⟩) (Kd.R_far (p := ⟨gb309, 1, none⟩) (Kd.R_far (p := ⟨gb309, 0, none⟩) (Kd.zz HO300.out BK309.out (by decide)) (fun _ hk => hk.2) (.int .i64 t304)) (fun _ hk => hk.2) (.int .i64 t305)) (fun _ hk => hk.2) (.bool t306)) (fun _ h_ => h_.1))) hb); have n5_ := qd.mk (Kd.zc (by (with_reducible repeat (first | apply Kd.qt | apply Kd.qu | apply Kd.qx)); exact (Kd.zm (Kd.R_far (p := ⟨gb309, 2, none⟩) (Kd.R_far (p := ⟨gb309, 1, none⟩) (Kd.R_far (p := ⟨gb309, 0, none⟩) (Kd.zz HO303.out BK309.out (by decide)) (fun _ hk => hk.2) (.int .i64 t304)) (fun _ hk => hk.2) (.int .i64 t305)) (fun _ hk => hk.2) (.bool t306)) (fun _ h_ => h_.1))) hb); have n6_ := qd.mk (ql (g := gb273) (o := .cells #[.int .i64 a0_0, .int .i64 a0_1, .slice A0_2 l0_2.length c0_2] 24 (0, 0)) (by (with_reducible repeat (first | refine qc ?_ _ | refine qe ?_ | refine qb ?_ _)); refine qo ?_ NB273_309.out _; (with_reducible repeat (first | refine qc ?_ _ | refine qe ?_ | refine qb ?_ _)); refine qo ?_ NB273_309.out _; (with_reducible repeat (first | refine qc ?_ _ | refine qe ?_ | refine qb ?_ _)); refine qo ?_ NB273_309.out _; (with_reducible repeat (first | refine qc ?_ _ | refine qe ?_ | refine qb ?_ _)); exact BK273.out) hb); have n7_ := qd.mk (ql (g := gb291) (o := .cells #[.int .i64 t286, .int .i64 t287, .bool t288] 38 (0, 0)) (by (with_reducible repeat (first | refine qc ?_ _ | refine qe ?_ | refine qb ?_ _)); refine qo ?_ NB291_309.out _; (with_reducible repeat (first | refine qc ?_ _ | refine qe ?_ | refine qb ?_ _)); refine qo ?_ NB291_309.out _; (with_reducible repeat (first | refine qc ?_ _ | refine qe ?_ | refine qb ?_ _)); refine qo ?_ NB291_309.out _; (with_reducible repeat (first | refine qc ?_ _ | refine qe ?_ | refine qb ?_ _)); exact BK291.out) hb); have n8_ := qd.mk (ql (g := gb297) (o := .cells #[.int .i64 t292, .int .i64 t293, .slice Ao42 t294.length co42] 30 (0, 0)) (by (with_reducible repeat (first | refine qc ?_ _ | refine qe ?_ | refine qb ?_ _)); refine qo ?_ NB297_309.out _; (with_reducible repeat (first | refine qc ?_ _ | refine qe ?_ | refine qb ?_ _)); refine qo ?_ NB297_309.out _; (with_reducible repeat (first | refine qc ?_ _ | refine qe ?_ | refine qb ?_ _)); refine qo ?_ NB297_309.out _; (with_reducible repeat (first | refine qc ?_ _ | refine qe ?_ | refine qb ?_ _)); exact BK297.out) hb); have n9_ := qd.mk (ql (g := gb309) (o := .cells #[.int .i64 t304, .int .i64 t305, .bool t306] 38 (0, 0)) (by (with_reducible repeat (first | refine qc ?_ _ | refine qe ?_ | refine qb ?_ _)); refine qv (cs := #[.int .i64 t304, .int .i64 t305, .bool false]) ?_ 2 _ rfl; (with_reducible repeat (first | refine qc ?_ _ | refine qe ?_ | refine qb ?_ _)); refine qv (cs := #[.int .i64 t304, .int .i64 0, .bool false]) ?_ 1 _ rfl; (with_reducible repeat (first | refine qc ?_ _ | refine qe ?_ | refine qb ?_ _)); refine qv (cs := #[.int .i64 0, .int .i64 0, .bool false]) ?_ 0 _ rfl; (with_reducible repeat (first | refine qc ?_ _ | refine qe ?_ | refine qb ?_ _)); exact BK309.out) hb); have n10_ := qd.mk (qn (be4_ HB GE273 GE291 GE297 GE309) hb); clear HO279; clear HO282; clear HO285; clear HO296; clear HO300; clear HO303; clear BK273; clear BK291; clear BK297; clear BK309; clear HB; have HO279 := n0_; have HO282 := n1_; have HO285 := n2_; have HO296 := n3_; have HO300 := n4_; have HO303 := n5_; have BK273 := n6_; have BK291 := n7_; have BK297 := n8_; have BK309 := n9_; have HB := n10_; clear n0_ n1_ n2_ n3_ n4_ n5_ n6_ n7_ n8_ n9_ n10_; (try clear hb); (try clear hb2); (try clear hk); (try clear hi)))
      go_meet
      case rel => exact ⟨_, (true), (by first | rfl | (simp; done) | (simp [*]; done)), H', ⟨by first | omega | exact Nat.le_refl _⟩, ⟨by (with_reducible repeat (first | apply Kd.qt | apply Kd.qu | apply Kd.qx)); exact Kd.zm HO300.out (fun _ hk => hk.2)⟩, ⟨by (with_reducible repeat (first | apply Kd.qt | apply Kd.qu | apply Kd.qx)); exact Kd.zm HO303.out (fun _ hk => hk.2)⟩, ⟨by (with_reducible repeat (first | apply Kd.qt | apply Kd.qu | apply Kd.qx)); exact Kd.zm HO296.out (fun _ hk => ⟨hk.1.2, hk.2⟩)⟩, ⟨bk_ BK273⟩, ⟨bk_ BK291⟩, ⟨bk_ BK297⟩, ⟨bk_ BK309⟩, ⟨be4_ HB GE273 GE291 GE297 GE309⟩⟩
    case rest =>
     clear HC21
     try clear c1
     try clear c2
     try clear c4
     try clear c4b0
     try clear c4b1
     try clear c6
     try clear c6b0
     try clear c6b1
     try clear c9
     try clear c9b0
     try clear c55
     try clear c56
     try clear c56b0
     try clear c56b1
     try clear hcz11_0
     try clear hcz11_1
     try clear hcz11_2
     try clear hcz23_0
     try clear hcz23_1
     try clear hcz23_2
     try clear hcz25_0
     try clear hcz25_1
     try clear hcz25_2
     try clear hcz35_0
     try clear hcz35_1
     try clear hcz35_2
     try clear hcz36_0
     try clear hcz36_1
     try clear hcz36_2
     try clear hcz41_0
     try clear hcz41_1
     try clear hcz41_2
     try clear hcz45_0
     try clear hcz45_1
     try clear hcz45_2
     try clear hcz53_0
     try clear hcz53_1
     try clear hcz53_2
     try clear hcz60_0
     try clear hcz60_1
     try clear hcz60_2
     try clear hcz63_0
     try clear hcz63_1
     try clear hcz63_2
     try clear hcz68_0
     try clear hcz68_1
     try clear hcz68_2
     try clear hcz71_0
     try clear hcz71_1
     try clear hcz71_2
     try clear hcz76_0
     try clear hcz76_1
     try clear hcz76_2
     try clear hcz79_0
     try clear hcz79_1
     try clear hcz79_2
     try clear hfz11_0
     try clear hfz11_1
     try clear hfz11_2
     try clear hfz23_0
     try clear hfz23_1
     try clear hfz23_2
     try clear hfz25_0
     try clear hfz25_1
     try clear hfz25_2
     try clear hfz35_0
     try clear hfz35_1
     try clear hfz35_2
     try clear hfz36_0
     try clear hfz36_1
     try clear hfz36_2
     try clear hfz41_0
     try clear hfz41_1
     try clear hfz41_2
     try clear hfz45_0
     try clear hfz45_1
     try clear hfz45_2
     try clear hfz53_0
     try clear hfz53_1
     try clear hfz53_2
     try clear hfz60_0
     try clear hfz60_1
     try clear hfz60_2
     try clear hfz63_0
     try clear hfz63_1
     try clear hfz63_2
     try clear hfz68_0
     try clear hfz68_1
     try clear hfz68_2
     try clear hfz71_0
     try clear hfz71_1
     try clear hfz71_2
     try clear hfz76_0
     try clear hfz76_1
     try clear hfz76_2
     try clear hfz79_0
     try clear hfz79_1
     try clear hfz79_2
     obtain ⟨kq, x66_20, rfl, HA, HJ20, HO_12, HO_13, HO_298002, BK273, BK291, BK297, BK309, HB⟩ := hcut
     cases kq with
     | zero => exact absurd HA.out (by simp [laws_FnExactBestToOpen.j0])
     | succ kj20 =>
      have H := HA.out
      clear HA
      simp only [laws_FnExactBestToOpen.j0] at H
      by_cases c81 : x66_20 = true
      ·subst c81
       have H1 : (some false) = some r := by rw [if_pos rfl] at H; exact H
       clear H
       have H := H1
       clear H1
       obtain rfl := Option.some.inj H
       go_wp2
       go_ret
       exact ⟨by first | rfl | (simp [qq, qp] <;> rfl) | (simp [*, qq, qp] <;> rfl), be4_ HB GE273 GE291 GE297 GE309⟩
      ·replace c81 := Bool.eq_false_iff.mpr c81
       subst c81
       have H1 : ((laws_toCity.f kj20 a0_0 a0_1 l0_2).bind fun bt311 => ((laws_eqCity.f kj20 t292 t293 t294 bt311.1 bt311.2.1 bt311.2.2).bind fun t316 => (if t316 = true then ((laws_toIntS.f kj20 l1).bind fun t317 => ((laws_eqIntS.f kj20 t298 t317).bind fun t320 => (if t320 = true then ((laws_toIntS.f kj20 l2).bind fun t321 => ((laws_eqIntS.f kj20 t301 t321).bind fun t324 => (if t324 = true then (some true) else (some false)))) else (some false)))) else (some false)))) = some r := by rw [if_neg (show ¬ (false = true) by decide)] at H; exact H
       clear H
       have H := H1
       clear H1
       replace H := Option.bind_eq_some_iff.mp H
       obtain ⟨⟨t311, t312, t313⟩, A820, H⟩ := H
       replace H : ((laws_eqCity.f kj20 t292 t293 t294 t311 t312 t313).bind fun t316 => (if t316 = true then ((laws_toIntS.f kj20 l1).bind fun t317 => ((laws_eqIntS.f kj20 t298 t317).bind fun t320 => (if t320 = true then ((laws_toIntS.f kj20 l2).bind fun t321 => ((laws_eqIntS.f kj20 t301 t321).bind fun t324 => (if t324 = true then (some true) else (some false)))) else (some false)))) else (some false))) = some r := H
       have A82 := qd.mk A820
       clear A820
       replace H := Option.bind_eq_some_iff.mp H
       obtain ⟨t316, A830, H⟩ := H
       replace H : (if t316 = true then ((laws_toIntS.f kj20 l1).bind fun t317 => ((laws_eqIntS.f kj20 t298 t317).bind fun t320 => (if t320 = true then ((laws_toIntS.f kj20 l2).bind fun t321 => ((laws_eqIntS.f kj20 t301 t321).bind fun t324 => (if t324 = true then (some true) else (some false)))) else (some false)))) else (some false)) = some r := H
       have A83 := qd.mk A830
       clear A830
       by_cases c84 : t316 = true
       ·subst c84
        have H1 : ((laws_toIntS.f kj20 l1).bind fun t317 => ((laws_eqIntS.f kj20 t298 t317).bind fun t320 => (if t320 = true then ((laws_toIntS.f kj20 l2).bind fun t321 => ((laws_eqIntS.f kj20 t301 t321).bind fun t324 => (if t324 = true then (some true) else (some false)))) else (some false)))) = some r := by rw [if_pos rfl] at H; exact H
        clear H
        have H := H1
        clear H1
        replace H := Option.bind_eq_some_iff.mp H
        obtain ⟨t317, A850, H⟩ := H
        replace H : ((laws_eqIntS.f kj20 t298 t317).bind fun t320 => (if t320 = true then ((laws_toIntS.f kj20 l2).bind fun t321 => ((laws_eqIntS.f kj20 t301 t321).bind fun t324 => (if t324 = true then (some true) else (some false)))) else (some false))) = some r := H
        have A85 := qd.mk A850
        clear A850
        replace H := Option.bind_eq_some_iff.mp H
        obtain ⟨t320, A860, H⟩ := H
        replace H : (if t320 = true then ((laws_toIntS.f kj20 l2).bind fun t321 => ((laws_eqIntS.f kj20 t301 t321).bind fun t324 => (if t324 = true then (some true) else (some false)))) else (some false)) = some r := H
        have A86 := qd.mk A860
        clear A860
        by_cases c87 : t320 = true
        ·subst c87
         have H1 : ((laws_toIntS.f kj20 l2).bind fun t321 => ((laws_eqIntS.f kj20 t301 t321).bind fun t324 => (if t324 = true then (some true) else (some false)))) = some r := by rw [if_pos rfl] at H; exact H
         clear H
         have H := H1
         clear H1
         replace H := Option.bind_eq_some_iff.mp H
         obtain ⟨t321, A880, H⟩ := H
         replace H : ((laws_eqIntS.f kj20 t301 t321).bind fun t324 => (if t324 = true then (some true) else (some false))) = some r := H
         have A88 := qd.mk A880
         clear A880
         replace H := Option.bind_eq_some_iff.mp H
         obtain ⟨t324, A890, H⟩ := H
         replace H : (if t324 = true then (some true) else (some false)) = some r := H
         have A89 := qd.mk A890
         clear A890
         by_cases c90 : t324 = true
         ·subst c90
          have H1 : (some true) = some r := by rw [if_pos rfl] at H; exact H
          clear H
          have H := H1
          clear H1
          obtain rfl := Option.some.inj H
          try go_wp2
          have n0_ := qd.mk (Kd.qx HO_12.out)
          have n1_ := qd.mk (Kd.qx HO_13.out)
          have n2_ := qd.mk (Kd.qx HO_298002.out)
          have n3_ := qd.mk (qe BK273.out)
          have n4_ := qd.mk (qe BK291.out)
          have n5_ := qd.mk (qe BK297.out)
          have n6_ := qd.mk (qe BK309.out)
          have n7_ := qd.mk (qh HB.out)
          clear HO_12
          clear HO_13
          clear HO_298002
          clear BK273
          clear BK291
          clear BK297
          clear BK309
          clear HB
          have HO_12 := n0_
          have HO_13 := n1_
          have HO_298002 := n2_
          have BK273 := n3_
          have BK291 := n4_
          have BK297 := n5_
          have BK309 := n6_
          have HB := n7_
          clear n0_ n1_ n2_ n3_ n4_ n5_ n6_ n7_
          refine jj (n := 5) (S := fun w' => w'.cell? ⟨gb297, 0, none⟩ = some (.int .i64 t292) ∧ w'.cell? ⟨gb297, 1, none⟩ = some (.int .i64 t293) ∧ w'.cell? ⟨gb297, 2, none⟩ = some (.slice Ao42 t294.length co42) ∧ w'.cell? ⟨gb273, 0, none⟩ = some (.int .i64 a0_0) ∧ w'.cell? ⟨gb273, 1, none⟩ = some (.int .i64 a0_1) ∧ w'.cell? ⟨gb273, 2, none⟩ = some (.slice A0_2 l0_2.length c0_2)) (ds := []) #[false, false, false, false, false] (by kernel_rfl) rfl rfl ⟨(qi BK297.out 0).trans rfl, (qi BK297.out 1).trans rfl, (qi BK297.out 2).trans rfl, (qi BK273.out 0).trans rfl, (qi BK273.out 1).trans rfl, (qi BK273.out 2).trans rfl⟩ (fun hHeld => ?_)
          generalize wc.drew = w91 at HO_12 HO_13 HO_298002 BK273 BK291 BK297 BK309 HB hHeld ⊢
          refine take_ (i := 0) (N := some 67) (v := ?_) (a' := ?_) #[true, false, false, false, false] rfl rfl (by kernel_rfl) (fun _ _ _ h => h) (Or.inl ⟨by rfl, ?_⟩) hHeld ?_ ?_
          rotate_left
          ·rintro w' ⟨s0, s1, s2, s3, s4, s5⟩
           go_simp
           with_reducible rfl
          rotate_left
          ·simp only [Act.put, sA_, sB_, sC_, i64_w, i32_w]
           rfl
          refine take_ (i := 1) (N := some 68) (v := ?_) (a' := ?_) #[true, true, false, false, false] rfl rfl (by kernel_rfl) (fun _ _ _ h => h) (Or.inl ⟨by rfl, ?_⟩) hHeld ?_ ?_
          rotate_left
          ·rintro w' ⟨s0, s1, s2, s3, s4, s5⟩
           go_simp
           with_reducible rfl
          rotate_left
          ·simp only [Act.put, sA_, sB_, sC_, i64_w, i32_w]
           rfl
          refine one_ (i := 2) (N := some 69) #[true, true, true, false, false] rfl rfl (by kernel_rfl) (by decide) (fun K hK => ?_)
          refine goes_ Try.func20 (by kernel_rfl) rfl #[.agg #[.int .i64 a0_0, .int .i64 a0_1, .slice A0_2 l0_2.length c0_2]] (by rfl) rfl rfl (by (try simp only [List.map_toArray, List.map_cons, List.map_nil]); first | done | rfl | (simp only [List.length_drop, List.length_take]; rfl)) ?_
          with_reducible refine (laws_toCity.calls kj20 a0_0 a0_1 _ _ l0_2 t311 t312 t313 _ ?side1 ?side2 A82.out).mono ?_
          (case side1 => repeat (first | exact (Kd.zf HR0_2.out HB.out) | (with_reducible refine Kd.ze ?_ _) | (with_reducible refine Kd.zd ?_ _) | (with_reducible refine Kd.zh ?_)))
          (case side2 => exact HC0_2.out)
          rintro e w92 ⟨v314, rfl, ho0, hb⟩
          refine ⟨_, rfl, ?_⟩
          have n0_ := qd.mk (Kd.zc (kr_ HO_12) hb)
          have n1_ := qd.mk (Kd.zc (kr_ HO_13) hb)
          have n2_ := qd.mk (Kd.zw (kr_ HO_298002) (Kd.zx ho0) hb)
          have n3_ := qd.mk (Kd.zq (Kd.jg (Kd.jg (Kd.jh ho0 (Kd.R_lt (kr_ HO_298002))) (g := gb291) (o := .cells #[.int .i64 t286, .int .i64 t287, .bool t288] 38 (0, 0)) (bk_ BK291)) (g := gb309) (o := .cells #[.int .i64 t304, .int .i64 t305, .bool t306] 38 (0, 0)) (bk_ BK309)) (qm (be4_ HB GE273 GE291 GE297 GE309)))
          have n4_ := qd.mk (ql (g := gb273) (o := .cells #[.int .i64 a0_0, .int .i64 a0_1, .slice A0_2 l0_2.length c0_2] 24 (0, 0)) (bk_ BK273) hb)
          have n5_ := qd.mk (ql (g := gb291) (o := .cells #[.int .i64 t286, .int .i64 t287, .bool t288] 38 (0, 0)) (bk_ BK291) hb)
          have n6_ := qd.mk (ql (g := gb297) (o := .cells #[.int .i64 t292, .int .i64 t293, .slice Ao42 t294.length co42] 30 (0, 0)) (bk_ BK297) hb)
          have n7_ := qd.mk (ql (g := gb309) (o := .cells #[.int .i64 t304, .int .i64 t305, .bool t306] 38 (0, 0)) (bk_ BK309) hb)
          have n8_ := qd.mk (qn (be4_ HB GE273 GE291 GE297 GE309) hb)
          clear HO_12
          clear HO_13
          clear HO_298002
          clear BK273
          clear BK291
          clear BK297
          clear BK309
          clear HB
          have HO_12 := n0_
          have HO_13 := n1_
          have HO_298002 := n2_
          have HO315 := n3_
          have BK273 := n4_
          have BK291 := n5_
          have BK297 := n6_
          have BK309 := n7_
          have HB := n8_
          clear n0_ n1_ n2_ n3_ n4_ n5_ n6_ n7_ n8_
          (try clear hb)
          (try clear hb2)
          (try clear hk)
          (try clear hi)
          (try clear ho0)
          obtain ⟨Ao93, co93, eo93⟩ := Kd.zr HO315.out
          (first | subst eo93 | (injection eo93 with f1_ f2_ f3_; have f4_ := f1_.symm; have f5_ := f3_.symm; clear f1_ f2_ f3_; subst f4_; subst f5_))
          refine hK.out _ _ ⟨(qi BK297.out 0).trans rfl, (qi BK297.out 1).trans rfl, (qi BK297.out 2).trans rfl, (qi BK273.out 0).trans rfl, (qi BK273.out 1).trans rfl, (qi BK273.out 2).trans rfl⟩ (fun hHeld => ?_)
          clear hK K
          refine norm_ (a' := ?_) ?_ ?_
          rotate_left
          ·show Act.put _ (some 69) _ = _
           simp only [Act.put, sA_, sB_, sC_, i64_w, i32_w]
           rfl
          refine one_ (i := 3) (N := some 70) #[true, true, true, true, false] rfl rfl (by kernel_rfl) (by decide) (fun K hK => ?_)
          refine goes_ Try.func22 (by kernel_rfl) rfl #[.agg #[.int .i64 t292, .int .i64 t293, .slice Ao42 t294.length co42], .agg #[.int .i64 t311, .int .i64 t312, .slice Ao93 t313.length co93]] (by rfl) rfl rfl (by (try simp only [List.map_toArray, List.map_cons, List.map_nil]); first | done | rfl | (simp only [List.length_drop, List.length_take]; rfl)) ?_
          with_reducible refine (laws_eqCity.calls kj20 t292 t293 _ _ t294 t311 t312 _ _ t313 true _ ?side1 ?side2 ?side3 ?side4 A83.out).mono ?_
          (case side1 => repeat (first | exact (Kd.zb HO_298002.out).2.2 | (with_reducible refine Kd.ze ?_ _) | (with_reducible refine Kd.zd ?_ _) | (with_reducible refine Kd.zh ?_)))
          (case side2 => exact (Kd.zb HO_298002.out).2.1)
          (case side3 => repeat (first | exact (Kd.zb HO315.out).2.2 | (with_reducible refine Kd.ze ?_ _) | (with_reducible refine Kd.zd ?_ _) | (with_reducible refine Kd.zh ?_)))
          (case side4 => exact (Kd.zb HO315.out).2.1)
          rintro e w94 ⟨rfl, hb⟩
          refine ⟨_, rfl, ?_⟩
          have n0_ := qd.mk (Kd.zc (kr_ HO_12) hb)
          have n1_ := qd.mk (Kd.zc (kr_ HO_13) hb)
          have n2_ := qd.mk (Kd.zc (kr_ HO_298002) hb)
          have n3_ := qd.mk (Kd.zc (kr_ HO315) hb)
          have n4_ := qd.mk (ql (g := gb273) (o := .cells #[.int .i64 a0_0, .int .i64 a0_1, .slice A0_2 l0_2.length c0_2] 24 (0, 0)) (bk_ BK273) hb)
          have n5_ := qd.mk (ql (g := gb291) (o := .cells #[.int .i64 t286, .int .i64 t287, .bool t288] 38 (0, 0)) (bk_ BK291) hb)
          have n6_ := qd.mk (ql (g := gb297) (o := .cells #[.int .i64 t292, .int .i64 t293, .slice Ao42 t294.length co42] 30 (0, 0)) (bk_ BK297) hb)
          have n7_ := qd.mk (ql (g := gb309) (o := .cells #[.int .i64 t304, .int .i64 t305, .bool t306] 38 (0, 0)) (bk_ BK309) hb)
          have n8_ := qd.mk (qn (be4_ HB GE273 GE291 GE297 GE309) hb)
          clear HO_12
          clear HO_13
          clear HO_298002
          clear HO315
          clear BK273
          clear BK291
          clear BK297
          clear BK309
          clear HB
          have HO_12 := n0_
          have HO_13 := n1_
          have HO_298002 := n2_
          have HO315 := n3_
          have BK273 := n4_
          have BK291 := n5_
          have BK297 := n6_
          have BK309 := n7_
          have HB := n8_
          clear n0_ n1_ n2_ n3_ n4_ n5_ n6_ n7_ n8_
          (try clear hb)
          (try clear hb2)
          (try clear hk)
          (try clear hi)
          refine hK.out _ _ ⟨(qi BK297.out 0).trans rfl, (qi BK297.out 1).trans rfl, (qi BK297.out 2).trans rfl, (qi BK273.out 0).trans rfl, (qi BK273.out 1).trans rfl, (qi BK273.out 2).trans rfl⟩ (fun hHeld => ?_)
          clear hK K
          refine norm_ (a' := ?_) ?_ ?_
          rotate_left
          ·show Act.put _ (some 70) _ = _
           simp only [Act.put, sA_, sB_, sC_, i64_w, i32_w]
           rfl
          refine pure_ (i := 4) (N := some 71) (v := ?_) (a' := ?_) #[true, true, true, true, true] rfl rfl (by kernel_rfl) (fun _ _ _ h => h) (Or.inl ⟨by rfl, ?_⟩) ?_ ?_
          rotate_left
          ·intro w'
           go_simp
           with_reducible rfl
          rotate_left
          ·simp only [Act.put, sA_, sB_, sC_, i64_w, i32_w]
           rfl
          refine done_ (by kernel_rfl) ?_
          try go_wp2_with (first | ((with_reducible refine qw (f := 29) rfl ?_); refine zj (some 74) rfl rfl Try.func29 (by kernel_rfl) rfl #[.slice A1 l1.length c1] rfl (by (try simp only [List.map_toArray, List.map_cons, List.map_nil]); first | done | rfl | (simp only [List.length_drop, List.length_take]; rfl)) ?_; (with_reducible refine (laws_toIntS.calls kj20 _ _ l1 t317 _ ?side1 ?side2 A85.out).mono ?_); (case side1 => repeat (first | exact (Kd.zf HR1.out HB.out) | (with_reducible refine Kd.ze ?_ _) | (with_reducible refine Kd.zd ?_ _) | (with_reducible refine Kd.zh ?_))); (case side2 => exact HC1.out); rintro e w95 ⟨v318, rfl, ho0, hb⟩; refine ⟨_, rfl, ?_⟩; have n0_ := qd.mk (Kd.zw (kr_ HO_12) (Kd.zx ho0) hb); have n1_ := qd.mk (Kd.zw (kr_ HO_13) (Kd.zx ho0) hb); have n2_ := qd.mk (Kd.zc (kr_ HO_298002) hb); have n3_ := qd.mk (Kd.zc (kr_ HO315) hb); have n4_ := qd.mk (Kd.zq (Kd.jh (Kd.jh ho0 (Kd.R_lt (kr_ HO_12))) (Kd.R_lt (kr_ HO_13))) (qm (be4_ HB GE273 GE291 GE297 GE309))); have n5_ := qd.mk (ql (g := gb273) (o := .cells #[.int .i64 a0_0, .int .i64 a0_1, .slice A0_2 l0_2.length c0_2] 24 (0, 0)) (bk_ BK273) hb); have n6_ := qd.mk (ql (g := gb291) (o := .cells #[.int .i64 t286, .int .i64 t287, .bool t288] 38 (0, 0)) (bk_ BK291) hb); have n7_ := qd.mk (ql (g := gb297) (o := .cells #[.int .i64 t292, .int .i64 t293, .slice Ao42 t294.length co42] 30 (0, 0)) (bk_ BK297) hb); have n8_ := qd.mk (ql (g := gb309) (o := .cells #[.int .i64 t304, .int .i64 t305, .bool t306] 38 (0, 0)) (bk_ BK309) hb); have n9_ := qd.mk (qn (be4_ HB GE273 GE291 GE297 GE309) hb); clear HO_12; clear HO_13; clear HO_298002; clear HO315; clear BK273; clear BK291; clear BK297; clear BK309; clear HB; have HO_12 := n0_; have HO_13 := n1_; have HO_298002 := n2_; have HO315 := n3_; have HO319 := n4_; have BK273 := n5_; have BK291 := n6_; have BK297 := n7_; have BK309 := n8_; have HB := n9_; clear n0_ n1_ n2_ n3_ n4_ n5_ n6_ n7_ n8_ n9_; (try clear hb); (try clear hb2); (try clear hk); (try clear hi); (try clear ho0); obtain ⟨Ao96, co96, eo96⟩ := Kd.zr HO319.out; subst eo96) | ((with_reducible refine qw (f := 31) rfl ?_); refine zj (some 75) rfl rfl Try.func31 (by kernel_rfl) rfl #[.slice Ao46 t298.length co46, .slice Ao96 t317.length co96] rfl (by (try simp only [List.map_toArray, List.map_cons, List.map_nil]); first | done | rfl | (simp only [List.length_drop, List.length_take]; rfl)) ?_; (with_reducible refine (laws_eqIntS.calls kj20 _ _ t298 _ _ t317 true _ ?side1 ?side2 ?side3 ?side4 A86.out).mono ?_); (case side1 => repeat (first | exact (Kd.zb HO_12.out).2.2 | (with_reducible refine Kd.ze ?_ _) | (with_reducible refine Kd.zd ?_ _) | (with_reducible refine Kd.zh ?_))); (case side2 => exact (Kd.zb HO_12.out).2.1); (case side3 => repeat (first | exact (Kd.zb HO319.out).2.2 | (with_reducible refine Kd.ze ?_ _) | (with_reducible refine Kd.zd ?_ _) | (with_reducible refine Kd.zh ?_))); (case side4 => exact (Kd.zb HO319.out).2.1); rintro e w' ⟨rfl, ⟨nd, rfl⟩⟩; refine ⟨_, rfl, ?_⟩) | ((with_reducible refine qw (f := 29) rfl ?_); refine zj (some 79) rfl rfl Try.func29 (by kernel_rfl) rfl #[.slice A2 l2.length c2] rfl (by (try simp only [List.map_toArray, List.map_cons, List.map_nil]); first | done | rfl | (simp only [List.length_drop, List.length_take]; rfl)) ?_; (with_reducible refine (laws_toIntS.calls kj20 _ _ l2 t321 _ ?side1 ?side2 A88.out).mono ?_); (case side1 => repeat (first | exact (Kd.zf HR2.out (be4_ HB GE273 GE291 GE297 GE309)) | (with_reducible refine Kd.ze ?_ _) | (with_reducible refine Kd.zd ?_ _) | (with_reducible refine Kd.zh ?_))); (case side2 => exact HC2.out); rintro e w97 ⟨v322, rfl, ho0, hb⟩; refine ⟨_, rfl, ?_⟩; have n0_ := qd.mk (Kd.zw (kr_ HO_12) (Kd.zx ho0) hb); have n1_ := qd.mk (Kd.zw (kr_ HO_13) (Kd.zx ho0) hb); have n2_ := qd.mk (Kd.zc (kr_ HO_298002) hb); have n3_ := qd.mk (Kd.zc (kr_ HO315) hb); have n4_ := qd.mk (Kd.zw (kr_ HO319) (Kd.zx ho0) hb); have n5_ := qd.mk (Kd.zq (Kd.jh (Kd.jh (Kd.jh ho0 (Kd.R_lt (kr_ HO_12))) (Kd.R_lt (kr_ HO_13))) (Kd.R_lt (kr_ HO319))) (qm (be4_ HB GE273 GE291 GE297 GE309))); have n6_ := qd.mk (ql (g := gb273) (o := .cells #[.int .i64 a0_0, .int .i64 a0_1, .slice A0_2 l0_2.length c0_2] 24 (0, 0)) (bk_ BK273) hb); have n7_ := qd.mk (ql (g := gb291) (o := .cells #[.int .i64 t286, .int .i64 t287, .bool t288] 38 (0, 0)) (bk_ BK291) hb); have n8_ := qd.mk (ql (g := gb297) (o := .cells #[.int .i64 t292, .int .i64 t293, .slice Ao42 t294.length co42] 30 (0, 0)) (bk_ BK297) hb); have n9_ := qd.mk (ql (g := gb309) (o := .cells #[.int .i64 t304, .int .i64 t305, .bool t306] 38 (0, 0)) (bk_ BK309) hb); have n10_ := qd.mk (qn (be4_ HB GE273 GE291 GE297 GE309) hb); clear HO_12; clear HO_13; clear HO_298002; clear HO315; clear HO319; clear BK273; clear BK291; clear BK297; clear BK309; clear HB; have HO_12 := n0_; have HO_13 := n1_; have HO_298002 := n2_; have HO315 := n3_; have HO319 := n4_; have HO323 := n5_; have BK273 := n6_; have BK291 := n7_; have BK297 := n8_; have BK309 := n9_; have HB := n10_; clear n0_ n1_ n2_ n3_ n4_ n5_ n6_ n7_ n8_ n9_ n10_; (try clear hb); (try clear hb2); (try clear hk); (try clear hi); (try clear ho0); obtain ⟨Ao98, co98, eo98⟩ := Kd.zr HO323.out; subst eo98) | ((with_reducible refine qw (f := 31) rfl ?_); refine zj (some 80) rfl rfl Try.func31 (by kernel_rfl) rfl #[.slice Ao47 t301.length co47, .slice Ao98 t321.length co98] rfl (by (try simp only [List.map_toArray, List.map_cons, List.map_nil]); first | done | rfl | (simp only [List.length_drop, List.length_take]; rfl)) ?_; (with_reducible refine (laws_eqIntS.calls kj20 _ _ t301 _ _ t321 true _ ?side1 ?side2 ?side3 ?side4 A89.out).mono ?_); (case side1 => repeat (first | exact (Kd.zb HO_13.out).2.2 | (with_reducible refine Kd.ze ?_ _) | (with_reducible refine Kd.zd ?_ _) | (with_reducible refine Kd.zh ?_))); (case side2 => exact (Kd.zb HO_13.out).2.1); (case side3 => repeat (first | exact (Kd.zb HO323.out).2.2 | (with_reducible refine Kd.ze ?_ _) | (with_reducible refine Kd.zd ?_ _) | (with_reducible refine Kd.zh ?_))); (case side4 => exact (Kd.zb HO323.out).2.1); rintro e w' ⟨rfl, ⟨nd, rfl⟩⟩; refine ⟨_, rfl, ?_⟩))
          go_ret
          exact ⟨by first | rfl | (simp [qq, qp] <;> rfl) | (simp [*, qq, qp] <;> rfl), be4_ HB GE273 GE291 GE297 GE309⟩
         ·replace c90 := Bool.eq_false_iff.mpr c90
          subst c90
          have H1 : (some false) = some r := by rw [if_neg (show ¬ (false = true) by decide)] at H; exact H
          clear H
          have H := H1
          clear H1
          obtain rfl := Option.some.inj H
          try go_wp2
          have n0_ := qd.mk (Kd.qx HO_12.out)
          have n1_ := qd.mk (Kd.qx HO_13.out)
          have n2_ := qd.mk (Kd.qx HO_298002.out)
          have n3_ := qd.mk (qe BK273.out)
          have n4_ := qd.mk (qe BK291.out)
          have n5_ := qd.mk (qe BK297.out)
          have n6_ := qd.mk (qe BK309.out)
          have n7_ := qd.mk (qh HB.out)
          clear HO_12
          clear HO_13
          clear HO_298002
          clear BK273
          clear BK291
          clear BK297
          clear BK309
          clear HB
          have HO_12 := n0_
          have HO_13 := n1_
          have HO_298002 := n2_
          have BK273 := n3_
          have BK291 := n4_
          have BK297 := n5_
          have BK309 := n6_
          have HB := n7_
          clear n0_ n1_ n2_ n3_ n4_ n5_ n6_ n7_
          refine jj (n := 5) (S := fun w' => w'.cell? ⟨gb297, 0, none⟩ = some (.int .i64 t292) ∧ w'.cell? ⟨gb297, 1, none⟩ = some (.int .i64 t293) ∧ w'.cell? ⟨gb297, 2, none⟩ = some (.slice Ao42 t294.length co42) ∧ w'.cell? ⟨gb273, 0, none⟩ = some (.int .i64 a0_0) ∧ w'.cell? ⟨gb273, 1, none⟩ = some (.int .i64 a0_1) ∧ w'.cell? ⟨gb273, 2, none⟩ = some (.slice A0_2 l0_2.length c0_2)) (ds := []) #[false, false, false, false, false] (by kernel_rfl) rfl rfl ⟨(qi BK297.out 0).trans rfl, (qi BK297.out 1).trans rfl, (qi BK297.out 2).trans rfl, (qi BK273.out 0).trans rfl, (qi BK273.out 1).trans rfl, (qi BK273.out 2).trans rfl⟩ (fun hHeld => ?_)
          generalize wc.drew = w99 at HO_12 HO_13 HO_298002 BK273 BK291 BK297 BK309 HB hHeld ⊢
          refine take_ (i := 0) (N := some 67) (v := ?_) (a' := ?_) #[true, false, false, false, false] rfl rfl (by kernel_rfl) (fun _ _ _ h => h) (Or.inl ⟨by rfl, ?_⟩) hHeld ?_ ?_
          rotate_left
          ·rintro w' ⟨s0, s1, s2, s3, s4, s5⟩
           go_simp
           with_reducible rfl
          rotate_left
          ·simp only [Act.put, sA_, sB_, sC_, i64_w, i32_w]
           rfl
          refine take_ (i := 1) (N := some 68) (v := ?_) (a' := ?_) #[true, true, false, false, false] rfl rfl (by kernel_rfl) (fun _ _ _ h => h) (Or.inl ⟨by rfl, ?_⟩) hHeld ?_ ?_
          rotate_left
          ·rintro w' ⟨s0, s1, s2, s3, s4, s5⟩
           go_simp
           with_reducible rfl
          rotate_left
          ·simp only [Act.put, sA_, sB_, sC_, i64_w, i32_w]
           rfl
          refine one_ (i := 2) (N := some 69) #[true, true, true, false, false] rfl rfl (by kernel_rfl) (by decide) (fun K hK => ?_)
          refine goes_ Try.func20 (by kernel_rfl) rfl #[.agg #[.int .i64 a0_0, .int .i64 a0_1, .slice A0_2 l0_2.length c0_2]] (by rfl) rfl rfl (by (try simp only [List.map_toArray, List.map_cons, List.map_nil]); first | done | rfl | (simp only [List.length_drop, List.length_take]; rfl)) ?_
          with_reducible refine (laws_toCity.calls kj20 a0_0 a0_1 _ _ l0_2 t311 t312 t313 _ ?side1 ?side2 A82.out).mono ?_
          (case side1 => repeat (first | exact (Kd.zf HR0_2.out HB.out) | (with_reducible refine Kd.ze ?_ _) | (with_reducible refine Kd.zd ?_ _) | (with_reducible refine Kd.zh ?_)))
          (case side2 => exact HC0_2.out)
          rintro e w100 ⟨v314, rfl, ho0, hb⟩
          refine ⟨_, rfl, ?_⟩
          have n0_ := qd.mk (Kd.zc (kr_ HO_12) hb)
          have n1_ := qd.mk (Kd.zc (kr_ HO_13) hb)
          have n2_ := qd.mk (Kd.zw (kr_ HO_298002) (Kd.zx ho0) hb)
          have n3_ := qd.mk (Kd.zq (Kd.jg (Kd.jg (Kd.jh ho0 (Kd.R_lt (kr_ HO_298002))) (g := gb291) (o := .cells #[.int .i64 t286, .int .i64 t287, .bool t288] 38 (0, 0)) (bk_ BK291)) (g := gb309) (o := .cells #[.int .i64 t304, .int .i64 t305, .bool t306] 38 (0, 0)) (bk_ BK309)) (qm (be4_ HB GE273 GE291 GE297 GE309)))
          have n4_ := qd.mk (ql (g := gb273) (o := .cells #[.int .i64 a0_0, .int .i64 a0_1, .slice A0_2 l0_2.length c0_2] 24 (0, 0)) (bk_ BK273) hb)
          have n5_ := qd.mk (ql (g := gb291) (o := .cells #[.int .i64 t286, .int .i64 t287, .bool t288] 38 (0, 0)) (bk_ BK291) hb)
          have n6_ := qd.mk (ql (g := gb297) (o := .cells #[.int .i64 t292, .int .i64 t293, .slice Ao42 t294.length co42] 30 (0, 0)) (bk_ BK297) hb)
          have n7_ := qd.mk (ql (g := gb309) (o := .cells #[.int .i64 t304, .int .i64 t305, .bool t306] 38 (0, 0)) (bk_ BK309) hb)
          have n8_ := qd.mk (qn (be4_ HB GE273 GE291 GE297 GE309) hb)
          clear HO_12
          clear HO_13
          clear HO_298002
          clear BK273
          clear BK291
          clear BK297
          clear BK309
          clear HB
          have HO_12 := n0_
          have HO_13 := n1_
          have HO_298002 := n2_
          have HO315 := n3_
          have BK273 := n4_
          have BK291 := n5_
          have BK297 := n6_
          have BK309 := n7_
          have HB := n8_
          clear n0_ n1_ n2_ n3_ n4_ n5_ n6_ n7_ n8_
          (try clear hb)
          (try clear hb2)
          (try clear hk)
          (try clear hi)
          (try clear ho0)
          obtain ⟨Ao101, co101, eo101⟩ := Kd.zr HO315.out
          (first | subst eo101 | (injection eo101 with f1_ f2_ f3_; have f4_ := f1_.symm; have f5_ := f3_.symm; clear f1_ f2_ f3_; subst f4_; subst f5_))
          refine hK.out _ _ ⟨(qi BK297.out 0).trans rfl, (qi BK297.out 1).trans rfl, (qi BK297.out 2).trans rfl, (qi BK273.out 0).trans rfl, (qi BK273.out 1).trans rfl, (qi BK273.out 2).trans rfl⟩ (fun hHeld => ?_)
          clear hK K
          refine norm_ (a' := ?_) ?_ ?_
          rotate_left
          ·show Act.put _ (some 69) _ = _
           simp only [Act.put, sA_, sB_, sC_, i64_w, i32_w]
           rfl
          refine one_ (i := 3) (N := some 70) #[true, true, true, true, false] rfl rfl (by kernel_rfl) (by decide) (fun K hK => ?_)
          refine goes_ Try.func22 (by kernel_rfl) rfl #[.agg #[.int .i64 t292, .int .i64 t293, .slice Ao42 t294.length co42], .agg #[.int .i64 t311, .int .i64 t312, .slice Ao101 t313.length co101]] (by rfl) rfl rfl (by (try simp only [List.map_toArray, List.map_cons, List.map_nil]); first | done | rfl | (simp only [List.length_drop, List.length_take]; rfl)) ?_
          with_reducible refine (laws_eqCity.calls kj20 t292 t293 _ _ t294 t311 t312 _ _ t313 true _ ?side1 ?side2 ?side3 ?side4 A83.out).mono ?_
          (case side1 => repeat (first | exact (Kd.zb HO_298002.out).2.2 | (with_reducible refine Kd.ze ?_ _) | (with_reducible refine Kd.zd ?_ _) | (with_reducible refine Kd.zh ?_)))
          (case side2 => exact (Kd.zb HO_298002.out).2.1)
          (case side3 => repeat (first | exact (Kd.zb HO315.out).2.2 | (with_reducible refine Kd.ze ?_ _) | (with_reducible refine Kd.zd ?_ _) | (with_reducible refine Kd.zh ?_)))
          (case side4 => exact (Kd.zb HO315.out).2.1)
          rintro e w102 ⟨rfl, hb⟩
          refine ⟨_, rfl, ?_⟩
          have n0_ := qd.mk (Kd.zc (kr_ HO_12) hb)
          have n1_ := qd.mk (Kd.zc (kr_ HO_13) hb)
          have n2_ := qd.mk (Kd.zc (kr_ HO_298002) hb)
          have n3_ := qd.mk (Kd.zc (kr_ HO315) hb)
          have n4_ := qd.mk (ql (g := gb273) (o := .cells #[.int .i64 a0_0, .int .i64 a0_1, .slice A0_2 l0_2.length c0_2] 24 (0, 0)) (bk_ BK273) hb)
          have n5_ := qd.mk (ql (g := gb291) (o := .cells #[.int .i64 t286, .int .i64 t287, .bool t288] 38 (0, 0)) (bk_ BK291) hb)
          have n6_ := qd.mk (ql (g := gb297) (o := .cells #[.int .i64 t292, .int .i64 t293, .slice Ao42 t294.length co42] 30 (0, 0)) (bk_ BK297) hb)
          have n7_ := qd.mk (ql (g := gb309) (o := .cells #[.int .i64 t304, .int .i64 t305, .bool t306] 38 (0, 0)) (bk_ BK309) hb)
          have n8_ := qd.mk (qn (be4_ HB GE273 GE291 GE297 GE309) hb)
          clear HO_12
          clear HO_13
          clear HO_298002
          clear HO315
          clear BK273
          clear BK291
          clear BK297
          clear BK309
          clear HB
          have HO_12 := n0_
          have HO_13 := n1_
          have HO_298002 := n2_
          have HO315 := n3_
          have BK273 := n4_
          have BK291 := n5_
          have BK297 := n6_
          have BK309 := n7_
          have HB := n8_
          clear n0_ n1_ n2_ n3_ n4_ n5_ n6_ n7_ n8_
          (try clear hb)
          (try clear hb2)
          (try clear hk)
          (try clear hi)
          refine hK.out _ _ ⟨(qi BK297.out 0).trans rfl, (qi BK297.out 1).trans rfl, (qi BK297.out 2).trans rfl, (qi BK273.out 0).trans rfl, (qi BK273.out 1).trans rfl, (qi BK273.out 2).trans rfl⟩ (fun hHeld => ?_)
          clear hK K
          refine norm_ (a' := ?_) ?_ ?_
          rotate_left
          ·show Act.put _ (some 70) _ = _
           simp only [Act.put, sA_, sB_, sC_, i64_w, i32_w]
           rfl
          refine pure_ (i := 4) (N := some 71) (v := ?_) (a' := ?_) #[true, true, true, true, true] rfl rfl (by kernel_rfl) (fun _ _ _ h => h) (Or.inl ⟨by rfl, ?_⟩) ?_ ?_
          rotate_left
          ·intro w'
           go_simp
           with_reducible rfl
          rotate_left
          ·simp only [Act.put, sA_, sB_, sC_, i64_w, i32_w]
           rfl
          refine done_ (by kernel_rfl) ?_
          try go_wp2_with (first | ((with_reducible refine qw (f := 29) rfl ?_); refine zj (some 74) rfl rfl Try.func29 (by kernel_rfl) rfl #[.slice A1 l1.length c1] rfl (by (try simp only [List.map_toArray, List.map_cons, List.map_nil]); first | done | rfl | (simp only [List.length_drop, List.length_take]; rfl)) ?_; (with_reducible refine (laws_toIntS.calls kj20 _ _ l1 t317 _ ?side1 ?side2 A85.out).mono ?_); (case side1 => repeat (first | exact (Kd.zf HR1.out HB.out) | (with_reducible refine Kd.ze ?_ _) | (with_reducible refine Kd.zd ?_ _) | (with_reducible refine Kd.zh ?_))); (case side2 => exact HC1.out); rintro e w103 ⟨v318, rfl, ho0, hb⟩; refine ⟨_, rfl, ?_⟩; have n0_ := qd.mk (Kd.zw (kr_ HO_12) (Kd.zx ho0) hb); have n1_ := qd.mk (Kd.zw (kr_ HO_13) (Kd.zx ho0) hb); have n2_ := qd.mk (Kd.zc (kr_ HO_298002) hb); have n3_ := qd.mk (Kd.zc (kr_ HO315) hb); have n4_ := qd.mk (Kd.zq (Kd.jh (Kd.jh ho0 (Kd.R_lt (kr_ HO_12))) (Kd.R_lt (kr_ HO_13))) (qm (be4_ HB GE273 GE291 GE297 GE309))); have n5_ := qd.mk (ql (g := gb273) (o := .cells #[.int .i64 a0_0, .int .i64 a0_1, .slice A0_2 l0_2.length c0_2] 24 (0, 0)) (bk_ BK273) hb); have n6_ := qd.mk (ql (g := gb291) (o := .cells #[.int .i64 t286, .int .i64 t287, .bool t288] 38 (0, 0)) (bk_ BK291) hb); have n7_ := qd.mk (ql (g := gb297) (o := .cells #[.int .i64 t292, .int .i64 t293, .slice Ao42 t294.length co42] 30 (0, 0)) (bk_ BK297) hb); have n8_ := qd.mk (ql (g := gb309) (o := .cells #[.int .i64 t304, .int .i64 t305, .bool t306] 38 (0, 0)) (bk_ BK309) hb); have n9_ := qd.mk (qn (be4_ HB GE273 GE291 GE297 GE309) hb); clear HO_12; clear HO_13; clear HO_298002; clear HO315; clear BK273; clear BK291; clear BK297; clear BK309; clear HB; have HO_12 := n0_; have HO_13 := n1_; have HO_298002 := n2_; have HO315 := n3_; have HO319 := n4_; have BK273 := n5_; have BK291 := n6_; have BK297 := n7_; have BK309 := n8_; have HB := n9_; clear n0_ n1_ n2_ n3_ n4_ n5_ n6_ n7_ n8_ n9_; (try clear hb); (try clear hb2); (try clear hk); (try clear hi); (try clear ho0); obtain ⟨Ao104, co104, eo104⟩ := Kd.zr HO319.out; subst eo104) | ((with_reducible refine qw (f := 31) rfl ?_); refine zj (some 75) rfl rfl Try.func31 (by kernel_rfl) rfl #[.slice Ao46 t298.length co46, .slice Ao104 t317.length co104] rfl (by (try simp only [List.map_toArray, List.map_cons, List.map_nil]); first | done | rfl | (simp only [List.length_drop, List.length_take]; rfl)) ?_; (with_reducible refine (laws_eqIntS.calls kj20 _ _ t298 _ _ t317 true _ ?side1 ?side2 ?side3 ?side4 A86.out).mono ?_); (case side1 => repeat (first | exact (Kd.zb HO_12.out).2.2 | (with_reducible refine Kd.ze ?_ _) | (with_reducible refine Kd.zd ?_ _) | (with_reducible refine Kd.zh ?_))); (case side2 => exact (Kd.zb HO_12.out).2.1); (case side3 => repeat (first | exact (Kd.zb HO319.out).2.2 | (with_reducible refine Kd.ze ?_ _) | (with_reducible refine Kd.zd ?_ _) | (with_reducible refine Kd.zh ?_))); (case side4 => exact (Kd.zb HO319.out).2.1); rintro e w' ⟨rfl, ⟨nd, rfl⟩⟩; refine ⟨_, rfl, ?_⟩) | ((with_reducible refine qw (f := 29) rfl ?_); refine zj (some 79) rfl rfl Try.func29 (by kernel_rfl) rfl #[.slice A2 l2.length c2] rfl (by (try simp only [List.map_toArray, List.map_cons, List.map_nil]); first | done | rfl | (simp only [List.length_drop, List.length_take]; rfl)) ?_; (with_reducible refine (laws_toIntS.calls kj20 _ _ l2 t321 _ ?side1 ?side2 A88.out).mono ?_); (case side1 => repeat (first | exact (Kd.zf HR2.out (be4_ HB GE273 GE291 GE297 GE309)) | (with_reducible refine Kd.ze ?_ _) | (with_reducible refine Kd.zd ?_ _) | (with_reducible refine Kd.zh ?_))); (case side2 => exact HC2.out); rintro e w105 ⟨v322, rfl, ho0, hb⟩; refine ⟨_, rfl, ?_⟩; have n0_ := qd.mk (Kd.zw (kr_ HO_12) (Kd.zx ho0) hb); have n1_ := qd.mk (Kd.zw (kr_ HO_13) (Kd.zx ho0) hb); have n2_ := qd.mk (Kd.zc (kr_ HO_298002) hb); have n3_ := qd.mk (Kd.zc (kr_ HO315) hb); have n4_ := qd.mk (Kd.zw (kr_ HO319) (Kd.zx ho0) hb); have n5_ := qd.mk (Kd.zq (Kd.jh (Kd.jh (Kd.jh ho0 (Kd.R_lt (kr_ HO_12))) (Kd.R_lt (kr_ HO_13))) (Kd.R_lt (kr_ HO319))) (qm (be4_ HB GE273 GE291 GE297 GE309))); have n6_ := qd.mk (ql (g := gb273) (o := .cells #[.int .i64 a0_0, .int .i64 a0_1, .slice A0_2 l0_2.length c0_2] 24 (0, 0)) (bk_ BK273) hb); have n7_ := qd.mk (ql (g := gb291) (o := .cells #[.int .i64 t286, .int .i64 t287, .bool t288] 38 (0, 0)) (bk_ BK291) hb); have n8_ := qd.mk (ql (g := gb297) (o := .cells #[.int .i64 t292, .int .i64 t293, .slice Ao42 t294.length co42] 30 (0, 0)) (bk_ BK297) hb); have n9_ := qd.mk (ql (g := gb309) (o := .cells #[.int .i64 t304, .int .i64 t305, .bool t306] 38 (0, 0)) (bk_ BK309) hb); have n10_ := qd.mk (qn (be4_ HB GE273 GE291 GE297 GE309) hb); clear HO_12; clear HO_13; clear HO_298002; clear HO315; clear HO319; clear BK273; clear BK291; clear BK297; clear BK309; clear HB; have HO_12 := n0_; have HO_13 := n1_; have HO_298002 := n2_; have HO315 := n3_; have HO319 := n4_; have HO323 := n5_; have BK273 := n6_; have BK291 := n7_; have BK297 := n8_; have BK309 := n9_; have HB := n10_; clear n0_ n1_ n2_ n3_ n4_ n5_ n6_ n7_ n8_ n9_ n10_; (try clear hb); (try clear hb2); (try clear hk); (try clear hi); (try clear ho0); obtain ⟨Ao106, co106, eo106⟩ := Kd.zr HO323.out; subst eo106) | ((with_reducible refine qw (f := 31) rfl ?_); refine zj (some 80) rfl rfl Try.func31 (by kernel_rfl) rfl #[.slice Ao47 t301.length co47, .slice Ao106 t321.length co106] rfl (by (try simp only [List.map_toArray, List.map_cons, List.map_nil]); first | done | rfl | (simp only [List.length_drop, List.length_take]; rfl)) ?_; (with_reducible refine (laws_eqIntS.calls kj20 _ _ t301 _ _ t321 false _ ?side1 ?side2 ?side3 ?side4 A89.out).mono ?_); (case side1 => repeat (first | exact (Kd.zb HO_13.out).2.2 | (with_reducible refine Kd.ze ?_ _) | (with_reducible refine Kd.zd ?_ _) | (with_reducible refine Kd.zh ?_))); (case side2 => exact (Kd.zb HO_13.out).2.1); (case side3 => repeat (first | exact (Kd.zb HO323.out).2.2 | (with_reducible refine Kd.ze ?_ _) | (with_reducible refine Kd.zd ?_ _) | (with_reducible refine Kd.zh ?_))); (case side4 => exact (Kd.zb HO323.out).2.1); rintro e w' ⟨rfl, ⟨nd, rfl⟩⟩; refine ⟨_, rfl, ?_⟩))
          go_ret
          exact ⟨by first | rfl | (simp [qq, qp] <;> rfl) | (simp [*, qq, qp] <;> rfl), be4_ HB GE273 GE291 GE297 GE309⟩
        ·replace c87 := Bool.eq_false_iff.mpr c87
         subst c87
         have H1 : (some false) = some r := by rw [if_neg (show ¬ (false = true) by decide)] at H; exact H
         clear H
         have H := H1
         clear H1
         obtain rfl := Option.some.inj H
         try go_wp2
         have n0_ := qd.mk (Kd.qx HO_12.out)
         have n1_ := qd.mk (Kd.qx HO_13.out)
         have n2_ := qd.mk (Kd.qx HO_298002.out)
         have n3_ := qd.mk (qe BK273.out)
         have n4_ := qd.mk (qe BK291.out)
         have n5_ := qd.mk (qe BK297.out)
         have n6_ := qd.mk (qe BK309.out)
         have n7_ := qd.mk (qh HB.out)
         clear HO_12
         clear HO_13
         clear HO_298002
         clear BK273
         clear BK291
         clear BK297
         clear BK309
         clear HB
         have HO_12 := n0_
         have HO_13 := n1_
         have HO_298002 := n2_
         have BK273 := n3_
         have BK291 := n4_
         have BK297 := n5_
         have BK309 := n6_
         have HB := n7_
         clear n0_ n1_ n2_ n3_ n4_ n5_ n6_ n7_
         refine jj (n := 5) (S := fun w' => w'.cell? ⟨gb297, 0, none⟩ = some (.int .i64 t292) ∧ w'.cell? ⟨gb297, 1, none⟩ = some (.int .i64 t293) ∧ w'.cell? ⟨gb297, 2, none⟩ = some (.slice Ao42 t294.length co42) ∧ w'.cell? ⟨gb273, 0, none⟩ = some (.int .i64 a0_0) ∧ w'.cell? ⟨gb273, 1, none⟩ = some (.int .i64 a0_1) ∧ w'.cell? ⟨gb273, 2, none⟩ = some (.slice A0_2 l0_2.length c0_2)) (ds := []) #[false, false, false, false, false] (by kernel_rfl) rfl rfl ⟨(qi BK297.out 0).trans rfl, (qi BK297.out 1).trans rfl, (qi BK297.out 2).trans rfl, (qi BK273.out 0).trans rfl, (qi BK273.out 1).trans rfl, (qi BK273.out 2).trans rfl⟩ (fun hHeld => ?_)
         generalize wc.drew = w107 at HO_12 HO_13 HO_298002 BK273 BK291 BK297 BK309 HB hHeld ⊢
         refine take_ (i := 0) (N := some 67) (v := ?_) (a' := ?_) #[true, false, false, false, false] rfl rfl (by kernel_rfl) (fun _ _ _ h => h) (Or.inl ⟨by rfl, ?_⟩) hHeld ?_ ?_
         rotate_left
         ·rintro w' ⟨s0, s1, s2, s3, s4, s5⟩
          go_simp
          with_reducible rfl
         rotate_left
         ·simp only [Act.put, sA_, sB_, sC_, i64_w, i32_w]
          rfl
         refine take_ (i := 1) (N := some 68) (v := ?_) (a' := ?_) #[true, true, false, false, false] rfl rfl (by kernel_rfl) (fun _ _ _ h => h) (Or.inl ⟨by rfl, ?_⟩) hHeld ?_ ?_
         rotate_left
         ·rintro w' ⟨s0, s1, s2, s3, s4, s5⟩
          go_simp
          with_reducible rfl
         rotate_left
         ·simp only [Act.put, sA_, sB_, sC_, i64_w, i32_w]
          rfl
         refine one_ (i := 2) (N := some 69) #[true, true, true, false, false] rfl rfl (by kernel_rfl) (by decide) (fun K hK => ?_)
         refine goes_ Try.func20 (by kernel_rfl) rfl #[.agg #[.int .i64 a0_0, .int .i64 a0_1, .slice A0_2 l0_2.length c0_2]] (by rfl) rfl rfl (by (try simp only [List.map_toArray, List.map_cons, List.map_nil]); first | done | rfl | (simp only [List.length_drop, List.length_take]; rfl)) ?_
         with_reducible refine (laws_toCity.calls kj20 a0_0 a0_1 _ _ l0_2 t311 t312 t313 _ ?side1 ?side2 A82.out).mono ?_
         (case side1 => repeat (first | exact (Kd.zf HR0_2.out HB.out) | (with_reducible refine Kd.ze ?_ _) | (with_reducible refine Kd.zd ?_ _) | (with_reducible refine Kd.zh ?_)))
         (case side2 => exact HC0_2.out)
         rintro e w108 ⟨v314, rfl, ho0, hb⟩
         refine ⟨_, rfl, ?_⟩
         have n0_ := qd.mk (Kd.zc (kr_ HO_12) hb)
         have n1_ := qd.mk (Kd.zc (kr_ HO_13) hb)
         have n2_ := qd.mk (Kd.zw (kr_ HO_298002) (Kd.zx ho0) hb)
         have n3_ := qd.mk (Kd.zq (Kd.jg (Kd.jg (Kd.jh ho0 (Kd.R_lt (kr_ HO_298002))) (g := gb291) (o := .cells #[.int .i64 t286, .int .i64 t287, .bool t288] 38 (0, 0)) (bk_ BK291)) (g := gb309) (o := .cells #[.int .i64 t304, .int .i64 t305, .bool t306] 38 (0, 0)) (bk_ BK309)) (qm (be4_ HB GE273 GE291 GE297 GE309)))
         have n4_ := qd.mk (ql (g := gb273) (o := .cells #[.int .i64 a0_0, .int .i64 a0_1, .slice A0_2 l0_2.length c0_2] 24 (0, 0)) (bk_ BK273) hb)
         have n5_ := qd.mk (ql (g := gb291) (o := .cells #[.int .i64 t286, .int .i64 t287, .bool t288] 38 (0, 0)) (bk_ BK291) hb)
         have n6_ := qd.mk (ql (g := gb297) (o := .cells #[.int .i64 t292, .int .i64 t293, .slice Ao42 t294.length co42] 30 (0, 0)) (bk_ BK297) hb)
         have n7_ := qd.mk (ql (g := gb309) (o := .cells #[.int .i64 t304, .int .i64 t305, .bool t306] 38 (0, 0)) (bk_ BK309) hb)
         have n8_ := qd.mk (qn (be4_ HB GE273 GE291 GE297 GE309) hb)
         clear HO_12
         clear HO_13
         clear HO_298002
         clear BK273
         clear BK291
         clear BK297
         clear BK309
         clear HB
         have HO_12 := n0_
         have HO_13 := n1_
         have HO_298002 := n2_
         have HO315 := n3_
         have BK273 := n4_
         have BK291 := n5_
         have BK297 := n6_
         have BK309 := n7_
         have HB := n8_
         clear n0_ n1_ n2_ n3_ n4_ n5_ n6_ n7_ n8_
         (try clear hb)
         (try clear hb2)
         (try clear hk)
         (try clear hi)
         (try clear ho0)
         obtain ⟨Ao109, co109, eo109⟩ := Kd.zr HO315.out
         (first | subst eo109 | (injection eo109 with f1_ f2_ f3_; have f4_ := f1_.symm; have f5_ := f3_.symm; clear f1_ f2_ f3_; subst f4_; subst f5_))
         refine hK.out _ _ ⟨(qi BK297.out 0).trans rfl, (qi BK297.out 1).trans rfl, (qi BK297.out 2).trans rfl, (qi BK273.out 0).trans rfl, (qi BK273.out 1).trans rfl, (qi BK273.out 2).trans rfl⟩ (fun hHeld => ?_)
         clear hK K
         refine norm_ (a' := ?_) ?_ ?_
         rotate_left
         ·show Act.put _ (some 69) _ = _
          simp only [Act.put, sA_, sB_, sC_, i64_w, i32_w]
          rfl
         refine one_ (i := 3) (N := some 70) #[true, true, true, true, false] rfl rfl (by kernel_rfl) (by decide) (fun K hK => ?_)
         refine goes_ Try.func22 (by kernel_rfl) rfl #[.agg #[.int .i64 t292, .int .i64 t293, .slice Ao42 t294.length co42], .agg #[.int .i64 t311, .int .i64 t312, .slice Ao109 t313.length co109]] (by rfl) rfl rfl (by (try simp only [List.map_toArray, List.map_cons, List.map_nil]); first | done | rfl | (simp only [List.length_drop, List.length_take]; rfl)) ?_
         with_reducible refine (laws_eqCity.calls kj20 t292 t293 _ _ t294 t311 t312 _ _ t313 true _ ?side1 ?side2 ?side3 ?side4 A83.out).mono ?_
         (case side1 => repeat (first | exact (Kd.zb HO_298002.out).2.2 | (with_reducible refine Kd.ze ?_ _) | (with_reducible refine Kd.zd ?_ _) | (with_reducible refine Kd.zh ?_)))
         (case side2 => exact (Kd.zb HO_298002.out).2.1)
         (case side3 => repeat (first | exact (Kd.zb HO315.out).2.2 | (with_reducible refine Kd.ze ?_ _) | (with_reducible refine Kd.zd ?_ _) | (with_reducible refine Kd.zh ?_)))
         (case side4 => exact (Kd.zb HO315.out).2.1)
         rintro e w110 ⟨rfl, hb⟩
         refine ⟨_, rfl, ?_⟩
         have n0_ := qd.mk (Kd.zc (kr_ HO_12) hb)
         have n1_ := qd.mk (Kd.zc (kr_ HO_13) hb)
         have n2_ := qd.mk (Kd.zc (kr_ HO_298002) hb)
         have n3_ := qd.mk (Kd.zc (kr_ HO315) hb)
         have n4_ := qd.mk (ql (g := gb273) (o := .cells #[.int .i64 a0_0, .int .i64 a0_1, .slice A0_2 l0_2.length c0_2] 24 (0, 0)) (bk_ BK273) hb)
         have n5_ := qd.mk (ql (g := gb291) (o := .cells #[.int .i64 t286, .int .i64 t287, .bool t288] 38 (0, 0)) (bk_ BK291) hb)
         have n6_ := qd.mk (ql (g := gb297) (o := .cells #[.int .i64 t292, .int .i64 t293, .slice Ao42 t294.length co42] 30 (0, 0)) (bk_ BK297) hb)
         have n7_ := qd.mk (ql (g := gb309) (o := .cells #[.int .i64 t304, .int .i64 t305, .bool t306] 38 (0, 0)) (bk_ BK309) hb)
         have n8_ := qd.mk (qn (be4_ HB GE273 GE291 GE297 GE309) hb)
         clear HO_12
         clear HO_13
         clear HO_298002
         clear HO315
         clear BK273
         clear BK291
         clear BK297
         clear BK309
         clear HB
         have HO_12 := n0_
         have HO_13 := n1_
         have HO_298002 := n2_
         have HO315 := n3_
         have BK273 := n4_
         have BK291 := n5_
         have BK297 := n6_
         have BK309 := n7_
         have HB := n8_
         clear n0_ n1_ n2_ n3_ n4_ n5_ n6_ n7_ n8_
         (try clear hb)
         (try clear hb2)
         (try clear hk)
         (try clear hi)
         refine hK.out _ _ ⟨(qi BK297.out 0).trans rfl, (qi BK297.out 1).trans rfl, (qi BK297.out 2).trans rfl, (qi BK273.out 0).trans rfl, (qi BK273.out 1).trans rfl, (qi BK273.out 2).trans rfl⟩ (fun hHeld => ?_)
         clear hK K
         refine norm_ (a' := ?_) ?_ ?_
         rotate_left
         ·show Act.put _ (some 70) _ = _
          simp only [Act.put, sA_, sB_, sC_, i64_w, i32_w]
          rfl
         refine pure_ (i := 4) (N := some 71) (v := ?_) (a' := ?_) #[true, true, true, true, true] rfl rfl (by kernel_rfl) (fun _ _ _ h => h) (Or.inl ⟨by rfl, ?_⟩) ?_ ?_
         rotate_left
         ·intro w'
          go_simp
          with_reducible rfl
         rotate_left
         ·simp only [Act.put, sA_, sB_, sC_, i64_w, i32_w]
          rfl
         refine done_ (by kernel_rfl) ?_
         try go_wp2_with (first | ((with_reducible refine qw (f := 29) rfl ?_); refine zj (some 74) rfl rfl Try.func29 (by kernel_rfl) rfl #[.slice A1 l1.length c1] rfl (by (try simp only [List.map_toArray, List.map_cons, List.map_nil]); first | done | rfl | (simp only [List.length_drop, List.length_take]; rfl)) ?_; (with_reducible refine (laws_toIntS.calls kj20 _ _ l1 t317 _ ?side1 ?side2 A85.out).mono ?_); (case side1 => repeat (first | exact (Kd.zf HR1.out HB.out) | (with_reducible refine Kd.ze ?_ _) | (with_reducible refine Kd.zd ?_ _) | (with_reducible refine Kd.zh ?_))); (case side2 => exact HC1.out); rintro e w111 ⟨v318, rfl, ho0, hb⟩; refine ⟨_, rfl, ?_⟩; have n0_ := qd.mk (Kd.zw (kr_ HO_12) (Kd.zx ho0) hb); have n1_ := qd.mk (Kd.zw (kr_ HO_13) (Kd.zx ho0) hb); have n2_ := qd.mk (Kd.zc (kr_ HO_298002) hb); have n3_ := qd.mk (Kd.zc (kr_ HO315) hb); have n4_ := qd.mk (Kd.zq (Kd.jh (Kd.jh ho0 (Kd.R_lt (kr_ HO_12))) (Kd.R_lt (kr_ HO_13))) (qm (be4_ HB GE273 GE291 GE297 GE309))); have n5_ := qd.mk (ql (g := gb273) (o := .cells #[.int .i64 a0_0, .int .i64 a0_1, .slice A0_2 l0_2.length c0_2] 24 (0, 0)) (bk_ BK273) hb); have n6_ := qd.mk (ql (g := gb291) (o := .cells #[.int .i64 t286, .int .i64 t287, .bool t288] 38 (0, 0)) (bk_ BK291) hb); have n7_ := qd.mk (ql (g := gb297) (o := .cells #[.int .i64 t292, .int .i64 t293, .slice Ao42 t294.length co42] 30 (0, 0)) (bk_ BK297) hb); have n8_ := qd.mk (ql (g := gb309) (o := .cells #[.int .i64 t304, .int .i64 t305, .bool t306] 38 (0, 0)) (bk_ BK309) hb); have n9_ := qd.mk (qn (be4_ HB GE273 GE291 GE297 GE309) hb); clear HO_12; clear HO_13; clear HO_298002; clear HO315; clear BK273; clear BK291; clear BK297; clear BK309; clear HB; have HO_12 := n0_; have HO_13 := n1_; have HO_298002 := n2_; have HO315 := n3_; have HO319 := n4_; have BK273 := n5_; have BK291 := n6_; have BK297 := n7_; have BK309 := n8_; have HB := n9_; clear n0_ n1_ n2_ n3_ n4_ n5_ n6_ n7_ n8_ n9_; (try clear hb); (try clear hb2); (try clear hk); (try clear hi); (try clear ho0); obtain ⟨Ao112, co112, eo112⟩ := Kd.zr HO319.out; subst eo112) | ((with_reducible refine qw (f := 31) rfl ?_); refine zj (some 75) rfl rfl Try.func31 (by kernel_rfl) rfl #[.slice Ao46 t298.length co46, .slice Ao112 t317.length co112] rfl (by (try simp only [List.map_toArray, List.map_cons, List.map_nil]); first | done | rfl | (simp only [List.length_drop, List.length_take]; rfl)) ?_; (with_reducible refine (laws_eqIntS.calls kj20 _ _ t298 _ _ t317 false _ ?side1 ?side2 ?side3 ?side4 A86.out).mono ?_); (case side1 => repeat (first | exact (Kd.zb HO_12.out).2.2 | (with_reducible refine Kd.ze ?_ _) | (with_reducible refine Kd.zd ?_ _) | (with_reducible refine Kd.zh ?_))); (case side2 => exact (Kd.zb HO_12.out).2.1); (case side3 => repeat (first | exact (Kd.zb HO319.out).2.2 | (with_reducible refine Kd.ze ?_ _) | (with_reducible refine Kd.zd ?_ _) | (with_reducible refine Kd.zh ?_))); (case side4 => exact (Kd.zb HO319.out).2.1); rintro e w' ⟨rfl, ⟨nd, rfl⟩⟩; refine ⟨_, rfl, ?_⟩))
         go_ret
         exact ⟨by first | rfl | (simp [qq, qp] <;> rfl) | (simp [*, qq, qp] <;> rfl), be4_ HB GE273 GE291 GE297 GE309⟩
       ·replace c84 := Bool.eq_false_iff.mpr c84
        subst c84
        have H1 : (some false) = some r := by rw [if_neg (show ¬ (false = true) by decide)] at H; exact H
        clear H
        have H := H1
        clear H1
        obtain rfl := Option.some.inj H
        try go_wp2
        have n0_ := qd.mk (Kd.qx HO_12.out)
        have n1_ := qd.mk (Kd.qx HO_13.out)
        have n2_ := qd.mk (Kd.qx HO_298002.out)
        have n3_ := qd.mk (qe BK273.out)
        have n4_ := qd.mk (qe BK291.out)
        have n5_ := qd.mk (qe BK297.out)
        have n6_ := qd.mk (qe BK309.out)
        have n7_ := qd.mk (qh HB.out)
        clear HO_12
        clear HO_13
        clear HO_298002
        clear BK273
        clear BK291
        clear BK297
        clear BK309
        clear HB
        have HO_12 := n0_
        have HO_13 := n1_
        have HO_298002 := n2_
        have BK273 := n3_
        have BK291 := n4_
        have BK297 := n5_
        have BK309 := n6_
        have HB := n7_
        clear n0_ n1_ n2_ n3_ n4_ n5_ n6_ n7_
        refine jj (n := 5) (S := fun w' => w'.cell? ⟨gb297, 0, none⟩ = some (.int .i64 t292) ∧ w'.cell? ⟨gb297, 1, none⟩ = some (.int .i64 t293) ∧ w'.cell? ⟨gb297, 2, none⟩ = some (.slice Ao42 t294.length co42) ∧ w'.cell? ⟨gb273, 0, none⟩ = some (.int .i64 a0_0) ∧ w'.cell? ⟨gb273, 1, none⟩ = some (.int .i64 a0_1) ∧ w'.cell? ⟨gb273, 2, none⟩ = some (.slice A0_2 l0_2.length c0_2)) (ds := []) #[false, false, false, false, false] (by kernel_rfl) rfl rfl ⟨(qi BK297.out 0).trans rfl, (qi BK297.out 1).trans rfl, (qi BK297.out 2).trans rfl, (qi BK273.out 0).trans rfl, (qi BK273.out 1).trans rfl, (qi BK273.out 2).trans rfl⟩ (fun hHeld => ?_)
        generalize wc.drew = w113 at HO_12 HO_13 HO_298002 BK273 BK291 BK297 BK309 HB hHeld ⊢
        refine take_ (i := 0) (N := some 67) (v := ?_) (a' := ?_) #[true, false, false, false, false] rfl rfl (by kernel_rfl) (fun _ _ _ h => h) (Or.inl ⟨by rfl, ?_⟩) hHeld ?_ ?_
        rotate_left
        ·rintro w' ⟨s0, s1, s2, s3, s4, s5⟩
         go_simp
         with_reducible rfl
        rotate_left
        ·simp only [Act.put, sA_, sB_, sC_, i64_w, i32_w]
         rfl
        refine take_ (i := 1) (N := some 68) (v := ?_) (a' := ?_) #[true, true, false, false, false] rfl rfl (by kernel_rfl) (fun _ _ _ h => h) (Or.inl ⟨by rfl, ?_⟩) hHeld ?_ ?_
        rotate_left
        ·rintro w' ⟨s0, s1, s2, s3, s4, s5⟩
         go_simp
         with_reducible rfl
        rotate_left
        ·simp only [Act.put, sA_, sB_, sC_, i64_w, i32_w]
         rfl
        refine one_ (i := 2) (N := some 69) #[true, true, true, false, false] rfl rfl (by kernel_rfl) (by decide) (fun K hK => ?_)
        refine goes_ Try.func20 (by kernel_rfl) rfl #[.agg #[.int .i64 a0_0, .int .i64 a0_1, .slice A0_2 l0_2.length c0_2]] (by rfl) rfl rfl (by (try simp only [List.map_toArray, List.map_cons, List.map_nil]); first | done | rfl | (simp only [List.length_drop, List.length_take]; rfl)) ?_
        with_reducible refine (laws_toCity.calls kj20 a0_0 a0_1 _ _ l0_2 t311 t312 t313 _ ?side1 ?side2 A82.out).mono ?_
        (case side1 => repeat (first | exact (Kd.zf HR0_2.out HB.out) | (with_reducible refine Kd.ze ?_ _) | (with_reducible refine Kd.zd ?_ _) | (with_reducible refine Kd.zh ?_)))
        (case side2 => exact HC0_2.out)
        rintro e w114 ⟨v314, rfl, ho0, hb⟩
        refine ⟨_, rfl, ?_⟩
        have n0_ := qd.mk (Kd.zc (kr_ HO_12) hb)
        have n1_ := qd.mk (Kd.zc (kr_ HO_13) hb)
        have n2_ := qd.mk (Kd.zw (kr_ HO_298002) (Kd.zx ho0) hb)
        have n3_ := qd.mk (Kd.zq (Kd.jg (Kd.jg (Kd.jh ho0 (Kd.R_lt (kr_ HO_298002))) (g := gb291) (o := .cells #[.int .i64 t286, .int .i64 t287, .bool t288] 38 (0, 0)) (bk_ BK291)) (g := gb309) (o := .cells #[.int .i64 t304, .int .i64 t305, .bool t306] 38 (0, 0)) (bk_ BK309)) (qm (be4_ HB GE273 GE291 GE297 GE309)))
        have n4_ := qd.mk (ql (g := gb273) (o := .cells #[.int .i64 a0_0, .int .i64 a0_1, .slice A0_2 l0_2.length c0_2] 24 (0, 0)) (bk_ BK273) hb)
        have n5_ := qd.mk (ql (g := gb291) (o := .cells #[.int .i64 t286, .int .i64 t287, .bool t288] 38 (0, 0)) (bk_ BK291) hb)
        have n6_ := qd.mk (ql (g := gb297) (o := .cells #[.int .i64 t292, .int .i64 t293, .slice Ao42 t294.length co42] 30 (0, 0)) (bk_ BK297) hb)
        have n7_ := qd.mk (ql (g := gb309) (o := .cells #[.int .i64 t304, .int .i64 t305, .bool t306] 38 (0, 0)) (bk_ BK309) hb)
        have n8_ := qd.mk (qn (be4_ HB GE273 GE291 GE297 GE309) hb)
        clear HO_12
        clear HO_13
        clear HO_298002
        clear BK273
        clear BK291
        clear BK297
        clear BK309
        clear HB
        have HO_12 := n0_
        have HO_13 := n1_
        have HO_298002 := n2_
        have HO315 := n3_
        have BK273 := n4_
        have BK291 := n5_
        have BK297 := n6_
        have BK309 := n7_
        have HB := n8_
        clear n0_ n1_ n2_ n3_ n4_ n5_ n6_ n7_ n8_
        (try clear hb)
        (try clear hb2)
        (try clear hk)
        (try clear hi)
        (try clear ho0)
        obtain ⟨Ao115, co115, eo115⟩ := Kd.zr HO315.out
        (first | subst eo115 | (injection eo115 with f1_ f2_ f3_; have f4_ := f1_.symm; have f5_ := f3_.symm; clear f1_ f2_ f3_; subst f4_; subst f5_))
        refine hK.out _ _ ⟨(qi BK297.out 0).trans rfl, (qi BK297.out 1).trans rfl, (qi BK297.out 2).trans rfl, (qi BK273.out 0).trans rfl, (qi BK273.out 1).trans rfl, (qi BK273.out 2).trans rfl⟩ (fun hHeld => ?_)
        clear hK K
        refine norm_ (a' := ?_) ?_ ?_
        rotate_left
        ·show Act.put _ (some 69) _ = _
         simp only [Act.put, sA_, sB_, sC_, i64_w, i32_w]
         rfl
        refine one_ (i := 3) (N := some 70) #[true, true, true, true, false] rfl rfl (by kernel_rfl) (by decide) (fun K hK => ?_)
        refine goes_ Try.func22 (by kernel_rfl) rfl #[.agg #[.int .i64 t292, .int .i64 t293, .slice Ao42 t294.length co42], .agg #[.int .i64 t311, .int .i64 t312, .slice Ao115 t313.length co115]] (by rfl) rfl rfl (by (try simp only [List.map_toArray, List.map_cons, List.map_nil]); first | done | rfl | (simp only [List.length_drop, List.length_take]; rfl)) ?_
        with_reducible refine (laws_eqCity.calls kj20 t292 t293 _ _ t294 t311 t312 _ _ t313 false _ ?side1 ?side2 ?side3 ?side4 A83.out).mono ?_
        (case side1 => repeat (first | exact (Kd.zb HO_298002.out).2.2 | (with_reducible refine Kd.ze ?_ _) | (with_reducible refine Kd.zd ?_ _) | (with_reducible refine Kd.zh ?_)))
        (case side2 => exact (Kd.zb HO_298002.out).2.1)
        (case side3 => repeat (first | exact (Kd.zb HO315.out).2.2 | (with_reducible refine Kd.ze ?_ _) | (with_reducible refine Kd.zd ?_ _) | (with_reducible refine Kd.zh ?_)))
        (case side4 => exact (Kd.zb HO315.out).2.1)
        rintro e w116 ⟨rfl, hb⟩
        refine ⟨_, rfl, ?_⟩
        have n0_ := qd.mk (Kd.zc (kr_ HO_12) hb)
        have n1_ := qd.mk (Kd.zc (kr_ HO_13) hb)
        have n2_ := qd.mk (Kd.zc (kr_ HO_298002) hb)
        have n3_ := qd.mk (Kd.zc (kr_ HO315) hb)
        have n4_ := qd.mk (ql (g := gb273) (o := .cells #[.int .i64 a0_0, .int .i64 a0_1, .slice A0_2 l0_2.length c0_2] 24 (0, 0)) (bk_ BK273) hb)
        have n5_ := qd.mk (ql (g := gb291) (o := .cells #[.int .i64 t286, .int .i64 t287, .bool t288] 38 (0, 0)) (bk_ BK291) hb)
        have n6_ := qd.mk (ql (g := gb297) (o := .cells #[.int .i64 t292, .int .i64 t293, .slice Ao42 t294.length co42] 30 (0, 0)) (bk_ BK297) hb)
        have n7_ := qd.mk (ql (g := gb309) (o := .cells #[.int .i64 t304, .int .i64 t305, .bool t306] 38 (0, 0)) (bk_ BK309) hb)
        have n8_ := qd.mk (qn (be4_ HB GE273 GE291 GE297 GE309) hb)
        clear HO_12
        clear HO_13
        clear HO_298002
        clear HO315
        clear BK273
        clear BK291
        clear BK297
        clear BK309
        clear HB
        have HO_12 := n0_
        have HO_13 := n1_
        have HO_298002 := n2_
        have HO315 := n3_
        have BK273 := n4_
        have BK291 := n5_
        have BK297 := n6_
        have BK309 := n7_
        have HB := n8_
        clear n0_ n1_ n2_ n3_ n4_ n5_ n6_ n7_ n8_
        (try clear hb)
        (try clear hb2)
        (try clear hk)
        (try clear hi)
        refine hK.out _ _ ⟨(qi BK297.out 0).trans rfl, (qi BK297.out 1).trans rfl, (qi BK297.out 2).trans rfl, (qi BK273.out 0).trans rfl, (qi BK273.out 1).trans rfl, (qi BK273.out 2).trans rfl⟩ (fun hHeld => ?_)
        clear hK K
        refine norm_ (a' := ?_) ?_ ?_
        rotate_left
        ·show Act.put _ (some 70) _ = _
         simp only [Act.put, sA_, sB_, sC_, i64_w, i32_w]
         rfl
        refine pure_ (i := 4) (N := some 71) (v := ?_) (a' := ?_) #[true, true, true, true, true] rfl rfl (by kernel_rfl) (fun _ _ _ h => h) (Or.inl ⟨by rfl, ?_⟩) ?_ ?_
        rotate_left
        ·intro w'
         go_simp
         with_reducible rfl
        rotate_left
        ·simp only [Act.put, sA_, sB_, sC_, i64_w, i32_w]
         rfl
        refine done_ (by kernel_rfl) ?_
        try go_wp2
        go_ret
        exact ⟨by first | rfl | (simp [qq, qp] <;> rfl) | (simp [*, qq, qp] <;> rfl), be4_ HB GE273 GE291 GE297 GE309⟩
end Go.Proofs.Ytohpaddcfcgmbaa.PFnExactBestToOpen
