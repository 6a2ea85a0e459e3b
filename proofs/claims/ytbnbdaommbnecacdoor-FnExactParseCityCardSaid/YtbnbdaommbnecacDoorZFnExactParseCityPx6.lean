/- Cut by wip/cut.py out of the texts of this claim (printed by the kit's printer, or this session's own): what the row's theorem does not reach is struck. Not trusted: Lean checks it. -/
import Derived.Test.YtbnbdaommbnecacDoorZFnExactParseCityPx0
import Derived.Test.YtbnbdaommbnecacDoorZFnExactParseCityPx5
namespace Go.Proofs.YtbnbdaommbnecacDoor.PFnExactParseCity
open Go.RowKit Go.Proofs.YtbnbdaommbnecacDoorW.PrintWords Go.Proofs.YtbnbdaommbnecacDoorW.PrintLast Go.Proofs.YtbnbdaommbnecacDoorW.PrintMore
attribute [local go_sem] max2_int min2_int max_two min_two max_three min_three max_four min_four
set_option linter.unusedVariables false
set_option linter.unusedSimpArgs false
def spec_ParseCity.f (k : Nat) (a0 : ByteArray) : Option (Int × Int × (List (S39)) × Bool) := (spec_avParse.f k a0).bind fun bt164 => (if bt164.2.2.2 = true then (some (bt164.1, bt164.2.1, bt164.2.2.1, true)) else (some (0, 0, ([] : List (S39)), false)))
theorem spec_ParseCity.mono : ∀ a0 k, LeO (spec_ParseCity.f k a0) (spec_ParseCity.f (k + 1) a0) := by
 intro a0 k
 unfold spec_ParseCity.f
 repeat' first | (with_reducible first | exact spec_avParse.mono _ _ | exact LeO.refl _ | exact LeO.none _ | refine LeO.ite ?_ ?_ | refine LeO.bind ?_ (fun _ => ?_)) | exact spec_avParse.mono _ _ | exact LeO.none _ | refine LeO.ite ?_ ?_ | refine LeO.bind ?_ (fun _ => ?_)
set_option maxHeartbeats 8000000 in
set_option maxRecDepth 100000 in
theorem spec_ParseCity.calls (k : Nat) (a0 : ByteArray) (r1 : Int) (r2 : Int) (r3 : List (S39)) (r4 : Bool) (w : World) (h : spec_ParseCity.f k a0 = some (r1, r2, r3, r4)) :
  Calls Tryd.prog 4 #[.string a0] w fun e w' => ∃ v2_ : Value, e = .returned (.tuple #[.agg #[.int .i64 r1, .int .i64 r2, v2_], .bool r4]) ∧ Kd.R k39 39 w' w.heap.size (fun _ => True) v2_ r3 ∧ Below w.heap.size w w' := by
 have hu24 := Tryd.underlying24
 have HB := qb.mk (Below.refl w.heap.size w)
 have H : ((spec_avParse.f k a0).bind fun bt164 => (if bt164.2.2.2 = true then (some (bt164.1, bt164.2.1, bt164.2.2.1, true)) else (some (0, 0, ([] : List (S39)), false)))) = some (r1, r2, r3, r4) := h
 clear h
 replace H := Option.bind_eq_some_iff.mp H
 obtain ⟨⟨t164, t165, t166, t169⟩, A20, H⟩ := H
 replace H : (if t169 = true then (some (t164, t165, t166, true)) else (some (0, 0, ([] : List (S39)), false))) = some (r1, r2, r3, r4) := H
 have A2 := qb.mk A20
 clear A20
 by_cases c3 : t169 = true
 ·subst c3
  have H1 : (some (t164, t165, t166, true)) = some (r1, r2, r3, r4) := by rw [if_pos rfl] at H; exact H
  clear H
  have H := H1
  clear H1
  simp only [Option.some.injEq, Prod.mk.injEq] at H
  obtain ⟨rfl, rfl, rfl, rfl⟩ := H
  go_enter Tryd.func4, Tryd.ntmps4
  go_wp2_with (first | ((with_reducible refine zc (N := 2) rfl ?_); refine zb ?hg (N := 2) ?hd (cs := #[.int .i64 0, .int .i64 0, .slice none 0 0]) (t := 24) ?hr ?_; (case hd => rfl); (case hg => rfl); (case hr => first | (go_simp; done) | (go_simp; rfl)); intro gb163 hg w4 hbox hb; have n0_ := qb.mk (qm (be0_ HB) hb); have n1_ := qb.mk (hbox); have n2_ := qb.mk ((by rw [hg]; exact (ql (be0_ HB)) : w.heap.size ≤ gb163)); have n3_ := qb.mk ((by rw [hg]; exact (ql (be0_ HB)) : w.heap.size ≤ gb163)); clear HB; have HB := n0_; have BK163 := n1_; have GW163 := n2_; have GE163 := n3_; clear n0_ n1_ n2_ n3_; clear hb hbox hg) | ((with_reducible refine qv (f := 9) rfl ?_); refine zf (some 8) rfl rfl Tryd.func9 (by kernel_rfl) rfl #[.string a0] rfl al_ ?_; (with_reducible refine (spec_avParse.calls k a0 t164 t165 t166 true _ A2.out).mono ?_); rintro e w5 ⟨v167, rfl, ho0, hb⟩; refine ⟨_, rfl, ?_⟩; have n0_ := qb.mk (Kd.zr ho0 (ql (be1_ HB GE163))); have n1_ := qb.mk (qn (g := gb163) (o := .cells #[.int .i64 0, .int .i64 0, .slice none 0 0] 24 (0, 0)) (bk_ BK163) hb); have n2_ := qb.mk (qm (be1_ HB GE163) hb); clear BK163; clear HB; have HO168 := n0_; have BK163 := n1_; have HB := n2_; clear n0_ n1_ n2_; (try clear hb); (try clear hb2); (try clear hk); (try clear hi); (try clear ho0)) | ((with_reducible refine zc (N := 4) rfl ?_); refine zb ?hg (N := 4) ?hd (cs := #[.int .i64 0, .int .i64 0, .slice none 0 0]) (t := 24) ?hr ?_; (case hd => rfl); (case hg => rfl); (case hr => first | (go_simp; done) | (go_simp; rfl)); intro gb170 hg w6 hbox hb; have n0_ := qb.mk (Kd.za (kr_ HO168) hb); have n1_ := qb.mk (qn (g := gb163) (o := .cells #[.int .i64 0, .int .i64 0, .slice none 0 0] 24 (0, 0)) (bk_ BK163) hb); have n2_ := qb.mk (qm (be1_ HB GE163) hb); have n3_ := qb.mk (hbox); have n4_ := qb.mk ((by rw [hg]; exact (ql (be1_ HB GE163)) : w.heap.size ≤ gb170)); have n5_ := qb.mk ((by rw [hg]; exact (ql (be1_ HB GE163)) : w.heap.size ≤ gb170)); have n6_ := qb.mk ((by rw [hg]; exact Nat.ne_of_lt (zd (g := gb163) (o := .cells #[.int .i64 0, .int .i64 0, .slice none 0 0] 24 (0, 0)) (bk_ BK163)) : gb163 ≠ gb170)); have n7_ := qb.mk ((by rw [hg]; exact Nat.ne_of_gt (zd (g := gb163) (o := .cells #[.int .i64 0, .int .i64 0, .slice none 0 0] 24 (0, 0)) (bk_ BK163)) : gb170 ≠ gb163)); clear HO168; clear BK163; clear HB; have HO168 := n0_; have BK163 := n1_; have HB := n2_; have BK170 := n3_; have GW170 := n4_; have GE170 := n5_; have NB163_170 := n6_; have NB170_163 := n7_; clear n0_ n1_ n2_ n3_ n4_ n5_ n6_ n7_; clear hb hbox hg; have hnb7 := NB170_163.out; have hnc7 := NB163_170.out; have hcz8_0 : w6.cell? ⟨gb170, 0, none⟩ = some (.int .i64 0) := (qg BK170.out 0).trans rfl; have hcz8_1 : w6.cell? ⟨gb170, 1, none⟩ = some (.int .i64 0) := (qg BK170.out 1).trans rfl; have hcz8_2 : w6.cell? ⟨gb170, 2, none⟩ = some (.slice none 0 0) := (qg BK170.out 2).trans rfl; have hfz8_0 := qj BK170.out 0; have hfz8_1 := qj BK170.out 1; have hfz8_2 := qj BK170.out 2; obtain ⟨Ao9, co9, eo9⟩ := Kd.zj HO168.out; subst eo9; have hcz10_0 : w6.cell? ⟨gb163, 0, none⟩ = some (.int .i64 0) := (qg BK163.out 0).trans rfl; have hcz10_1 : w6.cell? ⟨gb163, 1, none⟩ = some (.int .i64 0) := (qg BK163.out 1).trans rfl; have hcz10_2 : w6.cell? ⟨gb163, 2, none⟩ = some (.slice none 0 0) := (qg BK163.out 2).trans rfl; have hfz10_0 := qj BK163.out 0; have hfz10_1 := qj BK163.out 1; have hfz10_2 := qj BK163.out 2))
  refine bodyPost_ret (results_ct rfl _ _ gb163 24 #[.int .i64 t164, .int .i64 t165, .slice Ao9 t166.length co9] (0, 0) _ rfl (by (with_reducible repeat (first | refine qf ?_ _ | refine qi ?_ | refine qe ?_ _)); refine qx (cs := #[.int .i64 t164, .int .i64 t165, .slice none 0 0]) ?_ 2 _ rfl; (with_reducible repeat (first | refine qf ?_ _ | refine qi ?_ | refine qe ?_ _)); refine qx (cs := #[.int .i64 t164, .int .i64 0, .slice none 0 0]) ?_ 1 _ rfl; (with_reducible repeat (first | refine qf ?_ _ | refine qi ?_ | refine qe ?_ _)); refine qx (cs := #[.int .i64 0, .int .i64 0, .slice none 0 0]) ?_ 0 _ rfl; (with_reducible repeat (first | refine qf ?_ _ | refine qi ?_ | refine qe ?_ _)); refine ze ?_ NB163_170.out _; (with_reducible repeat (first | refine qf ?_ _ | refine qi ?_ | refine qe ?_ _)); refine ze ?_ NB163_170.out _; (with_reducible repeat (first | refine qf ?_ _ | refine qi ?_ | refine qe ?_ _)); refine ze ?_ NB163_170.out _; (with_reducible repeat (first | refine qf ?_ _ | refine qi ?_ | refine qe ?_ _)); exact BK163.out) Tryd.underlying24 rfl (by kernel_rfl)) rfl ?_
  exact ⟨_, er_, by (with_reducible repeat (first | apply Kd.qo | apply Kd.qp | apply Kd.qu)); exact Kd.zi (Kd.R_far (p := ⟨gb163, 2, none⟩) (Kd.R_far (p := ⟨gb163, 1, none⟩) (Kd.R_far (p := ⟨gb163, 0, none⟩) (Kd.R_far (p := ⟨gb170, 2, none⟩) (Kd.R_far (p := ⟨gb170, 1, none⟩) (Kd.R_far (p := ⟨gb170, 0, none⟩) (Kd.zk (Kd.zk HO168.out BK170.out (by decide)) BK163.out (by decide)) (fun _ hk => hk.1.2) (.int .i64 t164)) (fun _ hk => hk.1.2) (.int .i64 t165)) (fun _ hk => hk.1.2) (.slice Ao9 t166.length co9)) (fun _ hk => hk.2) (.int .i64 t164)) (fun _ hk => hk.2) (.int .i64 t165)) (fun _ hk => hk.2) (.slice Ao9 t166.length co9)) (fun _ hk => trivial), be2_ HB GE163 GE170⟩
 ·replace c3 := Bool.eq_false_iff.mpr c3
  subst c3
  have H1 : (some (0, 0, ([] : List (S39)), false)) = some (r1, r2, r3, r4) := by rw [if_neg (show ¬ (false = true) by decide)] at H; exact H
  clear H
  have H := H1
  clear H1
  simp only [Option.some.injEq, Prod.mk.injEq] at H
  obtain ⟨rfl, rfl, rfl, rfl⟩ := H
  go_enter Tryd.func4, Tryd.ntmps4
  go_wp2_with (first | ((with_reducible refine zc (N := 2) rfl ?_); refine zb ?hg (N := 2) ?hd (cs := #[.int .i64 0, .int .i64 0, .slice none 0 0]) (t := 24) ?hr ?_; (case hd => rfl); (case hg => rfl); (case hr => first | (go_simp; done) | (go_simp; rfl)); intro gb163 hg w11 hbox hb; have n0_ := qb.mk (qm (be0_ HB) hb); have n1_ := qb.mk (hbox); have n2_ := qb.mk ((by rw [hg]; exact (ql (be0_ HB)) : w.heap.size ≤ gb163)); have n3_ := qb.mk ((by rw [hg]; exact (ql (be0_ HB)) : w.heap.size ≤ gb163)); clear HB; have HB := n0_; have BK163 := n1_; have GW163 := n2_; have GE163 := n3_; clear n0_ n1_ n2_ n3_; clear hb hbox hg) | ((with_reducible refine qv (f := 9) rfl ?_); refine zf (some 8) rfl rfl Tryd.func9 (by kernel_rfl) rfl #[.string a0] rfl al_ ?_; (with_reducible refine (spec_avParse.calls k a0 t164 t165 t166 false _ A2.out).mono ?_); rintro e w12 ⟨v167, rfl, ho0, hb⟩; refine ⟨_, rfl, ?_⟩; have n0_ := qb.mk (Kd.zr ho0 (ql (be1_ HB GE163))); have n1_ := qb.mk (qn (g := gb163) (o := .cells #[.int .i64 0, .int .i64 0, .slice none 0 0] 24 (0, 0)) (bk_ BK163) hb); have n2_ := qb.mk (qm (be1_ HB GE163) hb); clear BK163; clear HB; have HO168 := n0_; have BK163 := n1_; have HB := n2_; clear n0_ n1_ n2_; (try clear hb); (try clear hb2); (try clear hk); (try clear hi); (try clear ho0)) | ((with_reducible refine zc (N := 4) rfl ?_); refine zb ?hg (N := 4) ?hd (cs := #[.int .i64 0, .int .i64 0, .slice none 0 0]) (t := 24) ?hr ?_; (case hd => rfl); (case hg => rfl); (case hr => first | (go_simp; done) | (go_simp; rfl)); intro gb170 hg w13 hbox hb; have n0_ := qb.mk (Kd.za (kr_ HO168) hb); have n1_ := qb.mk (qn (g := gb163) (o := .cells #[.int .i64 0, .int .i64 0, .slice none 0 0] 24 (0, 0)) (bk_ BK163) hb); have n2_ := qb.mk (qm (be1_ HB GE163) hb); have n3_ := qb.mk (hbox); have n4_ := qb.mk ((by rw [hg]; exact (ql (be1_ HB GE163)) : w.heap.size ≤ gb170)); have n5_ := qb.mk ((by rw [hg]; exact (ql (be1_ HB GE163)) : w.heap.size ≤ gb170)); have n6_ := qb.mk ((by rw [hg]; exact Nat.ne_of_lt (zd (g := gb163) (o := .cells #[.int .i64 0, .int .i64 0, .slice none 0 0] 24 (0, 0)) (bk_ BK163)) : gb163 ≠ gb170)); have n7_ := qb.mk ((by rw [hg]; exact Nat.ne_of_gt (zd (g := gb163) (o := .cells #[.int .i64 0, .int .i64 0, .slice none 0 0] 24 (0, 0)) (bk_ BK163)) : gb170 ≠ gb163)); clear HO168; clear BK163; clear HB; have HO168 := n0_; have BK163 := n1_; have HB := n2_; have BK170 := n3_; have GW170 := n4_; have GE170 := n5_; have NB163_170 := n6_; have NB170_163 := n7_; clear n0_ n1_ n2_ n3_ n4_ n5_ n6_ n7_; clear hb hbox hg; have hnb14 := NB170_163.out; have hnc14 := NB163_170.out; have hcz15_0 : w13.cell? ⟨gb170, 0, none⟩ = some (.int .i64 0) := (qg BK170.out 0).trans rfl; have hcz15_1 : w13.cell? ⟨gb170, 1, none⟩ = some (.int .i64 0) := (qg BK170.out 1).trans rfl; have hcz15_2 : w13.cell? ⟨gb170, 2, none⟩ = some (.slice none 0 0) := (qg BK170.out 2).trans rfl; have hfz15_0 := qj BK170.out 0; have hfz15_1 := qj BK170.out 1; have hfz15_2 := qj BK170.out 2; obtain ⟨Ao16, co16, eo16⟩ := Kd.zj HO168.out; subst eo16; have hcz17_0 : w13.cell? ⟨gb163, 0, none⟩ = some (.int .i64 0) := (qg BK163.out 0).trans rfl; have hcz17_1 : w13.cell? ⟨gb163, 1, none⟩ = some (.int .i64 0) := (qg BK163.out 1).trans rfl; have hcz17_2 : w13.cell? ⟨gb163, 2, none⟩ = some (.slice none 0 0) := (qg BK163.out 2).trans rfl; have hfz17_0 := qj BK163.out 0; have hfz17_1 := qj BK163.out 1; have hfz17_2 := qj BK163.out 2))
  refine bodyPost_ret (results_ct rfl _ _ gb163 24 #[.int .i64 0, .int .i64 0, .slice none 0 0] (0, 0) _ rfl (by (with_reducible repeat (first | refine qf ?_ _ | refine qi ?_ | refine qe ?_ _)); refine qx (cs := #[.int .i64 0, .int .i64 0, .slice none 0 0]) ?_ 2 _ rfl; (with_reducible repeat (first | refine qf ?_ _ | refine qi ?_ | refine qe ?_ _)); refine qx (cs := #[.int .i64 0, .int .i64 0, .slice none 0 0]) ?_ 1 _ rfl; (with_reducible repeat (first | refine qf ?_ _ | refine qi ?_ | refine qe ?_ _)); refine qx (cs := #[.int .i64 0, .int .i64 0, .slice none 0 0]) ?_ 0 _ rfl; (with_reducible repeat (first | refine qf ?_ _ | refine qi ?_ | refine qe ?_ _)); refine ze ?_ NB163_170.out _; (with_reducible repeat (first | refine qf ?_ _ | refine qi ?_ | refine qe ?_ _)); refine ze ?_ NB163_170.out _; (with_reducible repeat (first | refine qf ?_ _ | refine qi ?_ | refine qe ?_ _)); refine ze ?_ NB163_170.out _; (with_reducible repeat (first | refine qf ?_ _ | refine qi ?_ | refine qe ?_ _)); exact BK163.out) Tryd.underlying24 rfl (by kernel_rfl)) rfl ?_
  exact ⟨_, er_, by first | exact Kd.R_nil _ _ _ _ _ | exact Kd.N_nil _ _ _ _ _ | exact Kd.V_nil _ _ _ _ _ | exact Kd.Q_nil _ _ _ _ _ | exact Kd.S_nil _ _ _ _ _, be2_ HB GE163 GE170⟩
structure Laid (w : World) : Prop where
  most : ∃ m : Int, w.cell? ⟨0, 0, none⟩ = some (.int .i64 m)
  esyn : ∃ ev : Value, w.cell? ⟨1, 0, none⟩ = some ev ∧ (ev = .nilIface ∨ ∃ te pe, ev = .iface te pe)
  eran : ∃ ev : Value, w.cell? ⟨2, 0, none⟩ = some ev ∧ (ev = .nilIface ∨ ∃ te pe, ev = .iface te pe)
  tab : Go.Lib.TabIs Tryd.prog w "internal/strconv.uint64pow10" .u64 Go.Lib.pow10Tab
theorem Laid.below {w w' : World} (h : Laid w) {b : Nat} (hb : Below b w w') (hw : w.heap.size ≤ b) : Laid w' := by
 obtain ⟨m, hm⟩ := h.most
 obtain ⟨e1, h1, k1⟩ := h.esyn
 obtain ⟨e2, h2, k2⟩ := h.eran
 exact ⟨⟨m, (hb.cell (Nat.lt_of_lt_of_le (Go.Lib.lt_of_cell hm) hw)).trans hm⟩, ⟨e1, (hb.cell (Nat.lt_of_lt_of_le (Go.Lib.lt_of_cell h1) hw)).trans h1, k1⟩, ⟨e2, (hb.cell (Nat.lt_of_lt_of_le (Go.Lib.lt_of_cell h2) hw)).trans h2, k2⟩, Go.Joins.tab_stays (g := 5) (by kernel_rfl) h.tab hb hw⟩
def strings_Contains.lay_ren : Go.Shelf.Ren := ⟨fun n => match n with | 144 => 13 | 143 => 26 | 219 => 38 | 217 => 48 | 225 => 49 | 224 => 50 | 267 => 51 | 266 => 61 | 314 => 62 | n => n, fun n => match n with | 9 => 9 | 4 => 4 | 3 => 3 | 5 => 5 | 46 => 74 | 146 => 81 | 51 => 80 | n => n, fun n => match n with | 1 => 0 | n => n⟩
theorem strings_Contains.lay : Go.Proofs.Lays.n144 Tryd.prog strings_Contains.lay_ren := {
 mixed := by kernel_rfl
 f143 := Tryd.func26.trans (congrArg some (by kernel_rfl))
 f144 := Tryd.func13.trans (congrArg some (by kernel_rfl))
 f217 := Tryd.func48.trans (congrArg some (by kernel_rfl))
 f219 := Tryd.func38.trans (congrArg some (by kernel_rfl))
 f224 := Tryd.func50.trans (congrArg some (by kernel_rfl))
 f225 := Tryd.func49.trans (congrArg some (by kernel_rfl))
 f266 := Tryd.func61.trans (congrArg some (by kernel_rfl))
 f267 := Tryd.func51.trans (congrArg some (by kernel_rfl))
 f314 := Tryd.func62.trans (congrArg some (by kernel_rfl))
 t3 := Tryd.underlying3
 a3 := Tryd.isAgg3
 z3 := Tryd.sizeOf3
 v3 := Tryd.zeroValue3
 t4 := Tryd.underlying4
 a4 := Tryd.isAgg4
 z4 := Tryd.sizeOf4
 v4 := Tryd.zeroValue4
 t5 := Tryd.underlying5
 a5 := Tryd.isAgg5
 z5 := Tryd.sizeOf5
 v5 := Tryd.zeroValue5
 t9 := Tryd.underlying9
 a9 := Tryd.isAgg9
 z9 := Tryd.sizeOf9
 v9 := Tryd.zeroValue9
 t46 := Tryd.underlying74
 a46 := Tryd.isAgg74
 z46 := Tryd.sizeOf74
 v46 := Tryd.zeroValue74
 t51 := Tryd.underlying80
 a51 := Tryd.isAgg80
 z51 := Tryd.sizeOf80
 v51 := Tryd.zeroValue80
 t146 := Tryd.underlying81
 a146 := Tryd.isAgg81
 z146 := Tryd.sizeOf81
 v146 := Tryd.zeroValue81
 g1 := by kernel_rfl }
def strings_Contains.f (a0 a1 : ByteArray) : Option Bool := if a0.size ≤ 2097152 then some (Go.Lib.contains a0.data.toList a1.data.toList) else none
theorem strings_Contains.calls (a0 a1 : ByteArray) (r : Bool) (w : World) (hlaid : Laid w) (h : strings_Contains.f a0 a1 = some r) :
  Calls Tryd.prog 13 #[.string a0, .string a1] w fun e w' => e = .returned (.bool r) ∧ zg w w' := by
 unfold strings_Contains.f at h
 by_cases hc : a0.size ≤ 2097152
 ·rw [if_pos hc] at h
  cases Option.some.inj h
  obtain ⟨m, hm⟩ := hlaid.most
  refine (Go.Proofs.Any.strings_Contains strings_Contains.lay a0 a1 m w (by omega) hm).mono ?_
  rintro e w' ⟨rfl, rfl⟩
  exact ⟨rfl, zg.refl _⟩
 ·rw [if_neg hc] at h
  cases h
def strings_Cut.lay_ren : Go.Shelf.Ren := ⟨fun n => match n with | 145 => 10 | 220 => 23 | 219 => 38 | 217 => 48 | 225 => 49 | 224 => 50 | 267 => 51 | 266 => 61 | 314 => 62 | n => n, fun n => match n with | 9 => 9 | 4 => 4 | 59 => 30 | 3 => 3 | 5 => 5 | 46 => 74 | 146 => 81 | 51 => 80 | n => n, fun n => match n with | 1 => 0 | n => n⟩
theorem strings_Cut.lay : Go.Proofs.Lays.n145 Tryd.prog strings_Cut.lay_ren := {
 mixed := by kernel_rfl
 f145 := Tryd.func10.trans (congrArg some (by kernel_rfl))
 f217 := Tryd.func48.trans (congrArg some (by kernel_rfl))
 f219 := Tryd.func38.trans (congrArg some (by kernel_rfl))
 f220 := Tryd.func23.trans (congrArg some (by kernel_rfl))
 f224 := Tryd.func50.trans (congrArg some (by kernel_rfl))
 f225 := Tryd.func49.trans (congrArg some (by kernel_rfl))
 f266 := Tryd.func61.trans (congrArg some (by kernel_rfl))
 f267 := Tryd.func51.trans (congrArg some (by kernel_rfl))
 f314 := Tryd.func62.trans (congrArg some (by kernel_rfl))
 t3 := Tryd.underlying3
 a3 := Tryd.isAgg3
 z3 := Tryd.sizeOf3
 v3 := Tryd.zeroValue3
 t4 := Tryd.underlying4
 a4 := Tryd.isAgg4
 z4 := Tryd.sizeOf4
 v4 := Tryd.zeroValue4
 t5 := Tryd.underlying5
 a5 := Tryd.isAgg5
 z5 := Tryd.sizeOf5
 v5 := Tryd.zeroValue5
 t9 := Tryd.underlying9
 a9 := Tryd.isAgg9
 z9 := Tryd.sizeOf9
 v9 := Tryd.zeroValue9
 t46 := Tryd.underlying74
 a46 := Tryd.isAgg74
 z46 := Tryd.sizeOf74
 v46 := Tryd.zeroValue74
 t51 := Tryd.underlying80
 a51 := Tryd.isAgg80
 z51 := Tryd.sizeOf80
 v51 := Tryd.zeroValue80
 t59 := Tryd.underlying30
 a59 := Tryd.isAgg30
 z59 := Tryd.sizeOf30
 v59 := Tryd.zeroValue30
 t146 := Tryd.underlying81
 a146 := Tryd.isAgg81
 z146 := Tryd.sizeOf81
 v146 := Tryd.zeroValue81
 g1 := by kernel_rfl }
def strings_Cut.a (a0 a1 : ByteArray) : ByteArray := ⟨(Go.Lib.cut a0.data.toList a1.data.toList).1.toArray⟩
def strings_Cut.b (a0 a1 : ByteArray) : ByteArray := ⟨(Go.Lib.cut a0.data.toList a1.data.toList).2.1.toArray⟩
def strings_Cut.c (a0 a1 : ByteArray) : Bool := (Go.Lib.cut a0.data.toList a1.data.toList).2.2
def strings_Cut.f (a0 a1 : ByteArray) : Option (ByteArray × ByteArray × Bool) := if a0.size ≤ 2097152 then some (strings_Cut.a a0 a1, strings_Cut.b a0 a1, strings_Cut.c a0 a1) else none
theorem strings_Cut.calls (a0 a1 : ByteArray) (r1 r2 : ByteArray) (r3 : Bool) (w : World) (hlaid : Laid w) (h : strings_Cut.f a0 a1 = some (r1, r2, r3)) :
  Calls Tryd.prog 10 #[.string a0, .string a1] w fun e w' => e = .returned (.tuple #[.string r1, .string r2, .bool r3]) ∧ zg w w' := by
 unfold strings_Cut.f at h
 by_cases hc : a0.size ≤ 2097152
 ·rw [if_pos hc] at h
  have h := Option.some.inj h
  injection h with e1 h
  injection h with e2 e3
  subst e1 e2 e3
  obtain ⟨m, hm⟩ := hlaid.most
  refine (Go.Proofs.Any.strings_Cut strings_Cut.lay a0 a1 m w (by omega) hm).mono ?_
  rintro e w' ⟨rfl, n, rfl⟩
  exact ⟨rfl, ⟨n, rfl⟩⟩
 ·rw [if_neg hc] at h
  cases h
def strings_Split.lay_ren : Go.Shelf.Ren := ⟨fun n => match n with | 146 => 12 | 221 => 25 | 268 => 41 | 138 => 42 | 143 => 26 | 195 => 55 | 197 => 56 | 218 => 57 | 219 => 38 | 260 => 69 | 217 => 48 | 225 => 49 | 224 => 50 | 267 => 51 | 266 => 61 | 314 => 62 | n => n, fun n => match n with | 9 => 9 | 31 => 35 | 3 => 3 | 4 => 4 | 0 => 0 | 105 => 76 | 21 => 21 | 5 => 5 | 46 => 74 | 119 => 105 | 139 => 108 | 138 => 107 | 146 => 81 | 51 => 80 | n => n, fun n => match n with | 1 => 0 | 3 => 3 | 4 => 4 | n => n⟩
theorem strings_Split.lay : Go.Proofs.Lays.n146 Tryd.prog strings_Split.lay_ren := {
 mixed := by kernel_rfl
 f138 := Tryd.func42.trans (congrArg some (by kernel_rfl))
 f143 := Tryd.func26.trans (congrArg some (by kernel_rfl))
 f146 := Tryd.func12.trans (congrArg some (by kernel_rfl))
 f195 := Tryd.func55.trans (congrArg some (by kernel_rfl))
 f197 := Tryd.func56.trans (congrArg some (by kernel_rfl))
 f217 := Tryd.func48.trans (congrArg some (by kernel_rfl))
 f218 := Tryd.func57.trans (congrArg some (by kernel_rfl))
 f219 := Tryd.func38.trans (congrArg some (by kernel_rfl))
 f221 := Tryd.func25.trans (congrArg some (by kernel_rfl))
 f224 := Tryd.func50.trans (congrArg some (by kernel_rfl))
 f225 := Tryd.func49.trans (congrArg some (by kernel_rfl))
 f260 := Tryd.func69.trans (congrArg some (by kernel_rfl))
 f266 := Tryd.func61.trans (congrArg some (by kernel_rfl))
 f267 := Tryd.func51.trans (congrArg some (by kernel_rfl))
 f268 := Tryd.func41.trans (congrArg some (by kernel_rfl))
 f314 := Tryd.func62.trans (congrArg some (by kernel_rfl))
 t0 := Tryd.underlying0
 a0 := Tryd.isAgg0
 z0 := Tryd.sizeOf0
 v0 := Tryd.zeroValue0
 t3 := Tryd.underlying3
 a3 := Tryd.isAgg3
 z3 := Tryd.sizeOf3
 v3 := Tryd.zeroValue3
 t4 := Tryd.underlying4
 a4 := Tryd.isAgg4
 z4 := Tryd.sizeOf4
 v4 := Tryd.zeroValue4
 t5 := Tryd.underlying5
 a5 := Tryd.isAgg5
 z5 := Tryd.sizeOf5
 v5 := Tryd.zeroValue5
 t9 := Tryd.underlying9
 a9 := Tryd.isAgg9
 z9 := Tryd.sizeOf9
 v9 := Tryd.zeroValue9
 t21 := Tryd.underlying21
 a21 := Tryd.isAgg21
 z21 := Tryd.sizeOf21
 v21 := Tryd.zeroValue21
 t31 := Tryd.underlying35
 a31 := Tryd.isAgg35
 z31 := Tryd.sizeOf35
 v31 := Tryd.zeroValue35
 t46 := Tryd.underlying74
 a46 := Tryd.isAgg74
 z46 := Tryd.sizeOf74
 v46 := Tryd.zeroValue74
 t51 := Tryd.underlying80
 a51 := Tryd.isAgg80
 z51 := Tryd.sizeOf80
 v51 := Tryd.zeroValue80
 t105 := Tryd.underlying76
 a105 := Tryd.isAgg76
 z105 := Tryd.sizeOf76
 v105 := Tryd.zeroValue76
 t119 := Tryd.underlying105
 a119 := Tryd.isAgg105
 z119 := Tryd.sizeOf105
 t138 := Tryd.underlying107
 a138 := Tryd.isAgg107
 z138 := Tryd.sizeOf107
 v138 := Tryd.zeroValue107
 t139 := Tryd.underlying108
 a139 := Tryd.isAgg108
 z139 := Tryd.sizeOf108
 v139 := Tryd.zeroValue108
 t146 := Tryd.underlying81
 a146 := Tryd.isAgg81
 z146 := Tryd.sizeOf81
 v146 := Tryd.zeroValue81
 g1 := by kernel_rfl
 g3 := by kernel_rfl
 g4 := by kernel_rfl }
def strings_Split.l (a0 a1 : ByteArray) : List ByteArray := Go.Lib.splitB a1 0 (Go.Lib.countB a0 a1) a0
def strings_Split.f (a0 a1 : ByteArray) : Option (List ByteArray) := if a0.size ≤ 2097152 ∧ 1 ≤ a1.size then some (strings_Split.l a0 a1) else none
theorem strings_Split.calls (a0 a1 : ByteArray) (r : List ByteArray) (w : World) (hlaid : Laid w) (h : strings_Split.f a0 a1 = some r) :
  Calls Tryd.prog 12 #[.string a0, .string a1] w fun e w' => ∃ v0_ : Value, e = .returned (v0_) ∧ Kd.R Kd.string 9 w' w.heap.size (fun _ => True) v0_ r ∧ Below w.heap.size w w' := by
 unfold strings_Split.f at h
 by_cases hc : a0.size ≤ 2097152 ∧ 1 ≤ a1.size
 ·rw [if_pos hc] at h
  cases Option.some.inj h
  obtain ⟨m, hm⟩ := hlaid.most
  have hle := Go.Lib.countB_le a1 hc.2 a0.size a0 (Nat.le_refl _)
  have hlen := Go.Lib.splitB_all a1 hc.2 0 _ a0 rfl
  refine (Go.Proofs.Any.strings_Split strings_Split.lay (by kernel_rfl) a0 a1 m w (by omega) hm hc.2).mono ?_
  rintro e w' ⟨rfl, rfl⟩
  refine ⟨_, rfl, ?_, qd (Below.refl _ _) _⟩
  rw [← hlen]
  exact Kd.R_of_own (enc := Value.string) (h1 := fun _ => rfl) (own_lit_of w w.heap.size 9 (strings_Split.l a0 a1) (Nat.le_refl _) (by unfold strings_Split.l; omega)) (fun _ _ => trivial)
 ·rw [if_neg hc] at h
  cases h
def impl_readNumber.lay_ren : Go.Shelf.Ren := ⟨fun n => match n with | 172 => 39 | 244 => 52 | 245 => 53 | 247 => 63 | 279 => 64 | 280 => 65 | 281 => 66 | 282 => 67 | 287 => 72 | 316 => 73 | 171 => 40 | 205 => 74 | 321 => 79 | 322 => 80 | 243 => 54 | 246 => 68 | 283 => 75 | 284 => 76 | 285 => 77 | 286 => 78 | 129 => 82 | 317 => 81 | 318 => 83 | 319 => 84 | 320 => 85 | 337 => 86 | 338 => 87 | n => n, fun n => match n with | 9 => 9 | 3 => 3 | 75 => 60 | 76 => 61 | 4 => 4 | 5 => 5 | 167 => 83 | 37 => 67 | 0 => 0 | 85 => 84 | 2 => 2 | 168 => 86 | 53 => 93 | 175 => 94 | 46 => 74 | 210 => 98 | 127 => 79 | 145 => 112 | 143 => 110 | 21 => 21 | 171 => 100 | 173 => 103 | 212 => 114 | 51 => 80 | 20 => 20 | 213 => 115 | 232 => 118 | 233 => 119 | 80 => 71 | n => n, fun n => match n with | 15 => 1 | 16 => 2 | 17 => 5 | 18 => 6 | 19 => 7 | n => n⟩
theorem impl_readNumber.lay : Go.Proofs.LaysC.n172 Tryd.prog impl_readNumber.lay_ren := {
 mixed := by kernel_rfl
 f129 := Tryd.func82.trans (congrArg some (by kernel_rfl))
 f171 := Tryd.func40.trans (congrArg some (by kernel_rfl))
 f172 := Tryd.func39.trans (congrArg some (by kernel_rfl))
 f205 := Tryd.func74.trans (congrArg some (by kernel_rfl))
 f243 := Tryd.func54.trans (congrArg some (by kernel_rfl))
 f244 := Tryd.func52.trans (congrArg some (by kernel_rfl))
 f245 := Tryd.func53.trans (congrArg some (by kernel_rfl))
 f246 := Tryd.func68.trans (congrArg some (by kernel_rfl))
 f247 := Tryd.func63.trans (congrArg some (by kernel_rfl))
 f279 := Tryd.func64.trans (congrArg some (by kernel_rfl))
 f280 := Tryd.func65.trans (congrArg some (by kernel_rfl))
 f281 := Tryd.func66.trans (congrArg some (by kernel_rfl))
 f282 := Tryd.func67.trans (congrArg some (by kernel_rfl))
 f283 := Tryd.func75.trans (congrArg some (by kernel_rfl))
 f284 := Tryd.func76.trans (congrArg some (by kernel_rfl))
 f285 := Tryd.func77.trans (congrArg some (by kernel_rfl))
 f286 := Tryd.func78.trans (congrArg some (by kernel_rfl))
 f287 := Tryd.func72.trans (congrArg some (by kernel_rfl))
 f316 := Tryd.func73.trans (congrArg some (by kernel_rfl))
 f317 := Tryd.func81.trans (congrArg some (by kernel_rfl))
 f318 := Tryd.func83.trans (congrArg some (by kernel_rfl))
 f319 := Tryd.func84.trans (congrArg some (by kernel_rfl))
 f320 := Tryd.func85.trans (congrArg some (by kernel_rfl))
 f321 := Tryd.func79.trans (congrArg some (by kernel_rfl))
 f322 := Tryd.func80.trans (congrArg some (by kernel_rfl))
 f337 := Tryd.func86.trans (congrArg some (by kernel_rfl))
 f338 := Tryd.func87.trans (congrArg some (by kernel_rfl))
 t0 := Tryd.underlying0
 a0 := Tryd.isAgg0
 z0 := Tryd.sizeOf0
 v0 := Tryd.zeroValue0
 t2 := Tryd.underlying2
 a2 := Tryd.isAgg2
 z2 := Tryd.sizeOf2
 v2 := Tryd.zeroValue2
 t3 := Tryd.underlying3
 a3 := Tryd.isAgg3
 z3 := Tryd.sizeOf3
 v3 := Tryd.zeroValue3
 t4 := Tryd.underlying4
 a4 := Tryd.isAgg4
 z4 := Tryd.sizeOf4
 v4 := Tryd.zeroValue4
 t5 := Tryd.underlying5
 a5 := Tryd.isAgg5
 z5 := Tryd.sizeOf5
 v5 := Tryd.zeroValue5
 t9 := Tryd.underlying9
 a9 := Tryd.isAgg9
 z9 := Tryd.sizeOf9
 v9 := Tryd.zeroValue9
 t20 := Tryd.underlying20
 a20 := Tryd.isAgg20
 z20 := Tryd.sizeOf20
 v20 := Tryd.zeroValue20
 t21 := Tryd.underlying21
 a21 := Tryd.isAgg21
 z21 := Tryd.sizeOf21
 v21 := Tryd.zeroValue21
 t37 := Tryd.underlying67
 a37 := Tryd.isAgg67
 z37 := Tryd.sizeOf67
 v37 := Tryd.zeroValue67
 t46 := Tryd.underlying74
 a46 := Tryd.isAgg74
 z46 := Tryd.sizeOf74
 v46 := Tryd.zeroValue74
 t51 := Tryd.underlying80
 a51 := Tryd.isAgg80
 z51 := Tryd.sizeOf80
 v51 := Tryd.zeroValue80
 t53 := Tryd.underlying93
 a53 := Tryd.isAgg93
 z53 := Tryd.sizeOf93
 v53 := Tryd.zeroValue93
 t75 := Tryd.underlying60
 a75 := Tryd.isAgg60
 z75 := Tryd.sizeOf60
 v75 := Tryd.zeroValue60
 t76 := Tryd.underlying61
 a76 := Tryd.isAgg61
 z76 := Tryd.sizeOf61
 v76 := Tryd.zeroValue61
 t85 := Tryd.underlying84
 a85 := Tryd.isAgg84
 z85 := Tryd.sizeOf84
 v85 := Tryd.zeroValue84
 t127 := Tryd.underlying79
 a127 := Tryd.isAgg79
 z127 := Tryd.sizeOf79
 v127 := Tryd.zeroValue79
 t143 := Tryd.underlying110
 a143 := Tryd.isAgg110
 z143 := Tryd.sizeOf110
 v143 := Tryd.zeroValue110
 t145 := Tryd.underlying112
 a145 := Tryd.isAgg112
 z145 := Tryd.sizeOf112
 v145 := Tryd.zeroValue112
 t167 := Tryd.underlying83
 a167 := Tryd.isAgg83
 z167 := Tryd.sizeOf83
 v167 := Tryd.zeroValue83
 t168 := Tryd.underlying86
 a168 := Tryd.isAgg86
 z168 := Tryd.sizeOf86
 v168 := Tryd.zeroValue86
 t171 := Tryd.underlying100
 a171 := Tryd.isAgg100
 z171 := Tryd.sizeOf100
 v171 := Tryd.zeroValue100
 t173 := Tryd.underlying103
 a173 := Tryd.isAgg103
 z173 := Tryd.sizeOf103
 v173 := Tryd.zeroValue103
 t175 := Tryd.underlying94
 a175 := Tryd.isAgg94
 z175 := Tryd.sizeOf94
 v175 := Tryd.zeroValue94
 t210 := Tryd.underlying98
 a210 := Tryd.isAgg98
 z210 := Tryd.sizeOf98
 v210 := Tryd.zeroValue98
 t212 := Tryd.underlying114
 a212 := Tryd.isAgg114
 z212 := Tryd.sizeOf114
 v212 := Tryd.zeroValue114
 t213 := Tryd.underlying115
 a213 := Tryd.isAgg115
 z213 := Tryd.sizeOf115
 t232 := Tryd.underlying118
 a232 := Tryd.isAgg118
 z232 := Tryd.sizeOf118
 v232 := Tryd.zeroValue118
 t233 := Tryd.underlying119
 a233 := Tryd.isAgg119
 z233 := Tryd.sizeOf119
 v233 := Tryd.zeroValue119
 g15 := by kernel_rfl
 g16 := by kernel_rfl
 g17 := by kernel_rfl
 g18 := by kernel_rfl
 g19 := by kernel_rfl
 t80 := Tryd.underlying71
 a80 := Tryd.isAgg71
 z80 := Tryd.sizeOf71
 v80 := Tryd.zeroValue71
 i0 := by kernel_rfl
 i2 := by kernel_rfl
 i3 := by kernel_rfl
 i4 := by kernel_rfl
 i5 := by kernel_rfl
 i9 := by kernel_rfl
 i20 := by kernel_rfl
 i21 := by kernel_rfl
 i37 := by kernel_rfl
 i46 := by kernel_rfl
 i51 := by kernel_rfl
 i53 := by kernel_rfl
 i75 := by kernel_rfl
 i76 := by kernel_rfl
 i80 := by kernel_rfl
 i85 := by kernel_rfl
 i127 := by kernel_rfl
 i143 := by kernel_rfl
 i145 := by kernel_rfl
 i167 := by kernel_rfl
 i168 := by kernel_rfl
 i171 := by kernel_rfl
 i173 := by kernel_rfl
 i175 := by kernel_rfl
 i210 := by kernel_rfl
 i212 := by kernel_rfl
 i232 := by kernel_rfl
 i233 := by kernel_rfl
 m15 := by kernel_rfl
 m16 := by kernel_rfl
 m17 := by kernel_rfl
 m18 := by kernel_rfl
 m19 := by kernel_rfl
 c0 := by kernel_rfl
 c2 := by kernel_rfl
 c3 := by kernel_rfl
 c4 := by kernel_rfl
 c5 := by kernel_rfl
 c9 := by kernel_rfl
 c20 := by kernel_rfl
 c21 := by kernel_rfl
 c37 := by kernel_rfl
 c46 := by kernel_rfl
 c51 := by kernel_rfl
 c53 := by kernel_rfl
 c75 := by kernel_rfl
 c76 := by kernel_rfl
 c80 := by kernel_rfl
 c85 := by kernel_rfl
 c127 := by kernel_rfl
 c143 := by kernel_rfl
 c145 := by kernel_rfl
 c167 := by kernel_rfl
 c168 := by kernel_rfl
 c171 := by kernel_rfl
 c173 := by kernel_rfl
 c175 := by kernel_rfl
 c210 := by kernel_rfl
 c212 := by kernel_rfl
 c213 := by kernel_rfl
 c232 := by kernel_rfl
 c233 := by kernel_rfl }
namespace itoa_
def impl_readNumber.lay_ren : Go.Shelf.Ren := ⟨fun n => match n with | 171 => 40 | 243 => 54 | 246 => 68 | 283 => 75 | 284 => 76 | 285 => 77 | 286 => 78 | 129 => 82 | 317 => 81 | 318 => 83 | 319 => 84 | 320 => 85 | 337 => 86 | 338 => 87 | n => n, fun n => match n with | 3 => 3 | 9 => 9 | 2 => 2 | 4 => 4 | 171 => 100 | 0 => 0 | 53 => 93 | 37 => 67 | 5 => 5 | 173 => 103 | 212 => 114 | 51 => 80 | 20 => 20 | 213 => 115 | 46 => 74 | 232 => 118 | 233 => 119 | n => n, fun n => match n with | 17 => 5 | 18 => 6 | 19 => 7 | n => n⟩
theorem impl_readNumber.lay : Go.Proofs.LaysM.n171 Tryd.prog impl_readNumber.lay_ren := {
 mixed := by kernel_rfl
 f129 := Tryd.func82.trans (congrArg some (by kernel_rfl))
 f171 := Tryd.func40.trans (congrArg some (by kernel_rfl))
 f243 := Tryd.func54.trans (congrArg some (by kernel_rfl))
 f246 := Tryd.func68.trans (congrArg some (by kernel_rfl))
 f283 := Tryd.func75.trans (congrArg some (by kernel_rfl))
 f284 := Tryd.func76.trans (congrArg some (by kernel_rfl))
 f285 := Tryd.func77.trans (congrArg some (by kernel_rfl))
 f286 := Tryd.func78.trans (congrArg some (by kernel_rfl))
 f317 := Tryd.func81.trans (congrArg some (by kernel_rfl))
 f318 := Tryd.func83.trans (congrArg some (by kernel_rfl))
 f319 := Tryd.func84.trans (congrArg some (by kernel_rfl))
 f320 := Tryd.func85.trans (congrArg some (by kernel_rfl))
 f337 := Tryd.func86.trans (congrArg some (by kernel_rfl))
 f338 := Tryd.func87.trans (congrArg some (by kernel_rfl))
 t0 := Tryd.underlying0
 a0 := Tryd.isAgg0
 z0 := Tryd.sizeOf0
 v0 := Tryd.zeroValue0
 t2 := Tryd.underlying2
 a2 := Tryd.isAgg2
 z2 := Tryd.sizeOf2
 v2 := Tryd.zeroValue2
 t3 := Tryd.underlying3
 a3 := Tryd.isAgg3
 z3 := Tryd.sizeOf3
 v3 := Tryd.zeroValue3
 t4 := Tryd.underlying4
 a4 := Tryd.isAgg4
 z4 := Tryd.sizeOf4
 v4 := Tryd.zeroValue4
 t5 := Tryd.underlying5
 a5 := Tryd.isAgg5
 z5 := Tryd.sizeOf5
 v5 := Tryd.zeroValue5
 t9 := Tryd.underlying9
 a9 := Tryd.isAgg9
 z9 := Tryd.sizeOf9
 v9 := Tryd.zeroValue9
 t20 := Tryd.underlying20
 a20 := Tryd.isAgg20
 z20 := Tryd.sizeOf20
 v20 := Tryd.zeroValue20
 t37 := Tryd.underlying67
 a37 := Tryd.isAgg67
 z37 := Tryd.sizeOf67
 v37 := Tryd.zeroValue67
 t46 := Tryd.underlying74
 a46 := Tryd.isAgg74
 z46 := Tryd.sizeOf74
 v46 := Tryd.zeroValue74
 t51 := Tryd.underlying80
 a51 := Tryd.isAgg80
 z51 := Tryd.sizeOf80
 v51 := Tryd.zeroValue80
 t53 := Tryd.underlying93
 a53 := Tryd.isAgg93
 z53 := Tryd.sizeOf93
 v53 := Tryd.zeroValue93
 t171 := Tryd.underlying100
 a171 := Tryd.isAgg100
 z171 := Tryd.sizeOf100
 v171 := Tryd.zeroValue100
 t173 := Tryd.underlying103
 a173 := Tryd.isAgg103
 z173 := Tryd.sizeOf103
 v173 := Tryd.zeroValue103
 t212 := Tryd.underlying114
 a212 := Tryd.isAgg114
 z212 := Tryd.sizeOf114
 v212 := Tryd.zeroValue114
 t213 := Tryd.underlying115
 a213 := Tryd.isAgg115
 z213 := Tryd.sizeOf115
 t232 := Tryd.underlying118
 a232 := Tryd.isAgg118
 z232 := Tryd.sizeOf118
 v232 := Tryd.zeroValue118
 t233 := Tryd.underlying119
 a233 := Tryd.isAgg119
 z233 := Tryd.sizeOf119
 v233 := Tryd.zeroValue119
 g17 := by kernel_rfl
 g18 := by kernel_rfl
 g19 := by kernel_rfl
 i0 := by kernel_rfl
 i2 := by kernel_rfl
 i3 := by kernel_rfl
 i4 := by kernel_rfl
 i5 := by kernel_rfl
 i9 := by kernel_rfl
 i20 := by kernel_rfl
 i37 := by kernel_rfl
 i46 := by kernel_rfl
 i51 := by kernel_rfl
 i53 := by kernel_rfl
 i171 := by kernel_rfl
 i173 := by kernel_rfl
 i212 := by kernel_rfl
 i232 := by kernel_rfl
 i233 := by kernel_rfl
 m17 := by kernel_rfl
 m18 := by kernel_rfl
 m19 := by kernel_rfl }
end itoa_
def impl_readNumber.num (s : ByteArray) : Option Int := match Go.Lib.atoiAll s.data.toList with
 | .ok v => if (⟨(Go.Lib.itoa v).toArray⟩ : ByteArray) = s then some v else none
 | _ => none
def impl_readNumber.f (a0 : ByteArray) : Option (Int × Bool) := if a0.size ≤ 2097152 then some (match impl_readNumber.num a0 with | some v => (v, true) | none => (0, false)) else none
def impl_readNumber.dec (v : Int) : ByteArray := ⟨(Go.Lib.itoa v).toArray⟩
theorem impl_readNumber.itoa (v : Int) (b0 : -9223372036854775808 ≤ v) (b1 : v ≤ 9223372036854775807) (w : World) (hl : Laid w) :
  Calls Tryd.prog 40 #[.int .i64 v] w fun e w' => e = .returned (.string (impl_readNumber.dec v)) ∧ Below w.heap.size w w' := by
 refine (Go.Proofs.Any.strconv_Itoa itoa_.impl_readNumber.lay v b0 b1 w hl.tab).mono ?_
 rintro e w' ⟨rfl, k, os, rfl⟩
 exact ⟨rfl, Go.Lib.below_grow _ _ (Nat.le_refl _) _ _⟩
theorem impl_readNumber.yes (s : ByteArray) (hs : s.size ≤ 2097152) (v : Int) (h : Go.Lib.atoiAll s.data.toList = .ok v) (w : World) :
  Calls Tryd.prog 39 #[.string s] w fun e w' => e = .returned (.tuple #[.int .i64 v, .nilIface]) ∧ Below w.heap.size w w' := by
 refine (Go.Proofs.Any.strconv_Atoi_ok impl_readNumber.lay s (by omega) v h w).mono ?_
 rintro e w' ⟨rfl, rfl | ⟨t, rfl⟩⟩
 ·exact ⟨rfl, Below.refl _ _⟩
 ·exact ⟨rfl, Go.Lib.bytesWorld_below _ _ _⟩
theorem impl_readNumber.no (s : ByteArray) (hs : s.size ≤ 2097152) (h : ∀ v, Go.Lib.atoiAll s.data.toList ≠ .ok v) (w : World) (hl : Laid w) :
  Calls Tryd.prog 39 #[.string s] w fun e w' => ∃ (n : Int) (te : TypeId) (pe : Value), e = .returned (.tuple #[.int .i64 n, .iface te pe]) ∧ Below w.heap.size w w' := by
 rcases hv : Go.Lib.atoiAll s.data.toList with v | _ | _
 · exact absurd hv (h v)
 · obtain ⟨ev, h1, h2⟩ := hl.esyn
   refine (Go.Proofs.Any.strconv_Atoi_syntax impl_readNumber.lay s (by omega) hv ev w h1 h2).mono ?_
   rintro e w' ⟨N, rfl, _, _, hb⟩
   exact ⟨_, _, _, rfl, hb⟩
 · obtain ⟨ev, h1, h2⟩ := hl.eran
   refine (Go.Proofs.Any.strconv_Atoi_range impl_readNumber.lay s (by omega) hv ev w h1 h2).mono ?_
   rintro e w' ⟨N, rfl, _, _, hb⟩
   exact ⟨_, _, _, rfl, hb⟩
set_option maxHeartbeats 4000000 in
set_option maxRecDepth 100000 in
theorem impl_readNumber.calls (a0 : ByteArray) (r1 : Int) (r2 : Bool) (w : World) (hlaid : Laid w) (h : impl_readNumber.f a0 = some (r1, r2)) :
  Calls Tryd.prog 24 #[.string a0] w fun e w' => e = .returned (.tuple #[.int .i64 r1, .bool r2]) ∧ Below w.heap.size w w' := by
 unfold impl_readNumber.f at h
 by_cases hs : a0.size ≤ 2097152
 case neg => rw [if_neg hs] at h; cases h
 rw [if_pos hs] at h
 replace h := Option.some.inj h
 have HLD := qb.mk hlaid
 have HS := qb.mk hs
 clear hlaid hs
 cases hv : Go.Lib.atoiAll a0.data.toList with
 | ok v =>
  obtain ⟨b0, b1⟩ := Go.Lib.atoiAll_bounds hv
  have hn : impl_readNumber.num a0 = if impl_readNumber.dec v = a0 then some v else none := by unfold impl_readNumber.num; rw [hv]; rfl
  rw [hn] at h
  have HA := qb.mk (impl_readNumber.yes a0 HS.out v hv)
  have HI := qb.mk (impl_readNumber.itoa v b0 b1)
  clear hv hn b0 b1
  generalize impl_readNumber.dec v = t at h HI
  by_cases he : t = a0
  ·rw [if_pos he] at h
   have e1 := (Prod.mk.inj h).1
   have e2 := (Prod.mk.inj h).2
   subst e1 e2
   have c1 : (t.toList == a0.toList) = true := by rw [he]; simp
   have c2 : (t.toList != a0.toList) = false := by rw [he]; simp
   (try clear he'); clear h he
   go_enter Tryd.func24, Tryd.ntmps24
   go_upto_region 2 with (go_at_call 39; refine (HA.out _).mono ?_; rintro e w2 ⟨rfl, hb⟩; have HB2 := qb.mk hb; clear hb)
   go_wp2_with (go_at_call 40; refine (HI.out _ (by first | exact HLD.out.below HB2.out (Nat.le_refl _) | exact HLD.out.below (HB2.out.drewN _) (Nat.le_refl _) | exact (HLD.out.below HB2.out (Nat.le_refl _)).below (qc (Below.refl _ _)) (Nat.le_refl _))).mono ?_; rintro e w3 ⟨rfl, hb⟩; have HB3 := qb.mk hb; clear hb)
   go_ret2
   exact ⟨rfl, below_then HB2.out HB2.out.size HB3.out⟩
  ·rw [if_neg he] at h
   have e1 := (Prod.mk.inj h).1
   have e2 := (Prod.mk.inj h).2
   subst e1 e2
   have he' : t.toList ≠ a0.toList := fun e => he (by rw [Go.Lib.toList_data, Go.Lib.toList_data] at e; exact ByteArray.ext (Array.toList_inj.mp e))
   have c1 : (t.toList == a0.toList) = false := beq_eq_false_iff_ne.mpr he'
   have c2 : (t.toList != a0.toList) = true := bne_iff_ne.mpr he'
   (try clear he'); clear h he
   go_enter Tryd.func24, Tryd.ntmps24
   go_upto_region 2 with (go_at_call 39; refine (HA.out _).mono ?_; rintro e w2 ⟨rfl, hb⟩; have HB2 := qb.mk hb; clear hb)
   go_wp2_with (go_at_call 40; refine (HI.out _ (HLD.out.below HB2.out (Nat.le_refl _))).mono ?_; rintro e w3 ⟨rfl, hb⟩; have HB3 := qb.mk hb; clear hb)
   go_ret2
   exact ⟨rfl, below_then HB2.out HB2.out.size HB3.out⟩
 | _ =>
  have hn : impl_readNumber.num a0 = none := by unfold impl_readNumber.num; rw [hv]
  rw [hn] at h
  have e1 := (Prod.mk.inj h).1
  have e2 := (Prod.mk.inj h).2
  subst e1 e2
  have HA := qb.mk (impl_readNumber.no a0 HS.out (fun v e => by rw [hv] at e; cases e) w HLD.out)
  clear h hn hv
  go_enter Tryd.func24, Tryd.ntmps24
  go_upto_region 2 with (go_at_call 39; refine HA.out.mono ?_; rintro e w2 ⟨n, te, pe, rfl, hb⟩; have HB2 := qb.mk hb; clear hb)
  go_wp2
  go_ret2
  exact ⟨rfl, HB2.out⟩
def impl_readNumbers.l0 : Nat → List Int → List ByteArray → Int → Int → Option (List Int × Bool)
 | 0, _, _, _, _ => none
 | k + 1, x6, x13, x14, x15 => if x15 < x14 then (if 0 ≤ x15 then (if x15 < (x13.length : Int) then ((impl_readNumber.f (rdOf ByteArray.empty x13 x15)).bind fun bt175 => (if bt175.2 = true then (if x6.length < 17592186044416 then (impl_readNumbers.l0 k (x6 ++ [bt175.1]) x13 x14 (wrap64 (x15 + 1))) else (none)) else (some (([] : List Int), false)))) else (none)) else (none)) else (some (x6, true))
def impl_readNumbers.f (k : Nat) (a0 : ByteArray) (a1 : ByteArray) : Option (List Int × Bool) := (strings_Split.f a0 a1).bind fun t171 => (impl_readNumbers.l0 k ([] : List Int) t171 (t171.length : Int) 0)
theorem impl_readNumbers.zn : ∀ k, (∀ y0 y1 y2 y3, LeO (impl_readNumbers.l0 k y0 y1 y2 y3) (impl_readNumbers.l0 (k + 1) y0 y1 y2 y3))
 | 0 => fun _ _ _ _ r h => by simp [impl_readNumbers.l0] at h
 | k + 1 => by
  have ih0 := impl_readNumbers.zn k
  intro y0 y1 y2 y3
  unfold impl_readNumbers.l0
  repeat' first | (with_reducible first | exact ih0 _ _ _ _ | exact LeO.refl _ | exact LeO.none _ | refine LeO.ite ?_ ?_ | refine LeO.bind ?_ (fun _ => ?_)) | exact ih0 _ _ _ _ | exact LeO.none _ | refine LeO.ite ?_ ?_ | refine LeO.bind ?_ (fun _ => ?_)
theorem impl_readNumbers.mono : ∀ a0 a1 k, LeO (impl_readNumbers.f k a0 a1) (impl_readNumbers.f (k + 1) a0 a1) := by
 intro a0 a1 k
 have ih0 := impl_readNumbers.zn k
 unfold impl_readNumbers.f
 repeat' first | (with_reducible first | exact ih0 _ _ _ _ | exact LeO.refl _ | exact LeO.none _ | refine LeO.ite ?_ ?_ | refine LeO.bind ?_ (fun _ => ?_)) | exact ih0 _ _ _ _ | exact LeO.none _ | refine LeO.ite ?_ ?_ | refine LeO.bind ?_ (fun _ => ?_)
set_option maxHeartbeats 8000000 in
set_option maxRecDepth 100000 in
theorem impl_readNumbers.calls (k : Nat) (a0 : ByteArray) (a1 : ByteArray) (r1 : List Int) (r2 : Bool) (w : World) (hlaid : Laid w) (h : impl_readNumbers.f k a0 a1 = some (r1, r2)) :
  Calls Tryd.prog 11 #[.string a0, .string a1] w fun e w' => ∃ v0_ : Value, e = .returned (.tuple #[v0_, .bool r2]) ∧ Kd.R (Kd.int .i64) 3 w' w.heap.size (fun _ => True) v0_ r1 ∧ Below w.heap.size w w' := by
 have HLD := qb.mk hlaid
 clear hlaid
 have HB := qb.mk (Below.refl w.heap.size w)
 have H : ((strings_Split.f a0 a1).bind fun t171 => (impl_readNumbers.l0 k ([] : List Int) t171 (t171.length : Int) 0)) = some (r1, r2) := h
 clear h
 replace H := Option.bind_eq_some_iff.mp H
 obtain ⟨t171, A30, H⟩ := H
 replace H : (impl_readNumbers.l0 k ([] : List Int) t171 (t171.length : Int) 0) = some (r1, r2) := H
 have A3 := qb.mk A30
 clear A30
 have H' := qb.mk H
 clear H
 go_enter Tryd.func11, Tryd.ntmps11
 go_wp2_with (first | ((with_reducible refine qv (f := 12) rfl ?_); refine zf (some 13) rfl rfl Tryd.func12 (by kernel_rfl) rfl #[.string a0, .string a1] rfl al_ ?_; (with_reducible refine (strings_Split.calls a0 a1 t171 _ (HLD.out.below (be0_ HB) (Nat.le_refl _)) A3.out).mono ?_); rintro e w4 ⟨v172, rfl, ho0, hb⟩; refine ⟨_, rfl, ?_⟩; have n0_ := qb.mk (Kd.zr ho0 (ql (be0_ HB))); have n1_ := qb.mk (qm (be0_ HB) hb); clear HB; have HO173 := n0_; have HB := n1_; clear n0_ n1_; (try clear hb); (try clear hb2); (try clear hk); (try clear hi); (try clear ho0); obtain ⟨Ao5, co5, eo5⟩ := Kd.zj HO173.out; subst eo5))
 go_loopg [6, 15] k (fun kq v6 v15 w' => ∃ (x6_1 : List Int) (x15_1 : Int), v15 = .int .i64 x15_1 ∧ qb (impl_readNumbers.l0 kq x6_1 t171 (t171.length : Int) x15_1 = some (r1, r2)) ∧ qb (kq ≤ k) ∧ qb (Kd.R (Kd.int .i64) 3 w' w.heap.size (fun _ => True) v6 x6_1) ∧ qb (Kd.R Kd.string 9 w' w.heap.size (fun _ => True) (.slice Ao5 t171.length co5) t171) ∧ qb (Below w.heap.size w w'))
 case atStart => exact ⟨(([] : List Int)), (0), es_, H', ⟨Nat.le_refl _⟩, ⟨by first | exact Kd.R_nil _ _ _ _ _ | exact Kd.N_nil _ _ _ _ _ | exact Kd.V_nil _ _ _ _ _ | exact Kd.Q_nil _ _ _ _ _ | exact Kd.S_nil _ _ _ _ _⟩, ⟨kr_ HO173⟩, ⟨be0_ HB⟩⟩
 case round =>
  clear H'
  obtain ⟨x6_1, x15_1, rfl, HA, HK1, HO_6, HO_13, HB⟩ := hrel
  cases gk with
  | zero => exact absurd HA.out (by simp [impl_readNumbers.l0])
  | succ k1 =>
   have H := HA.out
   clear HA
   simp only [impl_readNumbers.l0] at H
   by_cases c6 : x15_1 < (t171.length : Int)
   ·rw [if_pos c6] at H
    have c6b0 : decide (x15_1 < (t171.length : Int)) = true := decide_eq_true c6
    clear c6
    by_cases c7 : 0 ≤ x15_1
    ·rw [if_pos c7] at H
     have c7b0 : decide (0 ≤ x15_1) = true := decide_eq_true c7
     clear c7
     by_cases c8 : x15_1 < (t171.length : Int)
     ·rw [if_pos c8] at H
      have c8b0 : decide (x15_1 < (t171.length : Int)) = true := decide_eq_true c8
      clear c8
      replace H := Option.bind_eq_some_iff.mp H
      obtain ⟨⟨t175, t176⟩, A90, H⟩ := H
      replace H : (if t176 = true then (if x6_1.length < 17592186044416 then (impl_readNumbers.l0 k1 (x6_1 ++ [t175]) t171 (t171.length : Int) (wrap64 (x15_1 + 1))) else (none)) else (some (([] : List Int), false))) = some (r1, r2) := H
      have A9 := qb.mk A90
      clear A90
      by_cases c10 : t176 = true
      ·subst c10
       have H1 : (if x6_1.length < 17592186044416 then (impl_readNumbers.l0 k1 (x6_1 ++ [t175]) t171 (t171.length : Int) (wrap64 (x15_1 + 1))) else (none)) = some (r1, r2) := by rw [if_pos rfl] at H; exact H
       clear H
       have H := H1
       clear H1
       by_cases c11 : x6_1.length < 17592186044416
       ·rw [if_pos c11] at H
        have LMc11 := qb.mk c11
        clear c11
        obtain ⟨y177, hy177⟩ : ∃ y_ : List Int, y_ = (x6_1 ++ [t175]) := ⟨_, rfl⟩
        replace H : (impl_readNumbers.l0 k1 y177 t171 (t171.length : Int) (wrap64 (x15_1 + 1))) = some (r1, r2) := by first | (rw [hy177]; with_reducible exact H) | (have H2_ := (Option.bind_some _ _).symm.trans H; rw [hy177]; with_reducible exact H2_) | (have H2_ := (Option.bind_some _ _).symm.trans H; with_reducible exact H2_) | with_reducible exact H | (rw [hy177]; exact H) | exact H
        have Ny177 := qb.mk hy177
        clear hy177
        have H' := qb.mk H
        clear H
        have p174 : 0 ≤ (x15_1 : Int) := od_
        have q174 : x15_1 < (t171.length : Int) := od_
        obtain ⟨ad174, e174, hx174_0⟩ := Kd.zm (Kd.qw HO_13.out).2.2 x15_1 p174 q174
        cases e174
        replace p174 := eq_true p174
        replace q174 := eq_true q174
        go_wp2_with (first | ((with_reducible refine qv (f := 24) rfl ?_); refine zf (some 21) rfl rfl Tryd.func24 (by kernel_rfl) rfl #[.string (rdOf ByteArray.empty t171 x15_1)] rfl al_ ?_; (with_reducible refine (impl_readNumber.calls (rdOf ByteArray.empty t171 x15_1) t175 true _ (HLD.out.below (be0_ HB) (Nat.le_refl _)) A9.out).mono ?_); rintro e w12 ⟨rfl, hb⟩; refine ⟨_, rfl, ?_⟩; have n0_ := qb.mk (Kd.za (kr_ HO_6) hb); have n1_ := qb.mk (Kd.za (kr_ HO_13) hb); have n2_ := qb.mk (qm (be0_ HB) hb); clear HO_6; clear HO_13; clear HB; have HO_6 := n0_; have HO_13 := n1_; have HB := n2_; clear n0_ n1_ n2_; (try clear hb); (try clear hb2); (try clear hk); (try clear hi)) | ((with_reducible refine gate_builtin (b := .append) (xs := #[.tmp 26, .tmp 28]) rfl ?_); at_builtin; refine Kd.R_append (Kd.int .i64) (w0 := w) w.heap.size rfl (.tmp 26) (.tmp 28) 32 3 (.int .i64 0) 8 rfl Tryd.underlying32 info3 rfl (by decide) (by omega) u6 x6_1 t175 [.int .i64 t175] (fun _ => True) (fun _ => False) rfl rfl ?aP (fun _ hk => hk.elim) ?aF ?aO ?aB ?aS ?aL ?_; (case aP => exact rfl); (case aB => exact (be0_ HB)); (case aF => exact (fun _ _ => trivial)); (case aO => exact (kr_ HO_6)); (case aS => exact (ql (be0_ HB))); (case aL => have := LMc11.out; omega); intro v178 w13 ho hb hg hat; rw [← Ny177.out] at ho; have n0_ := qb.mk (Kd.R_over' (kr_ HO_13) (Kd.R_typed (kr_ HO_6)) (by decide) hg); have n1_ := qb.mk (hb); have n2_ := qb.mk (ho); clear HO_13; clear HB; clear HO_6; have HO_13 := n0_; have HB := n1_; have HO179 := n2_; clear n0_ n1_ n2_; clear ho hb hg hat))
        go_roundg k1
        case measure => have := HK1.out; omega
        case rel => exact ⟨(y177), (wrap64 (x15_1 + 1)), es_, H', ⟨by have := HK1.out; omega⟩, ⟨kr_ HO179⟩, ⟨kr_ HO_13⟩, ⟨be0_ HB⟩⟩
       ·rw [if_neg c11] at H
        exact absurd H (by simp)
      ·replace c10 := Bool.eq_false_iff.mpr c10
       subst c10
       have H1 : (some (([] : List Int), false)) = some (r1, r2) := by rw [if_neg (show ¬ (false = true) by decide)] at H; exact H
       clear H
       have H := H1
       clear H1
       simp only [Option.some.injEq, Prod.mk.injEq] at H
       obtain ⟨rfl, rfl⟩ := H
       have p174 : 0 ≤ (x15_1 : Int) := od_
       have q174 : x15_1 < (t171.length : Int) := od_
       obtain ⟨ad174, e174, hx174_0⟩ := Kd.zm (Kd.qw HO_13.out).2.2 x15_1 p174 q174
       cases e174
       replace p174 := eq_true p174
       replace q174 := eq_true q174
       go_wp2_with (first | ((with_reducible refine qv (f := 24) rfl ?_); refine zf (some 21) rfl rfl Tryd.func24 (by kernel_rfl) rfl #[.string (rdOf ByteArray.empty t171 x15_1)] rfl al_ ?_; (with_reducible refine (impl_readNumber.calls (rdOf ByteArray.empty t171 x15_1) t175 false _ (HLD.out.below (be0_ HB) (Nat.le_refl _)) A9.out).mono ?_); rintro e w14 ⟨rfl, hb⟩; refine ⟨_, rfl, ?_⟩; have n0_ := qb.mk (Kd.za (kr_ HO_6) hb); have n1_ := qb.mk (Kd.za (kr_ HO_13) hb); have n2_ := qb.mk (qm (be0_ HB) hb); clear HO_6; clear HO_13; clear HB; have HO_6 := n0_; have HO_13 := n1_; have HB := n2_; clear n0_ n1_ n2_; (try clear hb); (try clear hb2); (try clear hk); (try clear hi)))
       go_ret2
       exact ⟨_, er_, by first | exact Kd.R_nil _ _ _ _ _ | exact Kd.N_nil _ _ _ _ _ | exact Kd.V_nil _ _ _ _ _ | exact Kd.Q_nil _ _ _ _ _ | exact Kd.S_nil _ _ _ _ _, be0_ HB⟩
     ·rw [if_neg c8] at H
      exact absurd H (by simp)
    ·rw [if_neg c7] at H
     exact absurd H (by simp)
   ·rw [if_neg c6] at H
    have c6b0 : decide (x15_1 < (t171.length : Int)) = false := decide_eq_false c6
    clear c6
    simp only [Option.some.injEq, Prod.mk.injEq] at H
    obtain ⟨rfl, rfl⟩ := H
    go_wp2
    go_ret2
    exact ⟨_, er_, kr_ HO_6, be0_ HB⟩
def impl_within.f (a0 : Int) (a1 : Int) (a2 : Int) : Option (Bool) := if a0 ≥ a1 then (some (decide (a0 ≤ a2))) else (some false)
set_option maxHeartbeats 8000000 in
set_option maxRecDepth 100000 in
theorem impl_within.calls (a0 : Int) (a1 : Int) (a2 : Int) (r : Bool) (w : World) (h : impl_within.f a0 a1 a2 = some r) :
  Calls Tryd.prog 27 #[.int .i64 a0, .int .i64 a1, .int .i64 a2] w fun e w' => e = .returned (.bool r) ∧ zg w w' := by
 have H : (if a0 ≥ a1 then (some (decide (a0 ≤ a2))) else (some false)) = some r := h
 clear h
 by_cases c4 : a0 ≥ a1
 ·rw [if_pos c4] at H
  have c4b0 : decide (a1 ≤ a0) = true := decide_eq_true c4
  clear c4
  obtain rfl := Option.some.inj H
  go_enter Tryd.func27, Tryd.ntmps27
  go_wp2
  go_ret
  exact ⟨es_, by repeat (first | exact zg.refl _ | apply zg.step)⟩
 ·rw [if_neg c4] at H
  have c4b0 : decide (a1 ≤ a0) = false := decide_eq_false c4
  clear c4
  obtain rfl := Option.some.inj H
  go_enter Tryd.func27, Tryd.ntmps27
  go_wp2
  go_ret
  exact ⟨es_, by repeat (first | exact zg.refl _ | apply zg.step)⟩
end Go.Proofs.YtbnbdaommbnecacDoor.PFnExactParseCity
