/- Cut by wip/cut.py out of the texts of this claim (printed by the kit's printer, or this session's own): what the row's theorem does not reach is struck. Not trusted: Lean checks it. -/
import Derived.Test.YtpopeedfgenebaaDoorZFnPostCrossesPx29
namespace Go.Proofs.YtpopeedfgenebaaDoor.PFnPostCrosses
open Go.RowKit Go.Proofs.YtpopeedfgenebaaDoorW.PrintWords Go.Proofs.YtpopeedfgenebaaDoorW.PrintLast Go.Proofs.YtpopeedfgenebaaDoorW.PrintMore
attribute [local go_sem] zb qz zf ze qw qv za qy
set_option linter.unusedVariables false
set_option linter.defProp false
set_option linter.unusedSimpArgs false
set_option maxHeartbeats 8000000 in
set_option maxRecDepth 100000 in
theorem laws_FnPostCrosses.p19 : Bx.A1 laws_FnPostCrosses.p18 := by
 unfold Bx.A1
 set_option tactic.hygienic false in intros
 go_wp2_with (first | ((with_reducible refine gate_store (t := 3) (p := 345) rfl ?_); refine store_event (t := 3) (p := 345) (v := ?vo_w164) (w1 := (wr.setCell ⟨go162, (x337_5 : Int).toNat, none⟩ (.int .i64 (wrap64 (1 - (Int.tmod x337_5 2)))))) ?hg ?ho ?hn ?hr ?_; (case ho => rfl); (case hg => rfl); (case hn => rfl); (case hr => first | (go_simp; done) | (go_simp; rfl)); intro w164 hw; have hg : wr.grownBy w164 (some go162) := (by rw [hw]; exact HP163.2); have hp_ : Kd.R (Kd.int .i64) 3 w164 w.heap.size (fun _ => True) (.slice (some ⟨go162, 0, none⟩) x39_5.length co158) y342 := (by rw [hw, Ny342.out]; exact HP163.1); clear HP163; replace HO_39 := qa.mk (hp_); replace HB := qa.mk ((by rw [hw]; exact qp (HB.out) GB162.out : Below w.heap.size w w164)); clear hg hw hp_))
 (try simp only [← hl39_5])
 go_roundg k5
 case measure => have := HJ17.out; have := HJ118.out; have := HJ137.out; have := HJ149.out; have := HK5.out; omega
 case rel => exact ⟨(y342), (wrap64 (x337_5 + 1)), es_, H', ⟨by have := HJ17.out; have := HJ118.out; have := HJ137.out; have := HJ149.out; have := HK5.out; omega⟩, ⟨by (try simp only [hl39_5]); (with_reducible repeat (first | apply Kd.qu | apply Kd.qt | apply Kd.qx)); exact HO_39.out⟩, ⟨be0_ HB⟩⟩
set_option maxHeartbeats 8000000 in
set_option maxRecDepth 100000 in
theorem laws_FnPostCrosses.p20 : Bx.A2 laws_FnPostCrosses.p18 := by
 unfold Bx.A2
 set_option tactic.hygienic false in intros
 go_wp2_with (first | ((with_reducible refine gate_store (t := 3) (p := 354) rfl ?_); refine store_event (t := 3) (p := 354) (v := ?vo_w176) (w1 := (wr.setCell ⟨go169, ((ji166) : Int).toNat, none⟩ (.int .i64 t285))) ?hg ?ho ?hn ?hr ?_; (case ho => rfl); (case hg => rfl); (case hn => rfl); (case hr => first | (go_simp; done) | (go_simp; rfl)); intro w176 hw; have hg : wr.grownBy w176 (some go169) := (by rw [hw]; exact HP175.2); have hp_ : Kd.R (Kd.int .i64) 3 w176 w.heap.size (fun _ => True) (.slice (some ⟨go169, 0, none⟩) x39_5.length co158) y343 := (by rw [hw, Ny343.out]; exact HP175.1); clear HP175; replace HO_39 := qa.mk (hp_); replace HB := qa.mk ((by rw [hw]; exact qp (HB.out) GB169.out : Below w.heap.size w w176)); clear hg hw hp_) | ((with_reducible refine qf (f := 23) rfl ?_); refine qj (some 358) rfl rfl Tryd.func23 a7_ rfl #[.string t284, .slice (some ⟨go169, 0, none⟩) y343.length co158] rfl (by (try simp only [List.map_toArray, List.map_cons, List.map_nil]); first | done | (rw [show y343.length = x39_5.length from (Kd.R_reads' HO_39.out).1.symm] <;> rfl) | rfl | (simp only [List.length_drop, List.length_take]; rfl)) ?_; refine (impl_RouteCrossings.calls k5 t284 _ _ y343 t344 true _ (by repeat (first | exact (Kd.R_reads' HO_39.out).2.2 | (with_reducible refine Kd.zh ?_ _) | (with_reducible refine Kd.zg ?_ _) | (with_reducible refine Kd.zk ?_))) (by rw [show y343.length = x39_5.length from (Kd.R_reads' HO_39.out).1.symm]; exact (Kd.R_reads' HO_39.out).2.1) A170.out).mono ?_; rintro e w' ⟨rfl, ⟨nd, rfl⟩⟩; refine ⟨_, rfl, ?_⟩))
 exact lr_
set_option maxHeartbeats 8000000 in
set_option maxRecDepth 100000 in
theorem laws_FnPostCrosses.p21 : Bx.A3 laws_FnPostCrosses.p18 := by
 unfold Bx.A3
 set_option tactic.hygienic false in intros
 go_wp2_with (first | (refine gL_ 358 Tryd.func23 #[.string t284, .slice Ao158 x39_5.length co158] ?_; refine (impl_RouteCrossings.calls k5 t284 _ _ x39_5 t346 true _ (by repeat (first | exact (Kd.R_reads' HO_39.out).2.2 | (with_reducible refine Kd.zh ?_ _) | (with_reducible refine Kd.zg ?_ _) | (with_reducible refine Kd.zk ?_))) ((Kd.R_reads' HO_39.out).2.1) A179.out).mono ?_; rintro e w' ⟨rfl, ⟨nd, rfl⟩⟩; refine ⟨_, rfl, ?_⟩))
 exact lr_
end Go.Proofs.YtpopeedfgenebaaDoor.PFnPostCrosses
