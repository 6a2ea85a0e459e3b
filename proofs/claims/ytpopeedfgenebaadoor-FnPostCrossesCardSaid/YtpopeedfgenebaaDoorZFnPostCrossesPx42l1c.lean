/- Cut by wip/cut.py out of the texts of this claim (printed by the kit's printer, or this session's own): what the row's theorem does not reach is struck. Not trusted: Lean checks it. -/
import Derived.Test.YtpopeedfgenebaaDoorZFnPostCrossesPx13
namespace Go.Proofs.YtpopeedfgenebaaDoor.PFnPostCrosses
open Go.RowKit Go.Proofs.YtpopeedfgenebaaDoorW.PrintWords Go.Proofs.YtpopeedfgenebaaDoorW.PrintLast Go.Proofs.YtpopeedfgenebaaDoorW.PrintMore
attribute [local go_sem] zb qz zf ze qw qv za qy
set_option linter.unusedVariables false
set_option linter.defProp false
set_option linter.unusedSimpArgs false
set_option maxHeartbeats 8000000 in
set_option maxRecDepth 100000 in
theorem laws_FnPostCrosses.p5 : Bx.A3 laws_FnPostCrosses.p2 := by
 unfold Bx.A3
 set_option tactic.hygienic false in intros
 go_wp2_with (first | (go_at_call 20; refine (laws_zSame.calls k _ _ t295 _ _ t299 true _ (by repeat (first | exact (Kd.R_reads' HO298.out).2.2 | (with_reducible refine Kd.zh ?_ _) | (with_reducible refine Kd.zg ?_ _) | (with_reducible refine Kd.zk ?_))) ((Kd.R_reads' HO298.out).2.1) (by repeat (first | exact (Kd.R_reads' HO302.out).2.2 | (with_reducible refine Kd.zh ?_ _) | (with_reducible refine Kd.zg ?_ _) | (with_reducible refine Kd.zk ?_))) ((Kd.R_reads' HO302.out).2.1) A36.out).mono ?_; rintro e w' ⟨rfl, ⟨nd, rfl⟩⟩) | (go_at_call 21; refine (impl_AreDeliveries.calls k t284 t322 _ A85.out).mono ?_; rintro e w' ⟨rfl, ⟨nd, rfl⟩⟩) | (go_at_call 22; refine (spec_AreDeliveries.calls k t284 t323 _ A86.out).mono ?_; rintro e w' ⟨rfl, ⟨nd, rfl⟩⟩) | (go_at_call 21; refine (impl_AreDeliveries.calls k t284 t324 _ A90.out).mono ?_; rintro e w' ⟨rfl, ⟨nd, rfl⟩⟩))
 go_meet
 case rel => have E_ := Option.some.inj (A85.out.symm.trans A90.out); exact ⟨_, (!t324), es_, H', ⟨by first | omega | exact Nat.le_refl _⟩, ⟨by (with_reducible repeat (first | apply Kd.qu | apply Kd.qt | apply Kd.qx)); exact Kd.R_mono HO298.out (fun _ hk => trivial)⟩, ⟨be0_ HB⟩⟩
end Go.Proofs.YtpopeedfgenebaaDoor.PFnPostCrosses
