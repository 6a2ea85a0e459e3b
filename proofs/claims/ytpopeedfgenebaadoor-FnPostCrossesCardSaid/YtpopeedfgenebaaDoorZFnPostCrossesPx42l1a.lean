/- Cut by wip/cut.py out of the texts of this claim (printed by the kit's printer, or this session's own): what the row's theorem does not reach is struck. Not trusted: Lean checks it. -/
import Derived.Test.YtpopeedfgenebaaDoorZFnPostCrossesPx13
namespace Go.Proofs.YtpopeedfgenebaaDoor.PFnPostCrosses
open Go.RowKit Go.Proofs.YtpopeedfgenebaaDoorW.PrintWords Go.Proofs.YtpopeedfgenebaaDoorW.PrintLast Go.Proofs.YtpopeedfgenebaaDoorW.PrintMore
attribute [local go_sem] zb qz zf ze qw qv za qy
set_option linter.unusedVariables false
set_option linter.defProp false
set_option linter.unusedSimpArgs false
set_option maxHeartbeats 8000000 in
set_option maxRecDepth 100000 in
theorem laws_FnPostCrosses.p3 : Bx.A1 laws_FnPostCrosses.p2 := by
 unfold Bx.A1
 set_option tactic.hygienic false in intros
 go_wp2_with (first | (go_at_call 20; refine (laws_zSame.calls k _ _ t295 _ _ t299 true _ (by repeat (first | exact (Kd.R_reads' HO298.out).2.2 | (with_reducible refine Kd.zh ?_ _) | (with_reducible refine Kd.zg ?_ _) | (with_reducible refine Kd.zk ?_))) ((Kd.R_reads' HO298.out).2.1) (by repeat (first | exact (Kd.R_reads' HO302.out).2.2 | (with_reducible refine Kd.zh ?_ _) | (with_reducible refine Kd.zg ?_ _) | (with_reducible refine Kd.zk ?_))) ((Kd.R_reads' HO302.out).2.1) A36.out).mono ?_; rintro e w' ⟨rfl, ⟨nd, rfl⟩⟩) | (go_at_call 21; refine (impl_AreDeliveries.calls k t284 t316 _ A60.out).mono ?_; rintro e w' ⟨rfl, ⟨nd, rfl⟩⟩) | (go_at_call 22; refine (spec_AreDeliveries.calls k t284 t317 _ A61.out).mono ?_; rintro e w' ⟨rfl, ⟨nd, rfl⟩⟩) | (go_at_call 21; refine (impl_AreDeliveries.calls k t284 t318 _ A65.out).mono ?_; rintro e w' ⟨rfl, ⟨nd, rfl⟩⟩))
 go_meet
 case rel => have E_ := Option.some.inj (A60.out.symm.trans A65.out); exact ⟨_, (!t318), es_, H', ⟨by first | omega | exact Nat.le_refl _⟩, ⟨by (with_reducible repeat (first | apply Kd.qu | apply Kd.qt | apply Kd.qx)); exact Kd.R_mono HO298.out (fun _ hk => trivial)⟩, ⟨be0_ HB⟩⟩
set_option maxHeartbeats 8000000 in
set_option maxRecDepth 100000 in
theorem laws_FnPostCrosses.p6 : Bx.A4 laws_FnPostCrosses.p2 := by
 unfold Bx.A4
 set_option tactic.hygienic false in intros
 go_wp2_with (first | (go_at_call 20; refine (laws_zSame.calls k _ _ t295 _ _ t299 true _ (by repeat (first | exact (Kd.R_reads' HO298.out).2.2 | (with_reducible refine Kd.zh ?_ _) | (with_reducible refine Kd.zg ?_ _) | (with_reducible refine Kd.zk ?_))) ((Kd.R_reads' HO298.out).2.1) (by repeat (first | exact (Kd.R_reads' HO302.out).2.2 | (with_reducible refine Kd.zh ?_ _) | (with_reducible refine Kd.zg ?_ _) | (with_reducible refine Kd.zk ?_))) ((Kd.R_reads' HO302.out).2.1) A36.out).mono ?_; rintro e w' ⟨rfl, ⟨nd, rfl⟩⟩) | (go_at_call 21; refine (impl_AreDeliveries.calls k t284 t325 _ A95.out).mono ?_; rintro e w' ⟨rfl, ⟨nd, rfl⟩⟩) | (go_at_call 22; refine (spec_AreDeliveries.calls k t284 t326 _ A96.out).mono ?_; rintro e w' ⟨rfl, ⟨nd, rfl⟩⟩) | (go_at_call 21; refine (impl_AreDeliveries.calls k t284 t327 _ A101.out).mono ?_; rintro e w' ⟨rfl, ⟨nd, rfl⟩⟩))
 go_meet
 case rel => have E_ := Option.some.inj (A95.out.symm.trans A101.out); exact ⟨_, (!t327), es_, H', ⟨by first | omega | exact Nat.le_refl _⟩, ⟨by (with_reducible repeat (first | apply Kd.qu | apply Kd.qt | apply Kd.qx)); exact Kd.R_mono HO298.out (fun _ hk => trivial)⟩, ⟨be0_ HB⟩⟩
end Go.Proofs.YtpopeedfgenebaaDoor.PFnPostCrosses
