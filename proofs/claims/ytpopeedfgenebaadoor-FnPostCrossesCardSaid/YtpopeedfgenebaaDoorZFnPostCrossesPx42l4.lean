/- Cut by wip/cut.py out of the texts of this claim (printed by the kit's printer, or this session's own): what the row's theorem does not reach is struck. Not trusted: Lean checks it. -/
import Derived.Test.YtpopeedfgenebaaDoorZFnPostCrossesPx25
import Derived.Test.YtpopeedfgenebaaDoorZFnPostCrossesPx33
namespace Go.Proofs.YtpopeedfgenebaaDoor.PFnPostCrosses
open Go.RowKit Go.Proofs.YtpopeedfgenebaaDoorW.PrintWords Go.Proofs.YtpopeedfgenebaaDoorW.PrintLast Go.Proofs.YtpopeedfgenebaaDoorW.PrintMore
attribute [local go_sem] zb qz zf ze qw qv za qy
set_option linter.unusedVariables false
set_option linter.defProp false
set_option linter.unusedSimpArgs false
set_option maxHeartbeats 8000000 in
set_option maxRecDepth 100000 in
theorem laws_FnPostCrosses.p23 : Bx.A1 laws_FnPostCrosses.p22 := by
 unfold Bx.A1
 set_option tactic.hygienic false in intros
 have H := HC182.out
 clear HC182
 replace H := iB_ H; obtain ⟨rfl, H⟩ | ⟨rfl, H⟩ := H
 ·replace H := iE_ H; obtain ⟨c184b0, c184b1, H⟩ | ⟨c184, c184b0, c184b1, H⟩ := H
  ·(first | rw [c184b0] | (simp only [i64_w, i32_w]; rw [c184b0]) | skip)
   replace H := iD_ H; obtain ⟨c185b0, H⟩ | ⟨c185b0, H⟩ := H
   ·cases H
   ·replace H := iC_ H; obtain ⟨c186, H⟩ | ⟨c186, H⟩ := H
    ·cases H
    ·have c186b0 : decide (1 < t307) = false := decide_eq_false c186
     clear c186
     replace H := iC_ H; obtain ⟨c187, H⟩ | ⟨c187, H⟩ := H
     ·cases H
     ·have c187b0 : ((decide (t307 > 0)) != (decide (t311 < t287))) = false := by simpa using c187
      (try (have c187b1 : decide ((decide (t307 > 0)) = (decide (t311 < t287))) = true := by simpa using c187))
      (try (have c187b2 : ((decide (t307 > 0)) == (decide (t311 < t287))) = true := by simpa using c187))
      clear c187
      replace H := iC_ H; obtain ⟨c188, H⟩ | ⟨c188, H⟩ := H
      ·cases H
      ·have c188b0 : ((decide (t307 < 0)) != (decide (t311 > t287))) = false := by simpa using c188
       (try (have c188b1 : decide ((decide (t307 < 0)) = (decide (t311 > t287))) = true := by simpa using c188))
       (try (have c188b2 : ((decide (t307 < 0)) == (decide (t311 > t287))) = true := by simpa using c188))
       clear c188
       exact lz_
  ·cases H
 ·exact lz_
set_option maxHeartbeats 8000000 in
set_option maxRecDepth 100000 in
theorem laws_FnPostCrosses.p15 : Bx.A1 laws_FnPostCrosses.p14 := by
 unfold Bx.A1
 set_option tactic.hygienic false in intros
 have H := HC150.out
 clear HC150
 by_cases c152 : t338 = true
 ·subst c152
  rw [if_pos rfl] at H
  have H' := qa.mk H
  clear H
  go_wp2
  go_meet
  case rel => exact ⟨_, (decide (t337 < t291)), es_, H', ⟨by have := HJ17.out; have := HJ118.out; have := HJ137.out; first | omega | exact Nat.le_refl _⟩, ⟨be0_ HB⟩⟩
 ·rw [if_neg c152] at H
  exact absurd H (by rw [laws_FnPostCrosses.j3_no]; simp)
end Go.Proofs.YtpopeedfgenebaaDoor.PFnPostCrosses
