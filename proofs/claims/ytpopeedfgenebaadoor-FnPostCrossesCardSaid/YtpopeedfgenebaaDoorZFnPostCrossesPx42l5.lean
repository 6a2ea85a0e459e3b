/- Cut by wip/cut.py out of the texts of this claim (printed by the kit's printer, or this session's own): what the row's theorem does not reach is struck. Not trusted: Lean checks it. -/
import Derived.Test.YtpopeedfgenebaaDoorZFnPostCrossesPx11
import Derived.Test.YtpopeedfgenebaaDoorZFnPostCrossesPx23
import Derived.Test.YtpopeedfgenebaaDoorZFnPostCrossesPx35
namespace Go.Proofs.YtpopeedfgenebaaDoor.PFnPostCrosses
open Go.RowKit Go.Proofs.YtpopeedfgenebaaDoorW.PrintWords Go.Proofs.YtpopeedfgenebaaDoorW.PrintLast Go.Proofs.YtpopeedfgenebaaDoorW.PrintMore
attribute [local go_sem] zb qz zf ze qw qv za qy
set_option linter.unusedVariables false
set_option linter.defProp false
set_option linter.unusedSimpArgs false
set_option maxHeartbeats 8000000 in
set_option maxRecDepth 100000 in
theorem laws_FnPostCrosses.p13 : Bx.A1 laws_FnPostCrosses.p12 := by
 unfold Bx.A1
 set_option tactic.hygienic false in intros
 go_wp2_with (first | ((with_reducible refine gate_store (t := 3) (p := 318) rfl ?_); refine store_event (t := 3) (p := 318) (v := ?vo_w148) (w1 := (w139.setCell ⟨go145, ((ji142) : Int).toNat, none⟩ (.int .i64 t285))) ?hg ?ho ?hn ?hr ?_; (case ho => rfl); (case hg => rfl); (case hn => rfl); (case hr => first | (go_simp; done) | (go_simp; rfl)); intro w148 hw; have hg : w139.grownBy w148 (some go145) := (by rw [hw]; exact HP147.2); have hp_ : Kd.R (Kd.int .i64) 3 w148 w.heap.size (fun _ => True) (.slice (some ⟨go145, 0, none⟩) y333.length co146) y336 := (by rw [hw, Ny336.out]; exact HP147.1); clear HP147; replace HO335 := qa.mk (hp_); replace HB := qa.mk ((by rw [hw]; exact qp (HB.out) GB145.out : Below w.heap.size w w148)); clear hg hw hp_))
 go_meet
 case rel => exact ⟨_, (y336), H', ⟨by have := HJ17.out; have := HJ118.out; first | omega | exact Nat.le_refl _⟩, ⟨kr_ HO335⟩, ⟨be0_ HB⟩⟩
set_option maxHeartbeats 8000000 in
set_option maxRecDepth 100000 in
theorem laws_FnPostCrosses.p25 : Bx.A1 laws_FnPostCrosses.p24 := by
 unfold Bx.A1
 set_option tactic.hygienic false in intros
 have H := HC192.out
 clear HC192
 replace H := iC_ H; obtain ⟨c195, H⟩ | ⟨c195, H⟩ := H
 ·exact absurd H (by rw [laws_FnPostCrosses.j7_no]; simp)
 ·have c195b0 : (t353 != t355) = false := by simpa using c195
  (try (have c195b1 : decide (t353 = t355) = true := by simpa using c195))
  (try (have c195b2 : (t353 == t355) = true := by simpa using c195))
  clear c195
  (first | rw [c195b0] | (simp only [i64_w, i32_w]; rw [c195b0]) | skip)
  have H' := qa.mk H
  clear H
  go_wp2
  go_meet
  case rel => exact ⟨_, ((t352 != t354)), es_, H', ⟨by have := HJ17.out; have := HJ114.out; have := HJ181.out; first | omega | exact Nat.le_refl _⟩, ⟨kr_ HO351⟩, ⟨be0_ HB⟩⟩
set_option maxHeartbeats 8000000 in
set_option maxRecDepth 100000 in
theorem laws_FnPostCrosses.p1 : Bx.A1 laws_FnPostCrosses.p0 := by
 unfold Bx.A1
 intro k A0 c0 l0 A1 c1 l1 w HR0 HC0 HR1 HC1 HB A3 H
 go_wp2_with (first | (refine gL_ 58 Tryd.func10 #[.slice A0 l0.length c0, .slice A1 l1.length c1] ?_; refine (laws_big.calls _ _ l0 _ _ l1 true _ (by repeat (first | exact HR0.out | (with_reducible refine Kd.zh ?_ _) | (with_reducible refine Kd.zg ?_ _) | (with_reducible refine Kd.zk ?_))) HC0.out (by repeat (first | exact HR1.out | (with_reducible refine Kd.zh ?_ _) | (with_reducible refine Kd.zg ?_ _) | (with_reducible refine Kd.zk ?_))) HC1.out A3.out).mono ?_; rintro e w' ⟨rfl, ⟨nd, rfl⟩⟩; refine ⟨_, rfl, ?_⟩))
 go_ret
 exact ⟨er_, be0_ HB⟩
end Go.Proofs.YtpopeedfgenebaaDoor.PFnPostCrosses
