/- Cut by wip/cut.py out of the texts of this claim (printed by the kit's printer, or this session's own): what the row's theorem does not reach is struck. Not trusted: Lean checks it. -/
import Derived.Test.YtpopeedfgenebaaDoorZFnPostCrossesPx11
import Derived.Test.YtpopeedfgenebaaDoorZFnPostCrossesPx13
import Derived.Test.YtpopeedfgenebaaDoorZFnPostCrossesPx19
import Derived.Test.YtpopeedfgenebaaDoorZFnPostCrossesPx20
import Derived.Test.YtpopeedfgenebaaDoorZFnPostCrossesPx22
import Derived.Test.YtpopeedfgenebaaDoorZFnPostCrossesPx23
import Derived.Test.YtpopeedfgenebaaDoorZFnPostCrossesPx25
import Derived.Test.YtpopeedfgenebaaDoorZFnPostCrossesPx27
import Derived.Test.YtpopeedfgenebaaDoorZFnPostCrossesPx28
import Derived.Test.YtpopeedfgenebaaDoorZFnPostCrossesPx29
import Derived.Test.YtpopeedfgenebaaDoorZFnPostCrossesPx33
import Derived.Test.YtpopeedfgenebaaDoorZFnPostCrossesPx35
import Derived.Test.YtpopeedfgenebaaDoorZFnPostCrossesPx37
import Derived.Test.YtpopeedfgenebaaDoorZFnPostCrossesPx38
import Derived.Test.YtpopeedfgenebaaDoorZFnPostCrossesPx39
import Derived.Test.YtpopeedfgenebaaDoorZFnPostCrossesPx42l0
import Derived.Test.YtpopeedfgenebaaDoorZFnPostCrossesPx42l1a
import Derived.Test.YtpopeedfgenebaaDoorZFnPostCrossesPx42l1b
import Derived.Test.YtpopeedfgenebaaDoorZFnPostCrossesPx42l1c
import Derived.Test.YtpopeedfgenebaaDoorZFnPostCrossesPx42l2
import Derived.Test.YtpopeedfgenebaaDoorZFnPostCrossesPx42l3
import Derived.Test.YtpopeedfgenebaaDoorZFnPostCrossesPx42l4
import Derived.Test.YtpopeedfgenebaaDoorZFnPostCrossesPx42l5
namespace Go.Proofs.YtpopeedfgenebaaDoor.PFnPostCrosses
open Go.RowKit Go.Proofs.YtpopeedfgenebaaDoorW.PrintWords Go.Proofs.YtpopeedfgenebaaDoorW.PrintLast Go.Proofs.YtpopeedfgenebaaDoorW.PrintMore
attribute [local go_sem] zb qz zf ze qw qv za qy
set_option linter.unusedVariables false
set_option linter.defProp false
set_option linter.unusedSimpArgs false
theorem laws_FnPostCrosses.calls (k : Nat) (A0 : Option Addr) (c0 : Nat) (l0 : List Int) (A1 : Option Addr) (c1 : Nat) (l1 : List Int) (r : Bool) (w : World) (hr0 : Kd.C (Kd.int .u8) w A0 l0.length l0) (hc0 : l0.length ≤ c0) (hr1 : Kd.C (Kd.int .u8) w A1 l1.length l1) (hc1 : l1.length ≤ c1) (h : laws_FnPostCrosses.f k l0 l1 = some r) :
  Calls Tryd.prog 5 #[.slice A0 l0.length c0, .slice A1 l1.length c1] w fun e w' => e = .returned (.bool r) ∧ Below w.heap.size w w' :=
 (laws_FnPostCrosses.p0 ⟨laws_FnPostCrosses.p1, ⟨(laws_FnPostCrosses.p2 ⟨laws_FnPostCrosses.p3, ⟨laws_FnPostCrosses.p4, ⟨laws_FnPostCrosses.p5, ⟨laws_FnPostCrosses.p6, ⟨laws_FnPostCrosses.p7, ()⟩⟩⟩⟩⟩), ⟨(laws_FnPostCrosses.p8 ⟨(laws_FnPostCrosses.p9 ⟨(laws_FnPostCrosses.p10 ⟨laws_FnPostCrosses.p10_0, ⟨laws_FnPostCrosses.p10_1, ⟨laws_FnPostCrosses.p10_2, ⟨laws_FnPostCrosses.p10_3, ()⟩⟩⟩⟩), ⟨(laws_FnPostCrosses.p11 ⟨(laws_FnPostCrosses.p12 ⟨laws_FnPostCrosses.p13, ()⟩), ⟨(laws_FnPostCrosses.p14 ⟨laws_FnPostCrosses.p15, ⟨(laws_FnPostCrosses.p16 ⟨(laws_FnPostCrosses.p17 ⟨(laws_FnPostCrosses.p18 ⟨laws_FnPostCrosses.p19, ⟨laws_FnPostCrosses.p20, ⟨laws_FnPostCrosses.p21, ()⟩⟩⟩), ()⟩), ()⟩), ()⟩⟩), ()⟩⟩), ()⟩⟩), ⟨(laws_FnPostCrosses.p22 ⟨laws_FnPostCrosses.p23, ⟨(laws_FnPostCrosses.p24 ⟨laws_FnPostCrosses.p25, ⟨(laws_FnPostCrosses.p26 ⟨(laws_FnPostCrosses.p27 ⟨(laws_FnPostCrosses.p28 ⟨laws_FnPostCrosses.p29, ⟨laws_FnPostCrosses.p30, ()⟩⟩), ()⟩), ()⟩), ()⟩⟩), ()⟩⟩), ()⟩⟩), ()⟩⟩⟩) k A0 c0 l0 A1 c1 l1 r w hr0 hc0 hr1 hc1 h
def laws_FnPostCrosses.Pure : Prop := ∀ (l0 : List Int) (l1 : List Int), l0.length ≤ maxLen → l0.length * 1 ≤ 140737488351232 → (∀ x ∈ l0, (Lit.int .u8 x).wf = true) → l1.length ≤ maxLen → l1.length * 1 ≤ 140737488351232 → (∀ x ∈ l1, (Lit.int .u8 x).wf = true) → ∃ k, laws_FnPostCrosses.f k l0 l1 = some true
theorem laws_FnPostCrosses.walk (P : laws_FnPostCrosses.Pure) (a0 : Option Addr) (len0 cap0 : Nat) (z0 : List Int) (a1 : Option Addr) (len1 cap1 : Nat) (z1 : List Int) (w : World) (w0 : (a0 = none ∧ len0 = 0 ∧ cap0 = 0 ∧ z0 = []) ∨ ∃ x, a0 = some x ∧ len0 ≤ cap0 ∧ cap0 ≤ maxLen ∧ z0.length = cap0 ∧ (∀ i, i < z0.length → w.cell? (x.add i) = some (.int .u8 (z0.getD i 0))) ∧ ∀ n ∈ z0, (Lit.int .u8 n).wf = true) (y0 : len0 * 1 ≤ 140737488351232) (w1 : (a1 = none ∧ len1 = 0 ∧ cap1 = 0 ∧ z1 = []) ∨ ∃ x, a1 = some x ∧ len1 ≤ cap1 ∧ cap1 ≤ maxLen ∧ z1.length = cap1 ∧ (∀ i, i < z1.length → w.cell? (x.add i) = some (.int .u8 (z1.getD i 0))) ∧ ∀ n ∈ z1, (Lit.int .u8 n).wf = true) (y1 : len1 * 1 ≤ 140737488351232) :
  Calls Tryd.prog 5 #[.slice a0 len0 cap0, .slice a1 len1 cap1] w fun e w' => e = .returned (.bool true) ∧ Below w.heap.size w w' := by
 obtain ⟨l0, rfl, hr0, hm0, hw0, hc0⟩ := ReadsInt.ofRowC w0
 obtain ⟨l1, rfl, hr1, hm1, hw1, hc1⟩ := ReadsInt.ofRowC w1
 obtain ⟨k, h⟩ := P l0 l1 hm0 y0 hw0 hm1 y1 hw1
 refine (laws_FnPostCrosses.calls k _ _ l0 _ _ l1 true w (Kd.C_of_reads (d := (0 : Int)) (h1 := fun _ => rfl) hr0) hc0 (Kd.C_of_reads (d := (0 : Int)) (h1 := fun _ => rfl) hr1) hc1 h).mono ?_
 rintro e w' ⟨rfl, hd⟩
 exact ⟨rfl, hd⟩
end Go.Proofs.YtpopeedfgenebaaDoor.PFnPostCrosses
