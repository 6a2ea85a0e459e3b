/- Cut by wip/cut.py out of the texts of this claim (printed by the kit's printer, or this session's own): what the row's theorem does not reach is struck. Not trusted: Lean checks it. -/
import Derived.Test.YtpopeedfgenebaaGreatZFnPostDeliversPx18
import Derived.Test.YtpopeedfgenebaaGreatZFnPostDeliversPx29
import Derived.Test.YtpopeedfgenebaaGreatZFnPostDeliversPx33
import Derived.Test.YtpopeedfgenebaaGreatZFnPostDeliversPx37
import Derived.Test.YtpopeedfgenebaaGreatZFnPostDeliversPx41
import Derived.Test.YtpopeedfgenebaaGreatZFnPostDeliversPx43
import Derived.Test.YtpopeedfgenebaaGreatZFnPostDeliversPx45
import Derived.Test.YtpopeedfgenebaaGreatZFnPostDeliversPx50
import Derived.Test.YtpopeedfgenebaaGreatZFnPostDeliversPx55
import Derived.Test.YtpopeedfgenebaaGreatZFnPostDeliversPx62
import Derived.Test.YtpopeedfgenebaaGreatZFnPostDeliversPx66
import Derived.Test.YtpopeedfgenebaaGreatZFnPostDeliversPx69l0
import Derived.Test.YtpopeedfgenebaaGreatZFnPostDeliversPx69l1
import Derived.Test.YtpopeedfgenebaaGreatZFnPostDeliversPx69l2
import Derived.Test.YtpopeedfgenebaaGreatZFnPostDeliversPx69l3
import Derived.Test.YtpopeedfgenebaaGreatZFnPostDeliversPx69l4
import Derived.Test.YtpopeedfgenebaaGreatZFnPostDeliversPx69l5
namespace Go.Proofs.YtpopeedfgenebaaGreat.PFnPostDelivers
open Go.RowKit Go.Proofs.YtpopeedfgenebaaGreatW.PrintWords Go.Proofs.YtpopeedfgenebaaGreatW.PrintLast Go.Proofs.YtpopeedfgenebaaGreatW.PrintMore
attribute [local go_sem] zq zo zx zw zk zj zp zn
set_option linter.unusedVariables false
set_option linter.defProp false
set_option linter.unusedSimpArgs false
theorem laws_FnPostDelivers.calls (k : Nat) (A0 : Option Addr) (c0 : Nat) (l0 : List Int) (A1 : Option Addr) (c1 : Nat) (l1 : List Int) (r : Bool) (w : World) (hr0 : Kd.C (Kd.int .u8) w A0 l0.length l0) (hc0 : l0.length ≤ c0) (hr1 : Kd.C (Kd.int .u8) w A1 l1.length l1) (hc1 : l1.length ≤ c1) (h : laws_FnPostDelivers.f k l0 l1 = some r) :
  Calls Tryz.prog 3 #[.slice A0 l0.length c0, .slice A1 l1.length c1] w fun e w' => e = .returned (.bool r) ∧ Below w.heap.size w w' :=
 (laws_FnPostDelivers.p0 ⟨laws_FnPostDelivers.p1, ⟨(laws_FnPostDelivers.p2 ⟨(laws_FnPostDelivers.p3 ⟨(laws_FnPostDelivers.p4 ⟨laws_FnPostDelivers.p5, ⟨laws_FnPostDelivers.p6, ⟨laws_FnPostDelivers.p7, ()⟩⟩⟩), ⟨(laws_FnPostDelivers.p8 ⟨(laws_FnPostDelivers.p9 ⟨laws_FnPostDelivers.p10, ()⟩), ⟨(laws_FnPostDelivers.p11 ⟨(laws_FnPostDelivers.p12 ⟨(laws_FnPostDelivers.p13 ⟨laws_FnPostDelivers.p14, ()⟩), ()⟩), ⟨(laws_FnPostDelivers.p15 ⟨(laws_FnPostDelivers.p16 ⟨(laws_FnPostDelivers.p17 ⟨(laws_FnPostDelivers.p18 ⟨(laws_FnPostDelivers.p19 ⟨(laws_FnPostDelivers.p20 ⟨laws_FnPostDelivers.p21, ⟨(laws_FnPostDelivers.p22 ⟨(laws_FnPostDelivers.p23 ⟨laws_FnPostDelivers.p24, ()⟩), ⟨(laws_FnPostDelivers.p25 ⟨(laws_FnPostDelivers.p26 ⟨(laws_FnPostDelivers.p27 ⟨laws_FnPostDelivers.p28, ⟨laws_FnPostDelivers.p29, ⟨laws_FnPostDelivers.p30, ()⟩⟩⟩), ()⟩), ⟨(laws_FnPostDelivers.p31 ⟨(laws_FnPostDelivers.p32 ⟨(laws_FnPostDelivers.p33 ⟨laws_FnPostDelivers.p34, ()⟩), ⟨(laws_FnPostDelivers.p35 ⟨(laws_FnPostDelivers.p36 ⟨(laws_FnPostDelivers.p37 ⟨laws_FnPostDelivers.p38, ⟨laws_FnPostDelivers.p39, ⟨laws_FnPostDelivers.p40, ⟨laws_FnPostDelivers.p41, ⟨laws_FnPostDelivers.p42, ()⟩⟩⟩⟩⟩), ()⟩), ()⟩), ⟨laws_FnPostDelivers.p43, ()⟩⟩⟩), ⟨(laws_FnPostDelivers.p44 ⟨(laws_FnPostDelivers.p45 ⟨laws_FnPostDelivers.p46, ⟨laws_FnPostDelivers.p47, ()⟩⟩), ⟨(laws_FnPostDelivers.p48 ⟨laws_FnPostDelivers.p49, ⟨laws_FnPostDelivers.p50, ()⟩⟩), ()⟩⟩), ()⟩⟩), ()⟩⟩), ()⟩⟩), ()⟩⟩), ()⟩), ()⟩), ()⟩), ()⟩), ()⟩), ()⟩⟩), ()⟩⟩), ()⟩⟩), ()⟩), ()⟩⟩) k A0 c0 l0 A1 c1 l1 r w hr0 hc0 hr1 hc1 h
def laws_FnPostDelivers.Pure : Prop := ∀ (l0 : List Int) (l1 : List Int), l0.length ≤ maxLen → l0.length * 1 ≤ 140737488351232 → (∀ x ∈ l0, (Lit.int .u8 x).wf = true) → l1.length ≤ maxLen → l1.length * 1 ≤ 140737488351232 → (∀ x ∈ l1, (Lit.int .u8 x).wf = true) → ∃ k, laws_FnPostDelivers.f k l0 l1 = some true
theorem laws_FnPostDelivers.walk (P : laws_FnPostDelivers.Pure) (a0 : Option Addr) (len0 cap0 : Nat) (z0 : List Int) (a1 : Option Addr) (len1 cap1 : Nat) (z1 : List Int) (w : World) (w0 : (a0 = none ∧ len0 = 0 ∧ cap0 = 0 ∧ z0 = []) ∨ ∃ x, a0 = some x ∧ len0 ≤ cap0 ∧ cap0 ≤ maxLen ∧ z0.length = cap0 ∧ (∀ i, i < z0.length → w.cell? (x.add i) = some (.int .u8 (z0.getD i 0))) ∧ ∀ n ∈ z0, (Lit.int .u8 n).wf = true) (y0 : len0 * 1 ≤ 140737488351232) (w1 : (a1 = none ∧ len1 = 0 ∧ cap1 = 0 ∧ z1 = []) ∨ ∃ x, a1 = some x ∧ len1 ≤ cap1 ∧ cap1 ≤ maxLen ∧ z1.length = cap1 ∧ (∀ i, i < z1.length → w.cell? (x.add i) = some (.int .u8 (z1.getD i 0))) ∧ ∀ n ∈ z1, (Lit.int .u8 n).wf = true) (y1 : len1 * 1 ≤ 140737488351232) :
  Calls Tryz.prog 3 #[.slice a0 len0 cap0, .slice a1 len1 cap1] w fun e w' => e = .returned (.bool true) ∧ Below w.heap.size w w' := by
 obtain ⟨l0, rfl, hr0, hm0, hw0, hc0⟩ := ReadsInt.ofRowC w0
 obtain ⟨l1, rfl, hr1, hm1, hw1, hc1⟩ := ReadsInt.ofRowC w1
 obtain ⟨k, h⟩ := P l0 l1 hm0 y0 hw0 hm1 y1 hw1
 refine (laws_FnPostDelivers.calls k _ _ l0 _ _ l1 true w (Kd.C_of_reads (d := (0 : Int)) (h1 := fun _ => rfl) hr0) hc0 (Kd.C_of_reads (d := (0 : Int)) (h1 := fun _ => rfl) hr1) hc1 h).mono ?_
 rintro e w' ⟨rfl, hd⟩
 exact ⟨rfl, hd⟩
end Go.Proofs.YtpopeedfgenebaaGreat.PFnPostDelivers
