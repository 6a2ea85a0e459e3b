/- Cut by wip/cut.py out of the texts of this claim (printed by the kit's printer, or this session's own): what the row's theorem does not reach is struck. Not trusted: Lean checks it. -/
import Derived.Test.YtohpaddcfcgmbaaProg
import Derived.Below
import Derived.Deep.Draws
import Derived.Deep.AppendLies
import Derived.Maps.AppendAt
import Derived.OwnWalk
import Derived.Laws.BytesArg
import Derived.Laws.MakeOwn
import Derived.Laws.OwnMore
import Derived.Deep.OwnRows
import Derived.Tactics
import Derived.Lib.ConvBytes
import Derived.Laws.Slices
import Derived.WalkKit
import Derived.KernelRfl
import Derived.RowKit3
import Derived.Deep.LoopGhost
import Derived.Deep.QuietTactic
import Derived.BigQuiet
import Derived.WideLaws
import Derived.Deep.DeepCutAuto
import Derived.Deep.CutBlock
import Derived.Deep.RegionHeld3
import Derived.Laws.Rows
import Derived.Lib.AppendStr
import Derived.ArgAppend
import Derived.Laws.IdiomCopy
import Derived.OrdersHeld
import Derived.Laws.BitsLemmas
import Derived.RowKit
import Derived.BigRegion
import Derived.ChangeAlike
import Derived.Deep.Cut
import Derived.Deep.RegionLaw
import Derived.Deep.RegionWith
import Derived.Laws.CopyOwn
import Derived.Laws.RangeAny
import Derived.Lib.Bytealg
import Derived.Lib.Hide
import Derived.Lib.SlBytesConst
import Derived.Lib.SliceRun
import Derived.Lib.Slices
import Derived.Lib.Strings
import Derived.Lib.Walk
import Derived.RegionTactic
import Derived.StillTailTactics
import Derived.Test.YtohpaddcfcgmbaaZFnExactOpenBlockWWords
import Derived.Test.YtohpaddcfcgmbaaZFnExactOpenBlockWLast
import Derived.Test.YtohpaddcfcgmbaaZFnExactOpenBlockWTab
import Derived.Test.YtohpaddcfcgmbaaZFnExactOpenBlockWApart
import Derived.Test.YtohpaddcfcgmbaaZFnExactOpenBlockWFoot
import Derived.Test.YtohpaddcfcgmbaaZFnExactOpenBlockWKept
import Derived.Test.YtohpaddcfcgmbaaZFnExactOpenBlockWShare
import Derived.Test.YtohpaddcfcgmbaaZFnExactOpenBlockWN
import Derived.Test.YtohpaddcfcgmbaaZFnExactOpenBlockWEqStruct
import Derived.Test.YtohpaddcfcgmbaaZFnExactOpenBlockWRepsOne
import Derived.Test.YtohpaddcfcgmbaaZFnExactOpenBlockWGuard
import Derived.Test.YtohpaddcfcgmbaaZFnExactOpenBlockWMore
namespace Go.Proofs.Ytohpaddcfcgmbaa.PFnExactOpenBlock
open Go.RowKit Go.Proofs.YtohpaddcfcgmbaaW.PrintWords Go.Proofs.YtohpaddcfcgmbaaW.PrintLast Go.Proofs.YtohpaddcfcgmbaaW.PrintMore
attribute [local go_sem] max2_int min2_int max_two min_two max_three min_three max_four min_four
set_option linter.unusedVariables false
set_option linter.unusedSimpArgs false
def errW : Option Int → Value
 | none => .nilIface
 | some c => .iface 0 (.int .i64 c)
theorem qu : errW none = .nilIface := rfl
theorem qt (c : Int) : errW (some c) = .iface 0 (.int .i64 c) := rfl
theorem info38 : (Try.prog.info? 38).map (fun i => (i.zero, i.size, i.bytes)) = some (some (.agg #[(.int .i64 0), (.int .i64 0), (.bool false)]), 3, 24) := by kernel_rfl
structure S35 where
  f0 : Int
  f1 : Int
  f2 : Bool
def z35 : S35 := ⟨(0 : Int), (0 : Int), false⟩
def k35 : Kd S35 := Kd.iso (Kd.pair (Kd.int .i64) (Kd.pair (Kd.int .i64) Kd.bool)) (fun x : S35 => (x.f0, x.f1, x.f2))
theorem k35_open {w : World} {x : S35} {cs : List Value} (h : k35.K w x cs) : cs = [.int .i64 x.f0, .int .i64 x.f1, .bool x.f2] := by
 obtain ⟨_, _, rfl, rfl, ⟨_, _, rfl, rfl, rfl⟩⟩ := h
 exact rfl
def rd_T35 (xs : List S35) (i : Int) : S35 := xs.getD i.toNat z35
theorem at_T35 {w : World} {A : Option Addr} {n : Nat} {xs : List S35} (h : Kd.C k35 w A n xs) (i : Int) (h0 : 0 ≤ i) (h1 : i < n) : ∃ ad , A = some ad ∧ w.cell? (ad.add (i.toNat * 3)) = some (.int .i64 (rd_T35 xs i).f0) ∧ w.cell? ⟨(ad.add (i.toNat * 3)).block, (ad.add (i.toNat * 3)).off + 1, none⟩ = some (.int .i64 (rd_T35 xs i).f1) ∧ w.cell? ⟨(ad.add (i.toNat * 3)).block, (ad.add (i.toNat * 3)).off + 2, none⟩ = some (.bool (rd_T35 xs i).f2) := by
 obtain ⟨ad, c, e, _, hK, hc0⟩ := Kd.C_get h z35 i h0 h1
 have hc : ∀ j u, c[j]? = some u → w.cell? (ad.add (i.toNat * 3 + j)) = some u := hc0
 obtain rfl := k35_open hK
 exact ⟨ad, e, hc 0 _ rfl, by rw [← add_field _ _ 1 (by omega)]; exact hc 1 _ rfl, by rw [← add_field _ _ 2 (by omega)]; exact hc 2 _ rfl⟩
structure S38 where
  f0 : Int
  f1 : Int
  f2 : Bool
def z38 : S38 := ⟨(0 : Int), (0 : Int), false⟩
def k38 : Kd S38 := Kd.iso (Kd.pair (Kd.int .i64) (Kd.pair (Kd.int .i64) Kd.bool)) (fun x : S38 => (x.f0, x.f1, x.f2))
theorem k38_open {w : World} {x : S38} {cs : List Value} (h : k38.K w x cs) : cs = [.int .i64 x.f0, .int .i64 x.f1, .bool x.f2] := by
 obtain ⟨_, _, rfl, rfl, ⟨_, _, rfl, rfl, rfl⟩⟩ := h
 exact rfl
theorem k38_openM {w : World} {base : Nat} {ok : Nat → Prop} {x : S38} {cs : List Value} (h : k38.M w base ok x cs) : cs = [.int .i64 x.f0, .int .i64 x.f1, .bool x.f2] := by
 obtain ⟨_, _, rfl, rfl, ⟨_, _, rfl, rfl, rfl⟩⟩ := h
 exact rfl
theorem k38_mkM (w : World) (base : Nat) (ok : Nat → Prop) (x : S38)  : k38.M w base ok x [.int .i64 x.f0, .int .i64 x.f1, .bool x.f2] := ⟨[.int .i64 x.f0], [.int .i64 x.f1, .bool x.f2], rfl, rfl, ⟨[.int .i64 x.f1], [.bool x.f2], rfl, rfl, rfl⟩⟩
def ql (xs : List S38) (i : Int) : S38 := xs.getD i.toNat z38
theorem zu {w : World} {A : Option Addr} {n : Nat} {xs : List S38} (h : Kd.C k38 w A n xs) (i : Int) (h0 : 0 ≤ i) (h1 : i < n) : ∃ ad , A = some ad ∧ w.cell? (ad.add (i.toNat * 3)) = some (.int .i64 (ql xs i).f0) ∧ w.cell? ⟨(ad.add (i.toNat * 3)).block, (ad.add (i.toNat * 3)).off + 1, none⟩ = some (.int .i64 (ql xs i).f1) ∧ w.cell? ⟨(ad.add (i.toNat * 3)).block, (ad.add (i.toNat * 3)).off + 2, none⟩ = some (.bool (ql xs i).f2) := by
 obtain ⟨ad, c, e, _, hK, hc0⟩ := Kd.C_get h z38 i h0 h1
 have hc : ∀ j u, c[j]? = some u → w.cell? (ad.add (i.toNat * 3 + j)) = some u := hc0
 obtain rfl := k38_open hK
 exact ⟨ad, e, hc 0 _ rfl, by rw [← add_field _ _ 1 (by omega)]; exact hc 1 _ rfl, by rw [← add_field _ _ 2 (by omega)]; exact hc 2 _ rfl⟩
structure S30 where
  f0 : Int
  f1 : Int
  f2 : (List S38)
theorem be0_ {p q : Prop} (h : qa p) (t : p → q := by intro HB; repeat (first | (with_reducible first | exact HB | apply qi | apply qe | apply qh) | exact HB)) : q := t h.out
theorem be1_ {p q r0 : Prop} (h : qa p) (g0 : qa r0) (t : p → r0 → q := by intro HB G0; repeat (first | (with_reducible first | exact HB | apply qi | apply qe | apply qh | refine qb ?_ G0) | exact HB)) : q := t h.out g0.out
theorem be2_ {p q r0 r1 : Prop} (h : qa p) (g0 : qa r0) (g1 : qa r1) (t : p → r0 → r1 → q := by intro HB G0 G1; repeat (first | (with_reducible first | exact HB | apply qi | apply qe | apply qh | refine qb ?_ G0 | refine qb ?_ G1) | exact HB)) : q := t h.out g0.out g1.out
theorem be3_ {p q r0 r1 r2 : Prop} (h : qa p) (g0 : qa r0) (g1 : qa r1) (g2 : qa r2) (t : p → r0 → r1 → r2 → q := by intro HB G0 G1 G2; repeat (first | (with_reducible first | exact HB | apply qi | apply qe | apply qh | refine qb ?_ G0 | refine qb ?_ G1 | refine qb ?_ G2) | exact HB)) : q := t h.out g0.out g1.out g2.out
theorem be4_ {p q r0 r1 r2 r3 : Prop} (h : qa p) (g0 : qa r0) (g1 : qa r1) (g2 : qa r2) (g3 : qa r3) (t : p → r0 → r1 → r2 → r3 → q := by intro HB G0 G1 G2 G3; repeat (first | (with_reducible first | exact HB | apply qi | apply qe | apply qh | refine qb ?_ G0 | refine qb ?_ G1 | refine qb ?_ G2 | refine qb ?_ G3) | exact HB)) : q := t h.out g0.out g1.out g2.out g3.out
theorem be5_ {p q r0 r1 r2 r3 r4 : Prop} (h : qa p) (g0 : qa r0) (g1 : qa r1) (g2 : qa r2) (g3 : qa r3) (g4 : qa r4) (t : p → r0 → r1 → r2 → r3 → r4 → q := by intro HB G0 G1 G2 G3 G4; repeat (first | (with_reducible first | exact HB | apply qi | apply qe | apply qh | refine qb ?_ G0 | refine qb ?_ G1 | refine qb ?_ G2 | refine qb ?_ G3 | refine qb ?_ G4) | exact HB)) : q := t h.out g0.out g1.out g2.out g3.out g4.out
theorem be6_ {p q r0 r1 r2 r3 r4 r5 : Prop} (h : qa p) (g0 : qa r0) (g1 : qa r1) (g2 : qa r2) (g3 : qa r3) (g4 : qa r4) (g5 : qa r5) (t : p → r0 → r1 → r2 → r3 → r4 → r5 → q := by intro HB G0 G1 G2 G3 G4 G5; repeat (first | (with_reducible first | exact HB | apply qi | apply qe | apply qh | refine qb ?_ G0 | refine qb ?_ G1 | refine qb ?_ G2 | refine qb ?_ G3 | refine qb ?_ G4 | refine qb ?_ G5) | exact HB)) : q := t h.out g0.out g1.out g2.out g3.out g4.out g5.out
theorem be7_ {p q r0 r1 r2 r3 r4 r5 r6 : Prop} (h : qa p) (g0 : qa r0) (g1 : qa r1) (g2 : qa r2) (g3 : qa r3) (g4 : qa r4) (g5 : qa r5) (g6 : qa r6) (t : p → r0 → r1 → r2 → r3 → r4 → r5 → r6 → q := by intro HB G0 G1 G2 G3 G4 G5 G6; repeat (first | (with_reducible first | exact HB | apply qi | apply qe | apply qh | refine qb ?_ G0 | refine qb ?_ G1 | refine qb ?_ G2 | refine qb ?_ G3 | refine qb ?_ G4 | refine qb ?_ G5 | refine qb ?_ G6) | exact HB)) : q := t h.out g0.out g1.out g2.out g3.out g4.out g5.out g6.out
theorem be8_ {p q r0 r1 r2 r3 r4 r5 r6 r7 : Prop} (h : qa p) (g0 : qa r0) (g1 : qa r1) (g2 : qa r2) (g3 : qa r3) (g4 : qa r4) (g5 : qa r5) (g6 : qa r6) (g7 : qa r7) (t : p → r0 → r1 → r2 → r3 → r4 → r5 → r6 → r7 → q := by intro HB G0 G1 G2 G3 G4 G5 G6 G7; repeat (first | (with_reducible first | exact HB | apply qi | apply qe | apply qh | refine qb ?_ G0 | refine qb ?_ G1 | refine qb ?_ G2 | refine qb ?_ G3 | refine qb ?_ G4 | refine qb ?_ G5 | refine qb ?_ G6 | refine qb ?_ G7) | exact HB)) : q := t h.out g0.out g1.out g2.out g3.out g4.out g5.out g6.out g7.out
theorem be9_ {p q r0 r1 r2 r3 r4 r5 r6 r7 r8 : Prop} (h : qa p) (g0 : qa r0) (g1 : qa r1) (g2 : qa r2) (g3 : qa r3) (g4 : qa r4) (g5 : qa r5) (g6 : qa r6) (g7 : qa r7) (g8 : qa r8) (t : p → r0 → r1 → r2 → r3 → r4 → r5 → r6 → r7 → r8 → q := by intro HB G0 G1 G2 G3 G4 G5 G6 G7 G8; repeat (first | (with_reducible first | exact HB | apply qi | apply qe | apply qh | refine qb ?_ G0 | refine qb ?_ G1 | refine qb ?_ G2 | refine qb ?_ G3 | refine qb ?_ G4 | refine qb ?_ G5 | refine qb ?_ G6 | refine qb ?_ G7 | refine qb ?_ G8) | exact HB)) : q := t h.out g0.out g1.out g2.out g3.out g4.out g5.out g6.out g7.out g8.out
theorem bk_ {p q : Prop} (h : qa p) (t : p → q := by intro H; (with_reducible repeat (first | refine qd ?_ _ | refine qf ?_ | refine qc ?_ _)); exact H) : q := t h.out
theorem kr_ {p q : Prop} (h : qa p) (t : p → q := by intro H; (with_reducible repeat (first | apply Kd.qo | apply Kd.qp | apply Kd.qq)); exact H) : q := t h.out
theorem sA_ {α : Type _} {l : List α} {i : Nat} {a : α} : l.toArray.setIfInBounds i a = (l.set i a).toArray := List.setIfInBounds_toArray ..
theorem sB_ {α : Type _} {a b : α} {l : List α} : (a :: l).set 0 b = b :: l := rfl
theorem sC_ {α : Type _} {a b : α} {l : List α} {i : Nat} : (a :: l).set (i + 1) b = a :: l.set i b := rfl
end Go.Proofs.Ytohpaddcfcgmbaa.PFnExactOpenBlock
