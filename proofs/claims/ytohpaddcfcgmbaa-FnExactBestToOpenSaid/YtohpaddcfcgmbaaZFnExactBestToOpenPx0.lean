/- Cut by wip/cut.py out of the texts of this claim (printed by the kit's printer, or this session's own): what the row's theorem does not reach is struck. Not trusted: Lean checks it. -/
import Derived.Test.YtohpaddcfcgmbaaProg
import Derived.Below
import Derived.Deep.Draws
import Derived.Deep.AppendLies
import Derived.Maps.AppendAt
import Derived.OwnWalk
import Derived.Laws.BytesArg
import Derived.Laws.MakeOwn
import Derived.Laws.OwnMore
import Derived.Deep.OwnRows
import Derived.Tactics
import Derived.Lib.ConvBytes
import Derived.Laws.Slices
import Derived.WalkKit
import Derived.KernelRfl
import Derived.RowKit3
import Derived.Deep.LoopGhost
import Derived.Deep.QuietTactic
import Derived.BigQuiet
import Derived.WideLaws
import Derived.Deep.DeepCutAuto
import Derived.Deep.CutBlock
import Derived.Deep.RegionHeld3
import Derived.Laws.Rows
import Derived.Lib.AppendStr
import Derived.ArgAppend
import Derived.Laws.IdiomCopy
import Derived.OrdersHeld
import Derived.Laws.BitsLemmas
import Derived.RowKit
import Derived.BigRegion
import Derived.ChangeAlike
import Derived.Deep.Cut
import Derived.Deep.RegionLaw
import Derived.Deep.RegionWith
import Derived.Laws.CopyOwn
import Derived.Laws.RangeAny
import Derived.Lib.Bytealg
import Derived.Lib.Hide
import Derived.Lib.SlBytesConst
import Derived.Lib.SliceRun
import Derived.Lib.Slices
import Derived.Lib.Strings
import Derived.Lib.Walk
import Derived.RegionTactic
import Derived.StillTailTactics
import Derived.Test.YtohpaddcfcgmbaaZFnExactBestToOpenWWords
import Derived.Test.YtohpaddcfcgmbaaZFnExactBestToOpenWLast
import Derived.Test.YtohpaddcfcgmbaaZFnExactBestToOpenWTab
import Derived.Test.YtohpaddcfcgmbaaZFnExactBestToOpenWApart
import Derived.Test.YtohpaddcfcgmbaaZFnExactBestToOpenWFoot
import Derived.Test.YtohpaddcfcgmbaaZFnExactBestToOpenWKept
import Derived.Test.YtohpaddcfcgmbaaZFnExactBestToOpenWShare
import Derived.Test.YtohpaddcfcgmbaaZFnExactBestToOpenWN
import Derived.Test.YtohpaddcfcgmbaaZFnExactBestToOpenWEqStruct
import Derived.Test.YtohpaddcfcgmbaaZFnExactBestToOpenWRepsOne
import Derived.Test.YtohpaddcfcgmbaaZFnExactBestToOpenWGuard
import Derived.Test.YtohpaddcfcgmbaaZFnExactBestToOpenWNEv
import Derived.Test.YtohpaddcfcgmbaaZFnExactBestToOpenWMore
namespace Go.Proofs.Ytohpaddcfcgmbaa.PFnExactBestToOpen
open Go.RowKit Go.Proofs.YtohpaddcfcgmbaaW.PrintWords Go.Proofs.YtohpaddcfcgmbaaW.PrintLast Go.Proofs.YtohpaddcfcgmbaaW.PrintMore
attribute [local go_sem] max2_int min2_int max_two min_two max_three min_three max_four min_four
set_option linter.unusedVariables false
set_option linter.unusedSimpArgs false
def errW : Option Int → Value
 | none => .nilIface
 | some c => .iface 0 (.int .i64 c)
theorem qq : errW none = .nilIface := rfl
theorem qp (c : Int) : errW (some c) = .iface 0 (.int .i64 c) := rfl
theorem info3 : (Try.prog.info? 3).map (fun i => (i.zero, i.size, i.bytes)) = some (some (.int .i64 0), 1, 8) := by kernel_rfl
theorem info38 : (Try.prog.info? 38).map (fun i => (i.zero, i.size, i.bytes)) = some (some (.agg #[(.int .i64 0), (.int .i64 0), (.bool false)]), 3, 24) := by kernel_rfl
theorem info42 : (Try.prog.info? 42).map (fun i => (i.zero, i.size, i.bytes)) = some (some (.slice none 0 0), 1, 24) := by kernel_rfl
structure S35 where
  f0 : Int
  f1 : Int
  f2 : Bool
def z35 : S35 := ⟨(0 : Int), (0 : Int), false⟩
def k35 : Kd S35 := Kd.iso (Kd.pair (Kd.int .i64) (Kd.pair (Kd.int .i64) Kd.bool)) (fun x : S35 => (x.f0, x.f1, x.f2))
theorem k35_open {w : World} {x : S35} {cs : List Value} (h : k35.K w x cs) : cs = [.int .i64 x.f0, .int .i64 x.f1, .bool x.f2] := by
 obtain ⟨_, _, rfl, rfl, ⟨_, _, rfl, rfl, rfl⟩⟩ := h
 exact rfl
def rd_T35 (xs : List S35) (i : Int) : S35 := xs.getD i.toNat z35
theorem at_T35 {w : World} {A : Option Addr} {n : Nat} {xs : List S35} (h : Kd.C k35 w A n xs) (i : Int) (h0 : 0 ≤ i) (h1 : i < n) : ∃ ad , A = some ad ∧ w.cell? (ad.add (i.toNat * 3)) = some (.int .i64 (rd_T35 xs i).f0) ∧ w.cell? ⟨(ad.add (i.toNat * 3)).block, (ad.add (i.toNat * 3)).off + 1, none⟩ = some (.int .i64 (rd_T35 xs i).f1) ∧ w.cell? ⟨(ad.add (i.toNat * 3)).block, (ad.add (i.toNat * 3)).off + 2, none⟩ = some (.bool (rd_T35 xs i).f2) := by
 obtain ⟨ad, c, e, _, hK, hc0⟩ := Kd.C_get h z35 i h0 h1
 have hc : ∀ j u, c[j]? = some u → w.cell? (ad.add (i.toNat * 3 + j)) = some u := hc0
 obtain rfl := k35_open hK
 exact ⟨ad, e, hc 0 _ rfl, by rw [← add_field _ _ 1 (by omega)]; exact hc 1 _ rfl, by rw [← add_field _ _ 2 (by omega)]; exact hc 2 _ rfl⟩
structure S38 where
  f0 : Int
  f1 : Int
  f2 : Bool
def z38 : S38 := ⟨(0 : Int), (0 : Int), false⟩
def k38 : Kd S38 := Kd.iso (Kd.pair (Kd.int .i64) (Kd.pair (Kd.int .i64) Kd.bool)) (fun x : S38 => (x.f0, x.f1, x.f2))
theorem k38_open {w : World} {x : S38} {cs : List Value} (h : k38.K w x cs) : cs = [.int .i64 x.f0, .int .i64 x.f1, .bool x.f2] := by
 obtain ⟨_, _, rfl, rfl, ⟨_, _, rfl, rfl, rfl⟩⟩ := h
 exact rfl
theorem k38_openM {w : World} {base : Nat} {ok : Nat → Prop} {x : S38} {cs : List Value} (h : k38.M w base ok x cs) : cs = [.int .i64 x.f0, .int .i64 x.f1, .bool x.f2] := by
 obtain ⟨_, _, rfl, rfl, ⟨_, _, rfl, rfl, rfl⟩⟩ := h
 exact rfl
theorem k38_mkM (w : World) (base : Nat) (ok : Nat → Prop) (x : S38)  : k38.M w base ok x [.int .i64 x.f0, .int .i64 x.f1, .bool x.f2] := ⟨[.int .i64 x.f0], [.int .i64 x.f1, .bool x.f2], rfl, rfl, ⟨[.int .i64 x.f1], [.bool x.f2], rfl, rfl, rfl⟩⟩
def qk (xs : List S38) (i : Int) : S38 := xs.getD i.toNat z38
theorem jd {w : World} {A : Option Addr} {n : Nat} {xs : List S38} (h : Kd.C k38 w A n xs) (i : Int) (h0 : 0 ≤ i) (h1 : i < n) : ∃ ad , A = some ad ∧ w.cell? (ad.add (i.toNat * 3)) = some (.int .i64 (qk xs i).f0) ∧ w.cell? ⟨(ad.add (i.toNat * 3)).block, (ad.add (i.toNat * 3)).off + 1, none⟩ = some (.int .i64 (qk xs i).f1) ∧ w.cell? ⟨(ad.add (i.toNat * 3)).block, (ad.add (i.toNat * 3)).off + 2, none⟩ = some (.bool (qk xs i).f2) := by
 obtain ⟨ad, c, e, _, hK, hc0⟩ := Kd.C_get h z38 i h0 h1
 have hc : ∀ j u, c[j]? = some u → w.cell? (ad.add (i.toNat * 3 + j)) = some u := hc0
 obtain rfl := k38_open hK
 exact ⟨ad, e, hc 0 _ rfl, by rw [← add_field _ _ 1 (by omega)]; exact hc 1 _ rfl, by rw [← add_field _ _ 2 (by omega)]; exact hc 2 _ rfl⟩
structure S30 where
  f0 : Int
  f1 : Int
  f2 : (List S38)
def rd_L6 (xs : List (List Int)) (i : Int) : (List Int) := xs.getD i.toNat ([] : List Int)
theorem be0_ {p q : Prop} (h : qd p) (t : p → q := by intro HB; repeat (first | (with_reducible first | exact HB | apply qg | apply qa | apply qh) | exact HB)) : q := t h.out
theorem be1_ {p q r0 : Prop} (h : qd p) (g0 : qd r0) (t : p → r0 → q := by intro HB G0; repeat (first | (with_reducible first | exact HB | apply qg | apply qa | apply qh | refine qf ?_ G0) | exact HB)) : q := t h.out g0.out
theorem be2_ {p q r0 r1 : Prop} (h : qd p) (g0 : qd r0) (g1 : qd r1) (t : p → r0 → r1 → q := by intro HB G0 G1; repeat (first | (with_reducible first | exact HB | apply qg | apply qa | apply qh | refine qf ?_ G0 | refine qf ?_ G1) | exact HB)) : q := t h.out g0.out g1.out
theorem be3_ {p q r0 r1 r2 : Prop} (h : qd p) (g0 : qd r0) (g1 : qd r1) (g2 : qd r2) (t : p → r0 → r1 → r2 → q := by intro HB G0 G1 G2; repeat (first | (with_reducible first | exact HB | apply qg | apply qa | apply qh | refine qf ?_ G0 | refine qf ?_ G1 | refine qf ?_ G2) | exact HB)) : q := t h.out g0.out g1.out g2.out
theorem be4_ {p q r0 r1 r2 r3 : Prop} (h : qd p) (g0 : qd r0) (g1 : qd r1) (g2 : qd r2) (g3 : qd r3) (t : p → r0 → r1 → r2 → r3 → q := by intro HB G0 G1 G2 G3; repeat (first | (with_reducible first | exact HB | apply qg | apply qa | apply qh | refine qf ?_ G0 | refine qf ?_ G1 | refine qf ?_ G2 | refine qf ?_ G3) | exact HB)) : q := t h.out g0.out g1.out g2.out g3.out
theorem bk_ {p q : Prop} (h : qd p) (t : p → q := by intro H; (with_reducible repeat (first | refine qc ?_ _ | refine qe ?_ | refine qb ?_ _)); exact H) : q := t h.out
theorem kr_ {p q : Prop} (h : qd p) (t : p → q := by intro H; (with_reducible repeat (first | apply Kd.qt | apply Kd.qu | apply Kd.qx)); exact H) : q := t h.out
theorem sA_ {α : Type _} {l : List α} {i : Nat} {a : α} : l.toArray.setIfInBounds i a = (l.set i a).toArray := List.setIfInBounds_toArray ..
theorem sB_ {α : Type _} {a b : α} {l : List α} : (a :: l).set 0 b = b :: l := rfl
theorem sC_ {α : Type _} {a b : α} {l : List α} {i : Nat} : (a :: l).set (i + 1) b = a :: l.set i b := rfl
end Go.Proofs.Ytohpaddcfcgmbaa.PFnExactBestToOpen
