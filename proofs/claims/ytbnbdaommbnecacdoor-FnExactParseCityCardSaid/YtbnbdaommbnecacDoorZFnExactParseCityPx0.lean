/- Cut by wip/cut.py out of the texts of this claim (printed by the kit's printer, or this session's own): what the row's theorem does not reach is struck. Not trusted: Lean checks it. -/
import Derived.Test.YtbnbdaommbnecacDoorProg
import Derived.Below
import Derived.Deep.Draws
import Derived.Deep.AppendLies
import Derived.Maps.AppendAt
import Derived.OwnWalk
import Derived.Laws.BytesArg
import Derived.Laws.MakeOwn
import Derived.Laws.OwnMore
import Derived.Deep.OwnRows
import Derived.Tactics
import Derived.Lib.ConvBytes
import Derived.Laws.Slices
import Derived.WalkKit
import Derived.KernelRfl
import Derived.RowKit3
import Derived.Deep.LoopGhost
import Derived.Deep.QuietTactic
import Derived.BigQuiet
import Derived.WideLaws
import Derived.Deep.DeepCutAuto
import Derived.Deep.CutBlock
import Derived.Deep.RegionHeld3
import Derived.Laws.Rows
import Derived.Lib.AppendStr
import Derived.ArgAppend
import Derived.Laws.IdiomCopy
import Derived.OrdersHeld
import Derived.Laws.BitsLemmas
import Derived.RowKit
import Derived.Lib.AppendIntMem
import Derived.Lib.Bytealg
import Derived.Lib.Hide
import Derived.Lib.ItoaMem
import Derived.Lib.LaidTab
import Derived.Lib.QuietBelow
import Derived.Lib.Slices
import Derived.Lib.SmallJoins
import Derived.Lib.SplitLaws
import Derived.Lib.Strings
import Derived.Lib.Walk
import Derived.Shelf.Strconv.AtoiAll
import Derived.Shelf.Strconv.Itoa3
import Derived.Shelf.Strings.Cut
import Derived.Shelf.Strings.OnBuilder
import Derived.Shelf.Strings.Search3
import Derived.Shelf.Strings.Split
import Derived.Test.YtbnbdaommbnecacDoorZFnExactParseCityWWords
import Derived.Test.YtbnbdaommbnecacDoorZFnExactParseCityWLast
import Derived.Test.YtbnbdaommbnecacDoorZFnExactParseCityWTab
import Derived.Test.YtbnbdaommbnecacDoorZFnExactParseCityWApart
import Derived.Test.YtbnbdaommbnecacDoorZFnExactParseCityWFoot
import Derived.Test.YtbnbdaommbnecacDoorZFnExactParseCityWKept
import Derived.Test.YtbnbdaommbnecacDoorZFnExactParseCityWShare
import Derived.Test.YtbnbdaommbnecacDoorZFnExactParseCityWN
import Derived.Laws.StructEq
import Derived.Test.YtbnbdaommbnecacDoorZFnExactParseCityWRepsOne
import Derived.Test.YtbnbdaommbnecacDoorZFnExactParseCityWInv
import Derived.Test.YtbnbdaommbnecacDoorZFnExactParseCityWGuard
import Derived.Test.YtbnbdaommbnecacDoorZFnExactParseCityWMore
namespace Go.Proofs.YtbnbdaommbnecacDoor.PFnExactParseCity
open Go.RowKit Go.Proofs.YtbnbdaommbnecacDoorW.PrintWords Go.Proofs.YtbnbdaommbnecacDoorW.PrintLast Go.Proofs.YtbnbdaommbnecacDoorW.PrintMore
attribute [local go_sem] max2_int min2_int max_two min_two max_three min_three max_four min_four
set_option linter.unusedVariables false
set_option linter.unusedSimpArgs false
def errW : Option Int → Value
 | none => .nilIface
 | some c => .iface 0 (.int .i64 c)
theorem qt : errW none = .nilIface := rfl
theorem qr (c : Int) : errW (some c) = .iface 0 (.int .i64 c) := rfl
theorem info3 : (Tryd.prog.info? 3).map (fun i => (i.zero, i.size, i.bytes)) = some (some (.int .i64 0), 1, 8) := by kernel_rfl
theorem info9 : (Tryd.prog.info? 9).map (fun i => (i.zero, i.size, i.bytes)) = some (some (.string ⟨#[]⟩), 1, 16) := by kernel_rfl
theorem info39 : (Tryd.prog.info? 39).map (fun i => (i.zero, i.size, i.bytes)) = some (some (.agg #[(.int .i64 0), (.int .i64 0), (.bool false)]), 3, 24) := by kernel_rfl
structure S39 where
  f0 : Int
  f1 : Int
  f2 : Bool
def z39 : S39 := ⟨(0 : Int), (0 : Int), false⟩
def k39 : Kd S39 := Kd.iso (Kd.pair (Kd.int .i64) (Kd.pair (Kd.int .i64) Kd.bool)) (fun x : S39 => (x.f0, x.f1, x.f2))
theorem k39_open {w : World} {x : S39} {cs : List Value} (h : k39.K w x cs) : cs = [.int .i64 x.f0, .int .i64 x.f1, .bool x.f2] := by
 obtain ⟨_, _, rfl, rfl, ⟨_, _, rfl, rfl, rfl⟩⟩ := h
 exact rfl
theorem k39_openM {w : World} {base : Nat} {ok : Nat → Prop} {x : S39} {cs : List Value} (h : k39.M w base ok x cs) : cs = [.int .i64 x.f0, .int .i64 x.f1, .bool x.f2] := by
 obtain ⟨_, _, rfl, rfl, ⟨_, _, rfl, rfl, rfl⟩⟩ := h
 exact rfl
theorem k39_mkM (w : World) (base : Nat) (ok : Nat → Prop) (x : S39)  : k39.M w base ok x [.int .i64 x.f0, .int .i64 x.f1, .bool x.f2] := ⟨[.int .i64 x.f0], [.int .i64 x.f1, .bool x.f2], rfl, rfl, ⟨[.int .i64 x.f1], [.bool x.f2], rfl, rfl, rfl⟩⟩
def qk (xs : List S39) (i : Int) : S39 := xs.getD i.toNat z39
theorem zv {w : World} {A : Option Addr} {n : Nat} {xs : List S39} (h : Kd.C k39 w A n xs) (i : Int) (h0 : 0 ≤ i) (h1 : i < n) : ∃ ad , A = some ad ∧ w.cell? (ad.add (i.toNat * 3)) = some (.int .i64 (qk xs i).f0) ∧ w.cell? ⟨(ad.add (i.toNat * 3)).block, (ad.add (i.toNat * 3)).off + 1, none⟩ = some (.int .i64 (qk xs i).f1) ∧ w.cell? ⟨(ad.add (i.toNat * 3)).block, (ad.add (i.toNat * 3)).off + 2, none⟩ = some (.bool (qk xs i).f2) := by
 obtain ⟨ad, c, e, _, hK, hc0⟩ := Kd.C_get h z39 i h0 h1
 have hc : ∀ j u, c[j]? = some u → w.cell? (ad.add (i.toNat * 3 + j)) = some u := hc0
 obtain rfl := k39_open hK
 exact ⟨ad, e, hc 0 _ rfl, by rw [← add_field _ _ 1 (by omega)]; exact hc 1 _ rfl, by rw [← add_field _ _ 2 (by omega)]; exact hc 2 _ rfl⟩
structure S24 where
  f0 : Int
  f1 : Int
  f2 : (List S39)
theorem be0_ {p q : Prop} (h : qb p) (t : p → q := by intro HB; repeat (first | (with_reducible first | exact HB | apply qd | apply qa | apply qc) | exact HB)) : q := t h.out
theorem be1_ {p q r0 : Prop} (h : qb p) (g0 : qb r0) (t : p → r0 → q := by intro HB G0; repeat (first | (with_reducible first | exact HB | apply qd | apply qa | apply qc | refine qh ?_ G0) | exact HB)) : q := t h.out g0.out
theorem be2_ {p q r0 r1 : Prop} (h : qb p) (g0 : qb r0) (g1 : qb r1) (t : p → r0 → r1 → q := by intro HB G0 G1; repeat (first | (with_reducible first | exact HB | apply qd | apply qa | apply qc | refine qh ?_ G0 | refine qh ?_ G1) | exact HB)) : q := t h.out g0.out g1.out
theorem be3_ {p q r0 r1 r2 : Prop} (h : qb p) (g0 : qb r0) (g1 : qb r1) (g2 : qb r2) (t : p → r0 → r1 → r2 → q := by intro HB G0 G1 G2; repeat (first | (with_reducible first | exact HB | apply qd | apply qa | apply qc | refine qh ?_ G0 | refine qh ?_ G1 | refine qh ?_ G2) | exact HB)) : q := t h.out g0.out g1.out g2.out
theorem be4_ {p q r0 r1 r2 r3 : Prop} (h : qb p) (g0 : qb r0) (g1 : qb r1) (g2 : qb r2) (g3 : qb r3) (t : p → r0 → r1 → r2 → r3 → q := by intro HB G0 G1 G2 G3; repeat (first | (with_reducible first | exact HB | apply qd | apply qa | apply qc | refine qh ?_ G0 | refine qh ?_ G1 | refine qh ?_ G2 | refine qh ?_ G3) | exact HB)) : q := t h.out g0.out g1.out g2.out g3.out
theorem be5_ {p q r0 r1 r2 r3 r4 : Prop} (h : qb p) (g0 : qb r0) (g1 : qb r1) (g2 : qb r2) (g3 : qb r3) (g4 : qb r4) (t : p → r0 → r1 → r2 → r3 → r4 → q := by intro HB G0 G1 G2 G3 G4; repeat (first | (with_reducible first | exact HB | apply qd | apply qa | apply qc | refine qh ?_ G0 | refine qh ?_ G1 | refine qh ?_ G2 | refine qh ?_ G3 | refine qh ?_ G4) | exact HB)) : q := t h.out g0.out g1.out g2.out g3.out g4.out
theorem be6_ {p q r0 r1 r2 r3 r4 r5 : Prop} (h : qb p) (g0 : qb r0) (g1 : qb r1) (g2 : qb r2) (g3 : qb r3) (g4 : qb r4) (g5 : qb r5) (t : p → r0 → r1 → r2 → r3 → r4 → r5 → q := by intro HB G0 G1 G2 G3 G4 G5; repeat (first | (with_reducible first | exact HB | apply qd | apply qa | apply qc | refine qh ?_ G0 | refine qh ?_ G1 | refine qh ?_ G2 | refine qh ?_ G3 | refine qh ?_ G4 | refine qh ?_ G5) | exact HB)) : q := t h.out g0.out g1.out g2.out g3.out g4.out g5.out
theorem be7_ {p q r0 r1 r2 r3 r4 r5 r6 : Prop} (h : qb p) (g0 : qb r0) (g1 : qb r1) (g2 : qb r2) (g3 : qb r3) (g4 : qb r4) (g5 : qb r5) (g6 : qb r6) (t : p → r0 → r1 → r2 → r3 → r4 → r5 → r6 → q := by intro HB G0 G1 G2 G3 G4 G5 G6; repeat (first | (with_reducible first | exact HB | apply qd | apply qa | apply qc | refine qh ?_ G0 | refine qh ?_ G1 | refine qh ?_ G2 | refine qh ?_ G3 | refine qh ?_ G4 | refine qh ?_ G5 | refine qh ?_ G6) | exact HB)) : q := t h.out g0.out g1.out g2.out g3.out g4.out g5.out g6.out
theorem be8_ {p q r0 r1 r2 r3 r4 r5 r6 r7 : Prop} (h : qb p) (g0 : qb r0) (g1 : qb r1) (g2 : qb r2) (g3 : qb r3) (g4 : qb r4) (g5 : qb r5) (g6 : qb r6) (g7 : qb r7) (t : p → r0 → r1 → r2 → r3 → r4 → r5 → r6 → r7 → q := by intro HB G0 G1 G2 G3 G4 G5 G6 G7; repeat (first | (with_reducible first | exact HB | apply qd | apply qa | apply qc | refine qh ?_ G0 | refine qh ?_ G1 | refine qh ?_ G2 | refine qh ?_ G3 | refine qh ?_ G4 | refine qh ?_ G5 | refine qh ?_ G6 | refine qh ?_ G7) | exact HB)) : q := t h.out g0.out g1.out g2.out g3.out g4.out g5.out g6.out g7.out
theorem be9_ {p q r0 r1 r2 r3 r4 r5 r6 r7 r8 : Prop} (h : qb p) (g0 : qb r0) (g1 : qb r1) (g2 : qb r2) (g3 : qb r3) (g4 : qb r4) (g5 : qb r5) (g6 : qb r6) (g7 : qb r7) (g8 : qb r8) (t : p → r0 → r1 → r2 → r3 → r4 → r5 → r6 → r7 → r8 → q := by intro HB G0 G1 G2 G3 G4 G5 G6 G7 G8; repeat (first | (with_reducible first | exact HB | apply qd | apply qa | apply qc | refine qh ?_ G0 | refine qh ?_ G1 | refine qh ?_ G2 | refine qh ?_ G3 | refine qh ?_ G4 | refine qh ?_ G5 | refine qh ?_ G6 | refine qh ?_ G7 | refine qh ?_ G8) | exact HB)) : q := t h.out g0.out g1.out g2.out g3.out g4.out g5.out g6.out g7.out g8.out
theorem bk_ {p q : Prop} (h : qb p) (t : p → q := by intro H; (with_reducible repeat (first | refine qf ?_ _ | refine qi ?_ | refine qe ?_ _)); exact H) : q := t h.out
theorem kr_ {p q : Prop} (h : qb p) (t : p → q := by intro H; (with_reducible repeat (first | apply Kd.qo | apply Kd.qp | apply Kd.qu)); exact H) : q := t h.out
theorem al_ {p : Prop} (t : p := by (try simp only [List.map_toArray, List.map_cons, List.map_nil]); first | done | rfl | (simp only [List.length_drop, List.length_take]; rfl)) : p := t
theorem er_ {p : Prop} (t : p := by first | rfl | (simp [qt, qr] <;> rfl) | (simp [*, qt, qr] <;> rfl)) : p := t
theorem es_ {p : Prop} (t : p := by first | rfl | (simp; done) | (simp [*]; done)) : p := t
theorem od_ {p : Prop} [Decidable p] (t : decide p = true := by first | (with_reducible assumption) | assumption) : p := of_decide_eq_true t
theorem sA_ {α : Type _} {l : List α} {i : Nat} {a : α} : l.toArray.setIfInBounds i a = (l.set i a).toArray := List.setIfInBounds_toArray ..
theorem sB_ {α : Type _} {a b : α} {l : List α} : (a :: l).set 0 b = b :: l := rfl
theorem sC_ {α : Type _} {a b : α} {l : List α} {i : Nat} : (a :: l).set (i + 1) b = a :: l.set i b := rfl
end Go.Proofs.YtbnbdaommbnecacDoor.PFnExactParseCity
