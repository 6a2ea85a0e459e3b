/- Cut by wip/cut.py out of the texts of this claim (printed by the kit's printer, or this session's own): what the row's theorem does not reach is struck. Not trusted: Lean checks it. -/
import Derived.Test.YtpopeedfgenebaaDoorProg
import Derived.Below
import Derived.Deep.Draws
import Derived.Deep.AppendLies
import Derived.Maps.AppendAt
import Derived.OwnWalk
import Derived.Laws.BytesArg
import Derived.Laws.MakeOwn
import Derived.Laws.OwnMore
import Derived.Deep.OwnRows
import Derived.Tactics
import Derived.Lib.ConvBytes
import Derived.Laws.Slices
import Derived.WalkKit
import Derived.KernelRfl
import Derived.RowKit3
import Derived.Deep.LoopGhost
import Derived.Deep.QuietTactic
import Derived.BigQuiet
import Derived.WideLaws
import Derived.Deep.DeepCutAuto
import Derived.Deep.CutBlock
import Derived.Deep.RegionHeld3
import Derived.Laws.Rows
import Derived.Lib.AppendStr
import Derived.ArgAppend
import Derived.Laws.IdiomCopy
import Derived.OrdersHeld
import Derived.Laws.BitsLemmas
import Derived.RowKit
import Derived.BigRegion
import Derived.ChangeAlike
import Derived.Deep.DrawnRows
import Derived.Deep.WholeRow
import Derived.Laws.RangeAny
import Derived.Lib.Builder
import Derived.Lib.Bytealg
import Derived.Lib.Hide
import Derived.Lib.IndexAny
import Derived.Lib.Slices
import Derived.Lib.Strings
import Derived.Lib.Walk
import Derived.RegionTactic
import Derived.Shelf.Strings.AsciiSet
import Derived.Shelf.Strings.IndexAnyAll
import Derived.StillTailTactics
import Derived.Test.YtpopeedfgenebaaDoorZFnPostCrossesWWords
import Derived.Test.YtpopeedfgenebaaDoorZFnPostCrossesWLast
import Derived.Test.YtpopeedfgenebaaDoorZFnPostCrossesWTab
import Derived.Test.YtpopeedfgenebaaDoorZFnPostCrossesWApart
import Derived.Test.YtpopeedfgenebaaDoorZFnPostCrossesWArr
import Derived.Test.YtpopeedfgenebaaDoorZFnPostCrossesWFoot
import Derived.Test.YtpopeedfgenebaaDoorZFnPostCrossesWKept
import Derived.Test.YtpopeedfgenebaaDoorZFnPostCrossesWShare
import Derived.Test.YtpopeedfgenebaaDoorZFnPostCrossesWN
import Derived.Laws.StructEq
import Derived.Test.YtpopeedfgenebaaDoorZFnPostCrossesWRepsOne
import Derived.Test.YtpopeedfgenebaaDoorZFnPostCrossesWInv
import Derived.Test.YtpopeedfgenebaaDoorZFnPostCrossesWGuard
import Derived.Test.YtpopeedfgenebaaDoorZFnPostCrossesWMore
namespace Go.Proofs.YtpopeedfgenebaaDoor.PFnPostCrosses
open Go.RowKit Go.Proofs.YtpopeedfgenebaaDoorW.PrintWords Go.Proofs.YtpopeedfgenebaaDoorW.PrintLast Go.Proofs.YtpopeedfgenebaaDoorW.PrintMore
attribute [local go_sem] zb qz zf ze qw qv za qy
set_option linter.unusedVariables false
set_option linter.unusedSimpArgs false
def errW : Option Int → Value
 | none => .nilIface
 | some c => .iface 0 (.int .i64 c)
theorem qi : errW none = .nilIface := rfl
theorem qh (c : Int) : errW (some c) = .iface 0 (.int .i64 c) := rfl
theorem info3 : (Tryd.prog.info? 3).map (fun i => (i.zero, i.size, i.bytes)) = some (some (.int .i64 0), 1, 8) := by kernel_rfl
def rd_L4 (xs : List (List Int)) (i : Int) : (List Int) := xs.getD i.toNat ([] : List Int)
theorem at_L4 {w : World} {A : Option Addr} {n : Nat} {xs : List (List Int)} (h : Kd.C (Kd.slice 3 (Kd.int .i64)) w A n xs) (i : Int) (h0 : 0 ≤ i) (h1 : i < n) : ∃ ad A0 c0, A = some ad ∧ w.cell? (ad.add i.toNat) = some (.slice A0 (rd_L4 xs i).length c0) ∧ (rd_L4 xs i).length ≤ c0 ∧ (Kd.int .i64).C w A0 (rd_L4 xs i).length (rd_L4 xs i) := by
 obtain ⟨ad, c, e, _, hK, hc0⟩ := Kd.C_get h ([] : List Int) i h0 h1
 have hc : ∀ j u, c[j]? = some u → w.cell? (ad.add (i.toNat * 1 + j)) = some u := hc0
 obtain ⟨A0, c0, rfl, l0, g0⟩ := hK
 exact ⟨ad, A0, c0, e, by have hq := hc 0 _ rfl; rwa [Nat.mul_one, Nat.add_zero] at hq, l0, g0⟩
theorem be0_ {p q : Prop} (h : qa p) (t : p → q := by intro HB; repeat (first | (with_reducible first | exact HB | apply qd | apply qb | apply qe) | exact HB)) : q := t h.out
theorem be1_ {p q r0 : Prop} (h : qa p) (g0 : qa r0) (t : p → r0 → q := by intro HB G0; repeat (first | (with_reducible first | exact HB | apply qd | apply qb | apply qe | refine qp ?_ G0) | exact HB)) : q := t h.out g0.out
theorem be2_ {p q r0 r1 : Prop} (h : qa p) (g0 : qa r0) (g1 : qa r1) (t : p → r0 → r1 → q := by intro HB G0 G1; repeat (first | (with_reducible first | exact HB | apply qd | apply qb | apply qe | refine qp ?_ G0 | refine qp ?_ G1) | exact HB)) : q := t h.out g0.out g1.out
theorem be3_ {p q r0 r1 r2 : Prop} (h : qa p) (g0 : qa r0) (g1 : qa r1) (g2 : qa r2) (t : p → r0 → r1 → r2 → q := by intro HB G0 G1 G2; repeat (first | (with_reducible first | exact HB | apply qd | apply qb | apply qe | refine qp ?_ G0 | refine qp ?_ G1 | refine qp ?_ G2) | exact HB)) : q := t h.out g0.out g1.out g2.out
theorem be4_ {p q r0 r1 r2 r3 : Prop} (h : qa p) (g0 : qa r0) (g1 : qa r1) (g2 : qa r2) (g3 : qa r3) (t : p → r0 → r1 → r2 → r3 → q := by intro HB G0 G1 G2 G3; repeat (first | (with_reducible first | exact HB | apply qd | apply qb | apply qe | refine qp ?_ G0 | refine qp ?_ G1 | refine qp ?_ G2 | refine qp ?_ G3) | exact HB)) : q := t h.out g0.out g1.out g2.out g3.out
theorem be5_ {p q r0 r1 r2 r3 r4 : Prop} (h : qa p) (g0 : qa r0) (g1 : qa r1) (g2 : qa r2) (g3 : qa r3) (g4 : qa r4) (t : p → r0 → r1 → r2 → r3 → r4 → q := by intro HB G0 G1 G2 G3 G4; repeat (first | (with_reducible first | exact HB | apply qd | apply qb | apply qe | refine qp ?_ G0 | refine qp ?_ G1 | refine qp ?_ G2 | refine qp ?_ G3 | refine qp ?_ G4) | exact HB)) : q := t h.out g0.out g1.out g2.out g3.out g4.out
theorem be6_ {p q r0 r1 r2 r3 r4 r5 : Prop} (h : qa p) (g0 : qa r0) (g1 : qa r1) (g2 : qa r2) (g3 : qa r3) (g4 : qa r4) (g5 : qa r5) (t : p → r0 → r1 → r2 → r3 → r4 → r5 → q := by intro HB G0 G1 G2 G3 G4 G5; repeat (first | (with_reducible first | exact HB | apply qd | apply qb | apply qe | refine qp ?_ G0 | refine qp ?_ G1 | refine qp ?_ G2 | refine qp ?_ G3 | refine qp ?_ G4 | refine qp ?_ G5) | exact HB)) : q := t h.out g0.out g1.out g2.out g3.out g4.out g5.out
theorem be7_ {p q r0 r1 r2 r3 r4 r5 r6 : Prop} (h : qa p) (g0 : qa r0) (g1 : qa r1) (g2 : qa r2) (g3 : qa r3) (g4 : qa r4) (g5 : qa r5) (g6 : qa r6) (t : p → r0 → r1 → r2 → r3 → r4 → r5 → r6 → q := by intro HB G0 G1 G2 G3 G4 G5 G6; repeat (first | (with_reducible first | exact HB | apply qd | apply qb | apply qe | refine qp ?_ G0 | refine qp ?_ G1 | refine qp ?_ G2 | refine qp ?_ G3 | refine qp ?_ G4 | refine qp ?_ G5 | refine qp ?_ G6) | exact HB)) : q := t h.out g0.out g1.out g2.out g3.out g4.out g5.out g6.out
theorem be8_ {p q r0 r1 r2 r3 r4 r5 r6 r7 : Prop} (h : qa p) (g0 : qa r0) (g1 : qa r1) (g2 : qa r2) (g3 : qa r3) (g4 : qa r4) (g5 : qa r5) (g6 : qa r6) (g7 : qa r7) (t : p → r0 → r1 → r2 → r3 → r4 → r5 → r6 → r7 → q := by intro HB G0 G1 G2 G3 G4 G5 G6 G7; repeat (first | (with_reducible first | exact HB | apply qd | apply qb | apply qe | refine qp ?_ G0 | refine qp ?_ G1 | refine qp ?_ G2 | refine qp ?_ G3 | refine qp ?_ G4 | refine qp ?_ G5 | refine qp ?_ G6 | refine qp ?_ G7) | exact HB)) : q := t h.out g0.out g1.out g2.out g3.out g4.out g5.out g6.out g7.out
theorem be9_ {p q r0 r1 r2 r3 r4 r5 r6 r7 r8 : Prop} (h : qa p) (g0 : qa r0) (g1 : qa r1) (g2 : qa r2) (g3 : qa r3) (g4 : qa r4) (g5 : qa r5) (g6 : qa r6) (g7 : qa r7) (g8 : qa r8) (t : p → r0 → r1 → r2 → r3 → r4 → r5 → r6 → r7 → r8 → q := by intro HB G0 G1 G2 G3 G4 G5 G6 G7 G8; repeat (first | (with_reducible first | exact HB | apply qd | apply qb | apply qe | refine qp ?_ G0 | refine qp ?_ G1 | refine qp ?_ G2 | refine qp ?_ G3 | refine qp ?_ G4 | refine qp ?_ G5 | refine qp ?_ G6 | refine qp ?_ G7 | refine qp ?_ G8) | exact HB)) : q := t h.out g0.out g1.out g2.out g3.out g4.out g5.out g6.out g7.out g8.out
theorem bk_ {p q : Prop} (h : qa p) (t : p → q := by intro H; (with_reducible repeat (first | refine blk_drewN ?_ _ | refine blk_drew ?_ | refine blk_alloc ?_ _)); exact H) : q := t h.out
theorem kr_ {p q : Prop} (h : qa p) (t : p → q := by intro H; (with_reducible repeat (first | apply Kd.qu | apply Kd.qt | apply Kd.qx)); exact H) : q := t h.out
theorem al_ {p : Prop} (t : p := by (try simp only [List.map_toArray, List.map_cons, List.map_nil]); first | done | rfl | (simp only [List.length_drop, List.length_take]; rfl)) : p := t
theorem er_ {p : Prop} (t : p := by first | rfl | (simp [qi, qh] <;> rfl) | (simp [*, qi, qh] <;> rfl)) : p := t
theorem es_ {p : Prop} (t : p := by first | rfl | (simp; done) | (simp [*]; done)) : p := t
theorem od_ {p : Prop} [Decidable p] (t : decide p = true := by first | (with_reducible assumption) | assumption) : p := of_decide_eq_true t
theorem bX_ {α β : Type} {x : Option α} {f : α → Option β} {r : β} (h : x.bind f = some r) : ∃ t, qa (x = some t) ∧ f t = some r := by
  obtain ⟨t, h1, h2⟩ := Option.bind_eq_some_iff.mp h
  exact ⟨t, ⟨h1⟩, h2⟩
theorem iC_ {α : Type} {c : Prop} [Decidable c] {a b x : α} (h : (if c then a else b) = x) : (c ∧ a = x) ∨ (¬c ∧ b = x) := by
  by_cases hc : c
  · rw [if_pos hc] at h; exact .inl ⟨hc, h⟩
  · rw [if_neg hc] at h; exact .inr ⟨hc, h⟩
theorem iD_ {α : Type} {c : Prop} [Decidable c] {a b x : α} (h : (if c then a else b) = x) : (decide c = true ∧ a = x) ∨ (decide c = false ∧ b = x) := by
  by_cases hc : c
  · rw [if_pos hc] at h; exact .inl ⟨decide_eq_true hc, h⟩
  · rw [if_neg hc] at h; exact .inr ⟨decide_eq_false hc, h⟩
theorem iE_ {α β : Type} [BEq β] [LawfulBEq β] {s u : β} [Decidable (s = u)] {a b x : α} (h : (if s = u then a else b) = x) : ((s == u) = true ∧ (s != u) = false ∧ a = x) ∨ (¬ s = u ∧ (s == u) = false ∧ (s != u) = true ∧ b = x) := by
  by_cases hc : s = u
  · rw [if_pos hc] at h; exact .inl ⟨beq_iff_eq.mpr hc, bne_eq_false_iff_eq.mpr hc, h⟩
  · rw [if_neg hc] at h; exact .inr ⟨hc, beq_eq_false_iff_ne.mpr hc, bne_iff_ne.mpr hc, h⟩
theorem iB_ {α : Type} {c : Bool} {a b x : α} (h : (if c = true then a else b) = x) : (c = true ∧ a = x) ∨ (c = false ∧ b = x) := by
  cases c
  · exact .inr ⟨rfl, h⟩
  · exact .inl ⟨rfl, h⟩
theorem gL_ {P : Program} {ops : Array Oper} {Q : Exit → Act → World → Prop} {rest : List Oper} {oi : Oper} {a : Act} {w : World} (N : Tmp) {f : FuncId} {fn : Func} {ag : Array Operand} {ts : Array TypeId} (hf : P.funcs[f]? = some fn) (args : Array Value)
    (h : Calls P f args w fun e w' => ∃ v, e = .returned v ∧ wpList P ops Q rest (a.put (some N) v) w') (hd : oi.dst = some N := by rfl) (hop : oi.op = .call { callee := .value (.func f), args := ag, argTypes := ts } := by rfl) (hg : oi.guard = none := by rfl)
    (hname : (fn.name == "runtime.NumGoroutine") = false := by kernel_rfl) (hb : fn.body.isSome = true := by rfl) (hargs : ag.map a.eval = args := by (try simp only [List.map_toArray, List.map_cons, List.map_nil]); first | done | rfl | (simp only [List.length_drop, List.length_take]; rfl)) : wpList P ops Q (oi :: rest) a w := qj (some N) hd hg hf hname hb args hop hargs h
theorem bE_ {P : Program} {ops : Array Oper} {rest : List Oper} {o : Oper} {a : Act} {Q : Exit → Act → World → Prop} {W : World} (N : Tmp) (cs : Array Value) (t : TypeId)
    (h : ∀ (g : Nat), g = W.heap.size → ∀ (w1 : World), w1.heap[g]? = some (.cells cs t) → Below W.heap.size W w1 → wpList P ops Q rest (a.put o.dst (.pointer (some ⟨g, 0, none⟩))) w1) (hd : o.dst = some N := by rfl) (hg : o.guard = none := by rfl)
    (hr : (execOp a.eval o).run P W = .ok (.value (.pointer (some ⟨W.heap.size, 0, none⟩))) (W.alloc (.cells cs t)) := by first | (go_simp; done) | (go_simp; rfl)) : wpList P ops Q (o :: rest) a W := box_event hg hd hr h
theorem pu_ {P : Program} {ops : Array Oper} {Q : Exit → Act → World → Prop} {md : Region.Mode} {S : World → Prop} {ds : List Nat} {oi : Oper} {v : Value} {fuel : Nat} {l l' : Array Bool} {a a' : Act} {w : World} (i : Nat) (N : Tmp) (h : wpAnyLast P md ops Q S ds fuel l' a' w)
    (hi : ops[i]? = some oi := by rfl) (hN : oi.dst = some N := by rfl) (_hl : l.setIfInBounds i true = l' := by simp only [List.setIfInBounds_toArray, List.set_cons_zero, List.set_cons_succ]; rfl) (hc : anyB md ops l l' i = true := by first | exact qm HT_.out (by kernel_rfl) | kernel_rfl)
    (hy : Yields P ops oi v a := by exact Or.inl ⟨by rfl, by intro w'; go_simp; with_reducible rfl⟩) (ha : a.put (some N) v = a' := by simp only [Act.put, List.setIfInBounds_toArray, List.set_cons_zero, List.set_cons_succ, i64_w, i32_w]; rfl)
    (hQ : ∀ c a w, Q (.panic c) (a.put oi.dst v) w → Q (.panic c) a w := by exact fun _ _ _ h => h) : wpAnyLast P md ops Q S ds (fuel + 1) l a w := pure_ l' hi hN hc hQ hy ha h
theorem pn_ {P : Program} {ops : Array Oper} {Q : Exit → Act → World → Prop} {md : Region.Mode} {S : World → Prop} {ds : List Nat} {oi : Oper} {fuel : Nat} {l l' : Array Bool} {a a' : Act} {w : World} (i : Nat) (N : Tmp) (h : wpAnyLast P md ops Q S ds fuel l' a' w)
    (hi : ops[i]? = some oi := by rfl) (hN : oi.dst = some N := by rfl) (_hl : l.setIfInBounds i true = l' := by simp only [List.setIfInBounds_toArray, List.set_cons_zero, List.set_cons_succ]; rfl) (hc : anyB md ops l l' i = true := by first | exact qm HT_.out (by kernel_rfl) | kernel_rfl)
    (hy : Yields P ops oi undef a := by exact Or.inr ⟨by rfl, rfl⟩) (ha : a.put (some N) undef = a' := by simp only [Act.put, List.setIfInBounds_toArray, List.set_cons_zero, List.set_cons_succ, i64_w, i32_w]; rfl)
    (hQ : ∀ c a w, Q (.panic c) (a.put oi.dst undef) w → Q (.panic c) a w := by exact fun _ _ _ h => h) : wpAnyLast P md ops Q S ds (fuel + 1) l a w := pure_ l' hi hN hc hQ hy ha h
theorem pt_ {P : Program} {ops : Array Oper} {Q : Exit → Act → World → Prop} {md : Region.Mode} {S : World → Prop} {ds : List Nat} {oi : Oper} {v : Value} {fuel : Nat} {l l' : Array Bool} {a a' : Act} {w : World} (i : Nat) (N : Tmp) (hS : S w) (h : wpAnyLast P md ops Q S ds fuel l' a' w)
    (hi : ops[i]? = some oi := by rfl) (hN : oi.dst = some N := by rfl) (hy : YieldsIf P ops S oi v a) (_hl : l.setIfInBounds i true = l' := by simp only [List.setIfInBounds_toArray, List.set_cons_zero, List.set_cons_succ]; rfl) (hc : takeB md ops ds l l' i = true := by exact take_ofW HT_.out HW_.out (by kernel_rfl))
    (ha : a.put (some N) v = a' := by simp only [Act.put, List.setIfInBounds_toArray, List.set_cons_zero, List.set_cons_succ, i64_w, i32_w]; rfl)
    (hQ : ∀ c a w, Q (.panic c) (a.put oi.dst v) w → Q (.panic c) a w := by exact fun _ _ _ h => h) : wpAnyLast P md ops Q S ds (fuel + 1) l a w := take_ l' hi hN hc hQ hy hS ha h
theorem no_ {P : Program} {ops : Array Oper} {Q : Exit → Act → World → Prop} {md : Region.Mode} {S : World → Prop} {ds : List Nat} {fuel : Nat} {l : Array Bool} {a a' : Act} {w : World} (h : wpAnyLast P md ops Q S ds fuel l a' w)
    (ha : a = a' := by show Act.put _ (some _) _ = _; simp only [Act.put, List.setIfInBounds_toArray, List.set_cons_zero, List.set_cons_succ, i64_w, i32_w]; rfl) : wpAnyLast P md ops Q S ds fuel l a w := norm_ ha h
theorem on_ {P : Program} {ops : Array Oper} {Q : Exit → Act → World → Prop} {md : Region.Mode} {S : World → Prop} {ds : List Nat} {oi : Oper} {fuel : Nat} {l l' : Array Bool} {a : Act} {w : World} (i : Nat) (N : Tmp)
    (h : ∀ K : Act → World → Prop, Shut (∀ a' w', S w' → (S w' → wpAnyLast P md ops Q S ds fuel l' a' w') → K a' w') → if Region.wanted oi (yielded ops a.tmps) = true then Oper.wp P oi a w K Q else K (a.put (some N) undef) w)
    (hi : ops[i]? = some oi := by rfl) (hN : oi.dst = some N := by rfl) (_hl : l.setIfInBounds i true = l' := by simp only [List.setIfInBounds_toArray, List.set_cons_zero, List.set_cons_succ]; rfl) (hc : readyB md ops l l' i = true := by first | exact one_of HT_.out (by kernel_rfl) | kernel_rfl) (hd : i ∉ ds := by decide) : wpAnyLast P md ops Q S ds (fuel + 1) l a w := one_ l' hi hN hc hd h
theorem a0_ {p : Prop} (t : p := by repeat (first | (with_reducible first | exact HI0.out | apply IsS48.alloc | apply IsS48.drewN | apply IsS48.drew | apply IsS48.set_1 | apply IsS48.set_2) | exact HI0.out)) : p := t
theorem a1_ {p : Prop} (t : p := by repeat (first | exact qg.refl _ | apply qg.step)) : p := t
theorem a2_ {p : Prop} (t : p := by repeat (first | (with_reducible first | exact HK.out | apply ql.set_ | apply qn | apply qq | apply qo) | exact HK.out)) : p := t
theorem a3_ {p : Prop} (t : p := by exact Or.inl ⟨(by rfl), (by rintro w' ⟨s0, s1, s2, s3, s4, s5⟩; go_simp; with_reducible rfl)⟩) : p := t
theorem a4_ {p : Prop} (t : p := by rw [laws_FnPostCrosses.j0_no]; simp) : p := t
theorem a5_ {p : Prop} (t : p := by exact qk (be0_ HB) hb) : p := t
theorem a6_ {p : Prop} (t : p := by repeat (first | (with_reducible first | exact HI188.out | apply IsS48.alloc | apply IsS48.drewN | apply IsS48.drew | apply IsS48.set_1 | apply IsS48.set_2) | exact HI188.out)) : p := t
theorem a7_ {p : Prop} (t : p := by kernel_rfl) : p := t
theorem a8_ {p : Prop} (t : p := by simp only; omega) : p := t
theorem a9_ {p : Prop} (t : p := by exact qr (be0_ HB)) : p := t
theorem aa_ {p : Prop} (t : p := by (with_reducible repeat (first | apply Kd.S_alloc | apply Kd.S_drewN | apply Kd.S_drew)); exact Kd.S_mono HO_5.out (fun _ hk => ⟨trivial, hk⟩)) : p := t
theorem ab_ {p : Prop} (t : p := by (with_reducible repeat (first | apply Kd.qu | apply Kd.qt | apply Kd.qx)); exact Kd.R_mono HL231_0.out (fun _ hk => ⟨hk.2, hk.1⟩)) : p := t
theorem ac_ {p : Prop} (t : p := by rw [laws_FnPostCrosses.j1_no]; simp) : p := t
theorem ad_ {p : Prop} (t : p := by first | rfl | (simp; done) | (simp only [← hji6] <;> (first | rfl | simp)) | (simp [*]; done)) : p := t
theorem ae_ {p : Prop} (t : p := by first | exact q231 | exact od_ | (have e_ := (Kd.zd HO_5.out).1; omega)) : p := t
theorem af_ {p : Prop} (t : p := by first | exact Kd.R_nil _ _ _ _ _ | exact Kd.N_nil _ _ _ _ _ | exact Kd.V_nil _ _ _ _ _ | exact Kd.Q_nil _ _ _ _ _ | exact Kd.S_nil _ _ _ _ _) : p := t
theorem ag_ {p : Prop} (t : p := by (with_reducible repeat (first | apply Kd.qu | apply Kd.qt | apply Kd.qx)); exact Kd.R_mono HL239_0.out (fun _ hk => ⟨hk.2, hk.1⟩)) : p := t
theorem ah_ {p : Prop} (t : p := by (with_reducible repeat (first | apply Kd.qu | apply Kd.qt | apply Kd.qx)); exact Kd.R_mono HL237_0.out (fun _ hk => ⟨hk.2, hk.1⟩)) : p := t
theorem ai_ {p : Prop} (t : p := by first | rfl | (simp [qi, qh] <;> rfl) | (simp only [← hji4]; first | rfl | (simp [qi, qh] <;> rfl)) | (simp [*, qi, qh] <;> rfl)) : p := t
theorem aj_ {p : Prop} (t : p := by rw [bytesOf_length]; exact Nat.le_refl _) : p := t
theorem ak_ {p : Prop} (t : p := by exact Kd.R_below (kr_ HO302) hb) : p := t
theorem am_ {p : Prop} (t : p := by exact Kd.R_below (kr_ HO298) hb) : p := t
theorem an_ {p : Prop} (t : p := by exact ql.trans a2_ hk (.inl rfl)) : p := t
theorem ap_ {p : Prop} (t : p := by exact Kd.R_lower ho0 a9_) : p := t
theorem aq_ {p : Prop} (t : p := by exact ql.trans a2_ (ql.of_below hb g none) (.inl rfl)) : p := t
theorem l0_ {p : Prop} (t : p := by
  repeat' first | (with_reducible first | exact ih0 _ _ _ _ _ | exact LeO.refl _ | exact LeO.none _ | refine LeO.ite ?_ ?_ | refine LeO.bind ?_ (fun _ => ?_)) | exact ih0 _ _ _ _ _ | exact LeO.none _ | refine LeO.ite ?_ ?_ | refine LeO.bind ?_ (fun _ => ?_)) : p := t
theorem l1_ {p : Prop} (t : p := by
  go_ret
  exact ⟨er_, a0_, (by repeat (first | (with_reducible first | exact HB.out | apply qd | apply qb | apply qe | refine qp ?_ (IsS48.ge HI0.out)) | exact HB.out)), a2_⟩) : p := t
theorem l2_ {p : Prop} (t : p := by
  obtain rfl := Option.some.inj H
  go_enter Tryd.func33, Tryd.ntmps33
  go_wp2_with (first | (refine gL_ 8 Tryd.func53 #[.int .i64 a0] ?_; refine (cmp_isNaN_int.calls a0 false _ A3.out).mono ?_; rintro e w' ⟨rfl, ⟨nd, rfl⟩⟩; refine ⟨_, rfl, ?_⟩) | (refine gL_ 10 Tryd.func53 #[.int .i64 a1] ?_; refine (cmp_isNaN_int.calls a1 false _ A4.out).mono ?_; rintro e w' ⟨rfl, ⟨nd, rfl⟩⟩; refine ⟨_, rfl, ?_⟩))
  go_ret
  exact ⟨es_, a1_⟩) : p := t
theorem l3_ {p : Prop} (t : p := by
  go_wp2
  go_ret
  exact ⟨es_, a1_⟩) : p := t
theorem l4_ {p : Prop} (t : p := by
  repeat' first | (with_reducible first | exact impl_isDelivered.mono _ _ _ | exact LeO.refl _ | exact LeO.none _ | refine LeO.ite ?_ ?_ | refine LeO.bind ?_ (fun _ => ?_)) | exact impl_isDelivered.mono _ _ _ | exact LeO.none _ | refine LeO.ite ?_ ?_ | refine LeO.bind ?_ (fun _ => ?_)) : p := t
theorem l5_ {p : Prop} (t : p := by
  go_ret2
  exact ⟨er_, be0_ HB⟩) : p := t
theorem l6_ {p : Prop} (t : p := by
  obtain rfl := Option.some.inj H
  go_enter Tryd.func49, Tryd.ntmps49
  exact l3_) : p := t
theorem l7_ {p : Prop} (t : p := by
  obtain rfl := Option.some.inj H
  go_enter Tryd.func45, Tryd.ntmps45
  exact l3_) : p := t
theorem l8_ {p : Prop} (t : p := by
  repeat' first | (with_reducible first | exact spec_poAsked.mono _ _ _ | exact LeO.refl _ | exact LeO.none _ | refine LeO.ite ?_ ?_ | refine LeO.bind ?_ (fun _ => ?_)) | exact spec_poAsked.mono _ _ _ | exact LeO.none _ | refine LeO.ite ?_ ?_ | refine LeO.bind ?_ (fun _ => ?_)) : p := t
theorem l9_ {p : Prop} (t : p := by
  have HX := Lib.hid hX
  clear hX r1 r2 r3 r4 c1 c2 c3 c4 f1 f2
  go_still_tail 23, a7_
  still_call (spec_poTable.qstill _ _ _)
  repeat still_step
  refine wpStill_nil ?_
  change wpList _ _ _ _ _ wX.drew
  all_goals
   go_wp2_with fail
   go_roundw
   case rel =>
    refine ⟨t + 1, (by omega), (by go_num), ?_⟩
    rw [EB.out.2]
    exact (HX.out.drew.setC (Nat.le_refl _) (by omega) hlt _).congr (fun i s' _ _ _ => by first | exact HN.out i s' | (have hz := HN.out i s'; simp only [Int.zero_add] at hz; exact hz))
   case measure => simp [intOf] <;> omega) : p := t
theorem la_ {p : Prop} (t : p := by
  clear hcmp
  go_wp2_with fail
  go_quiet ((go_at_call 45; exact HQ.out _ _))
  go_wp2_with fail
  go_roundw
  case rel =>
   refine ⟨j + 1, (by omega), (by go_num), (by rw [HN.out]; rfl), (HW.out.drewN _).far (p := ⟨S, j, none⟩) hFS hCS hwS _, ?_⟩
   have hz := blk_set (blk_drewN HR.out nq) j (.int .i64 ((impl_bestRoute.come a0 a1 (j + 1) : Nat) : Int))
   rw [impl_bestRoute.sarr_set, HN.out] at hz
   exact hz
  case measure => simp [intOf] <;> omega) : p := t
theorem lb_ {p : Prop} (t : p := by
  go_wp2
  go_roundg k1
  case measure => have := HK1.out; omega
  case rel => exact ⟨(wrap64 (x3_1 + 1)), es_, H', ⟨by have := HK1.out; omega⟩, a1_⟩) : p := t
theorem lc_ {p : Prop} (t : p := by
  repeat' first | (with_reducible first | exact ih0 _ _ _ _ | exact impl_isDelivered.mono _ _ _ | exact LeO.refl _ | exact LeO.none _ | refine LeO.ite ?_ ?_ | refine LeO.bind ?_ (fun _ => ?_)) | exact ih0 _ _ _ _ | exact impl_isDelivered.mono _ _ _ | exact LeO.none _ | refine LeO.ite ?_ ?_ | refine LeO.bind ?_ (fun _ => ?_)) : p := t
theorem ld_ {p : Prop} (t : p := by
  simp only [Option.some.injEq, Prod.mk.injEq] at H
  obtain ⟨rfl, rfl⟩ := H
  go_wp2
  go_ret2
  exact ⟨es_, a1_⟩) : p := t
theorem le_ {p : Prop} (t : p := by
  go_meet
  case rel => exact ⟨_, (true), es_, H', ⟨by first | omega | exact Nat.le_refl _⟩, a1_⟩) : p := t
theorem lf_ {p : Prop} (t : p := by
  repeat' first | (with_reducible first | exact impl_AreDeliveries.mono _ _ | exact LeO.refl _ | exact LeO.none _ | refine LeO.ite ?_ ?_ | refine LeO.bind ?_ (fun _ => ?_)) | exact impl_AreDeliveries.mono _ _ | exact LeO.none _ | refine LeO.ite ?_ ?_ | refine LeO.bind ?_ (fun _ => ?_)) : p := t
theorem lg_ {p : Prop} (t : p := by
  rw [Lib.toList_data]
  cases h : chars.data.toList with
  | nil => have := Lib.size_eq chars; rw [h, List.length_nil] at this; omega
  | cons _ _ => rfl) : p := t
theorem lh_ {p : Prop} (t : p := by
  repeat' first | (with_reducible first | exact spec_poGood.mono _ _ | exact LeO.refl _ | exact LeO.none _ | refine LeO.ite ?_ ?_ | refine LeO.bind ?_ (fun _ => ?_)) | exact spec_poGood.mono _ _ | exact LeO.none _ | refine LeO.ite ?_ ?_ | refine LeO.bind ?_ (fun _ => ?_)) : p := t
theorem lj_ {p : Prop} (t : p := by
  by_cases e1 : own < p.1
  ·rw [if_pos e1]
   refine ⟨h0, (by omega), ?_, ?_⟩ <;> (show _ ≤ _; split <;> omega)
  ·rw [if_neg e1]
   by_cases e2 : own = p.1
   ·rw [if_pos e2]
    refine ⟨h.1, h.2.1, ?_, ?_⟩ <;> (show _ ≤ _; split <;> omega)
   ·rw [if_neg e2]; exact h) : p := t
theorem lk_ {p : Prop} (t : p := by
  by_cases e : i = p ∧ s' = s
  ·simp only [if_pos e]; exact ⟨trivial, trivial⟩
  ·simp only [if_neg e]; exact ⟨trivial, trivial⟩) : p := t
theorem lm_ {p : Prop} (t : p := by
  repeat' first | (with_reducible first | exact ih0 _ _ _ _ | exact LeO.refl _ | exact LeO.none _ | refine LeO.ite ?_ ?_ | refine LeO.bind ?_ (fun _ => ?_)) | exact ih0 _ _ _ _ | exact LeO.none _ | refine LeO.ite ?_ ?_ | refine LeO.bind ?_ (fun _ => ?_)) : p := t
theorem ln_ {p : Prop} (t : p := by
  repeat' first | (with_reducible first | exact ih0 _ _ _ | exact LeO.refl _ | exact LeO.none _ | refine LeO.ite ?_ ?_ | refine LeO.bind ?_ (fun _ => ?_)) | exact ih0 _ _ _ | exact LeO.none _ | refine LeO.ite ?_ ?_ | refine LeO.bind ?_ (fun _ => ?_)) : p := t
theorem lp_ {p : Prop} (t : p := by
  repeat' first | (with_reducible first | exact ih0 _ _ | exact LeO.refl _ | exact LeO.none _ | refine LeO.ite ?_ ?_ | refine LeO.bind ?_ (fun _ => ?_)) | exact ih0 _ _ | exact LeO.none _ | refine LeO.ite ?_ ?_ | refine LeO.bind ?_ (fun _ => ?_)) : p := t
theorem lq_ {p : Prop} (t : p := by
  go_enter Tryd.func59, Tryd.ntmps59
  go_wp2
  repeat (go_quiet (fail); try go_wp2)
  exact l1_) : p := t
theorem lr_ {p : Prop} (t : p := by
  (try simp only [← hl39_5])
  go_meet
  case rel => exact ⟨_, H', ⟨by have := HJ17.out; have := HJ118.out; have := HJ137.out; have := HJ149.out; have := HK5.out; first | omega | exact Nat.le_refl _⟩, ⟨be0_ HB⟩⟩) : p := t
theorem ls_ {p : Prop} (t : p := by
  go_wp2_with (first | (refine gL_ 11 Tryd.func32 #[.string a0, .int .i64 a1] ?_; refine (impl_isDelivered.calls k a0 a1 false _ A3.out).mono ?_; rintro e w' ⟨rfl, ⟨nd, rfl⟩⟩; refine ⟨_, rfl, ?_⟩))
  exact l5_) : p := t
theorem lt_ {p : Prop} (t : p := by
  go_wp2_with (first | (refine gL_ 10 Tryd.func38 #[.string a0, .int .i64 a1] ?_; refine (spec_poAsked.calls k a0 a1 false _ A3.out).mono ?_; rintro e w' ⟨rfl, ⟨nd, rfl⟩⟩; refine ⟨_, rfl, ?_⟩))
  exact l5_) : p := t
theorem lu_ {p : Prop} (t : p := by
  clear hend ha
  go_wp2_with fail
  go_roundw
  case rel => exact ⟨s + 1, (by omega), (by go_num), (HW.out.setC hlt 1).congr (fun i s _ _ => HN.out i s)⟩
  case measure => simp [intOf] <;> omega) : p := t
theorem lv_ {p : Prop} (t : p := by
  go_wp2
  go_roundg k1
  case measure => have := HK1.out; omega
  case rel => exact ⟨(x7_1), (true), (wrap64 (x7_1 + 1)), es_, es_, es_, H', ⟨by have := HK1.out; omega⟩, a1_⟩) : p := t
theorem lx_ {p : Prop} (t : p := by
  go_wp2
  go_roundg k1
  case measure => have := HK1.out; omega
  case rel => exact ⟨(x5_1), (true), (wrap64 (x7_1 + 1)), es_, es_, es_, H', ⟨by have := HK1.out; omega⟩, a1_⟩) : p := t
theorem ly_ {p : Prop} (t : p := by
  clear hcon hxl has hx128 h1 hb
  go_enter Tryd.func51, Tryd.ntmps51
  go_wp2_with (go_at_call 60; refine HR.out.mono ?_; rintro e w2 ⟨rfl, rfl⟩)
  go_ret
  exact ⟨rfl, rfl⟩) : p := t
theorem lz_ {p : Prop} (t : p := by
  have H' := qa.mk H
  clear H
  go_wp2
  go_meet
  case rel => exact ⟨_, H', ⟨by have := HJ17.out; have := HJ114.out; first | omega | exact Nat.le_refl _⟩, ⟨be0_ HB⟩⟩) : p := t
theorem lA_ {p : Prop} (t : p := by
  cases h : chars.toList with
  | nil => rw [h] at hemp; cases hemp
  | cons _ _ => rfl) : p := t
theorem lB_ {p : Prop} (t : p := by
  go_wp2
  go_meet
  case rel => exact ⟨_, (decide (t303 < 1)), es_, H', ⟨by have := HJ17.out; first | omega | exact Nat.le_refl _⟩, ⟨be0_ HB⟩⟩) : p := t
theorem lC_ {p : Prop} (t : p := by
  go_roundg k1
  case measure => have := HK1.out; omega
  case rel => exact ⟨(wrap64 (x11_1 + 1)), es_, H', ⟨by have := HK1.out; omega⟩, a1_⟩) : p := t
theorem lD_ {p : Prop} (t : p := by
  obtain rfl := Option.some.inj H
  exact l3_) : p := t
theorem lE_ {p : Prop} (t : p := by
  go_wp2
  go_meet
  case rel => exact ⟨_, (false), es_, H', ⟨by have := HJ17.out; first | omega | exact Nat.le_refl _⟩, ⟨be0_ HB⟩⟩) : p := t
theorem lF_ {p : Prop} (t : p := by
  go_wp2
  repeat (go_quiet (fail); try go_wp2)
  go_ret
  exact ⟨es_, a1_⟩) : p := t
theorem sA_ {α : Type _} {l : List α} {i : Nat} {a : α} : l.toArray.setIfInBounds i a = (l.set i a).toArray := List.setIfInBounds_toArray ..
theorem sB_ {α : Type _} {a b : α} {l : List α} : (a :: l).set 0 b = b :: l := rfl
theorem sC_ {α : Type _} {a b : α} {l : List α} {i : Nat} : (a :: l).set (i + 1) b = a :: l.set i b := rfl
end Go.Proofs.YtpopeedfgenebaaDoor.PFnPostCrosses
