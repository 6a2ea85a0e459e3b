/- Cut by wip/cut.py out of the texts of this claim (printed by the kit's printer, or this session's own): what the row's theorem does not reach is struck. Not trusted: Lean checks it. -/
import Derived.Test.YtpopeedfgenebaaGreatProg
import Derived.Below
import Derived.Deep.Draws
import Derived.Deep.AppendLies
import Derived.Maps.AppendAt
import Derived.OwnWalk
import Derived.Laws.BytesArg
import Derived.Laws.MakeOwn
import Derived.Laws.OwnMore
import Derived.Deep.OwnRows
import Derived.Tactics
import Derived.Lib.ConvBytes
import Derived.Laws.Slices
import Derived.WalkKit
import Derived.KernelRfl
import Derived.RowKit3
import Derived.Deep.LoopGhost
import Derived.Deep.QuietTactic
import Derived.BigQuiet
import Derived.WideLaws
import Derived.Deep.DeepCutAuto
import Derived.Deep.CutBlock
import Derived.Deep.RegionHeld3
import Derived.Laws.Rows
import Derived.Lib.AppendStr
import Derived.ArgAppend
import Derived.Laws.IdiomCopy
import Derived.OrdersHeld
import Derived.Laws.BitsLemmas
import Derived.RowKit
import Derived.BigRegion
import Derived.ChangeAlike
import Derived.Deep.DrawnRows
import Derived.Deep.RegionWith
import Derived.Laws.RangeAny
import Derived.Lib.Bytealg
import Derived.Lib.Hide
import Derived.Lib.IndexAny
import Derived.Lib.Slices
import Derived.Lib.SlicesMore
import Derived.Lib.Strings
import Derived.Lib.Walk
import Derived.RegionTactic
import Derived.Shelf.Slices.In.SortNone
import Derived.Shelf.Sort.Plain
import Derived.Shelf.Strings.IndexAnyAll
import Derived.Shelf.Strings.Repeat
import Derived.Sort.OwnSortedInts
import Derived.Sort.WalkB12
import Derived.StillTailTactics
import Derived.Test.YtpopeedfgenebaaGreatZFnPostDeliversWWords
import Derived.Test.YtpopeedfgenebaaGreatZFnPostDeliversWLast
import Derived.Test.YtpopeedfgenebaaGreatZFnPostDeliversWTab
import Derived.Test.YtpopeedfgenebaaGreatZFnPostDeliversWApart
import Derived.Test.YtpopeedfgenebaaGreatZFnPostDeliversWArr
import Derived.Test.YtpopeedfgenebaaGreatZFnPostDeliversWFoot
import Derived.Test.YtpopeedfgenebaaGreatZFnPostDeliversWKept
import Derived.Test.YtpopeedfgenebaaGreatZFnPostDeliversWShare
import Derived.Test.YtpopeedfgenebaaGreatZFnPostDeliversWN
import Derived.Laws.StructEq
import Derived.Test.YtpopeedfgenebaaGreatZFnPostDeliversWRepsOne
import Derived.Test.YtpopeedfgenebaaGreatZFnPostDeliversWInv
import Derived.Test.YtpopeedfgenebaaGreatZFnPostDeliversWGuard
import Derived.Test.YtpopeedfgenebaaGreatZFnPostDeliversWMore
namespace Go.Proofs.YtpopeedfgenebaaGreat.PFnPostDelivers
open Go.RowKit Go.Proofs.YtpopeedfgenebaaGreatW.PrintWords Go.Proofs.YtpopeedfgenebaaGreatW.PrintLast Go.Proofs.YtpopeedfgenebaaGreatW.PrintMore
attribute [local go_sem] zq zo zx zw zk zj zp zn
set_option linter.unusedVariables false
set_option linter.unusedSimpArgs false
def errW : Option Int → Value
 | none => .nilIface
 | some c => .iface 0 (.int .i64 c)
theorem qq : errW none = .nilIface := rfl
theorem qp (c : Int) : errW (some c) = .iface 0 (.int .i64 c) := rfl
theorem info3 : (Tryz.prog.info? 3).map (fun i => (i.zero, i.size, i.bytes)) = some (some (.int .i64 0), 1, 8) := by kernel_rfl
def rd_L4 (xs : List (List Int)) (i : Int) : (List Int) := xs.getD i.toNat ([] : List Int)
theorem at_L4 {w : World} {A : Option Addr} {n : Nat} {xs : List (List Int)} (h : Kd.C (Kd.slice 3 (Kd.int .i64)) w A n xs) (i : Int) (h0 : 0 ≤ i) (h1 : i < n) : ∃ ad A0 c0, A = some ad ∧ w.cell? (ad.add i.toNat) = some (.slice A0 (rd_L4 xs i).length c0) ∧ (rd_L4 xs i).length ≤ c0 ∧ (Kd.int .i64).C w A0 (rd_L4 xs i).length (rd_L4 xs i) := by
 obtain ⟨ad, c, e, _, hK, hc0⟩ := Kd.C_get h ([] : List Int) i h0 h1
 have hc : ∀ j u, c[j]? = some u → w.cell? (ad.add (i.toNat * 1 + j)) = some u := hc0
 obtain ⟨A0, c0, rfl, l0, g0⟩ := hK
 exact ⟨ad, A0, c0, e, by have hq := hc 0 _ rfl; rwa [Nat.mul_one, Nat.add_zero] at hq, l0, g0⟩
structure S25 where
  f0 : Int
  f1 : Int
theorem be0_ {p q : Prop} (h : qb p) (t : p → q := by intro HB; repeat (first | (with_reducible first | exact HB | apply qd | apply qa | apply qe) | exact HB)) : q := t h.out
theorem be1_ {p q r0 : Prop} (h : qb p) (g0 : qb r0) (t : p → r0 → q := by intro HB G0; repeat (first | (with_reducible first | exact HB | apply qd | apply qa | apply qe | refine qf ?_ G0) | exact HB)) : q := t h.out g0.out
theorem be2_ {p q r0 r1 : Prop} (h : qb p) (g0 : qb r0) (g1 : qb r1) (t : p → r0 → r1 → q := by intro HB G0 G1; repeat (first | (with_reducible first | exact HB | apply qd | apply qa | apply qe | refine qf ?_ G0 | refine qf ?_ G1) | exact HB)) : q := t h.out g0.out g1.out
theorem be3_ {p q r0 r1 r2 : Prop} (h : qb p) (g0 : qb r0) (g1 : qb r1) (g2 : qb r2) (t : p → r0 → r1 → r2 → q := by intro HB G0 G1 G2; repeat (first | (with_reducible first | exact HB | apply qd | apply qa | apply qe | refine qf ?_ G0 | refine qf ?_ G1 | refine qf ?_ G2) | exact HB)) : q := t h.out g0.out g1.out g2.out
theorem be4_ {p q r0 r1 r2 r3 : Prop} (h : qb p) (g0 : qb r0) (g1 : qb r1) (g2 : qb r2) (g3 : qb r3) (t : p → r0 → r1 → r2 → r3 → q := by intro HB G0 G1 G2 G3; repeat (first | (with_reducible first | exact HB | apply qd | apply qa | apply qe | refine qf ?_ G0 | refine qf ?_ G1 | refine qf ?_ G2 | refine qf ?_ G3) | exact HB)) : q := t h.out g0.out g1.out g2.out g3.out
theorem be5_ {p q r0 r1 r2 r3 r4 : Prop} (h : qb p) (g0 : qb r0) (g1 : qb r1) (g2 : qb r2) (g3 : qb r3) (g4 : qb r4) (t : p → r0 → r1 → r2 → r3 → r4 → q := by intro HB G0 G1 G2 G3 G4; repeat (first | (with_reducible first | exact HB | apply qd | apply qa | apply qe | refine qf ?_ G0 | refine qf ?_ G1 | refine qf ?_ G2 | refine qf ?_ G3 | refine qf ?_ G4) | exact HB)) : q := t h.out g0.out g1.out g2.out g3.out g4.out
theorem be6_ {p q r0 r1 r2 r3 r4 r5 : Prop} (h : qb p) (g0 : qb r0) (g1 : qb r1) (g2 : qb r2) (g3 : qb r3) (g4 : qb r4) (g5 : qb r5) (t : p → r0 → r1 → r2 → r3 → r4 → r5 → q := by intro HB G0 G1 G2 G3 G4 G5; repeat (first | (with_reducible first | exact HB | apply qd | apply qa | apply qe | refine qf ?_ G0 | refine qf ?_ G1 | refine qf ?_ G2 | refine qf ?_ G3 | refine qf ?_ G4 | refine qf ?_ G5) | exact HB)) : q := t h.out g0.out g1.out g2.out g3.out g4.out g5.out
theorem be7_ {p q r0 r1 r2 r3 r4 r5 r6 : Prop} (h : qb p) (g0 : qb r0) (g1 : qb r1) (g2 : qb r2) (g3 : qb r3) (g4 : qb r4) (g5 : qb r5) (g6 : qb r6) (t : p → r0 → r1 → r2 → r3 → r4 → r5 → r6 → q := by intro HB G0 G1 G2 G3 G4 G5 G6; repeat (first | (with_reducible first | exact HB | apply qd | apply qa | apply qe | refine qf ?_ G0 | refine qf ?_ G1 | refine qf ?_ G2 | refine qf ?_ G3 | refine qf ?_ G4 | refine qf ?_ G5 | refine qf ?_ G6) | exact HB)) : q := t h.out g0.out g1.out g2.out g3.out g4.out g5.out g6.out
theorem be8_ {p q r0 r1 r2 r3 r4 r5 r6 r7 : Prop} (h : qb p) (g0 : qb r0) (g1 : qb r1) (g2 : qb r2) (g3 : qb r3) (g4 : qb r4) (g5 : qb r5) (g6 : qb r6) (g7 : qb r7) (t : p → r0 → r1 → r2 → r3 → r4 → r5 → r6 → r7 → q := by intro HB G0 G1 G2 G3 G4 G5 G6 G7; repeat (first | (with_reducible first | exact HB | apply qd | apply qa | apply qe | refine qf ?_ G0 | refine qf ?_ G1 | refine qf ?_ G2 | refine qf ?_ G3 | refine qf ?_ G4 | refine qf ?_ G5 | refine qf ?_ G6 | refine qf ?_ G7) | exact HB)) : q := t h.out g0.out g1.out g2.out g3.out g4.out g5.out g6.out g7.out
theorem be9_ {p q r0 r1 r2 r3 r4 r5 r6 r7 r8 : Prop} (h : qb p) (g0 : qb r0) (g1 : qb r1) (g2 : qb r2) (g3 : qb r3) (g4 : qb r4) (g5 : qb r5) (g6 : qb r6) (g7 : qb r7) (g8 : qb r8) (t : p → r0 → r1 → r2 → r3 → r4 → r5 → r6 → r7 → r8 → q := by intro HB G0 G1 G2 G3 G4 G5 G6 G7 G8; repeat (first | (with_reducible first | exact HB | apply qd | apply qa | apply qe | refine qf ?_ G0 | refine qf ?_ G1 | refine qf ?_ G2 | refine qf ?_ G3 | refine qf ?_ G4 | refine qf ?_ G5 | refine qf ?_ G6 | refine qf ?_ G7 | refine qf ?_ G8) | exact HB)) : q := t h.out g0.out g1.out g2.out g3.out g4.out g5.out g6.out g7.out g8.out
theorem bk_ {p q : Prop} (h : qb p) (t : p → q := by intro H; (with_reducible repeat (first | refine qh ?_ _ | refine qj ?_ | refine qg ?_ _)); exact H) : q := t h.out
theorem kr_ {p q : Prop} (h : qb p) (t : p → q := by intro H; (with_reducible repeat (first | apply Kd.qu | apply Kd.qt | apply Kd.qv)); exact H) : q := t h.out
theorem al_ {p : Prop} (t : p := by (try simp only [List.map_toArray, List.map_cons, List.map_nil]); first | done | rfl | (simp only [List.length_drop, List.length_take]; rfl)) : p := t
theorem er_ {p : Prop} (t : p := by first | rfl | (simp [qq, qp] <;> rfl) | (simp [*, qq, qp] <;> rfl)) : p := t
theorem es_ {p : Prop} (t : p := by first | rfl | (simp; done) | (simp [*]; done)) : p := t
theorem od_ {p : Prop} [Decidable p] (t : decide p = true := by first | (with_reducible assumption) | assumption) : p := of_decide_eq_true t
theorem bX_ {α β : Type} {x : Option α} {f : α → Option β} {r : β} (h : x.bind f = some r) : ∃ t, qb (x = some t) ∧ f t = some r := by
  obtain ⟨t, h1, h2⟩ := Option.bind_eq_some_iff.mp h
  exact ⟨t, ⟨h1⟩, h2⟩
theorem iC_ {α : Type} {c : Prop} [Decidable c] {a b x : α} (h : (if c then a else b) = x) : (c ∧ a = x) ∨ (¬c ∧ b = x) := by
  by_cases hc : c
  · rw [if_pos hc] at h; exact .inl ⟨hc, h⟩
  · rw [if_neg hc] at h; exact .inr ⟨hc, h⟩
theorem iD_ {α : Type} {c : Prop} [Decidable c] {a b x : α} (h : (if c then a else b) = x) : (decide c = true ∧ a = x) ∨ (decide c = false ∧ b = x) := by
  by_cases hc : c
  · rw [if_pos hc] at h; exact .inl ⟨decide_eq_true hc, h⟩
  · rw [if_neg hc] at h; exact .inr ⟨decide_eq_false hc, h⟩
theorem iE_ {α β : Type} [BEq β] [LawfulBEq β] {s u : β} [Decidable (s = u)] {a b x : α} (h : (if s = u then a else b) = x) : ((s == u) = true ∧ (s != u) = false ∧ a = x) ∨ (¬ s = u ∧ (s == u) = false ∧ (s != u) = true ∧ b = x) := by
  by_cases hc : s = u
  · rw [if_pos hc] at h; exact .inl ⟨beq_iff_eq.mpr hc, bne_eq_false_iff_eq.mpr hc, h⟩
  · rw [if_neg hc] at h; exact .inr ⟨hc, beq_eq_false_iff_ne.mpr hc, bne_iff_ne.mpr hc, h⟩
theorem iB_ {α : Type} {c : Bool} {a b x : α} (h : (if c = true then a else b) = x) : (c = true ∧ a = x) ∨ (c = false ∧ b = x) := by
  cases c
  · exact .inr ⟨rfl, h⟩
  · exact .inl ⟨rfl, h⟩
theorem gL_ {P : Program} {ops : Array Oper} {Q : Exit → Act → World → Prop} {rest : List Oper} {oi : Oper} {a : Act} {w : World} (N : Tmp) {f : FuncId} {fn : Func} {ag : Array Operand} {ts : Array TypeId} (hf : P.funcs[f]? = some fn) (args : Array Value)
    (h : Calls P f args w fun e w' => ∃ v, e = .returned v ∧ wpList P ops Q rest (a.put (some N) v) w') (hd : oi.dst = some N := by rfl) (hop : oi.op = .call { callee := .value (.func f), args := ag, argTypes := ts } := by rfl) (hg : oi.guard = none := by rfl)
    (hname : (fn.name == "runtime.NumGoroutine") = false := by kernel_rfl) (hb : fn.body.isSome = true := by rfl) (hargs : ag.map a.eval = args := by (try simp only [List.map_toArray, List.map_cons, List.map_nil]); first | done | rfl | (simp only [List.length_drop, List.length_take]; rfl)) : wpList P ops Q (oi :: rest) a w := qz (some N) hd hg hf hname hb args hop hargs h
theorem cC_ {w : World} {g : Nat} {t : TypeId} {cs : Array Value} (h : qb (w.heap[g]? = some (.cells cs t))) (i : Nat) {v : Value} (e : cs[i]? = some v := by simp only [List.getElem?_toArray, List.getElem?_cons_succ, List.getElem?_cons_zero]; rfl) : w.cell? ⟨g, i, none⟩ = some v := (qk h.out i).trans e
theorem iP_ {α β : Type} {a c : α} {b d : β} (h : some (a, b) = some (c, d)) : a = c ∧ b = d := by simpa using h
theorem iQ_ {α β γ : Type} {a c : α} {b d : β} {x y : γ} (h : some (a, b, x) = some (c, d, y)) : a = c ∧ b = d ∧ x = y := by simpa using h
theorem bE_ {P : Program} {ops : Array Oper} {rest : List Oper} {o : Oper} {a : Act} {Q : Exit → Act → World → Prop} {W : World} (N : Tmp) (cs : Array Value) (t : TypeId)
    (h : ∀ (g : Nat), g = W.heap.size → ∀ (w1 : World), w1.heap[g]? = some (.cells cs t) → Below W.heap.size W w1 → wpList P ops Q rest (a.put o.dst (.pointer (some ⟨g, 0, none⟩))) w1) (hd : o.dst = some N := by rfl) (hg : o.guard = none := by rfl)
    (hr : (execOp a.eval o).run P W = .ok (.value (.pointer (some ⟨W.heap.size, 0, none⟩))) (W.alloc (.cells cs t)) := by first | (go_simp; done) | (go_simp; rfl)) : wpList P ops Q (o :: rest) a W := zb hg hd hr h
theorem pu_ {P : Program} {ops : Array Oper} {Q : Exit → Act → World → Prop} {md : Region.Mode} {S : World → Prop} {ds : List Nat} {oi : Oper} {v : Value} {fuel : Nat} {l l' : Array Bool} {a a' : Act} {w : World} (i : Nat) (N : Tmp) (h : wpAnyLast P md ops Q S ds fuel l' a' w)
    (hi : ops[i]? = some oi := by rfl) (hN : oi.dst = some N := by rfl) (_hl : l.setIfInBounds i true = l' := by simp only [List.setIfInBounds_toArray, List.set_cons_zero, List.set_cons_succ]; rfl) (hc : anyB md ops l l' i = true := by first | exact zf HT_.out (by kernel_rfl) | kernel_rfl)
    (hy : Yields P ops oi v a := by exact Or.inl ⟨by rfl, by intro w'; go_simp; with_reducible rfl⟩) (ha : a.put (some N) v = a' := by simp only [Act.put, List.setIfInBounds_toArray, List.set_cons_zero, List.set_cons_succ, i64_w, i32_w]; rfl)
    (hQ : ∀ c a w, Q (.panic c) (a.put oi.dst v) w → Q (.panic c) a w := by exact fun _ _ _ h => h) : wpAnyLast P md ops Q S ds (fuel + 1) l a w := pure_ l' hi hN hc hQ hy ha h
theorem pn_ {P : Program} {ops : Array Oper} {Q : Exit → Act → World → Prop} {md : Region.Mode} {S : World → Prop} {ds : List Nat} {oi : Oper} {fuel : Nat} {l l' : Array Bool} {a a' : Act} {w : World} (i : Nat) (N : Tmp) (h : wpAnyLast P md ops Q S ds fuel l' a' w)
    (hi : ops[i]? = some oi := by rfl) (hN : oi.dst = some N := by rfl) (_hl : l.setIfInBounds i true = l' := by simp only [List.setIfInBounds_toArray, List.set_cons_zero, List.set_cons_succ]; rfl) (hc : anyB md ops l l' i = true := by first | exact zf HT_.out (by kernel_rfl) | kernel_rfl)
    (hy : Yields P ops oi undef a := by exact Or.inr ⟨by rfl, rfl⟩) (ha : a.put (some N) undef = a' := by simp only [Act.put, List.setIfInBounds_toArray, List.set_cons_zero, List.set_cons_succ, i64_w, i32_w]; rfl)
    (hQ : ∀ c a w, Q (.panic c) (a.put oi.dst undef) w → Q (.panic c) a w := by exact fun _ _ _ h => h) : wpAnyLast P md ops Q S ds (fuel + 1) l a w := pure_ l' hi hN hc hQ hy ha h
theorem pt_ {P : Program} {ops : Array Oper} {Q : Exit → Act → World → Prop} {md : Region.Mode} {S : World → Prop} {ds : List Nat} {oi : Oper} {v : Value} {fuel : Nat} {l l' : Array Bool} {a a' : Act} {w : World} (i : Nat) (N : Tmp) (hS : S w) (h : wpAnyLast P md ops Q S ds fuel l' a' w)
    (hi : ops[i]? = some oi := by rfl) (hN : oi.dst = some N := by rfl) (hy : YieldsIf P ops S oi v a) (_hl : l.setIfInBounds i true = l' := by simp only [List.setIfInBounds_toArray, List.set_cons_zero, List.set_cons_succ]; rfl) (hc : takeB md ops ds l l' i = true := by exact take_ofW HT_.out HW_.out (by kernel_rfl))
    (ha : a.put (some N) v = a' := by simp only [Act.put, List.setIfInBounds_toArray, List.set_cons_zero, List.set_cons_succ, i64_w, i32_w]; rfl)
    (hQ : ∀ c a w, Q (.panic c) (a.put oi.dst v) w → Q (.panic c) a w := by exact fun _ _ _ h => h) : wpAnyLast P md ops Q S ds (fuel + 1) l a w := take_ l' hi hN hc hQ hy hS ha h
theorem no_ {P : Program} {ops : Array Oper} {Q : Exit → Act → World → Prop} {md : Region.Mode} {S : World → Prop} {ds : List Nat} {fuel : Nat} {l : Array Bool} {a a' : Act} {w : World} (h : wpAnyLast P md ops Q S ds fuel l a' w)
    (ha : a = a' := by show Act.put _ (some _) _ = _; simp only [Act.put, List.setIfInBounds_toArray, List.set_cons_zero, List.set_cons_succ, i64_w, i32_w]; rfl) : wpAnyLast P md ops Q S ds fuel l a w := norm_ ha h
theorem on_ {P : Program} {ops : Array Oper} {Q : Exit → Act → World → Prop} {md : Region.Mode} {S : World → Prop} {ds : List Nat} {oi : Oper} {fuel : Nat} {l l' : Array Bool} {a : Act} {w : World} (i : Nat) (N : Tmp)
    (h : ∀ K : Act → World → Prop, Shut (∀ a' w', S w' → (S w' → wpAnyLast P md ops Q S ds fuel l' a' w') → K a' w') → if Region.wanted oi (yielded ops a.tmps) = true then Oper.wp P oi a w K Q else K (a.put (some N) undef) w)
    (hi : ops[i]? = some oi := by rfl) (hN : oi.dst = some N := by rfl) (_hl : l.setIfInBounds i true = l' := by simp only [List.setIfInBounds_toArray, List.set_cons_zero, List.set_cons_succ]; rfl) (hc : readyB md ops l l' i = true := by first | exact one_of HT_.out (by kernel_rfl) | kernel_rfl) (hd : i ∉ ds := by decide) : wpAnyLast P md ops Q S ds (fuel + 1) l a w := one_ l' hi hN hc hd h
theorem a0_ {p : Prop} (t : p := by repeat (first | exact ql.refl _ | apply ql.step)) : p := t
theorem a1_ {p : Prop} (t : p := by repeat (first | (with_reducible first | exact HI0.out | apply IsS76.alloc | apply IsS76.drewN | apply IsS76.drew | apply IsS76.set_1 | apply IsS76.set_2) | exact HI0.out)) : p := t
theorem a2_ {p : Prop} (t : p := by repeat (first | (with_reducible first | exact HK.out | apply qr.set_ | apply qx | apply za | apply qy) | exact HK.out)) : p := t
theorem a3_ {p : Prop} (t : p := by exact (by rw [hg]; exact (qn (be0_ HB)) : w.heap.size ≤ b1)) : p := t
theorem a4_ {p : Prop} (t : p := by first | exact HK.out.1 | exact (show Kept w _ (fun k_ => P0_ k_) from by repeat (first | (with_reducible first | exact HK.out | apply Kept.alloc | apply Kept.drewN | apply Kept.drew) | exact HK.out)).1) : p := t
theorem a5_ {p : Prop} (t : p := by exact Or.inl ⟨(by rfl), (by rintro w' ⟨s0, s1, s2, s3, s4, s5⟩; go_simp; with_reducible rfl)⟩) : p := t
theorem a6_ {p : Prop} (t : p := by exact qw (g := b2) (o := .cells #[.int .i64 a0_0, .int .i64 a0_1] 25 (0, 0)) (bk_ b0) hb) : p := t
theorem a7_ {p : Prop} (t : p := by repeat (first | (with_reducible first | exact HK.out | apply Kept.alloc | apply Kept.drewN | apply Kept.drew) | exact HK.out)) : p := t
theorem a8_ {p : Prop} (t : p := by exact Kd.zy (ok := (fun k_ => (P0_ k_ ∨ w.heap.size ≤ k_))) (kr_ b0) hg hat) : p := t
theorem a9_ {p : Prop} (t : p := by kernel_rfl) : p := t
theorem aa_ {p : Prop} (t : p := by repeat (first | (with_reducible first | exact HI417.out | apply IsS76.alloc | apply IsS76.drewN | apply IsS76.drew | apply IsS76.set_1 | apply IsS76.set_2) | exact HI417.out)) : p := t
theorem ab_ {p : Prop} (t : p := by exact IsS76.ge HI0.out) : p := t
theorem ac_ {p : Prop} (t : p := by exact qo (be0_ HB) hb) : p := t
theorem ad_ {p : Prop} (t : p := by unfold impl_routeNumbers.own; rw [HSD.out]; rfl) : p := t
theorem ae_ {p : Prop} (t : p := by exact (by rw [hg]; exact Nat.ne_of_lt (IsS76.lt (show IsS76 w0 _ g s0_0 s0_1 s0_2 from by repeat (first | (with_reducible first | exact HI0.out | apply IsS76.alloc | apply IsS76.drewN | apply IsS76.drew | apply IsS76.set_1 | apply IsS76.set_2) | exact HI0.out))) : g ≠ b2)) : p := t
theorem af_ {p : Prop} (t : p := by exact (by rw [hg]; exact Nat.ne_of_gt (IsS76.lt (show IsS76 w0 _ g s0_0 s0_1 s0_2 from by repeat (first | (with_reducible first | exact HI0.out | apply IsS76.alloc | apply IsS76.drewN | apply IsS76.drew | apply IsS76.set_1 | apply IsS76.set_2) | exact HI0.out))) : b2 ≠ g)) : p := t
theorem ag_ {p : Prop} (t : p := by rw [laws_FnPostDelivers.j4_no]; simp) : p := t
theorem ah_ {p : Prop} (t : p := by exact qr.blk hk (g' := b7) (o := .cells #[.int .i64 0, .int .i64 0] 25 (0, 0)) (bk_ b3) d4.out (by simp)) : p := t
theorem ai_ {p : Prop} (t : p := by exact qr.blk hk (g' := b4) (o := .cells #[.int .i64 0, .int .i64 0] 25 (0, 0)) (bk_ b3) d3.out (by simp)) : p := t
theorem aj_ {p : Prop} (t : p := by exact qw (g := b4) (o := .cells #[.int .i64 0, .int .i64 0] 25 (0, 0)) (bk_ b3) hb) : p := t
theorem ak_ {p : Prop} (t : p := by exact IsS76.ge HI357.out) : p := t
theorem am_ {p : Prop} (t : p := by exact qw (g := b1) (o := .cells #[.int .i64 a0_0, .int .i64 a0_1] 25 (0, 0)) (bk_ b0) hb) : p := t
theorem an_ {p : Prop} (t : p := by exact qr.blk hk (g' := d2) (o := .cells #[.int .i64 b9, .int .i64 d1] 25 (0, 0)) (bk_ b2) b8.out (by simp)) : p := t
theorem ap_ {p : Prop} (t : p := by exact qr.blk hk (g' := d0) (o := .cells #[.int .i64 d1, .int .i64 d2] 25 (0, 0)) (bk_ b0) b6.out (by simp)) : p := t
theorem aq_ {p : Prop} (t : p := by exact IsS76.ge HI172.out) : p := t
theorem ar_ {p : Prop} (t : p := by exact qr.blk hk (g' := b2) (o := .cells #[.int .i64 0, .int .i64 0] 25 (0, 0)) (bk_ b0) b8.out (by simp)) : p := t
theorem as_ {p : Prop} (t : p := by (with_reducible repeat (first | apply Kd.qu | apply Kd.qt | apply Kd.qv)); exact Kd.zl b1.out (fun _ hk => ⟨trivial, hk⟩)) : p := t
theorem au_ {p : Prop} (t : p := by exact blk_grown (g := b5) (o := .cells #[.int .i64 a0_0, .int .i64 a0_1] 25 (0, 0)) (bk_ b0) hg (Kd.R_ne b4.out b0.out (by decide))) : p := t
theorem av_ {p : Prop} (t : p := by exact (by rw [hg]; exact (qn (be0_ HB)) : w.heap.size ≤ b2)) : p := t
theorem ax_ {p : Prop} (t : p := by exact zv (g := b2) (o := .cells #[.int .i64 0, .int .i64 0] 25 (0, 0)) (bk_ b0)) : p := t
theorem ay_ {p : Prop} (t : p := by exact qw (g := b5) (o := .cells #[.int .i64 a0_0, .int .i64 a0_1] 25 (0, 0)) (bk_ b0) hb) : p := t
theorem az_ {p : Prop} (t : p := by exact qw (g := d2) (o := .cells #[.int .i64 b9, .int .i64 d1] 25 (0, 0)) (bk_ b2) hb) : p := t
theorem b0_ {p : Prop} (t : p := by simp only; omega) : p := t
theorem b1_ {p : Prop} (t : p := by exact qw (g := b2) (o := .cells #[.int .i64 0, .int .i64 0] 25 (0, 0)) (bk_ b0) hb) : p := t
theorem b2_ {p : Prop} (t : p := by (with_reducible repeat (first | apply Kd.S_alloc | apply Kd.S_drewN | apply Kd.S_drew)); exact Kd.S_mono b1.out (fun _ hk => ⟨trivial, hk⟩)) : p := t
theorem b3_ {p : Prop} (t : p := by (with_reducible repeat (first | apply Kd.qu | apply Kd.qt | apply Kd.qv)); exact (Kd.zl (Kd.R_far (p := ⟨b3, 1, none⟩) (Kd.R_far (p := ⟨b3, 0, none⟩) (Kd.R_types b5.out b0.out (by decide)) (fun _ hk => hk.2) (.int .i64 b8)) (fun _ hk => hk.2) (.int .i64 b9)) (fun _ h_ => h_.1))) : p := t
theorem b4_ {p : Prop} (t : p := by exact (by rw [hg]; exact (qn (be0_ HB)) : w.heap.size ≤ gb251)) : p := t
theorem b5_ {p : Prop} (t : p := by exact (by rw [hg]; exact (qn (be0_ HB)) : w.heap.size ≤ gb213)) : p := t
theorem b6_ {p : Prop} (t : p := by exact qo (be1_ HB b1) hb) : p := t
theorem b7_ {p : Prop} (t : p := by (with_reducible repeat (first | apply Kd.qu | apply Kd.qt | apply Kd.qv)); exact Kd.zl HL235_0.out (fun _ hk => ⟨hk.2, hk.1⟩)) : p := t
theorem b8_ {p : Prop} (t : p := by rw [laws_FnPostDelivers.j0_no]; simp) : p := t
theorem b9_ {p : Prop} (t : p := by exact zv (g := b7) (o := .cells #[.int .i64 0, .int .i64 0] 25 (0, 0)) (bk_ b3)) : p := t
theorem ba_ {p : Prop} (t : p := by exact zv (g := b4) (o := .cells #[.int .i64 0, .int .i64 0] 25 (0, 0)) (bk_ b3)) : p := t
theorem bb_ {p : Prop} (t : p := by exact qr.of_below hb g none) : p := t
theorem bc_ {p : Prop} (t : p := by first | rfl | (simp; done) | (simp only [← hji6] <;> (first | rfl | simp)) | (simp [*]; done)) : p := t
theorem bd_ {p : Prop} (t : p := by repeat (first | (with_reducible first | exact HI395.out | apply IsS76.alloc | apply IsS76.drewN | apply IsS76.drew | apply IsS76.set_1 | apply IsS76.set_2) | exact HI395.out)) : p := t
theorem be_ {p : Prop} (t : p := by exact qw (g := gb350) (o := .cells #[.int .i64 a0_0, .int .i64 a0_1] 25 (0, 0)) (bk_ BK350) hb) : p := t
theorem bf_ {p : Prop} (t : p := by exact qw (g := gb346) (o := .cells #[.int .i64 a0_0, .int .i64 a0_1] 25 (0, 0)) (bk_ BK346) hb) : p := t
theorem bg_ {p : Prop} (t : p := by exact be1_ HB b2) : p := t
theorem bh_ {p : Prop} (t : p := by exact (by rw [hg]; exact (qn (be0_ HB)) : w.heap.size ≤ gb355)) : p := t
theorem bi_ {p : Prop} (t : p := by exact (by rw [hg]; exact (qn (be0_ HB)) : w.heap.size ≤ gb350)) : p := t
theorem bj_ {p : Prop} (t : p := by exact (by rw [hg]; exact (qn (be0_ HB)) : w.heap.size ≤ gb346)) : p := t
theorem bm_ {p : Prop} (t : p := by exact (by rw [hg]; exact (qn (be0_ HB)) : w.heap.size ≤ gb342)) : p := t
theorem bn_ {p : Prop} (t : p := by exact (by rw [hg]; exact (qn (be0_ HB)) : w.heap.size ≤ gb204)) : p := t
theorem bp_ {p : Prop} (t : p := by exact (by rw [hg]; exact (qn (be0_ HB)) : w.heap.size ≤ gb143)) : p := t
theorem bq_ {p : Prop} (t : p := by exact (by rw [hg]; exact (qn (be0_ HB)) : w.heap.size ≤ b0)) : p := t
theorem br_ {p : Prop} (t : p := by first | exact q235 | exact od_ | (have e_ := (Kd.S_reads' b1.out).1; omega)) : p := t
theorem bs_ {p : Prop} (t : p := by exact qw (g := b7) (o := .cells #[.int .i64 0, .int .i64 0] 25 (0, 0)) (bk_ b3) hb) : p := t
theorem bt_ {p : Prop} (t : p := by first | exact Kd.R_nil _ _ _ _ _ | exact Kd.N_nil _ _ _ _ _ | exact Kd.V_nil _ _ _ _ _ | exact Kd.Q_nil _ _ _ _ _ | exact Kd.S_nil _ _ _ _ _) : p := t
theorem bu_ {p : Prop} (t : p := by exact below_then HX.out.1 HX.out.1.size hb) : p := t
theorem bv_ {p : Prop} (t : p := by (with_reducible repeat (first | apply Kd.qu | apply Kd.qt | apply Kd.qv)); exact Kd.zl HL243_0.out (fun _ hk => ⟨hk.2, hk.1⟩)) : p := t
theorem bx_ {p : Prop} (t : p := by (with_reducible repeat (first | apply Kd.qu | apply Kd.qt | apply Kd.qv)); exact Kd.zl HL241_0.out (fun _ hk => ⟨hk.2, hk.1⟩)) : p := t
theorem by_ {p : Prop} (t : p := by rw [bytesOf_length]; exact Nat.le_refl _) : p := t
theorem bz_ {p : Prop} (t : p := by exact blk_grown (g := d2) (o := .cells #[.int .i64 b9, .int .i64 d1] 25 (0, 0)) (bk_ b2) hg (Kd.R_ne b7.out b2.out (by decide))) : p := t
theorem c0_ {p : Prop} (t : p := by exact Kd.R_lt (kr_ b0)) : p := t
theorem c1_ {p : Prop} (t : p := by exact IsS76.ge HI417.out) : p := t
theorem c2_ {p : Prop} (t : p := by exact (by rw [hg]; exact (keep_size (w := w) (g := g) (row := none) a2_) : w.heap.size ≤ b2)) : p := t
theorem c3_ {p : Prop} (t : p := by exact qn (be0_ HB)) : p := t
theorem c4_ {p : Prop} (t : p := by exact qr.trans a2_ hk (.inl rfl)) : p := t
theorem c5_ {p : Prop} (t : p := by exact qr.trans a2_ bb_ (.inl rfl)) : p := t
theorem c6_ {p : Prop} (t : p := by exact blk_grown (g := b4) (o := .cells #[.int .i64 0, .int .i64 0] 25 (0, 0)) (bk_ b3) hg (Kd.R_ne b7.out b3.out (by decide))) : p := t
theorem c7_ {p : Prop} (t : p := by (with_reducible repeat (first | apply Kd.qu | apply Kd.qt | apply Kd.qv)); exact Kd.zl b6.out (fun _ hk => trivial)) : p := t
theorem c8_ {p : Prop} (t : p := by exact Kd.zy (ok := (fun _ => True)) as_ hg hat) : p := t
theorem c9_ {p : Prop} (t : p := by exact Kd.R_base ho0) : p := t
theorem ca_ {p : Prop} (t : p := by simp; omega) : p := t
theorem cb_ {p : Prop} (t : p := by exact qr.blk hk (g' := b5) (o := .cells #[.int .i64 d4, .int .i64 d5] 25 (0, 0)) (bk_ b3) d0.out (by simp)) : p := t
theorem cc_ {p : Prop} (t : p := by exact qr.blk hk (g' := b1) (o := .cells #[.int .i64 0, .int .i64 0] 25 (0, 0)) (bk_ b0) b3.out (by simp)) : p := t
theorem cd_ {p : Prop} (t : p := by first | rfl | (simp; done) | (simp only [← hji3] <;> (first | rfl | simp)) | (simp [*]; done)) : p := t
theorem ce_ {p : Prop} (t : p := by exact Kd.C_below HR1.out HB.out) : p := t
theorem cf_ {p : Prop} (t : p := by exact below_then HB.out HB.out.size hb) : p := t
theorem cg_ {p : Prop} (t : p := by simp [Value.ownBlock]) : p := t
theorem ch_ {p : Prop} (t : p := by exact HB.out.trans e) : p := t
theorem ci_ {p : Prop} (t : p := by exact (by rw [hg]; exact Nat.ne_of_lt ax_ : b2 ≠ b5)) : p := t
theorem cj_ {p : Prop} (t : p := by exact (by rw [hg]; exact Nat.ne_of_gt ax_ : b5 ≠ b2)) : p := t
theorem ck_ {p : Prop} (t : p := by exact keep_size (w := w) (g := g) (row := none) a2_) : p := t
theorem G0_ {p q : Prop} (h : qb p) (t : p → q := by intro H_; (with_reducible repeat (first | apply Kd.qu | apply Kd.qt | apply Kd.qv)); exact Kd.zl (Kd.R_far (p := ⟨b4, 1, none⟩) (Kd.R_far (p := ⟨b4, 0, none⟩) (Kd.R_types H_ b3.out (by decide)) (fun _ hk => hk.2) (.int .i64 b9)) (fun _ hk => hk.2) (.int .i64 d1)) (fun _ hk => trivial)) : q := t h.out
theorem G1_ {p q : Prop} (h : qb p) (t : p → q := by intro H_; exact Kept.of_grown (S := (fun k_ => P0_ k_)) hg a7_ (fun k_ e_ => (H_.1 k_ e_).1)) : q := t h.out
theorem G2_ {p q : Prop} (h : qb p) (t : p → q := by intro H_; exact far_slice (IsS76.own_ne HI0.out H_ (by decide))) : q := t h.out
theorem G3_ {p q : Prop} (h : qb p) (t : p → q := by intro H_; (with_reducible repeat (first | apply Kd.qu | apply Kd.qt | apply Kd.qv)); exact Kd.zl H_ (fun _ hk => ⟨hk.1.1, hk.2⟩)) : q := t h.out
theorem l0_ {p : Prop} (t : p := by
  go_ret
  exact ⟨er_, a1_, (by repeat (first | (with_reducible first | exact HB.out | apply qd | apply qa | apply qe | refine qf ?_ ab_) | exact HB.out)), a2_⟩) : p := t
theorem l1_ {p : Prop} (t : p := by
  go_wp2_with (first | (refine gL_ 430 Tryz.func10 #[.string (b3.extract (x65_6 : Int).toNat ((wrap64 (x65_6 + b4)) : Int).toNat)] ?_; refine (impl_CountDelivered.calls k6 (b3.extract (x65_6 : Int).toNat ((wrap64 (x65_6 + b4)) : Int).toNat) b8 true _ A190.out).mono ?_; rintro e w' ⟨rfl, ⟨nd, rfl⟩⟩; refine ⟨_, rfl, ?_⟩))
  go_roundg k6
  case measure => have := HJ11.out; have := HJ66.out; have := HJ89.out; have := HJ137.out; have := HJ166.out; have := HK6.out; omega
  case rel => exact ⟨(wrap64 (x65_6 + 1)), es_, H', ⟨by have := HJ11.out; have := HJ66.out; have := HJ89.out; have := HJ137.out; have := HJ166.out; have := HK6.out; omega⟩, ⟨bk_ b6⟩, ⟨bk_ b7⟩, ⟨be2_ HB b2 b5⟩⟩) : p := t
theorem l2_ {p : Prop} (t : p := by
  repeat' first | (with_reducible first | exact ih0 _ _ _ _ _ | exact LeO.refl _ | exact LeO.none _ | refine LeO.ite ?_ ?_ | refine LeO.bind ?_ (fun _ => ?_)) | exact ih0 _ _ _ _ _ | exact LeO.none _ | refine LeO.ite ?_ ?_ | refine LeO.bind ?_ (fun _ => ?_)) : p := t
theorem l3_ {p : Prop} (t : p := by
  go_wp2_with (first
   | (go_at_call 72; refine (impl_numberAt.calls a0_0 a0_1 1 (j : Int) _ _ (impl_routeNumbers.num_f a0_0 a0_1 1 (j : Int))).mono ?_; rintro e wn ⟨rfl, hb⟩; have hw2 := HW.out.below hb; clear HW hb hcz0 hcz1 hfz0 hfz1; have HW := Lib.hid hw2; clear hw2)
   | ((with_reducible refine zg (b := .append) (xs := #[.tmp 36, .tmp 41]) rfl ?_); at_builtin; refine Kd.R_append (Kd.int .i64) (w0 := w) w.heap.size rfl (.tmp 36) (.tmp 41) 28 3 (.int .i64 0) 8 rfl Tryz.underlying28 impl_routeNumbers.info3 rfl (by decide) (by omega) _ (impl_routeNumbers.acc2 a0_0 a0_1 a1 l2 j 1) (impl_routeNumbers.num a0_0 a0_1 1 (j : Int)) [.int .i64 (impl_routeNumbers.num a0_0 a0_1 1 (j : Int))] (fun _ => True) (fun _ => False) rfl rfl ?aP (fun _ hk => hk.elim) ?aF ?aO ?aB ?aS ?aL ?_; (case aP => exact rfl); (case aB => exact HW.out.bel); (case aF => exact (fun _ _ => trivial)); (case aO => exact HW.out.row); (case aS => exact HW.out.bel.size); (case aL => have := HL.out; omega); intro v1 w1 ho hb hg hat; rw [← HN.out] at ho; have hw2 := HW.out.app ho hb hg; clear HW ho hb hg hat; have HW := Lib.hid hw2; clear hw2))
  go_roundw
  case rel => exact ⟨2, (by omega), (by go_num), HW.out⟩
  case measure => simp [intOf] <;> omega) : p := t
theorem l4_ {p : Prop} (t : p := by
  go_wp2_with (first
   | (go_at_call 72; refine (impl_numberAt.calls a0_0 a0_1 1 (j : Int) _ _ (impl_routeNumbers.num_f a0_0 a0_1 1 (j : Int))).mono ?_; rintro e wn ⟨rfl, hb⟩; have hw2 := HW.out.below hb; clear HW hb hcz0 hcz1 hfz0 hfz1; have HW := Lib.hid hw2; clear hw2)
   | ((with_reducible refine zg (b := .append) (xs := #[.tmp 36, .tmp 41]) rfl ?_); at_builtin; refine Kd.R_append (Kd.int .i64) (w0 := w) w.heap.size rfl (.tmp 36) (.tmp 41) 28 3 (.int .i64 0) 8 rfl Tryz.underlying28 impl_routeNumbers.info3 rfl (by decide) (by omega) _ (impl_routeNumbers.acc2 a0_0 a0_1 a1 l2 j 0) (impl_routeNumbers.num a0_0 a0_1 1 (j : Int)) [.int .i64 (impl_routeNumbers.num a0_0 a0_1 1 (j : Int))] (fun _ => True) (fun _ => False) rfl rfl ?aP (fun _ hk => hk.elim) ?aF ?aO ?aB ?aS ?aL ?_; (case aP => exact rfl); (case aB => exact HW.out.bel); (case aF => exact (fun _ _ => trivial)); (case aO => exact HW.out.row); (case aS => exact HW.out.bel.size); (case aL => have := HL.out; omega); intro v1 w1 ho hb hg hat; rw [← HN.out] at ho; have hw2 := HW.out.app ho hb hg; clear HW ho hb hg hat; have HW := Lib.hid hw2; clear hw2))
  go_roundw
  case rel => exact ⟨1, (by omega), (by go_num), HW.out⟩
  case measure => simp [intOf] <;> omega) : p := t
theorem l5_ {p : Prop} (t : p := by
  go_wp2_with (first
   | (go_at_call 72; refine (impl_numberAt.calls a0_0 a0_1 0 (j : Int) _ _ (impl_routeNumbers.num_f a0_0 a0_1 0 (j : Int))).mono ?_; rintro e wn ⟨rfl, hb⟩; have hw2 := HW.out.below hb; clear HW hb hcz0 hcz1 hfz0 hfz1; have HW := Lib.hid hw2; clear hw2)
   | ((with_reducible refine zg (b := .append) (xs := #[.tmp 36, .tmp 41]) rfl ?_); at_builtin; refine Kd.R_append (Kd.int .i64) (w0 := w) w.heap.size rfl (.tmp 36) (.tmp 41) 28 3 (.int .i64 0) 8 rfl Tryz.underlying28 impl_routeNumbers.info3 rfl (by decide) (by omega) _ (impl_routeNumbers.acc2 a0_0 a0_1 a1 l2 j 1) (impl_routeNumbers.num a0_0 a0_1 0 (j : Int)) [.int .i64 (impl_routeNumbers.num a0_0 a0_1 0 (j : Int))] (fun _ => True) (fun _ => False) rfl rfl ?aP (fun _ hk => hk.elim) ?aF ?aO ?aB ?aS ?aL ?_; (case aP => exact rfl); (case aB => exact HW.out.bel); (case aF => exact (fun _ _ => trivial)); (case aO => exact HW.out.row); (case aS => exact HW.out.bel.size); (case aL => have := HL.out; omega); intro v1 w1 ho hb hg hat; rw [← HN.out] at ho; have hw2 := HW.out.app ho hb hg; clear HW ho hb hg hat; have HW := Lib.hid hw2; clear hw2))
  go_roundw
  case rel => exact ⟨2, (by omega), (by go_num), HW.out⟩
  case measure => simp [intOf] <;> omega) : p := t
theorem l6_ {p : Prop} (t : p := by
  go_wp2_with (first
   | (go_at_call 72; refine (impl_numberAt.calls a0_0 a0_1 0 (j : Int) _ _ (impl_routeNumbers.num_f a0_0 a0_1 0 (j : Int))).mono ?_; rintro e wn ⟨rfl, hb⟩; have hw2 := HW.out.below hb; clear HW hb hcz0 hcz1 hfz0 hfz1; have HW := Lib.hid hw2; clear hw2)
   | ((with_reducible refine zg (b := .append) (xs := #[.tmp 36, .tmp 41]) rfl ?_); at_builtin; refine Kd.R_append (Kd.int .i64) (w0 := w) w.heap.size rfl (.tmp 36) (.tmp 41) 28 3 (.int .i64 0) 8 rfl Tryz.underlying28 impl_routeNumbers.info3 rfl (by decide) (by omega) _ (impl_routeNumbers.acc2 a0_0 a0_1 a1 l2 j 0) (impl_routeNumbers.num a0_0 a0_1 0 (j : Int)) [.int .i64 (impl_routeNumbers.num a0_0 a0_1 0 (j : Int))] (fun _ => True) (fun _ => False) rfl rfl ?aP (fun _ hk => hk.elim) ?aF ?aO ?aB ?aS ?aL ?_; (case aP => exact rfl); (case aB => exact HW.out.bel); (case aF => exact (fun _ _ => trivial)); (case aO => exact HW.out.row); (case aS => exact HW.out.bel.size); (case aL => have := HL.out; omega); intro v1 w1 ho hb hg hat; rw [← HN.out] at ho; have hw2 := HW.out.app ho hb hg; clear HW ho hb hg hat; have HW := Lib.hid hw2; clear hw2))
  go_roundw
  case rel => exact ⟨1, (by omega), (by go_num), HW.out⟩
  case measure => simp [intOf] <;> omega) : p := t
theorem l7_ {p : Prop} (t : p := by
  repeat' first | (with_reducible first | exact ih0 _ _ _ _ | exact LeO.refl _ | exact LeO.none _ | refine LeO.ite ?_ ?_ | refine LeO.bind ?_ (fun _ => ?_)) | exact ih0 _ _ _ _ | exact LeO.none _ | refine LeO.ite ?_ ?_ | refine LeO.bind ?_ (fun _ => ?_)) : p := t
theorem l8_ {p : Prop} (t : p := by
  repeat' first | (with_reducible first | exact ih0 _ _ _ | exact LeO.refl _ | exact LeO.none _ | refine LeO.ite ?_ ?_ | refine LeO.bind ?_ (fun _ => ?_)) | exact ih0 _ _ _ | exact LeO.none _ | refine LeO.ite ?_ ?_ | refine LeO.bind ?_ (fun _ => ?_)) : p := t
theorem l9_ {p : Prop} (t : p := by
  exact ⟨er_, (by repeat (first | (with_reducible first | exact HI0.out | apply IsS76.alloc | apply IsS76.drewN | apply IsS76.drew | apply IsS76.set_1 | apply IsS76.set_2 | refine IsS76.far ?_ b1.out _ | refine IsS76.far ?_ b6.out _) | exact HI0.out)), (by repeat (first | (with_reducible first | exact HB.out | apply qd | apply qa | apply qe | refine qf ?_ ab_ | refine qf ?_ b9.out | refine qf ?_ d3.out) | exact HB.out)), (by repeat (first | (with_reducible first | exact HK.out | apply qr.set_ | apply qx | apply za | apply qy | refine zh ?_ b7.out _ | refine zh ?_ d1.out _) | exact HK.out))⟩) : p := t
theorem la_ {p : Prop} (t : p := by
  repeat' first | (with_reducible first | exact ih0 _ _ | exact LeO.refl _ | exact LeO.none _ | refine LeO.ite ?_ ?_ | refine LeO.bind ?_ (fun _ => ?_)) | exact ih0 _ _ | exact LeO.none _ | refine LeO.ite ?_ ?_ | refine LeO.bind ?_ (fun _ => ?_)) : p := t
theorem lb_ {p : Prop} (t : p := by
  go_wp2
  go_ret
  exact ⟨es_, a0_⟩) : p := t
theorem lc_ {p : Prop} (t : p := by
  have H' := qb.mk H
  clear H;have p256 : 0 ≤ (x17_1 : Int) := od_;have q256 : x17_1 < (b3.length : Int) := od_;obtain ⟨ad256, e256, hx256_0⟩ := Kd.zi (Kd.ze b1.out).2.2 x17_1 p256 q256;cases e256;replace p256 := eq_true p256;replace q256 := eq_true q256;have p14 : 0 ≤ (a2 : Int) := od_;have q14 : a2 < (a1.size : Int) := od_;have hx14 := bt_at a1 a2;replace p14 := eq_true p14;replace q14 := eq_true q14;have p21 : 0 ≤ (a2 : Int) := od_;have q21 : a2 < (a1.size : Int) := od_;have hx21 := bt_at a1 a2;replace p21 := eq_true p21;replace q21 := eq_true q21;have p37 : 0 ≤ (a2 : Int) := od_;have q37 : a2 < (a1.size : Int) := od_;have hx37 := bt_at a1 a2;replace p37 := eq_true p37;replace q37 := eq_true q37
  go_wp2
  go_roundg k1
  case measure => have := HK1.out; omega
  case rel => exact ⟨(x9_1), (wrap64 (x17_1 + 1)), es_, H', ⟨by have := HK1.out; omega⟩, ⟨kr_ b4⟩, ⟨kr_ b1⟩, ⟨bk_ b0⟩, ⟨be1_ HB b2⟩⟩) : p := t
theorem ld_ {p : Prop} (t : p := by
  have H' := qb.mk H
  clear H;have p256 : 0 ≤ (x17_1 : Int) := od_;have q256 : x17_1 < (b3.length : Int) := od_;obtain ⟨ad256, e256, hx256_0⟩ := Kd.zi (Kd.ze b1.out).2.2 x17_1 p256 q256;cases e256;replace p256 := eq_true p256;replace q256 := eq_true q256;have p14 : 0 ≤ (a2 : Int) := od_;have q14 : a2 < (a1.size : Int) := od_;have hx14 := bt_at a1 a2;replace p14 := eq_true p14;replace q14 := eq_true q14;have p21 : 0 ≤ (a2 : Int) := od_;have q21 : a2 < (a1.size : Int) := od_;have hx21 := bt_at a1 a2;replace p21 := eq_true p21;replace q21 := eq_true q21;have p29 : 0 ≤ (a2 : Int) := od_;have q29 : a2 < (a1.size : Int) := od_;have hx29 := bt_at a1 a2;replace p29 := eq_true p29;replace q29 := eq_true q29
  go_wp2
  go_roundg k1
  case measure => have := HK1.out; omega
  case rel => exact ⟨(x9_1), (wrap64 (x17_1 + 1)), es_, H', ⟨by have := HK1.out; omega⟩, ⟨kr_ b4⟩, ⟨kr_ b1⟩, ⟨bk_ b0⟩, ⟨be1_ HB b2⟩⟩) : p := t
theorem le_ {p : Prop} (t : p := by
  repeat' first | (with_reducible first | exact ih0 _ _ _ | exact spec_poGood.mono _ _ | exact LeO.refl _ | exact LeO.none _ | refine LeO.ite ?_ ?_ | refine LeO.bind ?_ (fun _ => ?_)) | exact ih0 _ _ _ | exact spec_poGood.mono _ _ | exact LeO.none _ | refine LeO.ite ?_ ?_ | refine LeO.bind ?_ (fun _ => ?_)) : p := t
theorem lf_ {p : Prop} (t : p := by
  go_wp2
  go_meet
  case rel => exact ⟨_, H', ⟨by have := HJ11.out; have := HJ66.out; have := HJ89.out; have := HJ137.out; have := HJ166.out; have := HJ183.out; have := HJ198.out; have := HK8.out; first | omega | exact Nat.le_refl _⟩, ⟨bk_ b4⟩, ⟨bk_ b5⟩, ⟨be2_ HB b2 b3⟩⟩) : p := t
theorem lg_ {p : Prop} (t : p := by
  repeat' first | (with_reducible first | exact impl_AreDeliveries.mono _ _ | exact LeO.refl _ | exact LeO.none _ | refine LeO.ite ?_ ?_ | refine LeO.bind ?_ (fun _ => ?_)) | exact impl_AreDeliveries.mono _ _ | exact LeO.none _ | refine LeO.ite ?_ ?_ | refine LeO.bind ?_ (fun _ => ?_)) : p := t
theorem lh_ {p : Prop} (t : p := by
  go_wp2_with (go_at_call 52; refine (impl_plotOf.calls a0_0 a0_1 nb sd (pn : Int) _ HPL.out).mono ?_; rintro e w7 ⟨rfl, hb⟩; have HW7 := Lib.hid (HW.out.below hb); clear hb hcz0 hcz1 HW; have hc := HW7.out.cell hpn; have hf := HW7.out.free hpn; rw [hx] at hc)
  go_roundw
  case rel => exact ⟨j + 1, _, (by omega), (by go_num), HR'.out, HW7.out.put hpn _⟩
  case measure => simp [intOf]; omega) : p := t
theorem lj_ {p : Prop} (t : p := by
  refine bodyPost_ret (results_ct rfl _ _ b7 25 #[.int .i64 d1, .int .i64 d2] (0, 0) _ rfl (by (with_reducible repeat (first | refine qh ?_ _ | refine qj ?_ | refine qg ?_ _)); refine zr (cs := #[.int .i64 d1, .int .i64 0]) ?_ 1 _ rfl; (with_reducible repeat (first | refine qh ?_ _ | refine qj ?_ | refine qg ?_ _)); refine zr (cs := #[.int .i64 0, .int .i64 0]) ?_ 0 _ rfl; (with_reducible repeat (first | refine qh ?_ _ | refine qj ?_ | refine qg ?_ _)); exact b3.out) Tryz.underlying25 rfl a9_) rfl ?_
  exact ⟨er_, (by repeat (first | (with_reducible first | exact HB.out | apply qd | apply qa | apply qe | refine qf ?_ aq_ | refine qf ?_ b8.out | refine qf ?_ d3.out) | exact HB.out))⟩) : p := t
theorem lk_ {p : Prop} (t : p := by
  go_roundg k1
  case measure => have := HK1.out; omega
  case rel => exact ⟨(wrap64 (x3_1 + 1)), es_, H', ⟨by have := HK1.out; omega⟩, a0_⟩) : p := t
theorem lm_ {p : Prop} (t : p := by
  go_meet
  case rel => exact ⟨_, (true), es_, H', ⟨by first | omega | exact Nat.le_refl _⟩, ⟨bk_ b0⟩, ⟨be1_ HB b1⟩⟩) : p := t
theorem ln_ {p : Prop} (t : p := by
  go_meet
  case rel => exact ⟨_, (true), (d6), (d7), es_, H', ⟨by first | omega | exact Nat.le_refl _⟩, ⟨bk_ b3⟩, ⟨bk_ b0⟩, ⟨by repeat (first | (with_reducible first | exact HI172.out | apply IsS76.alloc | apply IsS76.drewN | apply IsS76.drew | apply IsS76.set_1 | apply IsS76.set_2 | refine IsS76.far ?_ b2.out _ | refine IsS76.far ?_ b1.out _) | exact HI172.out)⟩, ⟨by repeat (first | (with_reducible first | exact HB.out | apply qd | apply qa | apply qe | refine qf ?_ aq_ | refine qf ?_ b8.out | refine qf ?_ d3.out) | exact HB.out)⟩⟩) : p := t
theorem lp_ {p : Prop} (t : p := by
  obtain rfl := Option.some.inj H
  go_enter Tryz.func74, Tryz.ntmps74
  exact lb_) : p := t
theorem lq_ {p : Prop} (t : p := by
  obtain rfl := Option.some.inj H
  go_enter Tryz.func71, Tryz.ntmps71
  exact lb_) : p := t
theorem lr_ {p : Prop} (t : p := by
  go_still_tail 23, a9_
  still_call (spec_poTable.qstill _ _ _)
  repeat still_step
  refine wpStill_nil ?_
  change wpList _ _ _ _ _ wX.drew
  all_goals
   go_wp2_with fail
   go_roundw
   case rel =>
    refine ⟨t + 1, (by omega), (by go_num), ?_⟩
    rw [EB.out.2]
    exact (HX.out.drew.setC (Nat.le_refl _) (by omega) hlt _).congr (fun i s' _ _ _ => by first | exact HN.out i s' | (have hz := HN.out i s'; simp only [Int.zero_add] at hz; exact hz))
   case measure => simp [intOf] <;> omega) : p := t
theorem ls_ {p : Prop} (t : p := by
  go_wp2_with fail
  go_quiet ((go_at_call 71; exact HQ.out _ _))
  go_wp2_with fail
  go_roundw
  case rel =>
   refine ⟨j + 1, (by omega), (by go_num), (by rw [HN.out]; rfl), (HW.out.drewN _).far (p := ⟨S, j, none⟩) hFS hCS hwS _, ?_⟩
   have hz := blk_set (qh HR.out nq) j (.int .i64 ((impl_bestRoute.come a0 a1 (j + 1) : Nat) : Int));rw [impl_bestRoute.sarr_set, HN.out] at hz
   exact hz
  case measure => simp [intOf] <;> omega) : p := t
theorem lt_ {p : Prop} (t : p := by
  revert g3 b9 z16_0 z16_1 kj66 HJ66 z22_0 u22 u23 u24 u25 u26 u27 u203 u204 u205 kj89 HJ89 g4 g5 g6 A122 g7 g8
  revert w18 v447 w20 v451 w22 v455 b5 b6 b7 b8 z11_0 z11_1 z8_1 z17_0 z11_2 z15_0 z15_1 z15_2 z15_3 kj11 HJ11 z15_4 u20 u21
  revert f4 A7 f5 f6 A8 f7 f8 A9 f9 g0 A10 g1 g2 A11 z2_0 z8_0 z2_1 w13 b2 w14 b3 b4 w16 v443
  revert k A0 c0 l0 A1 c1 l1 r w hu25 HR0 HC0 HR1 HC1 A3 d7 d8 d9 f0 A5 f1 f2 A6 f3
  exact S_.a) : p := t
theorem lu_ {p : Prop} (t : p := by
  repeat' first | (with_reducible first | exact ih0 _ _ _ _ _ | exact impl_isDelivered.mono _ _ _ | exact impl_isStreetText.mono _ _ _ _ | exact LeO.refl _ | exact LeO.none _ | refine LeO.ite ?_ ?_ | refine LeO.bind ?_ (fun _ => ?_)) | exact ih0 _ _ _ _ _ | exact impl_isDelivered.mono _ _ _ | exact impl_isStreetText.mono _ _ _ _ | exact LeO.none _ | refine LeO.ite ?_ ?_ | refine LeO.bind ?_ (fun _ => ?_)) : p := t
theorem lv_ {p : Prop} (t : p := by
  replace H := iQ_ H; obtain ⟨rfl, rfl, rfl⟩ := H
  go_wp2
  go_ret3
  exact ⟨es_, a0_⟩) : p := t
theorem lx_ {p : Prop} (t : p := by
  go_meet
  case rel => exact ⟨_, (!t459), es_, H', ⟨by first | omega | exact Nat.le_refl _⟩, ⟨by (with_reducible repeat (first | apply Kd.qu | apply Kd.qt | apply Kd.qv)); exact Kd.zl HO444.out (fun _ hk => hk.1.2)⟩, ⟨by (with_reducible repeat (first | apply Kd.qu | apply Kd.qt | apply Kd.qv)); exact Kd.zl HO452.out (fun _ hk => hk.1.1.2)⟩, ⟨bk_ BK441⟩, ⟨be1_ HB GE441⟩⟩) : p := t
theorem ly_ {p : Prop} (t : p := by
  repeat' first | (with_reducible first | exact ih0 _ _ _ _ _ _ | exact impl_AreDeliveries.mono _ _ | exact LeO.refl _ | exact LeO.none _ | refine LeO.ite ?_ ?_ | refine LeO.bind ?_ (fun _ => ?_)) | exact ih0 _ _ _ _ _ _ | exact impl_AreDeliveries.mono _ _ | exact LeO.none _ | refine LeO.ite ?_ ?_ | refine LeO.bind ?_ (fun _ => ?_)) : p := t
theorem lz_ {p : Prop} (t : p := by
  repeat' first | (with_reducible first | exact ih0 _ _ _ _ _ | exact spec_poGood.mono _ _ | exact LeO.refl _ | exact LeO.none _ | refine LeO.ite ?_ ?_ | refine LeO.bind ?_ (fun _ => ?_)) | exact ih0 _ _ _ _ _ | exact spec_poGood.mono _ _ | exact LeO.none _ | refine LeO.ite ?_ ?_ | refine LeO.bind ?_ (fun _ => ?_)) : p := t
theorem lA_ {p : Prop} (t : p := by
  repeat' first | (with_reducible first | exact spec_l1Cur_deliveries.mono _ _ _ _ | exact LeO.refl _ | exact LeO.none _ | refine LeO.ite ?_ ?_ | refine LeO.bind ?_ (fun _ => ?_)) | exact spec_l1Cur_deliveries.mono _ _ _ _ | exact LeO.none _ | refine LeO.ite ?_ ?_ | refine LeO.bind ?_ (fun _ => ?_)) : p := t
theorem lB_ {p : Prop} (t : p := by
  clear hi
  obtain ⟨ad', ead, hx⟩ := Kd.zi (Kd.C_below HR.out HW.out.bel) (j : Int) hp0 hp2;obtain rfl : ad = ad' := Option.some.inj ead;rw [Int.toNat_natCast] at hx
  go_wp2_with fail
  go_roundw
  case rel => exact ⟨j + 1, (by omega), (by go_num), rfl, HW.out⟩
  case measure => simp [intOf] <;> omega) : p := t
theorem lC_ {p : Prop} (t : p := by
  go_roundg k1
  case measure => have := HK1.out; omega
  case rel => exact ⟨(wrap64 (x11_1 + 1)), es_, H', ⟨by have := HK1.out; omega⟩, a0_⟩) : p := t
theorem lD_ {p : Prop} (t : p := by
  repeat' first | (with_reducible first | exact ih0 _ _ _ _ _ _ _ _ | exact LeO.refl _ | exact LeO.none _ | refine LeO.ite ?_ ?_ | refine LeO.bind ?_ (fun _ => ?_)) | exact ih0 _ _ _ _ _ _ _ _ | exact LeO.none _ | refine LeO.ite ?_ ?_ | refine LeO.bind ?_ (fun _ => ?_)) : p := t
theorem lE_ {p : Prop} (t : p := by
  repeat' first | (with_reducible first | exact ih0 _ _ _ _ _ _ _ | exact LeO.refl _ | exact LeO.none _ | refine LeO.ite ?_ ?_ | refine LeO.bind ?_ (fun _ => ?_)) | exact ih0 _ _ _ _ _ _ _ | exact LeO.none _ | refine LeO.ite ?_ ?_ | refine LeO.bind ?_ (fun _ => ?_)) : p := t
theorem lF_ {p : Prop} (t : p := by
  by_cases e1 : own < p.1
  ·rw [if_pos e1]
   refine ⟨h0, (by omega), ?_, ?_⟩ <;> (show _ ≤ _; split <;> omega)
  ·rw [if_neg e1]
   by_cases e2 : own = p.1
   ·rw [if_pos e2]
    refine ⟨h.1, h.2.1, ?_, ?_⟩ <;> (show _ ≤ _; split <;> omega)
   ·rw [if_neg e2]; exact h) : p := t
theorem lG_ {p : Prop} (t : p := by
  repeat' first | (with_reducible first | exact ih0 _ _ _ _ _ _ | exact LeO.refl _ | exact LeO.none _ | refine LeO.ite ?_ ?_ | refine LeO.bind ?_ (fun _ => ?_)) | exact ih0 _ _ _ _ _ _ | exact LeO.none _ | refine LeO.ite ?_ ?_ | refine LeO.bind ?_ (fun _ => ?_)) : p := t
theorem lH_ {p : Prop} (t : p := by
  by_cases e : i = p ∧ s' = s
  ·simp only [if_pos e]; exact ⟨trivial, trivial⟩
  ·simp only [if_neg e]; exact ⟨trivial, trivial⟩) : p := t
theorem lJ_ {p : Prop} (t : p := by
  go_wp2
  repeat (go_quiet (fail); try go_wp2)
  go_ret
  exact ⟨es_, a0_⟩) : p := t
theorem lK_ {p : Prop} (t : p := by
  go_enter Tryz.func87, Tryz.ntmps87
  go_wp2
  repeat (go_quiet (fail); try go_wp2)
  exact l0_) : p := t
theorem lM_ {p : Prop} (t : p := by
  go_wp2_with (first | (refine gL_ 7 Tryz.func45 #[.string a0] ?_; refine (spec_poGood.calls k a0 false _ A2.out).mono ?_; rintro e w' ⟨rfl, ⟨nd, rfl⟩⟩; refine ⟨_, rfl, ?_⟩))
  go_ret2
  exact ⟨es_, a0_⟩) : p := t
theorem lN_ {p : Prop} (t : p := by
  go_wp2
  go_roundg k2
  case measure => have := HJ2.out; have := HK2.out; omega
  case rel => exact ⟨(wrap64 (x5_2 + 1)), es_, H', ⟨by have := HJ2.out; have := HK2.out; omega⟩, ⟨bk_ b0⟩, ⟨be1_ HB b1⟩⟩) : p := t
theorem lP_ {p : Prop} (t : p := by
  go_wp2_with (go_at_call 43; refine (impl_AreDeliveries.calls k a0 false _ HT.out).mono ?_; rintro e w' ⟨rfl, ⟨nd, rfl⟩⟩)
  go_ret2
  exact ⟨rfl, (by repeat (first | exact Below.refl _ _ | apply qa))⟩) : p := t
theorem lQ_ {p : Prop} (t : p := by
  go_roundg k2
  case measure => have := HJ2.out; have := HK2.out; omega
  case rel => exact ⟨(x7_2), (x8_2), (wrap64 (x9_2 + 1)), es_, es_, es_, H', ⟨by have := HJ2.out; have := HK2.out; omega⟩, a0_⟩) : p := t
theorem lR_ {p : Prop} (t : p := by
  go_roundg k2
  case measure => have := HJ2.out; have := HK2.out; omega
  case rel => exact ⟨(x9_2), (b0), (wrap64 (x9_2 + 1)), es_, es_, es_, H', ⟨by have := HJ2.out; have := HK2.out; omega⟩, a0_⟩) : p := t
theorem lS_ {p : Prop} (t : p := by
  clear hend ha
  go_wp2_with fail
  go_roundw
  case rel => exact ⟨s + 1, (by omega), (by go_num), (HW.out.setC hlt 1).congr (fun i s _ _ => HN.out i s)⟩
  case measure => simp [intOf] <;> omega) : p := t
theorem lT_ {p : Prop} (t : p := by
  obtain rfl := Option.some.inj H
  exact lb_) : p := t
theorem lU_ {p : Prop} (t : p := by
  go_ret2
  exact ⟨er_, (by repeat (first | (with_reducible first | exact HB.out | apply qd | apply qa | apply qe | refine qf ?_ c1_) | exact HB.out))⟩) : p := t
theorem lV_ {p : Prop} (t : p := by
  go_wp2
  go_roundg k1
  case measure => have := HK1.out; omega
  case rel => exact ⟨(wrap64 (x9_1 + 1)), es_, H', ⟨by have := HK1.out; omega⟩, a0_⟩) : p := t
theorem lX_ {p : Prop} (t : p := by
  go_wp2_with fail
  go_roundw
  case rel => exact ⟨2, (by omega), (by go_num), (by rw [HN.out]; exact HW.out)⟩
  case measure => simp [intOf] <;> omega) : p := t
theorem lY_ {p : Prop} (t : p := by
  go_wp2_with fail
  go_roundw
  case rel => exact ⟨1, (by omega), (by go_num), (by rw [HN.out]; exact HW.out)⟩
  case measure => simp [intOf] <;> omega) : p := t
theorem lZ_ {p : Prop} (t : p := by
  obtain rfl := Option.some.inj H
  go_enter Tryz.func79, Tryz.ntmps79
  exact lb_) : p := t
theorem o0_ {p : Prop} (t : p := by
  obtain ⟨o', h1, _⟩ := Option.bind_eq_some_iff.mp ho
  exact ⟨o', h1⟩) : p := t
theorem sA_ {α : Type _} {l : List α} {i : Nat} {a : α} : l.toArray.setIfInBounds i a = (l.set i a).toArray := List.setIfInBounds_toArray ..
theorem sB_ {α : Type _} {a b : α} {l : List α} : (a :: l).set 0 b = b :: l := rfl
theorem sC_ {α : Type _} {a b : α} {l : List α} {i : Nat} : (a :: l).set (i + 1) b = a :: l.set i b := rfl
end Go.Proofs.YtpopeedfgenebaaGreat.PFnPostDelivers
