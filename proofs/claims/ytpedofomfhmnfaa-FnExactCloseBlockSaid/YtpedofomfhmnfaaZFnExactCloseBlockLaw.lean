/- Written by a program of this session (wip/structrow.py), in the form of the kit's printed rows. Not trusted: Lean checks it. -/
import Derived.Test.YtpedofomfhmnfaaRows
import Derived.Test.YtpedofomfhmnfaaZFnExactCloseBlockWalk
import Derived.Test.YtpedofomfhmnfaaZFnExactCloseBlockPure
import Derived.WalkKit
import Derived.ProofKit
import Derived.OpenShut
import Derived.ShutString
import Derived.ChangeOld
import Derived.ChangeSame
import Derived.Below
import Derived.SizedLaws
import Derived.Lib.SmallJoins
namespace Go.Proofs.Ytpedofomfhmnfaa.fnExactCloseBlock
open Go.ChangeShapes Go.WideShapes Go.ChangeAt Go.RowKit Go.Joins
open Go.ChangeMaps (open_string shut_string)
set_option linter.unusedVariables false
theorem trod_bool_mk {H : Type} {enc : TypeId × Value → H} {P : Program} {w : World} {base : Nat} {spare : Nat → Bool} {held : Bool} {t : TypeId} {b : Bool} (ht : P.underlying t = some .bool) : DataW.trod enc P w base spare held 1 t [.bool b] = some (.lit (.bool b), []) := by
 simp [DataW.trod, ht]
theorem own : ownKnob Try.prog.godebug = none := by kernel_rfl
theorem cells24 : Try.prog.cellsOf 24 = 3 := by kernel_rfl
theorem cells56 : Try.prog.cellsOf 56 = 3 := by kernel_rfl
theorem laidOut : laidOutB Try.prog = true := by kernel_rfl
set_option maxRecDepth 100000 in
theorem lifted (os : Os) (started : os.Started) (H : Type) (enc : TypeId × Value → H) :
  ReturnsInHanded {} Try.checked os 8 .any (Rows.fnExactCloseBlockSpec.pre6 enc Try.prog Try.f8 Rows.fnExactCloseBlockRow.domain false) (Rows.fnExactCloseBlockSpec.post enc Try.prog Try.f8 false true false false) := by
 refine returnsInHanded_of_change_sized (C := Try.checked) own started (by kernel_rfl) Try.func8
  (ChangeSpec.witness6 (enc := enc) (C := Try.checked) false ⟨#[], #[.agg #[.int .i64 0, .int .i64 0, .slice none 0 0], .agg #[.int .i64 0, .int .i64 0, .bool false]], []⟩ 8 (by kernel_rfl) (by kernel_rfl) (by kernel_rfl) (by kernel_rfl)) ?_
 intro W base args ds gs before hval0 hW hcnd hsz0 _
 have hsz : (DataW.weightsEach Try.prog (Try.f8.params.toList ++ Rows.fnExactCloseBlockSpec.plain.varTypes Try.prog) (ds ++ gs)).all (· ≤ reachBytes) = true := hsz0
 have hval : ∀ (j : Nat) t v, Try.f8.params[j]? = some t → args[j]? = some v → Value.okWide Try.prog W .any base t v := hval0
 have hW' := hW
 obtain ⟨p, q, hA0, hV, rfl, hfz, hnd⟩ := hW
 have hA : DataW.TrodAll enc Try.prog W 0 (fun _ => true) true Try.f8.params.toList args.toList ds p := hA0
 rw [Try.params8] at hA hval hsz
 obtain ⟨v0, vs0, d0, ds0, p0, q0, hargs, rfl, rfl, h0, r0⟩ := trodAll_cons hA
 obtain ⟨v1, vs1, d1, ds1, p1, q1, rfl, rfl, rfl, h1, r1⟩ := trodAll_cons r0
 obtain ⟨rfl, rfl, rfl⟩ := trodAll_nil r1
 obtain rfl : args = #[v0, v1] := by cases args; simp_all
 obtain ⟨rfl, rfl⟩ := trodVars_none hV
 have k0 := h0
 have lt0 : ∀ x ∈ p0, x.block < W.heap.size := by obtain ⟨m, hm⟩ := k0; exact DataW.trod_lt m _ _ _ hm
 obtain ⟨c0_0, c0_1, c0_2, y0_0, y0_1, y0_2, m0, rfl, rfl, rfl, hy0_0, hy0_1, hy0_2⟩ := open_agg3 Try.underlying24 (by kernel_rfl) cells24 (hval 0 24 v0 rfl rfl) h0
 obtain ⟨a0_0, e0_0, rfl, w0_0⟩ := DataW.trod_int Try.underlying3 hy0_0
 simp only [List.cons.injEq, and_true] at e0_0
 subst e0_0
 obtain ⟨a0_1, e0_1, rfl, w0_1⟩ := DataW.trod_int Try.underlying3 hy0_1
 simp only [List.cons.injEq, and_true] at e0_1
 subst e0_1
 obtain ⟨A0_2, cc0_2, l0_2, e0_2, hl0_2, hm0_2, hr0_2, hb0_2⟩ := PFnExactCloseBlock.blocks_C hy0_2
 simp only [List.cons.injEq, and_true] at e0_2
 subst e0_2
 obtain ⟨c1_0, c1_1, c1_2, y1_0, y1_1, y1_2, m1, rfl, rfl, rfl, hy1_0, hy1_1, hy1_2⟩ := open_agg3 Try.underlying56 (by kernel_rfl) cells56 (hval 1 56 v1 rfl rfl) h1
 obtain ⟨a1_0, e1_0, rfl, w1_0⟩ := DataW.trod_int Try.underlying3 hy1_0
 simp only [List.cons.injEq, and_true] at e1_0
 subst e1_0
 obtain ⟨a1_1, e1_1, rfl, w1_1⟩ := DataW.trod_int Try.underlying3 hy1_1
 simp only [List.cons.injEq, and_true] at e1_1
 subst e1_1
 obtain ⟨a1_2, e1_2, rfl⟩ := DataW.trod_bool Try.underlying4 hy1_2
 simp only [List.cons.injEq, and_true] at e1_2
 subst e1_2
 clear hA0 hval0 hsz0 hsz
 simp only [List.append_nil] at hW'
 refine (PFnExactCloseBlock.laws_FnExactCloseBlock.walk Pure.FnExactCloseBlock a0_0 a0_1 A0_2 cc0_2 l0_2 a1_0 a1_1 a1_2 W w0_0 w0_1 hr0_2 hl0_2 hm0_2 hb0_2 w1_0 w1_1).mono fun e W' ⟨he, bel⟩ => ?_
 subst he
 exact ⟨_, rfl, _, _, _, [], _, [], hW', trodAll_mk1 (shut_bool Try.underlying4 _), (trodAll_cons_mk (Below.trod laidOut (by kernel_rfl) (of_decide_eq_true (by kernel_rfl)) k0 bel lt0) (trodAll_cons_mk (shut_agg3 (y0 := (.lit (.int .i64 a1_0), [])) (y1 := (.lit (.int .i64 a1_1), [])) (y2 := (.lit (.bool a1_2), [])) Try.underlying56 (by kernel_rfl) cells56 ⟨1, trod_int_mk 0 Try.underlying3 w1_0⟩ ⟨1, trod_int_mk 0 Try.underlying3 w1_1⟩ ⟨1, trod_bool_mk Try.underlying4⟩) trodAll_mk0)), rfl, bel.frame _, fun h => by cases h⟩
theorem h_inPlace : (Rows.fnExactCloseBlockRow.inPlace == Try.prog.inPlace 8) = true := by kernel_rfl
theorem h_unfollowed : (Rows.fnExactCloseBlockRow.unfollowed == Try.prog.unfollowed 8) = true := by kernel_rfl
theorem h_recurses : (Rows.fnExactCloseBlockRow.recurses == Try.prog.recurses 8) = true := by kernel_rfl
theorem h_named : (Rows.fnExactCloseBlockRow.named == Try.prog.varsNamed 8) = true := by kernel_rfl
theorem closed : joinedFacts Try.prog 8 Try.f8 Rows.fnExactCloseBlockSpec Rows.fnExactCloseBlockRow = true := by
 unfold joinedFacts
 repeat' (with_reducible refine Bool.and_eq_true_iff.2 ⟨?_, ?_⟩)
 all_goals first | (with_reducible exact h_inPlace) | (with_reducible exact h_unfollowed) | (with_reducible exact h_recurses) | (with_reducible exact h_named) | kernel_rfl
theorem over : Rows.fnExactCloseBlockRow.holds Try.pinned (OpenSpec.ofChange Rows.fnExactCloseBlockSpec) :=
 OpenClaim.holds_of_wide 8 Try.f8 rfl rfl rfl rfl rfl rfl rfl ⟨rfl, rfl, rfl, rfl, rfl⟩ rfl rfl rfl rfl rfl (by kernel_rfl) Try.func8 closed
  (of_decide_eq_true (by kernel_rfl)) (by unfold Func.isWrapper; first | (rw [if_pos (by decide +kernel)]; kernel_rfl) | (rw [if_neg (by decide +kernel)]; exact ⟨rfl, rfl⟩))
  (fun os started H enc _ => lifted os started H enc)
theorem proved : Rows.FnExactCloseBlockSaid := over
#print axioms proved
end Go.Proofs.Ytpedofomfhmnfaa.fnExactCloseBlock
namespace Go.Proofs.Ytpedofomfhmnfaa
theorem fnExactCloseBlock_holds : Rows.FnExactCloseBlockSaid := fnExactCloseBlock.proved
end Go.Proofs.Ytpedofomfhmnfaa
