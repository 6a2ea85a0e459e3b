/- Written by a program of this session (wip/structrow.py), in the form of the kit's printed rows. Not trusted: Lean checks it. -/
import Derived.Test.YtpedofomfhmnfaaRows
import Derived.Test.YtpedofomfhmnfaaZFnExactMirrorCityWalk
import Derived.Test.YtpedofomfhmnfaaZFnExactMirrorCityPure
import Derived.WalkKit
import Derived.ProofKit
import Derived.OpenShut
import Derived.ShutString
import Derived.ChangeOld
import Derived.ChangeSame
import Derived.Below
import Derived.SizedLaws
import Derived.Lib.SmallJoins
namespace Go.Proofs.Ytpedofomfhmnfaa.fnExactMirrorCity
open Go.ChangeShapes Go.WideShapes Go.ChangeAt Go.RowKit Go.Joins
open Go.ChangeMaps (open_string shut_string)
set_option linter.unusedVariables false
theorem own : ownKnob Try.prog.godebug = none := by kernel_rfl
theorem cells24 : Try.prog.cellsOf 24 = 3 := by kernel_rfl
theorem laidOut : laidOutB Try.prog = true := by kernel_rfl
set_option maxRecDepth 100000 in
theorem lifted (os : Os) (started : os.Started) (H : Type) (enc : TypeId × Value → H) :
  ReturnsInHanded {} Try.checked os 7 .any (Rows.fnExactMirrorCitySpec.pre6 enc Try.prog Try.f7 Rows.fnExactMirrorCityRow.domain false) (Rows.fnExactMirrorCitySpec.post enc Try.prog Try.f7 false true false false) := by
 refine returnsInHanded_of_change_sized (C := Try.checked) own started (by kernel_rfl) Try.func7
  (ChangeSpec.witness6 (enc := enc) (C := Try.checked) false ⟨#[], #[.agg #[.int .i64 0, .int .i64 0, .slice none 0 0]], []⟩ 8 (by kernel_rfl) (by kernel_rfl) (by kernel_rfl) (by kernel_rfl)) ?_
 intro W base args ds gs before hval0 hW hcnd hsz0 _
 have hsz : (DataW.weightsEach Try.prog (Try.f7.params.toList ++ Rows.fnExactMirrorCitySpec.plain.varTypes Try.prog) (ds ++ gs)).all (· ≤ reachBytes) = true := hsz0
 have hval : ∀ (j : Nat) t v, Try.f7.params[j]? = some t → args[j]? = some v → Value.okWide Try.prog W .any base t v := hval0
 have hW' := hW
 obtain ⟨p, q, hA0, hV, rfl, hfz, hnd⟩ := hW
 have hA : DataW.TrodAll enc Try.prog W 0 (fun _ => true) true Try.f7.params.toList args.toList ds p := hA0
 rw [Try.params7] at hA hval hsz
 obtain ⟨v0, vs0, d0, ds0, p0, q0, hargs, rfl, rfl, h0, r0⟩ := trodAll_cons hA
 obtain ⟨rfl, rfl, rfl⟩ := trodAll_nil r0
 obtain rfl : args = #[v0] := by cases args; simp_all
 obtain ⟨rfl, rfl⟩ := trodVars_none hV
 have k0 := h0
 have lt0 : ∀ x ∈ p0, x.block < W.heap.size := by obtain ⟨m, hm⟩ := k0; exact DataW.trod_lt m _ _ _ hm
 obtain ⟨c0_0, c0_1, c0_2, y0_0, y0_1, y0_2, m0, rfl, rfl, rfl, hy0_0, hy0_1, hy0_2⟩ := open_agg3 Try.underlying24 (by kernel_rfl) cells24 (hval 0 24 v0 rfl rfl) h0
 obtain ⟨a0_0, e0_0, rfl, w0_0⟩ := DataW.trod_int Try.underlying3 hy0_0
 simp only [List.cons.injEq, and_true] at e0_0
 subst e0_0
 obtain ⟨a0_1, e0_1, rfl, w0_1⟩ := DataW.trod_int Try.underlying3 hy0_1
 simp only [List.cons.injEq, and_true] at e0_1
 subst e0_1
 obtain ⟨A0_2, cc0_2, l0_2, e0_2, hl0_2, hm0_2, hr0_2, hb0_2⟩ := PFnExactMirrorCity.blocks_C hy0_2
 simp only [List.cons.injEq, and_true] at e0_2
 subst e0_2
 clear hA0 hval0 hsz0 hsz
 refine (PFnExactMirrorCity.laws_FnExactMirrorCity.walk Pure.FnExactMirrorCity a0_0 a0_1 A0_2 cc0_2 l0_2 W w0_0 w0_1 hr0_2 hl0_2 hm0_2 hb0_2).mono fun e W' ⟨he, bel⟩ => ?_
 subst he
 exact ⟨_, rfl, _, _, _, [], _, [], hW', trodAll_mk1 (shut_bool Try.underlying4 _), (trodAll_cons_mk (Below.trod laidOut (by kernel_rfl) (of_decide_eq_true (by kernel_rfl)) k0 bel lt0) trodAll_mk0), rfl, bel.frame _, fun h => by cases h⟩
theorem h_inPlace : (Rows.fnExactMirrorCityRow.inPlace == Try.prog.inPlace 7) = true := by kernel_rfl
theorem h_unfollowed : (Rows.fnExactMirrorCityRow.unfollowed == Try.prog.unfollowed 7) = true := by kernel_rfl
theorem h_recurses : (Rows.fnExactMirrorCityRow.recurses == Try.prog.recurses 7) = true := by kernel_rfl
theorem h_named : (Rows.fnExactMirrorCityRow.named == Try.prog.varsNamed 7) = true := by kernel_rfl
theorem closed : joinedFacts Try.prog 7 Try.f7 Rows.fnExactMirrorCitySpec Rows.fnExactMirrorCityRow = true := by
 unfold joinedFacts
 repeat' (with_reducible refine Bool.and_eq_true_iff.2 ⟨?_, ?_⟩)
 all_goals first | (with_reducible exact h_inPlace) | (with_reducible exact h_unfollowed) | (with_reducible exact h_recurses) | (with_reducible exact h_named) | kernel_rfl
theorem over : Rows.fnExactMirrorCityRow.holds Try.pinned (OpenSpec.ofChange Rows.fnExactMirrorCitySpec) :=
 OpenClaim.holds_of_wide 7 Try.f7 rfl rfl rfl rfl rfl rfl rfl ⟨rfl, rfl, rfl, rfl, rfl⟩ rfl rfl rfl rfl rfl (by kernel_rfl) Try.func7 closed
  (of_decide_eq_true (by kernel_rfl)) (by unfold Func.isWrapper; first | (rw [if_pos (by decide +kernel)]; kernel_rfl) | (rw [if_neg (by decide +kernel)]; exact ⟨rfl, rfl⟩))
  (fun os started H enc _ => lifted os started H enc)
theorem proved : Rows.FnExactMirrorCitySaid := over
#print axioms proved
end Go.Proofs.Ytpedofomfhmnfaa.fnExactMirrorCity
namespace Go.Proofs.Ytpedofomfhmnfaa
theorem fnExactMirrorCity_holds : Rows.FnExactMirrorCitySaid := fnExactMirrorCity.proved
end Go.Proofs.Ytpedofomfhmnfaa
