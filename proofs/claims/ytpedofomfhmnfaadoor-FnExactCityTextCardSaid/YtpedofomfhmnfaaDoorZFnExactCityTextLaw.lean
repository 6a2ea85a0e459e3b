/- Written by a program of this session (wip/structrow.py), in the form of the kit's printed rows. Not trusted: Lean checks it. -/
import Derived.Test.YtpedofomfhmnfaaDoorRows
import Derived.Test.YtpedofomfhmnfaaDoorCards
import Derived.Test.YtpedofomfhmnfaaDoorTie
import Derived.SevenTiedAt
import Derived.Lay
import Derived.Handy
import Derived.Test.YtpedofomfhmnfaaDoorZFnExactCityTextWalk
import Derived.Test.YtpedofomfhmnfaaDoorZFnExactCityTextPure
import Derived.WalkKit
import Derived.ProofKit
import Derived.OpenShut
import Derived.ShutString
import Derived.ChangeOld
import Derived.ChangeSame
import Derived.Below
import Derived.SizedLaws
import Derived.Lib.SmallJoins
namespace Go.Proofs.YtpedofomfhmnfaaDoor.fnExactCityText
open Go.ChangeShapes Go.WideShapes Go.ChangeAt Go.RowKit Go.Joins
open Go.ChangeMaps (open_string shut_string)
set_option linter.unusedVariables false
theorem own : ownKnob Tryd.prog.godebug = none := by kernel_rfl
theorem cells24 : Tryd.prog.cellsOf 24 = 3 := by kernel_rfl
theorem laidOut : laidOutB Tryd.prog = true := by kernel_rfl
set_option maxRecDepth 100000 in
theorem lifted (os : Os) (started : os.Started) (H : Type) (enc : TypeId × Value → H) :
  ReturnsInHanded {} Tryd.checked os 3 .any (fun w args => (Rows.fnExactCityTextSpec.pre enc Tryd.prog Tryd.f3 [] false w args ∧ laidMetH Tryd.prog Rows.fnExactCityTextRow.laid w) ∧ sizedMet enc Tryd.prog Tryd.f3 (OpenSpec.ofChange Rows.fnExactCityTextSpec) false w args)
   (Rows.fnExactCityTextSpec.post enc Tryd.prog Tryd.f3 false true false false) := by
 refine returnsInHanded_of_change_and (C := Tryd.checked) (X := fun w _ => laidMetH Tryd.prog Rows.fnExactCityTextRow.laid w) (fun _ _ _ hh h => h.of_heap hh) own started (by kernel_rfl) Tryd.func3
  (ChangeSpec.witness_shaped (enc := enc) (C := Tryd.checked) (os := os) (X := fun w _ => laidMetH Tryd.prog Rows.fnExactCityTextRow.laid w) false (World.laidAll Tryd.prog os Rows.fnExactCityTextRow.laid) #[.agg #[.int .i64 0, .int .i64 0, .slice none 0 0]] 8 (World.laidAll_os _ _ _)
   (World.shaped_of_ZipB (by kernel_rfl) (by kernel_rfl)) (by kernel_rfl) (by kernel_rfl) (by kernel_rfl)
   (by rw [MakeChecks.laidMetH_plain _ _ _ (by kernel_rfl)]; exact laidMet_laidAll _ (by kernel_rfl) (by kernel_rfl))) ?_
 intro W base args ds gs before hval0 hW _ _ _ _
 have hval : ∀ (j : Nat) t v, Tryd.f3.params[j]? = some t → args[j]? = some v → Value.okWide Tryd.prog W .any base t v := hval0
 have hW' := hW
 obtain ⟨p, q, hA0, hV, rfl, hfz, hnd⟩ := hW
 have hA : DataW.TrodAll enc Tryd.prog W 0 (fun _ => true) true Tryd.f3.params.toList args.toList ds p := hA0
 rw [Tryd.params3] at hA hval
 obtain ⟨v0, vs0, d0, ds0, p0, q0, hargs, rfl, rfl, h0, r0⟩ := trodAll_cons hA
 obtain ⟨rfl, rfl, rfl⟩ := trodAll_nil r0
 obtain rfl : args = #[v0] := by cases args; simp_all
 obtain ⟨rfl, rfl⟩ := trodVars_none hV
 have k0 := h0
 have lt0 : ∀ x ∈ p0, x.block < W.heap.size := by obtain ⟨m, hm⟩ := k0; exact DataW.trod_lt m _ _ _ hm
 obtain ⟨c0_0, c0_1, c0_2, y0_0, y0_1, y0_2, m0, rfl, rfl, rfl, hy0_0, hy0_1, hy0_2⟩ := open_agg3 Tryd.underlying24 (by kernel_rfl) cells24 (hval 0 24 v0 rfl rfl) h0
 obtain ⟨a0_0, e0_0, rfl, w0_0⟩ := DataW.trod_int Tryd.underlying3 hy0_0
 simp only [List.cons.injEq, and_true] at e0_0
 subst e0_0
 obtain ⟨a0_1, e0_1, rfl, w0_1⟩ := DataW.trod_int Tryd.underlying3 hy0_1
 simp only [List.cons.injEq, and_true] at e0_1
 subst e0_1
 obtain ⟨A0_2, cc0_2, l0_2, e0_2, hl0_2, hm0_2, hr0_2, hb0_2⟩ := PFnExactCityText.blocks_C hy0_2
 simp only [List.cons.injEq, and_true] at e0_2
 subst e0_2
 clear hA0 hval0
 refine (PFnExactCityText.laws_FnExactCityText.walk Pure.FnExactCityText a0_0 a0_1 A0_2 cc0_2 l0_2 W w0_0 w0_1 hr0_2 hl0_2 hm0_2 hb0_2).mono fun e W' ⟨he, bel⟩ => ?_
 subst he
 exact ⟨_, rfl, _, _, _, [], _, [], hW', trodAll_mk1 (shut_bool Tryd.underlying4 _), (trodAll_cons_mk (Below.trod laidOut (by kernel_rfl) (of_decide_eq_true (by kernel_rfl)) k0 bel lt0) trodAll_mk0), rfl, bel.frame _, fun h => by cases h⟩
theorem h_inPlace : (Rows.fnExactCityTextRow.inPlace == Tryd.prog.inPlace 3) = true := by kernel_rfl
theorem h_unfollowed : (Rows.fnExactCityTextRow.unfollowed == Tryd.prog.unfollowed 3) = true := by kernel_rfl
theorem h_recurses : (Rows.fnExactCityTextRow.recurses == Tryd.prog.recurses 3) = true := by kernel_rfl
theorem h_named : (Rows.fnExactCityTextRow.named == Tryd.prog.varsNamed 3) = true := by kernel_rfl
theorem closed : joinedFacts Tryd.prog 3 Tryd.f3 Rows.fnExactCityTextSpec Rows.fnExactCityTextRow = true := by
 unfold joinedFacts
 repeat' (with_reducible refine Bool.and_eq_true_iff.2 ⟨?_, ?_⟩)
 all_goals first | (with_reducible exact h_inPlace) | (with_reducible exact h_unfollowed) | (with_reducible exact h_recurses) | (with_reducible exact h_named) | kernel_rfl
theorem over : Rows.fnExactCityTextRow.holds Tryd.pinned (OpenSpec.ofChange Rows.fnExactCityTextSpec) :=
 OpenClaim.holds_of_wide 3 Tryd.f3 rfl rfl rfl rfl rfl rfl rfl ⟨rfl, rfl, rfl, rfl, rfl⟩ rfl rfl rfl rfl rfl (by kernel_rfl) Tryd.func3 closed
  (of_decide_eq_true (by kernel_rfl)) (by unfold Func.isWrapper; first | (rw [if_pos (by decide +kernel)]; kernel_rfl) | (rw [if_neg (by decide +kernel)]; exact ⟨rfl, rfl⟩))
  (fun os started H enc _ => lifted os started H enc)
end Go.Proofs.YtpedofomfhmnfaaDoor.fnExactCityText
namespace Go.Proofs.YtpedofomfhmnfaaDoor
open Go
theorem fnExactCityText_holds : Rows.FnExactCityTextCardSaid :=
 Claim7.holds_tied_plain_at .later [] [.data, .data, .data] true (true, "9cb8104b2519d606bee957f2bd1d29de3f2fc08842eb17912c54fdb55ea00f27") false fnExactCityText.over (fun _ h => by cases h) (by kernel_rfl) (fun _ h => by cases h) fnExactCityText_row_tie rfl ⟨rfl, rfl⟩ (by kernel_rfl) rfl
  (fun f fn hf hfn => by
   obtain rfl : f = 3 := Option.some.inj ((show Tryd.prog.funcNamed "loop.example/g01336/laws.FnExactCityText" = some 3 by kernel_rfl).symm.trans hf) |>.symm
   obtain rfl : fn = Tryd.f3 := (Option.some.inj (Tryd.func3.symm.trans hfn)).symm
   exact ⟨by kernel_rfl, fun j t ht => by
    rw [Tryd.params3] at ht
    have hm : t ∈ [24] := by simpa using Array.mem_of_getElem? ht
    have hall : ([24].all fun u => !Tryd.prog.wantsStandIn u) = true := by kernel_rfl
    exact (show Tryd.prog.wantsStandIn t = false by simpa using List.all_eq_true.1 hall t hm)⟩)
  (by kernel_rfl)
end Go.Proofs.YtpedofomfhmnfaaDoor
