/- The row of FnExactParseCity: turned from the print of the kit's printer; the world holds what the row lists. -/
import Derived.Test.YtbnbdaommbnecacDoorRows
import Derived.Test.YtbnbdaommbnecacDoorCards
import Derived.Test.YtbnbdaommbnecacDoorTie
import Derived.SevenTiedAt
import Derived.Lay
import Derived.Handy
import Derived.Test.YtbnbdaommbnecacDoorZFnExactParseCityPx13
import Derived.Test.YtbnbdaommbnecacDoorZFnExactParseCityPure
import Derived.WalkKit
import Derived.ProofKit
import Derived.OpenShut
import Derived.ShutString
import Derived.ChangeOld
import Derived.Below
import Derived.SizedLaws
import Derived.Deep.DeepHandedRow
import Derived.Lib.LaidTab
import Derived.Stop.LaidErr
import Derived.LaidSub
import Derived.Shelf.Vars
namespace Go.Proofs.YtbnbdaommbnecacDoor.fnExactParseCity
open Go.ChangeShapes Go.WideShapes Go.ChangeAt Go.RowKit
open Go.ChangeMaps (open_string shut_string)
set_option linter.unusedVariables false
theorem own : ownKnob Tryd.prog.godebug = none := by kernel_rfl
set_option maxRecDepth 100000 in
theorem one (n : String) (d : DataW Unit) (hx : (Rows.fnExactParseCityRow.laid.filter fun x => x.1 == n) = [(n, d)]) (W : World) (hL : laidMetH Tryd.prog Rows.fnExactParseCityRow.laid W) : laidMet Tryd.prog [(n, d)] W := by
 rw [MakeChecks.laidMetH_plain _ _ _ (by kernel_rfl)] at hL
 rw [← hx]
 exact hL.filter _
set_option maxRecDepth 100000 in
theorem tab (W : World) (hL : laidMetH Tryd.prog Rows.fnExactParseCityRow.laid W) : Lib.TabIs Tryd.prog W "internal/strconv.uint64pow10" .u64 Lib.pow10Tab :=
 Lib.tabIs_of_head (rest := []) (g := 5) (t := 114) (e := 93) (n := 20) (by kernel_rfl) (by kernel_rfl) Tryd.underlying114 Tryd.underlying93 (by kernel_rfl) (by kernel_rfl)
  (one "internal/strconv.uint64pow10" (Lib.tabData .u64 Lib.pow10Tab) (by kernel_rfl) W hL)
set_option maxRecDepth 100000 in
theorem errCell (n : String) (d : DataW Unit) (nm : String) (hx : (Rows.fnExactParseCityRow.laid.filter fun x => x.1 == n) = [(n, .iface nm d)]) (g : Nat) (hg : Tryd.prog.globalNamed n = some g) (hty : (Tryd.prog.globals[g]?).map (·.type) = some 60) (W : World) (hL : laidMetH Tryd.prog Rows.fnExactParseCityRow.laid W) : ∃ ev : Value, W.cell? ⟨g, 0, none⟩ = some ev ∧ (ev = .nilIface ∨ ∃ te pe, ev = .iface te pe) := by
 have h := one n _ hx W hL
 obtain ⟨ps, ⟨g', t', cs, fuel, p, q, hg', ht', hvar, hd, _, _⟩, _⟩ := h
 obtain rfl := Option.some.inj (hg.symm.trans hg')
 obtain rfl := Option.some.inj (hty.symm.trans ht')
 obtain ⟨l⟩ := cs
 obtain ⟨f1, u, v, e, hn, h1⟩ := iface_of_trod Tryd.underlying60 hd
 simp only at e
 subst e
 exact ⟨_, by simpa using World.var?_cell hg hvar 0, Or.inr ⟨u, v, rfl⟩⟩
set_option maxRecDepth 100000 in
theorem laidW (W : World) (hL : laidMetH Tryd.prog Rows.fnExactParseCityRow.laid W) (hS : W.ShapedOpen Tryd.prog) : PFnExactParseCity.Laid W := by
 refine ⟨?_, ?_, ?_, tab W hL⟩
 ·exact cell_of_shapedOpen_int (t := 3) (zero := #[.int .i64 0]) (k := .i64) hS (of_decide_eq_true (by kernel_rfl)) (by kernel_rfl) rfl (by kernel_rfl) (by kernel_rfl) Tryd.underlying3
 ·exact errCell "strconv.ErrSyntax" (.ptr (.agg [.lit (.string [105, 110, 118, 97, 108, 105, 100, 32, 115, 121, 110, 116, 97, 120])])) "*errors.errorString" (by kernel_rfl) 1 (by kernel_rfl) (by kernel_rfl) W hL
 ·exact errCell "strconv.ErrRange" (.ptr (.agg [.lit (.string [118, 97, 108, 117, 101, 32, 111, 117, 116, 32, 111, 102, 32, 114, 97, 110, 103, 101])])) "*errors.errorString" (by kernel_rfl) 2 (by kernel_rfl) (by kernel_rfl) W hL
theorem wit (os : Os) (started : os.Started) (H : Type) (enc : TypeId × Value → H) : ∃ (w : World) (tape : Tape) (i : Input), w.os = os ∧ (w.forCall tape i).Shaped Tryd.checked.prog ∧ i.vars = [] ∧ Input.okWide Tryd.checked.prog (w.forCall tape i) .any w.heap.size 3 i ∧
   (OpenSpec.ofChange Rows.fnExactParseCitySpec).preRow enc Tryd.checked.prog Tryd.f3 [] false Rows.fnExactParseCityRow.laid (w.forCall tape i).memory i.args ∧ ({} : Assume).holds Tryd.checked.prog (lone (Frame.enter Tryd.checked.prog 3 i.args .normal) [] (w.forCall tape i)) :=
 ChangeSpec.witness_shaped (enc := enc) (C := Tryd.checked) (os := os) (s := Rows.fnExactParseCitySpec) (fn := Tryd.f3) (X := fun w _ => laidMetH Tryd.prog Rows.fnExactParseCityRow.laid w) false (World.laidAll Tryd.prog os Rows.fnExactParseCityRow.laid) #[.string ByteArray.empty] 8 (World.laidAll_os _ _ _)
   (World.shaped_of_ZipB (by kernel_rfl) (by kernel_rfl)) (by kernel_rfl) (by kernel_rfl) (by kernel_rfl)
   (by rw [MakeChecks.laidMetH_plain _ _ _ (by kernel_rfl)]; exact laidMet_laidAll _ (by kernel_rfl) (by kernel_rfl))
set_option maxRecDepth 100000 in
theorem lifted (os : Os) (started : os.Started) (H : Type) (enc : TypeId × Value → H) (F : Stop.Interp) :
  ReturnsInHanded {} Tryd.checked os 3 .any ((OpenSpec.ofChange Rows.fnExactParseCitySpec).preRow enc Tryd.prog Tryd.f3 Rows.fnExactParseCityRow.domain false Rows.fnExactParseCityRow.laid) (((OpenSpec.ofChange Rows.fnExactParseCitySpec).at F).post enc Tryd.prog Tryd.f3 false true false false) := by
 refine returnsInHanded_of_row (C := Tryd.checked) (s := OpenSpec.ofChange Rows.fnExactParseCitySpec) own started (by kernel_rfl) Tryd.func3 (wit os started H enc) ?_
 intro W base args ds gs before hval0 hW hcnd _ hsz0 hL hS _
 have hsz : (DataW.weightsEach Tryd.prog (Tryd.f3.params.toList ++ Rows.fnExactParseCitySpec.plain.varTypes Tryd.prog) (ds ++ gs)).all (· ≤ reachBytes) = true := hsz0
 have hval : ∀ (j : Nat) t v, Tryd.f3.params[j]? = some t → args[j]? = some v → Value.okWide Tryd.prog W .any base t v := hval0
 have hW' := hW
 obtain ⟨p, q, hA0, hV, rfl, hfz, hnd⟩ := hW
 have hA : DataW.TrodAll enc Tryd.prog W 0 (fun _ => true) true Tryd.f3.params.toList args.toList ds p := hA0
 rw [Tryd.params3] at hA hval hsz
 obtain ⟨v0, vs0, d0, ds0, p0, q0, hargs, rfl, rfl, h0, r0⟩ := trodAll_cons hA
 obtain ⟨rfl, rfl, rfl⟩ := trodAll_nil r0
 obtain rfl : args = #[v0] := by cases args; simp_all
 obtain ⟨rfl, rfl⟩ := trodVars_none hV
 obtain ⟨a0, rfl, rfl, rfl, y0⟩ := open_string Tryd.underlying9 (hval 0 9 v0 rfl rfl) h0
 have w0 : a0.size ≤ 140737488351232 := by
  have z := sized_string hsz (j := 0) (t := 9) rfl rfl
  rw [Array.length_toList] at z
  exact z
 have hlaid := laidW W hL hS
 clear hA0 hval0 hsz0 hsz
 refine (PFnExactParseCity.laws_FnExactParseCity.walk Pure.FnExactParseCity a0 W hlaid w0).mono fun e W' ⟨he, bel⟩ => ?_
 subst he
 exact ⟨_, rfl, _, _, _, [], _, [], hW', trodAll_mk1 (shut_bool Tryd.underlying4 _), (trodAll_cons_mk (shut_string Tryd.underlying9 y0) trodAll_mk0), rfl, bel.frame _, fun h => by cases h⟩
theorem over : Rows.fnExactParseCityRow.holds Tryd.pinned (OpenSpec.ofChange Rows.fnExactParseCitySpec) :=
 OpenClaim.holds_of_cond 3 Tryd.f3 rfl rfl rfl rfl rfl rfl rfl ⟨rfl, rfl, rfl, rfl, rfl⟩ rfl rfl rfl rfl rfl (by kernel_rfl) Tryd.func3 (by kernel_rfl)
  (of_decide_eq_true (by kernel_rfl)) (by unfold Func.isWrapper; first | (rw [if_pos (by decide +kernel)]; kernel_rfl) | (rw [if_neg (by decide +kernel)]; exact ⟨rfl, rfl⟩))
  (fun os started H enc _ F => by rw [OpenClaim.pre_eq_preRow]; exact lifted os started H enc F)
end Go.Proofs.YtbnbdaommbnecacDoor.fnExactParseCity
namespace Go.Proofs.YtbnbdaommbnecacDoor
open Go
theorem fnExactParseCity_holds : Rows.FnExactParseCityCardSaid :=
 Claim7.holds_tied_plain_at .later [] [.data, .data, .data, .data, .sentinel, .sentinel, .pinned] true (true, "17323fd3a6a74b2765d0864bbf8067ca2c74361a3918ee6ec786234973c4f7ca") true fnExactParseCity.over (fun _ h => by cases h) (by kernel_rfl) (fun _ h => by cases h) fnExactParseCity_row_tie rfl ⟨rfl, rfl⟩ (by kernel_rfl) rfl
  (fun f fn hf hfn => by
   obtain rfl : f = 3 := Option.some.inj ((show Tryd.prog.funcNamed "loop.example/g01336/laws.FnExactParseCity" = some 3 by kernel_rfl).symm.trans hf) |>.symm
   obtain rfl : fn = Tryd.f3 := (Option.some.inj (Tryd.func3.symm.trans hfn)).symm
   exact ⟨by kernel_rfl, fun j t ht => by
    rw [Tryd.params3] at ht
    have hm : t ∈ [9] := by simpa using Array.mem_of_getElem? ht
    have hall : ([9].all fun u => !Tryd.prog.wantsStandIn u) = true := by kernel_rfl
    exact (show Tryd.prog.wantsStandIn t = false by simpa using List.all_eq_true.1 hall t hm)⟩)
  (by kernel_rfl)
end Go.Proofs.YtbnbdaommbnecacDoor
