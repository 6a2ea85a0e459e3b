/- Cut by wip/cut.py out of the texts of this claim (printed by the kit's printer, or this session's own): what the row's theorem does not reach is struck. Not trusted: Lean checks it. -/
import Derived.Test.YtpedofomfhmnfaaZFnExactMirrorCityPx0
import Derived.Test.YtpedofomfhmnfaaZFnExactMirrorCityPx5
import Derived.Test.YtpedofomfhmnfaaZFnExactMirrorCityPx7
namespace Go.Proofs.Ytpedofomfhmnfaa.PFnExactMirrorCity
open Go.RowKit Go.Proofs.YtpedofomfhmnfaaW.PrintWords Go.Proofs.YtpedofomfhmnfaaW.PrintLast Go.Proofs.YtpedofomfhmnfaaW.PrintMore
attribute [local go_sem] max2_int min2_int max_two min_two max_three min_three max_four min_four
set_option linter.unusedVariables false
set_option linter.unusedSimpArgs false
def impl_Block_66.lay_ren : Go.Shelf.Ren := ⟨fun n => match n with | 6 => 66 | 15 => 79 | 14 => 78 | 28 => 93 | 29 => 94 | 20 => 85 | 21 => 86 | 22 => 87 | 23 => 88 | 24 => 89 | 25 => 90 | 26 => 91 | 27 => 92 | 46 => 98 | 47 => 99 | 48 => 100 | 49 => 101 | 50 => 102 | 57 => 103 | n => n, fun n => match n with | 22 => 29 | 24 => 58 | 25 => 89 | 3 => 3 | 39 => 99 | 0 => 0 | 53 => 114 | 55 => 116 | 4 => 4 | 46 => 108 | 45 => 107 | 50 => 37 | 5 => 5 | 9 => 9 | 66 => 122 | 70 => 126 | 76 => 128 | 77 => 129 | n => n, fun n => n⟩
theorem impl_Block_66.lay : Go.Proofs.SlLaysF0.n6 Try.prog impl_Block_66.lay_ren := {
 mixed := by kernel_rfl
 f6 := ⟨Try.f66.name, by kernel_rfl, Try.func66.trans (congrArg some (by kernel_rfl))⟩
 f14 := ⟨Try.f78.name, by kernel_rfl, Try.func78.trans (congrArg some (by kernel_rfl))⟩
 f15 := Try.func79.trans (congrArg some (by kernel_rfl))
 f20 := ⟨Try.f85.name, by kernel_rfl, Try.func85.trans (congrArg some (by kernel_rfl))⟩
 f21 := ⟨Try.f86.name, by kernel_rfl, Try.func86.trans (congrArg some (by kernel_rfl))⟩
 f22 := ⟨Try.f87.name, by kernel_rfl, Try.func87.trans (congrArg some (by kernel_rfl))⟩
 f23 := ⟨Try.f88.name, by kernel_rfl, Try.func88.trans (congrArg some (by kernel_rfl))⟩
 f24 := ⟨Try.f89.name, by kernel_rfl, Try.func89.trans (congrArg some (by kernel_rfl))⟩
 f25 := ⟨Try.f90.name, by kernel_rfl, Try.func90.trans (congrArg some (by kernel_rfl))⟩
 f26 := ⟨Try.f91.name, by kernel_rfl, Try.func91.trans (congrArg some (by kernel_rfl))⟩
 f27 := ⟨Try.f92.name, by kernel_rfl, Try.func92.trans (congrArg some (by kernel_rfl))⟩
 f28 := Try.func93.trans (congrArg some (by kernel_rfl))
 f29 := Try.func94.trans (congrArg some (by kernel_rfl))
 f46 := ⟨Try.f98.name, by kernel_rfl, Try.func98.trans (congrArg some (by kernel_rfl))⟩
 f47 := Try.func99.trans (congrArg some (by kernel_rfl))
 f48 := Try.func100.trans (congrArg some (by kernel_rfl))
 f49 := ⟨Try.f101.name, by kernel_rfl, Try.func101.trans (congrArg some (by kernel_rfl))⟩
 f50 := ⟨Try.f102.name, by kernel_rfl, Try.func102.trans (congrArg some (by kernel_rfl))⟩
 f57 := ⟨Try.f103.name, by kernel_rfl, Try.func103.trans (congrArg some (by kernel_rfl))⟩
 t0 := Try.underlying0
 a0 := Try.isAgg0
 z0 := Try.sizeOf0
 v0 := Try.zeroValue0
 t3 := Try.underlying3
 a3 := Try.isAgg3
 z3 := Try.sizeOf3
 v3 := Try.zeroValue3
 t4 := Try.underlying4
 a4 := Try.isAgg4
 z4 := Try.sizeOf4
 v4 := Try.zeroValue4
 t5 := Try.underlying5
 a5 := Try.isAgg5
 z5 := Try.sizeOf5
 v5 := Try.zeroValue5
 t9 := Try.underlying9
 a9 := Try.isAgg9
 z9 := Try.sizeOf9
 v9 := Try.zeroValue9
 t22 := Try.underlying29
 a22 := Try.isAgg29
 z22 := Try.sizeOf29
 v22 := Try.zeroValue29
 t25 := Try.underlying89
 a25 := Try.isAgg89
 z25 := Try.sizeOf89
 v25 := Try.zeroValue89
 t39 := Try.underlying99
 a39 := Try.isAgg99
 z39 := Try.sizeOf99
 v39 := Try.zeroValue99
 t45 := Try.underlying107
 a45 := Try.isAgg107
 z45 := Try.sizeOf107
 v45 := Try.zeroValue107
 t46 := Try.underlying108
 a46 := Try.isAgg108
 z46 := Try.sizeOf108
 v46 := Try.zeroValue108
 t50 := Try.underlying37
 a50 := Try.isAgg37
 z50 := Try.sizeOf37
 v50 := Try.zeroValue37
 t53 := Try.underlying114
 a53 := Try.isAgg114
 z53 := Try.sizeOf114
 v53 := Try.zeroValue114
 t55 := Try.underlying116
 a55 := Try.isAgg116
 z55 := Try.sizeOf116
 v55 := Try.zeroValue116
 t66 := Try.underlying122
 a66 := Try.isAgg122
 z66 := Try.sizeOf122
 v66 := Try.zeroValue122
 t70 := Try.underlying126
 a70 := Try.isAgg126
 z70 := Try.sizeOf126
 v70 := Try.zeroValue126
 t76 := Try.underlying128
 a76 := Try.isAgg128
 z76 := Try.sizeOf128
 v76 := Try.zeroValue128
 t77 := Try.underlying129
 a77 := Try.isAgg129
 z77 := Try.sizeOf129
 v77 := Try.zeroValue129 }
instance impl_Block_66.inh : Inhabited S58 := ⟨z58⟩
def impl_Block_66.cmpI (a b : Int) : Int := if a < b then -1 else if a > b then 1 else 0
def impl_Block_66.or3 (a b c : Int) : Int := if a = 0 then (if b = 0 then c else b) else a
def impl_Block_66.up (b c : S58) : Int := if (b.f2 != c.f2) = true then (if c.f2 = true then -1 else 1) else 0
def impl_Block_66.cf (b c : S58) : Int := impl_Block_66.or3 (impl_Block_66.cmpI b.f0 c.f0) (impl_Block_66.cmpI b.f1 c.f1) (impl_Block_66.up b c)
def impl_Block_66.enc (x : S58) : List Value := [.int .i64 x.f0, .int .i64 x.f1, .bool x.f2]
def impl_Block_66.lt (x y : S58) : Bool := decide (x.f0 < y.f0 ∨ x.f0 = y.f0 ∧ (x.f1 < y.f1 ∨ x.f1 = y.f1 ∧ x.f2 = false ∧ y.f2 = true))
theorem impl_Block_66.lt_eq (x y : S58) : Go.Proofs.ltOf impl_Block_66.cf x y = impl_Block_66.lt x y := by
 unfold Go.Proofs.ltOf impl_Block_66.lt impl_Block_66.cf impl_Block_66.or3 impl_Block_66.cmpI impl_Block_66.up
 apply decide_eq_decide.mpr
 obtain ⟨a, b, u⟩ := x
 obtain ⟨c, d, v⟩ := y
 simp only
 by_cases h1 : a < c
 ·simp [h1]
 ·by_cases h2 : a > c
  ·simp [h1, h2, show ¬ a = c by omega]
  ·obtain rfl : a = c := by omega
   by_cases h3 : b < d
   ·simp [h3]
   ·by_cases h4 : b > d
    ·simp [h3, h4, show ¬ b = d by omega]
    ·obtain rfl : b = d := by omega
     cases u <;> cases v <;> simp
theorem impl_Block_66.swo : Go.Sort.SWO (Go.Proofs.ltOf impl_Block_66.cf) where
 irrefl x := by rw [impl_Block_66.lt_eq]; unfold impl_Block_66.lt; simp
 trans x y z h1 h2 := by
  rw [impl_Block_66.lt_eq] at *
  unfold impl_Block_66.lt at *
  simp only [decide_eq_true_eq] at *
  obtain ⟨a, b, u⟩ := x
  obtain ⟨c, d, v⟩ := y
  obtain ⟨e, f, t⟩ := z
  simp only at *
  cases u <;> cases v <;> cases t <;> simp at * <;> omega
 ntrans x y z h1 h2 := by
  rw [impl_Block_66.lt_eq] at *
  unfold impl_Block_66.lt at *
  simp only [decide_eq_false_iff_not] at *
  obtain ⟨a, b, u⟩ := x
  obtain ⟨c, d, v⟩ := y
  obtain ⟨e, f, t⟩ := z
  simp only at *
  cases u <;> cases v <;> cases t <;> simp at * <;> omega
theorem impl_Block_66.tot (x y : S58) (h1 : Go.Proofs.ltOf impl_Block_66.cf x y = false) (h2 : Go.Proofs.ltOf impl_Block_66.cf y x = false) : x = y := by
 rw [impl_Block_66.lt_eq] at *
 unfold impl_Block_66.lt at *
 simp only [decide_eq_false_iff_not] at *
 obtain ⟨a, b, u⟩ := x
 obtain ⟨c, d, v⟩ := y
 simp only at *
 obtain rfl : a = c := by omega
 obtain rfl : b = d := by omega
 cases u <;> cases v <;> simp at *
theorem impl_Block_66.or_f (a b c : Int) : cmp_Or_int.f 5 [a, b, c] = some (impl_Block_66.or3 a b c) := by
 have e1 : wrap64 1 = 1 := by unfold wrap64; omega
 have e2 : wrap64 2 = 2 := by unfold wrap64; omega
 have e3 : wrap64 3 = 3 := by unfold wrap64; omega
 have r0 : ∀ a b c : Int, rd [a, b, c] 0 = a := fun _ _ _ => rfl
 have r1 : ∀ a b c : Int, rd [a, b, c] 1 = b := fun _ _ _ => rfl
 have r2 : ∀ a b c : Int, rd [a, b, c] 2 = c := fun _ _ _ => rfl
 unfold cmp_Or_int.f impl_Block_66.or3
 by_cases ha : a = 0
 ·by_cases hb : b = 0
  ·by_cases hc : c = 0
   ·simp [cmp_Or_int.l0, r0, r1, r2, e1, e2, e3, ha, hb, hc]
   ·simp [cmp_Or_int.l0, r0, r1, r2, e1, e2, ha, hb, hc]
  ·simp [cmp_Or_int.l0, r0, r1, e1, ha, hb]
 ·simp [cmp_Or_int.l0, r0, ha]
set_option maxHeartbeats 2000000 in
theorem impl_Block_66.cmpc (a b : Int) (W : World) : Calls Try.prog 81 #[.int .i64 a, .int .i64 b] W fun e w' => e = .returned (.int .i64 (impl_Block_66.cmpI a b)) ∧ w' = W := by
 unfold impl_Block_66.cmpI
 by_cases h1 : a < b
 ·rw [if_pos h1]
  go_enter Try.func81, Try.ntmps81
  go_wp2
  go_ret
  exact ⟨rfl, rfl⟩
 ·rw [if_neg h1]
  by_cases h2 : a > b
  ·rw [if_pos h2]
   go_enter Try.func81, Try.ntmps81
   go_wp2
   go_ret
   exact ⟨rfl, rfl⟩
  ·rw [if_neg h2]
   have h3 : ¬ b < a := by omega
   go_enter Try.func81, Try.ntmps81
   go_wp2
   go_ret
   exact ⟨rfl, rfl⟩
theorem impl_Block_66.three_C (w : World) (x y z : Int) : Kd.C (Kd.int .i64) (w.alloc (.cells #[.int .i64 x, .int .i64 y, .int .i64 z] 3)) (some ⟨w.heap.size, 0, none⟩) 3 [x, y, z] := by
 refine ⟨rfl, by decide, fun _ => ⟨_, rfl, fun j p hj => ?_⟩⟩
 match j, hj with
 | 0, hj =>
  obtain rfl : x = p := Option.some.inj hj
  refine ⟨[.int .i64 x], rfl, rfl, fun i u hu => ?_⟩
  match i, hu with
  | 0, hu => exact (blk_cell (blk_new w (.cells #[.int .i64 x, .int .i64 y, .int .i64 z] 3)) 0).trans hu
 | 1, hj =>
  obtain rfl : y = p := Option.some.inj hj
  refine ⟨[.int .i64 y], rfl, rfl, fun i u hu => ?_⟩
  match i, hu with
  | 0, hu => exact (blk_cell (blk_new w (.cells #[.int .i64 x, .int .i64 y, .int .i64 z] 3)) 1).trans hu
 | 2, hj =>
  obtain rfl : z = p := Option.some.inj hj
  refine ⟨[.int .i64 z], rfl, rfl, fun i u hu => ?_⟩
  match i, hu with
  | 0, hu => exact (blk_cell (blk_new w (.cells #[.int .i64 x, .int .i64 y, .int .i64 z] 3)) 2).trans hu
theorem impl_Block_66.flat_chunk (ys : List S58) (j : Nat) (hj : j < ys.length) : (((Go.Sort.flatK impl_Block_66.enc 3 ys.toArray).toList).drop (j * 3)).take 3 = impl_Block_66.enc ys[j] := by
 have key : ∀ r, r < 3 → (Go.Sort.flatK impl_Block_66.enc 3 ys.toArray).toList[j * 3 + r]? = some ((impl_Block_66.enc ys[j])[r]!) := by
  intro r hr
  have ht : j * 3 + r < (ys.toArray).size * 3 := by simp; omega
  rw [Array.getElem?_toList, Array.getElem?_eq_getElem (by simpa using ht)]
  have h0 := Go.Sort.get_flatK impl_Block_66.enc 3 ys.toArray (j * 3 + r) ht
  rw [getElem!_pos _ _ (by simpa using ht)] at h0
  rw [h0, show (j * 3 + r) / 3 = j by omega, show (j * 3 + r) % 3 = r by omega, show (ys.toArray)[j]! = ys[j] by simp [hj]]
 apply List.ext_getElem?
 intro r
 by_cases hr : r < 3
 ·rw [List.getElem?_take_of_lt hr, List.getElem?_drop, key r hr]
  match r, hr with
  | 0, _ => rfl
  | 1, _ => rfl
  | 2, _ => rfl
 ·rw [List.getElem?_take_eq_none (by omega), List.getElem?_eq_none (by simp [impl_Block_66.enc]; omega)]
theorem impl_Block_66.flat_get (xs : List S58) (inner : List Value) (hlen : inner.length = xs.length * 3) (h : ∀ j (hj : j < xs.length), (inner.drop (j * 3)).take 3 = impl_Block_66.enc xs[j]) (t : Nat) (ht : t < xs.length * 3) : inner[t]? = some ((Go.Sort.flatK impl_Block_66.enc 3 xs.toArray)[t]!) := by
 have hj : t / 3 < xs.length := by omega
 have h1 := h (t / 3) hj
 have h2 := impl_Block_66.flat_chunk xs (t / 3) hj
 have h3 : (inner.drop (t / 3 * 3)).take 3 = (((Go.Sort.flatK impl_Block_66.enc 3 xs.toArray).toList).drop (t / 3 * 3)).take 3 := h1.trans h2.symm
 have h4 : ((inner.drop (t / 3 * 3)).take 3)[t % 3]? = ((((Go.Sort.flatK impl_Block_66.enc 3 xs.toArray).toList).drop (t / 3 * 3)).take 3)[t % 3]? := by rw [h3]
 rw [List.getElem?_take_of_lt (by omega), List.getElem?_take_of_lt (by omega), List.getElem?_drop, List.getElem?_drop, show t / 3 * 3 + t % 3 = t by omega] at h4
 rw [h4, Array.getElem?_toList, Array.getElem?_eq_getElem (by simpa using ht), getElem!_pos _ _ (by simpa using ht)]
def impl_Block_66.sorted (xs : List S58) : List S58 := xs.mergeSort fun x y => !(Go.Proofs.ltOf impl_Block_66.cf) y x
theorem impl_Block_66.heap_at {w : World} {g n : Nat} {os : Array Obj} {cur : Array Value} {e : TypeId} (d : Array S58) (hb : w.heap[g]? = some (.cells cur e (0, 0))) : (Go.Proofs.sortWorldK impl_Block_66.enc 3 w g 0 n d os).heap[g]? = some (.cells (Go.Sort.putCells id 0 (Go.Sort.flatK impl_Block_66.enc 3 d) cur) e (0, 0)) := by
 unfold Go.Proofs.sortWorldK Go.Sort.putRowK
 rw [Go.Sort.heap_grow_old _ _ (by simpa [Go.Sort.putRow, Go.Sort.mapBlock, Go.Sort.ahead] using blk_lt hb)]
 simp [Go.Sort.putRow, Go.Sort.mapBlock, Go.Sort.ahead, Array.getElem?_modify, hb, Go.Sort.onCells]
theorem impl_Block_66.grown {w : World} {g n : Nat} {os : Array Obj} (d : Array S58) : w.grownBy (Go.Proofs.sortWorldK impl_Block_66.enc 3 w g 0 n d os) (some g) := by
 unfold Go.Proofs.sortWorldK Go.Sort.putRowK
 refine ⟨rfl, rfl, rfl, by simp [Go.Sort.grow, Go.Sort.putRow, Go.Sort.mapBlock, Go.Sort.ahead], fun k hk hne => ?_⟩
 rw [Go.Sort.heap_grow_old _ _ (by simpa [Go.Sort.putRow, Go.Sort.mapBlock, Go.Sort.ahead] using hk)]
 have : g ≠ k := fun e => hne (by rw [e])
 simp [Go.Sort.putRow, Go.Sort.mapBlock, Go.Sort.ahead, Array.getElem?_modify, this]
set_option maxHeartbeats 4000000 in
set_option maxRecDepth 100000 in
theorem impl_Block_66.cmp (x y : S58) (W : World) : Calls Try.prog 67 #[.agg #[.int .i64 x.f0, .int .i64 x.f1, .bool x.f2], .agg #[.int .i64 y.f0, .int .i64 y.f1, .bool y.f2]] W fun e w' => e = .returned (.int .i64 (impl_Block_66.cf x y)) ∧ ∃ q os', w' = Go.Sort.grow (W.drewN q) os' := by
 have hub := Try.underlying58
 have HE : ∀ (a b c : Int) (W1 : World), Hid (Calls Try.prog 80 #[.slice (some ⟨W1.heap.size, 0, none⟩) 3 3] (W1.alloc (.cells #[.int .i64 a, .int .i64 b, .int .i64 c] 3)) fun e w' => e = .returned (.int .i64 (impl_Block_66.or3 a b c)) ∧ Drawn0 (W1.alloc (.cells #[.int .i64 a, .int .i64 b, .int .i64 c] 3)) w') := fun a b c W1 => Lib.hid (cmp_Or_int.calls 5 (some ⟨W1.heap.size, 0, none⟩) 3 [a, b, c] (impl_Block_66.or3 a b c) _ (impl_Block_66.three_C W1 a b c) (Nat.le_refl 3) (impl_Block_66.or_f a b c))
 have HEE := Lib.hid HE
 clear HE
 unfold impl_Block_66.cf
 obtain ⟨U, hU⟩ : ∃ U, impl_Block_66.up x y = U := ⟨_, rfl⟩
 obtain ⟨a, b, u⟩ := x
 obtain ⟨c, d, v⟩ := y
 simp only at *
 rw [hU]
 have HX := Lib.hid (blk_alloc (blk_new W (.cells #[.int .i64 a, .int .i64 b, .bool u] 58)) (.cells #[.int .i64 c, .int .i64 d, .bool v] 58))
 have HY := Lib.hid (blk_new (W.alloc (.cells #[.int .i64 a, .int .i64 b, .bool u] 58)) (.cells #[.int .i64 c, .int .i64 d, .bool v] 58))
 have HG := Lib.hid (show (W.alloc (.cells #[.int .i64 a, .int .i64 b, .bool u] 58)).alloc (.cells #[.int .i64 c, .int .i64 d, .bool v] 58) = Go.Sort.grow W #[.cells #[.int .i64 a, .int .i64 b, .bool u] 58, .cells #[.int .i64 c, .int .i64 d, .bool v] 58] by rw [Go.Sort.alloc_eq_grow, Go.Sort.alloc_eq_grow, Go.Sort.grow_grow]; rfl)
 have HU := Lib.hid hU
 clear hU
 cases u <;> cases v
 all_goals
  have hU := HU.out
  unfold impl_Block_66.up at hU
  simp at hU
  subst hU
  go_enter Try.func67, Try.ntmps67
  go_upto_region 1 with (fail)
  have hy := HY.out
  rw [show (W.alloc (.cells #[.int .i64 a, .int .i64 b, .bool _] 58)).heap.size = W.heap.size + 1 by simp] at hy
  have hx := HX.out
  generalize (W.alloc (.cells #[.int .i64 a, .int .i64 b, .bool _] 58)).alloc (.cells #[.int .i64 c, .int .i64 d, .bool _] 58) = W2 at hx hy HG ⊢
  clear HX HY
  have x0 : W2.cell? ⟨W.heap.size, 0, none⟩ = some (.int .i64 a) := (blk_cell hx 0).trans rfl
  have x1 : W2.cell? ⟨W.heap.size, 1, none⟩ = some (.int .i64 b) := (blk_cell hx 1).trans rfl
  have x2 := (blk_cell hx 2).trans rfl
  have y0 : W2.cell? ⟨W.heap.size + 1, 0, none⟩ = some (.int .i64 c) := (blk_cell hy 0).trans rfl
  have y1 : W2.cell? ⟨W.heap.size + 1, 1, none⟩ = some (.int .i64 d) := (blk_cell hy 1).trans rfl
  have y2 := (blk_cell hy 2).trans rfl
  generalize W.heap.size = g at x0 x1 x2 y0 y1 y2 ⊢
  clear hx hy
  go_upto_region 6 with (fail)
  go_still_tail 11, (by kernel_rfl)
  still_call (impl_Block_66.cmpc _ _ _)
  repeat still_step
  still_call (impl_Block_66.cmpc _ _ _)
  repeat still_step
  refine wpStill_nil ?_
  change wpList _ _ _ _ _ W2.drew
  clear x0 x1 x2 y0 y1 y2
  have HC := Lib.hid (fun (p q r : Int) => HEE.out p q r W2.drew)
  go_wp2_with (go_at_call 80; refine ((HC.out _ _ _).out).mono ?_; rintro e w3 ⟨rfl, hd⟩; obtain ⟨n, rfl⟩ := hd.out)
  go_ret
  refine ⟨rfl, 1 + n, ?_, ?_⟩
  rotate_left
  ·rw [HG.out, Go.Sort.alloc_eq_grow, Go.Sort.grow_grow]
   rfl
theorem impl_Block_66.sort {W : World} {base : Nat} {ok : Nat → Prop} {v : Value} {xs : List S58} (h : Kd.R k58 58 W base ok v xs) (hl : xs.length < 1000000) :
  Calls Try.prog 66 #[v, .func (.func 67) #[] #[]] W fun e W' => e = .returned (.tuple #[]) ∧ Kd.R k58 58 W' base ok v (impl_Block_66.sorted xs) ∧ W.grownBy W' v.ownBlock := by
 have hR := h
 obtain ⟨h0, inner, hown, hr⟩ := h
 change W.ownsRow base 58 3 v xs.length inner at hown
 have hr1 : inner.length = xs.length * 3 := hr.1
 have hr2 : ∀ j p, xs[j]? = some p → k58.M W base (fun k => ok k ∧ some k ≠ v.ownBlock) p ((inner.drop (j * 3)).take 3) := hr.2
 clear hr
 have hln : (impl_Block_66.sorted xs).length = xs.length := List.length_mergeSort _
 rcases hown.2 with ⟨rfl, hn⟩ | ⟨g, cap, cur, rfl, hg, hh, h1, h2, h3, h4⟩
 ·have hx : xs = [] := List.eq_nil_of_length_eq_zero (by omega)
  refine (Go.Proofs.AnyF.slices_SortFunc_none impl_Block_66.lay none 0 _ W).mono ?_
  rintro e W' ⟨rfl, rfl⟩
  subst hx
  have e0 : impl_Block_66.sorted [] = [] := by simp [impl_Block_66.sorted]
  rw [e0]
  exact ⟨rfl, hR, World.grownBy.refl _ _⟩
 ·have hfl := impl_Block_66.flat_get xs inner hr1 (fun j hj => by
   have h5 := hr2 j xs[j] (by simp [hj])
   exact k58_openM h5)
  have hH : Go.Sort.HoldsK impl_Block_66.enc 3 W g 0 xs.toArray := by
   intro t ht
   have ht' : t < xs.length * 3 := by simpa using ht
   refine ⟨?_, blk_frozen hh _⟩
   rw [Nat.zero_add, blk_cell hh]
   have h6 : (cur.toList.take (xs.length * 3))[t]? = inner[t]? := by rw [h4]
   rw [List.getElem?_take_of_lt ht', Array.getElem?_toList] at h6
   rw [h6, hfl t ht']
   rfl
  have hcmp : Go.Proofs.CmpLays Try.prog 67 #[] impl_Block_66.enc 3 impl_Block_66.cf g 0 xs.toArray.size W := fun m os dk _ x y => impl_Block_66.cmp x y _
  have eg : ∀ args w, (callFunc 67 args).run Try.prog w = .ok (.enter 67 args) w := enters_of Try.func67 (by kernel_rfl) rfl
  have hcon := Go.Proofs.AnyQ.slices_SortFunc_total impl_Block_66.lay 3 Try.isAgg58 Try.sizeOf58 impl_Block_66.enc (fun _ => rfl) (fun x v hv => by simp [impl_Block_66.enc] at hv; rcases hv with rfl | rfl | rfl <;> rfl) impl_Block_66.cf impl_Block_66.swo 67 #[] g 0 cap xs.toArray W eg hcmp hH (blk_lt hh) (by simp; omega) impl_Block_66.tot
  refine (show Calls Try.prog 66 #[.slice (some ⟨g, 0, none⟩) xs.length cap, .func (.func 67) #[] #[]] W _ from hcon).mono ?_
  rintro e W' ⟨rfl, n, os, rfl⟩
  refine ⟨rfl, ⟨h0, (Go.Sort.flatK impl_Block_66.enc 3 (impl_Block_66.sorted xs).toArray).toList, ⟨by show _ = _ * 3; simp, .inr ⟨g, cap, _, by rw [hln], hg, impl_Block_66.heap_at _ hh, by omega, h2, by show _ = cap * 3; simp [Go.Sort.putCells, h3], ?_⟩⟩, ⟨by show _ = _ * 3; simp, fun j p hj => ?_⟩⟩, impl_Block_66.grown _⟩
  ·show List.take ((impl_Block_66.sorted xs).length * 3) (Go.Sort.putCells id 0 (Go.Sort.flatK impl_Block_66.enc 3 (impl_Block_66.sorted xs).toArray) cur).toList = _
   have hsz : (impl_Block_66.sorted xs).length * 3 ≤ cur.size := by rw [h3]; omega
   apply List.ext_getElem?
   intro j
   by_cases hj : j < (impl_Block_66.sorted xs).length * 3
   ·rw [List.getElem?_take_of_lt hj, Array.getElem?_toList]
    have hj2 : j < (Go.Sort.flatK impl_Block_66.enc 3 (impl_Block_66.sorted xs).toArray).size := by simpa using hj
    rw [Array.getElem?_toList, Array.getElem?_eq_getElem hj2, ← getElem!_pos (Go.Sort.flatK impl_Block_66.enc 3 (impl_Block_66.sorted xs).toArray) j hj2]
    simp only [Go.Sort.putCells]
    rw [Array.getElem?_eq_getElem (by simp; omega), Array.getElem_mapIdx, if_pos (by omega)]
    rfl
   ·rw [List.getElem?_take_eq_none (by omega), List.getElem?_eq_none (by simp; omega)]
  ·have hj' : j < (impl_Block_66.sorted xs).length := (List.getElem?_eq_some_iff.1 hj).1
   obtain rfl : (impl_Block_66.sorted xs)[j] = p := (List.getElem?_eq_some_iff.1 hj).2
   show k58.M _ _ _ _ ((_ : List Value).drop (j * 3) |>.take 3)
   rw [impl_Block_66.flat_chunk _ j hj']
   exact k58_mkM _ _ _ _
def impl_Block_66.f (l0 : List S58) : Option (List S58) := if l0.length < 1000000 then some (impl_Block_66.sorted l0) else none
theorem impl_Block_66.calls (P0_ : Nat → Prop) (u9000_ : Value) (l0 : List S58) (r1 : List S58) (w0 w : World) (hB : Below w0.heap.size w0 w) (ho0 : Kd.R k58 58 w w0.heap.size P0_ u9000_ l0) (h : impl_Block_66.f l0 = some r1) :
  Calls Try.prog 66 #[u9000_, .func (.func 67) #[] #[]] w fun e w' => e = .returned (.tuple #[]) ∧ Kd.R k58 58 w' w0.heap.size (fun k_ => (P0_ k_ ∨ w.heap.size ≤ k_)) u9000_ r1 ∧ Below w0.heap.size w0 w' ∧ Kept w w' (fun k_ => P0_ k_) := by
 unfold impl_Block_66.f at h
 by_cases hl : l0.length < 1000000
 ·rw [if_pos hl] at h
  obtain rfl := Option.some.inj h
  refine (impl_Block_66.sort ho0 hl).mono ?_
  rintro e w' ⟨rfl, hR, hg⟩
  exact ⟨rfl, Kd.R_mono hR (fun _ hk => .inl hk), pw_below_grown hB _ hB.size hg (Kd.R_base ho0), Kept.of_grown (S := fun k_ => P0_ k_) hg (Kept.refl _ _) (fun k_ e_ => .inl (ho0.1 k_ e_))⟩
 ·rw [if_neg hl] at h
  cases h
def impl_MirrorCity.mir (W : Int) (b : S58) : S58 := if b.f2 = true then ⟨IntKind.i64.wrap (IntKind.i64.wrap (W - 1) - b.f0), b.f1, b.f2⟩ else ⟨IntKind.i64.wrap (IntKind.i64.wrap (IntKind.i64.wrap (W - 1) - b.f0) - 1), b.f1, b.f2⟩
def impl_MirrorCity.f (k : Nat) (a0_0 : Int) (a0_1 : Int) (l0_2 : List S58) : Option (Int × Int × List S58 × Bool) := (impl_IsCity.f k a0_0 a0_1 l0_2).bind fun t => if t = true then ((impl_Block_55.f l0_2).bind fun l => if l.length < 500000 then ((impl_Block_66.f (l.map (impl_MirrorCity.mir a0_0))).bind fun s => some (a0_0, a0_1, s, true)) else none) else some (0, 0, [], false)
theorem impl_MirrorCity.mono : ∀ a0 a1 a2 k, LeO (impl_MirrorCity.f k a0 a1 a2) (impl_MirrorCity.f (k + 1) a0 a1 a2) := fun a0 a1 a2 k => LeO.bind (impl_IsCity.mono _ _ _ _) (fun _ => LeO.refl _)
def impl_MirrorCity.T3 : Bool × List (List Nat × List Nat) := (true, [([], []), ([0], [0]), ([], []), ([2], [2]), ([], []), ([4], [4]), ([5], [5]), ([1, 3, 6], [1, 3, 6]), ([], []), ([8, 7, 6, 0, 1, 2, 3, 4, 5, 6, 7, 8], [7, 8])])
def impl_MirrorCity.B3 : List Nat := [0, 1, 0, 4, 0, 16, 48, 127, 0, 511]
theorem impl_MirrorCity.tab3 : rtab .any (opsOf Try.f33 3) = impl_MirrorCity.T3 := by kernel_rfl
theorem impl_MirrorCity.bits3 : waitsOk impl_MirrorCity.T3.2 impl_MirrorCity.B3 = true := by kernel_rfl
theorem impl_MirrorCity.elem {W : World} {base g n cap : Nat} {ok : Nat → Prop} {xs : List S58} (h : Kd.R k58 58 W base ok (.slice (some ⟨g, 0, none⟩) n cap) xs) (i : Nat) (hi : i < n) :
  W.cell? ⟨g, i * 3, none⟩ = some (.int .i64 (xs.getD i z58).f0) ∧ W.cell? ⟨g, i * 3 + 1, none⟩ = some (.int .i64 (xs.getD i z58).f1) ∧ W.cell? ⟨g, i * 3 + 2, none⟩ = some (.bool (xs.getD i z58).f2) ∧ W.frozen? ⟨g, i * 3, none⟩ = false ∧
   ∀ a : Int, Kd.R k58 58 (W.setCell ⟨g, i * 3, none⟩ (.int .i64 a)) base ok (.slice (some ⟨g, 0, none⟩) n cap) (xs.set i ⟨a, (xs.getD i z58).f1, (xs.getD i z58).f2⟩) ∧ W.grownBy (W.setCell ⟨g, i * 3, none⟩ (.int .i64 a)) (some g) := by
 obtain ⟨c, hcl, hM, hcc, hfr⟩ := Kd.R_elem h z58 (i : Int) (by omega) (by omega)
 obtain rfl := k58_openM hM
 rw [Int.toNat_natCast] at hcc hfr
 refine ⟨hcc 0 _ rfl, hcc 1 _ rfl, hcc 2 _ rfl, hfr 0, fun a => ?_⟩
 have h0 := Kd.R_seg h (i : Int) (by omega) (by omega) (c := [.int .i64 (xs.getD i z58).f0, .int .i64 (xs.getD i z58).f1, .bool (xs.getD i z58).f2]) (seg := [.int .i64 a]) (j := 0) (x' := ⟨a, (xs.getD i z58).f1, (xs.getD i z58).f2⟩) (okp := fun k => ok k ∧ k ≠ g) rfl (by rw [Int.toNat_natCast]; exact hcc) (by show 0 + 1 ≤ 3; omega) (k58_mkM _ _ _ _) (fun _ hk => hk)
 rw [Int.toNat_natCast] at h0
 exact h0
theorem impl_MirrorCity.getD_at (A B : List S58) (b : S58) (i : Nat) (hi : A.length = i) : (A ++ b :: B).getD i z58 = b := by
 subst hi; simp [List.getD_eq_getElem?_getD]
theorem impl_MirrorCity.set_at (A B : List S58) (b c : S58) (i : Nat) (hi : A.length = i) : (A ++ b :: B).set i c = A ++ c :: B := by
 subst hi; simp
set_option maxHeartbeats 8000000 in
set_option maxRecDepth 100000 in
theorem impl_MirrorCity.no (k : Nat) (a0_0 : Int) (a0_1 : Int) (A0_2 : Option Addr) (c0_2 : Nat) (l0_2 : List S58) (w : World) (hr0_2 : Kd.C k58 w A0_2 l0_2.length l0_2) (hc0_2 : l0_2.length ≤ c0_2) (h : impl_IsCity.f k a0_0 a0_1 l0_2 = some false) :
  Calls Try.prog 33 #[.agg #[.int .i64 a0_0, .int .i64 a0_1, .slice A0_2 l0_2.length c0_2]] w fun e w' => ∃ v2_ : Value, e = .returned (.tuple #[.agg #[.int .i64 0, .int .i64 0, v2_], .bool false]) ∧ Kd.R k58 58 w' w.heap.size (fun _ => True) v2_ [] ∧ Below w.heap.size w w' := by
 have HL := Lib.hid (Kd.C_below hr0_2 (Below.refl w.heap.size w))
 have H_IsCity := Lib.hid h
 clear h hr0_2
 have hu := Try.underlying31
 have hub := Try.underlying58
 go_enter Try.func33, Try.ntmps33
 go_upto_region 1 with (fail)
 have HC0 := Lib.hid (blk_alloc (blk_new w (.cells #[.int .i64 a0_0, .int .i64 a0_1, .slice A0_2 l0_2.length c0_2] 31)) (.cells #[.int .i64 0, .int .i64 0, .slice none 0 0] 31))
 have HC2 := Lib.hid (blk_new (w.alloc (.cells #[.int .i64 a0_0, .int .i64 a0_1, .slice A0_2 l0_2.length c0_2] 31)) (.cells #[.int .i64 0, .int .i64 0, .slice none 0 0] 31))
 have hal : ∀ (W : World) (o : Obj), Below W.heap.size W (W.alloc o) := fun W o => below_alloc (Below.refl _ _) o
 have HB := Lib.hid ((hal w (.cells #[.int .i64 a0_0, .int .i64 a0_1, .slice A0_2 l0_2.length c0_2] 31)).trans ((hal _ (.cells #[.int .i64 0, .int .i64 0, .slice none 0 0] 31)).mono (by simp)))
 have hs1 : (w.alloc (.cells #[.int .i64 a0_0, .int .i64 a0_1, .slice A0_2 l0_2.length c0_2] 31)).heap.size = w.heap.size + 1 := by simp
 rw [hs1] at HC2
 clear hal hs1
 have HL1 := Lib.hid (Kd.C_alloc (Kd.C_alloc HL.out (.cells #[.int .i64 a0_0, .int .i64 a0_1, .slice A0_2 l0_2.length c0_2] 31)) (.cells #[.int .i64 0, .int .i64 0, .slice none 0 0] 31))
 generalize (w.alloc (.cells #[.int .i64 a0_0, .int .i64 a0_1, .slice A0_2 l0_2.length c0_2] 31)).alloc (.cells #[.int .i64 0, .int .i64 0, .slice none 0 0] 31) = W1 at HC0 HC2 HB HL1 ⊢
 obtain ⟨s, hs⟩ : ∃ s, s = w.heap.size := ⟨_, rfl⟩
 have HSW := Lib.hid hs
 rw [← hs] at HC0 HC2 ⊢
 clear hs
 clear HL
 have HL := HL1
 clear HL1
 have HBR := Below.refl W1.heap.size W1
 have hcz0 : W1.cell? ⟨s, 0, none⟩ = some (.int .i64 a0_0) := (blk_cell HC0.out 0).trans rfl
 have hcz1 : W1.cell? ⟨s, 1, none⟩ = some (.int .i64 a0_1) := (blk_cell HC0.out 1).trans rfl
 have hcz2 : W1.cell? ⟨s, 2, none⟩ = some (.slice A0_2 l0_2.length c0_2) := (blk_cell HC0.out 2).trans rfl
 go_upto_region 2 with (go_at_call 65; (with_reducible refine (impl_IsCity.calls k a0_0 a0_1 A0_2 c0_2 l0_2 false _ (Kd.C_below HL.out HBR) hc0_2 H_IsCity.out).mono ?_); rintro e w2 ⟨rfl, hb2⟩; have HB2 := Lib.hid (below_then HBR HBR.size hb2); have hcz0 := pw_cell_below hb2 hcz0; have hcz1 := pw_cell_below hb2 hcz1; have hcz2 := pw_cell_below hb2 hcz2)
 have HBW2 := Lib.hid (HB.out.trans (HB2.out.mono HB.out.size))
 have HX2 := Lib.hid ((HB2.out.block _ (blk_lt HC2.out)).trans HC2.out)
 have hq0 : w2.cell? ⟨s + 1, 0, none⟩ = some (.int .i64 0) := (blk_cell HX2.out 0).trans rfl
 have hq1 : w2.cell? ⟨s + 1, 1, none⟩ = some (.int .i64 0) := (blk_cell HX2.out 1).trans rfl
 have hq2 : w2.cell? ⟨s + 1, 2, none⟩ = some (.slice none 0 0) := (blk_cell HX2.out 2).trans rfl
 have hz0 := blk_frozen HX2.out 0
 have hz1 := blk_frozen HX2.out 1
 have hz2 := blk_frozen HX2.out 2
 go_wp2
 have HH := Lib.hid (show (((w2.setCell ⟨s + 1, 0, none⟩ (.int .i64 0)).setCell ⟨s + 1, 1, none⟩ (.int .i64 0)).setCell ⟨s + 1, 2, none⟩ (.slice none 0 0)).heap[s + 1]? = some (.cells #[.int .i64 0, .int .i64 0, .slice none 0 0] 31 (0, 0)) by
  refine blk_put (cs := #[.int .i64 0, .int .i64 0, .slice none 0 0]) ?_ 2 _ rfl
  refine blk_put (cs := #[.int .i64 0, .int .i64 0, .slice none 0 0]) ?_ 1 _ rfl
  refine blk_put (cs := #[.int .i64 0, .int .i64 0, .slice none 0 0]) ?_ 0 _ rfl
  exact HX2.out)
 have hgs : w.heap.size ≤ s + 1 := by have := HSW.out; omega
 refine bodyPost_ret (results_ct rfl _ _ (s + 1) 31 #[.int .i64 0, .int .i64 0, .slice none 0 0] (0, 0) _ rfl HH.out Try.underlying31 rfl (by kernel_rfl)) rfl ?_
 exact ⟨_, rfl, Kd.R_nil _ _ _ _ _, below_set (below_set (below_set HBW2.out hgs) hgs) hgs⟩
set_option maxHeartbeats 16000000 in
set_option maxRecDepth 100000 in
theorem impl_MirrorCity.yes (k : Nat) (a0_0 : Int) (a0_1 : Int) (A0_2 : Option Addr) (c0_2 : Nat) (l0_2 : List S58) (l s' : List S58) (w : World) (hr0_2 : Kd.C k58 w A0_2 l0_2.length l0_2) (hc0_2 : l0_2.length ≤ c0_2) (h : impl_IsCity.f k a0_0 a0_1 l0_2 = some true) (hl : impl_Block_55.f l0_2 = some l) (hln : l.length < 500000) (hs' : s' = impl_Block_66.sorted (l.map (impl_MirrorCity.mir a0_0))) :
  Calls Try.prog 33 #[.agg #[.int .i64 a0_0, .int .i64 a0_1, .slice A0_2 l0_2.length c0_2]] w fun e w' => ∃ v2_ : Value, e = .returned (.tuple #[.agg #[.int .i64 a0_0, .int .i64 a0_1, v2_], .bool true]) ∧ Kd.R k58 58 w' w.heap.size (fun _ => True) v2_ s' ∧ Below w.heap.size w w' := by
 have HL := Lib.hid (Kd.C_below hr0_2 (Below.refl w.heap.size w))
 have H_IsCity := Lib.hid h
 have HCL := Lib.hid hl
 have HLN := Lib.hid hln
 have HSS := Lib.hid hs'
 clear h hr0_2 hl hln hs'
 have hu := Try.underlying31
 have hub := Try.underlying58
 go_enter Try.func33, Try.ntmps33
 go_upto_region 1 with (fail)
 have HC0 := Lib.hid (blk_alloc (blk_new w (.cells #[.int .i64 a0_0, .int .i64 a0_1, .slice A0_2 l0_2.length c0_2] 31)) (.cells #[.int .i64 0, .int .i64 0, .slice none 0 0] 31))
 have HC2 := Lib.hid (blk_new (w.alloc (.cells #[.int .i64 a0_0, .int .i64 a0_1, .slice A0_2 l0_2.length c0_2] 31)) (.cells #[.int .i64 0, .int .i64 0, .slice none 0 0] 31))
 have hal : ∀ (W : World) (o : Obj), Below W.heap.size W (W.alloc o) := fun W o => below_alloc (Below.refl _ _) o
 have HB := Lib.hid ((hal w (.cells #[.int .i64 a0_0, .int .i64 a0_1, .slice A0_2 l0_2.length c0_2] 31)).trans ((hal _ (.cells #[.int .i64 0, .int .i64 0, .slice none 0 0] 31)).mono (by simp)))
 have hs1 : (w.alloc (.cells #[.int .i64 a0_0, .int .i64 a0_1, .slice A0_2 l0_2.length c0_2] 31)).heap.size = w.heap.size + 1 := by simp
 rw [hs1] at HC2
 clear hal hs1
 have HL1 := Lib.hid (Kd.C_alloc (Kd.C_alloc HL.out (.cells #[.int .i64 a0_0, .int .i64 a0_1, .slice A0_2 l0_2.length c0_2] 31)) (.cells #[.int .i64 0, .int .i64 0, .slice none 0 0] 31))
 generalize (w.alloc (.cells #[.int .i64 a0_0, .int .i64 a0_1, .slice A0_2 l0_2.length c0_2] 31)).alloc (.cells #[.int .i64 0, .int .i64 0, .slice none 0 0] 31) = W1 at HC0 HC2 HB HL1 ⊢
 obtain ⟨s, hs⟩ : ∃ s, s = w.heap.size := ⟨_, rfl⟩
 have HSW := Lib.hid hs
 rw [← hs] at HC0 HC2 ⊢
 clear hs
 clear HL
 have HL := HL1
 clear HL1
 have HBR := Below.refl W1.heap.size W1
 have hcz0 : W1.cell? ⟨s, 0, none⟩ = some (.int .i64 a0_0) := (blk_cell HC0.out 0).trans rfl
 have hcz1 : W1.cell? ⟨s, 1, none⟩ = some (.int .i64 a0_1) := (blk_cell HC0.out 1).trans rfl
 have hcz2 : W1.cell? ⟨s, 2, none⟩ = some (.slice A0_2 l0_2.length c0_2) := (blk_cell HC0.out 2).trans rfl
 go_upto_region 3 with (go_at_call 65; (with_reducible refine (impl_IsCity.calls k a0_0 a0_1 A0_2 c0_2 l0_2 true _ (Kd.C_below HL.out HBR) hc0_2 H_IsCity.out).mono ?_); rintro e w2 ⟨rfl, hb2⟩; have HB2 := Lib.hid (below_then HBR HBR.size hb2); have hcz0 := pw_cell_below hb2 hcz0; have hcz1 := pw_cell_below hb2 hcz1; have hcz2 := pw_cell_below hb2 hcz2)
 have HBW := Lib.hid (HB.out.trans (HB2.out.mono HB.out.size))
 have HLW := Lib.hid (Kd.C_below HL.out HB2.out)
 have HX2 := Lib.hid ((HB2.out.block _ (blk_lt HC2.out)).trans HC2.out)
 have HXC := Lib.hid ((HB2.out.block _ (blk_lt HC0.out)).trans HC0.out)
 clear HL HB HBR hb2 HC0 HC2 H_IsCity HB2
 generalize w2 = W0 at hcz0 hcz1 hcz2 HBW HLW HX2 HXC ⊢
 refine start_ (n := 10) (S := fun w' => Below W0.heap.size W0 w') (ds := []) #[false, false, false, false, false, false, false, false, false, false] (by kernel_rfl) rfl rfl (below_drew1 (Below.refl W0.heap.size W0)) (fun hHeld => ?_); refine with_tabW impl_MirrorCity.tab3 impl_MirrorCity.bits3 (fun HT_ HW_ => ?_)
 generalize W0.drew = wX at hHeld ⊢
 refine pure_ (i := 0) (N := some 11) (v := ?_) (a' := ?_) #[true, false, false, false, false, false, false, false, false, false] rfl rfl (any_of HT_.out (by kernel_rfl)) (fun _ _ _ h => h) (Or.inl ⟨by rfl, ?_⟩) ?_ ?_
 rotate_left
 ·intro w'
  go_simp
  with_reducible rfl
 rotate_left
 ·simp only [Act.put, List.setIfInBounds_toArray, List.set_cons_zero, List.set_cons_succ, i64_w, i32_w]
  rfl
 refine pure_ (i := 2) (N := some 13) (v := ?_) (a' := ?_) #[true, false, true, false, false, false, false, false, false, false] rfl rfl (any_of HT_.out (by kernel_rfl)) (fun _ _ _ h => h) (Or.inl ⟨by rfl, ?_⟩) ?_ ?_
 rotate_left
 ·intro w'
  go_simp
  with_reducible rfl
 rotate_left
 ·simp only [Act.put, List.setIfInBounds_toArray, List.set_cons_zero, List.set_cons_succ, i64_w, i32_w]
  rfl
 refine pure_ (i := 4) (N := some 15) (v := ?_) (a' := ?_) #[true, false, true, false, true, false, false, false, false, false] rfl rfl (any_of HT_.out (by kernel_rfl)) (fun _ _ _ h => h) (Or.inl ⟨by rfl, ?_⟩) ?_ ?_
 rotate_left
 ·intro w'
  go_simp
  with_reducible rfl
 rotate_left
 ·simp only [Act.put, List.setIfInBounds_toArray, List.set_cons_zero, List.set_cons_succ, i64_w, i32_w]
  rfl
 refine take_ (i := 1) (N := some 12) (v := ?_) (a' := ?_) #[true, true, true, false, true, false, false, false, false, false] rfl rfl (take_ofW HT_.out HW_.out (by kernel_rfl)) (fun _ _ _ h => h) (Or.inl ⟨by rfl, ?_⟩) hHeld ?_ ?_
 rotate_left
 ·intro w' hS_
  have s0 := pw_cell_below hS_ hcz0; have s1 := pw_cell_below hS_ hcz1; have s2 := pw_cell_below hS_ hcz2
  go_simp
  with_reducible rfl
 rotate_left
 ·simp only [Act.put, List.setIfInBounds_toArray, List.set_cons_zero, List.set_cons_succ, i64_w, i32_w]
  rfl
 refine take_ (i := 3) (N := some 14) (v := ?_) (a' := ?_) #[true, true, true, true, true, false, false, false, false, false] rfl rfl (take_ofW HT_.out HW_.out (by kernel_rfl)) (fun _ _ _ h => h) (Or.inl ⟨by rfl, ?_⟩) hHeld ?_ ?_
 rotate_left
 ·intro w' hS_
  have s0 := pw_cell_below hS_ hcz0; have s1 := pw_cell_below hS_ hcz1; have s2 := pw_cell_below hS_ hcz2
  go_simp
  with_reducible rfl
 rotate_left
 ·simp only [Act.put, List.setIfInBounds_toArray, List.set_cons_zero, List.set_cons_succ, i64_w, i32_w]
  rfl
 refine take_ (i := 5) (N := some 16) (v := ?_) (a' := ?_) #[true, true, true, true, true, true, false, false, false, false] rfl rfl (take_ofW HT_.out HW_.out (by kernel_rfl)) (fun _ _ _ h => h) (Or.inl ⟨by rfl, ?_⟩) hHeld ?_ ?_
 rotate_left
 ·intro w' hS_
  have s0 := pw_cell_below hS_ hcz0; have s1 := pw_cell_below hS_ hcz1; have s2 := pw_cell_below hS_ hcz2
  go_simp
  with_reducible rfl
 rotate_left
 ·simp only [Act.put, List.setIfInBounds_toArray, List.set_cons_zero, List.set_cons_succ, i64_w, i32_w]
  rfl
 refine join_ (σ := Value × Nat) 1 #[true, true, true, true, true, true, true, true, true, false] (fun s_ => [(17, s_.1), (4, .pointer (some ⟨s_.2, 0, none⟩)), (18, .agg #[.int .i64 a0_0, .int .i64 a0_1, s_.1])]) (fun s_ w' => (Below W0.heap.size W0 w') ∧ (Kd.R k58 58 w' W0.heap.size (fun _ => True) s_.1 l) ∧ (W0.heap.size ≤ s_.2) ∧ (w'.heap[s_.2]? = some (.cells #[.int .i64 0, .int .i64 0, .slice none 0 0] 31 (0, 0)))) ?_ ?_
 rotate_left
 ·intro hJCL
  refine join_ (σ := Value) 2 #[true, true, true, true, true, true, true, true, false, false] (fun s_ => [(17, s_), (18, .agg #[.int .i64 a0_0, .int .i64 a0_1, s_])]) (fun s_ w' => (Below W0.heap.size W0 w') ∧ (Kd.R k58 58 w' W0.heap.size (fun _ => True) s_ l)) ?_ ?_
  rotate_left
  ·intro hJC
   refine join_ (σ := Nat) 3 #[true, true, true, true, true, true, false, false, true, false] (fun s_ => [(4, .pointer (some ⟨s_, 0, none⟩))]) (fun s_ w' => (Below W0.heap.size W0 w') ∧ (W0.heap.size ≤ s_) ∧ (w'.heap[s_]? = some (.cells #[.int .i64 0, .int .i64 0, .slice none 0 0] 31 (0, 0)))) ?_ ?_
   rotate_left
   ·intro hJL
    refine two_ (i := 6) (j := 8) (Ni := some 17) (Nj := some 4) #[true, true, true, true, true, true, true, false, false, false] #[true, true, true, true, true, true, false, false, true, false] rfl rfl rfl rfl (two_of HT_.out (by kernel_rfl)) (by decide) (by decide) (fun K hK => ?_) (fun K hK => ?_)
    ·skip
     refine goes_ Try.func55 (by kernel_rfl) rfl #[.slice A0_2 l0_2.length c0_2] (by rfl) rfl rfl (by (try simp only [List.map_toArray, List.map_cons, List.map_nil]); first | done | rfl | (simp only [List.length_drop, List.length_take]; rfl)) ?_
     with_reducible refine (impl_Block_55.calls _ _ l0_2 l _ (Kd.C_below HLW.out hHeld) hc0_2 HCL.out).mono ?_
     rintro e w9 ⟨vC, rfl, ho, hb⟩
     refine ⟨_, rfl, ?_⟩
     have nC := Kd.R_mono (Kd.R_lower ho hHeld.size) (fun _ _ => trivial)
     have hB2 := below_then hHeld hHeld.size hb
     obtain ⟨AA, cA, eA⟩ := Kd.R_slice nC
     subst eA
     refine hK.out _ _ hB2 (fun hHeld => ?_)
     clear hK K
     refine norm_ (a' := ?_) ?_ ?_
     rotate_left
     ·show Act.put _ (some 17) _ = _
      simp only [Act.put, List.setIfInBounds_toArray, List.set_cons_zero, List.set_cons_succ, i64_w, i32_w]
      rfl
     refine pure_ (i := 7) (N := some 18) (v := ?_) (a' := ?_) #[true, true, true, true, true, true, true, true, false, false] rfl rfl (any_of HT_.out (by kernel_rfl)) (fun _ _ _ h => h) (Or.inl ⟨by rfl, ?_⟩) ?_ ?_
     rotate_left
     ·intro w'
      go_simp
      with_reducible rfl
     rotate_left
     ·simp only [Act.put, List.setIfInBounds_toArray, List.set_cons_zero, List.set_cons_succ, i64_w, i32_w]
      rfl
     exact norm_ (by first | (simp only [putAll, Act.put, List.setIfInBounds_toArray, List.set_cons_zero, List.set_cons_succ]; done) | (simp only [putAll, Act.put, List.setIfInBounds_toArray, List.set_cons_zero, List.set_cons_succ]; rfl)) (hJC (.slice AA l.length cA : Value) _ ⟨hB2, nC⟩)
    ·skip
     refine box_step ?hg (N := 4) ?hd (cs := #[.int .i64 0, .int .i64 0, .slice none 0 0]) (t := 31) ?hr ?_; (case hd => rfl); (case hg => rfl); (case hr => first | (go_simp; done) | (go_simp; rfl))
     intro gL hgq w9 nbL hb
     have ngL : W0.heap.size ≤ gL := by rw [hgq]; exact hHeld.size
     have hB2 := below_then hHeld hHeld.size hb
     refine hK.out _ _ hB2 (fun hHeld => ?_)
     clear hK K
     refine norm_ (a' := ?_) ?_ ?_
     rotate_left
     ·show Act.put _ (some 4) _ = _
      simp only [Act.put, List.setIfInBounds_toArray, List.set_cons_zero, List.set_cons_succ, i64_w, i32_w]
      rfl
     exact norm_ (by first | (simp only [putAll, Act.put, List.setIfInBounds_toArray, List.set_cons_zero, List.set_cons_succ]; done) | (simp only [putAll, Act.put, List.setIfInBounds_toArray, List.set_cons_zero, List.set_cons_succ]; rfl)) (hJL gL _ ⟨hB2, ngL, nbL⟩)
   ·skip
    clear hHeld
    rintro gL w8 ⟨hHeld, hgL, hbL⟩
    refine norm_ (a' := ?_) ?_ ?_
    rotate_left
    ·simp only [putAll, Act.put, List.setIfInBounds_toArray, List.set_cons_zero, List.set_cons_succ]
     rfl
    refine one_ (i := 6) (N := some 17) #[true, true, true, true, true, true, true, false, true, false] rfl rfl (one_of HT_.out (by kernel_rfl)) (by decide) (fun K hK => ?_)
    ·skip
     refine goes_ Try.func55 (by kernel_rfl) rfl #[.slice A0_2 l0_2.length c0_2] (by rfl) rfl rfl (by (try simp only [List.map_toArray, List.map_cons, List.map_nil]); first | done | rfl | (simp only [List.length_drop, List.length_take]; rfl)) ?_
     with_reducible refine (impl_Block_55.calls _ _ l0_2 l _ (Kd.C_below HLW.out hHeld) hc0_2 HCL.out).mono ?_
     rintro e w9 ⟨vC, rfl, ho, hb⟩
     refine ⟨_, rfl, ?_⟩
     have nC := Kd.R_mono (Kd.R_lower ho hHeld.size) (fun _ _ => trivial)
     have hB2 := below_then hHeld hHeld.size hb
     have nbL := (hb.block _ (blk_lt hbL)).trans hbL
     have ngL := hgL
     obtain ⟨AA, cA, eA⟩ := Kd.R_slice nC
     subst eA
     refine hK.out _ _ hB2 (fun hHeld => ?_)
     clear hK K
     refine norm_ (a' := ?_) ?_ ?_
     rotate_left
     ·show Act.put _ (some 17) _ = _
      simp only [Act.put, List.setIfInBounds_toArray, List.set_cons_zero, List.set_cons_succ, i64_w, i32_w]
      rfl
     refine pure_ (i := 7) (N := some 18) (v := ?_) (a' := ?_) #[true, true, true, true, true, true, true, true, true, false] rfl rfl (any_of HT_.out (by kernel_rfl)) (fun _ _ _ h => h) (Or.inl ⟨by rfl, ?_⟩) ?_ ?_
     rotate_left
     ·intro w'
      go_simp
      with_reducible rfl
     rotate_left
     ·simp only [Act.put, List.setIfInBounds_toArray, List.set_cons_zero, List.set_cons_succ, i64_w, i32_w]
      rfl
     exact norm_ (by first | (simp only [putAll, Act.put, List.setIfInBounds_toArray, List.set_cons_zero, List.set_cons_succ]; done) | (simp only [putAll, Act.put, List.setIfInBounds_toArray, List.set_cons_zero, List.set_cons_succ]; rfl)) (hJCL ⟨(.slice AA l.length cA : Value), gL⟩ _ ⟨hB2, nC, ngL, nbL⟩)
  ·skip
   clear hHeld
   rintro vC w8 ⟨hHeld, hC⟩
   refine norm_ (a' := ?_) ?_ ?_
   rotate_left
   ·simp only [putAll, Act.put, List.setIfInBounds_toArray, List.set_cons_zero, List.set_cons_succ]
    rfl
   refine one_ (i := 8) (N := some 4) #[true, true, true, true, true, true, true, true, true, false] rfl rfl (one_of HT_.out (by kernel_rfl)) (by decide) (fun K hK => ?_)
   ·skip
    refine box_step ?hg (N := 4) ?hd (cs := #[.int .i64 0, .int .i64 0, .slice none 0 0]) (t := 31) ?hr ?_; (case hd => rfl); (case hg => rfl); (case hr => first | (go_simp; done) | (go_simp; rfl))
    intro gL hgq w9 nbL hb
    have ngL : W0.heap.size ≤ gL := by rw [hgq]; exact hHeld.size
    have hB2 := below_then hHeld hHeld.size hb
    have nC := Kd.R_below hC hb
    refine hK.out _ _ hB2 (fun hHeld => ?_)
    clear hK K
    refine norm_ (a' := ?_) ?_ ?_
    rotate_left
    ·show Act.put _ (some 4) _ = _
     simp only [Act.put, List.setIfInBounds_toArray, List.set_cons_zero, List.set_cons_succ, i64_w, i32_w]
     rfl
    exact norm_ (by first | (simp only [putAll, Act.put, List.setIfInBounds_toArray, List.set_cons_zero, List.set_cons_succ]; done) | (simp only [putAll, Act.put, List.setIfInBounds_toArray, List.set_cons_zero, List.set_cons_succ]; rfl)) (hJCL ⟨vC, gL⟩ _ ⟨hB2, nC, ngL, nbL⟩)
 ·skip
  clear hHeld
  rintro ⟨vC, gL⟩ w8 ⟨hHeld, hC, hgL, hbL⟩
  obtain ⟨AZ, cZ, eZ⟩ := Kd.R_slice hC
  subst eZ
  refine norm_ (a' := ?_) ?_ ?_
  rotate_left
  ·simp only [putAll, Act.put, List.setIfInBounds_toArray, List.set_cons_zero, List.set_cons_succ]
   rfl
  refine one_ (i := 9) (N := none) #[true, true, true, true, true, true, true, true, true, true] rfl rfl (one_of HT_.out (by kernel_rfl)) (by decide) (fun K hK => ?_)
  have hz0 : w8.cell? ⟨gL, 0, none⟩ = some (.int .i64 0) := (blk_cell hbL 0).trans rfl
  have hf0 := blk_frozen hbL 0
  have hz1 : w8.cell? ⟨gL, 1, none⟩ = some (.int .i64 0) := (blk_cell hbL 1).trans rfl
  have hf1 := blk_frozen hbL 1
  have hz2 : w8.cell? ⟨gL, 2, none⟩ = some (.slice none 0 0) := (blk_cell hbL 2).trans rfl
  have hf2 := blk_frozen hbL 2
  refine skip_ (w1 := ?_) (by rfl) rfl ?_ ?_
  rotate_left
  ·go_simp
   rfl
  have hB2 := below_set (j := 2) (below_set (j := 1) (below_set (j := 0) hHeld hgL (v := .int .i64 a0_0)) hgL (v := .int .i64 a0_1)) hgL (v := .slice AZ l.length cZ)
  refine hK.out _ _ hB2 (fun hHeld2 => ?_)
  clear hK K
  refine done_ (done_of HT_.out (by kernel_rfl)) ?_
  have HH := Lib.hid (show (((w8.setCell ⟨gL, 0, none⟩ (.int .i64 a0_0)).setCell ⟨gL, 1, none⟩ (.int .i64 a0_1)).setCell ⟨gL, 2, none⟩ (.slice AZ l.length cZ)).heap[gL]? = some (.cells #[.int .i64 a0_0, .int .i64 a0_1, .slice AZ l.length cZ] 31 (0, 0)) by
   refine blk_put (cs := #[.int .i64 a0_0, .int .i64 a0_1, .slice none 0 0]) ?_ 2 _ rfl
   refine blk_put (cs := #[.int .i64 a0_0, .int .i64 0, .slice none 0 0]) ?_ 1 _ rfl
   refine blk_put (cs := #[.int .i64 0, .int .i64 0, .slice none 0 0]) ?_ 0 _ rfl
   exact hbL)
  have HR5 := Lib.hid (Kd.R_mono (Kd.R_far (p := ⟨gL, 2, none⟩) (Kd.R_far (p := ⟨gL, 1, none⟩) (Kd.R_far (p := ⟨gL, 0, none⟩) (Kd.R_far1 hC rfl (Kd.R_ne hC hbL (by decide))) (fun _ hk => hk.2) (.int .i64 a0_0)) (fun _ hk => hk.2) (.int .i64 a0_1)) (fun _ hk => hk.2) (.slice AZ l.length cZ)) (fun _ _ => trivial))
  have HB5 := Lib.hid hHeld2
  generalize ((w8.setCell ⟨gL, 0, none⟩ (.int .i64 a0_0)).setCell ⟨gL, 1, none⟩ (.int .i64 a0_1)).setCell ⟨gL, 2, none⟩ (.slice AZ l.length cZ) = W5 at HH HR5 HB5 ⊢
  clear hz0 hz1 hz2 hf0 hf1 hf2 hB2 hHeld2 hHeld hC hbL HT_ HW_
  have hd0 : W5.cell? ⟨gL, 0, none⟩ = some (.int .i64 a0_0) := (blk_cell HH.out 0).trans rfl
  have hd1 : W5.cell? ⟨gL, 1, none⟩ = some (.int .i64 a0_1) := (blk_cell HH.out 1).trans rfl
  have hd2 : W5.cell? ⟨gL, 2, none⟩ = some (.slice AZ l.length cZ) := (blk_cell HH.out 2).trans rfl
  go_upto_block 1 with (fail)
  clear hd0 hd1 hd2
  go_loopg [22] l.length (fun kq v22 wr => ∃ (i : Nat), v22 = .int .i64 i ∧ kq = l.length - i ∧ i ≤ l.length ∧ Hid (Kd.R k58 58 wr W0.heap.size (fun _ => True) (.slice AZ l.length cZ) ((l.take i).map (impl_MirrorCity.mir a0_0) ++ l.drop i)) ∧ Hid (wr.heap[gL]? = some (.cells #[.int .i64 a0_0, .int .i64 a0_1, .slice AZ l.length cZ] 31 (0, 0))) ∧ Hid (Below W0.heap.size W0 wr))
  case atStart => exact ⟨0, rfl, by omega, by omega, Lib.hid (by simpa using HR5.out), HH, HB5⟩
  case round =>
   clear HH HR5 HB5 hcz0 hcz1 hcz2
   obtain ⟨i, rfl, hk, hin, HR6, HH6, HB6⟩ := hrel
   by_cases hi : i < l.length
   ·have c1 : decide ((i : Int) < (l.length : Int)) = true := decide_eq_true (by omega)
    obtain ⟨g, cap, ev, _, _, _⟩ := Kd.R_form HR6.out (by simp; omega)
    obtain ⟨b, hb⟩ : ∃ b, l[i] = b := ⟨_, rfl⟩
    have hlen : ((l.take i).map (impl_MirrorCity.mir a0_0)).length = i := by simp; omega
    have ecat : (l.take i).map (impl_MirrorCity.mir a0_0) ++ l.drop i = (l.take i).map (impl_MirrorCity.mir a0_0) ++ b :: l.drop (i + 1) := by rw [List.drop_eq_getElem_cons hi, hb]
    have enext : (l.take i).map (impl_MirrorCity.mir a0_0) ++ impl_MirrorCity.mir a0_0 b :: l.drop (i + 1) = (l.take (i + 1)).map (impl_MirrorCity.mir a0_0) ++ l.drop (i + 1) := by rw [List.take_succ_eq_append_getElem hi, hb, List.map_append, List.append_assoc]; rfl
    rw [ecat] at HR6
    obtain ⟨LN, hLN⟩ : ∃ LN, LN = (l.take (i + 1)).map (impl_MirrorCity.mir a0_0) ++ l.drop (i + 1) := ⟨_, rfl⟩
    rw [← hLN] at enext
    have HLNE := Lib.hid hLN
    have HNEXT := Lib.hid enext
    generalize (l.take i).map (impl_MirrorCity.mir a0_0) = LA at HR6 HNEXT hlen
    generalize l.drop (i + 1) = LB at HR6 HNEXT
    have HLA := Lib.hid hlen
    clear ecat enext hlen hb hLN
    injection ev with ea_ en_ ec_
    clear en_
    subst ea_
    subst ec_
    have HRG := Lib.hid HR6.out
    obtain ⟨e0, e1, e2, _, _⟩ := impl_MirrorCity.elem HR6.out i hi
    rw [impl_MirrorCity.getD_at LA LB b i HLA.out] at e0 e1 e2
    have p1 : (0 : Int) ≤ (i : Int) := by omega
    have p2 : (i : Int) < (l.length : Int) := by omega
    have hi6 : i < 1000000 := by have := HLN.out; omega
    have hd2 : wr.cell? ⟨gL, 2, none⟩ = some (.slice (some ⟨g, 0, none⟩) l.length cZ) := (blk_cell HH6.out 2).trans rfl
    go_upto_region 7 with (fail)
    have HG7 := Lib.hid (blk_new wr (.cells #[.int .i64 b.f0, .int .i64 b.f1, .bool b.f2] 58))
    have hb7 : Below wr.heap.size wr (wr.alloc (.cells #[.int .i64 b.f0, .int .i64 b.f1, .bool b.f2] 58)) := below_alloc (Below.refl _ _) _
    have hglt : g < wr.heap.size := by
     have h9 := (Kd.R_bound HR6.out).1 g rfl
     exact h9.2.2.1
    generalize wr.alloc (.cells #[.int .i64 b.f0, .int .i64 b.f1, .bool b.f2] 58) = W7 at HG7 hb7 ⊢
    have HR7 := Lib.hid (Kd.R_below HR6.out hb7)
    have HH7 := Lib.hid ((hb7.block _ (blk_lt HH6.out)).trans HH6.out)
    have HB7 := Lib.hid (below_then HB6.out HB6.out.size hb7)
    generalize wr.heap.size = G at HG7 hglt ⊢
    clear HR6 HH6 HB6 hb7 e0 e1 e2 hd2 HRG
    obtain ⟨e0, e1, e2, e3, hst⟩ := impl_MirrorCity.elem HR7.out i hi
    rw [impl_MirrorCity.getD_at LA LB b i HLA.out] at e0 e1 e2 hst
    have HST := Lib.hid hst
    clear hst
    have hd2 : W7.cell? ⟨gL, 2, none⟩ = some (.slice (some ⟨g, 0, none⟩) l.length cZ) := (blk_cell HH7.out 2).trans rfl
    have HX7 := Lib.hid ((HB7.out.block _ (blk_lt HXC.out)).trans HXC.out)
    have hx0 : W7.cell? ⟨s, 0, none⟩ = some (.int .i64 a0_0) := (blk_cell HX7.out 0).trans rfl
    have hg0 : W7.cell? ⟨G, 0, none⟩ = some (.int .i64 b.f0) := (blk_cell HG7.out 0).trans rfl
    obtain ⟨q1, hq1⟩ : ∃ q, IntKind.i64.wrap (a0_0 - 1) = q := ⟨_, rfl⟩
    obtain ⟨q2, hq2⟩ : ∃ q, IntKind.i64.wrap (q1 - b.f0) = q := ⟨_, rfl⟩
    go_upto_region 8 with (fail)
    obtain ⟨hR8, hg8⟩ := HST.out q2
    generalize W7.setCell ⟨g, i * 3, none⟩ (.int .i64 q2) = W8 at hR8 hg8 ⊢
    rw [impl_MirrorCity.set_at LA LB b _ i HLA.out] at hR8
    have HR8 := Lib.hid hR8
    have HH8 := Lib.hid (blk_grown HH7.out hg8 (Kd.R_ne HR7.out HH7.out (by decide)))
    have HB8 := Lib.hid (pw_below_grown HB7.out _ HB7.out.size hg8 (Kd.R_base HR7.out))
    have HG8 := Lib.hid (blk_grown HG7.out hg8 (by intro e; cases e; omega))
    clear hR8 hg8 HR7 HH7 HB7 HG7 HX7 HST e0 e1 e2 e3 hd2 hx0 hg0
    have hg2 : W8.cell? ⟨G, 2, none⟩ = some (.bool b.f2) := (blk_cell HG8.out 2).trans rfl
    obtain ⟨u, hu2⟩ : ∃ u, b.f2 = u := ⟨_, rfl⟩
    rw [hu2] at hg2
    cases u with
    | true =>
     go_upto_region 10 with (fail)
     go_wp2
     go_roundg (l.length - (i + 1))
     case measure => omega
     case rel =>
      refine ⟨i + 1, by go_num, rfl, by omega, Lib.hid ?_, HH8, HB8⟩
      have h9 := HR8.out
      rw [← HLNE.out, ← HNEXT.out]
      unfold impl_MirrorCity.mir
      rw [if_pos hu2, hq1, hq2]
      exact h9
    | false =>
     obtain ⟨e0, e1, e2, e3, hst⟩ := impl_MirrorCity.elem HR8.out i hi
     rw [impl_MirrorCity.getD_at LA LB _ i HLA.out] at e0 e1 e2 hst
     have HST := Lib.hid hst
     clear hst
     have hd2 : W8.cell? ⟨gL, 2, none⟩ = some (.slice (some ⟨g, 0, none⟩) l.length cZ) := (blk_cell HH8.out 2).trans rfl
     obtain ⟨q3, hq3⟩ : ∃ q, IntKind.i64.wrap (q2 - 1) = q := ⟨_, rfl⟩
     go_upto_region 10 with (fail)
     obtain ⟨hR9, hg9⟩ := HST.out q3
     generalize W8.setCell ⟨g, i * 3, none⟩ (.int .i64 q3) = W9 at hR9 hg9 ⊢
     rw [impl_MirrorCity.set_at LA LB _ _ i HLA.out] at hR9
     have HR9 := Lib.hid hR9
     have HH9 := Lib.hid (blk_grown HH8.out hg9 (Kd.R_ne HR8.out HH8.out (by decide)))
     have HB9 := Lib.hid (pw_below_grown HB8.out _ HB8.out.size hg9 (Kd.R_base HR8.out))
     clear hR9 hg9 HR8 HH8 HB8 HG8 HST e0 e1 e2 e3 hd2 hg2
     go_wp2
     go_roundg (l.length - (i + 1))
     case measure => omega
     case rel =>
      refine ⟨i + 1, by go_num, rfl, by omega, Lib.hid ?_, HH9, HB9⟩
      have h9 := HR9.out
      rw [← HLNE.out, ← HNEXT.out]
      unfold impl_MirrorCity.mir
      rw [if_neg (by rw [hu2]; decide), hq1, hq2, hq3]
      exact h9
   ·have c1 : decide ((i : Int) < (l.length : Int)) = false := decide_eq_false (by omega)
    have hR7 := HR6.out
    rw [List.drop_eq_nil_of_le (by omega), List.take_of_length_le (by omega), List.append_nil] at hR7
    have hml : (l.map (impl_MirrorCity.mir a0_0)).length = l.length := List.length_map ..
    have HR7 := Lib.hid (show Kd.R k58 58 wr W0.heap.size (fun _ => True) (.slice AZ l.length cZ) (l.map (impl_MirrorCity.mir a0_0)) from hR7)
    clear hR7 HR6
    have hd0 : wr.cell? ⟨gL, 0, none⟩ = some (.int .i64 a0_0) := (blk_cell HH6.out 0).trans rfl
    have hd1 : wr.cell? ⟨gL, 1, none⟩ = some (.int .i64 a0_1) := (blk_cell HH6.out 1).trans rfl
    have hd2 : wr.cell? ⟨gL, 2, none⟩ = some (.slice AZ l.length cZ) := (blk_cell HH6.out 2).trans rfl
    go_upto_region 12 with (go_at_call 66; (with_reducible refine (impl_Block_66.sort HR7.out (by have := HLN.out; rw [hml]; omega)).mono ?_); rintro e w6 ⟨rfl, hR6, hg6⟩)
    have HB8 := Lib.hid (pw_below_grown HB6.out _ HB6.out.size hg6 (Kd.R_base HR7.out))
    have HH8 := Lib.hid (blk_grown HH6.out hg6 (Kd.R_ne HR7.out HH6.out (by decide)))
    have HX6 := Lib.hid ((HB8.out.block _ (blk_lt HX2.out)).trans HX2.out)
    rw [← HSS.out] at hR6
    have hgs : w.heap.size ≤ s + 1 := by have := HSW.out; omega
    have HBF := Lib.hid (HBW.out.trans (HB8.out.mono HBW.out.size))
    clear hd0 hd1 hd2 hg6
    have hd0 : w6.cell? ⟨gL, 0, none⟩ = some (.int .i64 a0_0) := (blk_cell HH8.out 0).trans rfl
    have hd1 : w6.cell? ⟨gL, 1, none⟩ = some (.int .i64 a0_1) := (blk_cell HH8.out 1).trans rfl
    have hd2 : w6.cell? ⟨gL, 2, none⟩ = some (.slice AZ l.length cZ) := (blk_cell HH8.out 2).trans rfl
    have hq0 : w6.cell? ⟨s + 1, 0, none⟩ = some (.int .i64 0) := (blk_cell HX6.out 0).trans rfl
    have hq1 : w6.cell? ⟨s + 1, 1, none⟩ = some (.int .i64 0) := (blk_cell HX6.out 1).trans rfl
    have hq2 : w6.cell? ⟨s + 1, 2, none⟩ = some (.slice none 0 0) := (blk_cell HX6.out 2).trans rfl
    have hz0 := blk_frozen HX6.out 0
    have hz1 := blk_frozen HX6.out 1
    have hz2 := blk_frozen HX6.out 2
    go_wp2
    have HH7 := Lib.hid (show (((w6.setCell ⟨s + 1, 0, none⟩ (.int .i64 a0_0)).setCell ⟨s + 1, 1, none⟩ (.int .i64 a0_1)).setCell ⟨s + 1, 2, none⟩ (.slice AZ l.length cZ)).heap[s + 1]? = some (.cells #[.int .i64 a0_0, .int .i64 a0_1, .slice AZ l.length cZ] 31 (0, 0)) by
     refine blk_put (cs := #[.int .i64 a0_0, .int .i64 a0_1, .slice none 0 0]) ?_ 2 _ rfl
     refine blk_put (cs := #[.int .i64 a0_0, .int .i64 0, .slice none 0 0]) ?_ 1 _ rfl
     refine blk_put (cs := #[.int .i64 0, .int .i64 0, .slice none 0 0]) ?_ 0 _ rfl
     exact HX6.out)
    refine bodyPost_ret (results_ct rfl _ _ (s + 1) 31 #[.int .i64 a0_0, .int .i64 a0_1, .slice AZ l.length cZ] (0, 0) _ rfl HH7.out Try.underlying31 rfl (by kernel_rfl)) rfl ?_
    exact ⟨_, rfl, Kd.R_lower (Kd.R_mono (Kd.R_far (p := ⟨s + 1, 2, none⟩) (Kd.R_far (p := ⟨s + 1, 1, none⟩) (Kd.R_far (p := ⟨s + 1, 0, none⟩) (Kd.R_far1 hR6 rfl (Kd.R_ne hR6 HX6.out (by decide))) (fun _ hk => hk.2) (.int .i64 a0_0)) (fun _ hk => hk.2) (.int .i64 a0_1)) (fun _ hk => hk.2) (.slice AZ l.length cZ)) (fun _ _ => trivial)) HBW.out.size, below_set (below_set (below_set HBF.out hgs) hgs) hgs⟩
theorem impl_MirrorCity.calls (k : Nat) (a0_0 : Int) (a0_1 : Int) (A0_2 : Option Addr) (c0_2 : Nat) (l0_2 : List S58) (r1 : Int) (r2 : Int) (r3 : List S58) (r4 : Bool) (w : World) (hr0_2 : Kd.C k58 w A0_2 l0_2.length l0_2) (hc0_2 : l0_2.length ≤ c0_2) (h : impl_MirrorCity.f k a0_0 a0_1 l0_2 = some (r1, r2, r3, r4)) :
  Calls Try.prog 33 #[.agg #[.int .i64 a0_0, .int .i64 a0_1, .slice A0_2 l0_2.length c0_2]] w fun e w' => ∃ v2_ : Value, e = .returned (.tuple #[.agg #[.int .i64 r1, .int .i64 r2, v2_], .bool r4]) ∧ Kd.R k58 58 w' w.heap.size (fun _ => True) v2_ r3 ∧ Below w.heap.size w w' := by
 unfold impl_MirrorCity.f at h
 obtain ⟨t, ht, h⟩ := Option.bind_eq_some_iff.mp h
 cases t with
 | false =>
  rw [if_neg (by decide)] at h
  simp only [Option.some.injEq, Prod.mk.injEq] at h
  obtain ⟨rfl, rfl, rfl, rfl⟩ := h
  exact impl_MirrorCity.no k a0_0 a0_1 A0_2 c0_2 l0_2 w hr0_2 hc0_2 ht
 | true =>
  rw [if_pos rfl] at h
  obtain ⟨l, hl, h⟩ := Option.bind_eq_some_iff.mp h
  by_cases hln : l.length < 500000
  ·rw [if_pos hln] at h
   obtain ⟨s', hs', h⟩ := Option.bind_eq_some_iff.mp h
   simp only [Option.some.injEq, Prod.mk.injEq] at h
   obtain ⟨rfl, rfl, rfl, rfl⟩ := h
   unfold impl_Block_66.f at hs'
   rw [if_pos (by simp only [List.length_map]; omega)] at hs'
   exact impl_MirrorCity.yes k a0_0 a0_1 A0_2 c0_2 l0_2 l s' w hr0_2 hc0_2 ht hl hln (Option.some.inj hs').symm
  ·rw [if_neg hln] at h; cases h
end Go.Proofs.Ytpedofomfhmnfaa.PFnExactMirrorCity
