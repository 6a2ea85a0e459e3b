/- Cut by wip/cut.py out of the texts of this claim (printed by the kit's printer, or this session's own): what the row's theorem does not reach is struck. Not trusted: Lean checks it. -/
import Derived.Test.YtpedofomfhmnfaaZFnExactCloseBlockPx0
import Derived.Test.YtpedofomfhmnfaaZFnExactCloseBlockPx6
namespace Go.Proofs.Ytpedofomfhmnfaa.PFnExactCloseBlock
open Go.RowKit Go.Proofs.YtpedofomfhmnfaaW.PrintWords Go.Proofs.YtpedofomfhmnfaaW.PrintLast Go.Proofs.YtpedofomfhmnfaaW.PrintMore
attribute [local go_sem] max2_int min2_int max_two min_two max_three min_three max_four min_four
set_option linter.unusedVariables false
set_option linter.unusedSimpArgs false
def impl_Block_66.lay_ren : Go.Shelf.Ren := ⟨fun n => match n with | 6 => 66 | 15 => 79 | 14 => 78 | 28 => 93 | 29 => 94 | 20 => 85 | 21 => 86 | 22 => 87 | 23 => 88 | 24 => 89 | 25 => 90 | 26 => 91 | 27 => 92 | 46 => 98 | 47 => 99 | 48 => 100 | 49 => 101 | 50 => 102 | 57 => 103 | n => n, fun n => match n with | 22 => 29 | 24 => 58 | 25 => 89 | 3 => 3 | 39 => 99 | 0 => 0 | 53 => 114 | 55 => 116 | 4 => 4 | 46 => 108 | 45 => 107 | 50 => 37 | 5 => 5 | 9 => 9 | 66 => 122 | 70 => 126 | 76 => 128 | 77 => 129 | n => n, fun n => n⟩
theorem impl_Block_66.lay : Go.Proofs.SlLaysF0.n6 Try.prog impl_Block_66.lay_ren := {
 mixed := by kernel_rfl
 f6 := ⟨Try.f66.name, by kernel_rfl, Try.func66.trans (congrArg some (by kernel_rfl))⟩
 f14 := ⟨Try.f78.name, by kernel_rfl, Try.func78.trans (congrArg some (by kernel_rfl))⟩
 f15 := Try.func79.trans (congrArg some (by kernel_rfl))
 f20 := ⟨Try.f85.name, by kernel_rfl, Try.func85.trans (congrArg some (by kernel_rfl))⟩
 f21 := ⟨Try.f86.name, by kernel_rfl, Try.func86.trans (congrArg some (by kernel_rfl))⟩
 f22 := ⟨Try.f87.name, by kernel_rfl, Try.func87.trans (congrArg some (by kernel_rfl))⟩
 f23 := ⟨Try.f88.name, by kernel_rfl, Try.func88.trans (congrArg some (by kernel_rfl))⟩
 f24 := ⟨Try.f89.name, by kernel_rfl, Try.func89.trans (congrArg some (by kernel_rfl))⟩
 f25 := ⟨Try.f90.name, by kernel_rfl, Try.func90.trans (congrArg some (by kernel_rfl))⟩
 f26 := ⟨Try.f91.name, by kernel_rfl, Try.func91.trans (congrArg some (by kernel_rfl))⟩
 f27 := ⟨Try.f92.name, by kernel_rfl, Try.func92.trans (congrArg some (by kernel_rfl))⟩
 f28 := Try.func93.trans (congrArg some (by kernel_rfl))
 f29 := Try.func94.trans (congrArg some (by kernel_rfl))
 f46 := ⟨Try.f98.name, by kernel_rfl, Try.func98.trans (congrArg some (by kernel_rfl))⟩
 f47 := Try.func99.trans (congrArg some (by kernel_rfl))
 f48 := Try.func100.trans (congrArg some (by kernel_rfl))
 f49 := ⟨Try.f101.name, by kernel_rfl, Try.func101.trans (congrArg some (by kernel_rfl))⟩
 f50 := ⟨Try.f102.name, by kernel_rfl, Try.func102.trans (congrArg some (by kernel_rfl))⟩
 f57 := ⟨Try.f103.name, by kernel_rfl, Try.func103.trans (congrArg some (by kernel_rfl))⟩
 t0 := Try.underlying0
 a0 := Try.isAgg0
 z0 := Try.sizeOf0
 v0 := Try.zeroValue0
 t3 := Try.underlying3
 a3 := Try.isAgg3
 z3 := Try.sizeOf3
 v3 := Try.zeroValue3
 t4 := Try.underlying4
 a4 := Try.isAgg4
 z4 := Try.sizeOf4
 v4 := Try.zeroValue4
 t5 := Try.underlying5
 a5 := Try.isAgg5
 z5 := Try.sizeOf5
 v5 := Try.zeroValue5
 t9 := Try.underlying9
 a9 := Try.isAgg9
 z9 := Try.sizeOf9
 v9 := Try.zeroValue9
 t22 := Try.underlying29
 a22 := Try.isAgg29
 z22 := Try.sizeOf29
 v22 := Try.zeroValue29
 t25 := Try.underlying89
 a25 := Try.isAgg89
 z25 := Try.sizeOf89
 v25 := Try.zeroValue89
 t39 := Try.underlying99
 a39 := Try.isAgg99
 z39 := Try.sizeOf99
 v39 := Try.zeroValue99
 t45 := Try.underlying107
 a45 := Try.isAgg107
 z45 := Try.sizeOf107
 v45 := Try.zeroValue107
 t46 := Try.underlying108
 a46 := Try.isAgg108
 z46 := Try.sizeOf108
 v46 := Try.zeroValue108
 t50 := Try.underlying37
 a50 := Try.isAgg37
 z50 := Try.sizeOf37
 v50 := Try.zeroValue37
 t53 := Try.underlying114
 a53 := Try.isAgg114
 z53 := Try.sizeOf114
 v53 := Try.zeroValue114
 t55 := Try.underlying116
 a55 := Try.isAgg116
 z55 := Try.sizeOf116
 v55 := Try.zeroValue116
 t66 := Try.underlying122
 a66 := Try.isAgg122
 z66 := Try.sizeOf122
 v66 := Try.zeroValue122
 t70 := Try.underlying126
 a70 := Try.isAgg126
 z70 := Try.sizeOf126
 v70 := Try.zeroValue126
 t76 := Try.underlying128
 a76 := Try.isAgg128
 z76 := Try.sizeOf128
 v76 := Try.zeroValue128
 t77 := Try.underlying129
 a77 := Try.isAgg129
 z77 := Try.sizeOf129
 v77 := Try.zeroValue129 }
instance impl_Block_66.inh : Inhabited S58 := ⟨z58⟩
def impl_Block_66.cmpI (a b : Int) : Int := if a < b then -1 else if a > b then 1 else 0
def impl_Block_66.or3 (a b c : Int) : Int := if a = 0 then (if b = 0 then c else b) else a
def impl_Block_66.up (b c : S58) : Int := if (b.f2 != c.f2) = true then (if c.f2 = true then -1 else 1) else 0
def impl_Block_66.cf (b c : S58) : Int := impl_Block_66.or3 (impl_Block_66.cmpI b.f0 c.f0) (impl_Block_66.cmpI b.f1 c.f1) (impl_Block_66.up b c)
def impl_Block_66.enc (x : S58) : List Value := [.int .i64 x.f0, .int .i64 x.f1, .bool x.f2]
def impl_Block_66.lt (x y : S58) : Bool := decide (x.f0 < y.f0 ∨ x.f0 = y.f0 ∧ (x.f1 < y.f1 ∨ x.f1 = y.f1 ∧ x.f2 = false ∧ y.f2 = true))
theorem impl_Block_66.lt_eq (x y : S58) : Go.Proofs.ltOf impl_Block_66.cf x y = impl_Block_66.lt x y := by
 unfold Go.Proofs.ltOf impl_Block_66.lt impl_Block_66.cf impl_Block_66.or3 impl_Block_66.cmpI impl_Block_66.up
 apply decide_eq_decide.mpr
 obtain ⟨a, b, u⟩ := x
 obtain ⟨c, d, v⟩ := y
 simp only
 by_cases h1 : a < c
 ·simp [h1]
 ·by_cases h2 : a > c
  ·simp [h1, h2, show ¬ a = c by omega]
  ·obtain rfl : a = c := by omega
   by_cases h3 : b < d
   ·simp [h3]
   ·by_cases h4 : b > d
    ·simp [h3, h4, show ¬ b = d by omega]
    ·obtain rfl : b = d := by omega
     cases u <;> cases v <;> simp
theorem impl_Block_66.swo : Go.Sort.SWO (Go.Proofs.ltOf impl_Block_66.cf) where
 irrefl x := by rw [impl_Block_66.lt_eq]; unfold impl_Block_66.lt; simp
 trans x y z h1 h2 := by
  rw [impl_Block_66.lt_eq] at *
  unfold impl_Block_66.lt at *
  simp only [decide_eq_true_eq] at *
  obtain ⟨a, b, u⟩ := x
  obtain ⟨c, d, v⟩ := y
  obtain ⟨e, f, t⟩ := z
  simp only at *
  cases u <;> cases v <;> cases t <;> simp at * <;> omega
 ntrans x y z h1 h2 := by
  rw [impl_Block_66.lt_eq] at *
  unfold impl_Block_66.lt at *
  simp only [decide_eq_false_iff_not] at *
  obtain ⟨a, b, u⟩ := x
  obtain ⟨c, d, v⟩ := y
  obtain ⟨e, f, t⟩ := z
  simp only at *
  cases u <;> cases v <;> cases t <;> simp at * <;> omega
theorem impl_Block_66.tot (x y : S58) (h1 : Go.Proofs.ltOf impl_Block_66.cf x y = false) (h2 : Go.Proofs.ltOf impl_Block_66.cf y x = false) : x = y := by
 rw [impl_Block_66.lt_eq] at *
 unfold impl_Block_66.lt at *
 simp only [decide_eq_false_iff_not] at *
 obtain ⟨a, b, u⟩ := x
 obtain ⟨c, d, v⟩ := y
 simp only at *
 obtain rfl : a = c := by omega
 obtain rfl : b = d := by omega
 cases u <;> cases v <;> simp at *
theorem impl_Block_66.or_f (a b c : Int) : cmp_Or_int.f 5 [a, b, c] = some (impl_Block_66.or3 a b c) := by
 have e1 : wrap64 1 = 1 := by unfold wrap64; omega
 have e2 : wrap64 2 = 2 := by unfold wrap64; omega
 have e3 : wrap64 3 = 3 := by unfold wrap64; omega
 have r0 : ∀ a b c : Int, rd [a, b, c] 0 = a := fun _ _ _ => rfl
 have r1 : ∀ a b c : Int, rd [a, b, c] 1 = b := fun _ _ _ => rfl
 have r2 : ∀ a b c : Int, rd [a, b, c] 2 = c := fun _ _ _ => rfl
 unfold cmp_Or_int.f impl_Block_66.or3
 by_cases ha : a = 0
 ·by_cases hb : b = 0
  ·by_cases hc : c = 0
   ·simp [cmp_Or_int.l0, r0, r1, r2, e1, e2, e3, ha, hb, hc]
   ·simp [cmp_Or_int.l0, r0, r1, r2, e1, e2, ha, hb, hc]
  ·simp [cmp_Or_int.l0, r0, r1, e1, ha, hb]
 ·simp [cmp_Or_int.l0, r0, ha]
set_option maxHeartbeats 2000000 in
theorem impl_Block_66.cmpc (a b : Int) (W : World) : Calls Try.prog 81 #[.int .i64 a, .int .i64 b] W fun e w' => e = .returned (.int .i64 (impl_Block_66.cmpI a b)) ∧ w' = W := by
 unfold impl_Block_66.cmpI
 by_cases h1 : a < b
 ·rw [if_pos h1]
  go_enter Try.func81, Try.ntmps81
  go_wp2
  go_ret
  exact ⟨rfl, rfl⟩
 ·rw [if_neg h1]
  by_cases h2 : a > b
  ·rw [if_pos h2]
   go_enter Try.func81, Try.ntmps81
   go_wp2
   go_ret
   exact ⟨rfl, rfl⟩
  ·rw [if_neg h2]
   have h3 : ¬ b < a := by omega
   go_enter Try.func81, Try.ntmps81
   go_wp2
   go_ret
   exact ⟨rfl, rfl⟩
theorem impl_Block_66.three_C (w : World) (x y z : Int) : Kd.C (Kd.int .i64) (w.alloc (.cells #[.int .i64 x, .int .i64 y, .int .i64 z] 3)) (some ⟨w.heap.size, 0, none⟩) 3 [x, y, z] := by
 refine ⟨rfl, by decide, fun _ => ⟨_, rfl, fun j p hj => ?_⟩⟩
 match j, hj with
 | 0, hj =>
  obtain rfl : x = p := Option.some.inj hj
  refine ⟨[.int .i64 x], rfl, rfl, fun i u hu => ?_⟩
  match i, hu with
  | 0, hu => exact (qf (blk_new w (.cells #[.int .i64 x, .int .i64 y, .int .i64 z] 3)) 0).trans hu
 | 1, hj =>
  obtain rfl : y = p := Option.some.inj hj
  refine ⟨[.int .i64 y], rfl, rfl, fun i u hu => ?_⟩
  match i, hu with
  | 0, hu => exact (qf (blk_new w (.cells #[.int .i64 x, .int .i64 y, .int .i64 z] 3)) 1).trans hu
 | 2, hj =>
  obtain rfl : z = p := Option.some.inj hj
  refine ⟨[.int .i64 z], rfl, rfl, fun i u hu => ?_⟩
  match i, hu with
  | 0, hu => exact (qf (blk_new w (.cells #[.int .i64 x, .int .i64 y, .int .i64 z] 3)) 2).trans hu
theorem impl_Block_66.flat_chunk (ys : List S58) (j : Nat) (hj : j < ys.length) : (((Go.Sort.flatK impl_Block_66.enc 3 ys.toArray).toList).drop (j * 3)).take 3 = impl_Block_66.enc ys[j] := by
 have key : ∀ r, r < 3 → (Go.Sort.flatK impl_Block_66.enc 3 ys.toArray).toList[j * 3 + r]? = some ((impl_Block_66.enc ys[j])[r]!) := by
  intro r hr
  have ht : j * 3 + r < (ys.toArray).size * 3 := by simp; omega
  rw [Array.getElem?_toList, Array.getElem?_eq_getElem (by simpa using ht)]
  have h0 := Go.Sort.get_flatK impl_Block_66.enc 3 ys.toArray (j * 3 + r) ht
  rw [getElem!_pos _ _ (by simpa using ht)] at h0
  rw [h0, show (j * 3 + r) / 3 = j by omega, show (j * 3 + r) % 3 = r by omega, show (ys.toArray)[j]! = ys[j] by simp [hj]]
 apply List.ext_getElem?
 intro r
 by_cases hr : r < 3
 ·rw [List.getElem?_take_of_lt hr, List.getElem?_drop, key r hr]
  match r, hr with
  | 0, _ => rfl
  | 1, _ => rfl
  | 2, _ => rfl
 ·rw [List.getElem?_take_eq_none (by omega), List.getElem?_eq_none (by simp [impl_Block_66.enc]; omega)]
theorem impl_Block_66.flat_get (xs : List S58) (inner : List Value) (hlen : inner.length = xs.length * 3) (h : ∀ j (hj : j < xs.length), (inner.drop (j * 3)).take 3 = impl_Block_66.enc xs[j]) (t : Nat) (ht : t < xs.length * 3) : inner[t]? = some ((Go.Sort.flatK impl_Block_66.enc 3 xs.toArray)[t]!) := by
 have hj : t / 3 < xs.length := by omega
 have h1 := h (t / 3) hj
 have h2 := impl_Block_66.flat_chunk xs (t / 3) hj
 have h3 : (inner.drop (t / 3 * 3)).take 3 = (((Go.Sort.flatK impl_Block_66.enc 3 xs.toArray).toList).drop (t / 3 * 3)).take 3 := h1.trans h2.symm
 have h4 : ((inner.drop (t / 3 * 3)).take 3)[t % 3]? = ((((Go.Sort.flatK impl_Block_66.enc 3 xs.toArray).toList).drop (t / 3 * 3)).take 3)[t % 3]? := by rw [h3]
 rw [List.getElem?_take_of_lt (by omega), List.getElem?_take_of_lt (by omega), List.getElem?_drop, List.getElem?_drop, show t / 3 * 3 + t % 3 = t by omega] at h4
 rw [h4, Array.getElem?_toList, Array.getElem?_eq_getElem (by simpa using ht), getElem!_pos _ _ (by simpa using ht)]
def impl_Block_66.sorted (xs : List S58) : List S58 := xs.mergeSort fun x y => !(Go.Proofs.ltOf impl_Block_66.cf) y x
theorem impl_Block_66.heap_at {w : World} {g n : Nat} {os : Array Obj} {cur : Array Value} {e : TypeId} (d : Array S58) (hb : w.heap[g]? = some (.cells cur e (0, 0))) : (Go.Proofs.sortWorldK impl_Block_66.enc 3 w g 0 n d os).heap[g]? = some (.cells (Go.Sort.putCells id 0 (Go.Sort.flatK impl_Block_66.enc 3 d) cur) e (0, 0)) := by
 unfold Go.Proofs.sortWorldK Go.Sort.putRowK
 rw [Go.Sort.heap_grow_old _ _ (by simpa [Go.Sort.putRow, Go.Sort.mapBlock, Go.Sort.ahead] using qw hb)]
 simp [Go.Sort.putRow, Go.Sort.mapBlock, Go.Sort.ahead, Array.getElem?_modify, hb, Go.Sort.onCells]
theorem impl_Block_66.grown {w : World} {g n : Nat} {os : Array Obj} (d : Array S58) : w.grownBy (Go.Proofs.sortWorldK impl_Block_66.enc 3 w g 0 n d os) (some g) := by
 unfold Go.Proofs.sortWorldK Go.Sort.putRowK
 refine ⟨rfl, rfl, rfl, by simp [Go.Sort.grow, Go.Sort.putRow, Go.Sort.mapBlock, Go.Sort.ahead], fun k hk hne => ?_⟩
 rw [Go.Sort.heap_grow_old _ _ (by simpa [Go.Sort.putRow, Go.Sort.mapBlock, Go.Sort.ahead] using hk)]
 have : g ≠ k := fun e => hne (by rw [e])
 simp [Go.Sort.putRow, Go.Sort.mapBlock, Go.Sort.ahead, Array.getElem?_modify, this]
set_option maxHeartbeats 4000000 in
set_option maxRecDepth 100000 in
theorem impl_Block_66.cmp (x y : S58) (W : World) : Calls Try.prog 67 #[.agg #[.int .i64 x.f0, .int .i64 x.f1, .bool x.f2], .agg #[.int .i64 y.f0, .int .i64 y.f1, .bool y.f2]] W fun e w' => e = .returned (.int .i64 (impl_Block_66.cf x y)) ∧ ∃ q os', w' = Go.Sort.grow (W.drewN q) os' := by
 have hub := Try.underlying58
 have HE : ∀ (a b c : Int) (W1 : World), Hid (Calls Try.prog 80 #[.slice (some ⟨W1.heap.size, 0, none⟩) 3 3] (W1.alloc (.cells #[.int .i64 a, .int .i64 b, .int .i64 c] 3)) fun e w' => e = .returned (.int .i64 (impl_Block_66.or3 a b c)) ∧ zp (W1.alloc (.cells #[.int .i64 a, .int .i64 b, .int .i64 c] 3)) w') := fun a b c W1 => Lib.hid (cmp_Or_int.calls 5 (some ⟨W1.heap.size, 0, none⟩) 3 [a, b, c] (impl_Block_66.or3 a b c) _ (impl_Block_66.three_C W1 a b c) (Nat.le_refl 3) (impl_Block_66.or_f a b c))
 have HEE := Lib.hid HE
 clear HE
 unfold impl_Block_66.cf
 obtain ⟨U, hU⟩ : ∃ U, impl_Block_66.up x y = U := ⟨_, rfl⟩
 obtain ⟨a, b, u⟩ := x
 obtain ⟨c, d, v⟩ := y
 simp only at *
 rw [hU]
 have HX := Lib.hid (qc (blk_new W (.cells #[.int .i64 a, .int .i64 b, .bool u] 58)) (.cells #[.int .i64 c, .int .i64 d, .bool v] 58))
 have HY := Lib.hid (blk_new (W.alloc (.cells #[.int .i64 a, .int .i64 b, .bool u] 58)) (.cells #[.int .i64 c, .int .i64 d, .bool v] 58))
 have HG := Lib.hid (show (W.alloc (.cells #[.int .i64 a, .int .i64 b, .bool u] 58)).alloc (.cells #[.int .i64 c, .int .i64 d, .bool v] 58) = Go.Sort.grow W #[.cells #[.int .i64 a, .int .i64 b, .bool u] 58, .cells #[.int .i64 c, .int .i64 d, .bool v] 58] by rw [Go.Sort.alloc_eq_grow, Go.Sort.alloc_eq_grow, Go.Sort.grow_grow]; rfl)
 have HU := Lib.hid hU
 clear hU
 cases u <;> cases v
 all_goals
  have hU := HU.out
  unfold impl_Block_66.up at hU
  simp at hU
  subst hU
  go_enter Try.func67, Try.ntmps67
  go_upto_region 1 with (fail)
  have hy := HY.out
  rw [show (W.alloc (.cells #[.int .i64 a, .int .i64 b, .bool _] 58)).heap.size = W.heap.size + 1 by simp] at hy
  have hx := HX.out
  generalize (W.alloc (.cells #[.int .i64 a, .int .i64 b, .bool _] 58)).alloc (.cells #[.int .i64 c, .int .i64 d, .bool _] 58) = W2 at hx hy HG ⊢
  clear HX HY
  have x0 : W2.cell? ⟨W.heap.size, 0, none⟩ = some (.int .i64 a) := (qf hx 0).trans rfl
  have x1 : W2.cell? ⟨W.heap.size, 1, none⟩ = some (.int .i64 b) := (qf hx 1).trans rfl
  have x2 := (qf hx 2).trans rfl
  have y0 : W2.cell? ⟨W.heap.size + 1, 0, none⟩ = some (.int .i64 c) := (qf hy 0).trans rfl
  have y1 : W2.cell? ⟨W.heap.size + 1, 1, none⟩ = some (.int .i64 d) := (qf hy 1).trans rfl
  have y2 := (qf hy 2).trans rfl
  generalize W.heap.size = g at x0 x1 x2 y0 y1 y2 ⊢
  clear hx hy
  go_upto_region 6 with (fail)
  go_still_tail 11, (by kernel_rfl)
  still_call (impl_Block_66.cmpc _ _ _)
  repeat still_step
  still_call (impl_Block_66.cmpc _ _ _)
  repeat still_step
  refine wpStill_nil ?_
  change wpList _ _ _ _ _ W2.drew
  clear x0 x1 x2 y0 y1 y2
  have HC := Lib.hid (fun (p q r : Int) => HEE.out p q r W2.drew)
  go_wp2_with (go_at_call 80; refine ((HC.out _ _ _).out).mono ?_; rintro e w3 ⟨rfl, hd⟩; obtain ⟨n, rfl⟩ := hd.out)
  go_ret
  refine ⟨rfl, 1 + n, ?_, ?_⟩
  rotate_left
  ·rw [HG.out, Go.Sort.alloc_eq_grow, Go.Sort.grow_grow]
   rfl
theorem impl_Block_66.sort {W : World} {base : Nat} {ok : Nat → Prop} {v : Value} {xs : List S58} (h : Kd.R k58 58 W base ok v xs) (hl : xs.length < 1000000) :
  Calls Try.prog 66 #[v, .func (.func 67) #[] #[]] W fun e W' => e = .returned (.tuple #[]) ∧ Kd.R k58 58 W' base ok v (impl_Block_66.sorted xs) ∧ W.grownBy W' v.ownBlock := by
 have hR := h
 obtain ⟨h0, inner, hown, hr⟩ := h
 change W.ownsRow base 58 3 v xs.length inner at hown
 have hr1 : inner.length = xs.length * 3 := hr.1
 have hr2 : ∀ j p, xs[j]? = some p → k58.M W base (fun k => ok k ∧ some k ≠ v.ownBlock) p ((inner.drop (j * 3)).take 3) := hr.2
 clear hr
 have hln : (impl_Block_66.sorted xs).length = xs.length := List.length_mergeSort _
 rcases hown.2 with ⟨rfl, hn⟩ | ⟨g, cap, cur, rfl, hg, hh, h1, h2, h3, h4⟩
 ·have hx : xs = [] := List.eq_nil_of_length_eq_zero (by omega)
  refine (Go.Proofs.AnyF.slices_SortFunc_none impl_Block_66.lay none 0 _ W).mono ?_
  rintro e W' ⟨rfl, rfl⟩
  subst hx
  have e0 : impl_Block_66.sorted [] = [] := by simp [impl_Block_66.sorted]
  rw [e0]
  exact ⟨rfl, hR, World.grownBy.refl _ _⟩
 ·have hfl := impl_Block_66.flat_get xs inner hr1 (fun j hj => by
   have h5 := hr2 j xs[j] (by simp [hj])
   exact k58_openM h5)
  have hH : Go.Sort.HoldsK impl_Block_66.enc 3 W g 0 xs.toArray := by
   intro t ht
   have ht' : t < xs.length * 3 := by simpa using ht
   refine ⟨?_, qj hh _⟩
   rw [Nat.zero_add, qf hh]
   have h6 : (cur.toList.take (xs.length * 3))[t]? = inner[t]? := by rw [h4]
   rw [List.getElem?_take_of_lt ht', Array.getElem?_toList] at h6
   rw [h6, hfl t ht']
   rfl
  have hcmp : Go.Proofs.CmpLays Try.prog 67 #[] impl_Block_66.enc 3 impl_Block_66.cf g 0 xs.toArray.size W := fun m os dk _ x y => impl_Block_66.cmp x y _
  have eg : ∀ args w, (callFunc 67 args).run Try.prog w = .ok (.enter 67 args) w := enters_of Try.func67 (by kernel_rfl) rfl
  have hcon := Go.Proofs.AnyQ.slices_SortFunc_total impl_Block_66.lay 3 Try.isAgg58 Try.sizeOf58 impl_Block_66.enc (fun _ => rfl) (fun x v hv => by simp [impl_Block_66.enc] at hv; rcases hv with rfl | rfl | rfl <;> rfl) impl_Block_66.cf impl_Block_66.swo 67 #[] g 0 cap xs.toArray W eg hcmp hH (qw hh) (by simp; omega) impl_Block_66.tot
  refine (show Calls Try.prog 66 #[.slice (some ⟨g, 0, none⟩) xs.length cap, .func (.func 67) #[] #[]] W _ from hcon).mono ?_
  rintro e W' ⟨rfl, n, os, rfl⟩
  refine ⟨rfl, ⟨h0, (Go.Sort.flatK impl_Block_66.enc 3 (impl_Block_66.sorted xs).toArray).toList, ⟨by show _ = _ * 3; simp, .inr ⟨g, cap, _, by rw [hln], hg, impl_Block_66.heap_at _ hh, by omega, h2, by show _ = cap * 3; simp [Go.Sort.putCells, h3], ?_⟩⟩, ⟨by show _ = _ * 3; simp, fun j p hj => ?_⟩⟩, impl_Block_66.grown _⟩
  ·show List.take ((impl_Block_66.sorted xs).length * 3) (Go.Sort.putCells id 0 (Go.Sort.flatK impl_Block_66.enc 3 (impl_Block_66.sorted xs).toArray) cur).toList = _
   have hsz : (impl_Block_66.sorted xs).length * 3 ≤ cur.size := by rw [h3]; omega
   apply List.ext_getElem?
   intro j
   by_cases hj : j < (impl_Block_66.sorted xs).length * 3
   ·rw [List.getElem?_take_of_lt hj, Array.getElem?_toList]
    have hj2 : j < (Go.Sort.flatK impl_Block_66.enc 3 (impl_Block_66.sorted xs).toArray).size := by simpa using hj
    rw [Array.getElem?_toList, Array.getElem?_eq_getElem hj2, ← getElem!_pos (Go.Sort.flatK impl_Block_66.enc 3 (impl_Block_66.sorted xs).toArray) j hj2]
    simp only [Go.Sort.putCells]
    rw [Array.getElem?_eq_getElem (by simp; omega), Array.getElem_mapIdx, if_pos (by omega)]
    rfl
   ·rw [List.getElem?_take_eq_none (by omega), List.getElem?_eq_none (by simp; omega)]
  ·have hj' : j < (impl_Block_66.sorted xs).length := (List.getElem?_eq_some_iff.1 hj).1
   obtain rfl : (impl_Block_66.sorted xs)[j] = p := (List.getElem?_eq_some_iff.1 hj).2
   show k58.M _ _ _ _ ((_ : List Value).drop (j * 3) |>.take 3)
   rw [impl_Block_66.flat_chunk _ j hj']
   exact k58_mkM _ _ _ _
def impl_Block_66.f (l0 : List S58) : Option (List S58) := if l0.length < 1000000 then some (impl_Block_66.sorted l0) else none
theorem impl_Block_66.calls (P0_ : Nat → Prop) (u9000_ : Value) (l0 : List S58) (r1 : List S58) (w0 w : World) (hB : Below w0.heap.size w0 w) (ho0 : Kd.R k58 58 w w0.heap.size P0_ u9000_ l0) (h : impl_Block_66.f l0 = some r1) :
  Calls Try.prog 66 #[u9000_, .func (.func 67) #[] #[]] w fun e w' => e = .returned (.tuple #[]) ∧ Kd.R k58 58 w' w0.heap.size (fun k_ => (P0_ k_ ∨ w.heap.size ≤ k_)) u9000_ r1 ∧ Below w0.heap.size w0 w' ∧ Kept w w' (fun k_ => P0_ k_) := by
 unfold impl_Block_66.f at h
 by_cases hl : l0.length < 1000000
 ·rw [if_pos hl] at h
  obtain rfl := Option.some.inj h
  refine (impl_Block_66.sort ho0 hl).mono ?_
  rintro e w' ⟨rfl, hR, hg⟩
  exact ⟨rfl, Kd.zb hR (fun _ hk => .inl hk), pw_below_grown hB _ hB.size hg (Kd.zr ho0), Kept.of_grown (S := fun k_ => P0_ k_) hg (Kept.refl _ _) (fun k_ e_ => .inl (ho0.1 k_ e_))⟩
 ·rw [if_neg hl] at h
  cases h
end Go.Proofs.Ytpedofomfhmnfaa.PFnExactCloseBlock
