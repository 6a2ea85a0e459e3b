/- Cut by wip/cut.py out of the texts of this claim (printed by the kit's printer, or this session's own): what the row's theorem does not reach is struck. Not trusted: Lean checks it. -/
import Derived.Test.YtpopeedfgenebaaGreatZFnPostDeliversPx0
import Derived.Test.YtpopeedfgenebaaGreatZFnPostDeliversPx2
import Derived.Test.YtpopeedfgenebaaGreatZFnPostDeliversPx3
import Derived.Test.YtpopeedfgenebaaGreatZFnPostDeliversPx5
import Derived.Test.YtpopeedfgenebaaGreatZFnPostDeliversPx6
import Derived.Test.YtpopeedfgenebaaGreatZFnPostDeliversPx9
namespace Go.Proofs.YtpopeedfgenebaaGreat.PFnPostDelivers
open Go.RowKit Go.Proofs.YtpopeedfgenebaaGreatW.PrintWords Go.Proofs.YtpopeedfgenebaaGreatW.PrintLast Go.Proofs.YtpopeedfgenebaaGreatW.PrintMore
attribute [local go_sem] zq zo zx zw zk zj zp zn
set_option linter.unusedVariables false
set_option linter.unusedSimpArgs false
def impl_NumbersOf.lay_ren : Go.Shelf.Ren := ⟨fun n => match n with | 189 => 41 | 125 => 76 | 257 => 75 | 128 => 99 | 129 => 100 | 294 => 90 | 295 => 91 | 296 => 92 | 297 => 93 | 298 => 94 | 299 => 95 | 216 => 96 | 300 => 97 | 301 => 98 | 328 => 114 | 329 => 115 | 330 => 116 | 331 => 117 | 332 => 118 | 215 => 119 | 343 => 127 | n => n, fun n => match n with | 28 => 28 | 3 => 3 | 46 => 97 | 0 => 0 | 51 => 120 | 53 => 74 | 4 => 4 | 183 => 115 | 182 => 114 | 131 => 32 | 5 => 5 | 9 => 9 | 218 => 133 | 222 => 137 | 228 => 144 | 229 => 70 | n => n, fun n => n⟩
theorem impl_NumbersOf.lay : Go.Proofs.Lays.n189 Tryz.prog impl_NumbersOf.lay_ren := {
 mixed := by kernel_rfl
 f125 := Tryz.func76.trans (congrArg some a9_)
 f128 := Tryz.func99.trans (congrArg some a9_)
 f129 := Tryz.func100.trans (congrArg some a9_)
 f189 := Tryz.func41.trans (congrArg some a9_)
 f215 := Tryz.func119.trans (congrArg some a9_)
 f216 := Tryz.func96.trans (congrArg some a9_)
 f257 := Tryz.func75.trans (congrArg some a9_)
 f294 := Tryz.func90.trans (congrArg some a9_)
 f295 := Tryz.func91.trans (congrArg some a9_)
 f296 := Tryz.func92.trans (congrArg some a9_)
 f297 := Tryz.func93.trans (congrArg some a9_)
 f298 := Tryz.func94.trans (congrArg some a9_)
 f299 := Tryz.func95.trans (congrArg some a9_)
 f300 := Tryz.func97.trans (congrArg some a9_)
 f301 := Tryz.func98.trans (congrArg some a9_)
 f328 := Tryz.func114.trans (congrArg some a9_)
 f329 := Tryz.func115.trans (congrArg some a9_)
 f330 := Tryz.func116.trans (congrArg some a9_)
 f331 := Tryz.func117.trans (congrArg some a9_)
 f332 := Tryz.func118.trans (congrArg some a9_)
 f343 := Tryz.func127.trans (congrArg some a9_)
 t0 := Tryz.underlying0
 a0 := Tryz.isAgg0
 z0 := Tryz.sizeOf0
 v0 := Tryz.zeroValue0
 t3 := Tryz.underlying3
 a3 := Tryz.isAgg3
 z3 := Tryz.sizeOf3
 v3 := Tryz.zeroValue3
 t4 := Tryz.underlying4
 a4 := Tryz.isAgg4
 z4 := Tryz.sizeOf4
 v4 := Tryz.zeroValue4
 t5 := Tryz.underlying5
 a5 := Tryz.isAgg5
 z5 := Tryz.sizeOf5
 v5 := Tryz.zeroValue5
 t9 := Tryz.underlying9
 a9 := Tryz.isAgg9
 z9 := Tryz.sizeOf9
 v9 := Tryz.zeroValue9
 t28 := Tryz.underlying28
 a28 := Tryz.isAgg28
 z28 := Tryz.sizeOf28
 v28 := Tryz.zeroValue28
 t46 := Tryz.underlying97
 a46 := Tryz.isAgg97
 z46 := Tryz.sizeOf97
 v46 := Tryz.zeroValue97
 t51 := Tryz.underlying120
 a51 := Tryz.isAgg120
 z51 := Tryz.sizeOf120
 v51 := Tryz.zeroValue120
 t53 := Tryz.underlying74
 a53 := Tryz.isAgg74
 z53 := Tryz.sizeOf74
 v53 := Tryz.zeroValue74
 t131 := Tryz.underlying32
 a131 := Tryz.isAgg32
 z131 := Tryz.sizeOf32
 v131 := Tryz.zeroValue32
 t182 := Tryz.underlying114
 a182 := Tryz.isAgg114
 z182 := Tryz.sizeOf114
 v182 := Tryz.zeroValue114
 t183 := Tryz.underlying115
 a183 := Tryz.isAgg115
 z183 := Tryz.sizeOf115
 v183 := Tryz.zeroValue115
 t218 := Tryz.underlying133
 a218 := Tryz.isAgg133
 z218 := Tryz.sizeOf133
 v218 := Tryz.zeroValue133
 t222 := Tryz.underlying137
 a222 := Tryz.isAgg137
 z222 := Tryz.sizeOf137
 v222 := Tryz.zeroValue137
 t228 := Tryz.underlying144
 a228 := Tryz.isAgg144
 z228 := Tryz.sizeOf144
 v228 := Tryz.zeroValue144
 t229 := Tryz.underlying70
 a229 := Tryz.isAgg70
 z229 := Tryz.sizeOf70
 v229 := Tryz.zeroValue70 }
def impl_NumbersOf.sorted (xs : List Int) : List Int := xs.mergeSort fun x y => decide (x ≤ y)
theorem impl_NumbersOf.sort {W : World} {base : Nat} {ok : Nat → Prop} {v : Value} {xs : List Int} (h : Kd.R (Kd.int .i64) 3 W base ok v xs) (hl : xs.length < 4611686018427387904) :
  Calls Tryz.prog 41 #[v] W fun e W' => e = .returned (.tuple #[]) ∧ Kd.R (Kd.int .i64) 3 W' base ok v (impl_NumbersOf.sorted xs) ∧ W.grownBy W' v.ownBlock := by
 have ho := Kd.own_of_R (enc := Value.int .i64) (h1 := fun _ => rfl) h
 have hln : (impl_NumbersOf.sorted xs).length = xs.length := List.length_mergeSort _
 rcases ho.2 with ⟨rfl, hn⟩ | ⟨g, cap, cur, rfl, hg, hh, h1, h2, h3, h4⟩
 ·have hx : xs = [] := List.eq_nil_of_length_eq_zero (by omega)
  refine (Go.Proofs.Any.slices_Sort_int_none impl_NumbersOf.lay none 0 W).mono ?_
  rintro e W' ⟨rfl, rfl⟩
  subst hx
  have e0 : impl_NumbersOf.sorted [] = [] := by simp [impl_NumbersOf.sorted]
  rw [e0]
  exact ⟨rfl, h, World.grownBy.refl _ _⟩
 ·have hH := holds_of_blockI (ss := xs) hh (by rw [Nat.mul_one] at h4; exact h4)
  refine (Go.Proofs.Any.slices_Sort_int impl_NumbersOf.lay g 0 cap xs W hH (zv hh) hl).mono ?_
  rintro e W' ⟨rfl, n, os, rfl⟩
  refine ⟨rfl, Kd.R_of_own (enc := Value.int .i64) (h1 := fun _ => rfl) ?_ h.1, grownBy_sortedI _⟩
  rw [hln]
  exact ownsRow_sortedI hln hg hh h1 h2 h3
def impl_NumbersOf.f (k : Nat) (a0_0 : Int) (a0_1 : Int) (a1 : ByteArray) : Option (List Int × Bool) := (impl_isStreetText.f k a0_0 a0_1 a1).bind fun t => if t = true then (if a1.size ≤ 1048576 then (impl_routeNumbers.f a0_0 a0_1 a1 (List.replicate a1.size 0)).bind fun l => some (impl_NumbersOf.sorted l, true) else none) else some ([], false)
theorem impl_NumbersOf.mono : ∀ a0 a1 a2 k, LeO (impl_NumbersOf.f k a0 a1 a2) (impl_NumbersOf.f (k + 1) a0 a1 a2) := by
 intro a0 a1 a2 k
 unfold impl_NumbersOf.f
 exact LeO.bind (impl_isStreetText.mono _ _ _ _) (fun _ => LeO.refl _)
theorem impl_NumbersOf.rn (a0_0 a0_1 : Int) (a1 : ByteArray) (A : Option Addr) (n c : Nat) (l2 r : List Int) (w : World) (hr : Kd.C (Kd.int .i64) w A l2.length l2) (hn : l2.length = n) (hc : n ≤ c) (h : impl_routeNumbers.f a0_0 a0_1 a1 l2 = some r) :
  Calls Tryz.prog 36 #[.agg #[.int .i64 a0_0, .int .i64 a0_1], .string a1, .slice A n c] w fun e w' => ∃ v0_ : Value, e = .returned (v0_) ∧ Kd.R (Kd.int .i64) 3 w' w.heap.size (fun _ => True) v0_ r ∧ Below w.heap.size w w' := by
 subst hn
 exact impl_routeNumbers.calls a0_0 a0_1 a1 A c l2 r w hr hc h
theorem impl_NumbersOf.rn_len {a0_0 a0_1 : Int} {a1 : ByteArray} {l2 r : List Int} (h : impl_routeNumbers.f a0_0 a0_1 a1 l2 = some r) : r.length ≤ 2097152 := by
 unfold impl_routeNumbers.f at h
 split at h
 ·rename_i hc
  cases h
  have := impl_routeNumbers.acc_len a0_0 a0_1 a1 l2 a1.size
  omega
 ·cases h
theorem impl_NumbersOf.made_C {W : World} {g n : Nat} (hn : n ≤ 1048576) (h : W.heap[g]? = some (.cells (madeCells #[.int .i64 0] n) 3 (0, 0))) : Kd.C (Kd.int .i64) W (some ⟨g, 0, none⟩) (List.replicate n (0 : Int)).length (List.replicate n 0) := by
 refine ⟨rfl, ca_, fun _ => ⟨⟨g, 0, none⟩, rfl, fun j p hj => ?_⟩⟩
 have hj' : j < n := by
  rcases Nat.lt_or_ge j n with h | h
  ·exact h
  ·rw [List.getElem?_eq_none (by simpa using h)] at hj; cases hj
 have hp : p = 0 := by
  rw [List.getElem?_replicate, if_pos hj'] at hj
  exact (Option.some.inj hj).symm
 subst hp
 refine ⟨[.int .i64 0], rfl, rfl, fun i u hu => ?_⟩
 match i, hu with
 | 0, hu =>
  cases hu
  rw [add_plain, Nat.add_zero, qk h]
  show (madeCells #[.int .i64 0] n)[j * 1]? = _
  rw [Nat.mul_one]
  simp [madeCells, hj', Nat.mod_one]
 | i + 1, hu => simp at hu
theorem impl_NumbersOf.info3 : (Tryz.prog.info? 3).map (fun i => (i.zero, i.size, i.bytes)) = some (some (.int .i64 0), 1, 8) := by kernel_rfl
set_option maxHeartbeats 4000000 in
set_option maxRecDepth 100000 in
theorem impl_NumbersOf.calls (k : Nat) (a0_0 : Int) (a0_1 : Int) (a1 : ByteArray) (r1 : List Int) (r2 : Bool) (w : World) (h : impl_NumbersOf.f k a0_0 a0_1 a1 = some (r1, r2)) :
  Calls Tryz.prog 8 #[.agg #[.int .i64 a0_0, .int .i64 a0_1], .string a1] w fun e w' => ∃ v0_ : Value, e = .returned (.tuple #[v0_, .bool r2]) ∧ Kd.R (Kd.int .i64) 3 w' w.heap.size (fun _ => True) v0_ r1 ∧ Below w.heap.size w w' := by
 unfold impl_NumbersOf.f at h
 obtain ⟨t, ht, h⟩ := Option.bind_eq_some_iff.mp h
 have hu43 := Tryz.underlying25
 have HT := Lib.hid ht
 have HB := Lib.hid (qd (Below.refl w.heap.size w) (.cells #[.int .i64 a0_0, .int .i64 a0_1] 25))
 have HX := Lib.hid (blk_new w (.cells #[.int .i64 a0_0, .int .i64 a0_1] 25))
 cases t with
 | false =>
  cases h
  clear ht
  go_enter Tryz.func8, Tryz.ntmps8
  go_wp2_with (go_at_call 33; refine (impl_isStreetText.calls k a0_0 a0_1 a1 false _ HT.out).mono ?_; rintro e w2 ⟨rfl, hb⟩; have HB2 := Lib.hid cf_; clear hb)
  go_ret2
  exact ⟨_, rfl, Kd.R_nil _ _ _ _ _, HB2.out⟩
 | true =>
  rw [if_pos rfl] at h
  by_cases hz : a1.size ≤ 1048576
  ·rw [if_pos hz] at h
   obtain ⟨l, hl, h⟩ := Option.bind_eq_some_iff.mp h
   cases h
   have HL := Lib.hid hl
   clear ht hl
   have hmk := print_make (P := Tryz.prog) 28 3 .i64 8 Tryz.underlying28 impl_NumbersOf.info3 (by omega) a1.size (by omega)
   go_enter Tryz.func8, Tryz.ntmps8
   go_wp2_with (go_at_call 33; refine (impl_isStreetText.calls k a0_0 a0_1 a1 true _ HT.out).mono ?_; rintro e w2 ⟨rfl, hb⟩; have HB2 := Lib.hid cf_; have hbx := (hb.block _ (zv HX.out)).trans HX.out; have hcz0 : w2.cell? ⟨w.heap.size, 0, none⟩ = some (.int .i64 a0_0) := (qk hbx 0).trans rfl; have hcz1 : w2.cell? ⟨w.heap.size, 1, none⟩ = some (.int .i64 a0_1) := (qk hbx 1).trans rfl; have hfz0 := qi hbx 0; have hfz1 := qi hbx 1; have hca0 : ∀ o, (w2.alloc o).cell? ⟨w.heap.size, 0, none⟩ = some (.int .i64 a0_0) := fun o => (qk (qg hbx o) 0).trans rfl; have hca1 : ∀ o, (w2.alloc o).cell? ⟨w.heap.size, 1, none⟩ = some (.int .i64 a0_1) := fun o => (qk (qg hbx o) 1).trans rfl; clear hb)
   go_region_with ((go_at_call 36; refine (impl_NumbersOf.rn a0_0 a0_1 a1 _ a1.size a1.size (List.replicate a1.size 0) l _ (impl_NumbersOf.made_C hz (by first | exact blk_new _ _ | exact qj (blk_new _ _))) (List.length_replicate ..) (Nat.le_refl _) HL.out).mono ?_; rintro e w3 ⟨v3, rfl, hrow, hb3⟩))
   all_goals
    have hW := below_drew (qd HB2.out (.cells (madeCells #[.int .i64 0] a1.size) 3))
    have HS := Lib.hid (And.intro (below_then hW hW.size hb3) (Kd.R_lower hrow hW.size))
    have HN := Lib.hid (impl_NumbersOf.rn_len HL.out)
    clear hW hrow hb3
    go_wp2_with (go_at_call 41; refine (impl_NumbersOf.sort HS.out.2 (by have := HN.out; omega)).mono ?_; rintro e w4 ⟨rfl, hs, hg⟩; have HF := Lib.hid (And.intro hs (pw_below_grown HS.out.1 _ HS.out.1.size hg (Kd.R_base HS.out.2))); clear hs hg)
    go_ret2
    exact ⟨_, rfl, HF.out.1, HF.out.2⟩
  ·rw [if_neg hz] at h
   cases h
def spec_l1Put.l0 : Nat → List Int → Int → Int → Option (List Int)
 | 0, _, _, _ => none
 | k + 1, x0, x1, x5 => if x5 < (x0.length : Int) then (if 0 ≤ x5 then (if (rd x0 x5) < x1 then (spec_l1Put.l0 k x0 x1 (wrap64 (x5 + 1))) else (if (rd x0 x5) = x1 then (some x0) else ((some (([] : List Int) : List Int)).bind fun y288 => (if x5 ≤ (x0.length : Int) then ((some (x0.take (x5 : Int).toNat : List Int)).bind fun y291 => (if y288.length + y291.length < 17592186044416 then ((some (y288 ++ y291 : List Int)).bind fun y295 => (if y295.length < 17592186044416 then ((some (y295 ++ [x1] : List Int)).bind fun y298 => ((some (x0.drop (x5 : Int).toNat : List Int)).bind fun y301 => (if y298.length + y301.length < 17592186044416 then (some (y298 ++ y301)) else (none)))) else (none))) else (none))) else (none))))) else (none)) else ((some (([] : List Int) : List Int)).bind fun y308 => (if 0 ≤ x5 then (if x5 ≤ (x0.length : Int) then ((some (x0.take (x5 : Int).toNat : List Int)).bind fun y311 => (if y308.length + y311.length < 17592186044416 then ((some (y308 ++ y311 : List Int)).bind fun y315 => (if y315.length < 17592186044416 then ((some (y315 ++ [x1] : List Int)).bind fun y318 => ((some (x0.drop (x5 : Int).toNat : List Int)).bind fun y321 => (if y318.length + y321.length < 17592186044416 then (some (y318 ++ y321)) else (none)))) else (none))) else (none))) else (none)) else (none)))
def spec_l1Put.f (k : Nat) (l0 : List Int) (a1 : Int) : Option (List Int) := spec_l1Put.l0 k l0 a1 0
theorem spec_l1Put.zd : ∀ k, (∀ y0 y1 y2, LeO (spec_l1Put.l0 k y0 y1 y2) (spec_l1Put.l0 (k + 1) y0 y1 y2))
 | 0 => fun _ _ _ r h => by simp [spec_l1Put.l0] at h
 | k + 1 => by
  have ih0 := spec_l1Put.zd k
  intro y0 y1 y2
  unfold spec_l1Put.l0
  exact l8_
theorem spec_l1Put.mono : ∀ a0 a1 k, LeO (spec_l1Put.f k a0 a1) (spec_l1Put.f (k + 1) a0 a1) := by
 intro a0 a1 k
 have ih0 := spec_l1Put.zd k
 unfold spec_l1Put.f
 exact l8_
set_option maxHeartbeats 8000000 in
set_option maxRecDepth 100000 in
theorem spec_l1Put.calls (k : Nat) (P0_ : Nat → Prop) (u9000_ : Value) (l0 : List Int) (a1 : Int) (r : List Int) (w0 w : World) (hB : Below w0.heap.size w0 w) (ho0 : Kd.R (Kd.int .i64) 3 w w0.heap.size P0_ u9000_ l0) (h : spec_l1Put.f k l0 a1 = some r) :
  Calls Tryz.prog 42 #[u9000_, .int .i64 a1] w fun e w' => ∃ v0_ : Value, e = .returned (v0_) ∧ Kd.R (Kd.int .i64) 3 w' w0.heap.size (fun k_ => (P0_ k_ ∨ w.heap.size ≤ k_)) v0_ r ∧ Below w0.heap.size w0 w' ∧ Kept w w' (fun k_ => P0_ k_) := by
 have g3 := qb.mk (show Kd.R (Kd.int .i64) 3 w w0.heap.size (fun k_ => (P0_ k_ ∨ w.heap.size ≤ k_)) u9000_ l0 from Kd.zl ho0 (fun k_ hk => (.inl hk)));have HK := qb.mk (Kept.refl w (fun k_ => P0_ k_));have HW0 := qb.mk hB.size;have HB := qb.mk hB;clear hB;have H := h; clear h; unfold spec_l1Put.f at H;have H' := qb.mk H;clear H
 go_enter Tryz.func42, Tryz.ntmps42
 go_wp2
 go_loopg [5] k (fun kq v5 w' => ∃ (x5_1 : Int), v5 = .int .i64 x5_1 ∧ qb (spec_l1Put.l0 kq l0 a1 x5_1 = some r) ∧ qb (kq ≤ k) ∧ qb (Kd.R (Kd.int .i64) 3 w' w0.heap.size (fun k_ => (P0_ k_ ∨ w.heap.size ≤ k_)) u9000_ l0) ∧ qb (Kept w w' (fun k_ => P0_ k_)) ∧ qb (Below w0.heap.size w0 w'))
 case atStart => exact ⟨(0), es_, H', ⟨Nat.le_refl _⟩, ⟨kr_ g3⟩, ⟨by repeat (first | (with_reducible first | exact HK.out | apply Kept.alloc | apply Kept.drewN | apply Kept.drew) | exact HK.out)⟩, ⟨be0_ HB⟩⟩
 case round =>
  clear H';obtain ⟨x5_1, rfl, HA, HK1, b0, HK, HB⟩ := hrel;cases gk with
  | zero => exact absurd HA.out (by simp [spec_l1Put.l0])
  | succ k1 =>
   have H := HA.out;clear HA
   simp only [spec_l1Put.l0] at H
   replace H := iD_ H; obtain ⟨c3b0, H⟩ | ⟨c3b0, H⟩ := H
   ·replace H := iD_ H; obtain ⟨c4b0, H⟩ | ⟨c4b0, H⟩ := H
    ·replace H := iD_ H; obtain ⟨c5b0, H⟩ | ⟨c5b0, H⟩ := H
     ·have H' := qb.mk H
      clear H;obtain ⟨Ao6, co6, eo6⟩ := Kd.ja b0.out;subst eo6;have p286 : 0 ≤ (x5_1 : Int) := od_;have q286 : x5_1 < (l0.length : Int) := od_;obtain ⟨ad286, e286, hx286_0⟩ := Kd.zi (Kd.ze b0.out).2.2 x5_1 p286 q286;cases e286;replace p286 := eq_true p286;replace q286 := eq_true q286
      go_wp2
      go_roundg k1
      case measure => have := HK1.out; omega
      case rel => exact ⟨(wrap64 (x5_1 + 1)), es_, H', ⟨by have := HK1.out; omega⟩, ⟨kr_ b0⟩, ⟨by repeat (first | (with_reducible first | exact HK.out | apply Kept.alloc | apply Kept.drewN | apply Kept.drew) | exact HK.out)⟩, ⟨be0_ HB⟩⟩
     ·replace H := iE_ H; obtain ⟨c7b0, c7b1, H⟩ | ⟨c7, c7b0, c7b1, H⟩ := H
      ·obtain rfl := Option.some.inj H
       obtain ⟨Ao8, co8, eo8⟩ := Kd.ja b0.out;subst eo8;have p286 : 0 ≤ (x5_1 : Int) := od_;have q286 : x5_1 < (l0.length : Int) := od_;obtain ⟨ad286, e286, hx286_0⟩ := Kd.zi (Kd.ze b0.out).2.2 x5_1 p286 q286;cases e286;replace p286 := eq_true p286;replace q286 := eq_true q286;have p287 : 0 ≤ (x5_1 : Int) := od_;have q287 : x5_1 < (l0.length : Int) := od_;obtain ⟨ad287, e287, hx287_0⟩ := Kd.zi (Kd.ze b0.out).2.2 x5_1 p287 q287;obtain rfl : ad286 = ad287 := (by injection e287);replace p287 := eq_true p287;replace q287 := eq_true q287
       go_wp2
       go_ret
       exact ⟨_, er_, kr_ b0, be0_ HB, a7_⟩
      ·obtain ⟨d1, hy288⟩ : ∃ y_ : List Int, y_ = (([] : List Int)) := ⟨_, rfl⟩
       replace H : (if x5_1 ≤ (l0.length : Int) then ((some (l0.take (x5_1 : Int).toNat : List Int)).bind fun b3 => (if d1.length + b3.length < 17592186044416 then ((some (d1 ++ b3 : List Int)).bind fun b7 => (if b7.length < 17592186044416 then ((some (b7 ++ [a1] : List Int)).bind fun b4 => ((some (l0.drop (x5_1 : Int).toNat : List Int)).bind fun b1 => (if b4.length + b1.length < 17592186044416 then (some (b4 ++ b1)) else (none)))) else (none))) else (none))) else (none)) = some r := by first | (rw [hy288]; with_reducible exact H) | (have H2_ := (Option.bind_some _ _).symm.trans H; rw [hy288]; with_reducible exact H2_) | (have H2_ := (Option.bind_some _ _).symm.trans H; with_reducible exact H2_) | with_reducible exact H | (rw [hy288]; exact H) | exact H
       have f1 := qb.mk hy288;clear hy288;have c9b0 := eq_true (od_ : 0 ≤ x5_1);replace H := iC_ H; obtain ⟨c10, H⟩ | ⟨c10, H⟩ := H
       ·have c10b0 := eq_true c10
        have c10b1 : decide (x5_1 ≤ (l0.length : Int)) = true := decide_eq_true c10;clear c10;obtain ⟨b3, hy291⟩ : ∃ y_ : List Int, y_ = (l0.take (x5_1 : Int).toNat) := ⟨_, rfl⟩;replace H : (if d1.length + b3.length < 17592186044416 then ((some (d1 ++ b3 : List Int)).bind fun b7 => (if b7.length < 17592186044416 then ((some (b7 ++ [a1] : List Int)).bind fun b4 => ((some (l0.drop (x5_1 : Int).toNat : List Int)).bind fun b1 => (if b4.length + b1.length < 17592186044416 then (some (b4 ++ b1)) else (none)))) else (none))) else (none)) = some r := by first | (rw [hy291]; with_reducible exact H) | (have H2_ := (Option.bind_some _ _).symm.trans H; rw [hy291]; with_reducible exact H2_) | (have H2_ := (Option.bind_some _ _).symm.trans H; with_reducible exact H2_) | with_reducible exact H | (rw [hy291]; exact H) | exact H
        have b9 := qb.mk hy291;clear hy291;replace H := iC_ H; obtain ⟨c11, H⟩ | ⟨c11, H⟩ := H
        ·have LMc11 := qb.mk c11
         clear c11;obtain ⟨b7, hy295⟩ : ∃ y_ : List Int, y_ = (d1 ++ b3) := ⟨_, rfl⟩;replace H : (if b7.length < 17592186044416 then ((some (b7 ++ [a1] : List Int)).bind fun b4 => ((some (l0.drop (x5_1 : Int).toNat : List Int)).bind fun b1 => (if b4.length + b1.length < 17592186044416 then (some (b4 ++ b1)) else (none)))) else (none)) = some r := by first | (rw [hy295]; with_reducible exact H) | (have H2_ := (Option.bind_some _ _).symm.trans H; rw [hy295]; with_reducible exact H2_) | (have H2_ := (Option.bind_some _ _).symm.trans H; with_reducible exact H2_) | with_reducible exact H | (rw [hy295]; exact H) | exact H
         have f3 := qb.mk hy295;clear hy295;replace H := iC_ H; obtain ⟨c12, H⟩ | ⟨c12, H⟩ := H
         ·have LMc12 := qb.mk c12
          clear c12;obtain ⟨b4, hy298⟩ : ∃ y_ : List Int, y_ = (b7 ++ [a1]) := ⟨_, rfl⟩;replace H : ((some (l0.drop (x5_1 : Int).toNat : List Int)).bind fun b1 => (if b4.length + b1.length < 17592186044416 then (some (b4 ++ b1)) else (none))) = some r := by first | (rw [hy298]; with_reducible exact H) | (have H2_ := (Option.bind_some _ _).symm.trans H; rw [hy298]; with_reducible exact H2_) | (have H2_ := (Option.bind_some _ _).symm.trans H; with_reducible exact H2_) | with_reducible exact H | (rw [hy298]; exact H) | exact H
          have f4 := qb.mk hy298;clear hy298;have c13b0 := eq_true (od_ : 0 ≤ x5_1);have c14b0 := eq_true (od_ : x5_1 ≤ (l0.length : Int));obtain ⟨b1, hy301⟩ : ∃ y_ : List Int, y_ = (l0.drop (x5_1 : Int).toNat) := ⟨_, rfl⟩;replace H : (if b4.length + b1.length < 17592186044416 then (some (b4 ++ b1)) else (none)) = some r := by first | (rw [hy301]; with_reducible exact H) | (have H2_ := (Option.bind_some _ _).symm.trans H; rw [hy301]; with_reducible exact H2_) | (have H2_ := (Option.bind_some _ _).symm.trans H; with_reducible exact H2_) | with_reducible exact H | (rw [hy301]; exact H) | exact H
          have d3 := qb.mk hy301;clear hy301;replace H := iC_ H; obtain ⟨c15, H⟩ | ⟨c15, H⟩ := H
          ·have LMc15 := qb.mk c15
           clear c15;obtain ⟨g1, hy305⟩ : ∃ y_ : List Int, y_ = (b4 ++ b1) := ⟨_, rfl⟩;replace H : (some g1) = some r := by first | (rw [hy305]; with_reducible exact H) | (have H2_ := (Option.bind_some _ _).symm.trans H; rw [hy305]; with_reducible exact H2_) | (have H2_ := (Option.bind_some _ _).symm.trans H; with_reducible exact H2_) | with_reducible exact H | (rw [hy305]; exact H) | exact H
           have f5 := qb.mk hy305;clear hy305;obtain rfl := Option.some.inj H;obtain ⟨Ao16, co16, eo16⟩ := Kd.ja b0.out;subst eo16;have p286 : 0 ≤ (x5_1 : Int) := od_;have q286 : x5_1 < (l0.length : Int) := od_;obtain ⟨ad286, e286, hx286_0⟩ := Kd.zi (Kd.ze b0.out).2.2 x5_1 p286 q286;cases e286;replace p286 := eq_true p286;replace q286 := eq_true q286;have p287 : 0 ≤ (x5_1 : Int) := od_;have q287 : x5_1 < (l0.length : Int) := od_;obtain ⟨ad287, e287, hx287_0⟩ := Kd.zi (Kd.ze b0.out).2.2 x5_1 p287 q287;obtain rfl : ad286 = ad287 := (by injection e287);replace p287 := eq_true p287;replace q287 := eq_true q287
           go_wp2_with (first | ((with_reducible refine zc (N := 34) rfl ?_); refine Kd.R_lit (Kd.int .i64) _ 3 ?hg (N := 34) ?hd (xs := ([] : List Int)) (inner := []) (ok := fun _ => True) (okp := fun _ => True) ?hr ?hp (fun _ hk => hk) trivial (Below.refl _ _) (Nat.le_refl _) (by simp) ?_; (case hd => rfl); (case hg => rfl); (case hr => first | (go_simp; done) | (go_simp; rfl)); (case hp => exact (Reps.none _ _)); intro v289 w17 ho18 hb hg_ hnew_; clear hg_ hnew_; (first | rw [← f1.out] at ho18 | (simp only [Int.reduceToNat] at ho18; rw [← f1.out] at ho18)); have d4 := qb.mk (Kd.R_lower (Kd.R_new' (Kd.R_newM (M := fun k_ => (P0_ k_ ∨ w.heap.size ≤ k_)) ho18 a4_ (fun k_ h_ => .inr h_)) c0_) c3_); replace b0 := qb.mk (Kd.R_elder' (kr_ b0) (Kd.R_base ho18) hb); replace HK := qb.mk (Kept.below (S := (fun k_ => P0_ k_)) a7_ hb); replace HB := qb.mk ac_; clear hb ho18; have q19 : (x5_1 : Int) ≤ ((l0.length : Int) : Int) := od_; obtain ⟨i019, hi019, _, hsz19, _⟩ := info_parts info3; have hroom19 : l0.length ≤ co16 := (Kd.ze b0.out).2.1; have hC19 : Kd.C (Kd.int .i64) _ (some ad286) l0.length l0 := (Kd.ze b0.out).2.2; have hcut19 := cut_to (P := Tryz.prog) 28 3 .i64 Tryz.underlying28 hi019 (some ad286) l0.length co16 x5_1 (od_) q19 hroom19; have hr19 := Kd.C_take (m := (x5_1 : Int).toNat) hC19 (by omega); have hy19 : b3.length = (x5_1 : Int).toNat := (by rw [b9.out, List.length_take]; omega); rw [← b9.out] at hr19; rw [← hy19] at hcut19; have HR294 := qb.mk hr19; have HC294 := qb.mk (show b3.length ≤ co16 from by omega); clear hr19 hC19 hroom19 hi019 hsz19; have KY19 := qb.mk hy19; clear hy19; have KL19 := qb.mk (show (x5_1 : Int).toNat ≤ l0.length from by omega); replace q19 := eq_true q19) | ((with_reducible refine zg (b := .append) (xs := #[.tmp 34, .tmp 37]) rfl ?_); at_builtin; refine Kd.R_append_rows (Kd.int .i64) (w0 := w0) w0.heap.size rfl (.tmp 34) (.tmp 37) 28 3 (.int .i64 0) 8 rfl Tryz.underlying28 info3 rfl (by decide) (by omega) v289 d1 b3 _ _ _ (fun k_ => (P0_ k_ ∨ w.heap.size ≤ k_) ∧ some k_ ≠ (.slice (some ad286) l0.length co16 : Value).ownBlock) (fun _ => False) rfl rfl ?aO ?aR (fun _ _ h => h) (fun _ h => h.elim) ?aF ?aB ?aS ?aL ?_; (case aR => repeat (first | exact (by repeat (first | (with_reducible exact HR294.out) | (with_reducible refine Kd.zu ?_ _) | (with_reducible refine Kd.zt ?_ _) | (with_reducible refine Kd.zz ?_) | exact HR294.out)) | (with_reducible refine Kd.zu ?_ _) | (with_reducible refine Kd.zt ?_ _) | (with_reducible refine Kd.zz ?_))); (case aB => exact (be0_ HB)); (case aF => exact (fun k_ hk => ⟨(.inr (Nat.le_trans a4_ hk)), Kd.fresh' c0_ k_ hk⟩)); (case aO => exact (G3_ d4)); (case aS => exact c3_); (case aL => have := LMc11.out; omega); intro v296 w20 ho hb hg hat; rw [← f3.out] at ho; replace HB := qb.mk (hb); replace HK := qb.mk (Kept.of_grown (S := (fun k_ => P0_ k_)) hg a7_ (fun k_ e_ => (d4.out.1 k_ e_).1.1)); replace HR294 := qb.mk ((show Kd.C (Kd.int .i64) w20 (some ad286) b3.length b3 from by rw [b9.out]; exact Kd.C_take (m := (x5_1 : Int).toNat) ((Kd.ze a8_).2.2) KL19.out)); replace b0 := qb.mk a8_; have d5 := qb.mk (ho); clear d4; clear ho hb hg hat) | ((with_reducible refine zg (b := .append) (xs := #[.tmp 39, .tmp 41]) rfl ?_); at_builtin; refine Kd.R_append (Kd.int .i64) (w0 := w0) w0.heap.size rfl (.tmp 39) (.tmp 41) 28 3 (.int .i64 0) 8 rfl Tryz.underlying28 info3 rfl (by decide) (by omega) v296 b7 a1 [.int .i64 a1] (fun k_ => (P0_ k_ ∨ w.heap.size ≤ k_) ∧ some k_ ≠ (.slice (some ad286) l0.length co16 : Value).ownBlock) (fun _ => False) rfl rfl ?aP (fun _ hk => hk.elim) ?aF ?aO ?aB ?aS ?aL ?_; (case aP => exact rfl); (case aB => exact (be0_ HB)); (case aF => exact (fun k_ hk => ⟨(.inr (Nat.le_trans a4_ hk)), Kd.fresh' c0_ k_ hk⟩)); (case aO => exact (kr_ d5)); (case aS => exact c3_); (case aL => have := LMc12.out; omega); intro v299 w21 ho hb hg hat; rw [← f4.out] at ho; replace HB := qb.mk (hb); replace HK := qb.mk (G1_ d5); replace HR294 := qb.mk ((show Kd.C (Kd.int .i64) w21 (some ad286) b3.length b3 from by rw [b9.out]; exact Kd.C_take (m := (x5_1 : Int).toNat) ((Kd.ze a8_).2.2) KL19.out)); replace b0 := qb.mk a8_; have d6 := qb.mk (ho); clear d5; clear ho hb hg hat; have q22 : (x5_1 : Int) ≤ ((l0.length : Int) : Int) := od_; obtain ⟨i022, hi022, _, hsz22, _⟩ := info_parts info3; have hroom22 : l0.length ≤ co16 := (Kd.ze b0.out).2.1; have hC22 : Kd.C (Kd.int .i64) _ (some ad286) l0.length l0 := (Kd.ze b0.out).2.2; have q022 : (0 : Int) ≤ (x5_1 : Int) := od_; have hcut22 := cut_from (P := Tryz.prog) 28 3 .i64 Tryz.underlying28 hi022 1 hsz22 (some ad286) l0.length co16 x5_1 q022 q22; have hr22 := Kd.C_drop (m := (x5_1 : Int).toNat) (c := co16) hC22 (by omega) hroom22; obtain ⟨A22, hA22⟩ : ∃ A1, A1 = (if co16 = (x5_1 : Int).toNat then (some ad286) else ((some ad286) : Option Addr).map (·.add ((x5_1 : Int).toNat * 1))) := ⟨_, rfl⟩; obtain ⟨c22, hc22⟩ : ∃ c1, c1 = co16 - (x5_1 : Int).toNat := ⟨_, rfl⟩; have hy22 : b1.length = l0.length - (x5_1 : Int).toNat := (by rw [d3.out, List.length_drop] <;> omega); rw [show (l0).drop (x5_1 : Int).toNat = b1 from d3.out.symm] at hr22; replace hr22 : Kd.C (Kd.int .i64) _ A22 b1.length b1 := (by rw [hA22]; exact hr22); rw [← hy22, ← hA22, ← hc22] at hcut22; have HR304 := qb.mk hr22; have HC304 := qb.mk (show b1.length ≤ c22 from by rw [hy22, hc22]; exact Nat.sub_le_sub_right hroom22 _); clear hr22 hC22 hroom22 hi022 hsz22 hc22; have KY22 := qb.mk hy22; have KA22 := qb.mk hA22; clear hy22 hA22; have KL22 := qb.mk (show (x5_1 : Int).toNat ≤ l0.length from by omega); replace q22 := eq_true q22) | ((with_reducible refine zg (b := .append) (xs := #[.tmp 43, .tmp 46]) rfl ?_); at_builtin; refine Kd.R_append_rows (Kd.int .i64) (w0 := w0) w0.heap.size rfl (.tmp 43) (.tmp 46) 28 3 (.int .i64 0) 8 rfl Tryz.underlying28 info3 rfl (by decide) (by omega) v299 b4 b1 _ _ _ (fun k_ => (P0_ k_ ∨ w.heap.size ≤ k_) ∧ some k_ ≠ (.slice (some ad286) l0.length co16 : Value).ownBlock) (fun _ => False) rfl rfl ?aO ?aR (fun _ _ h => h) (fun _ h => h.elim) ?aF ?aB ?aS ?aL ?_; (case aR => repeat (first | exact (by repeat (first | (with_reducible exact HR304.out) | (with_reducible refine Kd.zu ?_ _) | (with_reducible refine Kd.zt ?_ _) | (with_reducible refine Kd.zz ?_) | exact HR304.out)) | (with_reducible refine Kd.zu ?_ _) | (with_reducible refine Kd.zt ?_ _) | (with_reducible refine Kd.zz ?_))); (case aB => exact (be0_ HB)); (case aF => exact (fun k_ hk => ⟨(.inr (Nat.le_trans a4_ hk)), Kd.fresh' c0_ k_ hk⟩)); (case aO => exact (kr_ d6)); (case aS => exact c3_); (case aL => have := LMc15.out; omega); intro v306 w23 ho hb hg hat; rw [← f5.out] at ho; replace HB := qb.mk (hb); replace HK := qb.mk (G1_ d6); replace HR294 := qb.mk ((show Kd.C (Kd.int .i64) w23 (some ad286) b3.length b3 from by rw [b9.out]; exact Kd.C_take (m := (x5_1 : Int).toNat) ((Kd.ze a8_).2.2) KL19.out)); replace HR304 := qb.mk ((show Kd.C (Kd.int .i64) w23 A22 b1.length b1 from by rw [d3.out, KA22.out]; exact Kd.C_drop (m := (x5_1 : Int).toNat) (c := co16) ((Kd.ze a8_).2.2) KL22.out ((Kd.ze a8_).2.1))); replace b0 := qb.mk a8_; have f6 := qb.mk (ho); clear d6; clear ho hb hg hat))
           go_ret
           exact ⟨_, er_, (by (with_reducible repeat (first | apply Kd.qu | apply Kd.qt | apply Kd.qv)); exact Kd.zl f6.out (fun _ hk => hk.1)), be0_ HB, a7_⟩
          ·cases H
         ·cases H
        ·cases H
       ·cases H
    ·cases H
   ·obtain ⟨d2, hy308⟩ : ∃ y_ : List Int, y_ = (([] : List Int)) := ⟨_, rfl⟩
    replace H : (if 0 ≤ x5_1 then (if x5_1 ≤ (l0.length : Int) then ((some (l0.take (x5_1 : Int).toNat : List Int)).bind fun b5 => (if d2.length + b5.length < 17592186044416 then ((some (d2 ++ b5 : List Int)).bind fun b8 => (if b8.length < 17592186044416 then ((some (b8 ++ [a1] : List Int)).bind fun b6 => ((some (l0.drop (x5_1 : Int).toNat : List Int)).bind fun b2 => (if b6.length + b2.length < 17592186044416 then (some (b6 ++ b2)) else (none)))) else (none))) else (none))) else (none)) else (none)) = some r := by first | (rw [hy308]; with_reducible exact H) | (have H2_ := (Option.bind_some _ _).symm.trans H; rw [hy308]; with_reducible exact H2_) | (have H2_ := (Option.bind_some _ _).symm.trans H; with_reducible exact H2_) | with_reducible exact H | (rw [hy308]; exact H) | exact H
    have f2 := qb.mk hy308;clear hy308;replace H := iC_ H; obtain ⟨c24, H⟩ | ⟨c24, H⟩ := H
    ·have c24b0 := eq_true c24
     have c24b1 : decide (0 ≤ x5_1) = true := decide_eq_true c24;clear c24;replace H := iC_ H; obtain ⟨c25, H⟩ | ⟨c25, H⟩ := H
     ·have c25b0 := eq_true c25
      have c25b1 : decide (x5_1 ≤ (l0.length : Int)) = true := decide_eq_true c25;clear c25;obtain ⟨b5, hy311⟩ : ∃ y_ : List Int, y_ = (l0.take (x5_1 : Int).toNat) := ⟨_, rfl⟩;replace H : (if d2.length + b5.length < 17592186044416 then ((some (d2 ++ b5 : List Int)).bind fun b8 => (if b8.length < 17592186044416 then ((some (b8 ++ [a1] : List Int)).bind fun b6 => ((some (l0.drop (x5_1 : Int).toNat : List Int)).bind fun b2 => (if b6.length + b2.length < 17592186044416 then (some (b6 ++ b2)) else (none)))) else (none))) else (none)) = some r := by first | (rw [hy311]; with_reducible exact H) | (have H2_ := (Option.bind_some _ _).symm.trans H; rw [hy311]; with_reducible exact H2_) | (have H2_ := (Option.bind_some _ _).symm.trans H; with_reducible exact H2_) | with_reducible exact H | (rw [hy311]; exact H) | exact H
      have d0 := qb.mk hy311;clear hy311;replace H := iC_ H; obtain ⟨c26, H⟩ | ⟨c26, H⟩ := H
      ·have LMc26 := qb.mk c26
       clear c26;obtain ⟨b8, hy315⟩ : ∃ y_ : List Int, y_ = (d2 ++ b5) := ⟨_, rfl⟩;replace H : (if b8.length < 17592186044416 then ((some (b8 ++ [a1] : List Int)).bind fun b6 => ((some (l0.drop (x5_1 : Int).toNat : List Int)).bind fun b2 => (if b6.length + b2.length < 17592186044416 then (some (b6 ++ b2)) else (none)))) else (none)) = some r := by first | (rw [hy315]; with_reducible exact H) | (have H2_ := (Option.bind_some _ _).symm.trans H; rw [hy315]; with_reducible exact H2_) | (have H2_ := (Option.bind_some _ _).symm.trans H; with_reducible exact H2_) | with_reducible exact H | (rw [hy315]; exact H) | exact H
       have f7 := qb.mk hy315;clear hy315;replace H := iC_ H; obtain ⟨c27, H⟩ | ⟨c27, H⟩ := H
       ·have LMc27 := qb.mk c27
        clear c27;obtain ⟨b6, hy318⟩ : ∃ y_ : List Int, y_ = (b8 ++ [a1]) := ⟨_, rfl⟩;replace H : ((some (l0.drop (x5_1 : Int).toNat : List Int)).bind fun b2 => (if b6.length + b2.length < 17592186044416 then (some (b6 ++ b2)) else (none))) = some r := by first | (rw [hy318]; with_reducible exact H) | (have H2_ := (Option.bind_some _ _).symm.trans H; rw [hy318]; with_reducible exact H2_) | (have H2_ := (Option.bind_some _ _).symm.trans H; with_reducible exact H2_) | with_reducible exact H | (rw [hy318]; exact H) | exact H
        have f8 := qb.mk hy318;clear hy318;have c28b0 := eq_true (od_ : 0 ≤ x5_1);have c29b0 := eq_true (od_ : x5_1 ≤ (l0.length : Int));obtain ⟨b2, hy321⟩ : ∃ y_ : List Int, y_ = (l0.drop (x5_1 : Int).toNat) := ⟨_, rfl⟩;replace H : (if b6.length + b2.length < 17592186044416 then (some (b6 ++ b2)) else (none)) = some r := by first | (rw [hy321]; with_reducible exact H) | (have H2_ := (Option.bind_some _ _).symm.trans H; rw [hy321]; with_reducible exact H2_) | (have H2_ := (Option.bind_some _ _).symm.trans H; with_reducible exact H2_) | with_reducible exact H | (rw [hy321]; exact H) | exact H
        have d7 := qb.mk hy321;clear hy321;replace H := iC_ H; obtain ⟨c30, H⟩ | ⟨c30, H⟩ := H
        ·have LMc30 := qb.mk c30
         clear c30;obtain ⟨g2, hy325⟩ : ∃ y_ : List Int, y_ = (b6 ++ b2) := ⟨_, rfl⟩;replace H : (some g2) = some r := by first | (rw [hy325]; with_reducible exact H) | (have H2_ := (Option.bind_some _ _).symm.trans H; rw [hy325]; with_reducible exact H2_) | (have H2_ := (Option.bind_some _ _).symm.trans H; with_reducible exact H2_) | with_reducible exact H | (rw [hy325]; exact H) | exact H
         have f9 := qb.mk hy325;clear hy325;obtain rfl := Option.some.inj H;obtain ⟨Ao31, co31, eo31⟩ := Kd.ja b0.out;subst eo31
         go_wp2_with (first | ((with_reducible refine zc (N := 34) rfl ?_); refine Kd.R_lit (Kd.int .i64) _ 3 ?hg (N := 34) ?hd (xs := ([] : List Int)) (inner := []) (ok := fun _ => True) (okp := fun _ => True) ?hr ?hp (fun _ hk => hk) trivial (Below.refl _ _) (Nat.le_refl _) (by simp) ?_; (case hd => rfl); (case hg => rfl); (case hr => first | (go_simp; done) | (go_simp; rfl)); (case hp => exact (Reps.none _ _)); intro v309 w32 ho33 hb hg_ hnew_; clear hg_ hnew_; (first | rw [← f2.out] at ho33 | (simp only [Int.reduceToNat] at ho33; rw [← f2.out] at ho33)); have d8 := qb.mk (Kd.R_lower (Kd.R_new' (Kd.R_newM (M := fun k_ => (P0_ k_ ∨ w.heap.size ≤ k_)) ho33 a4_ (fun k_ h_ => .inr h_)) c0_) c3_); replace b0 := qb.mk (Kd.R_elder' (kr_ b0) (Kd.R_base ho33) hb); replace HK := qb.mk (Kept.below (S := (fun k_ => P0_ k_)) a7_ hb); replace HB := qb.mk ac_; clear hb ho33; have q34 : (x5_1 : Int) ≤ ((l0.length : Int) : Int) := od_; obtain ⟨i034, hi034, _, hsz34, _⟩ := info_parts info3; have hroom34 : l0.length ≤ co31 := (Kd.ze b0.out).2.1; have hC34 : Kd.C (Kd.int .i64) _ Ao31 l0.length l0 := (Kd.ze b0.out).2.2; have hcut34 := cut_to (P := Tryz.prog) 28 3 .i64 Tryz.underlying28 hi034 Ao31 l0.length co31 x5_1 (od_) q34 hroom34; have hr34 := Kd.C_take (m := (x5_1 : Int).toNat) hC34 (by omega); have hy34 : b5.length = (x5_1 : Int).toNat := (by rw [d0.out, List.length_take]; omega); rw [← d0.out] at hr34; rw [← hy34] at hcut34; have HR314 := qb.mk hr34; have HC314 := qb.mk (show b5.length ≤ co31 from by omega); clear hr34 hC34 hroom34 hi034 hsz34; have KY34 := qb.mk hy34; clear hy34; have KL34 := qb.mk (show (x5_1 : Int).toNat ≤ l0.length from by omega); replace q34 := eq_true q34) | ((with_reducible refine zg (b := .append) (xs := #[.tmp 34, .tmp 37]) rfl ?_); at_builtin; refine Kd.R_append_rows (Kd.int .i64) (w0 := w0) w0.heap.size rfl (.tmp 34) (.tmp 37) 28 3 (.int .i64 0) 8 rfl Tryz.underlying28 info3 rfl (by decide) (by omega) v309 d2 b5 _ _ _ (fun k_ => (P0_ k_ ∨ w.heap.size ≤ k_) ∧ some k_ ≠ (.slice Ao31 l0.length co31 : Value).ownBlock) (fun _ => False) rfl rfl ?aO ?aR (fun _ _ h => h) (fun _ h => h.elim) ?aF ?aB ?aS ?aL ?_; (case aR => repeat (first | exact (by repeat (first | (with_reducible exact HR314.out) | (with_reducible refine Kd.zu ?_ _) | (with_reducible refine Kd.zt ?_ _) | (with_reducible refine Kd.zz ?_) | exact HR314.out)) | (with_reducible refine Kd.zu ?_ _) | (with_reducible refine Kd.zt ?_ _) | (with_reducible refine Kd.zz ?_))); (case aB => exact (be0_ HB)); (case aF => exact (fun k_ hk => ⟨(.inr (Nat.le_trans a4_ hk)), Kd.fresh' c0_ k_ hk⟩)); (case aO => exact (G3_ d8)); (case aS => exact c3_); (case aL => have := LMc26.out; omega); intro v316 w35 ho hb hg hat; rw [← f7.out] at ho; replace HB := qb.mk (hb); replace HK := qb.mk (Kept.of_grown (S := (fun k_ => P0_ k_)) hg a7_ (fun k_ e_ => (d8.out.1 k_ e_).1.1)); replace HR314 := qb.mk ((show Kd.C (Kd.int .i64) w35 Ao31 b5.length b5 from by rw [d0.out]; exact Kd.C_take (m := (x5_1 : Int).toNat) ((Kd.ze a8_).2.2) KL34.out)); replace b0 := qb.mk a8_; have d9 := qb.mk (ho); clear d8; clear ho hb hg hat) | ((with_reducible refine zg (b := .append) (xs := #[.tmp 39, .tmp 41]) rfl ?_); at_builtin; refine Kd.R_append (Kd.int .i64) (w0 := w0) w0.heap.size rfl (.tmp 39) (.tmp 41) 28 3 (.int .i64 0) 8 rfl Tryz.underlying28 info3 rfl (by decide) (by omega) v316 b8 a1 [.int .i64 a1] (fun k_ => (P0_ k_ ∨ w.heap.size ≤ k_) ∧ some k_ ≠ (.slice Ao31 l0.length co31 : Value).ownBlock) (fun _ => False) rfl rfl ?aP (fun _ hk => hk.elim) ?aF ?aO ?aB ?aS ?aL ?_; (case aP => exact rfl); (case aB => exact (be0_ HB)); (case aF => exact (fun k_ hk => ⟨(.inr (Nat.le_trans a4_ hk)), Kd.fresh' c0_ k_ hk⟩)); (case aO => exact (kr_ d9)); (case aS => exact c3_); (case aL => have := LMc27.out; omega); intro v319 w36 ho hb hg hat; rw [← f8.out] at ho; replace HB := qb.mk (hb); replace HK := qb.mk (G1_ d9); replace HR314 := qb.mk ((show Kd.C (Kd.int .i64) w36 Ao31 b5.length b5 from by rw [d0.out]; exact Kd.C_take (m := (x5_1 : Int).toNat) ((Kd.ze a8_).2.2) KL34.out)); replace b0 := qb.mk a8_; have f0 := qb.mk (ho); clear d9; clear ho hb hg hat; have q37 : (x5_1 : Int) ≤ ((l0.length : Int) : Int) := od_; obtain ⟨i037, hi037, _, hsz37, _⟩ := info_parts info3; have hroom37 : l0.length ≤ co31 := (Kd.ze b0.out).2.1; have hC37 : Kd.C (Kd.int .i64) _ Ao31 l0.length l0 := (Kd.ze b0.out).2.2; have q037 : (0 : Int) ≤ (x5_1 : Int) := od_; have hcut37 := cut_from (P := Tryz.prog) 28 3 .i64 Tryz.underlying28 hi037 1 hsz37 Ao31 l0.length co31 x5_1 q037 q37; have hr37 := Kd.C_drop (m := (x5_1 : Int).toNat) (c := co31) hC37 (by omega) hroom37; obtain ⟨A37, hA37⟩ : ∃ A1, A1 = (if co31 = (x5_1 : Int).toNat then Ao31 else (Ao31 : Option Addr).map (·.add ((x5_1 : Int).toNat * 1))) := ⟨_, rfl⟩; obtain ⟨c37, hc37⟩ : ∃ c1, c1 = co31 - (x5_1 : Int).toNat := ⟨_, rfl⟩; have hy37 : b2.length = l0.length - (x5_1 : Int).toNat := (by rw [d7.out, List.length_drop] <;> omega); rw [show (l0).drop (x5_1 : Int).toNat = b2 from d7.out.symm] at hr37; replace hr37 : Kd.C (Kd.int .i64) _ A37 b2.length b2 := (by rw [hA37]; exact hr37); rw [← hy37, ← hA37, ← hc37] at hcut37; have HR324 := qb.mk hr37; have HC324 := qb.mk (show b2.length ≤ c37 from by rw [hy37, hc37]; exact Nat.sub_le_sub_right hroom37 _); clear hr37 hC37 hroom37 hi037 hsz37 hc37; have KY37 := qb.mk hy37; have KA37 := qb.mk hA37; clear hy37 hA37; have KL37 := qb.mk (show (x5_1 : Int).toNat ≤ l0.length from by omega); replace q37 := eq_true q37) | ((with_reducible refine zg (b := .append) (xs := #[.tmp 43, .tmp 46]) rfl ?_); at_builtin; refine Kd.R_append_rows (Kd.int .i64) (w0 := w0) w0.heap.size rfl (.tmp 43) (.tmp 46) 28 3 (.int .i64 0) 8 rfl Tryz.underlying28 info3 rfl (by decide) (by omega) v319 b6 b2 _ _ _ (fun k_ => (P0_ k_ ∨ w.heap.size ≤ k_) ∧ some k_ ≠ (.slice Ao31 l0.length co31 : Value).ownBlock) (fun _ => False) rfl rfl ?aO ?aR (fun _ _ h => h) (fun _ h => h.elim) ?aF ?aB ?aS ?aL ?_; (case aR => repeat (first | exact (by repeat (first | (with_reducible exact HR324.out) | (with_reducible refine Kd.zu ?_ _) | (with_reducible refine Kd.zt ?_ _) | (with_reducible refine Kd.zz ?_) | exact HR324.out)) | (with_reducible refine Kd.zu ?_ _) | (with_reducible refine Kd.zt ?_ _) | (with_reducible refine Kd.zz ?_))); (case aB => exact (be0_ HB)); (case aF => exact (fun k_ hk => ⟨(.inr (Nat.le_trans a4_ hk)), Kd.fresh' c0_ k_ hk⟩)); (case aO => exact (kr_ f0)); (case aS => exact c3_); (case aL => have := LMc30.out; omega); intro v326 w38 ho hb hg hat; rw [← f9.out] at ho; replace HB := qb.mk (hb); replace HK := qb.mk (G1_ f0); replace HR314 := qb.mk ((show Kd.C (Kd.int .i64) w38 Ao31 b5.length b5 from by rw [d0.out]; exact Kd.C_take (m := (x5_1 : Int).toNat) ((Kd.ze a8_).2.2) KL34.out)); replace HR324 := qb.mk ((show Kd.C (Kd.int .i64) w38 A37 b2.length b2 from by rw [d7.out, KA37.out]; exact Kd.C_drop (m := (x5_1 : Int).toNat) (c := co31) ((Kd.ze a8_).2.2) KL37.out ((Kd.ze a8_).2.1))); replace b0 := qb.mk a8_; have g0 := qb.mk (ho); clear f0; clear ho hb hg hat))
         go_ret
         exact ⟨_, er_, (by (with_reducible repeat (first | apply Kd.qu | apply Kd.qt | apply Kd.qv)); exact Kd.zl g0.out (fun _ hk => hk.1)), be0_ HB, a7_⟩
        ·cases H
       ·cases H
      ·cases H
     ·cases H
    ·cases H
def spec_NumbersOf.setIter (W : World) (g : Nat) (o : Obj) : World := { W with heap := W.heap.setIfInBounds g o }
theorem spec_NumbersOf.next_at {P : Program} (W : World) (g : Nat) (s : ByteArray) (pos : Nat) (ty : TypeId) (hi : W.heap[g]? = some (.stringIter s pos)) (h : pos < s.size) (ha : (s[pos]'h).toNat < 128) :
  (Instr.next (.pointer (some ⟨g, 0, none⟩)) true ty).run P W = .ok (.tuple #[.bool true, .int .i64 pos, .int .i32 (s[pos]'h).toNat]) (spec_NumbersOf.setIter W g (.stringIter s (pos + 1))) := by
 simp only [Instr.next, getObj, setObj, Sem.run_bind, Sem.run, hi, Result.andThen, h, if_true, decode_ascii s pos h ha]
 simp [goInt, Sem.run, hi, spec_NumbersOf.setIter]
theorem spec_NumbersOf.next_end {P : Program} (W : World) (g : Nat) (s : ByteArray) (pos : Nat) (ty : TypeId) (hi : W.heap[g]? = some (.stringIter s pos)) (h : ¬ pos < s.size) :
  (Instr.next (.pointer (some ⟨g, 0, none⟩)) true ty).run P W = .ok (.tuple #[.bool false]) W := by
 simp [Instr.next, getObj, Sem.run, hi, h]
theorem spec_NumbersOf.setIter_other {W : World} {g k : Nat} (o : Obj) (h : k ≠ g) : (spec_NumbersOf.setIter W g o).heap[k]? = W.heap[k]? := by
 simp [spec_NumbersOf.setIter, Array.getElem?_setIfInBounds, Ne.symm h]
theorem spec_NumbersOf.setIter_same {W : World} {g : Nat} (o : Obj) (h : g < W.heap.size) : (spec_NumbersOf.setIter W g o).heap[g]? = some o := by
 simp [spec_NumbersOf.setIter, Array.getElem?_setIfInBounds, h]
theorem spec_NumbersOf.setIter_size (W : World) (g : Nat) (o : Obj) : (spec_NumbersOf.setIter W g o).heap.size = W.heap.size := by simp [spec_NumbersOf.setIter]
theorem spec_NumbersOf.setIter_below {w W : World} {b g : Nat} (h : Below b w W) (hg : b ≤ g) (o : Obj) : Below b w (spec_NumbersOf.setIter W g o) :=
 ⟨h.os, h.tape, h.output, (by rw [spec_NumbersOf.setIter_size]; exact h.size), fun k hk => (spec_NumbersOf.setIter_other o (by omega)).trans (h.block k hk)⟩
def spec_NumbersOf.puts (k : Nat) : List Int → List Int → Option (List Int)
 | out, [] => some out
 | out, n :: l => (spec_l1Put.f k out n).bind fun o => spec_NumbersOf.puts k o l
theorem spec_NumbersOf.puts_snoc (k : Nat) (n : Int) : ∀ (l out : List Int), spec_NumbersOf.puts k out (l ++ [n]) = (spec_NumbersOf.puts k out l).bind fun o => spec_l1Put.f k o n
 | [], out => by simp [spec_NumbersOf.puts]
 | m :: l, out => by
  simp only [List.cons_append, spec_NumbersOf.puts]
  cases spec_l1Put.f k out m with
  | none => rfl
  | some o => exact spec_NumbersOf.puts_snoc k n l o
theorem spec_NumbersOf.puts_take {k : Nat} {hs out r : List Int} (h : spec_NumbersOf.puts k out hs = some r) : ∀ d i : Nat, i + d = hs.length → ∃ o, spec_NumbersOf.puts k out (hs.take i) = some o
 | 0, i, hi => ⟨r, (by rw [List.take_of_length_le (by omega)]; exact h)⟩
 | d + 1, i, hi => by
  obtain ⟨o, ho⟩ := spec_NumbersOf.puts_take h d (i + 1) (by omega)
  rw [List.take_succ_eq_append_getElem (by omega), spec_NumbersOf.puts_snoc] at ho
  exact o0_
theorem spec_NumbersOf.puts_step {k : Nat} {hs out r o : List Int} {i : Nat} (h : spec_NumbersOf.puts k out hs = some r) (hi : i < hs.length) (ho : spec_NumbersOf.puts k out (hs.take i) = some o) : ∃ o', spec_l1Put.f k o hs[i] = some o' ∧ spec_NumbersOf.puts k out (hs.take (i + 1)) = some o' := by
 obtain ⟨o', h1⟩ := spec_NumbersOf.puts_take h (hs.length - (i + 1)) (i + 1) (by omega)
 have h2 := h1
 rw [List.take_succ_eq_append_getElem hi, spec_NumbersOf.puts_snoc, ho] at h2
 exact ⟨o', h2, h1⟩
def spec_NumbersOf.rows (k : Nat) (a0_0 a0_1 : Int) (a1 : ByteArray) : Nat → Option (List Int)
 | 0 => some []
 | j + 1 => (spec_NumbersOf.rows k a0_0 a0_1 a1 j).bind fun out => (spec_poHouses.f k a0_0 a0_1 a1 (j : Int) 0).bind fun hs => if hs.length ≤ 1000000 then spec_NumbersOf.puts k out hs else none
theorem spec_NumbersOf.rows_at {k : Nat} {a0_0 a0_1 : Int} {a1 : ByteArray} {n : Nat} {r : List Int} (h : spec_NumbersOf.rows k a0_0 a0_1 a1 n = some r) : ∀ d j : Nat, j + d = n → ∃ o, spec_NumbersOf.rows k a0_0 a0_1 a1 j = some o
 | 0, j, hj => ⟨r, (by rw [show j = n by omega]; exact h)⟩
 | d + 1, j, hj => by
  obtain ⟨o, ho⟩ := spec_NumbersOf.rows_at h d (j + 1) (by omega)
  exact o0_
theorem spec_NumbersOf.rows_step {k : Nat} {a0_0 a0_1 : Int} {a1 : ByteArray} {n j : Nat} {r o : List Int} (h : spec_NumbersOf.rows k a0_0 a0_1 a1 n = some r) (hj : j < n) (ho : spec_NumbersOf.rows k a0_0 a0_1 a1 j = some o) : ∃ hs o', spec_poHouses.f k a0_0 a0_1 a1 (j : Int) 0 = some hs ∧ hs.length ≤ 1000000 ∧ spec_NumbersOf.puts k o hs = some o' ∧ spec_NumbersOf.rows k a0_0 a0_1 a1 (j + 1) = some o' := by
 obtain ⟨o', h1⟩ := spec_NumbersOf.rows_at h (n - (j + 1)) (j + 1) (by omega)
 have h2 := h1
 rw [spec_NumbersOf.rows, ho, Option.bind_some] at h2
 obtain ⟨hs, h3, h4⟩ := Option.bind_eq_some_iff.mp h2
 by_cases h5 : hs.length ≤ 1000000
 ·rw [if_pos h5] at h4
  exact ⟨hs, o', h3, h5, h4, h1⟩
 ·rw [if_neg h5] at h4
  cases h4
def spec_NumbersOf.ascii (a : ByteArray) : Bool := a.data.toList.all fun b => decide (b.toNat < 128)
def spec_NumbersOf.f (k : Nat) (a0_0 : Int) (a0_1 : Int) (a1 : ByteArray) : Option (List Int × Bool) := (spec_poFits.f k a0_0 a0_1 a1).bind fun t => if t = true then (if spec_NumbersOf.ascii a1 = true then (spec_NumbersOf.rows k a0_0 a0_1 a1 a1.size).bind fun l => some (l, true) else none) else some ([], false)
theorem spec_NumbersOf.puts_mono (k : Nat) : ∀ l out : List Int, LeO (spec_NumbersOf.puts k out l) (spec_NumbersOf.puts (k + 1) out l)
 | [], out => LeO.refl _
 | n :: l, out => LeO.bind (spec_l1Put.mono _ _ _) (fun o => spec_NumbersOf.puts_mono k l o)
theorem spec_NumbersOf.rows_mono (k : Nat) (a0_0 a0_1 : Int) (a1 : ByteArray) : ∀ j, LeO (spec_NumbersOf.rows k a0_0 a0_1 a1 j) (spec_NumbersOf.rows (k + 1) a0_0 a0_1 a1 j)
 | 0 => LeO.refl _
 | j + 1 => LeO.bind (spec_NumbersOf.rows_mono k a0_0 a0_1 a1 j) (fun o => LeO.bind (spec_poHouses.mono _ _ _ _ _ _) (fun hs => LeO.ite (spec_NumbersOf.puts_mono k hs o) (LeO.refl _)))
theorem spec_NumbersOf.mono : ∀ a0 a1 a2 k, LeO (spec_NumbersOf.f k a0 a1 a2) (spec_NumbersOf.f (k + 1) a0 a1 a2) := by
 intro a0 a1 a2 k
 unfold spec_NumbersOf.f
 exact LeO.bind (spec_poFits.mono _ _ _ _) (fun _ => LeO.ite (LeO.ite (LeO.bind (spec_NumbersOf.rows_mono k _ _ _ _) (fun _ => LeO.refl _)) (LeO.refl _)) (LeO.refl _))
structure spec_NumbersOf.RW (w wr : World) (g : Nat) (a0_0 a0_1 : Int) (a1 : ByteArray) (j : Nat) (v : Value) (xs : List Int) : Prop where
  box : wr.heap[w.heap.size]? = some (.cells #[.int .i64 a0_0, .int .i64 a0_1] 25 (0, 0))
  it : wr.heap[g]? = some (.stringIter a1 j)
  hg : w.heap.size < g
  row : Kd.R (Kd.int .i64) 3 wr w.heap.size (fun k_ => k_ ≠ w.heap.size ∧ k_ ≠ g) v xs
  bel : Below w.heap.size w wr
theorem spec_NumbersOf.ascii_at {a : ByteArray} (h : spec_NumbersOf.ascii a = true) {j : Nat} (hj : j < a.size) : (a[j]'hj).toNat < 128 := by
 have h1 := List.all_eq_true.1 h (a.data.toList[j]'(by simpa using hj)) (List.getElem_mem _)
 have h2 : (a.data[j]'hj).toNat < 128 := by simpa using h1
 exact h2
theorem spec_NumbersOf.RW.next {w wr : World} {g : Nat} {a0_0 a0_1 : Int} {a1 : ByteArray} {j : Nat} {v : Value} {xs : List Int} (h : spec_NumbersOf.RW w wr g a0_0 a0_1 a1 j v xs) (j' : Nat) : spec_NumbersOf.RW w (spec_NumbersOf.setIter wr g (.stringIter a1 j')) g a0_0 a0_1 a1 j' v xs :=
 ⟨(spec_NumbersOf.setIter_other _ (by have := h.hg; omega)).trans h.box, spec_NumbersOf.setIter_same _ (zv h.it), h.hg, Kd.R_step h.row (fun k hk _ => spec_NumbersOf.setIter_other _ hk.2), spec_NumbersOf.setIter_below h.bel (by have := h.hg; omega) _⟩
theorem spec_NumbersOf.RW.below {w wr w1 : World} {g : Nat} {a0_0 a0_1 : Int} {a1 : ByteArray} {j : Nat} {v : Value} {xs : List Int} (h : spec_NumbersOf.RW w wr g a0_0 a0_1 a1 j v xs) (hb : Below wr.heap.size wr w1) : spec_NumbersOf.RW w w1 g a0_0 a0_1 a1 j v xs :=
 ⟨(hb.block _ (zv h.box)).trans h.box, (hb.block _ (zv h.it)).trans h.it, h.hg, Kd.jb h.row hb, below_then h.bel h.bel.size hb⟩
def spec_NumbersOf.P0 (w : World) (g : Nat) (v5 : Value) (k : Nat) : Prop := (k ≠ w.heap.size ∧ k ≠ g) ∧ some k ≠ v5.ownBlock
structure spec_NumbersOf.IV (w wr : World) (g : Nat) (a0_0 a0_1 : Int) (a1 : ByteArray) (j : Nat) (v5 : Value) (hs : List Int) (v : Value) (xs : List Int) : Prop where
  box : wr.heap[w.heap.size]? = some (.cells #[.int .i64 a0_0, .int .i64 a0_1] 25 (0, 0))
  it : wr.heap[g]? = some (.stringIter a1 j)
  hg : w.heap.size < g
  row : Kd.R (Kd.int .i64) 3 wr w.heap.size (fun k_ => spec_NumbersOf.P0 w g v5 k_) v xs
  five : Kd.R (Kd.int .i64) 3 wr w.heap.size (fun k_ => some k_ = v5.ownBlock) v5 hs
  bel : Below w.heap.size w wr
theorem spec_NumbersOf.IV.put {w wr w1 : World} {g : Nat} {a0_0 a0_1 : Int} {a1 : ByteArray} {j : Nat} {v5 v v1 : Value} {hs xs ys : List Int} (h : spec_NumbersOf.IV w wr g a0_0 a0_1 a1 j v5 hs v xs) (hR : Kd.R (Kd.int .i64) 3 w1 w.heap.size (fun k_ => (spec_NumbersOf.P0 w g v5 k_ ∨ wr.heap.size ≤ k_)) v1 ys) (hb : Below w.heap.size w w1) (hk : Kept wr w1 (fun k_ => spec_NumbersOf.P0 w g v5 k_)) : spec_NumbersOf.IV w w1 g a0_0 a0_1 a1 j v5 hs v1 ys := by
 have kb := zv h.box
 have ki := zv h.it
 have k5 := Kd.R_lt h.five
 refine ⟨(hk.2 _ kb (fun e => e.1.1 rfl)).trans h.box, (hk.2 _ ki (fun e => e.1.2 rfl)).trans h.it, h.hg, Kd.zl hR (fun k hk' => ?_), Kd.R_step h.five (fun k e hlt => hk.2 _ hlt (fun e' => e'.2 e)), hb⟩
 rcases hk' with hk' | hk'
 ·exact hk'
 ·exact ⟨⟨(by omega), (by omega)⟩, fun e => by have := k5 k e.symm; omega⟩
theorem spec_NumbersOf.IV.start {w wr w5 : World} {g : Nat} {a0_0 a0_1 : Int} {a1 : ByteArray} {j : Nat} {v5 v : Value} {hs xs : List Int} (h : spec_NumbersOf.RW w wr g a0_0 a0_1 a1 j v xs) (h5 : Kd.R (Kd.int .i64) 3 w5 wr.heap.size (fun _ => True) v5 hs) (hb : Below wr.heap.size wr w5) : spec_NumbersOf.IV w w5 g a0_0 a0_1 a1 j v5 hs v xs := by
 have h2 := h.below hb
 have hlt := Kd.R_lt h.row
 have hge := Kd.R_base h5
 refine ⟨h2.box, h2.it, h2.hg, Kd.zl (Kd.R_tight rfl h2.row) (fun k hk => ⟨h2.row.1 k hk.symm, fun e => ?_⟩), Kd.R_lower (Kd.R_tight rfl h5) h.bel.size, h2.bel⟩
 have e1 := hlt k hk.symm
 have e2 := hge k e.symm
 omega
theorem spec_NumbersOf.IV.out {w wr : World} {g : Nat} {a0_0 a0_1 : Int} {a1 : ByteArray} {j : Nat} {v5 v : Value} {hs xs : List Int} (h : spec_NumbersOf.IV w wr g a0_0 a0_1 a1 j v5 hs v xs) : spec_NumbersOf.RW w wr g a0_0 a0_1 a1 j v xs :=
 ⟨h.box, h.it, h.hg, Kd.zl h.row (fun _ hk => hk.1), h.bel⟩
set_option maxHeartbeats 4000000 in
set_option maxRecDepth 100000 in
theorem spec_NumbersOf.calls (k : Nat) (a0_0 : Int) (a0_1 : Int) (a1 : ByteArray) (r1 : List Int) (r2 : Bool) (w : World) (h : spec_NumbersOf.f k a0_0 a0_1 a1 = some (r1, r2)) :
  Calls Tryz.prog 9 #[.agg #[.int .i64 a0_0, .int .i64 a0_1], .string a1] w fun e w' => ∃ v0_ : Value, e = .returned (.tuple #[v0_, .bool r2]) ∧ Kd.R (Kd.int .i64) 3 w' w.heap.size (fun _ => True) v0_ r1 ∧ Below w.heap.size w w' := by
 unfold spec_NumbersOf.f at h
 obtain ⟨t, ht, h⟩ := Option.bind_eq_some_iff.mp h;have hu43 := Tryz.underlying25;have hu9 := Tryz.underlying9;have HT := Lib.hid ht;have HB := Lib.hid (qd (Below.refl w.heap.size w) (.cells #[.int .i64 a0_0, .int .i64 a0_1] 25));have HX := Lib.hid (blk_new w (.cells #[.int .i64 a0_0, .int .i64 a0_1] 25));cases t with
 | false =>
  cases h;clear ht
  go_enter Tryz.func9, Tryz.ntmps9
  go_wp2_with (go_at_call 37; refine (spec_poFits.calls k a0_0 a0_1 a1 false _ HT.out).mono ?_; rintro e w2 ⟨rfl, hb⟩; have HB2 := Lib.hid cf_; clear hb)
  go_ret2
  exact ⟨_, rfl, Kd.R_nil _ _ _ _ _, HB2.out⟩
 | true =>
  rw [if_pos rfl] at h
  by_cases hz : spec_NumbersOf.ascii a1 = true
  ·rw [if_pos hz] at h
   obtain ⟨l, hl, h⟩ := Option.bind_eq_some_iff.mp h;cases h;have HL := Lib.hid hl;have HA := Lib.hid hz;clear ht hl hz
   go_enter Tryz.func9, Tryz.ntmps9
   go_wp2_with (go_at_call 37; refine (spec_poFits.calls k a0_0 a0_1 a1 true _ HT.out).mono ?_; rintro e w2 ⟨rfl, hb⟩; have HB2 := Lib.hid (And.intro cf_ ((hb.block _ (zv HX.out)).trans HX.out)); clear hb)
   obtain ⟨g, hgg⟩ : ∃ g, g = w2.heap.size := ⟨_, rfl⟩
   have hrw : spec_NumbersOf.RW w (w2.iter a1 0) g a0_0 a0_1 a1 0 (.slice none 0 0) [] := by
    subst hgg
    exact ⟨qg HB2.out.2 _, World.iter_heap w2 a1 0, zv HB2.out.2, Kd.R_nil _ _ _ _ _, qd HB2.out.1 _⟩
   rw [← hgg];have HW := Lib.hid hrw;clear hrw hgg
   generalize w2.iter a1 0 = W3 at HW ⊢
   go_loopw [6] (fun v6 wr => ∃ (j : Nat) (o : List Int), j ≤ a1.size ∧ spec_NumbersOf.rows k a0_0 a0_1 a1 j = some o ∧ spec_NumbersOf.RW w wr g a0_0 a0_1 a1 j v6 o) (fun _ wr => a1.size - wr.iterPos g)
   case atStart => exact ⟨0, [], (by omega), rfl, HW.out⟩
   case round =>
    obtain ⟨j, o, hj, hro, hrw⟩ := hrel;clear HW;have HW := Lib.hid hrw
    by_cases hlt : j < a1.size
    ·have hnx : ∀ ty, (Instr.next (.pointer (some ⟨g, 0, none⟩)) true ty).run Tryz.prog wr = _ := fun ty => spec_NumbersOf.next_at wr g a1 j ty hrw.it hlt (spec_NumbersOf.ascii_at HA.out hlt)
     obtain ⟨hs, o', hh, hl6, hp, hr'⟩ := spec_NumbersOf.rows_step HL.out hlt hro;have HP0 := Lib.hid (show wr.iterPos g = j by simp [World.iterPos, hrw.it]);have HL6 := Lib.hid hl6;have hn := hrw.next (j + 1);have hcz0 : (spec_NumbersOf.setIter wr g (.stringIter a1 (j + 1))).cell? ⟨w.heap.size, 0, none⟩ = some (.int .i64 a0_0) := (qk hn.box 0).trans rfl;have hcz1 : (spec_NumbersOf.setIter wr g (.stringIter a1 (j + 1))).cell? ⟨w.heap.size, 1, none⟩ = some (.int .i64 a0_1) := (qk hn.box 1).trans rfl;have HH := Lib.hid hh;have HP := Lib.hid hp;have HR := Lib.hid hr';have HN := Lib.hid hn;clear hh hp hr' hn hrw hro hl6
     go_wp2_with (go_at_call 40; refine (spec_poHouses.calls k a0_0 a0_1 a1 (j : Int) 0 hs _ HH.out).mono ?_; rintro e w5 ⟨v5, rfl, hrow, hb5⟩; obtain ⟨A5, c5, rfl⟩ := Kd.ja hrow)
     have HV := Lib.hid (spec_NumbersOf.IV.start HN.out hrow hb5);clear HN hrow hb5 hcz0 hcz1 hnx
     go_loopg [6, 24] hs.length (fun gn v6 v24 wr => ∃ (i : Nat) (o2 : List Int), v24 = .int .i64 i ∧ gn = hs.length - i ∧ i ≤ hs.length ∧ Hid (spec_NumbersOf.puts k o (hs.take i) = some o2) ∧ Hid (spec_NumbersOf.IV w wr g a0_0 a0_1 a1 (j + 1) (.slice A5 hs.length c5) hs v6 o2))
     case atStart => exact ⟨0, o, rfl, (by omega), (by omega), Lib.hid rfl, HV⟩
     case round =>
      clear HV;obtain ⟨i, o2, rfl, hgn, hin, HP2, HV⟩ := hrel
      by_cases hi : i < hs.length
      ·have cb1 : decide ((i : Int) < (hs.length : Int)) = true := decide_eq_true (by omega)
       obtain ⟨_, _, hC5⟩ := Kd.ze HV.out.five;obtain ⟨ad, ea, hcell⟩ := Kd.zi hC5 (i : Int) (by omega) (by omega);subst ea;obtain ⟨o3, hput, hp3⟩ := spec_NumbersOf.puts_step HP.out hi HP2.out;obtain ⟨n, hn⟩ : ∃ n, rd hs (i : Int) = n := ⟨_, rfl⟩;have hget : hs[i] = n := by rw [← hn]; unfold rd; simp [hi]
       rw [hn, Int.toNat_natCast] at hcell;rw [hget] at hput;have HPUT := Lib.hid hput;have HP3 := Lib.hid hp3;have p1 : (0 : Int) ≤ (i : Int) := by omega
       have p2 : (i : Int) < (hs.length : Int) := by omega
       have hi6 : i < 1000000 := by have := HL6.out; omega
       clear hput hp3 hn hget hC5
       go_wp2_with (go_at_call 42; refine (spec_l1Put.calls k (fun k_ => spec_NumbersOf.P0 w g (.slice (some ad) hs.length c5) k_) _ o2 n o3 w _ HV.out.bel HV.out.row HPUT.out).mono ?_; rintro e w7 ⟨v7, rfl, hR7, hb7, hk7⟩; have HV7 := Lib.hid (HV.out.put hR7 hb7 hk7); clear hR7 hb7 hk7)
       go_roundg (hs.length - (i + 1))
       case measure => omega
       case rel => exact ⟨i + 1, o3, (by go_num), rfl, (by omega), HP3, HV7⟩
      ·have cb1 : decide ((i : Int) < (hs.length : Int)) = false := decide_eq_false (by omega)
       have he := HP2.out;rw [List.take_of_length_le (by omega)] at he;obtain rfl := Option.some.inj (he.symm.trans HP.out)
       go_wp2
       refine ⟨⟨j + 1, o2, (by omega), HR.out, HV.out.out⟩, ?_⟩
       rw [HP0.out, show wr.iterPos g = j + 1 by simp [World.iterPos, HV.out.it]]
       omega
    ·obtain rfl : j = a1.size := by omega
     have hnx : ∀ ty, (Instr.next (.pointer (some ⟨g, 0, none⟩)) true ty).run Tryz.prog wr = _ := fun ty => spec_NumbersOf.next_end wr g a1 a1.size ty hrw.it hlt;clear hrw
     go_wp2_with fail
     go_ret2
     obtain rfl := Option.some.inj (hro.symm.trans HL.out)
     exact ⟨_, rfl, Kd.zl HW.out.row (fun _ _ => trivial), HW.out.bel⟩
  ·rw [if_neg hz] at h
   cases h
def strings_Count.f (a0 : ByteArray) (a1 : ByteArray) : Option Int := if a1.size = 1 then some (Lib.countByte a0.data.toList (bt a1 0).toNat.toUInt8) else none
set_option maxHeartbeats 1000000 in
set_option maxRecDepth 100000 in
theorem strings_Count.one (s : ByteArray) (c : UInt8) (w : World) :
  Calls Tryz.prog 78 #[.string s, .string ⟨#[c]⟩] w fun e w' => e = .returned (.int .i64 (Lib.countByte s.data.toList c)) ∧ w' = w := by
 go_enter Tryz.func78, Tryz.ntmps78
 go_wp2
 rw [run_callFunc_extern Tryz.func103 a9_ a9_ a9_ (e := Extern.BytealgCount.count) a9_, Lib.run_countString]
 simp only [Result.andThen]
 rw [Oper.upon_value]
 go_wp2
 go_ret
 exact ⟨rfl, rfl⟩
theorem strings_Count.calls (a0 : ByteArray) (a1 : ByteArray) (r : Int) (w : World) (h : strings_Count.f a0 a1 = some r) :
  Calls Tryz.prog 78 #[.string a0, .string a1] w fun e w' => e = .returned (.int .i64 r) ∧ ql w w' := by
 unfold strings_Count.f at h
 by_cases h1 : a1.size = 1
 ·rw [if_pos h1] at h
  obtain ⟨c, rfl⟩ : ∃ c, a1 = ⟨#[c]⟩ := by
   obtain ⟨⟨l⟩⟩ := a1
   match l, h1 with
   | [c], _ => exact ⟨c, rfl⟩
  have e : (bt ⟨#[c]⟩ 0).toNat.toUInt8 = c := by
   have e0 : bt ⟨#[c]⟩ 0 = (c.toNat : Int) := rfl
   rw [e0]
   simp
  rw [e] at h
  cases Option.some.inj h
  refine (strings_Count.one a0 c w).mono ?_
  rintro e w' ⟨rfl, rfl⟩
  exact ⟨rfl, ql.refl _⟩
 ·rw [if_neg h1] at h
  cases h
def impl_countDelivered.f (a0 : ByteArray) : Option (Int) := (strings_Count.f a0 (⟨#[108]⟩ : ByteArray)).bind fun t328 => ((strings_Count.f a0 (⟨#[114]⟩ : ByteArray)).bind fun t329 => ((strings_Count.f a0 (⟨#[98]⟩ : ByteArray)).bind fun t330 => (some (wrap64 ((wrap64 (t328 + t329)) + (wrap64 (2 * t330)))))))
set_option maxHeartbeats 8000000 in
set_option maxRecDepth 100000 in
theorem impl_countDelivered.calls (a0 : ByteArray) (r : Int) (w : World) (h : impl_countDelivered.f a0 = some r) :
  Calls Tryz.prog 44 #[.string a0] w fun e w' => e = .returned (.int .i64 r) ∧ ql w w' := by
 have H := h; clear h; unfold impl_countDelivered.f at H
 replace H := bX_ H; obtain ⟨t328, A2, H⟩ := H
 replace H := bX_ H; obtain ⟨t329, A3, H⟩ := H
 replace H := bX_ H; obtain ⟨t330, A4, H⟩ := H
 obtain rfl := Option.some.inj H
 go_enter Tryz.func44, Tryz.ntmps44
 go_wp2_with (first | (refine gL_ 4 Tryz.func78 #[.string a0, .string (⟨#[108]⟩ : ByteArray)] ?_; refine (strings_Count.calls a0 (⟨#[108]⟩ : ByteArray) t328 _ A2.out).mono ?_; rintro e w' ⟨rfl, ⟨nd, rfl⟩⟩; refine ⟨_, rfl, ?_⟩) | (refine gL_ 6 Tryz.func78 #[.string a0, .string (⟨#[114]⟩ : ByteArray)] ?_; refine (strings_Count.calls a0 (⟨#[114]⟩ : ByteArray) t329 _ A3.out).mono ?_; rintro e w' ⟨rfl, ⟨nd, rfl⟩⟩; refine ⟨_, rfl, ?_⟩) | (refine gL_ 9 Tryz.func78 #[.string a0, .string (⟨#[98]⟩ : ByteArray)] ?_; refine (strings_Count.calls a0 (⟨#[98]⟩ : ByteArray) t330 _ A4.out).mono ?_; rintro e w' ⟨rfl, ⟨nd, rfl⟩⟩; refine ⟨_, rfl, ?_⟩))
 go_ret
 exact ⟨es_, a0_⟩
def impl_CountDelivered.f (k : Nat) (a0 : ByteArray) : Option (Int × Bool) := (impl_AreDeliveries.f k a0).bind fun t331 => (if t331 = true then ((impl_countDelivered.f a0).bind fun t332 => (some (t332, true))) else (some (0, false)))
theorem impl_CountDelivered.mono : ∀ a0 k, LeO (impl_CountDelivered.f k a0) (impl_CountDelivered.f (k + 1) a0) := by
 intro a0 k
 unfold impl_CountDelivered.f
 exact lg_
set_option maxHeartbeats 8000000 in
set_option maxRecDepth 100000 in
theorem impl_CountDelivered.calls (k : Nat) (a0 : ByteArray) (r1 : Int) (r2 : Bool) (w : World) (h : impl_CountDelivered.f k a0 = some (r1, r2)) :
  Calls Tryz.prog 10 #[.string a0] w fun e w' => e = .returned (.tuple #[.int .i64 r1, .bool r2]) ∧ ql w w' := by
 have H := h; clear h; unfold impl_CountDelivered.f at H
 replace H := bX_ H; obtain ⟨t331, A2, H⟩ := H
 replace H := iB_ H; obtain ⟨rfl, H⟩ | ⟨rfl, H⟩ := H
 ·replace H := bX_ H; obtain ⟨t332, A4, H⟩ := H
  replace H := iP_ H; obtain ⟨rfl, rfl⟩ := H
  go_enter Tryz.func10, Tryz.ntmps10
  go_wp2_with (first | (refine gL_ 5 Tryz.func43 #[.string a0] ?_; refine (impl_AreDeliveries.calls k a0 true _ A2.out).mono ?_; rintro e w' ⟨rfl, ⟨nd, rfl⟩⟩; refine ⟨_, rfl, ?_⟩) | (refine gL_ 8 Tryz.func44 #[.string a0] ?_; refine (impl_countDelivered.calls a0 t332 _ A4.out).mono ?_; rintro e w' ⟨rfl, ⟨nd, rfl⟩⟩; refine ⟨_, rfl, ?_⟩))
  go_ret2
  exact ⟨es_, a0_⟩
 ·replace H := iP_ H; obtain ⟨rfl, rfl⟩ := H
  go_enter Tryz.func10, Tryz.ntmps10
  go_wp2_with (first | (refine gL_ 5 Tryz.func43 #[.string a0] ?_; refine (impl_AreDeliveries.calls k a0 false _ A2.out).mono ?_; rintro e w' ⟨rfl, ⟨nd, rfl⟩⟩; refine ⟨_, rfl, ?_⟩))
  go_ret2
  exact ⟨es_, a0_⟩
def spec_poMany.f (a0 : Int) : Option (Int) := if a0 = 98 then (some 2) else (if a0 = 45 then (some 0) else (some 1))
set_option maxHeartbeats 8000000 in
set_option maxRecDepth 100000 in
theorem spec_poMany.calls (a0 : Int) (r : Int) (w : World) (h : spec_poMany.f a0 = some r) :
  Calls Tryz.prog 79 #[.int .u8 a0] w fun e w' => e = .returned (.int .i64 r) ∧ ql w w' := by
 have H := h; clear h; unfold spec_poMany.f at H
 replace H := iE_ H; obtain ⟨c2b0, c2b1, H⟩ | ⟨c2, c2b0, c2b1, H⟩ := H
 ·exact lZ_
 ·replace H := iE_ H; obtain ⟨c3b0, c3b1, H⟩ | ⟨c3, c3b0, c3b1, H⟩ := H
  ·exact lZ_
  ·exact lZ_
def spec_poCount.l0 : Nat → ByteArray → Int → Int → Option (Int)
 | 0, _, _, _ => none
 | k + 1, x0, x3, x4 => if x4 < (x0.size : Int) then (if 0 ≤ x4 then ((spec_poMany.f (bt x0 x4)).bind fun t333 => (spec_poCount.l0 k x0 (wrap64 (x3 + t333)) (wrap64 (x4 + 1)))) else (none)) else (some x3)
def spec_poCount.f (k : Nat) (a0 : ByteArray) : Option (Int) := spec_poCount.l0 k a0 0 0
theorem spec_poCount.zd : ∀ k, (∀ y0 y1 y2, LeO (spec_poCount.l0 k y0 y1 y2) (spec_poCount.l0 (k + 1) y0 y1 y2))
 | 0 => fun _ _ _ r h => by simp [spec_poCount.l0] at h
 | k + 1 => by
  have ih0 := spec_poCount.zd k
  intro y0 y1 y2
  unfold spec_poCount.l0
  exact l8_
theorem spec_poCount.mono : ∀ a0 k, LeO (spec_poCount.f k a0) (spec_poCount.f (k + 1) a0) := by
 intro a0 k
 have ih0 := spec_poCount.zd k
 unfold spec_poCount.f
 exact l8_
set_option maxHeartbeats 8000000 in
set_option maxRecDepth 100000 in
theorem spec_poCount.calls (k : Nat) (a0 : ByteArray) (r : Int) (w : World) (h : spec_poCount.f k a0 = some r) :
  Calls Tryz.prog 46 #[.string a0] w fun e w' => e = .returned (.int .i64 r) ∧ ql w w' := by
 have H := h; clear h; unfold spec_poCount.f at H
 have H' := qb.mk H
 clear H
 go_enter Tryz.func46, Tryz.ntmps46
 go_wp2
 go_loopg [3, 4] k (fun kq v3 v4 w' => ∃ (x3_1 : Int) (x4_1 : Int), v3 = .int .i64 x3_1 ∧ v4 = .int .i64 x4_1 ∧ qb (spec_poCount.l0 kq a0 x3_1 x4_1 = some r) ∧ qb (kq ≤ k) ∧ ql w w')
 case atStart => exact ⟨(0), (0), es_, es_, H', ⟨Nat.le_refl _⟩, a0_⟩
 case round =>
  clear H'
  obtain ⟨x3_1, x4_1, rfl, rfl, HA, HK1, ⟨m1, rfl⟩⟩ := hrel
  cases gk with
  | zero => exact absurd HA.out (by simp [spec_poCount.l0])
  | succ k1 =>
   have H := HA.out
   clear HA
   simp only [spec_poCount.l0] at H
   replace H := iD_ H; obtain ⟨c2b0, H⟩ | ⟨c2b0, H⟩ := H
   ·replace H := iD_ H; obtain ⟨c3b0, H⟩ | ⟨c3b0, H⟩ := H
    ·replace H := bX_ H; obtain ⟨t333, A5, H⟩ := H
     have H' := qb.mk H
     clear H
     have p4 : 0 ≤ (x4_1 : Int) := od_
     have q4 : x4_1 < (a0.size : Int) := od_
     have hx4 := bt_at a0 x4_1
     replace p4 := eq_true p4
     replace q4 := eq_true q4
     go_wp2_with (first | (refine gL_ 15 Tryz.func79 #[.int .u8 (bt a0 x4_1)] ?_; refine (spec_poMany.calls (bt a0 x4_1) t333 _ A5.out).mono ?_; rintro e w' ⟨rfl, ⟨nd, rfl⟩⟩; refine ⟨_, rfl, ?_⟩))
     go_roundg k1
     case measure => have := HK1.out; omega
     case rel => exact ⟨(wrap64 (x3_1 + t333)), (wrap64 (x4_1 + 1)), es_, es_, H', ⟨by have := HK1.out; omega⟩, a0_⟩
    ·cases H
   ·exact lT_
end Go.Proofs.YtpopeedfgenebaaGreat.PFnPostDelivers
