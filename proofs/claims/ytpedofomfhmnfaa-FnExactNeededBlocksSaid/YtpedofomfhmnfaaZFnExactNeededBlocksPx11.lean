/- Cut by wip/cut.py out of the texts of this claim (printed by the kit's printer, or this session's own): what the row's theorem does not reach is struck. Not trusted: Lean checks it. -/
import Derived.Test.YtpedofomfhmnfaaZFnExactNeededBlocksPx0
import Derived.Test.YtpedofomfhmnfaaZFnExactNeededBlocksPx1
import Derived.Test.YtpedofomfhmnfaaZFnExactNeededBlocksPx8
import Derived.Test.YtpedofomfhmnfaaZFnExactNeededBlocksPx10
namespace Go.Proofs.Ytpedofomfhmnfaa.PFnExactNeededBlocks
open Go.RowKit Go.Proofs.YtpedofomfhmnfaaW.PrintWords Go.Proofs.YtpedofomfhmnfaaW.PrintLast Go.Proofs.YtpedofomfhmnfaaW.PrintMore
attribute [local go_sem] max2_int min2_int max_two min_two max_three min_three max_four min_four
set_option linter.unusedVariables false
set_option linter.unusedSimpArgs false
attribute [local go_sem high] eqA58
def impl_areCorners.bad (a0_0 a0_1 : Int) (l : List Int) : Bool := !(decide (l.length = 2) && (decide (0 ≤ rd l 0 ∧ rd l 0 ≤ wrap64 (a0_0 - 1)) && decide (0 ≤ rd l 1 ∧ rd l 1 ≤ wrap64 (a0_1 - 1))))
def impl_areCorners.f (k : Nat) (a0_0 : Int) (a0_1 : Int) (l0_2 : List S58) (l1 : List (List Int)) : Option Bool := (impl_IsCity.f k a0_0 a0_1 l0_2).bind fun t => if t = true then some (!l1.any (impl_areCorners.bad a0_0 a0_1)) else some false
theorem impl_areCorners.mono : ∀ a0 a1 a2 a3 k, LeO (impl_areCorners.f k a0 a1 a2 a3) (impl_areCorners.f (k + 1) a0 a1 a2 a3) := fun a0 a1 a2 a3 k => LeO.bind (impl_IsCity.mono a0 a1 a2 k) (fun _ => LeO.refl _)
theorem impl_areCorners.within_f (a b c : Int) : impl_within.f a b c = some (decide (b ≤ a ∧ a ≤ c)) := by
 unfold impl_within.f
 by_cases h : a ≥ b
 ·rw [if_pos h]
  have : b ≤ a := h
  simp [this]
 ·rw [if_neg h]
  have : ¬ b ≤ a := h
  simp [this]
theorem impl_areCorners.ja {a b c : Int} (h : b ≤ a ∧ a ≤ c) (w : World) (n : Nat) : Calls Try.prog 61 #[.int .i64 a, .int .i64 b, .int .i64 c] (w.drewN n) fun e w' => e = .returned (.bool true) ∧ ∃ m, w' = w.drewN m := by
 refine Calls.quiet_of ((impl_within.calls a b c true _ (by rw [impl_areCorners.within_f, decide_eq_true h])).mono ?_)
 rintro e w' ⟨he, hd⟩
 exact ⟨he, hd.out⟩
theorem impl_areCorners.within_n {a b c : Int} (h : ¬ (b ≤ a ∧ a ≤ c)) (w : World) (n : Nat) : Calls Try.prog 61 #[.int .i64 a, .int .i64 b, .int .i64 c] (w.drewN n) fun e w' => e = .returned (.bool false) ∧ ∃ m, w' = w.drewN m := by
 refine Calls.quiet_of ((impl_within.calls a b c false _ (by rw [impl_areCorners.within_f, decide_eq_false h])).mono ?_)
 rintro e w' ⟨he, hd⟩
 exact ⟨he, hd.out⟩
set_option maxHeartbeats 2000000 in
set_option maxRecDepth 100000 in
theorem impl_areCorners.clo (a0_0 a0_1 : Int) (V : Value) (B : Nat) (A : Option Addr) (c : Nat) (l : List Int) (w : World) (hB : w.heap[B]? = some (.cells #[.int .i64 a0_0, .int .i64 a0_1, V] 31 (0, 0))) (hr : Kd.C (Kd.int .i64) w A l.length l) :
  Calls Try.prog 70 #[.slice A l.length c, .pointer (some ⟨B, 0, none⟩)] w fun e w' => e = .returned (.bool (impl_areCorners.bad a0_0 a0_1 l)) ∧ ∃ n, w' = w.drewN n := by
 have hu := Try.underlying31
 have hcz0 : w.cell? ⟨B, 0, none⟩ = some (.int .i64 a0_0) := (qc hB 0).trans rfl
 have hcz1 : w.cell? ⟨B, 1, none⟩ = some (.int .i64 a0_1) := (qc hB 1).trans rfl
 obtain ⟨m0, hm0⟩ : ∃ m0, IntKind.i64.wrap (a0_0 - 1) = m0 := ⟨_, rfl⟩
 obtain ⟨m1, hm1⟩ : ∃ m1, IntKind.i64.wrap (a0_1 - 1) = m1 := ⟨_, rfl⟩
 have HM0 : wrap64 (a0_0 - 1) = m0 := (IntWalk.i64_left _).symm.trans hm0
 have HM1 : wrap64 (a0_1 - 1) = m1 := (IntWalk.i64_left _).symm.trans hm1
 unfold impl_areCorners.bad
 rw [HM0, HM1]
 clear HM0 HM1
 by_cases h2 : l.length = 2
 ·match l, h2 with
  | [x, y], _ =>
  obtain ⟨ad, rfl, hx⟩ := Kd.jc hr 0 (by simp) (by simp)
  obtain ⟨ad', e', hy⟩ := Kd.jc hr 1 (by simp) (by simp)
  obtain rfl := Option.some.inj e'
  have hx0 : w.cell? ad = some (.int .i64 x) := by have h0 : w.cell? (ad.add 0) = some (.int .i64 x) := hx; rwa [show ad.add 0 = ad by simp [Addr.add]] at h0
  clear hx
  have hy1 : w.cell? ⟨ad.block, ad.off + 1, none⟩ = some (.int .i64 y) := by have h0 : w.cell? (ad.add 1) = some (.int .i64 y) := hy; rwa [show ad.add 1 = ⟨ad.block, ad.off + 1, none⟩ by simp [Addr.add]] at h0
  clear hy
  show Calls Try.prog 70 #[.slice (some ad) 2 c, .pointer (some ⟨B, 0, none⟩)] w fun e w' => e = .returned (.bool (!(true && (decide (0 ≤ x ∧ x ≤ m0) && decide (0 ≤ y ∧ y ≤ m1))))) ∧ ∃ n, w' = w.drewN n
  clear e' hr hB
  by_cases h1 : 0 ≤ x ∧ x ≤ m0
  ·rw [decide_eq_true h1]
   have H1 := Lib.hid h1
   clear h1
   by_cases h3 : 0 ≤ y ∧ y ≤ m1
   ·rw [decide_eq_true h3]
    have H3 := Lib.hid h3
    clear h3
    go_enter Try.func70, Try.ntmps70
    go_wp2
    go_quiet (((first | (go_at_call 61; (with_reducible exact impl_areCorners.ja H1.out w _)) | (go_at_call 61; (with_reducible exact impl_areCorners.ja H3.out w _)))))
    go_wp2
    go_ret
    exact ⟨rfl, _, rfl⟩
   ·rw [decide_eq_false h3]
    have H3 := Lib.hid h3
    clear h3
    go_enter Try.func70, Try.ntmps70
    go_wp2
    go_quiet (((first | (go_at_call 61; (with_reducible exact impl_areCorners.ja H1.out w _)) | (go_at_call 61; (with_reducible exact impl_areCorners.within_n H3.out w _)))))
    go_wp2
    go_ret
    exact ⟨rfl, _, rfl⟩
  ·rw [decide_eq_false h1]
   have H1 := Lib.hid h1
   clear h1
   go_enter Try.func70, Try.ntmps70
   go_wp2
   go_quiet (((go_at_call 61; (with_reducible exact impl_areCorners.within_n H1.out w _))))
   go_wp2
   go_ret
   exact ⟨rfl, _, rfl⟩
 ·rw [decide_eq_false h2]
  have h2' : ¬ (l.length : Int) = 2 := by omega
  have h3 : ((l.length : Int) != 2) = true := by simp [bne_iff_ne]; omega
  clear h2 h2' hr
  go_enter Try.func70, Try.ntmps70
  go_wp2
  go_quiet ((fail))
  go_wp2
  go_ret
  exact ⟨rfl, _, rfl⟩
def impl_areCorners.none_ (a0_0 a0_1 : Int) (l : List (List Int)) (j : Nat) : Prop := ∀ i (hi : i < l.length), i < j → impl_areCorners.bad a0_0 a0_1 l[i] = false
theorem impl_areCorners.none_.more {a0_0 a0_1 : Int} {l : List (List Int)} {j : Nat} (h : impl_areCorners.none_ a0_0 a0_1 l j) (hj : j < l.length) (hb : impl_areCorners.bad a0_0 a0_1 l[j] = false) : impl_areCorners.none_ a0_0 a0_1 l (j + 1) := by
 intro i hi h1
 rcases Nat.lt_or_ge i j with h2 | h2
 ·exact h i hi h2
 ·obtain rfl : i = j := by omega
  exact hb
def impl_areCorners.Idx (b : Bool) (w : World) (e : Ending) (w' : World) : Prop := ∃ p : Int, e = .returned (.int .i64 p) ∧ decide (p ≥ 0) = b ∧ ∃ n, w' = w.drewN n
theorem impl_areCorners.any_yes {l : List (List Int)} {p : List Int → Bool} {j : Nat} (h : j < l.length) (hp : p l[j] = true) : l.any p = true := List.any_eq_true.2 ⟨_, List.getElem_mem h, hp⟩
theorem impl_areCorners.any_no {l : List (List Int)} {p : List Int → Bool} (h : ∀ i (hi : i < l.length), p l[i] = false) : l.any p = false := by
 rw [List.any_eq_false]
 intro x hx
 obtain ⟨i, hi, rfl⟩ := List.mem_iff_getElem.1 hx
 rw [h i hi]; simp
theorem impl_areCorners.rowAt {w : World} {A : Option Addr} {l : List (List Int)} (h : Kd.C (Kd.slice 3 (Kd.int .i64)) w A l.length l) {j : Nat} (hj : j < l.length) : ∃ ad A0 c0, A = some ad ∧ w.cell? (ad.add j) = some (.slice A0 l[j].length c0) ∧ Kd.C (Kd.int .i64) w A0 l[j].length l[j] := by
 obtain ⟨ad, c, e, _, hK, hc⟩ := Kd.C_get h ([] : List Int) (j : Int) (by omega) (by omega)
 obtain ⟨A0, c0, rfl, l0, g0⟩ := hK
 have hg : l.getD (j : Int).toNat [] = l[j] := by simp [hj]
 rw [hg] at g0 hc
 refine ⟨ad, A0, c0, e, ?_, g0⟩
 have hq := hc 0 _ rfl
 simpa [Kd.slice] using hq
set_option maxHeartbeats 2000000 in
set_option maxRecDepth 100000 in
theorem impl_areCorners.idx (a0_0 a0_1 : Int) (V : Value) (B : Nat) (A : Option Addr) (c : Nat) (l : List (List Int)) (w : World) (hB : w.heap[B]? = some (.cells #[.int .i64 a0_0, .int .i64 a0_1, V] 31 (0, 0))) (hr : Kd.C (Kd.slice 3 (Kd.int .i64)) w A l.length l) :
  Calls Try.prog 82 #[.slice A l.length c, .func (.func 70) #[] #[.pointer (some ⟨B, 0, none⟩)]] w (impl_areCorners.Idx (l.any (impl_areCorners.bad a0_0 a0_1)) w) := by
 have hml : l.length ≤ maxLen := hr.2.1
 unfold maxLen at hml
 have HB := Lib.hid hB
 have HR := Lib.hid hr
 clear hB hr
 go_enter Try.func82, Try.ntmps82
 go_wp2
 go_loopw [8] (fun v wr => ∃ j m : Nat, j ≤ l.length ∧ v = .int .i64 j ∧ Hid (impl_areCorners.none_ a0_0 a0_1 l j) ∧ Hid (wr = w.drewN m)) (fun v _ => l.length - (intOf v).toNat)
 case atStart => exact ⟨0, 0, by omega, rfl, Lib.hid (fun i hi h => by omega), Lib.hid rfl⟩
 case round =>
  obtain ⟨j, m, hj, rfl, HN, HWr⟩ := hrel
  obtain rfl := HWr.out
  clear HWr
  by_cases hlt : j < l.length
  ·obtain ⟨ad, A0, c0, eA, hcell, hC⟩ := impl_areCorners.rowAt HR.out hlt
   subst eA
   have HC := Lib.hid hC
   have hcl := impl_areCorners.clo a0_0 a0_1 V B A0 c0 l[j] (w.drewN m) HB.out hC
   cases hbad : impl_areCorners.bad a0_0 a0_1 l[j] with
   | true =>
    rw [hbad] at hcl
    have HCL := Lib.hid hcl
    have HBD := Lib.hid hbad
    clear hC hcl hbad
    go_wp2_with (go_at_call 70; refine HCL.out.mono ?_; rintro e w2 ⟨rfl, n2, rfl⟩)
    go_ret
    exact ⟨(j : Int), rfl, by rw [impl_areCorners.any_yes hlt HBD.out]; simp, _, rfl⟩
   | false =>
    rw [hbad] at hcl
    have HCL := Lib.hid hcl
    have HBD := Lib.hid hbad
    clear hC hcl hbad
    go_wp2_with (go_at_call 70; refine HCL.out.mono ?_; rintro e w2 ⟨rfl, n2, rfl⟩)
    go_roundw
    case rel => exact ⟨j + 1, m + n2, by omega, by go_num, Lib.hid (HN.out.more hlt HBD.out), Lib.hid rfl⟩
    case measure => simp [intOf]; omega
  ·obtain rfl : j = l.length := by omega
   go_wp2
   go_ret
   exact ⟨-1, rfl, by rw [impl_areCorners.any_no (fun i hi => HN.out i hi hi)]; rfl, _, rfl⟩
set_option maxHeartbeats 2000000 in
set_option maxRecDepth 100000 in
theorem impl_areCorners.has (a0_0 a0_1 : Int) (V : Value) (B : Nat) (A : Option Addr) (c : Nat) (l : List (List Int)) (w : World) (hB : w.heap[B]? = some (.cells #[.int .i64 a0_0, .int .i64 a0_1, V] 31 (0, 0))) (hr : Kd.C (Kd.slice 3 (Kd.int .i64)) w A l.length l) :
  Calls Try.prog 69 #[.slice A l.length c, .func (.func 70) #[] #[.pointer (some ⟨B, 0, none⟩)]] w fun e w' => e = .returned (.bool (l.any (impl_areCorners.bad a0_0 a0_1))) ∧ ∃ n, w' = w.drewN n := by
 have HX := Lib.hid (impl_areCorners.idx a0_0 a0_1 V B A c l w hB hr)
 clear hB hr
 go_enter Try.func69, Try.ntmps69
 go_wp2_with (go_at_call 82; refine HX.out.mono ?_; rintro e w2 ⟨p, rfl, hp, n2, rfl⟩; have HP := Lib.hid hp; clear hp)
 go_ret
 exact ⟨by rw [← HP.out]; rfl, _, rfl⟩
set_option maxHeartbeats 2000000 in
set_option maxRecDepth 100000 in
theorem impl_areCorners.calls (k : Nat) (a0_0 : Int) (a0_1 : Int) (A0_2 : Option Addr) (c0_2 : Nat) (l0_2 : List S58) (A1 : Option Addr) (c1 : Nat) (l1 : List (List Int)) (r : Bool) (w : World) (hr0_2 : Kd.C k58 w A0_2 l0_2.length l0_2) (hc0_2 : l0_2.length ≤ c0_2) (hr1 : Kd.C (Kd.slice 3 (Kd.int .i64)) w A1 l1.length l1) (hc1 : l1.length ≤ c1) (h : impl_areCorners.f k a0_0 a0_1 l0_2 l1 = some r) :
  Calls Try.prog 44 #[.agg #[.int .i64 a0_0, .int .i64 a0_1, .slice A0_2 l0_2.length c0_2], .slice A1 l1.length c1] w fun e w' => e = .returned (.bool r) ∧ Below w.heap.size w w' := by
 have hu := Try.underlying31
 have hmf : ∀ (fn : Fn) (first cap : Array Value) (w : World), (Instr.makeFunc fn first cap).run Try.prog w = .ok (.func fn first cap) w := fun _ _ _ _ => rfl
 unfold impl_areCorners.f at h
 obtain ⟨t, ht, h⟩ := Option.bind_eq_some_iff.mp h
 have HB := Lib.hid (qd (Below.refl w.heap.size w) (.cells #[.int .i64 a0_0, .int .i64 a0_1, .slice A0_2 l0_2.length c0_2] 31))
 have HX := Lib.hid (blk_new w (.cells #[.int .i64 a0_0, .int .i64 a0_1, .slice A0_2 l0_2.length c0_2] 31))
 have hfirst := impl_IsCity.calls k a0_0 a0_1 A0_2 c0_2 l0_2 t (w.alloc (.cells #[.int .i64 a0_0, .int .i64 a0_1, .slice A0_2 l0_2.length c0_2] 31)) (Kd.qz hr0_2 (qd (Below.refl _ _) _)) hc0_2 ht
 have HF := Lib.hid hfirst
 have HR := Lib.hid hr1
 clear ht hfirst hr0_2 hr1 hc1 hc0_2
 cases t with
 | false =>
  cases h
  go_enter Try.func44, Try.ntmps44
  go_wp2_with (go_at_call 65; refine HF.out.mono ?_; rintro e w2 ⟨rfl, hb⟩; have HB2 := Lib.hid (zi HB.out HB.out.size hb); clear hb)
  go_ret
  exact ⟨rfl, HB2.out⟩
 | true =>
  obtain rfl := Option.some.inj h
  go_enter Try.func44, Try.ntmps44
  go_wp2_with (first
   | (go_at_call 65; refine HF.out.mono ?_; rintro e w2 ⟨rfl, hb⟩; have HB2 := Lib.hid (zi HB.out HB.out.size hb); have HX2 := Lib.hid ((hb.block _ (zd HX.out)).trans HX.out); clear hb)
   | (go_at_call 69; refine (impl_areCorners.has a0_0 a0_1 _ _ A1 c1 l1 _ HX2.out (Kd.qz HR.out HB2.out)).mono ?_; rintro e w3 ⟨rfl, n3, rfl⟩))
  go_ret
  exact ⟨rfl, qa HB2.out _⟩
def impl_Block_83.l0 : Nat → List (S58) → Int → Int → Int → Int → Bool → Option (Int)
 | 0, _, _, _, _, _, _ => none
 | k + 1, x0, x7, x8, x264000, x264001, x264002 => if x8 < x7 then (if 0 ≤ x8 then (if x8 < (x0.length : Int) then (if (x264000 == ((qk x0 x8).f0) && (x264001 == ((qk x0 x8).f1) && (x264002 == ((qk x0 x8).f2)))) = true then (some x8) else (impl_Block_83.l0 k x0 x7 (wrap64 (x8 + 1)) x264000 x264001 x264002)) else (none)) else (none)) else (some (-1))
def impl_Block_83.f (k : Nat) (l0 : List (S58)) (a1_0 : Int) (a1_1 : Int) (a1_2 : Bool) : Option (Int) := impl_Block_83.l0 k l0 (l0.length : Int) 0 a1_0 a1_1 a1_2
theorem impl_Block_83.zt : ∀ k, (∀ y0 y1 y2 y3 y4 y5, LeO (impl_Block_83.l0 k y0 y1 y2 y3 y4 y5) (impl_Block_83.l0 (k + 1) y0 y1 y2 y3 y4 y5))
 | 0 => fun _ _ _ _ _ _ r h => by simp [impl_Block_83.l0] at h
 | k + 1 => by
  have ih0 := impl_Block_83.zt k
  ·intro y0 y1 y2 y3 y4 y5
   unfold impl_Block_83.l0
   repeat' first
   | (with_reducible exact ih0 _ _ _ _ _ _)
   | (with_reducible exact LeO.refl _)
   | (with_reducible exact LeO.none _)
   | (with_reducible refine LeO.ite ?_ ?_)
   | (with_reducible refine LeO.bind ?_ (fun _ => ?_))
   | exact ih0 _ _ _ _ _ _
   | exact LeO.none _
   | refine LeO.ite ?_ ?_
   | refine LeO.bind ?_ (fun _ => ?_)
theorem impl_Block_83.mono : ∀ a0 a1 a2 a3 k, LeO (impl_Block_83.f k a0 a1 a2 a3) (impl_Block_83.f (k + 1) a0 a1 a2 a3) := by
 intro a0 a1 a2 a3 k
 have ih0 := impl_Block_83.zt k
 unfold impl_Block_83.f
 repeat' first
   | (with_reducible exact ih0 _ _ _ _ _ _)
   | (with_reducible exact LeO.refl _)
   | (with_reducible exact LeO.none _)
   | (with_reducible refine LeO.ite ?_ ?_)
   | (with_reducible refine LeO.bind ?_ (fun _ => ?_))
   | exact ih0 _ _ _ _ _ _
   | exact LeO.none _
   | refine LeO.ite ?_ ?_
   | refine LeO.bind ?_ (fun _ => ?_)
set_option maxHeartbeats 8000000 in
set_option maxRecDepth 100000 in
theorem impl_Block_83.calls (k : Nat) (A0 : Option Addr) (c0 : Nat) (l0 : List (S58)) (a1_0 : Int) (a1_1 : Int) (a1_2 : Bool) (r : Int) (w : World) (hr0 : Kd.C k58 w A0 l0.length l0) (hc0 : l0.length ≤ c0) (h : impl_Block_83.f k l0 a1_0 a1_1 a1_2 = some r) :
  Calls Try.prog 83 #[.slice A0 l0.length c0, .agg #[.int .i64 a1_0, .int .i64 a1_1, .bool a1_2]] w fun e w' => e = .returned (.int .i64 r) ∧ Below w.heap.size w w' := by
 have hu58 := Try.underlying58
 have HR0 := qb.mk hr0
 have HC0 := qb.mk hc0
 clear hr0 hc0
 have HB := qb.mk (Below.refl w.heap.size w)
 have H : (impl_Block_83.l0 k l0 (l0.length : Int) 0 a1_0 a1_1 a1_2) = some r := h
 clear h
 have H' := qb.mk H
 clear H
 go_enter Try.func83, Try.ntmps83
 go_wp2_with (first | ((with_reducible refine ze (N := 3) rfl ?_); refine zc ?hg (N := 3) ?hd (cs := #[.int .i64 a1_0, .int .i64 a1_1, .bool a1_2]) (t := 58) ?hr ?_; (case hd => rfl); (case hg => rfl); (case hr => first | (go_simp; done) | (go_simp; rfl)); intro gb263 hg w3 hbox hb; have n0_ := qb.mk (qp (be0_ HB) hb); have n1_ := qb.mk (hbox); have n2_ := qb.mk ((by rw [hg]; exact (ql (be0_ HB)) : w.heap.size ≤ gb263)); have n3_ := qb.mk ((by rw [hg]; exact (ql (be0_ HB)) : w.heap.size ≤ gb263)); clear HB; have HB := n0_; have BK263 := n1_; have GW263 := n2_; have GE263 := n3_; clear n0_ n1_ n2_ n3_; clear hb hbox hg))
 repeat (go_quiet (first | ((with_reducible refine ze (N := 3) rfl ?_); refine zc ?hg (N := 3) ?hd (cs := #[.int .i64 a1_0, .int .i64 a1_1, .bool a1_2]) (t := 58) ?hr ?_; (case hd => rfl); (case hg => rfl); (case hr => first | (go_simp; done) | (go_simp; rfl)); intro gb263 hg w3 hbox hb; have n0_ := qb.mk (qp (be0_ HB) hb); have n1_ := qb.mk (hbox); have n2_ := qb.mk ((by rw [hg]; exact (ql (be0_ HB)) : w.heap.size ≤ gb263)); have n3_ := qb.mk ((by rw [hg]; exact (ql (be0_ HB)) : w.heap.size ≤ gb263)); clear HB; have HB := n0_; have BK263 := n1_; have GW263 := n2_; have GE263 := n3_; clear n0_ n1_ n2_ n3_; clear hb hbox hg)); try go_wp2_with (first | ((with_reducible refine ze (N := 3) rfl ?_); refine zc ?hg (N := 3) ?hd (cs := #[.int .i64 a1_0, .int .i64 a1_1, .bool a1_2]) (t := 58) ?hr ?_; (case hd => rfl); (case hg => rfl); (case hr => first | (go_simp; done) | (go_simp; rfl)); intro gb263 hg w3 hbox hb; have n0_ := qb.mk (qp (be0_ HB) hb); have n1_ := qb.mk (hbox); have n2_ := qb.mk ((by rw [hg]; exact (ql (be0_ HB)) : w.heap.size ≤ gb263)); have n3_ := qb.mk ((by rw [hg]; exact (ql (be0_ HB)) : w.heap.size ≤ gb263)); clear HB; have HB := n0_; have BK263 := n1_; have GW263 := n2_; have GE263 := n3_; clear n0_ n1_ n2_ n3_; clear hb hbox hg)))
 go_loopg [8] k (fun kq v8 w' => ∃ (x8_1 : Int), v8 = .int .i64 x8_1 ∧ qb (impl_Block_83.l0 kq l0 (l0.length : Int) x8_1 a1_0 a1_1 a1_2 = some r) ∧ qb (kq ≤ k) ∧ qb (w'.heap[gb263]? = some (.cells #[.int .i64 a1_0, .int .i64 a1_1, .bool a1_2] 58 (0, 0))) ∧ qb (Below w.heap.size w w'))
 case atStart => exact ⟨(0), (by first | rfl | (simp; done) | (simp [*]; done)), H', ⟨Nat.le_refl _⟩, ⟨bk_ BK263⟩, ⟨be1_ HB GE263⟩⟩
 case round =>
  clear H'
  obtain ⟨x8_1, rfl, HA, HK1, BK263, HB⟩ := hrel
  cases gk with
  | zero => exact absurd HA.out (by simp [impl_Block_83.l0])
  | succ k1 =>
   have H := HA.out
   clear HA
   simp only [impl_Block_83.l0] at H
   by_cases c4 : x8_1 < (l0.length : Int)
   ·rw [if_pos c4] at H
    have c4b0 : decide (x8_1 < (l0.length : Int)) = true := decide_eq_true c4
    clear c4
    by_cases c5 : 0 ≤ x8_1
    ·rw [if_pos c5] at H
     have c5b0 : decide (0 ≤ x8_1) = true := decide_eq_true c5
     clear c5
     by_cases c6 : x8_1 < (l0.length : Int)
     ·rw [if_pos c6] at H
      have c6b0 : decide (x8_1 < (l0.length : Int)) = true := decide_eq_true c6
      clear c6
      by_cases c7 : (a1_0 == ((qk l0 x8_1).f0) && (a1_1 == ((qk l0 x8_1).f1) && (a1_2 == ((qk l0 x8_1).f2)))) = true
      ·rw [if_pos c7] at H
       have c7b0 : (a1_0 == ((qk l0 x8_1).f0) && (a1_1 == ((qk l0 x8_1).f1) && (a1_2 == ((qk l0 x8_1).f2)))) = true := c7
       (try (have c7b1 : decide (a1_0 = ((qk l0 x8_1).f0) && (a1_1 == ((qk l0 x8_1).f1) && (a1_2 == ((qk l0 x8_1).f2)))) = true := by simpa using c7))
       (try (have c7b2 : (a1_0 == ((qk l0 x8_1).f0) && (a1_1 == ((qk l0 x8_1).f1) && (a1_2 == ((qk l0 x8_1).f2)))) = true := by simpa using c7))
       clear c7
       obtain rfl := Option.some.inj H
       have hcz8_0 : wr.cell? ⟨gb263, 0, none⟩ = some (.int .i64 a1_0) := (qc BK263.out 0).trans rfl
       have hcz8_1 : wr.cell? ⟨gb263, 1, none⟩ = some (.int .i64 a1_1) := (qc BK263.out 1).trans rfl
       have hcz8_2 : wr.cell? ⟨gb263, 2, none⟩ = some (.bool a1_2) := (qc BK263.out 2).trans rfl
       have hfz8_0 := qj BK263.out 0
       have hfz8_1 := qj BK263.out 1
       have hfz8_2 := qj BK263.out 2
       have p264 : 0 ≤ (x8_1 : Int) := of_decide_eq_true (by first | (with_reducible assumption) | assumption)
       have q264 : x8_1 < (l0.length : Int) := of_decide_eq_true (by first | (with_reducible assumption) | assumption)
       obtain ⟨ad264, e264, hx264_0, hx264_1, hx264_2⟩ := jd HR0.out x8_1 p264 q264
       cases e264
       replace hx264_0 := (HB.out.cell (World.block_lt_of_cell? w _ hx264_0)).trans hx264_0
       replace hx264_1 := (HB.out.cell (World.block_lt_of_cell? w _ hx264_1)).trans hx264_1
       replace hx264_2 := (HB.out.cell (World.block_lt_of_cell? w _ hx264_2)).trans hx264_2
       replace p264 := eq_true p264
       replace q264 := eq_true q264
       go_wp2
       repeat (go_quiet (fail); try go_wp2)
       go_ret
       exact ⟨by first | rfl | (simp [qt, qr] <;> rfl) | (simp [*, qt, qr] <;> rfl), be1_ HB GE263⟩
      ·rw [if_neg c7] at H
       have c7b0 : (a1_0 == ((qk l0 x8_1).f0) && (a1_1 == ((qk l0 x8_1).f1) && (a1_2 == ((qk l0 x8_1).f2)))) = false := by simpa using c7
       (try (have c7b1 : decide (a1_0 = ((qk l0 x8_1).f0) && (a1_1 == ((qk l0 x8_1).f1) && (a1_2 == ((qk l0 x8_1).f2)))) = false := by simpa using c7))
       (try (have c7b2 : (a1_0 == ((qk l0 x8_1).f0) && (a1_1 == ((qk l0 x8_1).f1) && (a1_2 == ((qk l0 x8_1).f2)))) = false := by simpa using c7))
       (try (have c7b3 : ¬ (a1_0 = ((qk l0 x8_1).f0) && (a1_1 == ((qk l0 x8_1).f1) && (a1_2 == ((qk l0 x8_1).f2)))) := by simpa using c7))
       clear c7
       have H' := qb.mk H
       clear H
       have hcz9_0 : wr.cell? ⟨gb263, 0, none⟩ = some (.int .i64 a1_0) := (qc BK263.out 0).trans rfl
       have hcz9_1 : wr.cell? ⟨gb263, 1, none⟩ = some (.int .i64 a1_1) := (qc BK263.out 1).trans rfl
       have hcz9_2 : wr.cell? ⟨gb263, 2, none⟩ = some (.bool a1_2) := (qc BK263.out 2).trans rfl
       have hfz9_0 := qj BK263.out 0
       have hfz9_1 := qj BK263.out 1
       have hfz9_2 := qj BK263.out 2
       have p264 : 0 ≤ (x8_1 : Int) := of_decide_eq_true (by first | (with_reducible assumption) | assumption)
       have q264 : x8_1 < (l0.length : Int) := of_decide_eq_true (by first | (with_reducible assumption) | assumption)
       obtain ⟨ad264, e264, hx264_0, hx264_1, hx264_2⟩ := jd HR0.out x8_1 p264 q264
       cases e264
       replace hx264_0 := (HB.out.cell (World.block_lt_of_cell? w _ hx264_0)).trans hx264_0
       replace hx264_1 := (HB.out.cell (World.block_lt_of_cell? w _ hx264_1)).trans hx264_1
       replace hx264_2 := (HB.out.cell (World.block_lt_of_cell? w _ hx264_2)).trans hx264_2
       replace p264 := eq_true p264
       replace q264 := eq_true q264
       go_wp2
       repeat (go_quiet (fail); try go_wp2)
       go_roundg k1
       case measure => have := HK1.out; omega
       case rel => exact ⟨(wrap64 (x8_1 + 1)), (by first | rfl | (simp; done) | (simp [*]; done)), H', ⟨by have := HK1.out; omega⟩, ⟨bk_ BK263⟩, ⟨be1_ HB GE263⟩⟩
     ·rw [if_neg c6] at H
      exact absurd H (by simp)
    ·rw [if_neg c5] at H
     exact absurd H (by simp)
   ·rw [if_neg c4] at H
    have c4b0 : decide (x8_1 < (l0.length : Int)) = false := decide_eq_false c4
    clear c4
    obtain rfl := Option.some.inj H
    go_wp2
    repeat (go_quiet (fail); try go_wp2)
    go_ret
    exact ⟨by first | rfl | (simp [qt, qr] <;> rfl) | (simp [*, qt, qr] <;> rfl), be1_ HB GE263⟩
def impl_Block_76.f (k : Nat) (l0 : List (S58)) (a1_0 : Int) (a1_1 : Int) (a1_2 : Bool) : Option (Bool) := (impl_Block_83.f k l0 a1_0 a1_1 a1_2).bind fun t266 => (some (decide (t266 ≥ 0)))
theorem impl_Block_76.mono : ∀ a0 a1 a2 a3 k, LeO (impl_Block_76.f k a0 a1 a2 a3) (impl_Block_76.f (k + 1) a0 a1 a2 a3) := by
 intro a0 a1 a2 a3 k
 unfold impl_Block_76.f
 repeat' first
   | (with_reducible exact impl_Block_83.mono _ _ _ _ _)
   | (with_reducible exact LeO.refl _)
   | (with_reducible exact LeO.none _)
   | (with_reducible refine LeO.ite ?_ ?_)
   | (with_reducible refine LeO.bind ?_ (fun _ => ?_))
   | exact impl_Block_83.mono _ _ _ _ _
   | exact LeO.none _
   | refine LeO.ite ?_ ?_
   | refine LeO.bind ?_ (fun _ => ?_)
set_option maxHeartbeats 8000000 in
set_option maxRecDepth 100000 in
theorem impl_Block_76.calls (k : Nat) (A0 : Option Addr) (c0 : Nat) (l0 : List (S58)) (a1_0 : Int) (a1_1 : Int) (a1_2 : Bool) (r : Bool) (w : World) (hr0 : Kd.C k58 w A0 l0.length l0) (hc0 : l0.length ≤ c0) (h : impl_Block_76.f k l0 a1_0 a1_1 a1_2 = some r) :
  Calls Try.prog 76 #[.slice A0 l0.length c0, .agg #[.int .i64 a1_0, .int .i64 a1_1, .bool a1_2]] w fun e w' => e = .returned (.bool r) ∧ Below w.heap.size w w' := by
 have hu58 := Try.underlying58
 have HR0 := qb.mk hr0
 have HC0 := qb.mk hc0
 clear hr0 hc0
 have HB := qb.mk (Below.refl w.heap.size w)
 have H : ((impl_Block_83.f k l0 a1_0 a1_1 a1_2).bind fun t266 => (some (decide (t266 ≥ 0)))) = some r := h
 clear h
 replace H := Option.bind_eq_some_iff.mp H
 obtain ⟨t266, A30, H⟩ := H
 replace H : (some (decide (t266 ≥ 0))) = some r := H
 have A3 := qb.mk A30
 clear A30
 obtain rfl := Option.some.inj H
 go_enter Try.func76, Try.ntmps76
 go_wp2_with (first | ((with_reducible refine ze (N := 3) rfl ?_); refine zc ?hg (N := 3) ?hd (cs := #[.int .i64 a1_0, .int .i64 a1_1, .bool a1_2]) (t := 58) ?hr ?_; (case hd => rfl); (case hg => rfl); (case hr => first | (go_simp; done) | (go_simp; rfl)); intro gb265 hg w4 hbox hb; have n0_ := qb.mk (qp (be0_ HB) hb); have n1_ := qb.mk (hbox); have n2_ := qb.mk ((by rw [hg]; exact (ql (be0_ HB)) : w.heap.size ≤ gb265)); have n3_ := qb.mk ((by rw [hg]; exact (ql (be0_ HB)) : w.heap.size ≤ gb265)); clear HB; have HB := n0_; have BK265 := n1_; have GW265 := n2_; have GE265 := n3_; clear n0_ n1_ n2_ n3_; clear hb hbox hg; have hcz5_0 : w4.cell? ⟨gb265, 0, none⟩ = some (.int .i64 a1_0) := (qc BK265.out 0).trans rfl; have hcz5_1 : w4.cell? ⟨gb265, 1, none⟩ = some (.int .i64 a1_1) := (qc BK265.out 1).trans rfl; have hcz5_2 : w4.cell? ⟨gb265, 2, none⟩ = some (.bool a1_2) := (qc BK265.out 2).trans rfl; have hfz5_0 := qj BK265.out 0; have hfz5_1 := qj BK265.out 1; have hfz5_2 := qj BK265.out 2) | ((with_reducible refine qx (f := 83) rfl ?_); refine zl (some 7) rfl rfl Try.func83 (by kernel_rfl) rfl #[.slice A0 l0.length c0, .agg #[.int .i64 a1_0, .int .i64 a1_1, .bool a1_2]] rfl (by (try simp only [List.map_toArray, List.map_cons, List.map_nil]); first | done | rfl | (simp only [List.length_drop, List.length_take]; rfl)) ?_; (with_reducible refine (impl_Block_83.calls k _ _ l0 a1_0 a1_1 a1_2 t266 _ ?side1 ?side2 A3.out).mono ?_); (case side1 => repeat (first | exact (Kd.qz HR0.out HB.out) | (with_reducible refine Kd.za ?_ _) | (with_reducible refine Kd.zb ?_ _) | (with_reducible refine Kd.zf ?_))); (case side2 => exact HC0.out); rintro e w6 ⟨rfl, hb⟩; refine ⟨_, rfl, ?_⟩; have n0_ := qb.mk (qo (g := gb265) (o := .cells #[.int .i64 a1_0, .int .i64 a1_1, .bool a1_2] 58 (0, 0)) (bk_ BK265) hb); have n1_ := qb.mk (qp (be1_ HB GE265) hb); clear BK265; clear HB; have BK265 := n0_; have HB := n1_; clear n0_ n1_; (try clear hb); (try clear hb2); (try clear hk); (try clear hi)))
 go_ret
 exact ⟨by first | rfl | (simp [qt, qr] <;> rfl) | (simp [*, qt, qr] <;> rfl), be1_ HB GE265⟩
def impl_isClosed.f (k : Nat) (a0_0 : Int) (a0_1 : Int) (l0_2 : List (S58)) (a1_0 : Int) (a1_1 : Int) (a1_2 : Bool) : Option (Bool) := (impl_Block_76.f k l0_2 a1_0 a1_1 a1_2).bind fun t269 => (some t269)
theorem impl_isClosed.mono : ∀ a0 a1 a2 a3 a4 a5 k, LeO (impl_isClosed.f k a0 a1 a2 a3 a4 a5) (impl_isClosed.f (k + 1) a0 a1 a2 a3 a4 a5) := by
 intro a0 a1 a2 a3 a4 a5 k
 unfold impl_isClosed.f
 repeat' first
   | (with_reducible exact impl_Block_76.mono _ _ _ _ _)
   | (with_reducible exact LeO.refl _)
   | (with_reducible exact LeO.none _)
   | (with_reducible refine LeO.ite ?_ ?_)
   | (with_reducible refine LeO.bind ?_ (fun _ => ?_))
   | exact impl_Block_76.mono _ _ _ _ _
   | exact LeO.none _
   | refine LeO.ite ?_ ?_
   | refine LeO.bind ?_ (fun _ => ?_)
set_option maxHeartbeats 8000000 in
set_option maxRecDepth 100000 in
theorem impl_isClosed.calls (k : Nat) (a0_0 : Int) (a0_1 : Int) (A0_2 : Option Addr) (c0_2 : Nat) (l0_2 : List (S58)) (a1_0 : Int) (a1_1 : Int) (a1_2 : Bool) (r : Bool) (w : World) (hr0_2 : Kd.C k58 w A0_2 l0_2.length l0_2) (hc0_2 : l0_2.length ≤ c0_2) (h : impl_isClosed.f k a0_0 a0_1 l0_2 a1_0 a1_1 a1_2 = some r) :
  Calls Try.prog 54 #[.agg #[.int .i64 a0_0, .int .i64 a0_1, .slice A0_2 l0_2.length c0_2], .agg #[.int .i64 a1_0, .int .i64 a1_1, .bool a1_2]] w fun e w' => e = .returned (.bool r) ∧ Below w.heap.size w w' := by
 have hu31 := Try.underlying31
 have hu58 := Try.underlying58
 have HR0_2 := qb.mk hr0_2
 have HC0_2 := qb.mk hc0_2
 clear hr0_2 hc0_2
 have HB := qb.mk (Below.refl w.heap.size w)
 have H : ((impl_Block_76.f k l0_2 a1_0 a1_1 a1_2).bind fun t269 => (some t269)) = some r := h
 clear h
 replace H := Option.bind_eq_some_iff.mp H
 obtain ⟨t269, A30, H⟩ := H
 replace H : (some t269) = some r := H
 have A3 := qb.mk A30
 clear A30
 obtain rfl := Option.some.inj H
 go_enter Try.func54, Try.ntmps54
 go_wp2_with (first | ((with_reducible refine ze (N := 2) rfl ?_); refine zc ?hg (N := 2) ?hd (cs := #[.int .i64 a0_0, .int .i64 a0_1, .slice A0_2 l0_2.length c0_2]) (t := 31) ?hr ?_; (case hd => rfl); (case hg => rfl); (case hr => first | (go_simp; done) | (go_simp; rfl)); intro gb267 hg w4 hbox hb; have n0_ := qb.mk (qp (be0_ HB) hb); have n1_ := qb.mk (hbox); have n2_ := qb.mk ((by rw [hg]; exact (ql (be0_ HB)) : w.heap.size ≤ gb267)); have n3_ := qb.mk ((by rw [hg]; exact (ql (be0_ HB)) : w.heap.size ≤ gb267)); clear HB; have HB := n0_; have BK267 := n1_; have GW267 := n2_; have GE267 := n3_; clear n0_ n1_ n2_ n3_; clear hb hbox hg) | ((with_reducible refine ze (N := 3) rfl ?_); refine zc ?hg (N := 3) ?hd (cs := #[.int .i64 a1_0, .int .i64 a1_1, .bool a1_2]) (t := 58) ?hr ?_; (case hd => rfl); (case hg => rfl); (case hr => first | (go_simp; done) | (go_simp; rfl)); intro gb268 hg w5 hbox hb; have n0_ := qb.mk (qo (g := gb267) (o := .cells #[.int .i64 a0_0, .int .i64 a0_1, .slice A0_2 l0_2.length c0_2] 31 (0, 0)) (bk_ BK267) hb); have n1_ := qb.mk (qp (be1_ HB GE267) hb); have n2_ := qb.mk (hbox); have n3_ := qb.mk ((by rw [hg]; exact (ql (be1_ HB GE267)) : w.heap.size ≤ gb268)); have n4_ := qb.mk ((by rw [hg]; exact (ql (be1_ HB GE267)) : w.heap.size ≤ gb268)); have n5_ := qb.mk ((by rw [hg]; exact Nat.ne_of_lt (zd (g := gb267) (o := .cells #[.int .i64 a0_0, .int .i64 a0_1, .slice A0_2 l0_2.length c0_2] 31 (0, 0)) (bk_ BK267)) : gb267 ≠ gb268)); have n6_ := qb.mk ((by rw [hg]; exact Nat.ne_of_gt (zd (g := gb267) (o := .cells #[.int .i64 a0_0, .int .i64 a0_1, .slice A0_2 l0_2.length c0_2] 31 (0, 0)) (bk_ BK267)) : gb268 ≠ gb267)); clear BK267; clear HB; have BK267 := n0_; have HB := n1_; have BK268 := n2_; have GW268 := n3_; have GE268 := n4_; have NB267_268 := n5_; have NB268_267 := n6_; clear n0_ n1_ n2_ n3_ n4_ n5_ n6_; clear hb hbox hg; have hnb6 := NB267_268.out; have hnc6 := NB268_267.out; have hcz7_0 : w5.cell? ⟨gb267, 0, none⟩ = some (.int .i64 a0_0) := (qc BK267.out 0).trans rfl; have hcz7_1 : w5.cell? ⟨gb267, 1, none⟩ = some (.int .i64 a0_1) := (qc BK267.out 1).trans rfl; have hcz7_2 : w5.cell? ⟨gb267, 2, none⟩ = some (.slice A0_2 l0_2.length c0_2) := (qc BK267.out 2).trans rfl; have hfz7_0 := qj BK267.out 0; have hfz7_1 := qj BK267.out 1; have hfz7_2 := qj BK267.out 2; have hcz8_0 : w5.cell? ⟨gb268, 0, none⟩ = some (.int .i64 a1_0) := (qc BK268.out 0).trans rfl; have hcz8_1 : w5.cell? ⟨gb268, 1, none⟩ = some (.int .i64 a1_1) := (qc BK268.out 1).trans rfl; have hcz8_2 : w5.cell? ⟨gb268, 2, none⟩ = some (.bool a1_2) := (qc BK268.out 2).trans rfl; have hfz8_0 := qj BK268.out 0; have hfz8_1 := qj BK268.out 1; have hfz8_2 := qj BK268.out 2) | ((with_reducible refine qx (f := 76) rfl ?_); refine zl (some 8) rfl rfl Try.func76 (by kernel_rfl) rfl #[.slice A0_2 l0_2.length c0_2, .agg #[.int .i64 a1_0, .int .i64 a1_1, .bool a1_2]] rfl (by (try simp only [List.map_toArray, List.map_cons, List.map_nil]); first | done | rfl | (simp only [List.length_drop, List.length_take]; rfl)) ?_; (with_reducible refine (impl_Block_76.calls k _ _ l0_2 a1_0 a1_1 a1_2 t269 _ ?side1 ?side2 A3.out).mono ?_); (case side1 => repeat (first | exact (Kd.qz HR0_2.out HB.out) | (with_reducible refine Kd.za ?_ _) | (with_reducible refine Kd.zb ?_ _) | (with_reducible refine Kd.zf ?_))); (case side2 => exact HC0_2.out); rintro e w9 ⟨rfl, hb⟩; refine ⟨_, rfl, ?_⟩; have n0_ := qb.mk (qo (g := gb267) (o := .cells #[.int .i64 a0_0, .int .i64 a0_1, .slice A0_2 l0_2.length c0_2] 31 (0, 0)) (bk_ BK267) hb); have n1_ := qb.mk (qo (g := gb268) (o := .cells #[.int .i64 a1_0, .int .i64 a1_1, .bool a1_2] 58 (0, 0)) (bk_ BK268) hb); have n2_ := qb.mk (qp (be2_ HB GE267 GE268) hb); clear BK267; clear BK268; clear HB; have BK267 := n0_; have BK268 := n1_; have HB := n2_; clear n0_ n1_ n2_; (try clear hb); (try clear hb2); (try clear hk); (try clear hi)))
 go_ret
 exact ⟨by first | rfl | (simp [qt, qr] <;> rfl) | (simp [*, qt, qr] <;> rfl), be2_ HB GE267 GE268⟩
end Go.Proofs.Ytpedofomfhmnfaa.PFnExactNeededBlocks
