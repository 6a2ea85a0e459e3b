/- Printed by a program of this session (wip/xprint.py) over the kit's printer. Not trusted: Lean checks it. -/
import Derived.Test.YtpopeedfgenebaaPFnExactNumbersOfx0
import Derived.Test.YtpopeedfgenebaaPFnExactNumbersOfx3
namespace Go.Proofs.Ytpopeedfgenebaa.PFnExactNumbersOf
open Go.RowKit Go.Proofs.YtpopeedfgenebaaW.PrintWords Go.Proofs.YtpopeedfgenebaaW.PrintLast Go.Proofs.YtpopeedfgenebaaW.PrintMore
attribute [local go_sem] max2_int min2_int max_two min_two max_three min_three max_four min_four   -- for this text's walks alone
set_option linter.unusedVariables false
set_option linter.unusedSimpArgs false

/-! ### impl_routeNumbers: function 18 -/
def impl_routeNumbers.num (k p own plot : Int) : Int := (impl_numberAt.f k p own plot).getD 0
theorem impl_routeNumbers.num_f (k p own plot : Int) : impl_numberAt.f k p own plot = some (impl_routeNumbers.num k p own plot) := by
  unfold impl_routeNumbers.num impl_numberAt.f
  repeat' split
  all_goals rfl
def impl_routeNumbers.lr (own : Int) : Int := if own = 0 then 108 else 114
/-- One side of a plot: its house's number, if it gets post. -/
def impl_routeNumbers.one (k p b plot own : Int) (acc : List Int) : List Int := if b = 98 ∨ b = impl_routeNumbers.lr own then acc ++ [impl_routeNumbers.num k p own plot] else acc
def impl_routeNumbers.side (l : List Int) : Nat → Int
  | 0 => 0
  | j + 1 => rd l (j : Int)
def impl_routeNumbers.acc (k p : Int) (t : ByteArray) (l : List Int) : Nat → List Int
  | 0 => []
  | j + 1 => impl_routeNumbers.one k p (bt t j) j (1 - impl_routeNumbers.side l j) (impl_routeNumbers.one k p (bt t j) j (impl_routeNumbers.side l j) (impl_routeNumbers.acc k p t l j))
def impl_routeNumbers.acc2 (k p : Int) (t : ByteArray) (l : List Int) (j : Nat) : Nat → List Int
  | 0 => impl_routeNumbers.acc k p t l j
  | 1 => impl_routeNumbers.one k p (bt t j) j (impl_routeNumbers.side l j) (impl_routeNumbers.acc k p t l j)
  | _ => impl_routeNumbers.acc k p t l (j + 1)
def impl_routeNumbers.f (a0_0 : Int) (a0_1 : Int) (a1 : ByteArray) (l2 : List Int) : Option (List Int) := if a1.size ≤ 1048576 ∧ l2.length = a1.size ∧ (l2.all fun x => decide (0 ≤ x ∧ x ≤ 1)) = true then some (impl_routeNumbers.acc a0_0 a0_1 a1 l2 a1.size) else none
theorem impl_routeNumbers.one_len (k p b plot own : Int) (acc : List Int) : (impl_routeNumbers.one k p b plot own acc).length ≤ acc.length + 1 := by
  unfold impl_routeNumbers.one
  split
  · simp
  · omega
theorem impl_routeNumbers.acc_len (k p : Int) (t : ByteArray) (l : List Int) : ∀ j, (impl_routeNumbers.acc k p t l j).length ≤ 2 * j
  | 0 => Nat.le_refl _
  | j + 1 => by
    have := impl_routeNumbers.acc_len k p t l j
    have h1 := impl_routeNumbers.one_len k p (bt t j) j (impl_routeNumbers.side l j) (impl_routeNumbers.acc k p t l j)
    have h2 := impl_routeNumbers.one_len k p (bt t j) j (1 - impl_routeNumbers.side l j) (impl_routeNumbers.one k p (bt t j) j (impl_routeNumbers.side l j) (impl_routeNumbers.acc k p t l j))
    unfold impl_routeNumbers.acc
    omega
theorem impl_routeNumbers.acc2_len (k p : Int) (t : ByteArray) (l : List Int) (j i : Nat) (hi : i < 2) : (impl_routeNumbers.acc2 k p t l j i).length ≤ 2 * j + 1 := by
  have := impl_routeNumbers.acc_len k p t l j
  rcases (show i = 0 ∨ i = 1 by omega) with rfl | rfl
  · show (impl_routeNumbers.acc k p t l j).length ≤ _; omega
  · have h1 := impl_routeNumbers.one_len k p (bt t j) j (impl_routeNumbers.side l j) (impl_routeNumbers.acc k p t l j)
    show (impl_routeNumbers.one k p (bt t j) j (impl_routeNumbers.side l j) (impl_routeNumbers.acc k p t l j)).length ≤ _; omega
theorem impl_routeNumbers.side_01 {l : List Int} (h : (l.all fun x => decide (0 ≤ x ∧ x ≤ 1)) = true) : ∀ j, j ≤ l.length → impl_routeNumbers.side l j = 0 ∨ impl_routeNumbers.side l j = 1
  | 0, _ => .inl rfl
  | j + 1, hj => by
    have hj' : j < l.length := by omega
    have h1 := List.all_eq_true.1 h l[j] (List.getElem_mem hj')
    have h2 : impl_routeNumbers.side l (j + 1) = l[j] := by simp [impl_routeNumbers.side, rd, hj']
    rw [h2]
    simp only [decide_eq_true_eq] at h1
    omega
def impl_routeNumbers.own (l : List Int) (j i : Nat) : Int := if i = 0 then impl_routeNumbers.side l j else 1 - impl_routeNumbers.side l j
theorem impl_routeNumbers.acc2_succ (k p : Int) (t : ByteArray) (l : List Int) (j i : Nat) (hi : i < 2) : impl_routeNumbers.acc2 k p t l j (i + 1) = impl_routeNumbers.one k p (bt t j) j (impl_routeNumbers.own l j i) (impl_routeNumbers.acc2 k p t l j i) := by
  rcases (show i = 0 ∨ i = 1 by omega) with rfl | rfl <;> rfl
theorem impl_routeNumbers.leaf_in {k p : Int} {t : ByteArray} {l : List Int} {j i : Nat} {o : Int} (hi : i < 2) (hs : impl_routeNumbers.own l j i = o) (hb : bt t j = 98 ∨ bt t j = impl_routeNumbers.lr o) : impl_routeNumbers.acc2 k p t l j (i + 1) = impl_routeNumbers.acc2 k p t l j i ++ [impl_routeNumbers.num k p o j] := by
  rw [impl_routeNumbers.acc2_succ k p t l j i hi, hs]
  unfold impl_routeNumbers.one
  rw [if_pos hb]
theorem impl_routeNumbers.leaf_out {k p : Int} {t : ByteArray} {l : List Int} {j i : Nat} {o : Int} (hi : i < 2) (hs : impl_routeNumbers.own l j i = o) (hb : ¬ (bt t j = 98 ∨ bt t j = impl_routeNumbers.lr o)) : impl_routeNumbers.acc2 k p t l j (i + 1) = impl_routeNumbers.acc2 k p t l j i := by
  rw [impl_routeNumbers.acc2_succ k p t l j i hi, hs]
  unfold impl_routeNumbers.one
  rw [if_neg hb]
/-- What a world of the walk is. -/
structure impl_routeNumbers.RW (w wr : World) (k p : Int) (v : Value) (xs : List Int) : Prop where
  box : wr.heap[w.heap.size]? = some (.cells #[.int .i64 k, .int .i64 p] 27 (0, 0))
  row : Kd.R (Kd.int .i64) 3 wr w.heap.size (fun _ => True) v xs
  bel : Below w.heap.size w wr
theorem impl_routeNumbers.RW.below {w wr w1 : World} {k p : Int} {v : Value} {xs : List Int} (h : impl_routeNumbers.RW w wr k p v xs) (hb : Below wr.heap.size wr w1) : impl_routeNumbers.RW w w1 k p v xs :=
  ⟨(hb.block _ (blk_lt h.box)).trans h.box, Kd.R_below h.row hb, below_then h.bel h.bel.size hb⟩
theorem impl_routeNumbers.RW.app {w W w1 : World} {k p : Int} {v v1 : Value} {xs ys : List Int} (h : impl_routeNumbers.RW w W k p v xs) (ho : Kd.R (Kd.int .i64) 3 w1 w.heap.size (fun _ => True) v1 ys) (hb : Below w.heap.size w w1) (hg : W.grownBy w1 v.ownBlock) : impl_routeNumbers.RW w w1 k p v1 ys :=
  ⟨blk_grown h.box hg (Kd.R_ne h.row h.box (by decide)), ho, hb⟩
theorem impl_routeNumbers.info3 : (Try.prog.info? 3).map (fun i => (i.zero, i.size, i.bytes)) = some (some (.int .i64 0), 1, 8) := by kernel_rfl
set_option maxHeartbeats 4000000 in
set_option maxRecDepth 100000 in
theorem impl_routeNumbers.calls (a0_0 : Int) (a0_1 : Int) (a1 : ByteArray) (A2 : Option Addr) (c2 : Nat) (l2 : List Int) (r : List Int) (w : World) (hr2 : Kd.C (Kd.int .i64) w A2 l2.length l2) (hc2 : l2.length ≤ c2) (h : impl_routeNumbers.f a0_0 a0_1 a1 l2 = some r) :
    Calls Try.prog 18 #[.agg #[.int .i64 a0_0, .int .i64 a0_1], .string a1, .slice A2 l2.length c2] w fun e w' => ∃ v0_ : Value, e = .returned (v0_) ∧ Kd.R (Kd.int .i64) 3 w' w.heap.size (fun _ => True) v0_ r ∧ Below w.heap.size w w' := by
  unfold impl_routeNumbers.f at h
  by_cases hs : a1.size ≤ 1048576 ∧ l2.length = a1.size ∧ (l2.all fun x => decide (0 ≤ x ∧ x ≤ 1)) = true
  · rw [if_pos hs] at h
    have HE := Lib.hid (Option.some.inj h)
    have HS := Lib.hid hs
    have HR := Lib.hid hr2
    have hz := hs.1
    have hu43 := Try.underlying27
    have hu80 := Try.underlying53
    have hrw : impl_routeNumbers.RW w (w.alloc (.cells #[.int .i64 a0_0, .int .i64 a0_1] 27)) a0_0 a0_1 (.slice none 0 0) [] := ⟨blk_new w _, Kd.R_nil _ _ _ _ _, below_alloc (Below.refl _ _) _⟩
    have HW := Lib.hid hrw
    clear h hs hrw hr2 hc2
    go_enter Try.func18, Try.ntmps18
    go_wp2_with fail
    generalize (w.alloc (.cells #[.int .i64 a0_0, .int .i64 a0_1] 27)) = W1 at HW ⊢
    go_loopw [15, 7, 8] (fun v v7 v8 wr => ∃ j : Nat, j ≤ a1.size ∧ v = .int .i64 j ∧ v8 = .int .i64 (impl_routeNumbers.side l2 j) ∧ impl_routeNumbers.RW w wr a0_0 a0_1 v7 (impl_routeNumbers.acc a0_0 a0_1 a1 l2 j)) (fun v _ _ _ => a1.size - (intOf v).toNat)
    case atStart => exact ⟨0, by omega, rfl, rfl, HW.out⟩
    case round =>
      obtain ⟨j, hj, rfl, rfl, hrw⟩ := hrel
      clear HW
      have HW := Lib.hid hrw
      clear hrw
      by_cases hlt : j < a1.size
      · have hp0 : (0 : Int) ≤ (j : Int) := by omega
        have hp1 : (j : Int) < (a1.size : Int) := by omega
        have hp2 : (j : Int) < (l2.length : Int) := by have := HS.out.2.1; omega
        obtain ⟨ad, ead, _⟩ := Kd.at_int (Kd.C_below HR.out HW.out.bel) (j : Int) hp0 hp2
        subst ead
        have hb := bt_at a1 (j : Int) hlt
        have HB := Lib.hid hb
        clear hb
        rcases impl_routeNumbers.side_01 HS.out.2.2 j (by have := HS.out.2.1; omega) with hsd | hsd
        · have HSD := Lib.hid hsd
          have e1 : IntKind.i64.wrap (1 - impl_routeNumbers.side l2 j) = 1 := by rw [hsd]; rfl
          rw [hsd]
          clear hsd
          go_wp2_with fail
          go_loopw [22, 7] (fun v v7 wr => ∃ i : Nat, i ≤ 2 ∧ v = .int .i64 i ∧ impl_routeNumbers.RW w wr a0_0 a0_1 v7 (impl_routeNumbers.acc2 a0_0 a0_1 a1 l2 j i)) (fun v _ _ => 2 - (intOf v).toNat)
          case atStart => exact ⟨0, by omega, rfl, HW.out⟩
          case round =>
            obtain ⟨i, hi, rfl, hrw⟩ := hrel
            clear HW
            have HW := Lib.hid hrw
            clear hrw
            rcases (show i = 0 ∨ i = 1 ∨ i = 2 by omega) with rfl | rfl | rfl
            · clear hi
              have ix : ∀ w, (Instr.index 53 (.agg #[.int .i64 0, .int .i64 1]) (.int .i64 0)).run Try.prog w = .ok (.int .i64 0) w := fun _ => by kernel_rfl
              have ix2 : ∀ w, (Instr.index 9 (.string ⟨#[108, 114]⟩) (.int .i64 0)).run Try.prog w = .ok (.int .u8 108) w := fun _ => by kernel_rfl
              rw [show (((0 : Nat) : Int)) = 0 from rfl]
              have hcz0 : wr.cell? ⟨w.heap.size, 0, none⟩ = some (.int .i64 a0_0) := (blk_cell HW.out.box 0).trans rfl
              have hcz1 : wr.cell? ⟨w.heap.size, 1, none⟩ = some (.int .i64 a0_1) := (blk_cell HW.out.box 1).trans rfl
              have hfz0 := blk_frozen HW.out.box 0
              have hfz1 := blk_frozen HW.out.box 1
              by_cases h98 : ((a1[j]'hlt).toNat : Int) = 98
              · have d1 : (((a1[j]'hlt).toNat : Int) == 98) = true := beq_iff_eq.mpr h98
                have HBB : bt a1 (j : Int) = 98 ∨ bt a1 (j : Int) = impl_routeNumbers.lr 0 := .inl (HB.out.symm.trans h98)
                clear h98
                have hN := impl_routeNumbers.leaf_in (k := a0_0) (p := a0_1) (t := a1) (l := l2) (j := j) (i := 0) (o := 0) (by decide) (by unfold impl_routeNumbers.own; rw [HSD.out]; rfl) HBB
                have HN := Lib.hid hN
                have HL := Lib.hid (impl_routeNumbers.acc2_len a0_0 a0_1 a1 l2 j 0 (by decide))
                clear hN HBB
                go_wp2_with (first
                  | (go_at_call 34; refine (impl_numberAt.calls a0_0 a0_1 0 (j : Int) _ _ (impl_routeNumbers.num_f a0_0 a0_1 0 (j : Int))).mono ?_; rintro e wn ⟨rfl, hb⟩; have hw2 := HW.out.below hb; clear HW hb hcz0 hcz1 hfz0 hfz1; have HW := Lib.hid hw2; clear hw2)
                  | ((with_reducible refine gate_builtin (b := .append) (xs := #[.tmp 36, .tmp 41]) rfl ?_); at_builtin; refine Kd.R_append (Kd.int .i64) (w0 := w) w.heap.size rfl (.tmp 36) (.tmp 41) 24 3 (.int .i64 0) 8 rfl Try.underlying24 impl_routeNumbers.info3 rfl (by decide) (by omega) _ (impl_routeNumbers.acc2 a0_0 a0_1 a1 l2 j 0) (impl_routeNumbers.num a0_0 a0_1 0 (j : Int)) [.int .i64 (impl_routeNumbers.num a0_0 a0_1 0 (j : Int))] (fun _ => True) (fun _ => False) rfl rfl ?aP (fun _ hk => hk.elim) ?aF ?aO ?aB ?aS ?aL ?_; (case aP => exact rfl); (case aB => exact HW.out.bel); (case aF => exact (fun _ _ => trivial)); (case aO => exact HW.out.row); (case aS => exact HW.out.bel.size); (case aL => have := HL.out; omega); intro v1 w1 ho hb hg hat; rw [← HN.out] at ho; have hw2 := HW.out.app ho hb hg; clear HW ho hb hg hat; have HW := Lib.hid hw2; clear hw2))
                go_roundw
                case rel => exact ⟨1, by omega, by go_num, HW.out⟩
                case measure => simp [intOf] <;> omega
              · have d1 : (((a1[j]'hlt).toNat : Int) == 98) = false := beq_eq_false_iff_ne.mpr h98
                by_cases hL : ((a1[j]'hlt).toNat : Int) = 108
                · have d2 : (((a1[j]'hlt).toNat : Int) == 108) = true := beq_iff_eq.mpr hL
                  have HBB : bt a1 (j : Int) = 98 ∨ bt a1 (j : Int) = impl_routeNumbers.lr 0 := .inr (HB.out.symm.trans hL)
                  clear h98 hL
                  have hN := impl_routeNumbers.leaf_in (k := a0_0) (p := a0_1) (t := a1) (l := l2) (j := j) (i := 0) (o := 0) (by decide) (by unfold impl_routeNumbers.own; rw [HSD.out]; rfl) HBB
                  have HN := Lib.hid hN
                  have HL := Lib.hid (impl_routeNumbers.acc2_len a0_0 a0_1 a1 l2 j 0 (by decide))
                  clear hN HBB
                  go_wp2_with (first
                    | (go_at_call 34; refine (impl_numberAt.calls a0_0 a0_1 0 (j : Int) _ _ (impl_routeNumbers.num_f a0_0 a0_1 0 (j : Int))).mono ?_; rintro e wn ⟨rfl, hb⟩; have hw2 := HW.out.below hb; clear HW hb hcz0 hcz1 hfz0 hfz1; have HW := Lib.hid hw2; clear hw2)
                    | ((with_reducible refine gate_builtin (b := .append) (xs := #[.tmp 36, .tmp 41]) rfl ?_); at_builtin; refine Kd.R_append (Kd.int .i64) (w0 := w) w.heap.size rfl (.tmp 36) (.tmp 41) 24 3 (.int .i64 0) 8 rfl Try.underlying24 impl_routeNumbers.info3 rfl (by decide) (by omega) _ (impl_routeNumbers.acc2 a0_0 a0_1 a1 l2 j 0) (impl_routeNumbers.num a0_0 a0_1 0 (j : Int)) [.int .i64 (impl_routeNumbers.num a0_0 a0_1 0 (j : Int))] (fun _ => True) (fun _ => False) rfl rfl ?aP (fun _ hk => hk.elim) ?aF ?aO ?aB ?aS ?aL ?_; (case aP => exact rfl); (case aB => exact HW.out.bel); (case aF => exact (fun _ _ => trivial)); (case aO => exact HW.out.row); (case aS => exact HW.out.bel.size); (case aL => have := HL.out; omega); intro v1 w1 ho hb hg hat; rw [← HN.out] at ho; have hw2 := HW.out.app ho hb hg; clear HW ho hb hg hat; have HW := Lib.hid hw2; clear hw2))
                  go_roundw
                  case rel => exact ⟨1, by omega, by go_num, HW.out⟩
                  case measure => simp [intOf] <;> omega
                · have d2 : (((a1[j]'hlt).toNat : Int) == 108) = false := beq_eq_false_iff_ne.mpr hL
                  have hN := impl_routeNumbers.leaf_out (k := a0_0) (p := a0_1) (t := a1) (l := l2) (j := j) (i := 0) (o := 0) (by decide) (by unfold impl_routeNumbers.own; rw [HSD.out]; rfl) (fun e => e.elim (fun e => h98 (HB.out.trans e)) (fun e => hL (HB.out.trans e)))
                  have HN := Lib.hid hN
                  clear hN h98 hL
                  go_wp2_with fail
                  go_roundw
                  case rel => exact ⟨1, by omega, by go_num, by rw [HN.out]; exact HW.out⟩
                  case measure => simp [intOf] <;> omega
            · clear hi
              have ix : ∀ w, (Instr.index 53 (.agg #[.int .i64 0, .int .i64 1]) (.int .i64 1)).run Try.prog w = .ok (.int .i64 1) w := fun _ => by kernel_rfl
              have ix2 : ∀ w, (Instr.index 9 (.string ⟨#[108, 114]⟩) (.int .i64 1)).run Try.prog w = .ok (.int .u8 114) w := fun _ => by kernel_rfl
              rw [show (((1 : Nat) : Int)) = 1 from rfl]
              have hcz0 : wr.cell? ⟨w.heap.size, 0, none⟩ = some (.int .i64 a0_0) := (blk_cell HW.out.box 0).trans rfl
              have hcz1 : wr.cell? ⟨w.heap.size, 1, none⟩ = some (.int .i64 a0_1) := (blk_cell HW.out.box 1).trans rfl
              have hfz0 := blk_frozen HW.out.box 0
              have hfz1 := blk_frozen HW.out.box 1
              by_cases h98 : ((a1[j]'hlt).toNat : Int) = 98
              · have d1 : (((a1[j]'hlt).toNat : Int) == 98) = true := beq_iff_eq.mpr h98
                have HBB : bt a1 (j : Int) = 98 ∨ bt a1 (j : Int) = impl_routeNumbers.lr 1 := .inl (HB.out.symm.trans h98)
                clear h98
                have hN := impl_routeNumbers.leaf_in (k := a0_0) (p := a0_1) (t := a1) (l := l2) (j := j) (i := 1) (o := 1) (by decide) (by unfold impl_routeNumbers.own; rw [HSD.out]; rfl) HBB
                have HN := Lib.hid hN
                have HL := Lib.hid (impl_routeNumbers.acc2_len a0_0 a0_1 a1 l2 j 1 (by decide))
                clear hN HBB
                go_wp2_with (first
                  | (go_at_call 34; refine (impl_numberAt.calls a0_0 a0_1 1 (j : Int) _ _ (impl_routeNumbers.num_f a0_0 a0_1 1 (j : Int))).mono ?_; rintro e wn ⟨rfl, hb⟩; have hw2 := HW.out.below hb; clear HW hb hcz0 hcz1 hfz0 hfz1; have HW := Lib.hid hw2; clear hw2)
                  | ((with_reducible refine gate_builtin (b := .append) (xs := #[.tmp 36, .tmp 41]) rfl ?_); at_builtin; refine Kd.R_append (Kd.int .i64) (w0 := w) w.heap.size rfl (.tmp 36) (.tmp 41) 24 3 (.int .i64 0) 8 rfl Try.underlying24 impl_routeNumbers.info3 rfl (by decide) (by omega) _ (impl_routeNumbers.acc2 a0_0 a0_1 a1 l2 j 1) (impl_routeNumbers.num a0_0 a0_1 1 (j : Int)) [.int .i64 (impl_routeNumbers.num a0_0 a0_1 1 (j : Int))] (fun _ => True) (fun _ => False) rfl rfl ?aP (fun _ hk => hk.elim) ?aF ?aO ?aB ?aS ?aL ?_; (case aP => exact rfl); (case aB => exact HW.out.bel); (case aF => exact (fun _ _ => trivial)); (case aO => exact HW.out.row); (case aS => exact HW.out.bel.size); (case aL => have := HL.out; omega); intro v1 w1 ho hb hg hat; rw [← HN.out] at ho; have hw2 := HW.out.app ho hb hg; clear HW ho hb hg hat; have HW := Lib.hid hw2; clear hw2))
                go_roundw
                case rel => exact ⟨2, by omega, by go_num, HW.out⟩
                case measure => simp [intOf] <;> omega
              · have d1 : (((a1[j]'hlt).toNat : Int) == 98) = false := beq_eq_false_iff_ne.mpr h98
                by_cases hL : ((a1[j]'hlt).toNat : Int) = 114
                · have d2 : (((a1[j]'hlt).toNat : Int) == 114) = true := beq_iff_eq.mpr hL
                  have HBB : bt a1 (j : Int) = 98 ∨ bt a1 (j : Int) = impl_routeNumbers.lr 1 := .inr (HB.out.symm.trans hL)
                  clear h98 hL
                  have hN := impl_routeNumbers.leaf_in (k := a0_0) (p := a0_1) (t := a1) (l := l2) (j := j) (i := 1) (o := 1) (by decide) (by unfold impl_routeNumbers.own; rw [HSD.out]; rfl) HBB
                  have HN := Lib.hid hN
                  have HL := Lib.hid (impl_routeNumbers.acc2_len a0_0 a0_1 a1 l2 j 1 (by decide))
                  clear hN HBB
                  go_wp2_with (first
                    | (go_at_call 34; refine (impl_numberAt.calls a0_0 a0_1 1 (j : Int) _ _ (impl_routeNumbers.num_f a0_0 a0_1 1 (j : Int))).mono ?_; rintro e wn ⟨rfl, hb⟩; have hw2 := HW.out.below hb; clear HW hb hcz0 hcz1 hfz0 hfz1; have HW := Lib.hid hw2; clear hw2)
                    | ((with_reducible refine gate_builtin (b := .append) (xs := #[.tmp 36, .tmp 41]) rfl ?_); at_builtin; refine Kd.R_append (Kd.int .i64) (w0 := w) w.heap.size rfl (.tmp 36) (.tmp 41) 24 3 (.int .i64 0) 8 rfl Try.underlying24 impl_routeNumbers.info3 rfl (by decide) (by omega) _ (impl_routeNumbers.acc2 a0_0 a0_1 a1 l2 j 1) (impl_routeNumbers.num a0_0 a0_1 1 (j : Int)) [.int .i64 (impl_routeNumbers.num a0_0 a0_1 1 (j : Int))] (fun _ => True) (fun _ => False) rfl rfl ?aP (fun _ hk => hk.elim) ?aF ?aO ?aB ?aS ?aL ?_; (case aP => exact rfl); (case aB => exact HW.out.bel); (case aF => exact (fun _ _ => trivial)); (case aO => exact HW.out.row); (case aS => exact HW.out.bel.size); (case aL => have := HL.out; omega); intro v1 w1 ho hb hg hat; rw [← HN.out] at ho; have hw2 := HW.out.app ho hb hg; clear HW ho hb hg hat; have HW := Lib.hid hw2; clear hw2))
                  go_roundw
                  case rel => exact ⟨2, by omega, by go_num, HW.out⟩
                  case measure => simp [intOf] <;> omega
                · have d2 : (((a1[j]'hlt).toNat : Int) == 114) = false := beq_eq_false_iff_ne.mpr hL
                  have hN := impl_routeNumbers.leaf_out (k := a0_0) (p := a0_1) (t := a1) (l := l2) (j := j) (i := 1) (o := 1) (by decide) (by unfold impl_routeNumbers.own; rw [HSD.out]; rfl) (fun e => e.elim (fun e => h98 (HB.out.trans e)) (fun e => hL (HB.out.trans e)))
                  have HN := Lib.hid hN
                  clear hN h98 hL
                  go_wp2_with fail
                  go_roundw
                  case rel => exact ⟨2, by omega, by go_num, by rw [HN.out]; exact HW.out⟩
                  case measure => simp [intOf] <;> omega
            · clear hi
              obtain ⟨ad', ead, hx⟩ := Kd.at_int (Kd.C_below HR.out HW.out.bel) (j : Int) hp0 hp2
              obtain rfl : ad = ad' := Option.some.inj ead
              rw [Int.toNat_natCast] at hx
              go_wp2_with fail
              go_roundw
              case rel => exact ⟨j + 1, by omega, by go_num, rfl, HW.out⟩
              case measure => simp [intOf] <;> omega
        · have HSD := Lib.hid hsd
          have e1 : IntKind.i64.wrap (1 - impl_routeNumbers.side l2 j) = 0 := by rw [hsd]; rfl
          rw [hsd]
          clear hsd
          go_wp2_with fail
          go_loopw [22, 7] (fun v v7 wr => ∃ i : Nat, i ≤ 2 ∧ v = .int .i64 i ∧ impl_routeNumbers.RW w wr a0_0 a0_1 v7 (impl_routeNumbers.acc2 a0_0 a0_1 a1 l2 j i)) (fun v _ _ => 2 - (intOf v).toNat)
          case atStart => exact ⟨0, by omega, rfl, HW.out⟩
          case round =>
            obtain ⟨i, hi, rfl, hrw⟩ := hrel
            clear HW
            have HW := Lib.hid hrw
            clear hrw
            rcases (show i = 0 ∨ i = 1 ∨ i = 2 by omega) with rfl | rfl | rfl
            · clear hi
              have ix : ∀ w, (Instr.index 53 (.agg #[.int .i64 1, .int .i64 0]) (.int .i64 0)).run Try.prog w = .ok (.int .i64 1) w := fun _ => by kernel_rfl
              have ix2 : ∀ w, (Instr.index 9 (.string ⟨#[108, 114]⟩) (.int .i64 1)).run Try.prog w = .ok (.int .u8 114) w := fun _ => by kernel_rfl
              rw [show (((0 : Nat) : Int)) = 0 from rfl]
              have hcz0 : wr.cell? ⟨w.heap.size, 0, none⟩ = some (.int .i64 a0_0) := (blk_cell HW.out.box 0).trans rfl
              have hcz1 : wr.cell? ⟨w.heap.size, 1, none⟩ = some (.int .i64 a0_1) := (blk_cell HW.out.box 1).trans rfl
              have hfz0 := blk_frozen HW.out.box 0
              have hfz1 := blk_frozen HW.out.box 1
              by_cases h98 : ((a1[j]'hlt).toNat : Int) = 98
              · have d1 : (((a1[j]'hlt).toNat : Int) == 98) = true := beq_iff_eq.mpr h98
                have HBB : bt a1 (j : Int) = 98 ∨ bt a1 (j : Int) = impl_routeNumbers.lr 1 := .inl (HB.out.symm.trans h98)
                clear h98
                have hN := impl_routeNumbers.leaf_in (k := a0_0) (p := a0_1) (t := a1) (l := l2) (j := j) (i := 0) (o := 1) (by decide) (by unfold impl_routeNumbers.own; rw [HSD.out]; rfl) HBB
                have HN := Lib.hid hN
                have HL := Lib.hid (impl_routeNumbers.acc2_len a0_0 a0_1 a1 l2 j 0 (by decide))
                clear hN HBB
                go_wp2_with (first
                  | (go_at_call 34; refine (impl_numberAt.calls a0_0 a0_1 1 (j : Int) _ _ (impl_routeNumbers.num_f a0_0 a0_1 1 (j : Int))).mono ?_; rintro e wn ⟨rfl, hb⟩; have hw2 := HW.out.below hb; clear HW hb hcz0 hcz1 hfz0 hfz1; have HW := Lib.hid hw2; clear hw2)
                  | ((with_reducible refine gate_builtin (b := .append) (xs := #[.tmp 36, .tmp 41]) rfl ?_); at_builtin; refine Kd.R_append (Kd.int .i64) (w0 := w) w.heap.size rfl (.tmp 36) (.tmp 41) 24 3 (.int .i64 0) 8 rfl Try.underlying24 impl_routeNumbers.info3 rfl (by decide) (by omega) _ (impl_routeNumbers.acc2 a0_0 a0_1 a1 l2 j 0) (impl_routeNumbers.num a0_0 a0_1 1 (j : Int)) [.int .i64 (impl_routeNumbers.num a0_0 a0_1 1 (j : Int))] (fun _ => True) (fun _ => False) rfl rfl ?aP (fun _ hk => hk.elim) ?aF ?aO ?aB ?aS ?aL ?_; (case aP => exact rfl); (case aB => exact HW.out.bel); (case aF => exact (fun _ _ => trivial)); (case aO => exact HW.out.row); (case aS => exact HW.out.bel.size); (case aL => have := HL.out; omega); intro v1 w1 ho hb hg hat; rw [← HN.out] at ho; have hw2 := HW.out.app ho hb hg; clear HW ho hb hg hat; have HW := Lib.hid hw2; clear hw2))
                go_roundw
                case rel => exact ⟨1, by omega, by go_num, HW.out⟩
                case measure => simp [intOf] <;> omega
              · have d1 : (((a1[j]'hlt).toNat : Int) == 98) = false := beq_eq_false_iff_ne.mpr h98
                by_cases hL : ((a1[j]'hlt).toNat : Int) = 114
                · have d2 : (((a1[j]'hlt).toNat : Int) == 114) = true := beq_iff_eq.mpr hL
                  have HBB : bt a1 (j : Int) = 98 ∨ bt a1 (j : Int) = impl_routeNumbers.lr 1 := .inr (HB.out.symm.trans hL)
                  clear h98 hL
                  have hN := impl_routeNumbers.leaf_in (k := a0_0) (p := a0_1) (t := a1) (l := l2) (j := j) (i := 0) (o := 1) (by decide) (by unfold impl_routeNumbers.own; rw [HSD.out]; rfl) HBB
                  have HN := Lib.hid hN
                  have HL := Lib.hid (impl_routeNumbers.acc2_len a0_0 a0_1 a1 l2 j 0 (by decide))
                  clear hN HBB
                  go_wp2_with (first
                    | (go_at_call 34; refine (impl_numberAt.calls a0_0 a0_1 1 (j : Int) _ _ (impl_routeNumbers.num_f a0_0 a0_1 1 (j : Int))).mono ?_; rintro e wn ⟨rfl, hb⟩; have hw2 := HW.out.below hb; clear HW hb hcz0 hcz1 hfz0 hfz1; have HW := Lib.hid hw2; clear hw2)
                    | ((with_reducible refine gate_builtin (b := .append) (xs := #[.tmp 36, .tmp 41]) rfl ?_); at_builtin; refine Kd.R_append (Kd.int .i64) (w0 := w) w.heap.size rfl (.tmp 36) (.tmp 41) 24 3 (.int .i64 0) 8 rfl Try.underlying24 impl_routeNumbers.info3 rfl (by decide) (by omega) _ (impl_routeNumbers.acc2 a0_0 a0_1 a1 l2 j 0) (impl_routeNumbers.num a0_0 a0_1 1 (j : Int)) [.int .i64 (impl_routeNumbers.num a0_0 a0_1 1 (j : Int))] (fun _ => True) (fun _ => False) rfl rfl ?aP (fun _ hk => hk.elim) ?aF ?aO ?aB ?aS ?aL ?_; (case aP => exact rfl); (case aB => exact HW.out.bel); (case aF => exact (fun _ _ => trivial)); (case aO => exact HW.out.row); (case aS => exact HW.out.bel.size); (case aL => have := HL.out; omega); intro v1 w1 ho hb hg hat; rw [← HN.out] at ho; have hw2 := HW.out.app ho hb hg; clear HW ho hb hg hat; have HW := Lib.hid hw2; clear hw2))
                  go_roundw
                  case rel => exact ⟨1, by omega, by go_num, HW.out⟩
                  case measure => simp [intOf] <;> omega
                · have d2 : (((a1[j]'hlt).toNat : Int) == 114) = false := beq_eq_false_iff_ne.mpr hL
                  have hN := impl_routeNumbers.leaf_out (k := a0_0) (p := a0_1) (t := a1) (l := l2) (j := j) (i := 0) (o := 1) (by decide) (by unfold impl_routeNumbers.own; rw [HSD.out]; rfl) (fun e => e.elim (fun e => h98 (HB.out.trans e)) (fun e => hL (HB.out.trans e)))
                  have HN := Lib.hid hN
                  clear hN h98 hL
                  go_wp2_with fail
                  go_roundw
                  case rel => exact ⟨1, by omega, by go_num, by rw [HN.out]; exact HW.out⟩
                  case measure => simp [intOf] <;> omega
            · clear hi
              have ix : ∀ w, (Instr.index 53 (.agg #[.int .i64 1, .int .i64 0]) (.int .i64 1)).run Try.prog w = .ok (.int .i64 0) w := fun _ => by kernel_rfl
              have ix2 : ∀ w, (Instr.index 9 (.string ⟨#[108, 114]⟩) (.int .i64 0)).run Try.prog w = .ok (.int .u8 108) w := fun _ => by kernel_rfl
              rw [show (((1 : Nat) : Int)) = 1 from rfl]
              have hcz0 : wr.cell? ⟨w.heap.size, 0, none⟩ = some (.int .i64 a0_0) := (blk_cell HW.out.box 0).trans rfl
              have hcz1 : wr.cell? ⟨w.heap.size, 1, none⟩ = some (.int .i64 a0_1) := (blk_cell HW.out.box 1).trans rfl
              have hfz0 := blk_frozen HW.out.box 0
              have hfz1 := blk_frozen HW.out.box 1
              by_cases h98 : ((a1[j]'hlt).toNat : Int) = 98
              · have d1 : (((a1[j]'hlt).toNat : Int) == 98) = true := beq_iff_eq.mpr h98
                have HBB : bt a1 (j : Int) = 98 ∨ bt a1 (j : Int) = impl_routeNumbers.lr 0 := .inl (HB.out.symm.trans h98)
                clear h98
                have hN := impl_routeNumbers.leaf_in (k := a0_0) (p := a0_1) (t := a1) (l := l2) (j := j) (i := 1) (o := 0) (by decide) (by unfold impl_routeNumbers.own; rw [HSD.out]; rfl) HBB
                have HN := Lib.hid hN
                have HL := Lib.hid (impl_routeNumbers.acc2_len a0_0 a0_1 a1 l2 j 1 (by decide))
                clear hN HBB
                go_wp2_with (first
                  | (go_at_call 34; refine (impl_numberAt.calls a0_0 a0_1 0 (j : Int) _ _ (impl_routeNumbers.num_f a0_0 a0_1 0 (j : Int))).mono ?_; rintro e wn ⟨rfl, hb⟩; have hw2 := HW.out.below hb; clear HW hb hcz0 hcz1 hfz0 hfz1; have HW := Lib.hid hw2; clear hw2)
                  | ((with_reducible refine gate_builtin (b := .append) (xs := #[.tmp 36, .tmp 41]) rfl ?_); at_builtin; refine Kd.R_append (Kd.int .i64) (w0 := w) w.heap.size rfl (.tmp 36) (.tmp 41) 24 3 (.int .i64 0) 8 rfl Try.underlying24 impl_routeNumbers.info3 rfl (by decide) (by omega) _ (impl_routeNumbers.acc2 a0_0 a0_1 a1 l2 j 1) (impl_routeNumbers.num a0_0 a0_1 0 (j : Int)) [.int .i64 (impl_routeNumbers.num a0_0 a0_1 0 (j : Int))] (fun _ => True) (fun _ => False) rfl rfl ?aP (fun _ hk => hk.elim) ?aF ?aO ?aB ?aS ?aL ?_; (case aP => exact rfl); (case aB => exact HW.out.bel); (case aF => exact (fun _ _ => trivial)); (case aO => exact HW.out.row); (case aS => exact HW.out.bel.size); (case aL => have := HL.out; omega); intro v1 w1 ho hb hg hat; rw [← HN.out] at ho; have hw2 := HW.out.app ho hb hg; clear HW ho hb hg hat; have HW := Lib.hid hw2; clear hw2))
                go_roundw
                case rel => exact ⟨2, by omega, by go_num, HW.out⟩
                case measure => simp [intOf] <;> omega
              · have d1 : (((a1[j]'hlt).toNat : Int) == 98) = false := beq_eq_false_iff_ne.mpr h98
                by_cases hL : ((a1[j]'hlt).toNat : Int) = 108
                · have d2 : (((a1[j]'hlt).toNat : Int) == 108) = true := beq_iff_eq.mpr hL
                  have HBB : bt a1 (j : Int) = 98 ∨ bt a1 (j : Int) = impl_routeNumbers.lr 0 := .inr (HB.out.symm.trans hL)
                  clear h98 hL
                  have hN := impl_routeNumbers.leaf_in (k := a0_0) (p := a0_1) (t := a1) (l := l2) (j := j) (i := 1) (o := 0) (by decide) (by unfold impl_routeNumbers.own; rw [HSD.out]; rfl) HBB
                  have HN := Lib.hid hN
                  have HL := Lib.hid (impl_routeNumbers.acc2_len a0_0 a0_1 a1 l2 j 1 (by decide))
                  clear hN HBB
                  go_wp2_with (first
                    | (go_at_call 34; refine (impl_numberAt.calls a0_0 a0_1 0 (j : Int) _ _ (impl_routeNumbers.num_f a0_0 a0_1 0 (j : Int))).mono ?_; rintro e wn ⟨rfl, hb⟩; have hw2 := HW.out.below hb; clear HW hb hcz0 hcz1 hfz0 hfz1; have HW := Lib.hid hw2; clear hw2)
                    | ((with_reducible refine gate_builtin (b := .append) (xs := #[.tmp 36, .tmp 41]) rfl ?_); at_builtin; refine Kd.R_append (Kd.int .i64) (w0 := w) w.heap.size rfl (.tmp 36) (.tmp 41) 24 3 (.int .i64 0) 8 rfl Try.underlying24 impl_routeNumbers.info3 rfl (by decide) (by omega) _ (impl_routeNumbers.acc2 a0_0 a0_1 a1 l2 j 1) (impl_routeNumbers.num a0_0 a0_1 0 (j : Int)) [.int .i64 (impl_routeNumbers.num a0_0 a0_1 0 (j : Int))] (fun _ => True) (fun _ => False) rfl rfl ?aP (fun _ hk => hk.elim) ?aF ?aO ?aB ?aS ?aL ?_; (case aP => exact rfl); (case aB => exact HW.out.bel); (case aF => exact (fun _ _ => trivial)); (case aO => exact HW.out.row); (case aS => exact HW.out.bel.size); (case aL => have := HL.out; omega); intro v1 w1 ho hb hg hat; rw [← HN.out] at ho; have hw2 := HW.out.app ho hb hg; clear HW ho hb hg hat; have HW := Lib.hid hw2; clear hw2))
                  go_roundw
                  case rel => exact ⟨2, by omega, by go_num, HW.out⟩
                  case measure => simp [intOf] <;> omega
                · have d2 : (((a1[j]'hlt).toNat : Int) == 108) = false := beq_eq_false_iff_ne.mpr hL
                  have hN := impl_routeNumbers.leaf_out (k := a0_0) (p := a0_1) (t := a1) (l := l2) (j := j) (i := 1) (o := 0) (by decide) (by unfold impl_routeNumbers.own; rw [HSD.out]; rfl) (fun e => e.elim (fun e => h98 (HB.out.trans e)) (fun e => hL (HB.out.trans e)))
                  have HN := Lib.hid hN
                  clear hN h98 hL
                  go_wp2_with fail
                  go_roundw
                  case rel => exact ⟨2, by omega, by go_num, by rw [HN.out]; exact HW.out⟩
                  case measure => simp [intOf] <;> omega
            · clear hi
              obtain ⟨ad', ead, hx⟩ := Kd.at_int (Kd.C_below HR.out HW.out.bel) (j : Int) hp0 hp2
              obtain rfl : ad = ad' := Option.some.inj ead
              rw [Int.toNat_natCast] at hx
              go_wp2_with fail
              go_roundw
              case rel => exact ⟨j + 1, by omega, by go_num, rfl, HW.out⟩
              case measure => simp [intOf] <;> omega
      · obtain rfl : j = a1.size := by omega
        go_wp2_with fail
        go_ret
        rw [← HE.out]
        exact ⟨_, rfl, HW.out.row, HW.out.bel⟩
  · rw [if_neg hs] at h
    cases h
/-! ### impl_NumbersOf: function 7 -/
def impl_NumbersOf.lay_ren : Go.Shelf.Ren := ⟨fun n => match n with | 189 => 19 | 125 => 36 | 257 => 35 | 128 => 56 | 129 => 57 | 294 => 47 | 295 => 48 | 296 => 49 | 297 => 50 | 298 => 51 | 299 => 52 | 216 => 53 | 300 => 54 | 301 => 55 | 328 => 68 | 329 => 69 | 330 => 70 | 331 => 71 | 332 => 72 | 215 => 73 | 343 => 80 | n => n, fun n => match n with | 28 => 24 | 3 => 3 | 46 => 56 | 0 => 0 | 51 => 81 | 53 => 83 | 4 => 4 | 183 => 74 | 182 => 73 | 131 => 78 | 5 => 5 | 9 => 9 | 218 => 96 | 222 => 100 | 228 => 108 | 229 => 49 | n => n, fun n => n⟩
theorem impl_NumbersOf.lay : Go.Proofs.Lays.n189 Try.prog impl_NumbersOf.lay_ren := {
  mixed := by kernel_rfl
  f125 := Try.func36.trans (congrArg some (by kernel_rfl))
  f128 := Try.func56.trans (congrArg some (by kernel_rfl))
  f129 := Try.func57.trans (congrArg some (by kernel_rfl))
  f189 := Try.func19.trans (congrArg some (by kernel_rfl))
  f215 := Try.func73.trans (congrArg some (by kernel_rfl))
  f216 := Try.func53.trans (congrArg some (by kernel_rfl))
  f257 := Try.func35.trans (congrArg some (by kernel_rfl))
  f294 := Try.func47.trans (congrArg some (by kernel_rfl))
  f295 := Try.func48.trans (congrArg some (by kernel_rfl))
  f296 := Try.func49.trans (congrArg some (by kernel_rfl))
  f297 := Try.func50.trans (congrArg some (by kernel_rfl))
  f298 := Try.func51.trans (congrArg some (by kernel_rfl))
  f299 := Try.func52.trans (congrArg some (by kernel_rfl))
  f300 := Try.func54.trans (congrArg some (by kernel_rfl))
  f301 := Try.func55.trans (congrArg some (by kernel_rfl))
  f328 := Try.func68.trans (congrArg some (by kernel_rfl))
  f329 := Try.func69.trans (congrArg some (by kernel_rfl))
  f330 := Try.func70.trans (congrArg some (by kernel_rfl))
  f331 := Try.func71.trans (congrArg some (by kernel_rfl))
  f332 := Try.func72.trans (congrArg some (by kernel_rfl))
  f343 := Try.func80.trans (congrArg some (by kernel_rfl))
  t0 := Try.underlying0
  a0 := Try.isAgg0
  z0 := Try.sizeOf0
  v0 := Try.zeroValue0
  t3 := Try.underlying3
  a3 := Try.isAgg3
  z3 := Try.sizeOf3
  v3 := Try.zeroValue3
  t4 := Try.underlying4
  a4 := Try.isAgg4
  z4 := Try.sizeOf4
  v4 := Try.zeroValue4
  t5 := Try.underlying5
  a5 := Try.isAgg5
  z5 := Try.sizeOf5
  v5 := Try.zeroValue5
  t9 := Try.underlying9
  a9 := Try.isAgg9
  z9 := Try.sizeOf9
  v9 := Try.zeroValue9
  t28 := Try.underlying24
  a28 := Try.isAgg24
  z28 := Try.sizeOf24
  v28 := Try.zeroValue24
  t46 := Try.underlying56
  a46 := Try.isAgg56
  z46 := Try.sizeOf56
  v46 := Try.zeroValue56
  t51 := Try.underlying81
  a51 := Try.isAgg81
  z51 := Try.sizeOf81
  v51 := Try.zeroValue81
  t53 := Try.underlying83
  a53 := Try.isAgg83
  z53 := Try.sizeOf83
  v53 := Try.zeroValue83
  t131 := Try.underlying78
  a131 := Try.isAgg78
  z131 := Try.sizeOf78
  v131 := Try.zeroValue78
  t182 := Try.underlying73
  a182 := Try.isAgg73
  z182 := Try.sizeOf73
  v182 := Try.zeroValue73
  t183 := Try.underlying74
  a183 := Try.isAgg74
  z183 := Try.sizeOf74
  v183 := Try.zeroValue74
  t218 := Try.underlying96
  a218 := Try.isAgg96
  z218 := Try.sizeOf96
  v218 := Try.zeroValue96
  t222 := Try.underlying100
  a222 := Try.isAgg100
  z222 := Try.sizeOf100
  v222 := Try.zeroValue100
  t228 := Try.underlying108
  a228 := Try.isAgg108
  z228 := Try.sizeOf108
  v228 := Try.zeroValue108
  t229 := Try.underlying49
  a229 := Try.isAgg49
  z229 := Try.sizeOf49
  v229 := Try.zeroValue49 }
def impl_NumbersOf.sorted (xs : List Int) : List Int := xs.mergeSort fun x y => decide (x ≤ y)
theorem impl_NumbersOf.sort {W : World} {base : Nat} {ok : Nat → Prop} {v : Value} {xs : List Int} (h : Kd.R (Kd.int .i64) 3 W base ok v xs) (hl : xs.length < 4611686018427387904) :
    Calls Try.prog 19 #[v] W fun e W' => e = .returned (.tuple #[]) ∧ Kd.R (Kd.int .i64) 3 W' base ok v (impl_NumbersOf.sorted xs) ∧ W.grownBy W' v.ownBlock := by
  have ho := Kd.own_of_R (enc := Value.int .i64) (h1 := fun _ => rfl) h
  have hln : (impl_NumbersOf.sorted xs).length = xs.length := List.length_mergeSort _
  rcases ho.2 with ⟨rfl, hn⟩ | ⟨g, cap, cur, rfl, hg, hh, h1, h2, h3, h4⟩
  · have hx : xs = [] := List.eq_nil_of_length_eq_zero (by omega)
    refine (Go.Proofs.Any.slices_Sort_int_none impl_NumbersOf.lay none 0 W).mono ?_
    rintro e W' ⟨rfl, rfl⟩
    subst hx
    have e0 : impl_NumbersOf.sorted [] = [] := by simp [impl_NumbersOf.sorted]
    rw [e0]
    exact ⟨rfl, h, World.grownBy.refl _ _⟩
  · have hH := holds_of_blockI (ss := xs) hh (by rw [Nat.mul_one] at h4; exact h4)
    refine (Go.Proofs.Any.slices_Sort_int impl_NumbersOf.lay g 0 cap xs W hH (blk_lt hh) hl).mono ?_
    rintro e W' ⟨rfl, n, os, rfl⟩
    refine ⟨rfl, Kd.R_of_own (enc := Value.int .i64) (h1 := fun _ => rfl) ?_ h.1, grownBy_sortedI _⟩
    rw [hln]
    exact ownsRow_sortedI hln hg hh h1 h2 h3
def impl_NumbersOf.f (k : Nat) (a0_0 : Int) (a0_1 : Int) (a1 : ByteArray) : Option (List Int × Bool) := (impl_isStreetText.f k a0_0 a0_1 a1).bind fun t => if t = true then (if a1.size ≤ 1048576 then (impl_routeNumbers.f a0_0 a0_1 a1 (List.replicate a1.size 0)).bind fun l => some (impl_NumbersOf.sorted l, true) else none) else some ([], false)
theorem impl_NumbersOf.mono : ∀ a0 a1 a2 k, LeO (impl_NumbersOf.f k a0 a1 a2) (impl_NumbersOf.f (k + 1) a0 a1 a2) := by
  intro a0 a1 a2 k
  unfold impl_NumbersOf.f
  exact LeO.bind (impl_isStreetText.mono _ _ _ _) (fun _ => LeO.refl _)
theorem impl_NumbersOf.rn (a0_0 a0_1 : Int) (a1 : ByteArray) (A : Option Addr) (n c : Nat) (l2 r : List Int) (w : World) (hr : Kd.C (Kd.int .i64) w A l2.length l2) (hn : l2.length = n) (hc : n ≤ c) (h : impl_routeNumbers.f a0_0 a0_1 a1 l2 = some r) :
    Calls Try.prog 18 #[.agg #[.int .i64 a0_0, .int .i64 a0_1], .string a1, .slice A n c] w fun e w' => ∃ v0_ : Value, e = .returned (v0_) ∧ Kd.R (Kd.int .i64) 3 w' w.heap.size (fun _ => True) v0_ r ∧ Below w.heap.size w w' := by
  subst hn
  exact impl_routeNumbers.calls a0_0 a0_1 a1 A c l2 r w hr hc h
theorem impl_NumbersOf.rn_len {a0_0 a0_1 : Int} {a1 : ByteArray} {l2 r : List Int} (h : impl_routeNumbers.f a0_0 a0_1 a1 l2 = some r) : r.length ≤ 2097152 := by
  unfold impl_routeNumbers.f at h
  split at h
  · rename_i hc
    cases h
    have := impl_routeNumbers.acc_len a0_0 a0_1 a1 l2 a1.size
    omega
  · cases h
theorem impl_NumbersOf.made_C {W : World} {g n : Nat} (hn : n ≤ 1048576) (h : W.heap[g]? = some (.cells (madeCells #[.int .i64 0] n) 3 (0, 0))) : Kd.C (Kd.int .i64) W (some ⟨g, 0, none⟩) (List.replicate n (0 : Int)).length (List.replicate n 0) := by
  refine ⟨rfl, by simp; omega, fun _ => ⟨⟨g, 0, none⟩, rfl, fun j p hj => ?_⟩⟩
  have hj' : j < n := by
    rcases Nat.lt_or_ge j n with h | h
    · exact h
    · rw [List.getElem?_eq_none (by simpa using h)] at hj; cases hj
  have hp : p = 0 := by
    rw [List.getElem?_replicate, if_pos hj'] at hj
    exact (Option.some.inj hj).symm
  subst hp
  refine ⟨[.int .i64 0], rfl, rfl, fun i u hu => ?_⟩
  match i, hu with
  | 0, hu =>
    cases hu
    rw [add_plain, Nat.add_zero, blk_cell h]
    show (madeCells #[.int .i64 0] n)[j * 1]? = _
    rw [Nat.mul_one]
    simp [madeCells, hj', Nat.mod_one]
  | i + 1, hu => simp at hu
theorem impl_NumbersOf.info3 : (Try.prog.info? 3).map (fun i => (i.zero, i.size, i.bytes)) = some (some (.int .i64 0), 1, 8) := by kernel_rfl
set_option maxHeartbeats 4000000 in
set_option maxRecDepth 100000 in
theorem impl_NumbersOf.calls (k : Nat) (a0_0 : Int) (a0_1 : Int) (a1 : ByteArray) (r1 : List Int) (r2 : Bool) (w : World) (h : impl_NumbersOf.f k a0_0 a0_1 a1 = some (r1, r2)) :
    Calls Try.prog 7 #[.agg #[.int .i64 a0_0, .int .i64 a0_1], .string a1] w fun e w' => ∃ v0_ : Value, e = .returned (.tuple #[v0_, .bool r2]) ∧ Kd.R (Kd.int .i64) 3 w' w.heap.size (fun _ => True) v0_ r1 ∧ Below w.heap.size w w' := by
  unfold impl_NumbersOf.f at h
  obtain ⟨t, ht, h⟩ := Option.bind_eq_some_iff.mp h
  have hu43 := Try.underlying27
  have HT := Lib.hid ht
  have HB := Lib.hid (below_alloc (Below.refl w.heap.size w) (.cells #[.int .i64 a0_0, .int .i64 a0_1] 27))
  have HX := Lib.hid (blk_new w (.cells #[.int .i64 a0_0, .int .i64 a0_1] 27))
  cases t with
  | false =>
    cases h
    clear ht
    go_enter Try.func7, Try.ntmps7
    go_wp2_with (go_at_call 17; refine (impl_isStreetText.calls k a0_0 a0_1 a1 false _ HT.out).mono ?_; rintro e w2 ⟨rfl, hb⟩; have HB2 := Lib.hid (below_then HB.out HB.out.size hb); clear hb)
    go_ret2
    exact ⟨_, rfl, Kd.R_nil _ _ _ _ _, HB2.out⟩
  | true =>
    rw [if_pos rfl] at h
    by_cases hz : a1.size ≤ 1048576
    · rw [if_pos hz] at h
      obtain ⟨l, hl, h⟩ := Option.bind_eq_some_iff.mp h
      cases h
      have HL := Lib.hid hl
      clear ht hl
      have hmk := print_make (P := Try.prog) 24 3 .i64 8 Try.underlying24 impl_NumbersOf.info3 (by omega) a1.size (by omega)
      go_enter Try.func7, Try.ntmps7
      go_wp2_with (go_at_call 17; refine (impl_isStreetText.calls k a0_0 a0_1 a1 true _ HT.out).mono ?_; rintro e w2 ⟨rfl, hb⟩; have HB2 := Lib.hid (below_then HB.out HB.out.size hb); have hbx := (hb.block _ (blk_lt HX.out)).trans HX.out; have hcz0 : w2.cell? ⟨w.heap.size, 0, none⟩ = some (.int .i64 a0_0) := (blk_cell hbx 0).trans rfl; have hcz1 : w2.cell? ⟨w.heap.size, 1, none⟩ = some (.int .i64 a0_1) := (blk_cell hbx 1).trans rfl; have hfz0 := blk_frozen hbx 0; have hfz1 := blk_frozen hbx 1; have hca0 : ∀ o, (w2.alloc o).cell? ⟨w.heap.size, 0, none⟩ = some (.int .i64 a0_0) := fun o => (blk_cell (blk_alloc hbx o) 0).trans rfl; have hca1 : ∀ o, (w2.alloc o).cell? ⟨w.heap.size, 1, none⟩ = some (.int .i64 a0_1) := fun o => (blk_cell (blk_alloc hbx o) 1).trans rfl; clear hb)
      go_region_with ((go_at_call 18; refine (impl_NumbersOf.rn a0_0 a0_1 a1 _ a1.size a1.size (List.replicate a1.size 0) l _ (impl_NumbersOf.made_C hz (by first | exact blk_new _ _ | exact blk_drew (blk_new _ _))) (List.length_replicate ..) (Nat.le_refl _) HL.out).mono ?_; rintro e w3 ⟨v3, rfl, hrow, hb3⟩))
      all_goals
        have hW := below_drew (below_alloc HB2.out (.cells (madeCells #[.int .i64 0] a1.size) 3))
        have HS := Lib.hid (And.intro (below_then hW hW.size hb3) (Kd.R_lower hrow hW.size))
        have HN := Lib.hid (impl_NumbersOf.rn_len HL.out)
        clear hW hrow hb3
        go_wp2_with (go_at_call 19; refine (impl_NumbersOf.sort HS.out.2 (by have := HN.out; omega)).mono ?_; rintro e w4 ⟨rfl, hs, hg⟩; have HF := Lib.hid (And.intro hs (pw_below_grown HS.out.1 _ HS.out.1.size hg (Kd.R_base HS.out.2))); clear hs hg)
        go_ret2
        exact ⟨_, rfl, HF.out.1, HF.out.2⟩
    · rw [if_neg hz] at h
      cases h
/-! ### laws_eqIntS: function 8 -/
def laws_eqIntS.l0 : Nat → List Int → List Int → Int → Option (Bool)
  | 0, _, _, _ => none
  | k + 1, x0, x1, x5 => if x5 < (x0.length : Int) then (if 0 ≤ x5 then (if x5 < (x1.length : Int) then (if (rd x0 x5) = (rd x1 x5) then (laws_eqIntS.l0 k x0 x1 (wrap64 (x5 + 1))) else (some false)) else (none)) else (none)) else (some true)
def laws_eqIntS.f (k : Nat) (l0 : List Int) (l1 : List Int) : Option (Bool) := if (l0.length : Int) = (l1.length : Int) then (laws_eqIntS.l0 k l0 l1 0) else (some false)
theorem laws_eqIntS.mono_l : ∀ k, (∀ y0 y1 y2, LeO (laws_eqIntS.l0 k y0 y1 y2) (laws_eqIntS.l0 (k + 1) y0 y1 y2))
  | 0 => fun _ _ _ r h => by simp [laws_eqIntS.l0] at h
  | k + 1 => by
    have ih0 := laws_eqIntS.mono_l k
    · intro y0 y1 y2
      unfold laws_eqIntS.l0
      repeat' first
      | (with_reducible exact ih0 _ _ _)
      | (with_reducible exact LeO.refl _)
      | (with_reducible exact LeO.none _)
      | (with_reducible refine LeO.ite ?_ ?_)
      | (with_reducible refine LeO.bind ?_ (fun _ => ?_))
      | exact ih0 _ _ _
      | exact LeO.none _
      | refine LeO.ite ?_ ?_
      | refine LeO.bind ?_ (fun _ => ?_)
theorem laws_eqIntS.mono : ∀ a0 a1 k, LeO (laws_eqIntS.f k a0 a1) (laws_eqIntS.f (k + 1) a0 a1) := by
  intro a0 a1 k
  have ih0 := laws_eqIntS.mono_l k
  unfold laws_eqIntS.f
  repeat' first
      | (with_reducible exact ih0 _ _ _)
      | (with_reducible exact LeO.refl _)
      | (with_reducible exact LeO.none _)
      | (with_reducible refine LeO.ite ?_ ?_)
      | (with_reducible refine LeO.bind ?_ (fun _ => ?_))
      | exact ih0 _ _ _
      | exact LeO.none _
      | refine LeO.ite ?_ ?_
      | refine LeO.bind ?_ (fun _ => ?_)
set_option maxHeartbeats 8000000 in
set_option maxRecDepth 100000 in
theorem laws_eqIntS.calls (k : Nat) (A0 : Option Addr) (c0 : Nat) (l0 : List Int) (A1 : Option Addr) (c1 : Nat) (l1 : List Int) (r : Bool) (w : World) (hr0 : Kd.C (Kd.int .i64) w A0 l0.length l0) (hc0 : l0.length ≤ c0) (hr1 : Kd.C (Kd.int .i64) w A1 l1.length l1) (hc1 : l1.length ≤ c1) (h : laws_eqIntS.f k l0 l1 = some r) :
    Calls Try.prog 8 #[.slice A0 l0.length c0, .slice A1 l1.length c1] w fun e w' => e = .returned (.bool r) ∧ Drawn0 w w' := by
  have HR0 := Aside0.mk hr0
  have HC0 := Aside0.mk hc0
  clear hr0 hc0
  have HR1 := Aside0.mk hr1
  have HC1 := Aside0.mk hc1
  clear hr1 hc1
  have H : (if (l0.length : Int) = (l1.length : Int) then (laws_eqIntS.l0 k l0 l1 0) else (some false)) = some r := h
  clear h
  by_cases c3 : (l0.length : Int) = (l1.length : Int)
  · rw [if_pos c3] at H
    have c3b0 : ((l0.length : Int) == (l1.length : Int)) = true := beq_iff_eq.mpr c3
    have c3b1 : ((l0.length : Int) != (l1.length : Int)) = false := bne_eq_false_iff_eq.mpr c3
    have c3b2 : (l0.length == l1.length) = true := by first | simpa using c3 | (simp at c3 ⊢; omega)
    clear c3
    have H' := Aside0.mk H
    clear H
    go_enter Try.func8, Try.ntmps8
    go_wp2
    repeat (go_quiet (fail); try go_wp2)
    go_loopg [5] k (fun kq v5 w' => ∃ (x5_1 : Int), v5 = .int .i64 x5_1 ∧ Aside0 (laws_eqIntS.l0 kq l0 l1 x5_1 = some r) ∧ Aside0 (kq ≤ k) ∧ Drawn0 w w')
    case atStart => exact ⟨(0), (by first | rfl | (simp; done) | (simp [*]; done)), H', ⟨Nat.le_refl _⟩, by repeat (first | exact Drawn0.refl _ | apply Drawn0.step)⟩
    case round =>
      clear H'
      try clear c1
      try clear p2
      try clear c3
      try clear c3b0
      try clear c3b1
      try clear c3b2
      obtain ⟨x5_1, rfl, HA, HK1, ⟨m1, rfl⟩⟩ := hrel
      cases gk with
      | zero => exact absurd HA.out (by simp [laws_eqIntS.l0])
      | succ k1 =>
        have H := HA.out
        clear HA
        simp only [laws_eqIntS.l0] at H
        by_cases c4 : x5_1 < (l0.length : Int)
        · rw [if_pos c4] at H
          have c4b0 : decide (x5_1 < (l0.length : Int)) = true := decide_eq_true c4
          clear c4
          by_cases c5 : 0 ≤ x5_1
          · rw [if_pos c5] at H
            have c5b0 : decide (0 ≤ x5_1) = true := decide_eq_true c5
            clear c5
            by_cases c6 : x5_1 < (l1.length : Int)
            · rw [if_pos c6] at H
              have c6b0 : decide (x5_1 < (l1.length : Int)) = true := decide_eq_true c6
              clear c6
              by_cases c7 : (rd l0 x5_1) = (rd l1 x5_1)
              · rw [if_pos c7] at H
                have c7b0 : ((rd l0 x5_1) == (rd l1 x5_1)) = true := beq_iff_eq.mpr c7
                have c7b1 : ((rd l0 x5_1) != (rd l1 x5_1)) = false := bne_eq_false_iff_eq.mpr c7
                clear c7
                have H' := Aside0.mk H
                clear H
                have p185 : 0 ≤ (x5_1 : Int) := of_decide_eq_true (by first | (with_reducible assumption) | assumption)
                have q185 : x5_1 < (l0.length : Int) := of_decide_eq_true (by first | (with_reducible assumption) | assumption)
                obtain ⟨ad185, e185, hx185_0⟩ := Kd.at_int HR0.out x5_1 p185 q185
                cases e185
                replace p185 := eq_true p185
                replace q185 := eq_true q185
                have p186 : 0 ≤ (x5_1 : Int) := of_decide_eq_true (by first | (with_reducible assumption) | assumption)
                have q186 : x5_1 < (l1.length : Int) := of_decide_eq_true (by first | (with_reducible assumption) | assumption)
                obtain ⟨ad186, e186, hx186_0⟩ := Kd.at_int HR1.out x5_1 p186 q186
                cases e186
                replace p186 := eq_true p186
                replace q186 := eq_true q186
                go_wp2
                repeat (go_quiet (fail); try go_wp2)
                go_roundg k1
                case measure => have := HK1.out; omega
                case rel => exact ⟨(wrap64 (x5_1 + 1)), (by first | rfl | (simp; done) | (simp [*]; done)), H', ⟨by have := HK1.out; omega⟩, by repeat (first | exact Drawn0.refl _ | apply Drawn0.step)⟩
              · rw [if_neg c7] at H
                have c7b0 : ((rd l0 x5_1) == (rd l1 x5_1)) = false := beq_eq_false_iff_ne.mpr c7
                have c7b1 : ((rd l0 x5_1) != (rd l1 x5_1)) = true := bne_iff_ne.mpr c7
                obtain rfl := Option.some.inj H
                have p185 : 0 ≤ (x5_1 : Int) := of_decide_eq_true (by first | (with_reducible assumption) | assumption)
                have q185 : x5_1 < (l0.length : Int) := of_decide_eq_true (by first | (with_reducible assumption) | assumption)
                obtain ⟨ad185, e185, hx185_0⟩ := Kd.at_int HR0.out x5_1 p185 q185
                cases e185
                replace p185 := eq_true p185
                replace q185 := eq_true q185
                have p186 : 0 ≤ (x5_1 : Int) := of_decide_eq_true (by first | (with_reducible assumption) | assumption)
                have q186 : x5_1 < (l1.length : Int) := of_decide_eq_true (by first | (with_reducible assumption) | assumption)
                obtain ⟨ad186, e186, hx186_0⟩ := Kd.at_int HR1.out x5_1 p186 q186
                cases e186
                replace p186 := eq_true p186
                replace q186 := eq_true q186
                go_wp2
                repeat (go_quiet (fail); try go_wp2)
                go_ret
                exact ⟨by first | rfl | (simp; done) | (simp [*]; done), by repeat (first | exact Drawn0.refl _ | apply Drawn0.step)⟩
            · rw [if_neg c6] at H
              exact absurd H (by simp)
          · rw [if_neg c5] at H
            exact absurd H (by simp)
        · rw [if_neg c4] at H
          have c4b0 : decide (x5_1 < (l0.length : Int)) = false := decide_eq_false c4
          clear c4
          obtain rfl := Option.some.inj H
          go_wp2
          repeat (go_quiet (fail); try go_wp2)
          go_ret
          exact ⟨by first | rfl | (simp; done) | (simp [*]; done), by repeat (first | exact Drawn0.refl _ | apply Drawn0.step)⟩
  · rw [if_neg c3] at H
    have c3b0 : ((l0.length : Int) == (l1.length : Int)) = false := beq_eq_false_iff_ne.mpr c3
    have c3b1 : ((l0.length : Int) != (l1.length : Int)) = true := bne_iff_ne.mpr c3
    have c3b2 : (l0.length == l1.length) = false := by first | simpa using c3 | (simp at c3 ⊢; omega)
    obtain rfl := Option.some.inj H
    go_enter Try.func8, Try.ntmps8
    go_wp2
    repeat (go_quiet (fail); try go_wp2)
    go_ret
    exact ⟨by first | rfl | (simp; done) | (simp [*]; done), by repeat (first | exact Drawn0.refl _ | apply Drawn0.step)⟩

/-! ### laws_markIntS: function 9 -/
def laws_markIntS.l0 : Nat → List Int → Int → Int → Option (Int × List Int)
  | 0, _, _, _ => none
  | k + 1, x0, x1, x5 => if x5 < (x0.length : Int) then (if 0 ≤ x5 then (laws_markIntS.l0 k (x0.set (x5 : Int).toNat x1) (wrap64 (x1 + 1)) (wrap64 (x5 + 1))) else (none)) else (some (x1, x0))
def laws_markIntS.f (k : Nat) (l0 : List Int) (a1 : Int) : Option (Int × List Int) := laws_markIntS.l0 k l0 a1 0
theorem laws_markIntS.mono_l : ∀ k, (∀ y0 y1 y2, LeO (laws_markIntS.l0 k y0 y1 y2) (laws_markIntS.l0 (k + 1) y0 y1 y2))
  | 0 => fun _ _ _ r h => by simp [laws_markIntS.l0] at h
  | k + 1 => by
    have ih0 := laws_markIntS.mono_l k
    · intro y0 y1 y2
      unfold laws_markIntS.l0
      repeat' first
      | (with_reducible exact ih0 _ _ _)
      | (with_reducible exact LeO.refl _)
      | (with_reducible exact LeO.none _)
      | (with_reducible refine LeO.ite ?_ ?_)
      | (with_reducible refine LeO.bind ?_ (fun _ => ?_))
      | exact ih0 _ _ _
      | exact LeO.none _
      | refine LeO.ite ?_ ?_
      | refine LeO.bind ?_ (fun _ => ?_)
theorem laws_markIntS.mono : ∀ a0 a1 k, LeO (laws_markIntS.f k a0 a1) (laws_markIntS.f (k + 1) a0 a1) := by
  intro a0 a1 k
  have ih0 := laws_markIntS.mono_l k
  unfold laws_markIntS.f
  repeat' first
      | (with_reducible exact ih0 _ _ _)
      | (with_reducible exact LeO.refl _)
      | (with_reducible exact LeO.none _)
      | (with_reducible refine LeO.ite ?_ ?_)
      | (with_reducible refine LeO.bind ?_ (fun _ => ?_))
      | exact ih0 _ _ _
      | exact LeO.none _
      | refine LeO.ite ?_ ?_
      | refine LeO.bind ?_ (fun _ => ?_)
set_option maxHeartbeats 8000000 in
set_option maxRecDepth 100000 in
theorem laws_markIntS.calls (k : Nat) (P0_ : Nat → Prop) (u9000_ : Value) (l0 : List Int) (a1 : Int) (r1 : Int) (r2 : List Int) (w0 w : World) (hB : Below w0.heap.size w0 w) (ho0 : Kd.R (Kd.int .i64) 3 w w0.heap.size P0_ u9000_ l0) (h : laws_markIntS.f k l0 a1 = some (r1, r2)) :
    Calls Try.prog 9 #[u9000_, .int .i64 a1] w fun e w' => e = .returned (.int .i64 r1) ∧ Kd.R (Kd.int .i64) 3 w' w0.heap.size (fun k_ => (P0_ k_ ∨ w.heap.size ≤ k_)) u9000_ r2 ∧ Below w0.heap.size w0 w' ∧ Kept w w' (fun k_ => P0_ k_) := by
  have HO0 := Aside0.mk (show Kd.R (Kd.int .i64) 3 w w0.heap.size (fun k_ => (P0_ k_ ∨ w.heap.size ≤ k_)) u9000_ l0 from Kd.R_mono ho0 (fun k_ hk => (.inl hk)))
  have HK := Aside0.mk (Kept.refl w (fun k_ => P0_ k_))
  have HW0 := Aside0.mk hB.size
  have HB := Aside0.mk hB
  clear hB
  have H : (laws_markIntS.l0 k l0 a1 0) = some (r1, r2) := h
  clear h
  have H' := Aside0.mk H
  clear H
  go_enter Try.func9, Try.ntmps9
  go_wp2
  go_loopg [1, 5] k (fun kq v1 v5 w' => ∃ (x0_1 : List Int) (x1_1 : Int) (x5_1 : Int), v1 = .int .i64 x1_1 ∧ v5 = .int .i64 x5_1 ∧ Aside0 (laws_markIntS.l0 kq x0_1 x1_1 x5_1 = some (r1, r2)) ∧ Aside0 (kq ≤ k) ∧ Aside0 (Kd.R (Kd.int .i64) 3 w' w0.heap.size (fun k_ => (P0_ k_ ∨ w.heap.size ≤ k_)) u9000_ x0_1) ∧ Aside0 (Kept w w' (fun k_ => P0_ k_)) ∧ Aside0 (Below w0.heap.size w0 w'))
  case atStart => exact ⟨(l0), (a1), (0), (by first | rfl | (simp; done) | (simp [*]; done)), (by first | rfl | (simp; done) | (simp [*]; done)), H', ⟨Nat.le_refl _⟩, ⟨by (with_reducible repeat (first | apply Kd.R_alloc | apply Kd.R_drewN | apply Kd.R_drew)); exact HO0.out⟩, ⟨by repeat (first | (with_reducible first | exact HK.out | apply Kept.alloc | apply Kept.drewN | apply Kept.drew) | exact HK.out)⟩, ⟨by repeat (first | (with_reducible first | exact HB.out | apply below_alloc | apply pw_below_drewN | apply below_drew1) | exact HB.out)⟩⟩
  case round =>
    clear H'
    try clear p2
    obtain ⟨x0_1, x1_1, x5_1, rfl, rfl, HA, HK1, HO_0, HK, HB⟩ := hrel
    cases gk with
    | zero => exact absurd HA.out (by simp [laws_markIntS.l0])
    | succ k1 =>
      have H := HA.out
      clear HA
      simp only [laws_markIntS.l0] at H
      by_cases c3 : x5_1 < (x0_1.length : Int)
      · rw [if_pos c3] at H
        have c3b0 : decide (x5_1 < (x0_1.length : Int)) = true := decide_eq_true c3
        clear c3
        by_cases c4 : 0 ≤ x5_1
        · rw [if_pos c4] at H
          have c4b0 : decide (0 ≤ x5_1) = true := decide_eq_true c4
          clear c4
          obtain ⟨y187, hy187⟩ : ∃ y_ : List Int, y_ = (x0_1.set (x5_1 : Int).toNat x1_1) := ⟨_, rfl⟩
          replace H : (laws_markIntS.l0 k1 y187 (wrap64 (x1_1 + 1)) (wrap64 (x5_1 + 1))) = some (r1, r2) := by first | (rw [hy187]; with_reducible exact H) | (have H2_ := (Option.bind_some _ _).symm.trans H; rw [hy187]; with_reducible exact H2_) | (have H2_ := (Option.bind_some _ _).symm.trans H; with_reducible exact H2_) | with_reducible exact H | (rw [hy187]; exact H) | exact H
          have Ny187 := Aside0.mk hy187
          clear hy187
          have H' := Aside0.mk H
          clear H
          obtain ⟨Ao6, co6, eo6⟩ := Kd.R_slice HO_0.out
          subst eo6
          have p5 : 0 ≤ (x5_1 : Int) := of_decide_eq_true (by first | (with_reducible assumption) | assumption)
          have q5 : (x5_1 : Int) < ((x0_1.length : Int) : Int) := of_decide_eq_true (by first | (with_reducible assumption) | assumption)
          obtain ⟨go5, co5, eo5, gb5, gl5, cl5, HG5⟩ := Kd.R_form HO_0.out (by omega)
          (first | cases eo5 | (injection eo5 with ea_ en_ ec_; (first | subst ea_ | (injection ea_ with ea_; subst ea_)); subst ec_; clear en_))
          have GB5 := Aside0.mk gb5
          have GG5 := Aside0.mk HG5
          clear gb5 gl5 HG5
          have HMgo5 := Aside0.mk (show (P0_ go5 ∨ w.heap.size ≤ go5) from (HO_0.out.1 _ rfl))
          obtain ⟨hx5_0, hf5_0⟩ := Kd.R_celln 0 HO_0.out (x5_1 : Int) p5 q5
          replace p5 := eq_true p5
          replace q5 := eq_true q5
          have HP7 := Kd.R_putg HO_0.out (x5_1 : Int) x1_1
          go_wp2_with (first | ((with_reducible refine gate_store (t := 3) (p := 15) rfl ?_); refine store_event (t := 3) (p := 15) (v := ?vo_w8) (w1 := (wr.setCell ⟨go5, (x5_1 : Int).toNat, none⟩ (.int .i64 x1_1))) ?hg ?ho ?hn ?hr ?_; (case ho => rfl); (case hg => rfl); (case hn => rfl); (case hr => first | (go_simp; done) | (go_simp; rfl)); intro w8 hw; have hg : wr.grownBy w8 (some go5) := (by rw [hw]; exact HP7.2); have hp_ : Kd.R (Kd.int .i64) 3 w8 w0.heap.size (fun k_ => (P0_ k_ ∨ w.heap.size ≤ k_)) (.slice (some ⟨go5, 0, none⟩) x0_1.length co6) y187 := (by rw [hw, Ny187.out]; exact HP7.1); clear HP7; have n0_ := Aside0.mk (hp_); have n1_ := Aside0.mk ((by rw [hw]; exact below_set (HB.out) GB5.out : Below w0.heap.size w0 w8)); have n2_ := Aside0.mk (Kept.of_grown (S := (fun k_ => P0_ k_)) hg (by repeat (first | (with_reducible first | exact HK.out | apply Kept.alloc | apply Kept.drewN | apply Kept.drew) | exact HK.out)) (fun k_ e_ => (HO_0.out.1 k_ e_))); clear HO_0; clear HB; clear HK; have HO_0 := n0_; have HB := n1_; have HK := n2_; clear n0_ n1_ n2_; clear hg hw hp_))
          go_roundg k1
          case measure => have := HK1.out; omega
          case rel => exact ⟨(y187), (wrap64 (x1_1 + 1)), (wrap64 (x5_1 + 1)), (by first | rfl | (simp; done) | (simp [*]; done)), (by first | rfl | (simp; done) | (simp [*]; done)), H', ⟨by have := HK1.out; omega⟩, ⟨by (with_reducible repeat (first | apply Kd.R_alloc | apply Kd.R_drewN | apply Kd.R_drew)); exact HO_0.out⟩, ⟨by repeat (first | (with_reducible first | exact HK.out | apply Kept.alloc | apply Kept.drewN | apply Kept.drew) | exact HK.out)⟩, ⟨by repeat (first | (with_reducible first | exact HB.out | apply below_alloc | apply pw_below_drewN | apply below_drew1) | exact HB.out)⟩⟩
        · rw [if_neg c4] at H
          exact absurd H (by simp)
      · rw [if_neg c3] at H
        have c3b0 : decide (x5_1 < (x0_1.length : Int)) = false := decide_eq_false c3
        clear c3
        simp only [Option.some.injEq, Prod.mk.injEq] at H
        obtain ⟨rfl, rfl⟩ := H
        obtain ⟨Ao9, co9, eo9⟩ := Kd.R_slice HO_0.out
        subst eo9
        go_wp2
        go_ret
        exact ⟨by first | rfl | (simp [errW_none, errW_some] <;> rfl) | (simp [*, errW_none, errW_some] <;> rfl), by (with_reducible repeat (first | apply Kd.R_alloc | apply Kd.R_drewN | apply Kd.R_drew)); exact HO_0.out, by repeat (first | (with_reducible first | exact HB.out | apply below_alloc | apply pw_below_drewN | apply below_drew1) | exact HB.out), by repeat (first | (with_reducible first | exact HK.out | apply Kept.alloc | apply Kept.drewN | apply Kept.drew) | exact HK.out)⟩

/-! ### laws_heldIntS: function 10 -/
def laws_heldIntS.l0 : Nat → List Int → Int → Int → Option (Int)
  | 0, _, _, _ => none
  | k + 1, x0, x1, x5 => if x5 < (x0.length : Int) then (if 0 ≤ x5 then (if (rd x0 x5) = x1 then (laws_heldIntS.l0 k x0 (wrap64 (x1 + 1)) (wrap64 (x5 + 1))) else (some (-1))) else (none)) else (some x1)
def laws_heldIntS.f (k : Nat) (l0 : List Int) (a1 : Int) : Option (Int) := laws_heldIntS.l0 k l0 a1 0
theorem laws_heldIntS.mono_l : ∀ k, (∀ y0 y1 y2, LeO (laws_heldIntS.l0 k y0 y1 y2) (laws_heldIntS.l0 (k + 1) y0 y1 y2))
  | 0 => fun _ _ _ r h => by simp [laws_heldIntS.l0] at h
  | k + 1 => by
    have ih0 := laws_heldIntS.mono_l k
    · intro y0 y1 y2
      unfold laws_heldIntS.l0
      repeat' first
      | (with_reducible exact ih0 _ _ _)
      | (with_reducible exact LeO.refl _)
      | (with_reducible exact LeO.none _)
      | (with_reducible refine LeO.ite ?_ ?_)
      | (with_reducible refine LeO.bind ?_ (fun _ => ?_))
      | exact ih0 _ _ _
      | exact LeO.none _
      | refine LeO.ite ?_ ?_
      | refine LeO.bind ?_ (fun _ => ?_)
theorem laws_heldIntS.mono : ∀ a0 a1 k, LeO (laws_heldIntS.f k a0 a1) (laws_heldIntS.f (k + 1) a0 a1) := by
  intro a0 a1 k
  have ih0 := laws_heldIntS.mono_l k
  unfold laws_heldIntS.f
  repeat' first
      | (with_reducible exact ih0 _ _ _)
      | (with_reducible exact LeO.refl _)
      | (with_reducible exact LeO.none _)
      | (with_reducible refine LeO.ite ?_ ?_)
      | (with_reducible refine LeO.bind ?_ (fun _ => ?_))
      | exact ih0 _ _ _
      | exact LeO.none _
      | refine LeO.ite ?_ ?_
      | refine LeO.bind ?_ (fun _ => ?_)
set_option maxHeartbeats 8000000 in
set_option maxRecDepth 100000 in
theorem laws_heldIntS.calls (k : Nat) (A0 : Option Addr) (c0 : Nat) (l0 : List Int) (a1 : Int) (r : Int) (w : World) (hr0 : Kd.C (Kd.int .i64) w A0 l0.length l0) (hc0 : l0.length ≤ c0) (h : laws_heldIntS.f k l0 a1 = some r) :
    Calls Try.prog 10 #[.slice A0 l0.length c0, .int .i64 a1] w fun e w' => e = .returned (.int .i64 r) ∧ Drawn0 w w' := by
  have HR0 := Aside0.mk hr0
  have HC0 := Aside0.mk hc0
  clear hr0 hc0
  have H : (laws_heldIntS.l0 k l0 a1 0) = some r := h
  clear h
  have H' := Aside0.mk H
  clear H
  go_enter Try.func10, Try.ntmps10
  go_wp2
  go_loopg [1, 5] k (fun kq v1 v5 w' => ∃ (x1_1 : Int) (x5_1 : Int), v1 = .int .i64 x1_1 ∧ v5 = .int .i64 x5_1 ∧ Aside0 (laws_heldIntS.l0 kq l0 x1_1 x5_1 = some r) ∧ Aside0 (kq ≤ k) ∧ Drawn0 w w')
  case atStart => exact ⟨(a1), (0), (by first | rfl | (simp; done) | (simp [*]; done)), (by first | rfl | (simp; done) | (simp [*]; done)), H', ⟨Nat.le_refl _⟩, by repeat (first | exact Drawn0.refl _ | apply Drawn0.step)⟩
  case round =>
    clear H'
    try clear c1
    try clear p2
    obtain ⟨x1_1, x5_1, rfl, rfl, HA, HK1, ⟨m1, rfl⟩⟩ := hrel
    cases gk with
    | zero => exact absurd HA.out (by simp [laws_heldIntS.l0])
    | succ k1 =>
      have H := HA.out
      clear HA
      simp only [laws_heldIntS.l0] at H
      by_cases c3 : x5_1 < (l0.length : Int)
      · rw [if_pos c3] at H
        have c3b0 : decide (x5_1 < (l0.length : Int)) = true := decide_eq_true c3
        clear c3
        by_cases c4 : 0 ≤ x5_1
        · rw [if_pos c4] at H
          have c4b0 : decide (0 ≤ x5_1) = true := decide_eq_true c4
          clear c4
          by_cases c5 : (rd l0 x5_1) = x1_1
          · rw [if_pos c5] at H
            have c5b0 : ((rd l0 x5_1) == x1_1) = true := beq_iff_eq.mpr c5
            have c5b1 : ((rd l0 x5_1) != x1_1) = false := bne_eq_false_iff_eq.mpr c5
            clear c5
            have H' := Aside0.mk H
            clear H
            have p188 : 0 ≤ (x5_1 : Int) := of_decide_eq_true (by first | (with_reducible assumption) | assumption)
            have q188 : x5_1 < (l0.length : Int) := of_decide_eq_true (by first | (with_reducible assumption) | assumption)
            obtain ⟨ad188, e188, hx188_0⟩ := Kd.at_int HR0.out x5_1 p188 q188
            cases e188
            replace p188 := eq_true p188
            replace q188 := eq_true q188
            go_wp2
            go_roundg k1
            case measure => have := HK1.out; omega
            case rel => exact ⟨(wrap64 (x1_1 + 1)), (wrap64 (x5_1 + 1)), (by first | rfl | (simp; done) | (simp [*]; done)), (by first | rfl | (simp; done) | (simp [*]; done)), H', ⟨by have := HK1.out; omega⟩, by repeat (first | exact Drawn0.refl _ | apply Drawn0.step)⟩
          · rw [if_neg c5] at H
            have c5b0 : ((rd l0 x5_1) == x1_1) = false := beq_eq_false_iff_ne.mpr c5
            have c5b1 : ((rd l0 x5_1) != x1_1) = true := bne_iff_ne.mpr c5
            obtain rfl := Option.some.inj H
            have p188 : 0 ≤ (x5_1 : Int) := of_decide_eq_true (by first | (with_reducible assumption) | assumption)
            have q188 : x5_1 < (l0.length : Int) := of_decide_eq_true (by first | (with_reducible assumption) | assumption)
            obtain ⟨ad188, e188, hx188_0⟩ := Kd.at_int HR0.out x5_1 p188 q188
            cases e188
            replace p188 := eq_true p188
            replace q188 := eq_true q188
            go_wp2
            go_ret
            exact ⟨by first | rfl | (simp; done) | (simp [*]; done), by repeat (first | exact Drawn0.refl _ | apply Drawn0.step)⟩
        · rw [if_neg c4] at H
          exact absurd H (by simp)
      · rw [if_neg c3] at H
        have c3b0 : decide (x5_1 < (l0.length : Int)) = false := decide_eq_false c3
        clear c3
        obtain rfl := Option.some.inj H
        go_wp2
        go_ret
        exact ⟨by first | rfl | (simp; done) | (simp [*]; done), by repeat (first | exact Drawn0.refl _ | apply Drawn0.step)⟩

end Go.Proofs.Ytpopeedfgenebaa.PFnExactNumbersOf
