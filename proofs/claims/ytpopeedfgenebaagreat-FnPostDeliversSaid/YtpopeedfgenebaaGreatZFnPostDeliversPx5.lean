/- Cut by wip/cut.py out of the texts of this claim (printed by the kit's printer, or this session's own): what the row's theorem does not reach is struck. Not trusted: Lean checks it. -/
import Derived.Test.YtpopeedfgenebaaGreatZFnPostDeliversPx0
import Derived.Test.YtpopeedfgenebaaGreatZFnPostDeliversPx1
import Derived.Test.YtpopeedfgenebaaGreatZFnPostDeliversPx3
import Derived.Test.YtpopeedfgenebaaGreatZFnPostDeliversPx4
namespace Go.Proofs.YtpopeedfgenebaaGreat.PFnPostDelivers
open Go.RowKit Go.Proofs.YtpopeedfgenebaaGreatW.PrintWords Go.Proofs.YtpopeedfgenebaaGreatW.PrintLast Go.Proofs.YtpopeedfgenebaaGreatW.PrintMore
attribute [local go_sem] zq zo zx zw zk zj zp zn
set_option linter.unusedVariables false
set_option linter.unusedSimpArgs false
def impl_routeNumbers.num (k p own plot : Int) : Int := (impl_numberAt.f k p own plot).getD 0
theorem impl_routeNumbers.num_f (k p own plot : Int) : impl_numberAt.f k p own plot = some (impl_routeNumbers.num k p own plot) := by
 unfold impl_routeNumbers.num impl_numberAt.f
 repeat' split
 all_goals rfl
def impl_routeNumbers.lr (own : Int) : Int := if own = 0 then 108 else 114
def impl_routeNumbers.one (k p b plot own : Int) (acc : List Int) : List Int := if b = 98 ∨ b = impl_routeNumbers.lr own then acc ++ [impl_routeNumbers.num k p own plot] else acc
def impl_routeNumbers.side (l : List Int) : Nat → Int
 | 0 => 0
 | j + 1 => rd l (j : Int)
def impl_routeNumbers.acc (k p : Int) (t : ByteArray) (l : List Int) : Nat → List Int
 | 0 => []
 | j + 1 => impl_routeNumbers.one k p (bt t j) j (1 - impl_routeNumbers.side l j) (impl_routeNumbers.one k p (bt t j) j (impl_routeNumbers.side l j) (impl_routeNumbers.acc k p t l j))
def impl_routeNumbers.acc2 (k p : Int) (t : ByteArray) (l : List Int) (j : Nat) : Nat → List Int
 | 0 => impl_routeNumbers.acc k p t l j
 | 1 => impl_routeNumbers.one k p (bt t j) j (impl_routeNumbers.side l j) (impl_routeNumbers.acc k p t l j)
 | _ => impl_routeNumbers.acc k p t l (j + 1)
def impl_routeNumbers.f (a0_0 : Int) (a0_1 : Int) (a1 : ByteArray) (l2 : List Int) : Option (List Int) := if a1.size ≤ 1048576 ∧ l2.length = a1.size ∧ (l2.all fun x => decide (0 ≤ x ∧ x ≤ 1)) = true then some (impl_routeNumbers.acc a0_0 a0_1 a1 l2 a1.size) else none
theorem impl_routeNumbers.one_len (k p b plot own : Int) (acc : List Int) : (impl_routeNumbers.one k p b plot own acc).length ≤ acc.length + 1 := by
 unfold impl_routeNumbers.one
 split
 ·simp
 ·omega
theorem impl_routeNumbers.acc_len (k p : Int) (t : ByteArray) (l : List Int) : ∀ j, (impl_routeNumbers.acc k p t l j).length ≤ 2 * j
 | 0 => Nat.le_refl _
 | j + 1 => by
  have := impl_routeNumbers.acc_len k p t l j
  have h1 := impl_routeNumbers.one_len k p (bt t j) j (impl_routeNumbers.side l j) (impl_routeNumbers.acc k p t l j)
  have h2 := impl_routeNumbers.one_len k p (bt t j) j (1 - impl_routeNumbers.side l j) (impl_routeNumbers.one k p (bt t j) j (impl_routeNumbers.side l j) (impl_routeNumbers.acc k p t l j))
  unfold impl_routeNumbers.acc
  omega
theorem impl_routeNumbers.acc2_len (k p : Int) (t : ByteArray) (l : List Int) (j i : Nat) (hi : i < 2) : (impl_routeNumbers.acc2 k p t l j i).length ≤ 2 * j + 1 := by
 have := impl_routeNumbers.acc_len k p t l j
 rcases (show i = 0 ∨ i = 1 by omega) with rfl | rfl
 ·show (impl_routeNumbers.acc k p t l j).length ≤ _; omega
 ·have h1 := impl_routeNumbers.one_len k p (bt t j) j (impl_routeNumbers.side l j) (impl_routeNumbers.acc k p t l j)
  show (impl_routeNumbers.one k p (bt t j) j (impl_routeNumbers.side l j) (impl_routeNumbers.acc k p t l j)).length ≤ _; omega
theorem impl_routeNumbers.side_01 {l : List Int} (h : (l.all fun x => decide (0 ≤ x ∧ x ≤ 1)) = true) : ∀ j, j ≤ l.length → impl_routeNumbers.side l j = 0 ∨ impl_routeNumbers.side l j = 1
 | 0, _ => .inl rfl
 | j + 1, hj => by
  have hj' : j < l.length := by omega
  have h1 := List.all_eq_true.1 h l[j] (List.getElem_mem hj')
  have h2 : impl_routeNumbers.side l (j + 1) = l[j] := by simp [impl_routeNumbers.side, rd, hj']
  rw [h2]
  simp only [decide_eq_true_eq] at h1
  omega
def impl_routeNumbers.own (l : List Int) (j i : Nat) : Int := if i = 0 then impl_routeNumbers.side l j else 1 - impl_routeNumbers.side l j
theorem impl_routeNumbers.acc2_succ (k p : Int) (t : ByteArray) (l : List Int) (j i : Nat) (hi : i < 2) : impl_routeNumbers.acc2 k p t l j (i + 1) = impl_routeNumbers.one k p (bt t j) j (impl_routeNumbers.own l j i) (impl_routeNumbers.acc2 k p t l j i) := by
 rcases (show i = 0 ∨ i = 1 by omega) with rfl | rfl <;> rfl
theorem impl_routeNumbers.leaf_in {k p : Int} {t : ByteArray} {l : List Int} {j i : Nat} {o : Int} (hi : i < 2) (hs : impl_routeNumbers.own l j i = o) (hb : bt t j = 98 ∨ bt t j = impl_routeNumbers.lr o) : impl_routeNumbers.acc2 k p t l j (i + 1) = impl_routeNumbers.acc2 k p t l j i ++ [impl_routeNumbers.num k p o j] := by
 rw [impl_routeNumbers.acc2_succ k p t l j i hi, hs]
 unfold impl_routeNumbers.one
 rw [if_pos hb]
theorem impl_routeNumbers.leaf_out {k p : Int} {t : ByteArray} {l : List Int} {j i : Nat} {o : Int} (hi : i < 2) (hs : impl_routeNumbers.own l j i = o) (hb : ¬ (bt t j = 98 ∨ bt t j = impl_routeNumbers.lr o)) : impl_routeNumbers.acc2 k p t l j (i + 1) = impl_routeNumbers.acc2 k p t l j i := by
 rw [impl_routeNumbers.acc2_succ k p t l j i hi, hs]
 unfold impl_routeNumbers.one
 rw [if_neg hb]
structure impl_routeNumbers.RW (w wr : World) (k p : Int) (v : Value) (xs : List Int) : Prop where
  box : wr.heap[w.heap.size]? = some (.cells #[.int .i64 k, .int .i64 p] 25 (0, 0))
  row : Kd.R (Kd.int .i64) 3 wr w.heap.size (fun _ => True) v xs
  bel : Below w.heap.size w wr
theorem impl_routeNumbers.RW.below {w wr w1 : World} {k p : Int} {v : Value} {xs : List Int} (h : impl_routeNumbers.RW w wr k p v xs) (hb : Below wr.heap.size wr w1) : impl_routeNumbers.RW w w1 k p v xs :=
 ⟨(hb.block _ (zv h.box)).trans h.box, Kd.jb h.row hb, below_then h.bel h.bel.size hb⟩
theorem impl_routeNumbers.RW.app {w W w1 : World} {k p : Int} {v v1 : Value} {xs ys : List Int} (h : impl_routeNumbers.RW w W k p v xs) (ho : Kd.R (Kd.int .i64) 3 w1 w.heap.size (fun _ => True) v1 ys) (hb : Below w.heap.size w w1) (hg : W.grownBy w1 v.ownBlock) : impl_routeNumbers.RW w w1 k p v1 ys :=
 ⟨blk_grown h.box hg (Kd.R_ne h.row h.box (by decide)), ho, hb⟩
theorem impl_routeNumbers.info3 : (Tryz.prog.info? 3).map (fun i => (i.zero, i.size, i.bytes)) = some (some (.int .i64 0), 1, 8) := by kernel_rfl
set_option maxHeartbeats 4000000 in
set_option maxRecDepth 100000 in
theorem impl_routeNumbers.calls (a0_0 : Int) (a0_1 : Int) (a1 : ByteArray) (A2 : Option Addr) (c2 : Nat) (l2 : List Int) (r : List Int) (w : World) (hr2 : Kd.C (Kd.int .i64) w A2 l2.length l2) (hc2 : l2.length ≤ c2) (h : impl_routeNumbers.f a0_0 a0_1 a1 l2 = some r) :
  Calls Tryz.prog 36 #[.agg #[.int .i64 a0_0, .int .i64 a0_1], .string a1, .slice A2 l2.length c2] w fun e w' => ∃ v0_ : Value, e = .returned (v0_) ∧ Kd.R (Kd.int .i64) 3 w' w.heap.size (fun _ => True) v0_ r ∧ Below w.heap.size w w' := by
 unfold impl_routeNumbers.f at h
 by_cases hs : a1.size ≤ 1048576 ∧ l2.length = a1.size ∧ (l2.all fun x => decide (0 ≤ x ∧ x ≤ 1)) = true
 ·rw [if_pos hs] at h
  have HE := Lib.hid (Option.some.inj h);have HS := Lib.hid hs;have HR := Lib.hid hr2;have hz := hs.1;have hu43 := Tryz.underlying25;have hu80 := Tryz.underlying90;have hrw : impl_routeNumbers.RW w (w.alloc (.cells #[.int .i64 a0_0, .int .i64 a0_1] 25)) a0_0 a0_1 (.slice none 0 0) [] := ⟨blk_new w _, Kd.R_nil _ _ _ _ _, qd (Below.refl _ _) _⟩;have HW := Lib.hid hrw;clear h hs hrw hr2 hc2
  go_enter Tryz.func36, Tryz.ntmps36
  go_wp2_with fail
  generalize (w.alloc (.cells #[.int .i64 a0_0, .int .i64 a0_1] 25)) = W1 at HW ⊢
  go_loopw [15, 7, 8] (fun v v7 v8 wr => ∃ j : Nat, j ≤ a1.size ∧ v = .int .i64 j ∧ v8 = .int .i64 (impl_routeNumbers.side l2 j) ∧ impl_routeNumbers.RW w wr a0_0 a0_1 v7 (impl_routeNumbers.acc a0_0 a0_1 a1 l2 j)) (fun v _ _ _ => a1.size - (intOf v).toNat)
  case atStart => exact ⟨0, (by omega), rfl, rfl, HW.out⟩
  case round =>
   obtain ⟨j, hj, rfl, rfl, hrw⟩ := hrel;clear HW;have HW := Lib.hid hrw;clear hrw
   by_cases hlt : j < a1.size
   ·have hp0 : (0 : Int) ≤ (j : Int) := by omega
    have hp1 : (j : Int) < (a1.size : Int) := by omega
    have hp2 : (j : Int) < (l2.length : Int) := by have := HS.out.2.1; omega
    obtain ⟨ad, ead, _⟩ := Kd.zi (Kd.C_below HR.out HW.out.bel) (j : Int) hp0 hp2;subst ead;have hb := bt_at a1 (j : Int) hlt;have HB := Lib.hid hb;clear hb
    rcases impl_routeNumbers.side_01 HS.out.2.2 j (by have := HS.out.2.1; omega) with hsd | hsd
    ·have HSD := Lib.hid hsd
     have e1 : IntKind.i64.wrap (1 - impl_routeNumbers.side l2 j) = 1 := by rw [hsd]; rfl
     rw [hsd];clear hsd
     go_wp2_with fail
     go_loopw [22, 7] (fun v v7 wr => ∃ i : Nat, i ≤ 2 ∧ v = .int .i64 i ∧ impl_routeNumbers.RW w wr a0_0 a0_1 v7 (impl_routeNumbers.acc2 a0_0 a0_1 a1 l2 j i)) (fun v _ _ => 2 - (intOf v).toNat)
     case atStart => exact ⟨0, (by omega), rfl, HW.out⟩
     case round =>
      obtain ⟨i, hi, rfl, hrw⟩ := hrel;clear HW;have HW := Lib.hid hrw;clear hrw
      rcases (show i = 0 ∨ i = 1 ∨ i = 2 by omega) with rfl | rfl | rfl
      ·clear hi
       have ix : ∀ w, (Instr.index 90 (.agg #[.int .i64 0, .int .i64 1]) (.int .i64 0)).run Tryz.prog w = .ok (.int .i64 0) w := fun _ => by kernel_rfl
       have ix2 : ∀ w, (Instr.index 9 (.string ⟨#[108, 114]⟩) (.int .i64 0)).run Tryz.prog w = .ok (.int .u8 108) w := fun _ => by kernel_rfl
       rw [show (((0 : Nat) : Int)) = 0 from rfl];have hcz0 : wr.cell? ⟨w.heap.size, 0, none⟩ = some (.int .i64 a0_0) := (qk HW.out.box 0).trans rfl;have hcz1 : wr.cell? ⟨w.heap.size, 1, none⟩ = some (.int .i64 a0_1) := (qk HW.out.box 1).trans rfl;have hfz0 := qi HW.out.box 0;have hfz1 := qi HW.out.box 1
       by_cases h98 : ((a1[j]'hlt).toNat : Int) = 98
       ·have d1 : (((a1[j]'hlt).toNat : Int) == 98) = true := beq_iff_eq.mpr h98
        have HBB : bt a1 (j : Int) = 98 ∨ bt a1 (j : Int) = impl_routeNumbers.lr 0 := .inl (HB.out.symm.trans h98);clear h98;have hN := impl_routeNumbers.leaf_in (k := a0_0) (p := a0_1) (t := a1) (l := l2) (j := j) (i := 0) (o := 0) (by decide) ad_ HBB;have HN := Lib.hid hN;have HL := Lib.hid (impl_routeNumbers.acc2_len a0_0 a0_1 a1 l2 j 0 (by decide));clear hN HBB
        exact l6_
       ·have d1 : (((a1[j]'hlt).toNat : Int) == 98) = false := beq_eq_false_iff_ne.mpr h98
        by_cases hL : ((a1[j]'hlt).toNat : Int) = 108
        ·have d2 : (((a1[j]'hlt).toNat : Int) == 108) = true := beq_iff_eq.mpr hL
         have HBB : bt a1 (j : Int) = 98 ∨ bt a1 (j : Int) = impl_routeNumbers.lr 0 := .inr (HB.out.symm.trans hL);clear h98 hL;have hN := impl_routeNumbers.leaf_in (k := a0_0) (p := a0_1) (t := a1) (l := l2) (j := j) (i := 0) (o := 0) (by decide) ad_ HBB;have HN := Lib.hid hN;have HL := Lib.hid (impl_routeNumbers.acc2_len a0_0 a0_1 a1 l2 j 0 (by decide));clear hN HBB
         exact l6_
        ·have d2 : (((a1[j]'hlt).toNat : Int) == 108) = false := beq_eq_false_iff_ne.mpr hL
         have hN := impl_routeNumbers.leaf_out (k := a0_0) (p := a0_1) (t := a1) (l := l2) (j := j) (i := 0) (o := 0) (by decide) ad_ (fun e => e.elim (fun e => h98 ch_) (fun e => hL ch_));have HN := Lib.hid hN;clear hN h98 hL
         exact lY_
      ·clear hi
       have ix : ∀ w, (Instr.index 90 (.agg #[.int .i64 0, .int .i64 1]) (.int .i64 1)).run Tryz.prog w = .ok (.int .i64 1) w := fun _ => by kernel_rfl
       have ix2 : ∀ w, (Instr.index 9 (.string ⟨#[108, 114]⟩) (.int .i64 1)).run Tryz.prog w = .ok (.int .u8 114) w := fun _ => by kernel_rfl
       rw [show (((1 : Nat) : Int)) = 1 from rfl];have hcz0 : wr.cell? ⟨w.heap.size, 0, none⟩ = some (.int .i64 a0_0) := (qk HW.out.box 0).trans rfl;have hcz1 : wr.cell? ⟨w.heap.size, 1, none⟩ = some (.int .i64 a0_1) := (qk HW.out.box 1).trans rfl;have hfz0 := qi HW.out.box 0;have hfz1 := qi HW.out.box 1
       by_cases h98 : ((a1[j]'hlt).toNat : Int) = 98
       ·have d1 : (((a1[j]'hlt).toNat : Int) == 98) = true := beq_iff_eq.mpr h98
        have HBB : bt a1 (j : Int) = 98 ∨ bt a1 (j : Int) = impl_routeNumbers.lr 1 := .inl (HB.out.symm.trans h98);clear h98;have hN := impl_routeNumbers.leaf_in (k := a0_0) (p := a0_1) (t := a1) (l := l2) (j := j) (i := 1) (o := 1) (by decide) ad_ HBB;have HN := Lib.hid hN;have HL := Lib.hid (impl_routeNumbers.acc2_len a0_0 a0_1 a1 l2 j 1 (by decide));clear hN HBB
        exact l3_
       ·have d1 : (((a1[j]'hlt).toNat : Int) == 98) = false := beq_eq_false_iff_ne.mpr h98
        by_cases hL : ((a1[j]'hlt).toNat : Int) = 114
        ·have d2 : (((a1[j]'hlt).toNat : Int) == 114) = true := beq_iff_eq.mpr hL
         have HBB : bt a1 (j : Int) = 98 ∨ bt a1 (j : Int) = impl_routeNumbers.lr 1 := .inr (HB.out.symm.trans hL);clear h98 hL;have hN := impl_routeNumbers.leaf_in (k := a0_0) (p := a0_1) (t := a1) (l := l2) (j := j) (i := 1) (o := 1) (by decide) ad_ HBB;have HN := Lib.hid hN;have HL := Lib.hid (impl_routeNumbers.acc2_len a0_0 a0_1 a1 l2 j 1 (by decide));clear hN HBB
         exact l3_
        ·have d2 : (((a1[j]'hlt).toNat : Int) == 114) = false := beq_eq_false_iff_ne.mpr hL
         have hN := impl_routeNumbers.leaf_out (k := a0_0) (p := a0_1) (t := a1) (l := l2) (j := j) (i := 1) (o := 1) (by decide) ad_ (fun e => e.elim (fun e => h98 ch_) (fun e => hL ch_));have HN := Lib.hid hN;clear hN h98 hL
         exact lX_
      ·exact lB_
    ·have HSD := Lib.hid hsd
     have e1 : IntKind.i64.wrap (1 - impl_routeNumbers.side l2 j) = 0 := by rw [hsd]; rfl
     rw [hsd];clear hsd
     go_wp2_with fail
     go_loopw [22, 7] (fun v v7 wr => ∃ i : Nat, i ≤ 2 ∧ v = .int .i64 i ∧ impl_routeNumbers.RW w wr a0_0 a0_1 v7 (impl_routeNumbers.acc2 a0_0 a0_1 a1 l2 j i)) (fun v _ _ => 2 - (intOf v).toNat)
     case atStart => exact ⟨0, (by omega), rfl, HW.out⟩
     case round =>
      obtain ⟨i, hi, rfl, hrw⟩ := hrel;clear HW;have HW := Lib.hid hrw;clear hrw
      rcases (show i = 0 ∨ i = 1 ∨ i = 2 by omega) with rfl | rfl | rfl
      ·clear hi
       have ix : ∀ w, (Instr.index 90 (.agg #[.int .i64 1, .int .i64 0]) (.int .i64 0)).run Tryz.prog w = .ok (.int .i64 1) w := fun _ => by kernel_rfl
       have ix2 : ∀ w, (Instr.index 9 (.string ⟨#[108, 114]⟩) (.int .i64 1)).run Tryz.prog w = .ok (.int .u8 114) w := fun _ => by kernel_rfl
       rw [show (((0 : Nat) : Int)) = 0 from rfl];have hcz0 : wr.cell? ⟨w.heap.size, 0, none⟩ = some (.int .i64 a0_0) := (qk HW.out.box 0).trans rfl;have hcz1 : wr.cell? ⟨w.heap.size, 1, none⟩ = some (.int .i64 a0_1) := (qk HW.out.box 1).trans rfl;have hfz0 := qi HW.out.box 0;have hfz1 := qi HW.out.box 1
       by_cases h98 : ((a1[j]'hlt).toNat : Int) = 98
       ·have d1 : (((a1[j]'hlt).toNat : Int) == 98) = true := beq_iff_eq.mpr h98
        have HBB : bt a1 (j : Int) = 98 ∨ bt a1 (j : Int) = impl_routeNumbers.lr 1 := .inl (HB.out.symm.trans h98);clear h98;have hN := impl_routeNumbers.leaf_in (k := a0_0) (p := a0_1) (t := a1) (l := l2) (j := j) (i := 0) (o := 1) (by decide) ad_ HBB;have HN := Lib.hid hN;have HL := Lib.hid (impl_routeNumbers.acc2_len a0_0 a0_1 a1 l2 j 0 (by decide));clear hN HBB
        exact l4_
       ·have d1 : (((a1[j]'hlt).toNat : Int) == 98) = false := beq_eq_false_iff_ne.mpr h98
        by_cases hL : ((a1[j]'hlt).toNat : Int) = 114
        ·have d2 : (((a1[j]'hlt).toNat : Int) == 114) = true := beq_iff_eq.mpr hL
         have HBB : bt a1 (j : Int) = 98 ∨ bt a1 (j : Int) = impl_routeNumbers.lr 1 := .inr (HB.out.symm.trans hL);clear h98 hL;have hN := impl_routeNumbers.leaf_in (k := a0_0) (p := a0_1) (t := a1) (l := l2) (j := j) (i := 0) (o := 1) (by decide) ad_ HBB;have HN := Lib.hid hN;have HL := Lib.hid (impl_routeNumbers.acc2_len a0_0 a0_1 a1 l2 j 0 (by decide));clear hN HBB
         exact l4_
        ·have d2 : (((a1[j]'hlt).toNat : Int) == 114) = false := beq_eq_false_iff_ne.mpr hL
         have hN := impl_routeNumbers.leaf_out (k := a0_0) (p := a0_1) (t := a1) (l := l2) (j := j) (i := 0) (o := 1) (by decide) ad_ (fun e => e.elim (fun e => h98 ch_) (fun e => hL ch_));have HN := Lib.hid hN;clear hN h98 hL
         exact lY_
      ·clear hi
       have ix : ∀ w, (Instr.index 90 (.agg #[.int .i64 1, .int .i64 0]) (.int .i64 1)).run Tryz.prog w = .ok (.int .i64 0) w := fun _ => by kernel_rfl
       have ix2 : ∀ w, (Instr.index 9 (.string ⟨#[108, 114]⟩) (.int .i64 0)).run Tryz.prog w = .ok (.int .u8 108) w := fun _ => by kernel_rfl
       rw [show (((1 : Nat) : Int)) = 1 from rfl];have hcz0 : wr.cell? ⟨w.heap.size, 0, none⟩ = some (.int .i64 a0_0) := (qk HW.out.box 0).trans rfl;have hcz1 : wr.cell? ⟨w.heap.size, 1, none⟩ = some (.int .i64 a0_1) := (qk HW.out.box 1).trans rfl;have hfz0 := qi HW.out.box 0;have hfz1 := qi HW.out.box 1
       by_cases h98 : ((a1[j]'hlt).toNat : Int) = 98
       ·have d1 : (((a1[j]'hlt).toNat : Int) == 98) = true := beq_iff_eq.mpr h98
        have HBB : bt a1 (j : Int) = 98 ∨ bt a1 (j : Int) = impl_routeNumbers.lr 0 := .inl (HB.out.symm.trans h98);clear h98;have hN := impl_routeNumbers.leaf_in (k := a0_0) (p := a0_1) (t := a1) (l := l2) (j := j) (i := 1) (o := 0) (by decide) ad_ HBB;have HN := Lib.hid hN;have HL := Lib.hid (impl_routeNumbers.acc2_len a0_0 a0_1 a1 l2 j 1 (by decide));clear hN HBB
        exact l5_
       ·have d1 : (((a1[j]'hlt).toNat : Int) == 98) = false := beq_eq_false_iff_ne.mpr h98
        by_cases hL : ((a1[j]'hlt).toNat : Int) = 108
        ·have d2 : (((a1[j]'hlt).toNat : Int) == 108) = true := beq_iff_eq.mpr hL
         have HBB : bt a1 (j : Int) = 98 ∨ bt a1 (j : Int) = impl_routeNumbers.lr 0 := .inr (HB.out.symm.trans hL);clear h98 hL;have hN := impl_routeNumbers.leaf_in (k := a0_0) (p := a0_1) (t := a1) (l := l2) (j := j) (i := 1) (o := 0) (by decide) ad_ HBB;have HN := Lib.hid hN;have HL := Lib.hid (impl_routeNumbers.acc2_len a0_0 a0_1 a1 l2 j 1 (by decide));clear hN HBB
         exact l5_
        ·have d2 : (((a1[j]'hlt).toNat : Int) == 108) = false := beq_eq_false_iff_ne.mpr hL
         have hN := impl_routeNumbers.leaf_out (k := a0_0) (p := a0_1) (t := a1) (l := l2) (j := j) (i := 1) (o := 0) (by decide) ad_ (fun e => e.elim (fun e => h98 ch_) (fun e => hL ch_));have HN := Lib.hid hN;clear hN h98 hL
         exact lX_
      ·exact lB_
   ·obtain rfl : j = a1.size := by omega
    go_wp2_with fail
    go_ret
    rw [← HE.out]
    exact ⟨_, rfl, HW.out.row, HW.out.bel⟩
 ·rw [if_neg hs] at h
  cases h
def impl_RouteNumbers.j0 : Nat → ByteArray → Int → Bool → Int → Int → Option (List Int × Bool)
 | 0, _, _, _, _, _ => none
 | k + 1, x1, x2, x20, x215000, x215001 => if x20 = true then (some (([] : List Int), false)) else ((impl_bestRoute.f x1 x2).bind fun bt217 => ((impl_routeNumbers.f x215000 x215001 x1 bt217.2.1).bind fun t222 => (some (t222, true))))
def impl_RouteNumbers.f (k : Nat) (a0_0 : Int) (a0_1 : Int) (a1 : ByteArray) (a2 : Int) : Option (List Int × Bool) := (impl_isStreetText.f k a0_0 a0_1 a1).bind fun t215 => (if t215 = true then ((impl_isDelivered.f k a1 a2).bind fun t216 => (impl_RouteNumbers.j0 k a1 a2 (!t216) a0_0 a0_1)) else (impl_RouteNumbers.j0 k a1 a2 true a0_0 a0_1))
theorem impl_RouteNumbers.zd : ∀ k, (∀ y0 y1 y2 y3 y4, LeO (impl_RouteNumbers.j0 k y0 y1 y2 y3 y4) (impl_RouteNumbers.j0 (k + 1) y0 y1 y2 y3 y4))
 | 0 => fun _ _ _ _ _ r h => by simp [impl_RouteNumbers.j0] at h
 | k + 1 => by
  have ih0 := impl_RouteNumbers.zd k
  intro y0 y1 y2 y3 y4
  unfold impl_RouteNumbers.j0
  exact lu_
theorem impl_RouteNumbers.mono : ∀ a0 a1 a2 a3 k, LeO (impl_RouteNumbers.f k a0 a1 a2 a3) (impl_RouteNumbers.f (k + 1) a0 a1 a2 a3) := by
 intro a0 a1 a2 a3 k
 have ih0 := impl_RouteNumbers.zd k
 unfold impl_RouteNumbers.f
 exact lu_
set_option maxHeartbeats 8000000 in
set_option maxRecDepth 100000 in
theorem impl_RouteNumbers.calls (k : Nat) (a0_0 : Int) (a0_1 : Int) (a1 : ByteArray) (a2 : Int) (r1 : List Int) (r2 : Bool) (w : World) (h : impl_RouteNumbers.f k a0_0 a0_1 a1 a2 = some (r1, r2)) :
  Calls Tryz.prog 6 #[.agg #[.int .i64 a0_0, .int .i64 a0_1], .string a1, .int .i64 a2] w fun e w' => ∃ v0_ : Value, e = .returned (.tuple #[v0_, .bool r2]) ∧ Kd.R (Kd.int .i64) 3 w' w.heap.size (fun _ => True) v0_ r1 ∧ Below w.heap.size w w' := by
 have hu25 := Tryz.underlying25;have HB := qb.mk (Below.refl w.heap.size w);have H := h; clear h; unfold impl_RouteNumbers.f at H;have HC4 := qb.mk H;clear H
 go_enter Tryz.func6, Tryz.ntmps6
 go_upto_region 1 with (first | (refine bE_ 3 #[.int .i64 a0_0, .int .i64 a0_1] 25 ?_; intro b2 hg w5 hbox hb; have b0 := qb.mk (hbox); have d0 := qb.mk (av_); have b1 := qb.mk (av_); replace HB := qb.mk ac_; clear hb hbox hg))
 (try simp only [Act.put, sA_, sB_, sC_])
 go_cut [20] (fun v20 wc => ∃ (kq : Nat) (x20_3 : Bool), v20 = .bool x20_3 ∧ qb (impl_RouteNumbers.j0 kq a1 a2 x20_3 a0_0 a0_1 = some (r1, r2)) ∧ qb (kq ≤ k) ∧ qb (wc.heap[b2]? = some (.cells #[.int .i64 a0_0, .int .i64 a0_1] 25 (0, 0))) ∧ qb (Below w.heap.size w wc))
 case first =>
  have H := HC4.out;clear HC4;replace H := bX_ H; obtain ⟨d1, A6, H⟩ := H;replace H := iB_ H; obtain ⟨rfl, H⟩ | ⟨rfl, H⟩ := H
  ·replace H := bX_ H; obtain ⟨b5, A8, H⟩ := H
   have H' := qb.mk H;clear H;have hcz9_0 := cC_ b0 0;have hcz9_1 := cC_ b0 1;have hfz9_0 := qi b0.out 0;have hfz9_1 := qi b0.out 1
   go_wp2_with (first | (refine gL_ 13 Tryz.func33 #[.agg #[.int .i64 a0_0, .int .i64 a0_1], .string a1] ?_; refine (impl_isStreetText.calls k a0_0 a0_1 a1 true _ A6.out).mono ?_; rintro e w10 ⟨rfl, hb⟩; refine ⟨_, rfl, ?_⟩; replace b0 := qb.mk a6_; replace HB := qb.mk b6_; (try clear hb)) | (go_at_call 34; (with_reducible refine (impl_isDelivered.calls k a1 a2 b5 _ A8.out).mono ?_); rintro e w' ⟨rfl, ⟨nd, rfl⟩⟩))
   go_meet
   case rel => exact ⟨_, (!b5), es_, H', ⟨by first | omega | exact Nat.le_refl _⟩, ⟨bk_ b0⟩, ⟨be1_ HB b1⟩⟩
  ·have H' := qb.mk H
   clear H;have hcz11_0 := cC_ b0 0;have hcz11_1 := cC_ b0 1;have hfz11_0 := qi b0.out 0;have hfz11_1 := qi b0.out 1
   go_wp2_with (first | (refine gL_ 13 Tryz.func33 #[.agg #[.int .i64 a0_0, .int .i64 a0_1], .string a1] ?_; refine (impl_isStreetText.calls k a0_0 a0_1 a1 false _ A6.out).mono ?_; rintro e w12 ⟨rfl, hb⟩; refine ⟨_, rfl, ?_⟩; replace b0 := qb.mk a6_; replace HB := qb.mk b6_; (try clear hb)))
   exact lm_
 case rest =>
  clear HC4;(try clear hcz11_0);(try clear hcz11_1);(try clear hcz9_0);(try clear hcz9_1);(try clear hfz11_0);(try clear hfz11_1);(try clear hfz9_0);(try clear hfz9_1);obtain ⟨kq, x20_3, rfl, HA, HJ3, b0, HB⟩ := hcut;cases kq with
  | zero => exact absurd HA.out (by simp [impl_RouteNumbers.j0])
  | succ kj3 =>
   have H := HA.out;clear HA
   simp only [impl_RouteNumbers.j0] at H
   replace H := iB_ H; obtain ⟨rfl, H⟩ | ⟨rfl, H⟩ := H
   ·replace H := iP_ H; obtain ⟨rfl, rfl⟩ := H
    go_wp2
    go_ret2
    exact ⟨_, er_, bt_, be1_ HB b1⟩
   ·replace H := bX_ H; obtain ⟨⟨b7, b4, b8⟩, A14, H⟩ := H; (try dsimp only at H)
    replace H := bX_ H; obtain ⟨b9, A15, H⟩ := H;replace H := iP_ H; obtain ⟨rfl, rfl⟩ := H
    go_wp2_with (first | (refine gL_ 24 Tryz.func35 #[.string a1, .int .i64 a2] ?_; refine (impl_bestRoute.calls a1 a2 b7 b4 b8 _ A14.out).mono ?_; rintro e w16 ⟨v220, rfl, ho0, hb⟩; refine ⟨_, rfl, ?_⟩; have b3 := qb.mk (Kd.R_lower ho0 (qn (be1_ HB b1))); replace b0 := qb.mk a6_; replace HB := qb.mk b6_; (try clear hb ho0); have hcz17_0 := cC_ b0 0; have hcz17_1 := cC_ b0 1; have hfz17_0 := qi b0.out 0; have hfz17_1 := qi b0.out 1; obtain ⟨Ao18, co18, eo18⟩ := Kd.ja b3.out; subst eo18) | (refine gL_ 31 Tryz.func36 #[.agg #[.int .i64 a0_0, .int .i64 a0_1], .string a1, .slice Ao18 b4.length co18] ?_; refine (impl_routeNumbers.calls a0_0 a0_1 a1 _ _ b4 b9 _ (by repeat (first | exact (Kd.ze b3.out).2.2 | (with_reducible refine Kd.zu ?_ _) | (with_reducible refine Kd.zt ?_ _) | (with_reducible refine Kd.zz ?_))) ((Kd.ze b3.out).2.1) A15.out).mono ?_; rintro e w19 ⟨v223, rfl, ho0, hb⟩; refine ⟨_, rfl, ?_⟩; have b6 := qb.mk (Kd.R_lower (Kd.R_new' ho0 (Kd.R_lt (kr_ b3))) (qn (be1_ HB b1))); replace b3 := qb.mk (Kd.R_elder' (kr_ b3) c9_ hb); replace b0 := qb.mk a6_; replace HB := qb.mk b6_; (try clear hb ho0)))
    go_ret2
    exact ⟨_, er_, c7_, be1_ HB b1⟩
def spec_poGood.l0 : Nat → ByteArray → Int → Option (Bool)
 | 0, _, _ => none
 | k + 1, x0, x3 => if x3 < (x0.size : Int) then (if 0 ≤ x3 then (if (bt x0 x3) = 108 then (spec_poGood.l0 k x0 (wrap64 (x3 + 1))) else (if (bt x0 x3) = 114 then (spec_poGood.l0 k x0 (wrap64 (x3 + 1))) else (if (bt x0 x3) = 98 then (spec_poGood.l0 k x0 (wrap64 (x3 + 1))) else (if (bt x0 x3) = 45 then (spec_poGood.l0 k x0 (wrap64 (x3 + 1))) else (some false))))) else (none)) else (some true)
def spec_poGood.f (k : Nat) (a0 : ByteArray) : Option (Bool) := (spec_l1In.f (a0.size : Int) 1 60).bind fun t225 => (if t225 = true then (spec_poGood.l0 k a0 0) else (some false))
theorem spec_poGood.zd : ∀ k, (∀ y0 y1, LeO (spec_poGood.l0 k y0 y1) (spec_poGood.l0 (k + 1) y0 y1))
 | 0 => fun _ _ r h => by simp [spec_poGood.l0] at h
 | k + 1 => by
  have ih0 := spec_poGood.zd k
  intro y0 y1
  unfold spec_poGood.l0
  exact la_
theorem spec_poGood.mono : ∀ a0 k, LeO (spec_poGood.f k a0) (spec_poGood.f (k + 1) a0) := by
 intro a0 k
 have ih0 := spec_poGood.zd k
 unfold spec_poGood.f
 exact la_
set_option maxHeartbeats 8000000 in
set_option maxRecDepth 100000 in
theorem spec_poGood.calls (k : Nat) (a0 : ByteArray) (r : Bool) (w : World) (h : spec_poGood.f k a0 = some r) :
  Calls Tryz.prog 45 #[.string a0] w fun e w' => e = .returned (.bool r) ∧ ql w w' := by
 have H := h; clear h; unfold spec_poGood.f at H;replace H := bX_ H; obtain ⟨b0, A2, H⟩ := H;replace H := iB_ H; obtain ⟨rfl, H⟩ | ⟨rfl, H⟩ := H
 ·have H' := qb.mk H
  clear H
  go_enter Tryz.func45, Tryz.ntmps45
  go_wp2_with (first | (refine gL_ 6 Tryz.func38 #[.int .i64 (a0.size : Int), .int .i64 1, .int .i64 60] ?_; refine (spec_l1In.calls (a0.size : Int) 1 60 true _ A2.out).mono ?_; rintro e w' ⟨rfl, ⟨nd, rfl⟩⟩; refine ⟨_, rfl, ?_⟩))
  go_loopg [3] k (fun kq v3 w' => ∃ (x3_1 : Int), v3 = .int .i64 x3_1 ∧ qb (spec_poGood.l0 kq a0 x3_1 = some r) ∧ qb (kq ≤ k) ∧ ql w w')
  case atStart => exact ⟨(0), es_, H', ⟨Nat.le_refl _⟩, a0_⟩
  case round =>
   clear H';obtain ⟨x3_1, rfl, HA, HK1, ⟨m1, rfl⟩⟩ := hrel;cases gk with
   | zero => exact absurd HA.out (by simp [spec_poGood.l0])
   | succ k1 =>
    have H := HA.out;clear HA
    simp only [spec_poGood.l0] at H
    replace H := iD_ H; obtain ⟨c4b0, H⟩ | ⟨c4b0, H⟩ := H
    ·replace H := iD_ H; obtain ⟨c5b0, H⟩ | ⟨c5b0, H⟩ := H
     ·replace H := iE_ H; obtain ⟨c7b0, c7b1, H⟩ | ⟨c7, c7b0, c7b1, H⟩ := H
      ·have H' := qb.mk H
       clear H;have p6 : 0 ≤ (x3_1 : Int) := od_;have q6 : x3_1 < (a0.size : Int) := od_;have hx6 := bt_at a0 x3_1;replace p6 := eq_true p6;replace q6 := eq_true q6
       go_wp2
       exact lk_
      ·replace H := iE_ H; obtain ⟨c9b0, c9b1, H⟩ | ⟨c9, c9b0, c9b1, H⟩ := H
       ·have H' := qb.mk H
        clear H;have p6 : 0 ≤ (x3_1 : Int) := od_;have q6 : x3_1 < (a0.size : Int) := od_;have hx6 := bt_at a0 x3_1;replace p6 := eq_true p6;replace q6 := eq_true q6;have p8 : 0 ≤ (x3_1 : Int) := od_;have q8 : x3_1 < (a0.size : Int) := od_;have hx8 := bt_at a0 x3_1;replace p8 := eq_true p8;replace q8 := eq_true q8
        go_wp2
        exact lk_
       ·replace H := iE_ H; obtain ⟨c11b0, c11b1, H⟩ | ⟨c11, c11b0, c11b1, H⟩ := H
        ·have H' := qb.mk H
         clear H;have p6 : 0 ≤ (x3_1 : Int) := od_;have q6 : x3_1 < (a0.size : Int) := od_;have hx6 := bt_at a0 x3_1;replace p6 := eq_true p6;replace q6 := eq_true q6;have p8 : 0 ≤ (x3_1 : Int) := od_;have q8 : x3_1 < (a0.size : Int) := od_;have hx8 := bt_at a0 x3_1;replace p8 := eq_true p8;replace q8 := eq_true q8;have p10 : 0 ≤ (x3_1 : Int) := od_;have q10 : x3_1 < (a0.size : Int) := od_;have hx10 := bt_at a0 x3_1;replace p10 := eq_true p10;replace q10 := eq_true q10
         go_wp2
         exact lk_
        ·replace H := iE_ H; obtain ⟨c13b0, c13b1, H⟩ | ⟨c13, c13b0, c13b1, H⟩ := H
         ·have H' := qb.mk H
          clear H;have p6 : 0 ≤ (x3_1 : Int) := od_;have q6 : x3_1 < (a0.size : Int) := od_;have hx6 := bt_at a0 x3_1;replace p6 := eq_true p6;replace q6 := eq_true q6;have p8 : 0 ≤ (x3_1 : Int) := od_;have q8 : x3_1 < (a0.size : Int) := od_;have hx8 := bt_at a0 x3_1;replace p8 := eq_true p8;replace q8 := eq_true q8;have p10 : 0 ≤ (x3_1 : Int) := od_;have q10 : x3_1 < (a0.size : Int) := od_;have hx10 := bt_at a0 x3_1;replace p10 := eq_true p10;replace q10 := eq_true q10;have p12 : 0 ≤ (x3_1 : Int) := od_;have q12 : x3_1 < (a0.size : Int) := od_;have hx12 := bt_at a0 x3_1;replace p12 := eq_true p12;replace q12 := eq_true q12
          go_wp2
          exact lk_
         ·obtain rfl := Option.some.inj H
          have p6 : 0 ≤ (x3_1 : Int) := od_;have q6 : x3_1 < (a0.size : Int) := od_;have hx6 := bt_at a0 x3_1;replace p6 := eq_true p6;replace q6 := eq_true q6;have p8 : 0 ≤ (x3_1 : Int) := od_;have q8 : x3_1 < (a0.size : Int) := od_;have hx8 := bt_at a0 x3_1;replace p8 := eq_true p8;replace q8 := eq_true q8;have p10 : 0 ≤ (x3_1 : Int) := od_;have q10 : x3_1 < (a0.size : Int) := od_;have hx10 := bt_at a0 x3_1;replace p10 := eq_true p10;replace q10 := eq_true q10;have p12 : 0 ≤ (x3_1 : Int) := od_;have q12 : x3_1 < (a0.size : Int) := od_;have hx12 := bt_at a0 x3_1;replace p12 := eq_true p12;replace q12 := eq_true q12
          exact lb_
     ·cases H
    ·exact lT_
 ·obtain rfl := Option.some.inj H
  go_enter Tryz.func45, Tryz.ntmps45
  go_wp2_with (first | (refine gL_ 6 Tryz.func38 #[.int .i64 (a0.size : Int), .int .i64 1, .int .i64 60] ?_; refine (spec_l1In.calls (a0.size : Int) 1 60 false _ A2.out).mono ?_; rintro e w' ⟨rfl, ⟨nd, rfl⟩⟩; refine ⟨_, rfl, ?_⟩))
  go_ret
  exact ⟨es_, a0_⟩
end Go.Proofs.YtpopeedfgenebaaGreat.PFnPostDelivers
